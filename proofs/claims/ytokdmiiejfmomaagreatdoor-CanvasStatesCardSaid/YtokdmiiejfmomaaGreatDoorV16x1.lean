/-
  The law CanvasStates (IsState, States, Rows, Falls and Needs agree with the specification for every book, eye, slope, row and slopes): its tied card holds, for every input, without a condition.
-/
import Derived.Test.YtokdmiiejfmomaaGreatDoorW6
import Derived.SevenTiedAt
section
set_option linter.unusedSimpArgs false
set_option linter.unusedVariables false
namespace Go.Gx
open Go Go.Conc Go.Proofs Go.ChangeShapes Go.RowKit YtokdmiiejfmomaaGreatDoor
set_option maxRecDepth 100000
theorem Shr.ro {W : World} {Hs : Facts} (h : Shr W Hs) : ∀ f ∈ ([.seg 0 0 chkC] ++ Hs : Facts), f.isOwn = false := by
  intro f hf
  rcases List.mem_append.1 hf with hf | hf
  · rw [List.mem_singleton] at hf; subst hf; rfl
  · exact (h f hf).1
section
variable {H : Type} {enc : TypeId × Value → H} {W : World} {sp : Nat → Bool} {held : Bool}

/-- A fraction, a band, a sight, a mark, a list of fractions as an argument. -/
theorem open_ratio {r : Reach} {b0 : Nat} {v : Value} {d : DataW H} {ps : List MemPlace} (hval : Value.okWide Tryz.prog W r b0 29 v) (hd : DataW.Trod enc Tryz.prog W 0 sp held 29 v d ps) :
    ∃ s : R2, v = .agg #[.int .i64 s.1, .int .i64 s.2] := by
  obtain ⟨cs, rfl, hsz⟩ := Go.WideShapes.okWide_struct Tryz.underlying29 hval
  obtain ⟨fuel, hf⟩ := hd
  obtain ⟨l⟩ := cs
  obtain ⟨a, b, e⟩ := two Tryz.underlying29 ⟨rfl, rfl⟩ ⟨rfl, rfl⟩ (by kernel_rfl) (by kernel_rfl) hf
  have e' : l = [.int .i64 a, .int .i64 b] := e
  subst e'
  exact ⟨(a, b), rfl⟩
theorem open_slopes {r : Reach} {b0 : Nat} {v : Value} {d : DataW H} {ps : List MemPlace} (hval : Value.okWide Tryz.prog W r b0 45 v) (hd : DataW.Trod enc Tryz.prog W 0 sp held 45 v d ps) :
    ∃ (a : Option Addr) (ys : List R2) (cap : Nat) (Hs : Facts), v = .slice a ys.length cap ∧ Shr W Hs ∧ Rd Hs a (ys.flatMap c2) := by
  obtain ⟨a0, len, cap, rfl⟩ := Go.WideShapes.okWide_slice Tryz.underlying45 hval
  obtain ⟨fuel, hf⟩ := hd
  obtain ⟨a, ys, cap', Hs, e, h1, h2⟩ := open_sl (c := c2) (sz := 2) (fun _ => rfl) (by decide) Tryz.underlying45 (by kernel_rfl) (fun n cs x h => by
      obtain ⟨a, b, rfl⟩ := two Tryz.underlying29 ⟨rfl, rfl⟩ ⟨rfl, rfl⟩ (by kernel_rfl) (by kernel_rfl) h
      exact ⟨(a, b), rfl⟩) hf
  exact ⟨a, ys, cap', Hs, e, h1, h2⟩
end
end Go.Gx
end

section
set_option linter.unusedSimpArgs false
set_option linter.unusedVariables false
namespace Go.Gx
open Go Go.Conc Go.Proofs

instance : BoI Tryz.prog 4 := ⟨by kernel_rfl⟩
end Go.Gx
end

section
set_option linter.unusedSimpArgs false
set_option linter.unusedVariables false
namespace Go.Gx
open Go Go.Conc Go.Proofs
variable {main : Bool}

/-! ### the reference's piece and point that is met, and that they are the program's -/
def pdR (p q s : R2) : Int := s.2 * (q.2 - p.2) - s.1 * (q.1 - p.1)
def pnR (p : R2) (eye : Int) (s : R2) : Int := eye * s.2 + s.1 * p.1 - s.2 * p.2
def spotR (p q : R2) (n d : Int) : Spot := (low (p.1 * d + (q.1 - p.1) * n) d, low (p.2 * d + (q.2 - p.2) * n) d)
def pieceR (p q : R2) (eye : Int) (s : R2) : Option Spot :=
  if pdR p q s = 0 ∧ pnR p eye s = 0 then some (if p.1 ≤ q.1 then (low p.1 1, low p.2 1) else (low q.1 1, low q.2 1))
  else if pdR p q s < 0 then (if -pnR p eye s < 0 ∨ -pdR p q s < -pnR p eye s then none else some (spotR p q (-pnR p eye s) (-pdR p q s)))
  else if pdR p q s = 0 ∨ pnR p eye s < 0 ∨ pdR p q s < pnR p eye s then none else some (spotR p q (pnR p eye s) (pdR p q s))
def stepR (o x : Option Spot) : Option Spot :=
  match x, o with
  | none, _ => o
  | some x, none => some x
  | some x, some y => if lessW x.1 y.1 then some x else some y
def accR (ps : List R2) (eye : Int) (s : R2) (j : Nat) : Option Spot := ((ps.zip ps.tail).take j).foldl (fun o x => stepR o (pieceR x.1 x.2 eye s)) none
def meetR (ps : List R2) (eye : Int) (s : R2) : Option Spot := (ps.zip ps.tail).foldl (fun o x => stepR o (pieceR x.1 x.2 eye s)) none
theorem low_one (n : Int) : low n 1 = (n, 1) := by
  have := low_mul (e := n) (d := 1) (by decide)
  rwa [Int.mul_one] at this
theorem low_neg {n d : Int} (hd : d ≠ 0) : low (-n) (-d) = low n d := by
  unfold low lowN lowD
  rw [Int.neg_gcd, Int.gcd_neg]
  by_cases h : d < 0
  · rw [if_pos h, if_pos h, if_neg (by omega), if_neg (by omega)]
  · rw [if_neg h, if_neg h, if_pos (by omega), if_pos (by omega), Int.neg_neg, Int.neg_neg]
theorem pn_off (p : R2) (eye : Int) (s : R2) : pnR p eye s = -offL p eye s := by
  unfold pnR offL
  rw [Int.sub_mul, Int.mul_comm s.2 p.2]
  omega
theorem pd_off (p q : R2) (eye : Int) (s : R2) : pdR p q s = offL q eye s - offL p eye s := by
  unfold pdR offL
  rw [Int.sub_mul, Int.sub_mul, Int.mul_sub, Int.mul_sub, Int.mul_comm s.2 p.2, Int.mul_comm s.2 q.2]
  omega
theorem lessW_pt {p : R2} {y : Spot} (hp : PtOk p) (hy : SpotOk y) : lessW (p.1, 1) y.1 = decide (p.1 * y.1.2 < y.1.1) := by
  obtain ⟨f1, f2, _, _⟩ := hy
  unfold PtOk at hp
  have a1 := mul_bd (a := p.1) (b := y.1.2) (A := 60) (B := 3000000) (by omega) (by omega)
  unfold lessW
  dsimp only
  rw [Int.mul_one, wr_in (by omega), wr_in (by omega)]
theorem lessW_pts {p q : R2} (hp : PtOk p) (hq : PtOk q) : lessW (p.1, 1) (q.1, 1) = decide (p.1 < q.1) := by
  unfold PtOk at hp hq
  unfold lessW
  dsimp only
  rw [Int.mul_one, Int.mul_one, wr_in (by omega), wr_in (by omega)]
theorem foldl_cross {p q : R2} {eye : Int} {s : R2} (hp : PtOk p) (hq : PtOk q) (he : EyeOk eye) (hs : SlOk s) (hpq : p.2 < q.2) {o : Option Spot} (ho : ∀ y, o = some y → SpotOk y) :
    (crossM p q eye s).foldl (fun o x => stepR o (some x)) o = stepR o (pieceR p q eye s) := by
  unfold crossM pieceR
  rw [if_neg (by rintro rfl; omega), pd_off p q eye s, pn_off]
  by_cases h0 : offL p eye s = 0 ∧ offL q eye s = 0
  · rw [if_pos h0, if_pos (by omega), low_one, low_one, low_one, low_one]
    simp only [List.foldl_cons, List.foldl_nil]
    cases o with
    | none =>
      simp only [stepR, lessW_pts hq hp]
      by_cases h : p.1 ≤ q.1
      · rw [if_pos h]
        simp [Int.not_lt.2 h]
      · rw [if_neg h]
        simp [Int.not_le.1 h]
    | some y =>
      have hy := ho y rfl
      simp only [stepR, lessW_pt hp hy]
      have y2 : 0 < y.1.2 := by have := hy.f2; omega
      by_cases h1 : p.1 * y.1.2 < y.1.1
      · simp only [h1, decide_true, if_true, lessW_pts hq hp]
        by_cases h : p.1 ≤ q.1
        · rw [if_pos h]
          simp [Int.not_lt.2 h, lessW_pt hp hy, h1]
        · rw [if_neg h]
          have h2 : q.1 * y.1.2 < y.1.1 := Int.lt_trans (Int.mul_lt_mul_of_pos_right (Int.not_le.1 h) y2) h1
          simp [Int.not_le.1 h, lessW_pt hq hy, h2]
      · simp only [h1, decide_false, lessW_pt hq hy]
        by_cases h : p.1 ≤ q.1
        · rw [if_pos h]
          have h2 : ¬ q.1 * y.1.2 < y.1.1 := by
            have := Int.mul_le_mul_of_nonneg_right h (Int.le_of_lt y2)
            omega
          simp [h2, lessW_pt hp hy, lessW_pt hq hy, h1]
        · rw [if_neg h]
          simp [lessW_pt hq hy]
  · have h0' : ¬ (offL q eye s - offL p eye s = 0 ∧ -offL p eye s = 0) := by omega
    rw [if_neg h0, if_neg h0']
    generalize offL p eye s = a at *
    generalize offL q eye s = b at *
    by_cases hd : b - a < 0
    · rw [if_pos hd]
      by_cases hc : a ≤ 0 ∧ 0 ≤ b ∨ 0 ≤ a ∧ b ≤ 0
      · have g : ¬ (- -a < 0 ∨ -(b - a) < - -a) := by omega
        rw [if_pos hc, if_neg g]
        unfold spotR
        rw [show - -a = a by omega, show -(b - a) = a - b by omega]
        rfl
      · have g : - -a < 0 ∨ -(b - a) < - -a := by omega
        rw [if_neg hc, if_pos g]
        rfl
    · rw [if_neg hd]
      by_cases hc : a ≤ 0 ∧ 0 ≤ b ∨ 0 ≤ a ∧ b ≤ 0
      · have g : ¬ (b - a = 0 ∨ -a < 0 ∨ b - a < -a) := by omega
        rw [if_pos hc, if_neg g]
        unfold spotR
        have e1 : a - b = -(b - a) := by omega
        have e2 : ∀ x y : Int, x * (a - b) + y * a = -(x * (b - a) + y * -a) := by
          intro x y
          rw [e1, Int.mul_neg, Int.mul_neg]
          omega
        rw [e2, e2, e1, low_neg (by omega), low_neg (by omega)]
        rfl
      · have g : b - a = 0 ∨ -a < 0 ∨ b - a < -a := by omega
        rw [if_neg hc, if_pos g]
        rfl
theorem spotR_ok {p q : R2} {eye : Int} {s : R2} (hp : PtOk p) (hq : PtOk q) (he : EyeOk eye) (hs : SlOk s) (hpq : p.2 < q.2) : ∀ x, pieceR p q eye s = some x → SpotOk x := by
  intro x hx
  have h := foldl_cross hp hq he hs hpq (o := none) (by simp)
  rw [hx] at h
  have key : ∀ (l : List Spot) (o : Option Spot), (∀ y ∈ l, SpotOk y) → (∀ y, o = some y → SpotOk y) → ∀ y, l.foldl (fun o x => stepR o (some x)) o = some y → SpotOk y := by
    intro l
    induction l with
    | nil => intro o _ ho; exact ho
    | cons a l ih =>
      intro o hl ho
      refine ih _ (fun y hy => hl y (List.mem_cons_of_mem _ hy)) ?_
      intro y hy
      cases o with
      | none => cases hy; exact hl _ (List.mem_cons_self ..)
      | some z =>
        simp only [stepR] at hy
        split at hy
        · cases hy; exact hl _ (List.mem_cons_self ..)
        · cases hy; exact ho _ rfl
  exact key _ none (crossM_ok hp hq he hs) (by simp) x h
theorem stepR_ok {o x : Option Spot} (ho : ∀ y, o = some y → SpotOk y) (hx : ∀ y, x = some y → SpotOk y) : ∀ y, stepR o x = some y → SpotOk y := by
  intro y hy
  cases x with
  | none => exact ho y hy
  | some x =>
    cases o with
    | none => exact hx y hy
    | some z =>
      simp only [stepR] at hy
      split at hy
      · exact hx y hy
      · exact ho y hy
theorem best_fold {l : List Spot} : ∀ (one : Spot), l.foldl (fun o x => stepR o (some x)) (some one) = some (bestM (fun a b => lessW a.1 b.1) one l) := by
  induction l with
  | nil => intro one; rfl
  | cons x l ih =>
    intro one
    rw [List.foldl_cons]
    unfold bestM
    rw [← ih]
    congr 1
    simp only [stepR]
    split <;> rfl
theorem pairs_ok {ps : List R2} (hp : ∀ p ∈ ps, PtOk p) (hpw : ps.Pairwise (fun p q => p.2 < q.2)) : ∀ x ∈ ps.zip ps.tail, PtOk x.1 ∧ PtOk x.2 ∧ x.1.2 < x.2.2 := by
  rintro ⟨p, q⟩ hx
  refine ⟨hp _ (List.of_mem_zip hx).1, hp _ (List.mem_of_mem_tail (List.of_mem_zip hx).2), ?_⟩
  obtain ⟨i, hi, e⟩ := List.getElem_of_mem hx
  simp only [List.getElem_zip, List.getElem_tail, Prod.mk.injEq] at e
  obtain ⟨rfl, rfl⟩ := e
  simp at hi
  exact List.pairwise_iff_getElem.1 hpw i (i + 1) (by omega) (by omega) (by omega)
/-- The reference meets the canvas where the program does. -/
theorem meetR_eq {ps : List R2} {eye : Int} {s : R2} (hp : ∀ p ∈ ps, PtOk p) (hpw : ps.Pairwise (fun p q => p.2 < q.2)) (he : EyeOk eye) (hs : SlOk s) : meetR ps eye s = meetM ps eye s := by
  have hall := pairs_ok hp hpw
  unfold meetR meetM piecesM
  generalize ps.zip ps.tail = l at hall
  have key : ∀ (l : List (R2 × R2)) (o : Option Spot), (∀ x ∈ l, PtOk x.1 ∧ PtOk x.2 ∧ x.1.2 < x.2.2) → (∀ y, o = some y → SpotOk y) →
      l.foldl (fun o x => stepR o (pieceR x.1 x.2 eye s)) o = (l.flatMap fun x => crossM x.1 x.2 eye s).foldl (fun o x => stepR o (some x)) o := by
    intro l
    induction l with
    | nil => intros; rfl
    | cons x l ih =>
      intro o hl ho
      obtain ⟨h1, h2, h3⟩ := hl x (List.mem_cons_self ..)
      rw [List.foldl_cons, List.flatMap_cons, List.foldl_append, foldl_cross h1 h2 he hs h3 ho]
      exact ih _ (fun y hy => hl y (List.mem_cons_of_mem _ hy)) (stepR_ok ho (spotR_ok h1 h2 he hs h3))
  rw [key l none hall (by simp)]
  cases h : (l.flatMap fun x => crossM x.1 x.2 eye s) with
  | nil => rfl
  | cons x r => exact best_fold x
theorem meetR_bk {B : Bk} {eye : Int} {s : R2} (hz : bookBar B = 0) (he : EyeOk eye) (hs : SlOk s) : meetR B.prof eye s = meetM B.prof eye s := meetR_eq (bounds_of_bar hz).2.2.1 (prof_pw hz) he hs
theorem accR_ok {B : Bk} {eye : Int} {s : R2} (hz : bookBar B = 0) (he : EyeOk eye) (hs : SlOk s) (j : Nat) : ∀ y, accR B.prof eye s j = some y → SpotOk y := by
  have hall := pairs_ok (bounds_of_bar hz).2.2.1 (prof_pw hz)
  unfold accR
  have key : ∀ (l : List (R2 × R2)) (o : Option Spot), (∀ x ∈ l, PtOk x.1 ∧ PtOk x.2 ∧ x.1.2 < x.2.2) → (∀ y, o = some y → SpotOk y) →
      ∀ y, l.foldl (fun o x => stepR o (pieceR x.1 x.2 eye s)) o = some y → SpotOk y := by
    intro l
    induction l with
    | nil => intro o _ ho; exact ho
    | cons x l ih =>
      intro o hl ho
      obtain ⟨h1, h2, h3⟩ := hl x (List.mem_cons_self ..)
      exact ih _ (fun y hy => hl y (List.mem_cons_of_mem _ hy)) (stepR_ok ho (spotR_ok h1 h2 he hs h3))
  exact key _ none (fun x hx => hall x (List.mem_of_mem_take hx)) (by simp)
theorem accR_succ {ps : List R2} {eye : Int} {s : R2} {j : Nat} (h : j + 1 < ps.length) : accR ps eye s (j + 1) = stepR (accR ps eye s j) (pieceR ps[j] ps[j + 1] eye s) := by
  unfold accR
  rw [List.take_add_one, List.foldl_append]
  have : (ps.zip ps.tail)[j]? = some (ps[j], ps[j + 1]) := by
    rw [List.getElem?_eq_getElem (by simp; omega), List.getElem_zip, List.getElem_tail]
  rw [this]
  rfl
theorem accR_all {ps : List R2} {eye : Int} {s : R2} {j : Nat} (h : ps.length ≤ j + 1) : accR ps eye s j = meetR ps eye s := by
  unfold accR meetR
  rw [List.take_of_length_le (by simp; omega)]
end Go.Gx
end

section
set_option linter.unusedSimpArgs false
set_option linter.unusedVariables false
namespace Go.Gx
open Go Go.Conc Go.Proofs
variable {main : Bool}

set_option maxRecDepth 100000 in
set_option maxHeartbeats 4000000 in
/-- onPiece (ref02) -/
theorem s155 (L : Lg Tryz.prog main) (H : Facts) {p q : R2} {eye : Int} {s : R2} (hp : PtOk p) (hq : PtOk q) (he : EyeOk eye) (hs : SlOk s) :
    Pure L 155 #[rV p, rV q, .int .i64 eye, rV s] H (.tuple #[rV ((pieceR p q eye s).getD ((0, 0), (0, 0))).1, rV ((pieceR p q eye s).getD ((0, 0), (0, 0))).2, .bool (pieceR p q eye s).isSome]) := by
  refine Spec.enter Tryz.func155 rfl (by simp [Tryz.f155]) fun c cs hc => ?_
  unfold PtOk at hp hq
  unfold EyeOk at he
  unfold SlOk at hs
  have b1 := mul_bd (a := s.2) (b := q.2 - p.2) (A := 10000) (B := 90) (by omega) (by omega)
  have b2 := mul_bd (a := s.1) (b := q.1 - p.1) (A := 10000) (B := 60) (by omega) (by omega)
  have b3 := mul_bd (a := eye) (b := s.2) (A := 90) (B := 10000) (by omega) (by omega)
  have b4 := mul_bd (a := s.1) (b := p.1) (A := 10000) (B := 60) (by omega) (by omega)
  have b5 := mul_bd (a := s.2) (b := p.2) (A := 10000) (B := 90) (by omega) (by omega)
  have hd : (pdR p q s).natAbs ≤ 1500000 := by unfold pdR; omega
  have hn : (pnR p eye s).natAbs ≤ 2400000 := by unfold pnR; omega
  have e1 : s.2 * (q.2 - p.2) - s.1 * (q.1 - p.1) = pdR p q s := rfl
  have e2 : eye * s.2 + s.1 * p.1 - s.2 * p.2 = pnR p eye s := rfl
  have m1 : Mid 1 := by omega
  refine At.seq (At.region ?_); refine At.bx rfl rfl rfl rfl rfl rfl rfl fun r4 => ?_; refine At.bx rfl rfl rfl rfl rfl rfl rfl fun r5 => ?_; refine At.bx rfl rfl rfl rfl rfl rfl rfl fun r7 => ?_; refine At.al rfl rfl rfl rfl rfl fun r8 => ?_; refine At.al rfl rfl rfl rfl rfl fun r9 => ?_; refine At.v rfl rfl rfl rfl rfl trivial ?_; refine At.regionEnd (At.seq ?_); refine At.drawJ hmix [] rfl ?_; refine Pool.fa 0 0 rfl rfl rfl rfl rfl rfl rfl rfl rfl ?_
  refine Pool.ld 3 1 rfl rfl rfl rfl rfl rfl rfl rfl rfl rfl rfl ?_; refine Pool.fa 0 2 rfl rfl rfl rfl rfl rfl rfl rfl rfl ?_; refine Pool.ld 4 3 rfl rfl rfl rfl rfl rfl rfl rfl rfl rfl rfl ?_; refine Pool.v 4 rfl rfl rfl rfl rfl rfl rfl (by omega) ?_; refine Pool.fa 1 5 rfl rfl rfl rfl rfl rfl rfl rfl rfl ?_; refine Pool.ld 3 6 rfl rfl rfl rfl rfl rfl rfl rfl rfl rfl rfl ?_; refine Pool.fa 1 7 rfl rfl rfl rfl rfl rfl rfl rfl rfl ?_; refine Pool.ld 4 8 rfl rfl rfl rfl rfl rfl rfl rfl rfl rfl rfl ?_
  refine Pool.v 9 rfl rfl rfl rfl rfl rfl rfl (by omega) ?_; refine Pool.v 10 rfl rfl rfl rfl rfl rfl rfl trivial ?_; refine Pool.v 11 rfl rfl rfl rfl rfl rfl rfl trivial ?_; refine pool_done rfl rfl ?_; refine At.regionEnd (At.seq (At.region ?_)); refine At.fa 1 rfl rfl rfl rfl rfl rfl rfl ?_; refine At.ld 2 rfl rfl rfl rfl rfl rfl rfl rfl rfl ?_; refine At.v rfl rfl rfl rfl rfl trivial ?_; refine At.v rfl rfl rfl rfl rfl (by omega) ?_; refine At.fa 0 rfl rfl rfl rfl rfl rfl rfl ?_
  refine At.ld 2 rfl rfl rfl rfl rfl rfl rfl rfl rfl ?_; refine At.v rfl rfl rfl rfl rfl trivial ?_; (iterate 2 refine At.v rfl rfl rfl rfl rfl (by omega) ?_); refine At.v rfl rfl rfl rfl rfl trivial ?_; refine At.regionEnd (At.seq (At.region ?_)); refine At.v rfl rfl rfl rfl rfl trivial ?_; refine At.fa 1 rfl rfl rfl rfl rfl rfl rfl ?_; refine At.ld 2 rfl rfl rfl rfl rfl rfl rfl rfl rfl ?_; refine At.v rfl rfl rfl rfl rfl (by omega) ?_; refine At.fa 0 rfl rfl rfl rfl rfl rfl rfl ?_
  refine At.ld 2 rfl rfl rfl rfl rfl rfl rfl rfl rfl ?_; refine At.fa 0 rfl rfl rfl rfl rfl rfl rfl ?_; refine At.ld 4 rfl rfl rfl rfl rfl rfl rfl rfl rfl ?_; (iterate 2 refine At.v rfl rfl rfl rfl rfl (by omega) ?_); refine At.fa 1 rfl rfl rfl rfl rfl rfl rfl ?_; refine At.ld 2 rfl rfl rfl rfl rfl rfl rfl rfl rfl ?_; refine At.fa 1 rfl rfl rfl rfl rfl rfl rfl ?_; refine At.ld 4 rfl rfl rfl rfl rfl rfl rfl rfl rfl ?_; (iterate 2 refine At.v rfl rfl rfl rfl rfl (by omega) ?_)
  refine At.v rfl rfl rfl rfl rfl trivial ?_; refine At.regionEnd (At.seq (At.seq (At.region ?_))); refine At.v rfl rfl rfl rfl rfl trivial ?_; refine At.cp rfl rfl rfl rfl rfl fun b51 h51 => ?_; refine At.v rfl rfl rfl rfl rfl trivial ?_
  rw [e1, e2]
  rw [e1] at h51
  unfold pieceR at hc
  clear e1 e2
  generalize pdR p q s = d at *
  generalize pnR p eye s = n at *
  clear b1 b2 b3 b4 b5
  have c1 := mul_bd (a := p.1) (b := d) (A := 60) (B := 1500000) (by omega) hd
  have c2 := mul_bd (a := p.2) (b := d) (A := 90) (B := 1500000) (by omega) hd
  have c3 := mul_bd (a := q.1 - p.1) (b := n) (A := 60) (B := 2400000) (by omega) hn
  have c4 := mul_bd (a := q.2 - p.2) (b := n) (A := 90) (B := 2400000) (by omega) hn
  cases b51
  · have g0 : ¬ (d = 0 ∧ n = 0) := by simp at h51; omega
    simp only [if_neg g0] at hc
    (iterate 2 refine At.un rfl rfl rfl rfl ?_); refine At.v rfl rfl rfl rfl rfl trivial ?_; refine At.regionEnd ?_; refine At.cond rfl ?_; refine At.skip (At.seq (At.seq (At.region ?_))); refine At.v rfl rfl rfl rfl rfl trivial ?_; refine At.cp rfl rfl rfl rfl rfl fun b74 h74 => ?_; refine At.regionEnd ?_
    cases b74
    · have g1 : ¬ d < 0 := by simpa using h74
      simp only [if_neg g1] at hc
      refine At.cond rfl ?_; refine At.skip (At.seq (At.seq (At.region ?_))); refine At.v rfl rfl rfl rfl rfl trivial ?_; refine At.cp rfl rfl rfl rfl rfl fun b80 h80 => ?_; refine At.v rfl rfl rfl rfl rfl trivial ?_
      cases b80
      · have d1 : d ≠ 0 := by simpa using h80
        refine At.v rfl rfl rfl rfl rfl trivial ?_; refine At.cp rfl rfl rfl rfl rfl fun b83 h83 => ?_; (iterate 2 refine At.v rfl rfl rfl rfl rfl trivial ?_)
        cases b83
        · have n1 : ¬ n < 0 := by simpa using h83
          (iterate 2 refine At.v rfl rfl rfl rfl rfl trivial ?_); refine At.cp rfl rfl rfl rfl rfl fun b88 h88 => ?_; refine At.v rfl rfl rfl rfl rfl trivial ?_; refine At.regionEnd ?_
          cases b88
          · have g2 : ¬ (d = 0 ∨ n < 0 ∨ d < n) := by simp at h88; omega
            simp only [if_neg g2] at hc
            refine At.cond rfl ?_; refine At.skip (At.seq ?_); refine At.drawJ hmix [1, 0] rfl ?_; refine Pool.fa 0 0 rfl rfl rfl rfl rfl rfl rfl rfl rfl ?_; refine Pool.ld 2 1 rfl rfl rfl rfl rfl rfl rfl rfl rfl rfl rfl ?_; refine Pool.v 2 rfl rfl rfl rfl rfl rfl rfl trivial ?_; refine Pool.v 3 rfl rfl rfl rfl rfl rfl rfl (by omega) ?_; refine Pool.v 4 rfl rfl rfl rfl rfl rfl rfl trivial ?_; refine Pool.v 5 rfl rfl rfl rfl rfl rfl rfl trivial ?_; refine Pool.v 6 rfl rfl rfl rfl rfl rfl rfl (by omega) ?_
            refine Pool.v 7 rfl rfl rfl rfl rfl rfl rfl (by omega) ?_; refine Pool.v 8 rfl rfl rfl rfl rfl rfl rfl trivial ?_; refine Pool.cq 9 rfl rfl rfl rfl rfl rfl rfl rfl rfl (fun H hs => s46 L H bs bs bs) ?_; refine Pool.fa 1 10 rfl rfl rfl rfl rfl rfl rfl rfl rfl ?_; refine Pool.ld 2 11 rfl rfl rfl rfl rfl rfl rfl rfl rfl rfl rfl ?_; refine Pool.v 12 rfl rfl rfl rfl rfl rfl rfl trivial ?_; refine Pool.v 13 rfl rfl rfl rfl rfl rfl rfl (by omega) ?_
            refine Pool.v 14 rfl rfl rfl rfl rfl rfl rfl trivial ?_; refine Pool.v 15 rfl rfl rfl rfl rfl rfl rfl trivial ?_; refine Pool.v 16 rfl rfl rfl rfl rfl rfl rfl (by omega) ?_; refine Pool.v 17 rfl rfl rfl rfl rfl rfl rfl (by omega) ?_; refine Pool.v 18 rfl rfl rfl rfl rfl rfl rfl trivial ?_; refine Pool.cq 19 rfl rfl rfl rfl rfl rfl rfl rfl rfl (fun H hs => s46 L H bs bs bs) ?_; refine Pool.st 1 20 rfl rfl rfl rfl rfl rfl rfl rfl rfl rfl rfl rfl rfl rfl rfl rfl rfl rfl sb ?_
            refine Pool.st 0 21 rfl rfl rfl rfl rfl rfl rfl rfl rfl rfl rfl rfl rfl rfl rfl rfl rfl rfl sb ?_; refine Pool.v 22 rfl rfl rfl rfl rfl rfl rfl trivial ?_; refine pool_done rfl rfl ?_; refine At.regionEnd ?_
            exact At.ret Tryz.func155 (.inr ⟨_, rfl⟩) rfl (.aggJ 1 rfl rfl rfl (.aggJ 0 rfl rfl rfl (.tmp rfl .nil))) (wk (hc _ _ (⟨by rfl, rfl⟩)))
          · have g2 : (d = 0 ∨ n < 0 ∨ d < n) := by simp at h88; omega
            simp only [if_pos g2] at hc
            refine At.cond rfl ?_; refine At.seq (At.region ?_); (iterate 2 refine At.q rfl rfl rfl rfl (q_build rfl rfl rfl) ?_); refine At.st 1 rfl rfl rfl rfl rfl rfl rfl rfl rfl rfl rfl rfl ?_; refine At.st 0 rfl rfl rfl rfl rfl rfl rfl rfl rfl rfl rfl rfl ?_; refine At.v rfl rfl rfl rfl rfl trivial ?_; refine At.regionEnd ?_
            exact At.ret Tryz.func155 (.inr ⟨_, rfl⟩) rfl (.aggJ 1 rfl rfl rfl (.aggJ 0 rfl rfl rfl (.tmp rfl .nil))) (wk (hc _ _ (⟨by rfl, rfl⟩)))
        · have g2 : (d = 0 ∨ n < 0 ∨ d < n) := by simp at h83; omega
          simp only [if_pos g2] at hc
          (iterate 3 refine At.un rfl rfl rfl rfl ?_); refine At.v rfl rfl rfl rfl rfl trivial ?_; refine At.regionEnd ?_; refine At.cond rfl ?_; refine At.seq (At.region ?_); (iterate 2 refine At.q rfl rfl rfl rfl (q_build rfl rfl rfl) ?_); refine At.st 1 rfl rfl rfl rfl rfl rfl rfl rfl rfl rfl rfl rfl ?_; refine At.st 0 rfl rfl rfl rfl rfl rfl rfl rfl rfl rfl rfl rfl ?_; refine At.v rfl rfl rfl rfl rfl trivial ?_; refine At.regionEnd ?_
          exact At.ret Tryz.func155 (.inr ⟨_, rfl⟩) rfl (.aggJ 1 rfl rfl rfl (.aggJ 0 rfl rfl rfl (.tmp rfl .nil))) (wk (hc _ _ (⟨by rfl, rfl⟩)))
      · have d1 : d = 0 := by simpa using h80
        have g2 : (d = 0 ∨ n < 0 ∨ d < n) := .inl d1
        simp only [if_pos g2] at hc
        (iterate 2 refine At.un rfl rfl rfl rfl ?_); (iterate 2 refine At.v rfl rfl rfl rfl rfl trivial ?_); (iterate 3 refine At.un rfl rfl rfl rfl ?_); refine At.v rfl rfl rfl rfl rfl trivial ?_; refine At.regionEnd ?_; refine At.cond rfl ?_; refine At.seq (At.region ?_); (iterate 2 refine At.q rfl rfl rfl rfl (q_build rfl rfl rfl) ?_); refine At.st 1 rfl rfl rfl rfl rfl rfl rfl rfl rfl rfl rfl rfl ?_; refine At.st 0 rfl rfl rfl rfl rfl rfl rfl rfl rfl rfl rfl rfl ?_
        refine At.v rfl rfl rfl rfl rfl trivial ?_; refine At.regionEnd ?_
        exact At.ret Tryz.func155 (.inr ⟨_, rfl⟩) rfl (.aggJ 1 rfl rfl rfl (.aggJ 0 rfl rfl rfl (.tmp rfl .nil))) (wk (hc _ _ (⟨by rfl, rfl⟩)))
    · have g1 : d < 0 := by simpa using h74
      simp only [if_pos g1] at hc
      have c5 : (p.1 * -d).natAbs ≤ 60 * 1500000 := by rw [Int.mul_neg, Int.natAbs_neg]; exact c1
      have c6 : (p.2 * -d).natAbs ≤ 90 * 1500000 := by rw [Int.mul_neg, Int.natAbs_neg]; exact c2
      have c7 : ((q.1 - p.1) * -n).natAbs ≤ 60 * 2400000 := by rw [Int.mul_neg, Int.natAbs_neg]; exact c3
      have c8 : ((q.2 - p.2) * -n).natAbs ≤ 90 * 2400000 := by rw [Int.mul_neg, Int.natAbs_neg]; exact c4
      refine At.cond rfl ?_; refine At.region ?_; refine At.v rfl rfl rfl rfl rfl trivial ?_; refine At.v rfl rfl rfl rfl rfl (by omega) ?_; refine At.v rfl rfl rfl rfl rfl trivial ?_; refine At.v rfl rfl rfl rfl rfl (by omega) ?_; (iterate 2 refine At.v rfl rfl rfl rfl rfl trivial ?_); refine At.regionEnd (At.seq (At.seq (At.region ?_))); refine At.v rfl rfl rfl rfl rfl trivial ?_; refine At.cp rfl rfl rfl rfl rfl fun b80 h80 => ?_; refine At.v rfl rfl rfl rfl rfl trivial ?_
      cases b80
      · have d1 : -d ≠ 0 := by simpa using h80
        refine At.v rfl rfl rfl rfl rfl trivial ?_; refine At.cp rfl rfl rfl rfl rfl fun b83 h83 => ?_; (iterate 2 refine At.v rfl rfl rfl rfl rfl trivial ?_)
        cases b83
        · have n1 : ¬ -n < 0 := by simpa using h83
          (iterate 2 refine At.v rfl rfl rfl rfl rfl trivial ?_); refine At.cp rfl rfl rfl rfl rfl fun b88 h88 => ?_; refine At.v rfl rfl rfl rfl rfl trivial ?_; refine At.regionEnd ?_
          cases b88
          · have g2 : ¬ (-n < 0 ∨ -d < -n) := by simp at h88; omega
            simp only [if_neg g2] at hc
            refine At.cond rfl ?_; refine At.skip (At.seq ?_); refine At.drawJ hmix [1, 0] rfl ?_; refine Pool.fa 0 0 rfl rfl rfl rfl rfl rfl rfl rfl rfl ?_; refine Pool.ld 2 1 rfl rfl rfl rfl rfl rfl rfl rfl rfl rfl rfl ?_; refine Pool.v 2 rfl rfl rfl rfl rfl rfl rfl trivial ?_; refine Pool.v 3 rfl rfl rfl rfl rfl rfl rfl (by omega) ?_; refine Pool.v 4 rfl rfl rfl rfl rfl rfl rfl trivial ?_; refine Pool.v 5 rfl rfl rfl rfl rfl rfl rfl trivial ?_; refine Pool.v 6 rfl rfl rfl rfl rfl rfl rfl (by omega) ?_
            refine Pool.v 7 rfl rfl rfl rfl rfl rfl rfl (by omega) ?_; refine Pool.v 8 rfl rfl rfl rfl rfl rfl rfl trivial ?_; refine Pool.cq 9 rfl rfl rfl rfl rfl rfl rfl rfl rfl (fun H hs => s46 L H bs bs bs) ?_; refine Pool.fa 1 10 rfl rfl rfl rfl rfl rfl rfl rfl rfl ?_; refine Pool.ld 2 11 rfl rfl rfl rfl rfl rfl rfl rfl rfl rfl rfl ?_; refine Pool.v 12 rfl rfl rfl rfl rfl rfl rfl trivial ?_; refine Pool.v 13 rfl rfl rfl rfl rfl rfl rfl (by omega) ?_
            refine Pool.v 14 rfl rfl rfl rfl rfl rfl rfl trivial ?_; refine Pool.v 15 rfl rfl rfl rfl rfl rfl rfl trivial ?_; refine Pool.v 16 rfl rfl rfl rfl rfl rfl rfl (by omega) ?_; refine Pool.v 17 rfl rfl rfl rfl rfl rfl rfl (by omega) ?_; refine Pool.v 18 rfl rfl rfl rfl rfl rfl rfl trivial ?_; refine Pool.cq 19 rfl rfl rfl rfl rfl rfl rfl rfl rfl (fun H hs => s46 L H bs bs bs) ?_; refine Pool.st 1 20 rfl rfl rfl rfl rfl rfl rfl rfl rfl rfl rfl rfl rfl rfl rfl rfl rfl rfl sb ?_
            refine Pool.st 0 21 rfl rfl rfl rfl rfl rfl rfl rfl rfl rfl rfl rfl rfl rfl rfl rfl rfl rfl sb ?_; refine Pool.v 22 rfl rfl rfl rfl rfl rfl rfl trivial ?_; refine pool_done rfl rfl ?_; refine At.regionEnd ?_
            exact At.ret Tryz.func155 (.inr ⟨_, rfl⟩) rfl (.aggJ 1 rfl rfl rfl (.aggJ 0 rfl rfl rfl (.tmp rfl .nil))) (wk (hc _ _ (⟨by rfl, rfl⟩)))
          · have g2 : (-n < 0 ∨ -d < -n) := by simp at h88; omega
            simp only [if_pos g2] at hc
            refine At.cond rfl ?_; refine At.seq (At.region ?_); (iterate 2 refine At.q rfl rfl rfl rfl (q_build rfl rfl rfl) ?_); refine At.st 1 rfl rfl rfl rfl rfl rfl rfl rfl rfl rfl rfl rfl ?_; refine At.st 0 rfl rfl rfl rfl rfl rfl rfl rfl rfl rfl rfl rfl ?_; refine At.v rfl rfl rfl rfl rfl trivial ?_; refine At.regionEnd ?_
            exact At.ret Tryz.func155 (.inr ⟨_, rfl⟩) rfl (.aggJ 1 rfl rfl rfl (.aggJ 0 rfl rfl rfl (.tmp rfl .nil))) (wk (hc _ _ (⟨by rfl, rfl⟩)))
        · have g2 : (-n < 0 ∨ -d < -n) := by simp at h83; omega
          simp only [if_pos g2] at hc
          (iterate 3 refine At.un rfl rfl rfl rfl ?_); refine At.v rfl rfl rfl rfl rfl trivial ?_; refine At.regionEnd ?_; refine At.cond rfl ?_; refine At.seq (At.region ?_); (iterate 2 refine At.q rfl rfl rfl rfl (q_build rfl rfl rfl) ?_); refine At.st 1 rfl rfl rfl rfl rfl rfl rfl rfl rfl rfl rfl rfl ?_; refine At.st 0 rfl rfl rfl rfl rfl rfl rfl rfl rfl rfl rfl rfl ?_; refine At.v rfl rfl rfl rfl rfl trivial ?_; refine At.regionEnd ?_
          exact At.ret Tryz.func155 (.inr ⟨_, rfl⟩) rfl (.aggJ 1 rfl rfl rfl (.aggJ 0 rfl rfl rfl (.tmp rfl .nil))) (wk (hc _ _ (⟨by rfl, rfl⟩)))
      · have d1 : -d = 0 := by simpa using h80
        omega
  · have d1 : d = 0 := by simpa using h51
    refine At.v rfl rfl rfl rfl rfl trivial ?_; refine At.cp rfl rfl rfl rfl rfl fun b54 h54 => ?_; refine At.v rfl rfl rfl rfl rfl trivial ?_; refine At.regionEnd ?_
    cases b54
    · have n1 : n ≠ 0 := by simpa using h54
      have g0 : ¬ (d = 0 ∧ n = 0) := by omega
      have g1 : ¬ d < 0 := by omega
      have g2 : d = 0 ∨ n < 0 ∨ d < n := by omega
      simp only [if_neg g0, if_neg g1, if_pos g2] at hc
      refine At.cond rfl ?_; refine At.skip (At.seq (At.seq (At.region ?_))); refine At.v rfl rfl rfl rfl rfl trivial ?_; refine At.cp rfl rfl rfl rfl rfl fun b74 h74 => ?_; refine At.regionEnd ?_
      have e74 : b74 = false := by rw [← h74]; simp; omega
      subst e74
      refine At.cond rfl ?_; refine At.skip (At.seq (At.seq (At.region ?_))); refine At.v rfl rfl rfl rfl rfl trivial ?_; refine At.cp rfl rfl rfl rfl rfl fun b80 h80 => ?_; refine At.v rfl rfl rfl rfl rfl trivial ?_
      have e80 : b80 = true := by rw [← h80]; simp; omega
      subst e80
      (iterate 2 refine At.un rfl rfl rfl rfl ?_); (iterate 2 refine At.v rfl rfl rfl rfl rfl trivial ?_); (iterate 3 refine At.un rfl rfl rfl rfl ?_); refine At.v rfl rfl rfl rfl rfl trivial ?_; refine At.regionEnd ?_; refine At.cond rfl ?_; refine At.seq (At.region ?_); (iterate 2 refine At.q rfl rfl rfl rfl (q_build rfl rfl rfl) ?_); refine At.st 1 rfl rfl rfl rfl rfl rfl rfl rfl rfl rfl rfl rfl ?_; refine At.st 0 rfl rfl rfl rfl rfl rfl rfl rfl rfl rfl rfl rfl ?_
      refine At.v rfl rfl rfl rfl rfl trivial ?_; refine At.regionEnd ?_
      exact At.ret Tryz.func155 (.inr ⟨_, rfl⟩) rfl (.aggJ 1 rfl rfl rfl (.aggJ 0 rfl rfl rfl (.tmp rfl .nil))) (wk (hc _ _ (⟨by rfl, rfl⟩)))
    · have g0 : d = 0 ∧ n = 0 := ⟨d1, by simpa using h54⟩
      simp only [if_pos g0] at hc
      refine At.cond rfl ?_; refine At.seq (At.seq (At.region ?_)); refine At.fa 0 rfl rfl rfl rfl rfl rfl rfl ?_; refine At.ld 4 rfl rfl rfl rfl rfl rfl rfl rfl rfl ?_; refine At.fa 0 rfl rfl rfl rfl rfl rfl rfl ?_; refine At.ld 3 rfl rfl rfl rfl rfl rfl rfl rfl rfl ?_; refine At.cp rfl rfl rfl rfl rfl fun b60 h60 => ?_; refine At.regionEnd ?_
      cases b60
      · have g1 : ¬ p.1 ≤ q.1 := by simpa using h60
        simp only [if_neg g1] at hc
        refine At.cond rfl ?_; refine At.skip (At.seq ?_); refine At.drawJ hmix [1, 0] rfl ?_; refine Pool.fa 0 0 rfl rfl rfl rfl rfl rfl rfl rfl rfl ?_; refine Pool.ld 1 1 rfl rfl rfl rfl rfl rfl rfl rfl rfl rfl rfl ?_; refine Pool.cq 2 rfl rfl rfl rfl rfl rfl rfl rfl rfl (fun H hs => s46 L H bs bs bs) ?_; refine Pool.fa 1 3 rfl rfl rfl rfl rfl rfl rfl rfl rfl ?_; refine Pool.ld 1 4 rfl rfl rfl rfl rfl rfl rfl rfl rfl rfl rfl ?_
        refine Pool.cq 5 rfl rfl rfl rfl rfl rfl rfl rfl rfl (fun H hs => s46 L H bs bs bs) ?_; refine Pool.st 1 6 rfl rfl rfl rfl rfl rfl rfl rfl rfl rfl rfl rfl rfl rfl rfl rfl rfl rfl sb ?_; refine Pool.st 0 7 rfl rfl rfl rfl rfl rfl rfl rfl rfl rfl rfl rfl rfl rfl rfl rfl rfl rfl sb ?_; refine Pool.v 8 rfl rfl rfl rfl rfl rfl rfl trivial ?_; refine pool_done rfl rfl ?_; refine At.regionEnd ?_
        exact At.ret Tryz.func155 (.inr ⟨_, rfl⟩) rfl (.aggJ 1 rfl rfl rfl (.aggJ 0 rfl rfl rfl (.tmp rfl .nil))) (wk (hc _ _ (⟨by rfl, rfl⟩)))
      · have g1 : p.1 ≤ q.1 := by simpa using h60
        simp only [if_pos g1] at hc
        refine At.cond rfl ?_; refine At.seq ?_; refine At.drawJ hmix [1, 0] rfl ?_; refine Pool.fa 0 0 rfl rfl rfl rfl rfl rfl rfl rfl rfl ?_; refine Pool.ld 2 1 rfl rfl rfl rfl rfl rfl rfl rfl rfl rfl rfl ?_; refine Pool.cq 2 rfl rfl rfl rfl rfl rfl rfl rfl rfl (fun H hs => s46 L H bs bs bs) ?_; refine Pool.fa 1 3 rfl rfl rfl rfl rfl rfl rfl rfl rfl ?_; refine Pool.ld 2 4 rfl rfl rfl rfl rfl rfl rfl rfl rfl rfl rfl ?_
        refine Pool.cq 5 rfl rfl rfl rfl rfl rfl rfl rfl rfl (fun H hs => s46 L H bs bs bs) ?_; refine Pool.st 1 6 rfl rfl rfl rfl rfl rfl rfl rfl rfl rfl rfl rfl rfl rfl rfl rfl rfl rfl sb ?_; refine Pool.st 0 7 rfl rfl rfl rfl rfl rfl rfl rfl rfl rfl rfl rfl rfl rfl rfl rfl rfl rfl sb ?_; refine Pool.v 8 rfl rfl rfl rfl rfl rfl rfl trivial ?_; refine pool_done rfl rfl ?_; refine At.regionEnd ?_
        exact At.ret Tryz.func155 (.inr ⟨_, rfl⟩) rfl (.aggJ 1 rfl rfl rfl (.aggJ 0 rfl rfl rfl (.tmp rfl .nil))) (wk (hc _ _ (⟨by rfl, rfl⟩)))
end Go.Gx
end

section
set_option linter.unusedSimpArgs false
set_option linter.unusedVariables false
namespace Go.Gx
open Go Go.Conc Go.Proofs
variable {main : Bool}

set_option maxRecDepth 100000 in
set_option maxHeartbeats 4000000 in
/-- MeetOf (ref02) -/
theorem s95 (L : Lg Tryz.prog main) (H : Facts) {B : Bk} {A : BkA} {eye : Int} {s : R2} (hB : BkR H B A) (hz : bookBar B = 0) (he : EyeOk eye) (hs : SlOk s) :
    Pure L 95 #[bkV B A, .int .i64 eye, rV s] H (.tuple #[rV ((meetM B.prof eye s).getD ((0, 0), (0, 0))).1, rV ((meetM B.prof eye s).getD ((0, 0), (0, 0))).2, .bool (meetM B.prof eye s).isSome]) := by
  refine Spec.enter Tryz.func95 rfl (by simp [Tryz.f95]) fun c cs hc => ?_
  rw [← meetR_bk hz he hs] at hc
  have hok := accR_ok (s := s) hz he hs
  have hpt := (bounds_of_bar hz).2.2.1
  have hl5 := (bounds_of_bar hz).2.1
  have hl2 := (bounds_of_bar hz).1
  have hrp := hB.p
  obtain ⟨prof, size, lo, hi, marks⟩ := B
  obtain ⟨pa, pc, ma, mc⟩ := A
  simp only at hrp hpt hl5 hl2 hc hok
  refine At.seq (At.region ?_); refine At.bx rfl rfl rfl rfl rfl rfl rfl fun r3 => ?_; refine At.bx rfl rfl rfl rfl rfl rfl rfl fun r5 => ?_; refine At.al rfl rfl rfl rfl rfl fun r6 => ?_; refine At.al rfl rfl rfl rfl rfl fun r7 => ?_; refine At.v rfl rfl rfl rfl rfl trivial ?_; refine At.regionEnd (At.seq (At.region ?_)); refine At.al rfl rfl rfl rfl rfl fun r9 => ?_; refine At.al rfl rfl rfl rfl rfl fun r10 => ?_; refine At.regionEnd (At.seq (At.region ?_))
  refine At.v rfl rfl rfl rfl rfl trivial ?_; refine At.regionEnd (At.seq (At.seq (At.region ?_))); refine At.v rfl rfl rfl rfl rfl trivial ?_; refine At.regionEnd ?_; refine At.block ?_
  refine At.lpk (X := { j : Nat // j ≤ prof.length - 1 }) [1, 3, 5, 6, 7, 8, 9, 10] (fun x => [(12, .int .i64 (x.1 : Int)), (11, .bool (accR prof eye s x.1).isSome)]) (fun x => .own r10 (.cells (List.toArray (c2 ((accR prof eye s x.1).getD ((0, 0), (0, 0))).2)) 29 (0, 0)) :: .own r9 (.cells (List.toArray (c2 ((accR prof eye s x.1).getD ((0, 0), (0, 0))).1)) 29 (0, 0)) :: .own r7 (.cells #[.int .i64 0, .int .i64 0] 29 (0, 0)) :: .own r6 (.cells #[.int .i64 0, .int .i64 0] 29 (0, 0)) :: .own r5 (.cells (List.toArray (c2 s)) 29 (0, 0)) :: .own r3 (.cells (List.toArray (bkC ⟨prof, size, lo, hi, marks⟩ ⟨pa, pc, ma, mc⟩)) 27 (0, 0)) :: H) (fun x => prof.length - 1 - x.1) (⟨0, Nat.zero_le _⟩) rfl ?_ (by repeat (first | exact trivial | refine ⟨rfl, ?_⟩)) sb
  rintro ⟨j, hj⟩ again
  simp only at again ⊢
  refine At.seq (At.seq (At.region ?_)); refine At.v rfl rfl rfl rfl rfl trivial ?_; refine At.v rfl rfl rfl rfl rfl (by omega) ?_; refine At.fa 0 rfl rfl rfl rfl rfl rfl rfl ?_; refine At.ld 5 rfl rfl rfl rfl rfl rfl rfl rfl rfl ?_; refine At.ln rfl rfl rfl rfl rfl rfl rfl rfl ?_; refine At.cp rfl rfl rfl rfl rfl fun b21 h21 => ?_; refine At.regionEnd ?_
  cases b21
  · have e : j = prof.length - 1 := by simp at h21; omega
    subst e
    rw [accR_all (by omega)]
    refine At.cond rfl ?_; refine At.exit rfl ?_; refine At.seq ?_; refine At.drawJ hmix [3, 2] rfl ?_; refine Pool.ld 1 0 rfl rfl rfl rfl rfl rfl rfl rfl rfl rfl rfl ?_; refine Pool.ld 0 1 rfl rfl rfl rfl rfl rfl rfl rfl rfl rfl rfl ?_; refine Pool.v 2 rfl rfl rfl rfl rfl rfl rfl trivial ?_; refine Pool.st 3 3 rfl rfl rfl rfl rfl rfl rfl rfl rfl rfl rfl rfl rfl rfl rfl rfl rfl rfl sb ?_; refine Pool.st 2 4 rfl rfl rfl rfl rfl rfl rfl rfl rfl rfl rfl rfl rfl rfl rfl rfl rfl rfl sb ?_
    refine Pool.v 5 rfl rfl rfl rfl rfl rfl rfl trivial ?_; refine pool_done rfl rfl ?_; refine At.regionEnd ?_
    exact At.ret Tryz.func95 (.inr ⟨_, rfl⟩) rfl (.aggJ 3 rfl rfl rfl (.aggJ 2 rfl rfl rfl (.tmp rfl .nil))) (wk (hc _ _ (⟨by rfl, rfl⟩)))
  · have hlt : j + 1 < prof.length := by simp at h21; omega
    have hlt' : j < prof.length := by omega
    obtain ⟨b, off, rfl, hc0⟩ := hrp.el (List.getElem?_eq_getElem hlt')
    obtain ⟨b', off', e', hc1⟩ := hrp.el (List.getElem?_eq_getElem hlt)
    cases e'
    have p0 := hpt _ (List.getElem_mem hlt')
    have p1 := hpt _ (List.getElem_mem hlt)
    have hsc := accR_succ (eye := eye) (s := s) hlt
    refine At.cond rfl ?_; refine At.skip (At.seq ?_); refine At.block ?_; refine At.seq ?_; refine At.drawJ hmix [] rfl ?_; refine Pool.fa 0 0 rfl rfl rfl rfl rfl rfl rfl rfl rfl ?_; refine Pool.ld 5 1 rfl rfl rfl rfl rfl rfl rfl rfl rfl rfl rfl ?_; refine Pool.v 2 rfl rfl rfl rfl rfl rfl rfl trivial ?_; refine Pool.q 3 rfl rfl rfl rfl rfl (q_ia rfl rfl rfl (by assumption)) rfl ?_; refine Pool.ldc 4 rfl rfl rfl rfl rfl rfl rfl hc0.a rfl rfl rfl ?_
    refine Pool.fa 0 5 rfl rfl rfl rfl rfl rfl rfl rfl rfl ?_; refine Pool.ld 5 6 rfl rfl rfl rfl rfl rfl rfl rfl rfl rfl rfl ?_; refine Pool.v 7 rfl rfl rfl rfl rfl rfl rfl trivial ?_; refine Pool.v 8 rfl rfl rfl rfl rfl rfl rfl (by omega) ?_; refine Pool.q 9 rfl rfl rfl rfl rfl (q_ia rfl rfl rfl (by assumption)) rfl ?_; refine Pool.ldc 10 rfl rfl rfl rfl rfl rfl rfl hc1.a rfl rfl rfl ?_; refine Pool.v 11 rfl rfl rfl rfl rfl rfl rfl trivial ?_
    refine Pool.ld 4 12 rfl rfl rfl rfl rfl rfl rfl rfl rfl rfl rfl ?_; refine Pool.cq 13 rfl rfl rfl rfl rfl rfl rfl rfl rfl (fun H hs => s155 L H bs bs bs bs) ?_; refine Pool.v 14 rfl rfl rfl rfl rfl rfl rfl trivial ?_; refine Pool.v 15 rfl rfl rfl rfl rfl rfl rfl trivial ?_; refine Pool.v 16 rfl rfl rfl rfl rfl rfl rfl trivial ?_; refine Pool.v 17 rfl rfl rfl rfl rfl rfl rfl trivial ?_; refine Pool.fl 18 rfl rfl rfl rfl rfl rfl rfl rfl rfl rfl ?_
    refine Pool.al 19 rfl rfl rfl rfl rfl rfl rfl rfl rfl rfl rfl sb fun r14 => ?_; refine Pool.v 22 rfl rfl rfl rfl rfl rfl rfl trivial ?_; refine pool_take rfl rfl rfl fun rf18 => ?_; refine Pool.st 0 20 rfl rfl rfl rfl rfl rfl rfl rfl rfl rfl rfl rfl rfl rfl rfl rfl rfl rfl sb ?_; refine Pool.st 1 21 rfl rfl rfl rfl rfl rfl rfl rfl rfl rfl rfl rfl rfl rfl rfl rfl rfl rfl sb ?_; refine pool_done rfl rfl ?_; refine At.regionEnd (At.seq (At.region ?_))
    (iterate 2 refine At.v rfl rfl rfl rfl rfl trivial ?_)
    have hpo := spotR_ok p0 p1 he hs (Int.lt_of_not_ge fun h => by
      have := List.pairwise_iff_getElem.1 (prof_pw hz) j (j + 1) (by simpa using hlt') (by simpa using hlt) (by omega)
      simp only at this
      omega)
    have ag := again ⟨j + 1, by omega⟩ (by simp; omega)
    simp only [hsc] at ag
    cases hpc : pieceR prof[j] prof[j + 1] eye s with
    | none =>
      simp only [hpc, stepR] at ag
      (iterate 7 refine At.un rfl rfl rfl rfl ?_); refine At.v rfl rfl rfl rfl rfl trivial ?_; refine At.regionEnd ?_; refine At.cond rfl ?_; refine At.skip ?_; refine At.inBlock ?_; refine At.region ?_; refine At.v rfl rfl rfl rfl rfl trivial ?_; refine At.v rfl rfl rfl rfl rfl (by omega) ?_; refine At.v rfl rfl rfl rfl rfl trivial ?_; refine At.regionEnd ?_
      refine At.tA (ag)
    | some x =>
      cases hacc : accR prof eye s j with
      | none =>
        simp only [hpc, hacc, stepR, Option.isSome, Option.getD] at ag
        (iterate 3 refine At.v rfl rfl rfl rfl rfl trivial ?_); (iterate 3 refine At.un rfl rfl rfl rfl ?_); (iterate 2 refine At.v rfl rfl rfl rfl rfl trivial ?_); refine At.regionEnd ?_; refine At.cond rfl ?_; refine At.drawJ hmix [3, 2] rfl ?_; refine Pool.ld 0 0 rfl rfl rfl rfl rfl rfl rfl rfl rfl rfl rfl ?_; refine Pool.ld 1 1 rfl rfl rfl rfl rfl rfl rfl rfl rfl rfl rfl ?_; refine Pool.st 3 2 rfl rfl rfl rfl rfl rfl rfl rfl rfl rfl rfl rfl rfl rfl rfl rfl rfl rfl sb ?_
        refine Pool.st 2 3 rfl rfl rfl rfl rfl rfl rfl rfl rfl rfl rfl rfl rfl rfl rfl rfl rfl rfl sb ?_; refine Pool.v 4 rfl rfl rfl rfl rfl rfl rfl trivial ?_; refine pool_done rfl rfl ?_; refine At.regionEnd ?_; refine At.inBlock ?_; refine At.region ?_; refine At.v rfl rfl rfl rfl rfl trivial ?_; refine At.v rfl rfl rfl rfl rfl (by omega) ?_; refine At.v rfl rfl rfl rfl rfl trivial ?_; refine At.regionEnd ?_
        refine At.tA (ag)
      | some y =>
        simp only [hpc, hacc, stepR] at ag
        (iterate 3 refine At.v rfl rfl rfl rfl rfl trivial ?_); refine At.ld 0 rfl rfl rfl rfl rfl rfl rfl rfl rfl ?_; refine At.ld 3 rfl rfl rfl rfl rfl rfl rfl rfl rfl ?_; refine At.cqb rfl rfl rfl rfl rfl rfl rfl rfl (s103 L _) fun b49 h49 => ?_; (iterate 2 refine At.v rfl rfl rfl rfl rfl trivial ?_); refine At.regionEnd ?_
        cases b49
        · have e49 : lessW x.1 y.1 = false := h49
          simp only [e49, if_false, Option.isSome, Option.getD, Bool.false_eq_true] at ag
          refine At.cond rfl ?_; refine At.skip ?_; refine At.inBlock ?_; refine At.region ?_; refine At.v rfl rfl rfl rfl rfl trivial ?_; refine At.v rfl rfl rfl rfl rfl (by omega) ?_; refine At.v rfl rfl rfl rfl rfl trivial ?_; refine At.regionEnd ?_
          refine At.tA (ag)
        · have e49 : lessW x.1 y.1 = true := h49
          simp only [e49, if_true, Option.isSome, Option.getD] at ag
          refine At.cond rfl ?_; refine At.drawJ hmix [3, 2] rfl ?_; refine Pool.ld 0 0 rfl rfl rfl rfl rfl rfl rfl rfl rfl rfl rfl ?_; refine Pool.ld 1 1 rfl rfl rfl rfl rfl rfl rfl rfl rfl rfl rfl ?_; refine Pool.st 3 2 rfl rfl rfl rfl rfl rfl rfl rfl rfl rfl rfl rfl rfl rfl rfl rfl rfl rfl sb ?_; refine Pool.st 2 3 rfl rfl rfl rfl rfl rfl rfl rfl rfl rfl rfl rfl rfl rfl rfl rfl rfl rfl sb ?_; refine Pool.v 4 rfl rfl rfl rfl rfl rfl rfl trivial ?_; refine pool_done rfl rfl ?_; refine At.regionEnd ?_
          refine At.inBlock ?_; refine At.region ?_; refine At.v rfl rfl rfl rfl rfl trivial ?_; refine At.v rfl rfl rfl rfl rfl (by omega) ?_; refine At.v rfl rfl rfl rfl rfl trivial ?_; refine At.regionEnd ?_
          refine At.tA (ag)
end Go.Gx
end

section
set_option linter.unusedSimpArgs false
set_option linter.unusedVariables false
namespace Go.Gx
open Go Go.Conc Go.Proofs
variable {main : Bool}

/-- RowOf (ref02), a book's -/
theorem s97 (L : Lg Tryz.prog main) (H : Facts) {B : Bk} {A : BkA} {h : R2} (hB : BkR H B A) (hz : bookBar B = 0) (hh : HighOk h) : Pure L 97 #[bkV B A, rV h] H (.tuple #[.int .i64 (squareM B h).1, rV (squareM B h).2]) := by
  have hb := bounds_of_bar hz
  have h0 : 0 < B.prof.length := by omega
  obtain ⟨b, off, e, hc⟩ := hB.p.el (List.getElem?_eq_getElem h0)
  obtain ⟨pa, pc, ma, mc⟩ := A
  simp only at e
  subst e
  have hp := hb.2.2.1 _ (List.getElem_mem h0)
  obtain ⟨hn, hd1, hd2⟩ := hh
  have ef : footM B = B.prof[0].2 := by
    unfold footM
    rw [List.headD_eq_head?_getD, List.head?_eq_getElem?, List.getElem?_eq_getElem h0]
    rfl
  unfold PtOk at hp
  have m1 := mul_bd (a := B.size) (b := h.2) (A := 30) (B := 3000000) (by omega) (by omega)
  have m2 := mul_bd (a := B.prof[0].2) (b := h.2) (A := 90) (B := 3000000) (by omega) (by omega)
  have m3 : B.size * h.2 ≠ 0 := Int.mul_ne_zero (by omega) (by omega)
  have m4 : ((h.1 - B.prof[0].2 * h.2).tdiv (B.size * h.2)).natAbs ≤ 800000000 := by
    rw [Int.natAbs_tdiv]
    exact Nat.le_trans (Nat.div_le_self _ _) (by omega)
  have m5 := mul_bd (a := (h.1 - B.prof[0].2 * h.2).tdiv (B.size * h.2)) (b := B.size) (A := 800000000) (B := 30) m4 (by omega)
  have m6 : ((h.1 - B.prof[0].2 * h.2).tdiv (B.size * h.2) * B.size * h.2).natAbs ≤ 800000000 * 30 * 3000000 := mul_bd m5 (by omega)
  have := r97 L H (n := B.prof.length) (cap := pc) (m := B.marks.length) (mc := mc) (ma := ma) (size := B.size) (lo := B.lo) (hi := B.hi) (hn := h.1) (hd := h.2) (h0 := B.prof[0].2) h0 (cells_sub hc 1 1 rfl) (by omega) (by omega) (by omega) m3 (by omega) (by omega)
  unfold squareM
  rw [ef]
  exact this
set_option maxRecDepth 100000 in
set_option maxHeartbeats 4000000 in
/-- RowIn (ref02) -/
theorem s115 (L : Lg Tryz.prog main) (H : Facts) {B : Bk} {A : BkA} {eye : Int} {s : R2} (hB : BkR H B A) (hz : bookBar B = 0) (he : EyeOk eye) (hs : SlOk s) : Pure L 115 #[bkV B A, .int .i64 eye, rV s] H (.int .i64 (rowM B eye s)) := by
  refine Spec.enter Tryz.func115 rfl (by simp [Tryz.f115]) fun c cs hc => ?_
  have hp := profOk_of hz
  refine At.seq (At.region ?_); refine At.bx rfl rfl rfl rfl rfl rfl rfl fun r3 => ?_; refine At.bx rfl rfl rfl rfl rfl rfl rfl fun r5 => ?_; refine At.v rfl rfl rfl rfl rfl trivial ?_; refine At.regionEnd (At.seq (At.region ?_)); refine At.ld 1 rfl rfl rfl rfl rfl rfl rfl rfl rfl ?_; refine At.v rfl rfl rfl rfl rfl trivial ?_; refine At.ld 0 rfl rfl rfl rfl rfl rfl rfl rfl rfl ?_; refine At.cq rfl rfl rfl rfl rfl rfl rfl rfl (s95 L _ bs bs bs bs) ?_
  (iterate 4 refine At.v rfl rfl rfl rfl rfl trivial ?_); refine At.al rfl rfl rfl rfl rfl fun r7 => ?_; refine At.al rfl rfl rfl rfl rfl fun r8 => ?_; refine At.st 1 rfl rfl rfl rfl rfl rfl rfl rfl rfl rfl rfl rfl ?_; refine At.st 0 rfl rfl rfl rfl rfl rfl rfl rfl rfl rfl rfl rfl ?_; refine At.v rfl rfl rfl rfl rfl trivial ?_; refine At.regionEnd (At.seq (At.seq (At.region ?_))); (iterate 2 refine At.v rfl rfl rfl rfl rfl trivial ?_); refine At.regionEnd ?_
  cases hm : meetM B.prof eye s with
  | none =>
    rw [rowM_none hm] at hc
    refine At.cond rfl ?_; refine At.seq (At.region ?_); refine At.v rfl rfl rfl rfl rfl trivial ?_; refine At.regionEnd ?_
    exact At.ret Tryz.func115 (.inr ⟨_, rfl⟩) rfl (.tmp rfl .nil) (wk (hc _ _ (⟨by rfl, rfl⟩)))
  | some x =>
    have hx := highOk_of (meetM_ok hp.2 he hs hm)
    rw [rowM_some hm] at hc
    refine At.cond rfl ?_; refine At.skip (At.seq (At.region ?_)); refine At.ld 3 rfl rfl rfl rfl rfl rfl rfl rfl rfl ?_; refine At.ld 0 rfl rfl rfl rfl rfl rfl rfl rfl rfl ?_; refine At.cq rfl rfl rfl rfl rfl rfl rfl rfl (s97 L _ bs bs bs) ?_; (iterate 3 refine At.v rfl rfl rfl rfl rfl trivial ?_); refine At.al rfl rfl rfl rfl rfl fun r11 => ?_; refine At.v rfl rfl rfl rfl rfl trivial ?_; refine At.st 0 rfl rfl rfl rfl rfl rfl rfl rfl rfl rfl rfl rfl ?_; refine At.regionEnd (At.seq (At.region ?_))
    (iterate 2 refine At.v rfl rfl rfl rfl rfl trivial ?_); refine At.regionEnd ?_
    exact At.ret Tryz.func115 (.inr ⟨_, rfl⟩) rfl (.tmp rfl .nil) (wk (hc _ _ (⟨by rfl, rfl⟩)))
end Go.Gx
end

section
set_option linter.unusedSimpArgs false
set_option linter.unusedVariables false
namespace Go.Gx
open Go Go.Conc Go.Proofs
variable {main : Bool}

end Go.Gx
end

section
/-
  LOGIC G: what a call has made is put behind the cells that one knows by their places.
-/
set_option linter.unusedSimpArgs false
set_option linter.unusedVariables false
namespace Go.Gx
open Go Go.Conc
/-- 'Y' is 'sf ++ X' with the own cells that stand first in 'X' ahead of 'sf'. -/
class Back (sf X : Facts) (Y : outParam Facts) : Prop where
  s : Sub Y (sf ++ X)
instance (priority := low) backNil {sf X : Facts} : Back sf X (sf ++ X) := ⟨Sub.refl _⟩
instance backCons {sf X Y : Facts} {r : Nat} {o : Obj} [h : Back sf X Y] : Back sf (.own r o :: X) (.own r o :: Y) :=
  ⟨(Sub.cons _ h.s).trans (Sub.of_perm List.perm_middle.symm)⟩
theorem At.back {P : Program} {main : Bool} {L : Lg P main} {f : FuncId} {ro : Option Nat} {ds : Dz} {cs : List Frame} {n : Nat} {E : Env} {k : List Item} {sf X Y : Facts} [hb : Back sf X Y] (h : At L f ro ds cs n E Y k) : At L f ro ds cs n E (sf ++ X) k :=
  h.weakH hb.s
end Go.Gx
end

section
set_option linter.unusedSimpArgs false
set_option linter.unusedVariables false
namespace Go.Gx
open Go Go.Conc Go.Proofs

end Go.Gx
end

section
set_option linter.unusedSimpArgs false
set_option linter.unusedVariables false
namespace Go.Gx
open Go Go.Conc Go.Proofs
variable {main : Bool}

end Go.Gx
end

section
set_option linter.unusedSimpArgs false
set_option linter.unusedVariables false
namespace Go.Gx
open Go Go.Conc Go.Proofs
variable {main : Bool}

theorem low_cross {n d : Int} (hd : d ≠ 0) : (low n d).1 * d = n * (low n d).2 := by
  unfold low lowN lowD
  have hg : 0 < Int.gcd n d := Int.gcd_pos_of_ne_zero_right n hd
  have h1 : ((Int.gcd n d : Nat) : Int) ∣ n := Int.gcd_dvd_left ..
  have h2 : ((Int.gcd n d : Nat) : Int) ∣ d := Int.gcd_dvd_right ..
  generalize ((Int.gcd n d : Nat) : Int) = g at *
  have hg0 : g ≠ 0 := by rintro rfl; exact hd (Int.zero_dvd.1 h2)
  obtain ⟨a, rfl⟩ := h1
  obtain ⟨b, rfl⟩ := h2
  split
  · rw [← Int.mul_neg, ← Int.mul_neg, Int.mul_tdiv_cancel_left _ hg0, Int.mul_tdiv_cancel_left _ hg0]
    simp only [Int.neg_mul, Int.mul_neg]
    rw [Int.mul_left_comm, Int.mul_assoc]
  · simp only
    rw [Int.mul_tdiv_cancel_left _ hg0, Int.mul_tdiv_cancel_left _ hg0, Int.mul_left_comm, Int.mul_assoc]
end Go.Gx
end

section
set_option linter.unusedSimpArgs false
set_option linter.unusedVariables false
namespace Go.Gx
open Go Go.Conc Go.Proofs

end Go.Gx
end

section
set_option linter.unusedSimpArgs false
set_option linter.unusedVariables false
namespace Go.Gx
open Go Go.Conc Go.Proofs
variable {main : Bool}

set_option maxRecDepth 100000 in
set_option maxHeartbeats 4000000 in
/-- Right (ref02) -/
theorem s137 (L : Lg Tryz.prog main) (H : Facts) {B : Bk} {A : BkA} {eye : Int} (hB : BkR H B A) (hz : bookBar B = 0) : Pure L 137 #[bkV B A, .int .i64 eye] H (.bool (decide (B.lo ≤ eye ∧ eye ≤ B.hi) && rightM B eye)) := by
  refine Spec.enter Tryz.func137 rfl (by simp [Tryz.f137]) fun c cs hc => ?_
  have hb := bounds_of_bar hz
  have hrm := hB.m
  refine At.seq (At.region ?_); refine At.bx rfl rfl rfl rfl rfl rfl rfl fun r2 => ?_; refine At.v rfl rfl rfl rfl rfl trivial ?_; refine At.regionEnd (At.seq (At.seq (At.region ?_))); refine At.v rfl rfl rfl rfl rfl trivial ?_; (iterate 2 refine At.fa 2 rfl rfl rfl rfl rfl rfl rfl ?_); refine At.ld 0 rfl rfl rfl rfl rfl rfl rfl rfl rfl ?_; refine At.fa 2 rfl rfl rfl rfl rfl rfl rfl ?_; refine At.fa 3 rfl rfl rfl rfl rfl rfl rfl ?_; refine At.ld 0 rfl rfl rfl rfl rfl rfl rfl rfl rfl ?_
  refine At.cqb rfl rfl rfl rfl rfl rfl rfl rfl (s43 L _) fun b13 h13 => ?_; refine At.v rfl rfl rfl rfl rfl trivial ?_; refine At.regionEnd ?_
  cases b13
  · have e : ¬ (B.lo ≤ eye ∧ eye ≤ B.hi) := by simpa using h13
    simp only [e, decide_false, Bool.false_and] at hc
    refine At.cond rfl ?_; refine At.seq (At.region ?_); refine At.v rfl rfl rfl rfl rfl trivial ?_; refine At.regionEnd ?_
    exact At.ret Tryz.func137 (.inr ⟨_, rfl⟩) rfl (.tmp rfl .nil) (wk (hc _ _ (⟨by rfl, rfl⟩)))
  · have e : B.lo ≤ eye ∧ eye ≤ B.hi := by simpa using h13
    have he : EyeOk eye := by unfold EyeOk; omega
    simp only [e, and_self, decide_true, Bool.true_and] at hc
    refine At.cond rfl ?_; refine At.skip (At.seq (At.seq (At.region ?_))); refine At.v rfl rfl rfl rfl rfl trivial ?_; refine At.regionEnd ?_; refine At.block ?_
    refine At.lpk (X := { j : Nat // j ≤ B.marks.length ∧ (B.marks.drop j).all (fun m => decide (rowM B eye m.1 = m.2)) = rightM B eye }) [1, 2] (fun x => [(5, .int .i64 (x.1 : Int))]) (fun _ => .own r2 (.cells (List.toArray (bkC B A)) 27 (0, 0)) :: H) (fun x => B.marks.length - x.1) (⟨0, Nat.zero_le _, rfl⟩) rfl ?_ (by repeat (first | exact trivial | refine ⟨rfl, ?_⟩)) sb
    rintro ⟨j, hj, hd⟩ again
    simp only at again ⊢
    refine At.seq (At.seq (At.region ?_)); refine At.v rfl rfl rfl rfl rfl trivial ?_; refine At.fa 4 rfl rfl rfl rfl rfl rfl rfl ?_; refine At.ld 0 rfl rfl rfl rfl rfl rfl rfl rfl rfl ?_; refine At.ln rfl rfl rfl rfl rfl rfl rfl rfl ?_; refine At.cp rfl rfl rfl rfl rfl fun b19 h19 => ?_; refine At.regionEnd ?_
    cases b19
    · have e : j = B.marks.length := by simp at h19; omega
      subst e
      rw [List.drop_length] at hd
      have e2 : rightM B eye = true := hd.symm
      simp only [e2] at hc
      refine At.cond rfl ?_; refine At.exit rfl ?_; refine At.seq (At.region ?_); refine At.v rfl rfl rfl rfl rfl trivial ?_; refine At.regionEnd ?_
      exact At.ret Tryz.func137 (.inr ⟨_, rfl⟩) rfl (.tmp rfl .nil) (wk (hc _ _ (⟨by rfl, rfl⟩)))
    · have hlt : j < B.marks.length := by simp at h19; omega
      obtain ⟨pa, pc, ma, mc⟩ := A
      obtain ⟨b, off, e', hc1⟩ := hrm.el (List.getElem?_eq_getElem hlt)
      simp only at e'
      subst e'
      rw [List.drop_eq_getElem_cons hlt, List.all_cons] at hd
      have hsl := slOk_mark hz (List.getElem_mem hlt)
      refine At.cond rfl ?_; refine At.skip (At.seq ?_); refine At.block ?_; refine At.seq ?_; refine At.drawJ hmix [] rfl ?_; refine Pool.ld 0 0 rfl rfl rfl rfl rfl rfl rfl rfl rfl rfl rfl ?_; refine Pool.v 1 rfl rfl rfl rfl rfl rfl rfl trivial ?_; refine Pool.fa 4 2 rfl rfl rfl rfl rfl rfl rfl rfl rfl ?_; refine Pool.ld 0 3 rfl rfl rfl rfl rfl rfl rfl rfl rfl rfl rfl ?_; refine Pool.v 4 rfl rfl rfl rfl rfl rfl rfl trivial ?_
      refine Pool.q 5 rfl rfl rfl rfl rfl (q_ia rfl rfl rfl (by assumption)) rfl ?_; refine Pool.faE 6 rfl rfl rfl rfl rfl rfl rfl rfl ?_; refine Pool.ldc 7 rfl rfl rfl rfl rfl rfl rfl (hc1.s 0 2 rfl) rfl rfl rfl ?_; refine Pool.cq 8 rfl rfl rfl rfl rfl rfl rfl rfl rfl (fun H hs => s115 L H bs bs bs bs) ?_; refine Pool.fa 4 9 rfl rfl rfl rfl rfl rfl rfl rfl rfl ?_; refine Pool.ld 0 10 rfl rfl rfl rfl rfl rfl rfl rfl rfl rfl rfl ?_; refine Pool.v 11 rfl rfl rfl rfl rfl rfl rfl trivial ?_
      refine Pool.q 12 rfl rfl rfl rfl rfl (q_ia rfl rfl rfl (by assumption)) rfl ?_; refine Pool.faE 13 rfl rfl rfl rfl rfl rfl rfl rfl ?_; refine Pool.ldc 14 rfl rfl rfl rfl rfl rfl rfl (hc1.s 2 1 rfl) rfl rfl rfl ?_; refine Pool.cp 15 rfl rfl rfl rfl rfl rfl rfl fun b37 h37 => ?_; refine pool_done rfl rfl ?_; refine At.regionEnd ?_
      cases b37
      · have e3 : rowM B eye B.marks[j].1 = B.marks[j].2 := by simpa using h37
        simp only [e3, decide_true, Bool.true_and] at hd
        refine At.cond rfl ?_; refine At.skip ?_; refine At.inBlock ?_; refine At.region ?_; refine At.v rfl rfl rfl rfl rfl trivial ?_; refine At.v rfl rfl rfl rfl rfl (by omega) ?_; refine At.v rfl rfl rfl rfl rfl trivial ?_; refine At.regionEnd ?_
        refine At.tA ((again ⟨j + 1, hlt, hd⟩ (by simp; omega)))
      · have e3 : rowM B eye B.marks[j].1 ≠ B.marks[j].2 := by simpa using h37
        have e4 : rightM B eye = false := by rw [← hd]; simp [e3]
        simp only [e4] at hc
        refine At.cond rfl ?_; refine At.seq (At.region ?_); refine At.v rfl rfl rfl rfl rfl trivial ?_; refine At.regionEnd ?_
        exact At.ret Tryz.func137 (.inr ⟨_, rfl⟩) rfl (.tmp rfl .nil) (wk (hc _ _ (⟨by rfl, rfl⟩)))
def statesTo (B : Bk) (j : Nat) : List Int := ((bandL B.lo B.hi).take j).filter (rightM B)
theorem statesTo_succ {B : Bk} {j : Nat} (h : j < (bandL B.lo B.hi).length) : statesTo B (j + 1) = statesTo B j ++ (if rightM B (B.lo + j) then [B.lo + (j : Int)] else []) := by
  unfold statesTo
  rw [List.take_add_one, bandL_get h, List.filter_append]
  congr 1
  simp only [Option.toList, List.filter_cons, List.filter_nil]
theorem statesTo_all {B : Bk} {j : Nat} (h : (bandL B.lo B.hi).length ≤ j) : statesTo B j = statesM B := by
  unfold statesTo statesM
  rw [List.take_of_length_le h]
theorem statesTo_len {B : Bk} {j : Nat} : (statesTo B j).length ≤ j := by
  unfold statesTo
  refine Nat.le_trans (List.length_filter_le _ _) ?_
  rw [List.length_take]
  omega
set_option maxRecDepth 100000 in
set_option maxHeartbeats 4000000 in
/-- StatesOf (ref02) -/
theorem s138 (L : Lg Tryz.prog main) (H : Facts) {B : Bk} {A : BkA} (hB : BkR H B A) (hz : bookBar B = 0) : Grows L 138 #[bkV B A] H (fun v sf => ∃ a cap, v = .slice a (statesM B).length cap ∧ Sl c1 3 (.slice a (statesM B).length cap) (statesM B) sf) := by
  refine Spec.enter Tryz.func138 rfl (by simp [Tryz.f138]) fun c cs hc => ?_
  have hb := bounds_of_bar hz
  have hbl := bandL_len B.lo B.hi
  refine At.seq (At.region ?_); refine At.bx rfl rfl rfl rfl rfl rfl rfl fun r1 => ?_; refine At.v rfl rfl rfl rfl rfl trivial ?_; refine At.regionEnd (At.seq (At.region ?_)); refine At.v rfl rfl rfl rfl rfl trivial ?_; refine At.regionEnd (At.seq (At.seq (At.region ?_))); (iterate 2 refine At.fa 2 rfl rfl rfl rfl rfl rfl rfl ?_); refine At.ld 0 rfl rfl rfl rfl rfl rfl rfl rfl rfl ?_; refine At.v rfl rfl rfl rfl rfl trivial ?_; refine At.regionEnd ?_; refine At.block ?_
  refine At.lpk (X := { x : Nat × Int × Value × Facts // x.1 ≤ (bandL B.lo B.hi).length ∧ x.2.1 = B.lo + (x.1 : Int) ∧ Sl c1 3 x.2.2.1 (statesTo B x.1) x.2.2.2 }) [1, 2] (fun x => [(4, .int .i64 x.1.2.1), (3, x.1.2.2.1)]) (fun x => .own r1 (.cells (List.toArray (bkC B A)) 27 (0, 0)) :: (x.1.2.2.2 ++ H)) (fun x => (bandL B.lo B.hi).length - x.1.1) (⟨(0, B.lo, .slice none 0 0, []), Nat.zero_le _, by simp, Sl.nil⟩) rfl ?_ (by repeat (first | exact trivial | refine ⟨rfl, ?_⟩)) sb
  rintro ⟨⟨j, n, v, sf⟩, hj, hn, hsl⟩ again
  simp only at again hj hn hsl ⊢
  have hlen := statesTo_len (B := B) (j := j)
  refine At.seq (At.seq (At.region ?_)); refine At.v rfl rfl rfl rfl rfl trivial ?_; refine At.fa 2 rfl rfl rfl rfl rfl rfl rfl ?_; refine At.fa 3 rfl rfl rfl rfl rfl rfl rfl ?_; refine At.ld 0 rfl rfl rfl rfl rfl rfl rfl rfl rfl ?_; refine At.cp rfl rfl rfl rfl rfl fun b12 h12 => ?_; refine At.regionEnd ?_
  cases b12
  · have e : ¬ n ≤ B.hi := by simpa using h12
    rw [statesTo_all (by omega)] at hsl
    obtain ⟨a, cap, rfl⟩ := hsl.slice
    refine At.cond rfl ?_; refine At.exit rfl ?_; refine At.seq (At.region ?_); (iterate 2 refine At.v rfl rfl rfl rfl rfl trivial ?_); refine At.regionEnd ?_
    exact At.ret Tryz.func138 (.inr ⟨_, rfl⟩) rfl (.tmp rfl .nil) (wk (hc _ _ (⟨sf, ⟨a, cap, rfl, hsl⟩, rfl⟩)))
  · have e : n ≤ B.hi := by simpa using h12
    have hjl : j < (bandL B.lo B.hi).length := by omega
    have hsc := statesTo_succ hjl
    rw [← hn] at hsc
    refine At.cond rfl ?_; refine At.skip (At.seq ?_); refine At.block ?_; refine At.seq (At.region ?_); refine At.ld 0 rfl rfl rfl rfl rfl rfl rfl rfl rfl ?_; refine At.v rfl rfl rfl rfl rfl trivial ?_; refine At.cqb rfl rfl rfl rfl rfl rfl rfl rfl (s137 L _ bs bs) fun b17 h17 => ?_; refine At.regionEnd ?_
    have e17 : rightM B n = b17 := by rw [← h17, decide_eq_true (by omega), Bool.true_and]
    rw [e17] at hsc
    cases b17
    · rw [if_neg (by simp), List.append_nil] at hsc
      refine At.cond rfl ?_; refine At.skip ?_; refine At.inBlock ?_; refine At.region ?_; refine At.v rfl rfl rfl rfl rfl trivial ?_; refine At.v rfl rfl rfl rfl rfl (by omega) ?_; refine At.v rfl rfl rfl rfl rfl trivial ?_; refine At.regionEnd ?_
      refine At.tA ((again ⟨(j + 1, n + 1, v, sf), hjl, by show n + 1 = B.lo + ((j + 1 : Nat) : Int); omega, by rw [hsc]; exact hsl⟩ (by simp; omega)))
    · rw [if_pos rfl] at hsc
      refine At.cond rfl ?_; refine At.region ?_; (iterate 2 refine At.v rfl rfl rfl rfl rfl trivial ?_)
      (refine At.l rfl rfl rfl rfl (l_buildSlice rfl rfl rfl rfl rfl) ?_; rintro _ _ ⟨r20, rfl, rfl⟩)
      refine At.push (x := n) 0 2 rfl rfl rfl rfl rfl rfl rfl rfl rfl rfl rfl rfl rfl rfl hsl rfl rfl rfl ?_ fun v sf hs => ?_
      · omega
      · rw [← hsc] at hs
        refine At.v rfl rfl rfl rfl rfl trivial ?_; refine At.regionEnd ?_; refine At.inBlock ?_; refine At.region ?_; refine At.v rfl rfl rfl rfl rfl trivial ?_; refine At.v rfl rfl rfl rfl rfl (by omega) ?_; refine At.v rfl rfl rfl rfl rfl trivial ?_; refine At.regionEnd ?_
        refine At.tA ((again ⟨(j + 1, n + 1, v, sf), hjl, by show n + 1 = B.lo + ((j + 1 : Nat) : Int); omega, hs⟩ (by simp; omega)))
set_option maxRecDepth 100000 in
set_option maxHeartbeats 4000000 in
/-- IsState (ref02) -/
theorem s68 (L : Lg Tryz.prog main) (H : Facts) {B : Bk} {A : BkA} {eye : Int} (hB : BkR H B A) (hlp : B.prof.length ≤ 100000) (hlm : B.marks.length ≤ 100000) :
    Pure L 68 #[bkV B A, .int .i64 eye] H (.tuple #[.bool (if lookBar B [hBar eye] ≠ 0 then false else decide (B.lo ≤ eye ∧ eye ≤ B.hi) && rightM B eye), .int .i64 (lookBar B [hBar eye])]) := by
  refine Spec.enter Tryz.func68 rfl (by simp [Tryz.f68]) fun c cs hc => ?_; refine At.seq (At.region ?_); refine At.bx rfl rfl rfl rfl rfl rfl rfl fun r2 => ?_; (iterate 2 refine At.v rfl rfl rfl rfl rfl trivial ?_); refine At.regionEnd (At.seq (At.seq (At.region ?_))); refine At.ld 0 rfl rfl rfl rfl rfl rfl rfl rfl rfl ?_; refine At.cq rfl rfl rfl rfl rfl rfl rfl rfl (s24 L _ bs bs bs) ?_; refine At.v rfl rfl rfl rfl rfl trivial ?_; refine At.regionEnd (At.seq (At.region ?_))
  refine At.v rfl rfl rfl rfl rfl trivial ?_; refine At.cp rfl rfl rfl rfl rfl fun b10 h10 => ?_; refine At.regionEnd ?_
  cases b10
  rotate_left
  · have hz : bookBar B ≠ 0 := by simpa using h10
    rw [lookBarN hz] at hc
    simp only [if_pos hz] at hc
    refine At.cond rfl ?_; refine At.seq (At.region ?_); (iterate 3 refine At.v rfl rfl rfl rfl rfl trivial ?_); refine At.regionEnd ?_
    exact At.ret Tryz.func68 (.inr ⟨_, rfl⟩) rfl (.tmp rfl (.tmp rfl .nil)) (wk (hc _ _ (⟨by rfl, rfl⟩)))
  have hz : bookBar B = 0 := by simpa using h10
  rw [lookBar1 hz, firstBar1] at hc
  refine At.cond rfl ?_; refine At.skip (At.seq (At.seq (At.region ?_))); refine At.v rfl rfl rfl rfl rfl trivial ?_; refine At.cqb rfl rfl rfl rfl rfl rfl rfl rfl (s102 L _) fun b13 h13 => ?_; refine At.v rfl rfl rfl rfl rfl trivial ?_; refine At.regionEnd ?_
  cases b13
  · have he : hBar eye = 1 := by simp at h13; unfold hBar; rw [if_neg (by omega)]
    simp only [he] at hc
    refine At.cond rfl ?_; refine At.seq (At.region ?_); (iterate 2 refine At.v rfl rfl rfl rfl rfl trivial ?_); refine At.regionEnd ?_
    exact At.ret Tryz.func68 (.inr ⟨_, rfl⟩) rfl (.tmp rfl (.tmp rfl .nil)) (wk (hc _ _ (⟨by rfl, rfl⟩)))
  · have he : hBar eye = 0 := by simp at h13; unfold hBar; rw [if_pos (by omega)]
    simp only [he, ne_eq, not_true_eq_false, if_false] at hc
    refine At.cond rfl ?_; refine At.skip (At.seq (At.region ?_)); refine At.ld 0 rfl rfl rfl rfl rfl rfl rfl rfl rfl ?_; refine At.v rfl rfl rfl rfl rfl trivial ?_; refine At.cqb rfl rfl rfl rfl rfl rfl rfl rfl (s137 L _ bs bs) fun b17 h17 => ?_; (iterate 2 refine At.v rfl rfl rfl rfl rfl trivial ?_); refine At.regionEnd ?_
    exact At.ret Tryz.func68 (.inr ⟨_, rfl⟩) rfl (.tmp rfl (.tmp rfl .nil)) (wk (hc _ _ (⟨by simp_all [resVal], rfl⟩)))
set_option maxRecDepth 100000 in
set_option maxHeartbeats 4000000 in
/-- States (ref02) -/
theorem s69 (L : Lg Tryz.prog main) (H : Facts) {B : Bk} {A : BkA} (hB : BkR H B A) (hlp : B.prof.length ≤ 100000) (hlm : B.marks.length ≤ 100000) :
    Grows L 69 #[bkV B A] H (fun v sf => ∃ a cap, v = .tuple #[.slice a (if bookBar B ≠ 0 then [] else statesM B).length cap, .int .i64 (bookBar B)] ∧
      Sl c1 3 (.slice a (if bookBar B ≠ 0 then [] else statesM B).length cap) (if bookBar B ≠ 0 then [] else statesM B) sf) := by
  refine Spec.enter Tryz.func69 rfl (by simp [Tryz.f69]) fun c cs hc => ?_; refine At.seq (At.region ?_); refine At.bx rfl rfl rfl rfl rfl rfl rfl fun r1 => ?_; (iterate 2 refine At.v rfl rfl rfl rfl rfl trivial ?_); refine At.regionEnd (At.seq (At.seq (At.region ?_))); refine At.ld 0 rfl rfl rfl rfl rfl rfl rfl rfl rfl ?_; refine At.cq rfl rfl rfl rfl rfl rfl rfl rfl (s24 L _ bs bs bs) ?_; refine At.v rfl rfl rfl rfl rfl trivial ?_; refine At.regionEnd (At.seq (At.region ?_))
  refine At.v rfl rfl rfl rfl rfl trivial ?_; refine At.cp rfl rfl rfl rfl rfl fun b8 h8 => ?_; refine At.regionEnd ?_
  cases b8
  rotate_left
  · have hz : bookBar B ≠ 0 := by simpa using h8
    simp only [if_pos hz] at hc
    refine At.cond rfl ?_; refine At.seq (At.region ?_); (iterate 3 refine At.v rfl rfl rfl rfl rfl trivial ?_); refine At.regionEnd ?_
    exact At.ret Tryz.func69 (.inr ⟨_, rfl⟩) rfl (.tmp rfl (.tmp rfl .nil)) (wk (hc _ _ (⟨[], ⟨none, 0, rfl, Sl.nil⟩, rfl⟩)))
  have hz : bookBar B = 0 := by simpa using h8
  simp only [hz, ne_eq, not_true_eq_false, if_false] at hc
  have stop138 := trivial
  refine At.cond rfl ?_; refine At.skip (At.seq (At.region ?_)); refine At.ld 0 rfl rfl rfl rfl rfl rfl rfl rfl rfl ?_
  clear stop138
  refine At.cl rfl rfl rfl rfl rfl rfl rfl rfl (s138 L _ hB.a hz) ?_
  rintro _ _ ⟨sf, ⟨a, cap, rfl, hsl⟩, rfl⟩
  (iterate 2 refine At.v rfl rfl rfl rfl rfl trivial ?_); refine At.regionEnd ?_
  exact At.ret Tryz.func69 (.inr ⟨_, rfl⟩) rfl (.tmp rfl (.tmp rfl .nil)) (wk (hc _ _ (⟨sf, ⟨a, cap, rfl, hsl⟩, rfl⟩)))
def knR (B : Bk) (r : Int) : Int := if bookBar B ≠ 0 then bookBar B else if r ≠ 0 then r else if (statesM B).length = 0 then 9 else 0
theorem knR_eq (B : Bk) (rs : List Int) : knR B (firstBar rs) = knownBar B rs := by
  unfold knR knownBar lookBar
  by_cases hz : bookBar B = 0
  · simp [hz]
  · simp [hz]
set_option maxRecDepth 100000 in
set_option maxHeartbeats 4000000 in
/-- known (ref02) -/
theorem s139 (L : Lg Tryz.prog main) (H : Facts) {B : Bk} {A : BkA} {r : Int} (hB : BkR H B A) (hlp : B.prof.length ≤ 100000) (hlm : B.marks.length ≤ 100000) :
    Grows L 139 #[bkV B A, .int .i64 r] H (fun v sf => ∃ a cap, v = .tuple #[.slice a (if knR B r ≠ 0 then [] else statesM B).length cap, .int .i64 (knR B r)] ∧
      Sl c1 3 (.slice a (if knR B r ≠ 0 then [] else statesM B).length cap) (if knR B r ≠ 0 then [] else statesM B) sf) := by
  refine Spec.enter Tryz.func139 rfl (by simp [Tryz.f139]) fun c cs hc => ?_
  unfold knR at hc
  refine At.seq (At.region ?_); refine At.bx rfl rfl rfl rfl rfl rfl rfl fun r2 => ?_; (iterate 2 refine At.v rfl rfl rfl rfl rfl trivial ?_); refine At.regionEnd (At.seq (At.seq (At.region ?_))); refine At.ld 0 rfl rfl rfl rfl rfl rfl rfl rfl rfl ?_; refine At.cq rfl rfl rfl rfl rfl rfl rfl rfl (s24 L _ bs bs bs) ?_; refine At.v rfl rfl rfl rfl rfl trivial ?_; refine At.regionEnd (At.seq (At.region ?_)); refine At.v rfl rfl rfl rfl rfl trivial ?_; refine At.cp rfl rfl rfl rfl rfl fun b11 h11 => ?_
  refine At.regionEnd ?_
  cases b11
  rotate_left
  · have hz : bookBar B ≠ 0 := by simpa using h11
    simp only [if_pos hz] at hc
    refine At.cond rfl ?_; refine At.seq (At.region ?_); (iterate 3 refine At.v rfl rfl rfl rfl rfl trivial ?_); refine At.regionEnd ?_
    exact At.ret Tryz.func139 (.inr ⟨_, rfl⟩) rfl (.tmp rfl (.tmp rfl .nil)) (wk (hc _ _ (⟨[], ⟨none, 0, rfl, Sl.nil⟩, rfl⟩)))
  have hz : bookBar B = 0 := by simpa using h11
  simp only [hz, ne_eq, not_true_eq_false, if_false] at hc
  refine At.cond rfl ?_; refine At.skip (At.seq (At.seq (At.region ?_))); refine At.v rfl rfl rfl rfl rfl trivial ?_; refine At.cp rfl rfl rfl rfl rfl fun b14 h14 => ?_; refine At.regionEnd ?_
  cases b14
  rotate_left
  · have hr : r ≠ 0 := by simpa using h14
    simp only [hr, not_false_eq_true, if_true] at hc
    refine At.cond rfl ?_; refine At.seq (At.region ?_); (iterate 3 refine At.v rfl rfl rfl rfl rfl trivial ?_); refine At.regionEnd ?_
    exact At.ret Tryz.func139 (.inr ⟨_, rfl⟩) rfl (.tmp rfl (.tmp rfl .nil)) (wk (hc _ _ (⟨[], ⟨none, 0, rfl, Sl.nil⟩, rfl⟩)))
  have hr : r = 0 := by simpa using h14
  simp only [hr, not_true_eq_false, if_false] at hc
  have stop138 := trivial
  refine At.cond rfl ?_; refine At.skip (At.seq (At.region ?_)); refine At.ld 0 rfl rfl rfl rfl rfl rfl rfl rfl rfl ?_
  clear stop138
  refine At.cl rfl rfl rfl rfl rfl rfl rfl rfl (s138 L _ hB.a hz) ?_
  rintro _ _ ⟨sf, ⟨a, cap, rfl, hsl⟩, rfl⟩
  refine At.v rfl rfl rfl rfl rfl trivial ?_; refine At.regionEnd (At.seq (At.seq (At.region ?_))); refine At.v rfl rfl rfl rfl rfl trivial ?_; refine At.ln rfl rfl rfl rfl rfl rfl rfl rfl ?_; refine At.cp rfl rfl rfl rfl rfl fun b20 h20 => ?_; refine At.regionEnd ?_
  cases b20
  · have e : ¬ (statesM B).length = 0 := by simpa using h20
    simp only [if_neg e, not_true_eq_false, if_false] at hc
    refine At.cond rfl ?_; refine At.skip (At.seq (At.region ?_)); (iterate 3 refine At.v rfl rfl rfl rfl rfl trivial ?_); refine At.regionEnd ?_
    exact At.ret Tryz.func139 (.inr ⟨_, rfl⟩) rfl (.tmp rfl (.tmp rfl .nil)) (wk (hc _ _ (⟨sf, ⟨a, cap, rfl, hsl⟩, rfl⟩)))
  · have e : (statesM B).length = 0 := by simpa using h20
    simp only [if_pos e] at hc
    refine At.cond rfl ?_; refine At.seq (At.region ?_); (iterate 2 refine At.v rfl rfl rfl rfl rfl trivial ?_); refine At.regionEnd ?_
    exact At.ret Tryz.func139 (.inr ⟨_, rfl⟩) rfl (.tmp rfl (.tmp rfl .nil)) (wk (hc _ _ (⟨[], ⟨none, 0, rfl, Sl.nil⟩, rfl⟩)))
/-- Surely (ref01) -/
theorem s141 (L : Lg Tryz.prog main) (H : Facts) {many n : Int} : Pure L 141 #[.int .i64 many, .int .i64 n] H (.int .i64 (wordM n many)) := by
  refine Spec.enter Tryz.func141 rfl (by simp [Tryz.f141]) fun c cs hc => ?_; refine At.seq (At.region ?_); refine At.v rfl rfl rfl rfl rfl trivial ?_; refine At.regionEnd (At.seq (At.seq (At.region ?_))); (iterate 2 refine At.v rfl rfl rfl rfl rfl trivial ?_); refine At.cp rfl rfl rfl rfl rfl fun b7 h7 => ?_; refine At.regionEnd ?_
  cases b7
  · refine At.cond rfl ?_
    refine At.skip (At.seq (At.seq (At.region ?_))); refine At.v rfl rfl rfl rfl rfl trivial ?_; refine At.cp rfl rfl rfl rfl rfl fun b9 h9 => ?_; refine At.regionEnd ?_
    cases b9
    · refine At.cond rfl ?_
      refine At.skip (At.seq (At.region ?_)); refine At.v rfl rfl rfl rfl rfl trivial ?_; refine At.regionEnd ?_
      exact At.ret Tryz.func141 (.inr ⟨_, rfl⟩) rfl (.tmp rfl .nil) (wk (hc _ _ (⟨by simp_all [resVal, wordM], rfl⟩)))
    · refine At.cond rfl ?_
      refine At.seq (At.region ?_); refine At.v rfl rfl rfl rfl rfl trivial ?_; refine At.regionEnd ?_
      exact At.ret Tryz.func141 (.inr ⟨_, rfl⟩) rfl (.tmp rfl .nil) (wk (hc _ _ (⟨by simp_all [resVal, wordM], rfl⟩)))
  · refine At.cond rfl ?_
    refine At.seq (At.region ?_); refine At.v rfl rfl rfl rfl rfl trivial ?_; refine At.regionEnd ?_
    exact At.ret Tryz.func141 (.inr ⟨_, rfl⟩) rfl (.tmp rfl .nil) (wk (hc _ _ (⟨by simp_all [resVal, wordM], rfl⟩)))
end Go.Gx
end

section
set_option linter.unusedSimpArgs false
set_option linter.unusedVariables false
namespace Go.Gx
open Go Go.Conc Go.Proofs
variable {main : Bool}

/-! ### where a line meets the canvas, and in which row -/
theorem low_den_pos {n d : Int} (hd : d ≠ 0) : 1 ≤ (low n d).2 := lowD_pos hd
theorem frac_le {n d a : Int} (hd : d ≠ 0) (h : 0 < d ∧ a * d ≤ n ∨ d < 0 ∧ n ≤ a * d) : a * (low n d).2 ≤ (low n d).1 := by
  have hc := low_cross (n := n) hd
  have hp := low_den_pos (n := n) hd
  generalize (low n d).1 = x at *
  generalize (low n d).2 = y at *
  have hy : 0 ≤ y := by omega
  have e : a * y * d = a * d * y := Int.mul_right_comm ..
  rcases h with ⟨h0, h⟩ | ⟨h0, h⟩
  · have := Int.mul_le_mul_of_nonneg_right h hy
    rw [← hc, ← e] at this
    exact Int.le_of_mul_le_mul_right this h0
  · have := Int.mul_le_mul_of_nonneg_right h hy
    rw [← hc, ← e] at this
    have h3 : a * y * -d ≤ x * -d := by rw [Int.mul_neg, Int.mul_neg]; omega
    exact Int.le_of_mul_le_mul_right h3 (by omega)
theorem le_frac {n d a : Int} (hd : d ≠ 0) (h : 0 < d ∧ n ≤ a * d ∨ d < 0 ∧ a * d ≤ n) : (low n d).1 ≤ a * (low n d).2 := by
  have hc := low_cross (n := n) hd
  have hp := low_den_pos (n := n) hd
  generalize (low n d).1 = x at *
  generalize (low n d).2 = y at *
  have hy : 0 ≤ y := by omega
  have e : a * y * d = a * d * y := Int.mul_right_comm ..
  rcases h with ⟨h0, h⟩ | ⟨h0, h⟩
  · have := Int.mul_le_mul_of_nonneg_right h hy
    rw [← hc, ← e] at this
    exact Int.le_of_mul_le_mul_right this h0
  · have := Int.mul_le_mul_of_nonneg_right h hy
    rw [← hc, ← e] at this
    have h3 : x * -d ≤ a * y * -d := by rw [Int.mul_neg, Int.mul_neg]; omega
    exact Int.le_of_mul_le_mul_right h3 (by omega)
/-- A point of a piece is between its ends. -/
theorem cross_high {p q : R2} {eye : Int} {s : R2} (hpq : p.2 < q.2) : ∀ x ∈ crossM p q eye s, p.2 * x.2.2 ≤ x.2.1 ∧ x.2.1 ≤ q.2 * x.2.2 := by
  intro x hx
  unfold crossM at hx
  rw [if_neg (by rintro rfl; omega)] at hx
  generalize ha : offL p eye s = a at hx
  generalize hb : offL q eye s = b at hx
  split at hx
  · simp only [List.mem_cons, List.not_mem_nil, or_false] at hx
    rcases hx with rfl | rfl <;> simp only <;> omega
  rename_i h0
  split at hx
  · rename_i hc
    rw [List.mem_singleton] at hx
    subst hx
    simp only
    have hd : a - b ≠ 0 := by omega
    have hpos : 0 < q.2 - p.2 := by omega
    have e1 : p.2 * (a - b) + (q.2 - p.2) * a - q.2 * (a - b) = (q.2 - p.2) * b := by
      rw [Int.sub_mul, Int.sub_mul, Int.mul_sub, Int.mul_sub]
      omega
    refine ⟨frac_le hd ?_, le_frac hd ?_⟩
    · rcases hc with hc | hc
      · refine .inr ⟨by omega, ?_⟩
        have := Int.mul_le_mul_of_nonneg_left hc.1 (Int.le_of_lt hpos)
        rw [Int.mul_zero] at this
        omega
      · refine .inl ⟨by omega, ?_⟩
        have := Int.mul_le_mul_of_nonneg_left hc.1 (Int.le_of_lt hpos)
        rw [Int.mul_zero] at this
        omega
    · rcases hc with hc | hc
      · refine .inr ⟨by omega, ?_⟩
        have := Int.mul_le_mul_of_nonneg_left hc.2 (Int.le_of_lt hpos)
        rw [Int.mul_zero] at this
        omega
      · refine .inl ⟨by omega, ?_⟩
        have := Int.mul_le_mul_of_nonneg_left hc.2 (Int.le_of_lt hpos)
        rw [Int.mul_zero] at this
        omega
  · cases hx
theorem meet_mem {ps : List R2} {eye : Int} {s : R2} {x : Spot} (h : meetM ps eye s = some x) : ∃ p q, (p, q) ∈ ps.zip ps.tail ∧ x ∈ crossM p q eye s := by
  have hx : x ∈ piecesM ps eye s := by
    unfold meetM at h
    split at h
    · cases h
    · rename_i y l e
      cases h
      rw [e]
      exact bestM_mem _ _ _
  unfold piecesM at hx
  obtain ⟨⟨p, q⟩, hpq, hx⟩ := List.mem_flatMap.1 hx
  exact ⟨p, q, hpq, hx⟩
theorem foot_le {B : Bk} (hz : bookBar B = 0) : ∀ p ∈ B.prof, footM B ≤ p.2 := by
  have hpw := prof_pw hz
  have h2 := (bounds_of_bar hz).1
  unfold footM
  cases hB : B.prof with
  | nil => simp
  | cons p0 ps =>
    rw [hB] at hpw
    intro p hp
    rcases List.mem_cons.1 hp with rfl | hp
    · exact Int.le_refl _
    · exact Int.le_of_lt ((List.pairwise_cons.1 hpw).1 p hp)
theorem foot_pos {B : Bk} (hz : bookBar B = 0) : 0 ≤ footM B := by
  have h2 := (bounds_of_bar hz).1
  have hp := (bounds_of_bar hz).2.2.1
  unfold footM
  cases hB : B.prof with
  | nil => rw [hB] at h2; simp at h2
  | cons p0 ps =>
    have := hp p0 (by rw [hB]; exact List.mem_cons_self ..)
    unfold PtOk at this
    simp only [List.headD_cons]
    omega
/-- How high a line meets the canvas. -/
theorem meet_high {B : Bk} (hz : bookBar B = 0) {eye : Int} {s : R2} {x : Spot} (h : meetM B.prof eye s = some x) : footM B * x.2.2 ≤ x.2.1 ∧ x.2.1 ≤ 90 * x.2.2 ∧ 1 ≤ x.2.2 ∨ x.2.2 ≤ 0 := by
  obtain ⟨p, q, hpq, hx⟩ := meet_mem h
  obtain ⟨hp, hq, hlt⟩ := pairs_ok (bounds_of_bar hz).2.2.1 (prof_pw hz) _ hpq
  obtain ⟨h1, h2⟩ := cross_high hlt x hx
  simp only at h1 h2
  by_cases h0 : 1 ≤ x.2.2
  · left
    have hf := foot_le hz p (List.of_mem_zip hpq).1
    simp only at hp hq hlt
    unfold PtOk at hp hq
    have a1 := Int.mul_le_mul_of_nonneg_right hf (show 0 ≤ x.2.2 by omega)
    have a2 := Int.mul_le_mul_of_nonneg_right (show q.2 ≤ 90 by omega) (show 0 ≤ x.2.2 by omega)
    omega
  · right; omega
/-- The row of what is met is a row. -/
theorem row_ok {B : Bk} (hz : bookBar B = 0) {eye : Int} {s : R2} (he : EyeOk eye) (hs : SlOk s) : rowM B eye s = -1 ∨ 0 ≤ rowM B eye s ∧ rowM B eye s ≤ 90 := by
  cases hm : meetM B.prof eye s with
  | none => left; exact rowM_none hm
  | some x =>
    right
    rw [rowM_some hm]
    have hok := meetM_ok (bounds_of_bar hz).2.2.1 he hs hm
    have hh := meet_high hz hm
    have hb := bounds_of_bar hz
    have hf := foot_pos hz
    obtain ⟨-, -, -, h2⟩ := hok
    unfold squareM
    simp only
    generalize hsz : B.size = z at *
    have hd : 0 < z * x.2.2 := Int.mul_pos (by omega) (by omega)
    have hn : 0 ≤ x.2.1 - footM B * x.2.2 := by omega
    refine ⟨Int.tdiv_nonneg hn (Int.le_of_lt hd), ?_⟩
    have h3 : x.2.1 - footM B * x.2.2 ≤ 90 * (z * x.2.2) := by
      have a1 : 0 ≤ footM B * x.2.2 := Int.mul_nonneg hf (by omega)
      have a2 : 1 * x.2.2 ≤ z * x.2.2 := Int.mul_le_mul_of_nonneg_right (by omega) (by omega)
      omega
    rw [Int.tdiv_eq_ediv_of_nonneg hn]
    have := Int.ediv_le_ediv hd h3
    rwa [Int.mul_ediv_cancel _ (by omega)] at this
theorem state_eye {B : Bk} (hz : bookBar B = 0) : ∀ e ∈ statesM B, EyeOk e ∧ B.lo ≤ e ∧ e ≤ B.hi ∧ rightM B e = true := by
  intro e he
  have hb := bounds_of_bar hz
  unfold statesM bandL at he
  obtain ⟨h1, h2⟩ := List.mem_filter.1 he
  obtain ⟨k, hk, rfl⟩ := List.mem_map.1 h1
  rw [List.mem_range] at hk
  unfold EyeOk
  refine ⟨by omega, by omega, by omega, h2⟩
/-! ### the reference's sorting -/
def insS (x : Int) (acc : List Int × Bool) (y : Int) : List Int × Bool :=
  let a := if acc.2 = false ∧ x ≤ y then (acc.1 ++ [x], true) else acc
  (if y ≠ x then a.1 ++ [y] else a.1, a.2)
def insTo (x : Int) (out : List Int) (k : Nat) : List Int × Bool := (out.take k).foldl (insS x) ([], false)
def insR (x : Int) (out : List Int) : List Int := if (out.foldl (insS x) ([], false)).2 then (out.foldl (insS x) ([], false)).1 else (out.foldl (insS x) ([], false)).1 ++ [x]
def sortedR (l : List Int) : List Int := l.foldl (fun out x => insR x out) []
theorem insTo_succ {x : Int} {out : List Int} {k : Nat} (h : k < out.length) : insTo x out (k + 1) = insS x (insTo x out k) out[k] := by
  unfold insTo
  rw [List.take_add_one, List.foldl_append, List.getElem?_eq_getElem h]
  rfl
theorem insTo_len {x : Int} {out : List Int} : ∀ {k : Nat}, k ≤ out.length → (insTo x out k).1.length ≤ k + (if (insTo x out k).2 then 1 else 0)
  | 0, _ => by simp [insTo]
  | k + 1, h => by
    have ih := insTo_len (x := x) (out := out) (k := k) (by omega)
    rw [insTo_succ (by omega)]
    generalize insTo x out k = a at ih ⊢
    obtain ⟨a1, a2⟩ := a
    unfold insS
    generalize out[k] = y
    by_cases h1 : x ≤ y <;> by_cases h2 : y = x <;> cases a2 <;> simp [h1, h2] at ih ⊢ <;> omega
theorem insR_len {x : Int} {out : List Int} : (insR x out).length ≤ out.length + 1 := by
  have h := insTo_len (x := x) (out := out) (k := out.length) (Nat.le_refl _)
  unfold insTo at h
  rw [List.take_length] at h
  unfold insR
  split
  · rename_i h1; rw [if_pos h1] at h; exact h
  · rename_i h1; rw [if_neg h1] at h; rw [List.length_append]; simp; omega
theorem sortedR_succ {l : List Int} {j : Nat} (h : j < l.length) : sortedR (l.take (j + 1)) = insR l[j] (sortedR (l.take j)) := by
  unfold sortedR
  rw [List.take_add_one, List.foldl_append, List.getElem?_eq_getElem h]
  rfl
theorem sortedR_len {l : List Int} : ∀ {j : Nat}, j ≤ l.length → (sortedR (l.take j)).length ≤ j
  | 0, _ => by simp [sortedR]
  | j + 1, h => by
    rw [sortedR_succ (by omega)]
    have := sortedR_len (l := l) (j := j) (by omega)
    have := insR_len (x := l[j]) (out := sortedR (l.take j))
    omega
end Go.Gx
end

section
set_option linter.unusedSimpArgs false
set_option linter.unusedVariables false
namespace Go.Gx
open Go Go.Conc Go.Proofs
variable {main : Bool}

theorem sortM3 (a b c : Int) : sortM [a, b, c] = if b < a then (if c < a then (if c < b then [c, b, a] else [b, c, a]) else [b, a, c]) else (if c < b then (if c < a then [c, a, b] else [a, c, b]) else [a, b, c]) := by
  by_cases h1 : b < a <;> by_cases h2 : c < a <;> by_cases h3 : c < b <;> simp [sortM, outM, innerM, List.range_succ, h1, h2, h3]
theorem sorted_eq : ∀ {l : List Int}, l.length ≤ 3 → sortedR l = compactM (sortM l)
  | [], _ => rfl
  | [a], _ => by simp [sortedR, insR, insS, sortM, outM, innerM, compactM, List.range_succ]
  | [a, b], _ => by
    rcases Int.lt_trichotomy a b with h | h | h
    · have := Int.not_lt.2 (Int.le_of_lt h); have := Int.not_le.2 h; have : a ≠ b := by omega
      simp [sortedR, insR, insS, sortM, outM, innerM, compactM, List.range_succ, *, Ne.symm this]
    · subst h
      simp [sortedR, insR, insS, sortM, outM, innerM, compactM, List.range_succ]
    · have := Int.not_lt.2 (Int.le_of_lt h); have := Int.not_le.2 h; have := Int.le_of_lt h; have : a ≠ b := by omega
      simp [sortedR, insR, insS, sortM, outM, innerM, compactM, List.range_succ, *, Ne.symm this]
  | [a, b, c], _ => by
    rw [sortM3]
    rcases Int.lt_trichotomy a b with h1 | h1 | h1 <;> rcases Int.lt_trichotomy b c with h2 | h2 | h2 <;> rcases Int.lt_trichotomy a c with h3 | h3 | h3 <;> first
      | (exfalso; omega)
      | (try subst h1
         try subst h2
         try subst h3
         simp (disch := omega) [sortedR, insR, insS, compactM, if_pos, if_neg]
         done)
theorem insS_1 {x y : Int} {acc : List Int × Bool} (h : acc.2 = false) (h1 : x ≤ y) (h2 : y ≠ x) : insS x acc y = (acc.1 ++ [x] ++ [y], true) := by simp [insS, h, h1, h2]
theorem insS_2 {x y : Int} {acc : List Int × Bool} (h : acc.2 = false) (h1 : x ≤ y) (h2 : y = x) : insS x acc y = (acc.1 ++ [x], true) := by simp [insS, h, h1, h2]
theorem insS_3 {x y : Int} {acc : List Int × Bool} (h : acc.2 = true ∨ ¬ x ≤ y) (h2 : y ≠ x) : insS x acc y = (acc.1 ++ [y], acc.2) := by
  have : ¬ (acc.2 = false ∧ x ≤ y) := by rintro ⟨a, b⟩; rcases h with h | h; rw [h] at a; cases a; exact h b
  simp only [insS, if_neg this, if_pos h2]
theorem insS_4 {x y : Int} {acc : List Int × Bool} (h : acc.2 = true ∨ ¬ x ≤ y) (h2 : y = x) : insS x acc y = (acc.1, acc.2) := by
  have : ¬ (acc.2 = false ∧ x ≤ y) := by rintro ⟨a, b⟩; rcases h with h | h; rw [h] at a; cases a; exact h b
  simp only [insS, if_neg this, if_neg (show ¬ y ≠ x from fun h => h h2)]
set_option maxRecDepth 100000 in
set_option maxHeartbeats 4000000 in
/-- Sorted (ref01) -/
theorem s140 (L : Lg Tryz.prog main) (H : Facts) {a : Option Addr} {n cap : Nat} {xs : List Int} (hn : xs.length = n) (hr : Rd H a (xs.flatMap c1)) (hl : xs.length ≤ 1000) :
    Grows L 140 #[.slice a n cap] H (fun v sf => ∃ a' cap', v = .slice a' (sortedR xs).length cap' ∧ Sl c1 3 (.slice a' (sortedR xs).length cap') (sortedR xs) sf) := by
  subst hn
  refine Spec.enter Tryz.func140 rfl (by simp [Tryz.f140]) fun c cs hc => ?_; refine At.seq (At.region ?_); refine At.v rfl rfl rfl rfl rfl trivial ?_; refine At.regionEnd (At.seq (At.region ?_)); refine At.v rfl rfl rfl rfl rfl trivial ?_; refine At.regionEnd (At.seq (At.seq (At.region ?_))); refine At.v rfl rfl rfl rfl rfl trivial ?_; refine At.regionEnd ?_; refine At.block ?_
  refine At.lpk (X := { x : Nat × Value × Facts // x.1 ≤ xs.length ∧ Sl c1 3 x.2.1 (sortedR (xs.take x.1)) x.2.2 }) [0, 2] (fun x => [(4, .int .i64 (x.1.1 : Int)), (3, x.1.2.1)]) (fun x => x.1.2.2 ++ H) (fun x => xs.length - x.1.1) (⟨(0, .slice none 0 0, []), Nat.zero_le _, Sl.nil⟩) rfl ?_ (by repeat (first | exact trivial | refine ⟨rfl, ?_⟩)) sb
  rintro ⟨⟨j, v, sf⟩, hj, hsl⟩ again
  simp only at again hj hsl ⊢
  have hlen := sortedR_len hj
  refine At.seq (At.seq (At.region ?_)); (iterate 2 refine At.v rfl rfl rfl rfl rfl trivial ?_); refine At.ln rfl rfl rfl rfl rfl rfl rfl rfl ?_; refine At.cp rfl rfl rfl rfl rfl fun b11 h11 => ?_; refine At.regionEnd ?_
  cases b11
  · have e : j = xs.length := by simp at h11; omega
    subst e
    rw [List.take_length] at hsl
    obtain ⟨a', cap', rfl⟩ := hsl.slice
    refine At.cond rfl ?_; refine At.exit rfl ?_; refine At.seq (At.region ?_); (iterate 2 refine At.v rfl rfl rfl rfl rfl trivial ?_); refine At.regionEnd ?_
    exact At.ret Tryz.func140 (.inr ⟨_, rfl⟩) rfl (.tmp rfl .nil) (wk (hc _ _ (⟨sf, ⟨a', cap', rfl, hsl⟩, rfl⟩)))
  · have hlt : j < xs.length := by simp at h11; omega
    obtain ⟨b, off, rfl, hcj⟩ := hr.el (List.getElem?_eq_getElem hlt)
    have hsc := sortedR_succ hlt
    generalize hout : sortedR (xs.take j) = out at hsl hlen hsc
    generalize hx : xs[j] = x at hcj hsc
    obtain ⟨a1, cap1, rfl⟩ := hsl.slice
    obtain ⟨_, hro, _⟩ := hsl.rd
    refine At.cond rfl ?_; refine At.skip (At.seq ?_); refine At.block ?_; refine At.seq (At.region ?_); refine At.v rfl rfl rfl rfl rfl trivial ?_; refine At.regionEnd (At.seq (At.region ?_)); refine At.v rfl rfl rfl rfl rfl trivial ?_; refine At.regionEnd (At.seq (At.seq (At.region ?_))); refine At.v rfl rfl rfl rfl rfl trivial ?_; refine At.regionEnd ?_; refine At.block ?_
    refine At.lpk (X := { y : Nat × Bool × Value × Facts // y.1 ≤ out.length ∧ (insTo x out y.1).2 = y.2.1 ∧ Sl c1 3 y.2.2.1 (insTo x out y.1).1 y.2.2.2 }) [0, 2, 3, 4, 8, 9, 10, 11] (fun y => [(7, .int .i64 (y.1.1 : Int)), (6, .bool y.1.2.1), (5, y.1.2.2.1)]) (fun y => y.1.2.2.2 ++ (sf ++ H)) (fun y => out.length - y.1.1) (⟨(0, false, .slice none 0 0, []), Nat.zero_le _, rfl, Sl.nil⟩) rfl ?_ (by repeat (first | exact trivial | refine ⟨rfl, ?_⟩)) sb
    rintro ⟨⟨k, put, v2, sf2⟩, hk, hp2, hs2⟩ again2
    simp only at again2 hk hp2 hs2 ⊢
    have hl2 := insTo_len (x := x) (out := out) hk
    have hl3 : (insTo x out k).1.length ≤ 2000 := by split at hl2 <;> omega
    refine At.seq (At.seq (At.region ?_)); (iterate 2 refine At.v rfl rfl rfl rfl rfl trivial ?_); refine At.ln rfl rfl rfl rfl rfl rfl rfl rfl ?_; refine At.cp rfl rfl rfl rfl rfl fun b17 h17 => ?_; refine At.regionEnd ?_
    cases b17
    · have e : k = out.length := by simp at h17; omega
      subst e
      have eF : out.foldl (insS x) ([], false) = insTo x out out.length := by unfold insTo; rw [List.take_length]
      unfold insR at hsc
      rw [eF] at hsc
      generalize insTo x out out.length = acc at hp2 hs2 hsc hl2 hl3
      cases put
      · rw [if_neg (by rw [hp2]; simp)] at hsc
        refine At.cond rfl ?_; refine At.exit rfl ?_; refine At.seq (At.seq (At.region ?_)); (iterate 2 refine At.v rfl rfl rfl rfl rfl trivial ?_); refine At.regionEnd ?_; refine At.cond rfl ?_; refine At.region ?_; (iterate 3 refine At.v rfl rfl rfl rfl rfl trivial ?_); refine At.q rfl rfl rfl rfl (q_ia rfl rfl rfl (by assumption)) ?_; refine At.ldc rfl rfl rfl rfl rfl rfl hcj.a rfl rfl ?_
        (refine At.l rfl rfl rfl rfl (l_buildSlice rfl rfl rfl rfl rfl) ?_; rintro _ _ ⟨r63, rfl, rfl⟩)
        refine At.push (x := x) 0 1 rfl rfl rfl rfl rfl rfl rfl rfl rfl rfl rfl rfl rfl rfl hs2 rfl rfl rfl ?_ fun v sf hs => ?_
        · omega
        · rw [← hsc] at hs
          refine At.v rfl rfl rfl rfl rfl trivial ?_; refine At.regionEnd (At.region ?_); (iterate 2 refine At.v rfl rfl rfl rfl rfl trivial ?_); refine At.regionEnd ?_; refine At.inBlock ?_; refine At.region ?_; refine At.v rfl rfl rfl rfl rfl trivial ?_; refine At.v rfl rfl rfl rfl rfl (by omega) ?_; refine At.v rfl rfl rfl rfl rfl trivial ?_; refine At.regionEnd ?_
          refine At.tA ((again ⟨(j + 1, v, sf), hlt, hs⟩ (by simp; omega)))
      · rw [if_pos hp2] at hsc
        rw [← hsc] at hs2
        refine At.cond rfl ?_; refine At.exit rfl ?_; refine At.seq (At.seq (At.region ?_)); (iterate 2 refine At.v rfl rfl rfl rfl rfl trivial ?_); refine At.regionEnd ?_; refine At.cond rfl ?_; refine At.skip (At.region ?_); (iterate 2 refine At.v rfl rfl rfl rfl rfl trivial ?_); refine At.regionEnd ?_; refine At.inBlock ?_; refine At.region ?_; refine At.v rfl rfl rfl rfl rfl trivial ?_; refine At.v rfl rfl rfl rfl rfl (by omega) ?_; refine At.v rfl rfl rfl rfl rfl trivial ?_; refine At.regionEnd ?_
        refine At.tA ((again ⟨(j + 1, v2, sf2), hlt, hs2⟩ (by simp; omega)))
    · have hk' : k < out.length := by simp at h17; omega
      obtain ⟨b', off', rfl, hck⟩ := hro.el (List.getElem?_eq_getElem hk')
      have hsi := insTo_succ (x := x) hk'
      generalize hy : out[k] = y at hck hsi
      generalize insTo x out k = acc at hp2 hs2 hsi hl2 hl3
      cases put
      · refine At.cond rfl ?_
        refine At.skip (At.seq ?_); refine At.block ?_; refine At.seq (At.seq ?_); refine At.drawJ hmix [] rfl ?_; refine Pool.v 0 rfl rfl rfl rfl rfl rfl rfl trivial ?_; refine Pool.v 1 rfl rfl rfl rfl rfl rfl rfl trivial ?_; refine Pool.v 2 rfl rfl rfl rfl rfl rfl rfl trivial ?_; refine Pool.v 3 rfl rfl rfl rfl rfl rfl rfl trivial ?_; refine Pool.v 4 rfl rfl rfl rfl rfl rfl rfl trivial ?_; refine Pool.q 5 rfl rfl rfl rfl rfl (q_ia rfl rfl rfl (by assumption)) rfl ?_
        refine Pool.ldc 6 rfl rfl rfl rfl rfl rfl rfl hck.a rfl rfl rfl ?_; refine Pool.v 7 rfl rfl rfl rfl rfl rfl rfl trivial ?_; refine Pool.v 8 rfl rfl rfl rfl rfl rfl rfl trivial ?_; refine Pool.q 9 rfl rfl rfl rfl rfl (q_ia rfl rfl rfl (by assumption)) rfl ?_; refine Pool.ldc 10 rfl rfl rfl rfl rfl rfl rfl hcj.a rfl rfl rfl ?_; refine Pool.cp 11 rfl rfl rfl rfl rfl rfl rfl fun b31 h31 => ?_; refine Pool.v 12 rfl rfl rfl rfl rfl rfl rfl trivial ?_; refine pool_done rfl rfl ?_; refine At.regionEnd ?_
        cases b31
        · have g1 : ¬ x ≤ y := by simpa using h31
          refine At.cond rfl ?_; refine At.skip (At.seq ?_); refine At.drawJ hmix [] rfl ?_; refine Pool.v 0 rfl rfl rfl rfl rfl rfl rfl trivial ?_; refine Pool.v 1 rfl rfl rfl rfl rfl rfl rfl trivial ?_; refine Pool.q 2 rfl rfl rfl rfl rfl (q_ia rfl rfl rfl (by assumption)) rfl ?_; refine Pool.ldc 3 rfl rfl rfl rfl rfl rfl rfl hck.a rfl rfl rfl ?_; refine Pool.v 4 rfl rfl rfl rfl rfl rfl rfl trivial ?_; refine Pool.v 5 rfl rfl rfl rfl rfl rfl rfl trivial ?_
          refine Pool.q 6 rfl rfl rfl rfl rfl (q_ia rfl rfl rfl (by assumption)) rfl ?_; refine Pool.ldc 7 rfl rfl rfl rfl rfl rfl rfl hcj.a rfl rfl rfl ?_; refine Pool.cp 8 rfl rfl rfl rfl rfl rfl rfl fun b48 h48 => ?_; refine pool_done rfl rfl ?_; refine At.regionEnd ?_
          cases b48
          · have g2 : y = x := by simpa using h48
            rw [insS_4 (.inr g1) g2] at hsi
            refine At.cond rfl ?_; refine At.skip ?_; refine At.inBlock ?_; refine At.region ?_; refine At.v rfl rfl rfl rfl rfl trivial ?_; refine At.v rfl rfl rfl rfl rfl (by omega) ?_; refine At.v rfl rfl rfl rfl rfl trivial ?_; refine At.regionEnd ?_
            refine At.tA ((again2 ⟨(k + 1, false, v2, sf2), hk', by rw [hsi]; exact hp2, by rw [hsi]; exact hs2⟩ (by simp; omega)))
          · have g2 : y ≠ x := by simpa using h48
            rw [insS_3 (.inr g1) g2] at hsi
            refine At.cond rfl ?_; refine At.region ?_; (iterate 3 refine At.v rfl rfl rfl rfl rfl trivial ?_); refine At.q rfl rfl rfl rfl (q_ia rfl rfl rfl (by assumption)) ?_; refine At.ldc rfl rfl rfl rfl rfl rfl hck.a rfl rfl ?_
            (refine At.l rfl rfl rfl rfl (l_buildSlice rfl rfl rfl rfl rfl) ?_; rintro _ _ ⟨r54, rfl, rfl⟩)
            refine At.push (x := y) 0 1 rfl rfl rfl rfl rfl rfl rfl rfl rfl rfl rfl rfl rfl rfl hs2 rfl rfl rfl ?_ fun v sf hs => ?_
            · omega
            · refine At.v rfl rfl rfl rfl rfl trivial ?_
              refine At.regionEnd ?_; refine At.inBlock ?_; refine At.region ?_; refine At.v rfl rfl rfl rfl rfl trivial ?_; refine At.v rfl rfl rfl rfl rfl (by omega) ?_; refine At.v rfl rfl rfl rfl rfl trivial ?_; refine At.regionEnd ?_
              refine At.tA ((again2 ⟨(k + 1, false, v, sf), hk', by rw [hsi]; exact hp2, by rw [hsi]; exact hs⟩ (by simp; omega)))
        · have g1 : x ≤ y := by simpa using h31
          refine At.cond rfl ?_; refine At.seq (At.region ?_); (iterate 3 refine At.v rfl rfl rfl rfl rfl trivial ?_); refine At.q rfl rfl rfl rfl (q_ia rfl rfl rfl (by assumption)) ?_; refine At.ldc rfl rfl rfl rfl rfl rfl hcj.a rfl rfl ?_
          (refine At.l rfl rfl rfl rfl (l_buildSlice rfl rfl rfl rfl rfl) ?_; rintro _ _ ⟨r38, rfl, rfl⟩)
          refine At.push (x := x) 0 1 rfl rfl rfl rfl rfl rfl rfl rfl rfl rfl rfl rfl rfl rfl hs2 rfl rfl rfl ?_ fun v sf hs => ?_
          · omega
          · have hs3 := hs
            refine At.v rfl rfl rfl rfl rfl trivial ?_; refine At.regionEnd (At.region ?_); refine At.v rfl rfl rfl rfl rfl trivial ?_; refine At.regionEnd (At.seq ?_); refine At.drawJ hmix [] rfl ?_; refine Pool.v 0 rfl rfl rfl rfl rfl rfl rfl trivial ?_; refine Pool.v 1 rfl rfl rfl rfl rfl rfl rfl trivial ?_; refine Pool.q 2 rfl rfl rfl rfl rfl (q_ia rfl rfl rfl (by assumption)) rfl ?_; refine Pool.ldc 3 rfl rfl rfl rfl rfl rfl rfl hck.a rfl rfl rfl ?_; refine Pool.v 4 rfl rfl rfl rfl rfl rfl rfl trivial ?_
            refine Pool.v 5 rfl rfl rfl rfl rfl rfl rfl trivial ?_; refine Pool.q 6 rfl rfl rfl rfl rfl (q_ia rfl rfl rfl (by assumption)) rfl ?_; refine Pool.ldc 7 rfl rfl rfl rfl rfl rfl rfl hcj.a rfl rfl rfl ?_; refine Pool.cp 8 rfl rfl rfl rfl rfl rfl rfl fun b48 h48 => ?_; refine pool_done rfl rfl ?_; refine At.regionEnd ?_
            cases b48
            · have g2 : y = x := by simpa using h48
              rw [insS_2 hp2 g1 g2] at hsi
              refine At.cond rfl ?_; refine At.skip ?_; refine At.inBlock ?_; refine At.region ?_; refine At.v rfl rfl rfl rfl rfl trivial ?_; refine At.v rfl rfl rfl rfl rfl (by omega) ?_; refine At.v rfl rfl rfl rfl rfl trivial ?_; refine At.regionEnd ?_
              refine At.tA ((again2 ⟨(k + 1, true, v, sf), hk', by rw [hsi], by rw [hsi]; exact hs3⟩ (by simp; omega)))
            · have g2 : y ≠ x := by simpa using h48
              rw [insS_1 hp2 g1 g2] at hsi
              refine At.cond rfl ?_; refine At.region ?_; (iterate 3 refine At.v rfl rfl rfl rfl rfl trivial ?_); refine At.q rfl rfl rfl rfl (q_ia rfl rfl rfl (by assumption)) ?_; refine At.ldc rfl rfl rfl rfl rfl rfl hck.a rfl rfl ?_
              (refine At.l rfl rfl rfl rfl (l_buildSlice rfl rfl rfl rfl rfl) ?_; rintro _ _ ⟨r54, rfl, rfl⟩)
              refine At.push (x := y) 0 2 rfl rfl rfl rfl rfl rfl rfl rfl rfl rfl rfl rfl rfl rfl hs3 rfl rfl rfl ?_ fun v sf hs => ?_
              · simp; omega
              · refine At.v rfl rfl rfl rfl rfl trivial ?_
                refine At.regionEnd ?_; refine At.inBlock ?_; refine At.region ?_; refine At.v rfl rfl rfl rfl rfl trivial ?_; refine At.v rfl rfl rfl rfl rfl (by omega) ?_; refine At.v rfl rfl rfl rfl rfl trivial ?_; refine At.regionEnd ?_
                refine At.tA ((again2 ⟨(k + 1, true, v, sf), hk', by rw [hsi], by rw [hsi]; exact hs⟩ (by simp; omega)))
      · refine At.cond rfl ?_
        refine At.skip (At.seq ?_); refine At.block ?_; refine At.seq (At.seq ?_); refine At.drawJ hmix [] rfl ?_; refine Pool.v 0 rfl rfl rfl rfl rfl rfl rfl trivial ?_; refine Pool.v 1 rfl rfl rfl rfl rfl rfl rfl trivial ?_; refine Pool.v 2 rfl rfl rfl rfl rfl rfl rfl trivial ?_; refine Pool.un 3 rfl rfl rfl rfl rfl rfl ?_; refine Pool.un 4 rfl rfl rfl rfl rfl rfl ?_; refine Pool.un 5 rfl rfl rfl rfl rfl rfl ?_; refine Pool.un 6 rfl rfl rfl rfl rfl rfl ?_; refine Pool.un 7 rfl rfl rfl rfl rfl rfl ?_
        refine Pool.un 8 rfl rfl rfl rfl rfl rfl ?_; refine Pool.un 9 rfl rfl rfl rfl rfl rfl ?_; refine Pool.un 10 rfl rfl rfl rfl rfl rfl ?_; refine Pool.un 11 rfl rfl rfl rfl rfl rfl ?_; refine Pool.v 12 rfl rfl rfl rfl rfl rfl rfl trivial ?_; refine pool_done rfl rfl ?_; refine At.regionEnd ?_; refine At.cond rfl ?_; refine At.skip (At.seq ?_); refine At.drawJ hmix [] rfl ?_; refine Pool.v 0 rfl rfl rfl rfl rfl rfl rfl trivial ?_; refine Pool.v 1 rfl rfl rfl rfl rfl rfl rfl trivial ?_
        refine Pool.q 2 rfl rfl rfl rfl rfl (q_ia rfl rfl rfl (by assumption)) rfl ?_; refine Pool.ldc 3 rfl rfl rfl rfl rfl rfl rfl hck.a rfl rfl rfl ?_; refine Pool.v 4 rfl rfl rfl rfl rfl rfl rfl trivial ?_; refine Pool.v 5 rfl rfl rfl rfl rfl rfl rfl trivial ?_; refine Pool.q 6 rfl rfl rfl rfl rfl (q_ia rfl rfl rfl (by assumption)) rfl ?_; refine Pool.ldc 7 rfl rfl rfl rfl rfl rfl rfl hcj.a rfl rfl rfl ?_; refine Pool.cp 8 rfl rfl rfl rfl rfl rfl rfl fun b48 h48 => ?_; refine pool_done rfl rfl ?_
        refine At.regionEnd ?_
        cases b48
        · have g2 : y = x := by simpa using h48
          rw [insS_4 (.inl hp2) g2] at hsi
          refine At.cond rfl ?_; refine At.skip ?_; refine At.inBlock ?_; refine At.region ?_; refine At.v rfl rfl rfl rfl rfl trivial ?_; refine At.v rfl rfl rfl rfl rfl (by omega) ?_; refine At.v rfl rfl rfl rfl rfl trivial ?_; refine At.regionEnd ?_
          refine At.tA ((again2 ⟨(k + 1, true, v2, sf2), hk', by rw [hsi]; exact hp2, by rw [hsi]; exact hs2⟩ (by simp; omega)))
        · have g2 : y ≠ x := by simpa using h48
          rw [insS_3 (.inl hp2) g2] at hsi
          refine At.cond rfl ?_; refine At.region ?_; (iterate 3 refine At.v rfl rfl rfl rfl rfl trivial ?_); refine At.q rfl rfl rfl rfl (q_ia rfl rfl rfl (by assumption)) ?_; refine At.ldc rfl rfl rfl rfl rfl rfl hck.a rfl rfl ?_
          (refine At.l rfl rfl rfl rfl (l_buildSlice rfl rfl rfl rfl rfl) ?_; rintro _ _ ⟨r54, rfl, rfl⟩)
          refine At.push (x := y) 0 1 rfl rfl rfl rfl rfl rfl rfl rfl rfl rfl rfl rfl rfl rfl hs2 rfl rfl rfl ?_ fun v sf hs => ?_
          · omega
          · refine At.v rfl rfl rfl rfl rfl trivial ?_
            refine At.regionEnd ?_; refine At.inBlock ?_; refine At.region ?_; refine At.v rfl rfl rfl rfl rfl trivial ?_; refine At.v rfl rfl rfl rfl rfl (by omega) ?_; refine At.v rfl rfl rfl rfl rfl trivial ?_; refine At.regionEnd ?_
            refine At.tA ((again2 ⟨(k + 1, true, v, sf), hk', by rw [hsi]; exact hp2, by rw [hsi]; exact hs⟩ (by simp; omega)))
set_option maxRecDepth 100000 in
set_option maxHeartbeats 4000000 in
/-- CheckLooks (ref02) -/
theorem s57 (L : Lg Tryz.prog main) (H : Facts) {a : Option Addr} {n cap : Nat} {ss : List R2} (hn : ss.length = n) (hr : Rd H a (ss.flatMap c2)) (hl : ss.length ≤ 1000) : Pure L 57 #[.slice a n cap] H (.int .i64 (looksBar ss)) := by
  subst hn
  refine Spec.enter Tryz.func57 rfl (by simp [Tryz.f57]) fun c cs hc => ?_
  unfold looksBar at hc
  refine At.seq (At.region ?_); refine At.v rfl rfl rfl rfl rfl trivial ?_; refine At.regionEnd (At.seq (At.seq (At.region ?_))); refine At.v rfl rfl rfl rfl rfl trivial ?_; refine At.ln rfl rfl rfl rfl rfl rfl rfl rfl ?_; refine At.cqb rfl rfl rfl rfl rfl rfl rfl rfl (s43 L _) fun b7 h7 => ?_; refine At.v rfl rfl rfl rfl rfl trivial ?_; refine At.regionEnd ?_
  cases b7
  · have e : ¬ (1 ≤ ss.length ∧ ss.length ≤ 6) := by simp at h7; omega
    simp only [if_pos e] at hc
    refine At.cond rfl ?_; refine At.seq (At.region ?_); refine At.v rfl rfl rfl rfl rfl trivial ?_; refine At.regionEnd ?_
    exact At.ret Tryz.func57 (.inr ⟨_, rfl⟩) rfl (.tmp rfl .nil) (wk (hc _ _ (⟨by rfl, rfl⟩)))
  have e : ¬ ¬ (1 ≤ ss.length ∧ ss.length ≤ 6) := by simp at h7; omega
  simp only [if_neg e] at hc
  refine At.cond rfl ?_; refine At.skip (At.seq (At.seq (At.region ?_))); refine At.v rfl rfl rfl rfl rfl trivial ?_; refine At.regionEnd ?_; refine At.block ?_
  refine At.lpk (X := { j : Nat // j ≤ ss.length ∧ slsBar (ss.drop j) = slsBar ss }) [0] (fun x => [(3, .int .i64 (x.1 : Int))]) (fun _ => H) (fun x => ss.length - x.1) (⟨0, Nat.zero_le _, rfl⟩) rfl ?_ (by repeat (first | exact trivial | refine ⟨rfl, ?_⟩)) sb
  rintro ⟨j, hj, hd⟩ again
  simp only at again ⊢
  refine At.seq (At.seq (At.region ?_)); (iterate 2 refine At.v rfl rfl rfl rfl rfl trivial ?_); refine At.ln rfl rfl rfl rfl rfl rfl rfl rfl ?_; refine At.cp rfl rfl rfl rfl rfl fun b12 h12 => ?_; refine At.regionEnd ?_
  cases b12
  · have e : j = ss.length := by simp at h12; omega
    subst e
    rw [List.drop_length] at hd
    refine At.cond rfl ?_; refine At.exit rfl ?_; refine At.seq (At.region ?_); refine At.v rfl rfl rfl rfl rfl trivial ?_; refine At.regionEnd ?_
    exact At.ret Tryz.func57 (.inr ⟨_, rfl⟩) rfl (.tmp rfl .nil) (wk (hc _ _ (⟨by rw [← hd]; rfl, rfl⟩)))
  · have hlt : j < ss.length := by simp at h12; omega
    obtain ⟨b, off, rfl, hc1⟩ := hr.el (List.getElem?_eq_getElem hlt)
    rw [List.drop_eq_getElem_cons hlt, slsBar] at hd
    refine At.cond rfl ?_; refine At.skip (At.seq ?_); refine At.block ?_; refine At.seq (At.region ?_); (iterate 2 refine At.v rfl rfl rfl rfl rfl trivial ?_); refine At.q rfl rfl rfl rfl (q_ia rfl rfl rfl (by assumption)) ?_; refine At.ldc rfl rfl rfl rfl rfl rfl hc1.a rfl rfl ?_; refine At.cq rfl rfl rfl rfl rfl rfl rfl rfl (s47 L _) ?_; refine At.v rfl rfl rfl rfl rfl trivial ?_; refine At.regionEnd (At.seq (At.region ?_)); refine At.v rfl rfl rfl rfl rfl trivial ?_
    refine At.cp rfl rfl rfl rfl rfl fun b21 h21 => ?_; refine At.regionEnd ?_
    cases b21
    · have e3 : slopeBar ss[j].1 ss[j].2 = 0 := by simpa using h21
      rw [if_neg (by simpa using e3)] at hd
      refine At.cond rfl ?_; refine At.skip ?_; refine At.inBlock ?_; refine At.region ?_; refine At.v rfl rfl rfl rfl rfl trivial ?_; refine At.v rfl rfl rfl rfl rfl (by omega) ?_; refine At.v rfl rfl rfl rfl rfl trivial ?_; refine At.regionEnd ?_
      refine At.tA ((again ⟨j + 1, hlt, hd⟩ (by simp; omega)))
    · have e3 : slopeBar ss[j].1 ss[j].2 ≠ 0 := by simpa using h21
      rw [if_pos e3] at hd
      refine At.cond rfl ?_; refine At.seq (At.region ?_); (iterate 2 refine At.v rfl rfl rfl rfl rfl trivial ?_); refine At.regionEnd ?_
      exact At.ret Tryz.func57 (.inr ⟨_, rfl⟩) rfl (.tmp rfl .nil) (wk (hc _ _ (⟨by rw [← hd]; rfl, rfl⟩)))
end Go.Gx
end

section
set_option linter.unusedSimpArgs false
set_option linter.unusedVariables false
namespace Go.Gx
open Go Go.Conc Go.Proofs
variable {main : Bool}

theorem kn_book {B : Bk} {r : Int} (h : knR B r = 0) : bookBar B = 0 := by
  unfold knR at h
  split at h
  · exact h
  · rename_i h1; simpa using h1
theorem kn_rest {B : Bk} {r : Int} (h : knR B r = 0) : r = 0 := by
  have hz := kn_book h
  unfold knR at h
  rw [if_neg (by simpa using hz)] at h
  split at h
  · exact h
  · rename_i h1; simpa using h1
theorem kn_states {B : Bk} {r : Int} (h : knR B r = 0) : (statesM B).length ≠ 0 := by
  have hz := kn_book h
  have hr := kn_rest h
  unfold knR at h
  rw [if_neg (by simpa using hz), if_neg (by simpa using hr)] at h
  intro e
  rw [if_pos e] at h
  cases h
set_option maxRecDepth 100000 in
set_option maxHeartbeats 4000000 in
/-- Rows (ref02) -/
theorem s70 (L : Lg Tryz.prog main) (H : Facts) {B : Bk} {A : BkA} {s : R2} (hB : BkR H B A) (hlp : B.prof.length ≤ 100000) (hlm : B.marks.length ≤ 100000) :
    Grows L 70 #[bkV B A, rV s] H (fun v sf => ∃ a cap, v = .tuple #[.slice a (if knownBar B [slopeBar s.1 s.2] ≠ 0 then [] else rowsM B s).length cap, .int .i64 (if knownBar B [slopeBar s.1 s.2] ≠ 0 then 0 else wordM (statesM B).length (((rowsOf B s).count (-1) : Nat) : Int)), .int .i64 (knownBar B [slopeBar s.1 s.2])] ∧
      Sl c1 3 (.slice a (if knownBar B [slopeBar s.1 s.2] ≠ 0 then [] else rowsM B s).length cap) (if knownBar B [slopeBar s.1 s.2] ≠ 0 then [] else rowsM B s) sf) := by
  refine Spec.enter Tryz.func70 rfl (by simp [Tryz.f70]) fun c cs hc => ?_
  rw [← knR_eq, firstBar1] at hc
  refine At.seq (At.region ?_); refine At.bx rfl rfl rfl rfl rfl rfl rfl fun r2 => ?_; refine At.bx rfl rfl rfl rfl rfl rfl rfl fun r3 => ?_; (iterate 3 refine At.v rfl rfl rfl rfl rfl trivial ?_); refine At.regionEnd (At.seq ?_); refine At.draw hmix (_) sb ?_; refine Pool.ld 1 0 rfl rfl rfl rfl rfl rfl rfl rfl rfl rfl rfl ?_; refine Pool.ld 0 1 rfl rfl rfl rfl rfl rfl rfl rfl rfl rfl rfl ?_; refine Pool.cq 2 rfl rfl rfl rfl rfl rfl rfl rfl rfl (fun H hs => s47 L H) ?_
  refine Pool.cl 3 rfl rfl rfl rfl rfl rfl rfl rfl rfl rfl rfl rfl rfl rfl (fun H_ hs_ => s139 L H_ hB.a hlp hlm) sb ?_
  rintro v sf ⟨a, cap, rfl, hsl⟩
  refine Pool.v 4 rfl rfl rfl rfl rfl rfl rfl trivial ?_; refine Pool.v 5 rfl rfl rfl rfl rfl rfl rfl trivial ?_; refine Pool.v 6 rfl rfl rfl rfl rfl rfl rfl trivial ?_; refine Pool.v 7 rfl rfl rfl rfl rfl rfl rfl trivial ?_; refine Pool.v 8 rfl rfl rfl rfl rfl rfl rfl trivial ?_; refine pool_done rfl rfl ?_; refine At.regionEnd (At.seq (At.seq (At.region ?_))); refine At.v rfl rfl rfl rfl rfl trivial ?_; refine At.cp rfl rfl rfl rfl rfl fun b21 h21 => ?_; refine At.regionEnd ?_; refine At.back ?_
  cases b21
  rotate_left
  · have e : knR B (slopeBar s.1 s.2) ≠ 0 := by simpa using h21
    simp only [if_pos e] at hc
    refine At.cond rfl ?_; refine At.seq (At.region ?_); (iterate 4 refine At.v rfl rfl rfl rfl rfl trivial ?_); refine At.regionEnd ?_
    exact At.ret Tryz.func70 (.inr ⟨_, rfl⟩) rfl (.tmp rfl (.tmp rfl (.tmp rfl .nil))) (wk (hc _ _ (⟨[], ⟨none, 0, rfl, Sl.nil⟩, rfl⟩)))
  have e : knR B (slopeBar s.1 s.2) = 0 := by simpa using h21
  have hz : bookBar B = 0 := kn_book e
  have hs : SlOk s := slOk_of s (kn_rest e)
  simp only [e, ne_eq, not_true_eq_false, if_false] at hc hsl ⊢
  have hst := state_eye hz
  have hl3 := statesM_len hz
  obtain ⟨_, hrs, _⟩ := hsl.rd
  have hrl : (rowsOf B s).length = (statesM B).length := by simp [rowsOf]
  refine At.cond rfl ?_; refine At.skip (At.seq (At.region ?_)); refine At.v rfl rfl rfl rfl rfl trivial ?_; refine At.regionEnd (At.seq (At.region ?_)); refine At.v rfl rfl rfl rfl rfl trivial ?_; refine At.regionEnd (At.seq (At.seq (At.region ?_))); refine At.v rfl rfl rfl rfl rfl trivial ?_; refine At.regionEnd ?_; refine At.block ?_
  refine At.lpk (X := { x : Nat × Nat × Value × Facts // x.1 ≤ (rowsOf B s).length ∧ x.2.1 = ((rowsOf B s).take x.1).count (-1) ∧ Sl c1 3 x.2.2.1 (((rowsOf B s).take x.1).filter fun r => decide (r ≠ -1)) x.2.2.2 }) [2, 3, 4, 5, 6, 7] (fun x => [(11, .int .i64 (x.1.1 : Int)), (10, .int .i64 (x.1.2.1 : Int)), (9, x.1.2.2.1)]) (fun x => .own r3 (.cells (List.toArray (c2 s)) 29 (0, 0)) :: .own r2 (.cells (List.toArray (bkC B A)) 27 (0, 0)) :: (x.1.2.2.2 ++ (sf ++ H))) (fun x => (rowsOf B s).length - x.1.1) (⟨(0, 0, .slice none 0 0, []), Nat.zero_le _, rfl, Sl.nil⟩) rfl ?_ (by repeat (first | exact trivial | refine ⟨rfl, ?_⟩)) sb
  rintro ⟨⟨j, n, v, sr⟩, hj, hn, hsr⟩ again
  simp only at again hj hn hsr ⊢
  have hnl : n ≤ 3 := by
    have := List.count_le_length (a := (-1 : Int)) (l := (rowsOf B s).take j)
    rw [List.length_take] at this
    omega
  have hfl : (((rowsOf B s).take j).filter fun r => decide (r ≠ -1)).length ≤ 3 := Nat.le_trans (List.length_filter_le _ _) (by rw [List.length_take]; omega)
  refine At.seq (At.seq (At.region ?_)); (iterate 2 refine At.v rfl rfl rfl rfl rfl trivial ?_); refine At.ln rfl rfl rfl rfl rfl rfl rfl rfl ?_; refine At.cp rfl rfl rfl rfl rfl fun b26 h26 => ?_; refine At.regionEnd ?_
  cases b26
  · have e : j = (rowsOf B s).length := by simp at h26; omega
    subst e
    rw [List.take_length] at hsr hn hfl
    obtain ⟨a', cap', rfl⟩ := hsr.slice
    obtain ⟨_, hrr, _⟩ := hsr.rd
    have eR : rowsM B s = sortedR ((rowsOf B s).filter fun r => decide (r ≠ -1)) := (sorted_eq hfl).symm
    rw [eR] at hc
    subst hn
    have stop140 := trivial
    refine At.cond rfl ?_; refine At.exit rfl ?_; refine At.seq (At.region ?_); refine At.v rfl rfl rfl rfl rfl trivial ?_
    clear stop140
    refine At.cl rfl rfl rfl rfl rfl rfl rfl rfl (s140 L _ (xs := (rowsOf B s).filter fun r => decide (r ≠ -1)) rfl hrr.a (by omega)) ?_
    rintro _ _ ⟨sf', ⟨a2, cap2, rfl, hs'⟩, rfl⟩
    refine At.back ?_; (iterate 2 refine At.v rfl rfl rfl rfl rfl trivial ?_); refine At.ln rfl rfl rfl rfl rfl rfl rfl rfl ?_; refine At.cq rfl rfl rfl rfl rfl rfl rfl rfl (s141 L _) ?_; (iterate 3 refine At.v rfl rfl rfl rfl rfl trivial ?_); refine At.regionEnd ?_
    exact At.ret Tryz.func70 (.inr ⟨_, rfl⟩) rfl (.tmp rfl (.tmp rfl (.tmp rfl .nil))) (wk (hc _ _ (⟨sf', ⟨a2, cap2, rfl, hs'⟩, rfl⟩)))
  · have hlt : j < (rowsOf B s).length := by simp at h26; omega
    have hlt' : j < (statesM B).length := by omega
    obtain ⟨b, off, rfl, hcj⟩ := hrs.el (List.getElem?_eq_getElem hlt')
    have hej := (hst _ (List.getElem_mem hlt')).1
    have erj : (rowsOf B s)[j] = rowM B (statesM B)[j] s := by simp [rowsOf]
    have et : (rowsOf B s).take (j + 1) = (rowsOf B s).take j ++ [(rowsOf B s)[j]] := List.take_succ_eq_append_getElem hlt
    have hro := row_ok hz hej hs
    rw [erj] at et
    refine At.cond rfl ?_; refine At.skip (At.seq ?_); refine At.block ?_; refine At.seq ?_; refine At.drawJ hmix [] rfl ?_; refine Pool.ld 1 0 rfl rfl rfl rfl rfl rfl rfl rfl rfl rfl rfl ?_; refine Pool.v 1 rfl rfl rfl rfl rfl rfl rfl trivial ?_; refine Pool.v 2 rfl rfl rfl rfl rfl rfl rfl trivial ?_; refine Pool.q 3 rfl rfl rfl rfl rfl (q_ia rfl rfl rfl (by assumption)) rfl ?_; refine Pool.ldc 4 rfl rfl rfl rfl rfl rfl rfl hcj.a rfl rfl rfl ?_
    refine Pool.ld 0 5 rfl rfl rfl rfl rfl rfl rfl rfl rfl rfl rfl ?_; refine Pool.cq 6 rfl rfl rfl rfl rfl rfl rfl rfl rfl (fun H hs => s115 L H bs bs bs bs) ?_; refine Pool.v 7 rfl rfl rfl rfl rfl rfl rfl trivial ?_; refine pool_done rfl rfl ?_; refine At.regionEnd (At.seq (At.region ?_)); refine At.v rfl rfl rfl rfl rfl trivial ?_; refine At.cp rfl rfl rfl rfl rfl fun b37 h37 => ?_; refine At.regionEnd ?_
    cases b37
    · have e : rowM B (statesM B)[j] s = -1 := by simp at h37; omega
      refine At.cond rfl ?_; refine At.region ?_; refine At.v rfl rfl rfl rfl rfl trivial ?_; refine At.v rfl rfl rfl rfl rfl (by omega) ?_; refine At.v rfl rfl rfl rfl rfl trivial ?_; refine At.regionEnd ?_; refine At.inBlock ?_; refine At.region ?_; refine At.v rfl rfl rfl rfl rfl trivial ?_; refine At.v rfl rfl rfl rfl rfl (by omega) ?_; refine At.v rfl rfl rfl rfl rfl trivial ?_; refine At.regionEnd ?_
      refine At.tA ((again ⟨(j + 1, n + 1, v, sr), hlt, by rw [et, List.count_append, ← hn, e]; rfl, by rw [et, List.filter_append]; simpa [e] using hsr⟩ (by simp; omega)))
    · have e : rowM B (statesM B)[j] s ≠ -1 := by simp at h37; omega
      refine At.cond rfl ?_; refine At.region ?_; (iterate 2 refine At.v rfl rfl rfl rfl rfl trivial ?_)
      (refine At.l rfl rfl rfl rfl (l_buildSlice rfl rfl rfl rfl rfl) ?_; rintro _ _ ⟨r40, rfl, rfl⟩)
      refine At.push (x := (rowM B (statesM B)[j] s)) 0 3 rfl rfl rfl rfl rfl rfl rfl rfl rfl rfl rfl rfl rfl rfl hsr rfl rfl rfl ?_ fun v sf hs => ?_
      · omega
      · refine At.v rfl rfl rfl rfl rfl trivial ?_
        refine At.regionEnd ?_; refine At.inBlock ?_; refine At.region ?_; refine At.v rfl rfl rfl rfl rfl trivial ?_; refine At.v rfl rfl rfl rfl rfl (by omega) ?_; refine At.v rfl rfl rfl rfl rfl trivial ?_; refine At.regionEnd ?_
        refine At.tA ((again ⟨(j + 1, n, v, sf), hlt, by rw [et, List.count_append, ← hn]; simp [e], by rw [et, List.filter_append]; simpa [e] using hs⟩ (by simp; omega)))
end Go.Gx
end

section
set_option linter.unusedSimpArgs false
set_option linter.unusedVariables false
namespace Go.Gx
open Go Go.Conc Go.Proofs
variable {main : Bool}

theorem kn_ne {B : Bk} {r : Int} (h : r ≠ 0) : knR B r ≠ 0 := fun e => h (kn_rest e)
set_option maxRecDepth 100000 in
set_option maxHeartbeats 4000000 in
/-- Falls (ref02) -/
theorem s71 (L : Lg Tryz.prog main) (H : Facts) {B : Bk} {A : BkA} {s : R2} {row : Int} (hB : BkR H B A) (hlp : B.prof.length ≤ 100000) (hlm : B.marks.length ≤ 100000) :
    Pure L 71 #[bkV B A, rV s, .int .i64 row] H (.tuple #[.int .i64 (if knownBar B [slopeBar s.1 s.2, hBar row] ≠ 0 then 0 else fallsM B s row), .int .i64 (knownBar B [slopeBar s.1 s.2, hBar row])]) := by
  refine Spec.enter Tryz.func71 rfl (by simp [Tryz.f71]) fun c cs hc => ?_
  rw [← knR_eq, firstBar2] at hc
  refine At.seq (At.region ?_); refine At.bx rfl rfl rfl rfl rfl rfl rfl fun r3 => ?_; refine At.bx rfl rfl rfl rfl rfl rfl rfl fun r4 => ?_; (iterate 2 refine At.v rfl rfl rfl rfl rfl trivial ?_); refine At.regionEnd (At.seq (At.region ?_)); refine At.ld 0 rfl rfl rfl rfl rfl rfl rfl rfl rfl ?_; refine At.cq rfl rfl rfl rfl rfl rfl rfl rfl (s47 L _) ?_; refine At.v rfl rfl rfl rfl rfl trivial ?_; refine At.regionEnd (At.seq (At.seq (At.region ?_))); refine At.v rfl rfl rfl rfl rfl trivial ?_
  refine At.cp rfl rfl rfl rfl rfl fun b16 h16 => ?_; refine At.v rfl rfl rfl rfl rfl trivial ?_
  have stop139 := trivial
  cases b16
  · have h1 : slopeBar s.1 s.2 ≠ 0 := by simpa using h16
    simp only [if_pos h1, if_pos (kn_ne (B := B) h1)] at hc
    (iterate 3 refine At.un rfl rfl rfl rfl ?_); refine At.v rfl rfl rfl rfl rfl trivial ?_; refine At.regionEnd ?_; refine At.cond rfl ?_; refine At.skip (At.seq (At.region ?_)); refine At.ld 1 rfl rfl rfl rfl rfl rfl rfl rfl rfl ?_; refine At.v rfl rfl rfl rfl rfl trivial ?_
    clear stop139
    refine At.cl rfl rfl rfl rfl rfl rfl rfl rfl (s139 L _ hB.a hlp hlm) ?_
    rintro _ _ ⟨sf, ⟨a, cap, rfl, hsl⟩, rfl⟩
    refine At.back ?_; (iterate 5 refine At.v rfl rfl rfl rfl rfl trivial ?_); refine At.regionEnd (At.seq (At.seq (At.region ?_))); refine At.v rfl rfl rfl rfl rfl trivial ?_; refine At.cp rfl rfl rfl rfl rfl fun b29 h29 => ?_; refine At.regionEnd ?_
    have e : b29 = true := by rw [← h29]; simpa using kn_ne h1
    subst e
    refine At.cond rfl ?_; refine At.seq (At.region ?_); (iterate 3 refine At.v rfl rfl rfl rfl rfl trivial ?_); refine At.regionEnd ?_
    exact At.ret Tryz.func71 (.inr ⟨_, rfl⟩) rfl (.tmp rfl (.tmp rfl .nil)) (wk (hc _ _ (⟨by rfl, rfl⟩)))
  have h1 : slopeBar s.1 s.2 = 0 := by simpa using h16
  simp only [h1, ne_eq, not_true_eq_false, if_false] at hc
  refine At.v rfl rfl rfl rfl rfl trivial ?_; refine At.cqb rfl rfl rfl rfl rfl rfl rfl rfl (s89 L _) fun b19 h19 => ?_; (iterate 2 refine At.v rfl rfl rfl rfl rfl trivial ?_); refine At.regionEnd ?_
  cases b19
  · have h2 : hBar row = 1 := by simp at h19; unfold hBar; rw [if_neg (by omega)]
    simp only [h2, kn_ne (B := B) (show (1 : Int) ≠ 0 by decide), not_false_eq_true, if_true] at hc
    refine At.cond rfl ?_; refine At.region ?_; refine At.v rfl rfl rfl rfl rfl trivial ?_; refine At.regionEnd (At.seq (At.region ?_)); refine At.ld 1 rfl rfl rfl rfl rfl rfl rfl rfl rfl ?_; refine At.v rfl rfl rfl rfl rfl trivial ?_
    clear stop139
    refine At.cl rfl rfl rfl rfl rfl rfl rfl rfl (s139 L _ hB.a hlp hlm) ?_
    rintro _ _ ⟨sf, ⟨a, cap, rfl, hsl⟩, rfl⟩
    refine At.back ?_; (iterate 5 refine At.v rfl rfl rfl rfl rfl trivial ?_); refine At.regionEnd (At.seq (At.seq (At.region ?_))); refine At.v rfl rfl rfl rfl rfl trivial ?_; refine At.cp rfl rfl rfl rfl rfl fun b29 h29 => ?_; refine At.regionEnd ?_
    have e : b29 = true := by rw [← h29]; simpa using kn_ne (B := B) (show (1 : Int) ≠ 0 by decide)
    subst e
    refine At.cond rfl ?_; refine At.seq (At.region ?_); (iterate 3 refine At.v rfl rfl rfl rfl rfl trivial ?_); refine At.regionEnd ?_
    exact At.ret Tryz.func71 (.inr ⟨_, rfl⟩) rfl (.tmp rfl (.tmp rfl .nil)) (wk (hc _ _ (⟨by rfl, rfl⟩)))
  have h2 : hBar row = 0 := by simp at h19; unfold hBar; rw [if_pos (by omega)]
  rw [h2] at hc
  refine At.cond rfl ?_; refine At.skip (At.seq (At.region ?_)); refine At.ld 1 rfl rfl rfl rfl rfl rfl rfl rfl rfl ?_; refine At.v rfl rfl rfl rfl rfl trivial ?_
  clear stop139
  rw [h1]
  refine At.cl rfl rfl rfl rfl rfl rfl rfl rfl (s139 L _ hB.a hlp hlm) ?_
  rintro _ _ ⟨sf, ⟨a, cap, rfl, hsl⟩, rfl⟩
  refine At.back ?_; (iterate 5 refine At.v rfl rfl rfl rfl rfl trivial ?_); refine At.regionEnd (At.seq (At.seq (At.region ?_))); refine At.v rfl rfl rfl rfl rfl trivial ?_; refine At.cp rfl rfl rfl rfl rfl fun b29 h29 => ?_; refine At.regionEnd ?_
  cases b29
  rotate_left
  · have e : knR B 0 ≠ 0 := by simpa using h29
    simp only [e, not_false_eq_true, if_true] at hc
    refine At.cond rfl ?_; refine At.seq (At.region ?_); (iterate 3 refine At.v rfl rfl rfl rfl rfl trivial ?_); refine At.regionEnd ?_
    exact At.ret Tryz.func71 (.inr ⟨_, rfl⟩) rfl (.tmp rfl (.tmp rfl .nil)) (wk (hc _ _ (⟨by rfl, rfl⟩)))
  have e : knR B 0 = 0 := by simpa using h29
  have hz : bookBar B = 0 := kn_book e
  have hs : SlOk s := slOk_of s h1
  simp only [e, ne_eq, not_true_eq_false, if_false] at hc hsl ⊢
  have hst := state_eye hz
  have hl3 := statesM_len hz
  obtain ⟨_, hrs, _⟩ := hsl.rd
  have hrl : (rowsOf B s).length = (statesM B).length := by simp [rowsOf]
  refine At.cond rfl ?_; refine At.skip (At.seq (At.region ?_)); refine At.v rfl rfl rfl rfl rfl trivial ?_; refine At.regionEnd (At.seq (At.seq (At.region ?_))); refine At.v rfl rfl rfl rfl rfl trivial ?_; refine At.regionEnd ?_; refine At.block ?_
  refine At.lpk (X := { x : Nat × Nat // x.1 ≤ (rowsOf B s).length ∧ x.2 = ((rowsOf B s).take x.1).count row }) [2, 3, 4, 6, 7, 9] (fun x => [(12, .int .i64 (x.1.1 : Int)), (11, .int .i64 (x.1.2 : Int))]) (fun _ => .own r4 (.cells (List.toArray (c2 s)) 29 (0, 0)) :: .own r3 (.cells (List.toArray (bkC B A)) 27 (0, 0)) :: (sf ++ H)) (fun x => (rowsOf B s).length - x.1.1) (⟨(0, 0), Nat.zero_le _, rfl⟩) rfl ?_ (by repeat (first | exact trivial | refine ⟨rfl, ?_⟩)) sb
  rintro ⟨⟨j, n⟩, hj, hn⟩ again
  simp only at again hj hn ⊢
  have hnl : n ≤ 3 := by
    have := List.count_le_length (a := row) (l := (rowsOf B s).take j)
    rw [List.length_take] at this
    omega
  refine At.seq (At.seq (At.region ?_)); (iterate 2 refine At.v rfl rfl rfl rfl rfl trivial ?_); refine At.ln rfl rfl rfl rfl rfl rfl rfl rfl ?_; refine At.cp rfl rfl rfl rfl rfl fun b34 h34 => ?_; refine At.regionEnd ?_
  cases b34
  · have e : j = (rowsOf B s).length := by simp at h34; omega
    subst e
    rw [List.take_length] at hn
    subst hn
    refine At.cond rfl ?_; refine At.exit rfl ?_; refine At.seq (At.region ?_); (iterate 2 refine At.v rfl rfl rfl rfl rfl trivial ?_); refine At.ln rfl rfl rfl rfl rfl rfl rfl rfl ?_; refine At.cq rfl rfl rfl rfl rfl rfl rfl rfl (s141 L _) ?_; (iterate 2 refine At.v rfl rfl rfl rfl rfl trivial ?_); refine At.regionEnd ?_
    exact At.ret Tryz.func71 (.inr ⟨_, rfl⟩) rfl (.tmp rfl (.tmp rfl .nil)) (wk (hc _ _ (⟨by rfl, rfl⟩)))
  · have hlt : j < (rowsOf B s).length := by simp at h34; omega
    have hlt' : j < (statesM B).length := by omega
    obtain ⟨b, off, rfl, hcj⟩ := hrs.el (List.getElem?_eq_getElem hlt')
    have hej := (hst _ (List.getElem_mem hlt')).1
    have erj : (rowsOf B s)[j] = rowM B (statesM B)[j] s := by simp [rowsOf]
    have et : (rowsOf B s).take (j + 1) = (rowsOf B s).take j ++ [(rowsOf B s)[j]] := List.take_succ_eq_append_getElem hlt
    rw [erj] at et
    refine At.cond rfl ?_; refine At.skip (At.seq ?_); refine At.block ?_; refine At.seq ?_; refine At.drawJ hmix [] rfl ?_; refine Pool.ld 1 0 rfl rfl rfl rfl rfl rfl rfl rfl rfl rfl rfl ?_; refine Pool.v 1 rfl rfl rfl rfl rfl rfl rfl trivial ?_; refine Pool.v 2 rfl rfl rfl rfl rfl rfl rfl trivial ?_; refine Pool.q 3 rfl rfl rfl rfl rfl (q_ia rfl rfl rfl (by assumption)) rfl ?_; refine Pool.ldc 4 rfl rfl rfl rfl rfl rfl rfl hcj.a rfl rfl rfl ?_
    refine Pool.ld 0 5 rfl rfl rfl rfl rfl rfl rfl rfl rfl rfl rfl ?_; refine Pool.cq 6 rfl rfl rfl rfl rfl rfl rfl rfl rfl (fun H hs => s115 L H bs bs bs bs) ?_; refine Pool.v 7 rfl rfl rfl rfl rfl rfl rfl trivial ?_; refine Pool.cp 8 rfl rfl rfl rfl rfl rfl rfl fun b45 h45 => ?_; refine pool_done rfl rfl ?_; refine At.regionEnd ?_
    cases b45
    · have e : rowM B (statesM B)[j] s ≠ row := by simpa using h45
      refine At.cond rfl ?_; refine At.skip ?_; refine At.inBlock ?_; refine At.region ?_; refine At.v rfl rfl rfl rfl rfl trivial ?_; refine At.v rfl rfl rfl rfl rfl (by omega) ?_; refine At.v rfl rfl rfl rfl rfl trivial ?_; refine At.regionEnd ?_
      refine At.tA ((again ⟨(j + 1, n), hlt, by rw [et, List.count_append, ← hn]; simp [e]⟩ (by simp; omega)))
    · have e : rowM B (statesM B)[j] s = row := by simpa using h45
      refine At.cond rfl ?_; refine At.region ?_; refine At.v rfl rfl rfl rfl rfl trivial ?_; refine At.v rfl rfl rfl rfl rfl (by omega) ?_; refine At.v rfl rfl rfl rfl rfl trivial ?_; refine At.regionEnd ?_; refine At.inBlock ?_; refine At.region ?_; refine At.v rfl rfl rfl rfl rfl trivial ?_; refine At.v rfl rfl rfl rfl rfl (by omega) ?_; refine At.v rfl rfl rfl rfl rfl trivial ?_; refine At.regionEnd ?_
      refine At.tA ((again ⟨(j + 1, n + 1), hlt, by rw [et, List.count_append, ← hn, e]; simp⟩ (by simp; omega)))
end Go.Gx
end

section
set_option linter.unusedSimpArgs false
set_option linter.unusedVariables false
namespace Go.Gx
open Go Go.Conc Go.Proofs
variable {main : Bool}

def bandS (acc : R2) (r : Int) : R2 := (if r < acc.1 then r else acc.1, if r > acc.2 then r else acc.2)
def bandF (l : List Int) : R2 := l.foldl bandS (90, 0)
theorem bandF_snoc (l : List Int) (r : Int) : bandF (l ++ [r]) = bandS (bandF l) r := by unfold bandF; rw [List.foldl_append]; rfl
theorem bandF_spec : ∀ (l : List Int) (acc : R2), (∀ x ∈ l, (l.foldl bandS acc).1 ≤ x ∧ x ≤ (l.foldl bandS acc).2) ∧ (l.foldl bandS acc).1 ≤ acc.1 ∧ acc.2 ≤ (l.foldl bandS acc).2 ∧
    ((l.foldl bandS acc).1 = acc.1 ∨ (l.foldl bandS acc).1 ∈ l) ∧ ((l.foldl bandS acc).2 = acc.2 ∨ (l.foldl bandS acc).2 ∈ l)
  | [], acc => ⟨by simp, Int.le_refl _, Int.le_refl _, .inl rfl, .inl rfl⟩
  | r :: l, acc => by
    obtain ⟨h1, h2, h3, h4, h5⟩ := bandF_spec l (bandS acc r)
    rw [List.foldl_cons]
    generalize l.foldl bandS (bandS acc r) = z at *
    have e1 : (bandS acc r).1 = acc.1 ∧ acc.1 ≤ r ∨ (bandS acc r).1 = r ∧ r < acc.1 := by
      unfold bandS
      by_cases h : r < acc.1
      · right; simp [h]
      · left; simp [h]; omega
    have e2 : (bandS acc r).2 = acc.2 ∧ r ≤ acc.2 ∨ (bandS acc r).2 = r ∧ acc.2 < r := by
      unfold bandS
      by_cases h : r > acc.2
      · right; simp [h]
      · left; simp [h]; omega
    generalize bandS acc r = y at *
    refine ⟨?_, by omega, by omega, ?_, ?_⟩
    · intro x hx
      rcases List.mem_cons.1 hx with rfl | hx
      · omega
      · exact h1 x hx
    · rcases h4 with h4 | h4
      · rcases e1 with e1 | e1
        · left; omega
        · right; rw [h4, e1.1]; exact List.mem_cons_self ..
      · right; exact List.mem_cons_of_mem _ h4
    · rcases h5 with h5 | h5
      · rcases e2 with e2 | e2
        · left; omega
        · right; rw [h5, e2.1]; exact List.mem_cons_self ..
      · right; exact List.mem_cons_of_mem _ h5
theorem bandF_eq {l m : List Int} (h0 : 0 < l.length) (hlm : ∀ x, x ∈ m ↔ x ∈ l) (hb : ∀ x ∈ l, 0 ≤ x ∧ x ≤ 90) : bandF l = (minO m, maxO m) := by
  obtain ⟨h1, h2, h3, h4, h5⟩ := bandF_spec l (90, 0)
  change (∀ x ∈ l, (bandF l).1 ≤ x ∧ x ≤ (bandF l).2) at h1
  change (bandF l).1 ≤ 90 at h2
  change 0 ≤ (bandF l).2 at h3
  change (bandF l).1 = 90 ∨ (bandF l).1 ∈ l at h4
  change (bandF l).2 = 0 ∨ (bandF l).2 ∈ l at h5
  have hx : l[0] ∈ l := List.getElem_mem h0
  have hm0 : 0 < m.length := List.length_pos_of_mem ((hlm _).2 hx)
  obtain ⟨m1, m2⟩ := minO_spec hm0
  obtain ⟨x1, x2⟩ := maxO_spec hm0
  have a1 := hb _ hx
  have a2 := h1 _ hx
  have e1 : (bandF l).1 ∈ l := by
    rcases h4 with h4 | h4
    · rw [show (bandF l).1 = l[0] by omega]; exact hx
    · exact h4
  have e2 : (bandF l).2 ∈ l := by
    rcases h5 with h5 | h5
    · rw [show (bandF l).2 = l[0] by omega]; exact hx
    · exact h5
  have c1 := m2 _ ((hlm _).2 e1)
  have c2 := (h1 _ ((hlm _).1 m1)).1
  have c3 := x2 _ ((hlm _).2 e2)
  have c4 := (h1 _ ((hlm _).1 x1)).2
  exact Prod.ext (by show (bandF l).1 = minO m; omega) (by show (bandF l).2 = maxO m; omega)
/-- The rows as the reference goes over them. -/
def rowAt (B : Bk) (ss : List R2) (e : Int) : List Int := ss.map fun s => rowM B e s
def allR (B : Bk) (ss : List R2) (i : Nat) : List Int := ((statesM B).take i).flatMap (rowAt B ss)
theorem allR_succ {B : Bk} {ss : List R2} {i : Nat} (h : i < (statesM B).length) : allR B ss (i + 1) = allR B ss i ++ rowAt B ss (statesM B)[i] := by
  unfold allR
  rw [List.take_succ_eq_append_getElem h, List.flatMap_append]
  simp
theorem allR_mem {B : Bk} {ss : List R2} {x : Int} : x ∈ allRows B ss ↔ x ∈ allR B ss (statesM B).length := by
  unfold allRows allR rowsOf rowAt
  rw [List.take_length]
  simp only [List.mem_flatMap, List.mem_map]
  constructor
  · rintro ⟨s, hs, e, he, rfl⟩; exact ⟨e, he, s, hs, rfl⟩
  · rintro ⟨e, he, s, hs, rfl⟩; exact ⟨s, hs, e, he, rfl⟩
set_option maxRecDepth 100000 in
set_option maxHeartbeats 4000000 in
/-- Needs (ref02) -/
theorem s72 (L : Lg Tryz.prog main) (H : Facts) {B : Bk} {A : BkA} {a2 : Option Addr} {n cap2 : Nat} {ss : List R2} (hB : BkR H B A) (hlp : B.prof.length ≤ 100000) (hlm : B.marks.length ≤ 100000) (hn : ss.length = n) (hS : Rd H a2 (ss.flatMap c2)) (hl : ss.length ≤ 1000) :
    Pure L 72 #[bkV B A, .slice a2 n cap2] H (.tuple #[.agg (List.toArray (c2 (needsM B ss).1)), .int .i64 (needsM B ss).2]) := by
  subst hn
  refine Spec.enter Tryz.func72 rfl (by simp [Tryz.f72]) fun c cs hc => ?_
  unfold needsM at hc
  rw [← knR_eq, firstBar1] at hc
  refine At.seq (At.region ?_); refine At.bx rfl rfl rfl rfl rfl rfl rfl fun r2 => ?_; refine At.al rfl rfl rfl rfl rfl fun r4 => ?_; refine At.v rfl rfl rfl rfl rfl trivial ?_; refine At.regionEnd (At.seq ?_); refine At.draw hmix (_) sb ?_
  have stop57 := trivial
  refine Pool.ld 1 0 rfl rfl rfl rfl rfl rfl rfl rfl rfl rfl rfl ?_; refine Pool.v 1 rfl rfl rfl rfl rfl rfl rfl trivial ?_
  clear stop57
  refine Pool.cq 2 rfl rfl rfl rfl rfl rfl rfl rfl rfl (fun H_ hs_ => s57 L H_ (ss := ss) rfl hS.a hl) ?_
  skip
  refine Pool.cl 3 rfl rfl rfl rfl rfl rfl rfl rfl rfl rfl rfl rfl rfl rfl (fun H_ hs_ => s139 L H_ hB.a hlp hlm) sb ?_
  rintro v sf ⟨a, cap, rfl, hsl⟩
  refine Pool.v 4 rfl rfl rfl rfl rfl rfl rfl trivial ?_; refine Pool.v 5 rfl rfl rfl rfl rfl rfl rfl trivial ?_; refine Pool.v 6 rfl rfl rfl rfl rfl rfl rfl trivial ?_; refine Pool.v 7 rfl rfl rfl rfl rfl rfl rfl trivial ?_; refine Pool.v 8 rfl rfl rfl rfl rfl rfl rfl trivial ?_; refine pool_done rfl rfl ?_; refine At.regionEnd (At.seq (At.seq (At.region ?_))); refine At.v rfl rfl rfl rfl rfl trivial ?_; refine At.cp rfl rfl rfl rfl rfl fun b20 h20 => ?_; refine At.regionEnd ?_; refine At.back ?_
  cases b20
  rotate_left
  · have e : knR B (looksBar ss) ≠ 0 := by simpa using h20
    simp only [if_pos e] at hc
    refine At.cond rfl ?_; refine At.seq (At.region ?_); refine At.q rfl rfl rfl rfl (q_build rfl rfl rfl) ?_; refine At.v rfl rfl rfl rfl rfl trivial ?_; refine At.st 0 rfl rfl rfl rfl rfl rfl rfl rfl rfl rfl rfl rfl ?_; refine At.v rfl rfl rfl rfl rfl trivial ?_; refine At.regionEnd ?_
    exact At.ret Tryz.func72 (.inr ⟨_, rfl⟩) rfl (.aggJ 0 rfl rfl rfl (.tmp rfl .nil)) (wk (hc _ _ (⟨by rfl, rfl⟩)))
  have e : knR B (looksBar ss) = 0 := by simpa using h20
  have hz : bookBar B = 0 := kn_book e
  obtain ⟨hm1, hm6, hss⟩ := looks0 (kn_rest e)
  have hne := kn_states e
  simp only [e, ne_eq, not_true_eq_false, if_false] at hc hsl ⊢
  have hst := state_eye hz
  have hl3 := statesM_len hz
  obtain ⟨_, hrs, _⟩ := hsl.rd
  have hrow : ∀ x ∈ allR B ss (statesM B).length, x = -1 ∨ 0 ≤ x ∧ x ≤ 90 := by
    intro x hx
    unfold allR rowAt at hx
    obtain ⟨y, hy, hx⟩ := List.mem_flatMap.1 hx
    obtain ⟨s, hs, rfl⟩ := List.mem_map.1 hx
    exact row_ok hz (hst y (List.mem_of_mem_take hy)).1 (slOk_of s (hss s hs))
  have hshort : ∀ x ∈ allR B ss (statesM B).length, x < 0 → minO (allRows B ss) = -1 := by
    intro x hx h0
    have hx' := allR_mem.2 hx
    have hm := minO_spec (List.length_pos_of_mem hx')
    have h1 := hm.2 x hx'
    have h2 := hrow _ (allR_mem.1 hm.1)
    omega
  refine At.cond rfl ?_; refine At.skip (At.seq (At.region ?_)); refine At.q rfl rfl rfl rfl (q_build rfl rfl rfl) ?_; refine At.al rfl rfl rfl rfl rfl fun r8 => ?_; refine At.st 0 rfl rfl rfl rfl rfl rfl rfl rfl rfl rfl rfl rfl ?_; refine At.regionEnd (At.seq (At.seq (At.region ?_))); refine At.v rfl rfl rfl rfl rfl trivial ?_; refine At.regionEnd ?_; refine At.block ?_
  refine At.lpk (X := { i : Nat // i ≤ (statesM B).length ∧ ∀ x ∈ allR B ss i, 0 ≤ x }) [1, 2, 4, 6, 8] (fun x => [(9, .int .i64 (x.1 : Int))]) (fun x => .own r8 (.cells (List.toArray (c2 (bandF (allR B ss x.1)))) 24 (0, 0)) :: .own r4 (.cells #[.int .i64 0, .int .i64 0] 24 (0, 0)) :: .own r2 (.cells (List.toArray (bkC B A)) 27 (0, 0)) :: (sf ++ H)) (fun x => (statesM B).length - x.1) (⟨0, Nat.zero_le _, by simp [allR]⟩) rfl ?_ (by repeat (first | exact trivial | refine ⟨rfl, ?_⟩)) sb
  rintro ⟨i, hi, hpos⟩ again
  simp only at again hi hpos ⊢
  refine At.seq (At.seq (At.region ?_)); (iterate 2 refine At.v rfl rfl rfl rfl rfl trivial ?_); refine At.ln rfl rfl rfl rfl rfl rfl rfl rfl ?_; refine At.cp rfl rfl rfl rfl rfl fun b27 h27 => ?_; refine At.regionEnd ?_
  cases b27
  · have e : i = (statesM B).length := by simp at h27; omega
    subst e
    have h0 : 0 < (allR B ss (statesM B).length).length := by
      refine List.length_pos_of_mem (a := rowM B (statesM B)[0] ss[0]) ?_
      unfold allR rowAt
      rw [List.take_length]
      exact List.mem_flatMap.2 ⟨_, List.getElem_mem (by omega), List.mem_map.2 ⟨_, List.getElem_mem (by omega), rfl⟩⟩
    have hbe := bandF_eq h0 (fun x => allR_mem) (fun x hx => ⟨hpos x hx, by have := hrow x hx; have := hpos x hx; omega⟩)
    rw [hbe]
    have hm := minO_spec (List.length_pos_of_mem (allR_mem.2 (List.getElem_mem h0)))
    have hne1 : minO (allRows B ss) ≠ -1 := by
      have := hpos _ (allR_mem.1 hm.1)
      omega
    simp only [if_neg hne1] at hc
    refine At.cond rfl ?_; refine At.exit rfl ?_; refine At.seq (At.region ?_); refine At.ld 0 rfl rfl rfl rfl rfl rfl rfl rfl rfl ?_; refine At.st 1 rfl rfl rfl rfl rfl rfl rfl rfl rfl rfl rfl rfl ?_; refine At.v rfl rfl rfl rfl rfl trivial ?_; refine At.regionEnd ?_
    exact At.ret Tryz.func72 (.inr ⟨_, rfl⟩) rfl (.aggJ 1 rfl rfl rfl (.tmp rfl .nil)) (wk (hc _ _ (⟨by rfl, rfl⟩)))
  · have hlt : i < (statesM B).length := by simp at h27; omega
    obtain ⟨b, off, rfl, hcj⟩ := hrs.el (List.getElem?_eq_getElem hlt)
    have hej := (hst _ (List.getElem_mem hlt)).1
    have hsc := allR_succ (ss := ss) hlt
    generalize hee : (statesM B)[i] = ee at hcj hej hsc
    refine At.cond rfl ?_; refine At.skip (At.seq ?_); refine At.block ?_; refine At.seq (At.region ?_); refine At.v rfl rfl rfl rfl rfl trivial ?_; refine At.regionEnd ?_; refine At.block ?_
    rw [show bandF (allR B ss i) = bandF (allR B ss i ++ (rowAt B ss ee).take 0) by simp]
    refine At.lpk (X := { k : Nat // k ≤ ss.length ∧ ∀ x ∈ (rowAt B ss ee).take k, 0 ≤ x }) [1, 2, 4, 6, 8, 9, 24, 25, 26, 27] (fun x => [(10, .int .i64 (x.1 : Int))]) (fun x => .own r8 (.cells (List.toArray (c2 (bandF (allR B ss i ++ (rowAt B ss ee).take x.1)))) 24 (0, 0)) :: .own r4 (.cells #[.int .i64 0, .int .i64 0] 24 (0, 0)) :: .own r2 (.cells (List.toArray (bkC B A)) 27 (0, 0)) :: (sf ++ H)) (fun x => ss.length - x.1) (⟨0, Nat.zero_le _, by simp⟩) rfl ?_ (by repeat (first | exact trivial | refine ⟨rfl, ?_⟩)) sb
    rintro ⟨k, hk, hpk⟩ again2
    simp only at again2 hk hpk ⊢
    have hkl : (rowAt B ss ee).length = ss.length := by simp [rowAt]
    refine At.seq (At.seq (At.region ?_)); (iterate 2 refine At.v rfl rfl rfl rfl rfl trivial ?_); refine At.ln rfl rfl rfl rfl rfl rfl rfl rfl ?_; refine At.cp rfl rfl rfl rfl rfl fun b33 h33 => ?_; refine At.regionEnd ?_
    cases b33
    · have e : k = ss.length := by simp at h33; omega
      subst e
      rw [List.take_of_length_le (by omega), ← hsc]
      rw [List.take_of_length_le (by omega)] at hpk
      have ag := again ⟨i + 1, hlt, fun x hx => by
        rw [hsc] at hx
        rcases List.mem_append.1 hx with hx | hx
        · exact hpos x hx
        · exact hpk x hx⟩ (by simp; omega)
      refine At.cond rfl ?_; refine At.exit rfl ?_; refine At.inBlock ?_; refine At.region ?_; refine At.v rfl rfl rfl rfl rfl trivial ?_; refine At.v rfl rfl rfl rfl rfl (by omega) ?_; refine At.v rfl rfl rfl rfl rfl trivial ?_; refine At.regionEnd ?_
      refine At.tA (ag)
    · have hlk : k < ss.length := by simp at h33; omega
      obtain ⟨b', off', rfl, hck⟩ := hS.el (List.getElem?_eq_getElem hlk)
      have hsk := slOk_of _ (hss _ (List.getElem_mem hlk))
      have erk : (rowAt B ss ee)[k] = rowM B ee ss[k] := by simp [rowAt]
      have et : (rowAt B ss ee).take (k + 1) = (rowAt B ss ee).take k ++ [(rowAt B ss ee)[k]] := List.take_succ_eq_append_getElem (by omega)
      rw [erk] at et
      have hmem : rowM B ee ss[k] ∈ allR B ss (statesM B).length := by
        unfold allR
        rw [List.take_length]
        exact List.mem_flatMap.2 ⟨_, List.getElem_mem hlt, by rw [hee, ← erk]; exact List.getElem_mem _⟩
      have hr := hrow _ hmem
      refine At.cond rfl ?_; refine At.skip (At.seq ?_); refine At.block ?_; refine At.seq ?_; refine At.drawJ hmix [] rfl ?_; refine Pool.ld 2 0 rfl rfl rfl rfl rfl rfl rfl rfl rfl rfl rfl ?_; refine Pool.v 1 rfl rfl rfl rfl rfl rfl rfl trivial ?_; refine Pool.v 2 rfl rfl rfl rfl rfl rfl rfl trivial ?_; refine Pool.q 3 rfl rfl rfl rfl rfl (q_ia rfl rfl rfl (by assumption)) rfl ?_; refine Pool.ldc 4 rfl rfl rfl rfl rfl rfl rfl hcj.a rfl rfl rfl ?_; refine Pool.v 5 rfl rfl rfl rfl rfl rfl rfl trivial ?_
      refine Pool.v 6 rfl rfl rfl rfl rfl rfl rfl trivial ?_; refine Pool.q 7 rfl rfl rfl rfl rfl (q_ia rfl rfl rfl (by assumption)) rfl ?_; refine Pool.ldc 8 rfl rfl rfl rfl rfl rfl rfl hck.a rfl rfl rfl ?_; refine Pool.cq 9 rfl rfl rfl rfl rfl rfl rfl rfl rfl (fun H hs => s115 L H bs bs bs bs) ?_; refine Pool.v 10 rfl rfl rfl rfl rfl rfl rfl trivial ?_; refine pool_done rfl rfl ?_; refine At.regionEnd (At.seq (At.seq (At.region ?_))); refine At.v rfl rfl rfl rfl rfl trivial ?_
      refine At.cp rfl rfl rfl rfl rfl fun b47 h47 => ?_; refine At.regionEnd ?_
      cases b47
      · have e : 0 ≤ rowM B ee ss[k] := by simpa using h47
        have eb : bandF (allR B ss i ++ (rowAt B ss ee).take (k + 1)) = bandS (bandF (allR B ss i ++ (rowAt B ss ee).take k)) (rowM B ee ss[k]) := by rw [et, ← List.append_assoc, bandF_snoc]
        have ag := again2 ⟨k + 1, hlk, fun x hx => by
          rw [et] at hx
          rcases List.mem_append.1 hx with hx | hx
          · exact hpk x hx
          · rw [List.mem_singleton] at hx; rw [hx]; exact e⟩ (by simp; omega)
        simp only [eb] at ag
        refine At.cond rfl ?_; refine At.skip (At.region ?_); refine At.fa 0 rfl rfl rfl rfl rfl rfl rfl ?_; refine At.ld 0 rfl rfl rfl rfl rfl rfl rfl rfl rfl ?_; (iterate 2 refine At.v rfl rfl rfl rfl rfl trivial ?_); refine At.fa 1 rfl rfl rfl rfl rfl rfl rfl ?_; refine At.ld 0 rfl rfl rfl rfl rfl rfl rfl rfl rfl ?_; (iterate 2 refine At.v rfl rfl rfl rfl rfl trivial ?_); refine At.q rfl rfl rfl rfl (q_build rfl rfl rfl) ?_; refine At.st 0 rfl rfl rfl rfl rfl rfl rfl rfl rfl rfl rfl rfl ?_
        refine At.regionEnd ?_; refine At.inBlock ?_; refine At.region ?_; refine At.v rfl rfl rfl rfl rfl trivial ?_; refine At.v rfl rfl rfl rfl rfl (by omega) ?_; refine At.v rfl rfl rfl rfl rfl trivial ?_; refine At.regionEnd ?_
        refine At.tA (ag)
      · have e : rowM B ee ss[k] < 0 := by simpa using h47
        have em := hshort _ hmem e
        simp only [if_pos em] at hc
        refine At.cond rfl ?_; refine At.seq (At.region ?_); refine At.q rfl rfl rfl rfl (q_build rfl rfl rfl) ?_; refine At.st 1 rfl rfl rfl rfl rfl rfl rfl rfl rfl rfl rfl rfl ?_; refine At.v rfl rfl rfl rfl rfl trivial ?_; refine At.regionEnd ?_
        exact At.ret Tryz.func72 (.inr ⟨_, rfl⟩) rfl (.aggJ 1 rfl rfl rfl (.tmp rfl .nil)) (wk (hc _ _ (⟨by rfl, rfl⟩)))
end Go.Gx
end

section
set_option linter.unusedSimpArgs false
set_option linter.unusedVariables false
namespace Go.Gx
open Go Go.Conc Go.Proofs

theorem sts_len {B : Bk} : (if bookBar B ≠ 0 then [] else statesM B).length ≤ 100000 := by
  split
  · simp
  · rename_i h
    have := statesM_len (Classical.not_not.1 h)
    omega
theorem kb_book {B : Bk} {rs : List Int} (h : ¬ knownBar B rs ≠ 0) : bookBar B = 0 := by
  rw [← knR_eq] at h
  exact kn_book (Classical.not_not.1 h)
theorem compactM_len : ∀ (l : List Int), (compactM l).length ≤ l.length
  | [] => Nat.le_refl _
  | [x] => Nat.le_refl _
  | x :: y :: l => by
    have := compactM_len (y :: l)
    unfold compactM
    split
    · simp at this ⊢; omega
    · simp at this ⊢; omega
theorem rowsM_len {B : Bk} (hz : bookBar B = 0) {s : R2} : (rowsM B s).length ≤ 3 := by
  unfold rowsM
  refine Nat.le_trans (compactM_len _) ?_
  rw [sortM_len]
  exact Nat.le_trans (List.length_filter_le _ _) (rowsOf_len hz s)
theorem rws_len {B : Bk} {s : R2} {rs : List Int} : (if knownBar B rs ≠ 0 then [] else rowsM B s).length ≤ 100000 := by
  split
  · simp
  · rename_i h
    have := rowsM_len (kb_book h) (s := s)
    omega
set_option maxRecDepth 100000 in
set_option maxHeartbeats 4000000 in
/-- CanvasStates -/
theorem law16 {Post : Value → World → Prop} {W₀ : World} {H Hg : Facts} (hG : Glo H Hg) (hsh : ∀ f ∈ H, f.isOwn = false) {B : Bk} {A : BkA} (hBk : BkR H B A) {eye row : Int} {s : R2} {a : Option Addr} {ss : List R2} {cap : Nat} (hS : Rd H a (ss.flatMap c2)) :
    LawAt (mainLg Tryz.prog Post W₀ [] []) 16 #[bkV B A, .int .i64 eye, .agg #[.int .i64 s.1, .int .i64 s.2], .int .i64 row, .slice a ss.length cap] H (.bool true) := by
  refine LawAt.enter Tryz.func16 rfl (by simp [Tryz.f16]) fun cs hLB => ?_
  obtain ⟨pa, pc, ma, mc⟩ := A
  generalize hL : mainLg Tryz.prog Post W₀ [] [] = L at hLB ⊢
  refine At.seq (At.region ?_); refine At.bx rfl rfl rfl rfl rfl rfl rfl fun r5 => ?_; refine At.bx rfl rfl rfl rfl rfl rfl rfl fun r7 => ?_; refine At.v rfl rfl rfl rfl rfl trivial ?_; refine At.regionEnd (At.seq (At.seq (At.region ?_))); refine At.ld 1 rfl rfl rfl rfl rfl rfl rfl rfl rfl ?_; refine At.cqb rfl rfl rfl rfl rfl rfl rfl rfl (s21 L _) fun b24 h24 => ?_; refine At.v rfl rfl rfl rfl rfl trivial ?_
  cases b24
  rotate_left
  · have stop22 := trivial
    (iterate 3 refine At.un rfl rfl rfl rfl ?_); refine At.v rfl rfl rfl rfl rfl trivial ?_; refine At.regionEnd ?_; refine At.cond rfl ?_; refine At.seq (At.region ?_)
    subst hL
    refine At.cq rfl rfl rfl rfl rfl rfl rfl rfl (s22 hG.a) ?_; refine At.v rfl rfl rfl rfl rfl trivial ?_; refine At.regionEnd ?_
    exact hLB Tryz.func16 (.inr ⟨_, rfl⟩) rfl (.tmp rfl .nil) (⟨by rfl, rfl⟩)
  have hl1 : B.prof.length ≤ 100000 := by simp at h24; omega
  have hl2 : B.marks.length ≤ 100000 := by simp at h24; omega
  have hg : Cells H 0 0 chkC := hG.g.a hG.sub
  have hO : Opn H B ⟨pa, pc, ma, mc⟩ := ⟨hg, hBk, hl1, hl2⟩
  have hOS : OpS H H B ⟨pa, pc, ma, mc⟩ := ⟨Sub.refl _, hsh, hO⟩
  refine At.v rfl rfl rfl rfl rfl trivial ?_; refine At.ln rfl rfl rfl rfl rfl rfl rfl rfl ?_; refine At.cp rfl rfl rfl rfl rfl fun b28 h28 => ?_; refine At.v rfl rfl rfl rfl rfl trivial ?_; refine At.regionEnd ?_
  cases b28
  rotate_left
  · have stop22 := trivial
    refine At.cond rfl ?_; refine At.seq (At.region ?_)
    subst hL
    refine At.cq rfl rfl rfl rfl rfl rfl rfl rfl (s22 hG.a) ?_; refine At.v rfl rfl rfl rfl rfl trivial ?_; refine At.regionEnd ?_
    exact hLB Tryz.func16 (.inr ⟨_, rfl⟩) rfl (.tmp rfl .nil) (⟨by rfl, rfl⟩)
  have hsl : ss.length ≤ 1000 := by simp at h28; omega
  have q67 := fun H_ (hO_ : Opn H_ B ⟨pa, pc, ma, mc⟩) => s67 L H_ (eye := eye) hO_
  have q68 := fun H_ (hB_ : BkR H_ B ⟨pa, pc, ma, mc⟩) => s68 L H_ (eye := eye) hB_ hl1 hl2
  have q51 := fun H_ (hO_ : Opn H_ B ⟨pa, pc, ma, mc⟩) => s51 L H_ hO_
  have q69 := fun H_ (hB_ : BkR H_ B ⟨pa, pc, ma, mc⟩) => s69 L H_ hB_ hl1 hl2
  have q52 := fun H_ (hO_ : OpS H_ H B ⟨pa, pc, ma, mc⟩) => s52 (Post := Post) (W₀ := W₀) (s := s) hO_
  have q70 := fun H_ (hB_ : BkR H_ B ⟨pa, pc, ma, mc⟩) => s70 L H_ (s := s) hB_ hl1 hl2
  have q66 := fun H_ (hO_ : OpS H_ H B ⟨pa, pc, ma, mc⟩) => s66 (Post := Post) (W₀ := W₀) (s := s) (row := row) hO_
  have q71 := fun H_ (hB_ : BkR H_ B ⟨pa, pc, ma, mc⟩) => s71 L H_ (s := s) (row := row) hB_ hl1 hl2
  have q58 := fun H_ (hO_ : OpS H_ H B ⟨pa, pc, ma, mc⟩) hr_ => s58 (Post := Post) (W₀ := W₀) (a2 := a) (n := ss.length) (cap2 := cap) (ss := ss) hO_ rfl hr_ hsl
  have q72 := fun H_ (hB_ : BkR H_ B ⟨pa, pc, ma, mc⟩) hr_ => s72 L H_ (a2 := a) (n := ss.length) (cap2 := cap) (ss := ss) hB_ hl1 hl2 rfl hr_ hsl
  simp only [hL] at q52 q66 q58
  have l1 := sts_len (B := B)
  have l2 := rws_len (B := B) (s := s) (rs := [slopeBar s.1 s.2])
  generalize (if lookBar B [hBar eye] ≠ 0 then false else decide (B.lo ≤ eye ∧ eye ≤ B.hi) && rightM B eye) = v1 at q67 q68
  generalize lookBar B [hBar eye] = v2 at q67 q68
  generalize (if bookBar B ≠ 0 then [] else statesM B) = v3 at q51 q69 l1
  generalize bookBar B = v4 at q51 q69
  generalize (if knownBar B [slopeBar s.1 s.2] ≠ 0 then [] else rowsM B s) = v5 at q52 q70 l2
  generalize (if knownBar B [slopeBar s.1 s.2] ≠ 0 then 0 else wordM (statesM B).length (((rowsOf B s).count (-1) : Nat) : Int)) = v6 at q52 q70
  generalize knownBar B [slopeBar s.1 s.2] = v7 at q52 q70
  generalize (if knownBar B [slopeBar s.1 s.2, hBar row] ≠ 0 then 0 else fallsM B s row) = v8 at q66 q71
  generalize knownBar B [slopeBar s.1 s.2, hBar row] = v9 at q66 q71
  generalize needsM B ss = v10 at q58 q72
  have stop67 := trivial
  refine At.cond rfl ?_; refine At.skip (At.seq (At.region ?_)); refine At.ld 1 rfl rfl rfl rfl rfl rfl rfl rfl rfl ?_; refine At.v rfl rfl rfl rfl rfl trivial ?_
  clear stop67
  refine At.cq rfl rfl rfl rfl rfl rfl rfl rfl (q67 _ hO.a) ?_
  have stop68 := trivial
  (iterate 5 refine At.v rfl rfl rfl rfl rfl trivial ?_); refine At.regionEnd (At.seq (At.region ?_)); refine At.ld 1 rfl rfl rfl rfl rfl rfl rfl rfl rfl ?_; refine At.v rfl rfl rfl rfl rfl trivial ?_
  clear stop68
  refine At.cq rfl rfl rfl rfl rfl rfl rfl rfl (q68 _ hBk.a) ?_
  have stop51 := trivial
  (iterate 5 refine At.v rfl rfl rfl rfl rfl trivial ?_); refine At.regionEnd (At.seq (At.region ?_)); refine At.ld 1 rfl rfl rfl rfl rfl rfl rfl rfl rfl ?_
  clear stop51
  refine At.cl rfl rfl rfl rfl rfl rfl rfl rfl (q51 _ hO.a) ?_
  rintro _ _ ⟨sf1, ⟨a1, cap1, rfl, hsl1⟩, rfl⟩
  refine At.back ?_
  have stop69 := trivial
  (iterate 5 refine At.v rfl rfl rfl rfl rfl trivial ?_); refine At.regionEnd (At.seq (At.region ?_)); refine At.ld 1 rfl rfl rfl rfl rfl rfl rfl rfl rfl ?_
  clear stop69
  refine At.cl rfl rfl rfl rfl rfl rfl rfl rfl (q69 _ hBk.a) ?_
  rintro _ _ ⟨sf2, ⟨a2, cap2, rfl, hsl2⟩, rfl⟩
  refine At.back ?_
  obtain ⟨_, r1, _⟩ := hsl1.rd
  obtain ⟨_, r2, _⟩ := hsl2.rd
  have stop31 := trivial
  (iterate 5 refine At.v rfl rfl rfl rfl rfl trivial ?_); refine At.regionEnd (At.seq (At.seq (At.region ?_))); (iterate 2 refine At.v rfl rfl rfl rfl rfl trivial ?_); refine At.qb rfl rfl rfl rfl (q_neqB rfl rfl rfl) fun b55 h55 => ?_; refine At.v rfl rfl rfl rfl rfl trivial ?_
  obtain rfl : b55 = false := h55.symm.trans (by simp)
  (iterate 2 refine At.v rfl rfl rfl rfl rfl trivial ?_); refine At.cp rfl rfl rfl rfl rfl fun b59 h59 => ?_; (iterate 2 refine At.v rfl rfl rfl rfl rfl trivial ?_)
  obtain rfl : b59 = false := h59.symm.trans (by simp)
  (iterate 2 refine At.v rfl rfl rfl rfl rfl trivial ?_); refine At.cq rfl rfl rfl rfl rfl rfl rfl rfl (s31 L _ (xs := v3) (ys := v3) rfl rfl r1.a r2.a l1) ?_
  rw [show decide (v3 = v3) = true by simp]
  clear stop31
  have stop52 := trivial
  (iterate 5 refine At.v rfl rfl rfl rfl rfl trivial ?_); refine At.cp rfl rfl rfl rfl rfl fun b70 h70 => ?_; refine At.v rfl rfl rfl rfl rfl trivial ?_; refine At.regionEnd ?_
  obtain rfl : b70 = false := h70.symm.trans (by simp)
  refine At.cond rfl ?_; refine At.skip (At.seq (At.region ?_)); refine At.ld 1 rfl rfl rfl rfl rfl rfl rfl rfl rfl ?_; refine At.ld 0 rfl rfl rfl rfl rfl rfl rfl rfl rfl ?_
  clear stop52
  refine At.cl rfl rfl rfl rfl rfl rfl rfl rfl (q52 _ hOS.a) ?_
  rintro _ _ ⟨sf3, ⟨a3, cap3, rfl, hsl3⟩, rfl⟩
  refine At.back ?_
  have stop70 := trivial
  (iterate 7 refine At.v rfl rfl rfl rfl rfl trivial ?_); refine At.regionEnd (At.seq (At.region ?_)); refine At.ld 1 rfl rfl rfl rfl rfl rfl rfl rfl rfl ?_; refine At.ld 0 rfl rfl rfl rfl rfl rfl rfl rfl rfl ?_
  clear stop70
  refine At.cl rfl rfl rfl rfl rfl rfl rfl rfl (q70 _ hBk.a) ?_
  rintro _ _ ⟨sf4, ⟨a4, cap4, rfl, hsl4⟩, rfl⟩
  refine At.back ?_
  obtain ⟨_, r3, _⟩ := hsl3.rd
  obtain ⟨_, r4, _⟩ := hsl4.rd
  have stop31 := trivial
  (iterate 7 refine At.v rfl rfl rfl rfl rfl trivial ?_); refine At.regionEnd (At.seq (At.seq (At.region ?_))); (iterate 2 refine At.v rfl rfl rfl rfl rfl trivial ?_); refine At.cq rfl rfl rfl rfl rfl rfl rfl rfl (s31 L _ (xs := v5) (ys := v5) rfl rfl r3.a r4.a l2) ?_
  rw [show decide (v5 = v5) = true by simp]
  clear stop31
  have stop66 := trivial
  (iterate 4 refine At.v rfl rfl rfl rfl rfl trivial ?_); refine At.cp rfl rfl rfl rfl rfl fun b93 h93 => ?_; (iterate 2 refine At.v rfl rfl rfl rfl rfl trivial ?_)
  obtain rfl : b93 = false := h93.symm.trans (by simp)
  (iterate 2 refine At.v rfl rfl rfl rfl rfl trivial ?_); refine At.cp rfl rfl rfl rfl rfl fun b98 h98 => ?_; refine At.v rfl rfl rfl rfl rfl trivial ?_; refine At.regionEnd ?_
  obtain rfl : b98 = false := h98.symm.trans (by simp)
  refine At.cond rfl ?_; refine At.skip (At.seq (At.region ?_)); refine At.ld 1 rfl rfl rfl rfl rfl rfl rfl rfl rfl ?_; refine At.ld 0 rfl rfl rfl rfl rfl rfl rfl rfl rfl ?_; refine At.v rfl rfl rfl rfl rfl trivial ?_
  clear stop66
  refine At.cq rfl rfl rfl rfl rfl rfl rfl rfl (q66 _ hOS.a) ?_
  have stop71 := trivial
  (iterate 5 refine At.v rfl rfl rfl rfl rfl trivial ?_); refine At.regionEnd (At.seq (At.region ?_)); refine At.ld 1 rfl rfl rfl rfl rfl rfl rfl rfl rfl ?_; refine At.ld 0 rfl rfl rfl rfl rfl rfl rfl rfl rfl ?_; refine At.v rfl rfl rfl rfl rfl trivial ?_
  clear stop71
  refine At.cq rfl rfl rfl rfl rfl rfl rfl rfl (q71 _ hBk.a) ?_
  have stop58 := trivial
  (iterate 5 refine At.v rfl rfl rfl rfl rfl trivial ?_); refine At.regionEnd (At.seq (At.region ?_)); refine At.ld 1 rfl rfl rfl rfl rfl rfl rfl rfl rfl ?_; refine At.v rfl rfl rfl rfl rfl trivial ?_
  clear stop58
  refine At.cq rfl rfl rfl rfl rfl rfl rfl rfl (q58 _ hOS.a hS.a) ?_
  have stop72 := trivial
  (iterate 3 refine At.v rfl rfl rfl rfl rfl trivial ?_); refine At.al rfl rfl rfl rfl rfl fun r21 => ?_; refine At.st 0 rfl rfl rfl rfl rfl rfl rfl rfl rfl rfl rfl rfl ?_; refine At.v rfl rfl rfl rfl rfl trivial ?_; refine At.regionEnd (At.seq (At.region ?_)); refine At.ld 2 rfl rfl rfl rfl rfl rfl rfl rfl rfl ?_; refine At.v rfl rfl rfl rfl rfl trivial ?_
  clear stop72
  refine At.cq rfl rfl rfl rfl rfl rfl rfl rfl (q72 _ hBk.a hS.a) ?_
  have stop22 := trivial
  (iterate 3 refine At.v rfl rfl rfl rfl rfl trivial ?_); refine At.al rfl rfl rfl rfl rfl fun r22 => ?_; refine At.st 0 rfl rfl rfl rfl rfl rfl rfl rfl rfl rfl rfl rfl ?_; refine At.v rfl rfl rfl rfl rfl trivial ?_; refine At.regionEnd (At.seq (At.region ?_)); (iterate 2 refine At.v rfl rfl rfl rfl rfl trivial ?_); refine At.cp rfl rfl rfl rfl rfl fun b128 h128 => ?_; refine At.v rfl rfl rfl rfl rfl trivial ?_
  obtain rfl : b128 = true := h128.symm.trans (by simp)
  (iterate 2 refine At.v rfl rfl rfl rfl rfl trivial ?_); refine At.cp rfl rfl rfl rfl rfl fun b132 h132 => ?_; (iterate 2 refine At.v rfl rfl rfl rfl rfl trivial ?_)
  obtain rfl : b132 = true := h132.symm.trans (by simp)
  refine At.ld 1 rfl rfl rfl rfl rfl rfl rfl rfl rfl ?_; refine At.ld 0 rfl rfl rfl rfl rfl rfl rfl rfl rfl ?_; refine At.qb rfl rfl rfl rfl (q_eqS rfl rfl rfl rfl rfl rfl rfl rfl) fun b137 h137 => ?_; (iterate 2 refine At.v rfl rfl rfl rfl rfl trivial ?_)
  obtain rfl : b137 = true := h137.symm.trans (by simp)
  (iterate 2 refine At.v rfl rfl rfl rfl rfl trivial ?_); refine At.cp rfl rfl rfl rfl rfl fun b142 h142 => ?_; (iterate 2 refine At.v rfl rfl rfl rfl rfl trivial ?_)
  obtain rfl : b142 = true := h142.symm.trans (by simp)
  subst hL
  refine At.cq rfl rfl rfl rfl rfl rfl rfl rfl (s22 hG.a) ?_; (iterate 2 refine At.v rfl rfl rfl rfl rfl trivial ?_); refine At.regionEnd ?_
  exact hLB Tryz.func16 (.inr ⟨_, rfl⟩) rfl (.tmp rfl .nil) (⟨by rfl, rfl⟩)
end Go.Gx
end

section
set_option linter.unusedSimpArgs false
set_option linter.unusedVariables false
namespace Go.Gx
open Go Go.Conc Go.Proofs Go.ChangeShapes Go.RowKit YtokdmiiejfmomaaGreatDoor
set_option maxRecDepth 100000
theorem ip16 : Tryz.prog.inPlace 16 = [] := by kernel_rfl
theorem uf16 : Tryz.prog.unfollowed 16 = true := by kernel_rfl
theorem rc16 : Tryz.prog.recurses 16 = true := by kernel_rfl
theorem vn16 : Tryz.prog.varsNamed 16 = ["velarium/canvas.checks"] := by kernel_rfl
theorem closed16 : joinedFacts Tryz.prog 16 Tryz.f16 Rows.canvasStatesSpec Rows.canvasStatesRow = true := by
  unfold joinedFacts
  rewrite [ip16, uf16, rc16, vn16, enter1, lf1, make1]
  kernel_rfl
theorem fnm16 : Tryz.prog.funcNamed "velarium/velariumlaw02.CanvasStates" = some 16 := by kernel_rfl
theorem inst16 : Tryz.f16.isInstance Tryz.prog Rows.canvasStatesRow.origin Rows.canvasStatesRow.targs := of_decide_eq_true (by kernel_rfl)
theorem wrap16 : Tryz.f16.isWrapper Tryz.prog Rows.canvasStatesRow.wrapper Rows.canvasStatesRow.mainSum := by unfold Func.isWrapper; first | (rw [if_pos (by decide +kernel)]; kernel_rfl) | (rw [if_neg (by decide +kernel)]; exact ⟨rfl, rfl⟩)
theorem goes16 : Tryz.prog.goes 16 = true := by kernel_rfl
theorem wbt16 : Rows.canvasStatesRow.wfByText (OpenSpec.ofChange Rows.canvasStatesSpec) = true := by kernel_rfl
theorem wants16 : (Tryz.f16.params.toList.all fun t => !Tryz.prog.wantsStandIn t) = true := by kernel_rfl
theorem lifted16 (os : Os) (started : os.Started) (H : Type) (enc : TypeId × Value → H) :
    ReturnsInLeavingWide {} Tryz.checked os 16 .any (fun w args => (Rows.canvasStatesSpec.pre enc Tryz.prog Tryz.f16 [] false w args ∧ laidMetH Tryz.prog laid1 w) ∧ sizedMet enc Tryz.prog Tryz.f16 (OpenSpec.ofChange Rows.canvasStatesSpec) false w args) (Rows.canvasStatesSpec.post enc Tryz.prog Tryz.f16 false true false false) := by
  refine law_lift Tryz.func16 (by kernel_rfl) rfl rfl (by kernel_rfl) os started H enc #[.agg #[.slice none 0 0, .int .i64 0, .int .i64 0, .int .i64 0, .slice none 0 0], .int .i64 0, .agg #[.int .i64 0, .int .i64 0], .int .i64 0, .slice none 0 0]
    (World.shaped_of_RefB (by kernel_rfl) (by kernel_rfl)) (by kernel_rfl) (by kernel_rfl) (by kernel_rfl) ?_
  intro W base args ds ps hval hA
  rw [Tryz.params16] at hval hA
  obtain ⟨v0, vs0, d0, ds0, p0, q0, e0, rfl, rfl, h0, hA⟩ := trodAll_cons hA
  obtain ⟨v1, vs1, d1, ds1, p1, q1, rfl, rfl, rfl, h1, hA⟩ := trodAll_cons hA
  obtain ⟨v2, vs2, d2, ds2, p2, q2, rfl, rfl, rfl, h2, hA⟩ := trodAll_cons hA
  obtain ⟨v3, vs3, d3, ds3, p3, q3, rfl, rfl, rfl, h3, hA⟩ := trodAll_cons hA
  obtain ⟨v4, vs4, d4, ds4, p4, q4, rfl, rfl, rfl, h4, hA⟩ := trodAll_cons hA
  obtain ⟨rfl, rfl, rfl⟩ := trodAll_nil hA
  obtain rfl : args = #[v0, v1, v2, v3, v4] := Array.toList_inj.1 e0
  obtain ⟨B0, A0, Hs0, rfl, hsh0, hb0⟩ := open_book (hval 0 27 _ rfl rfl) h0
  obtain ⟨n1, rfl, rfl, rfl, w1⟩ := open_int Tryz.underlying3 (hval 1 3 _ rfl rfl) h1
  obtain ⟨x2, rfl⟩ := open_ratio (hval 2 29 _ rfl rfl) h2
  obtain ⟨n3, rfl, rfl, rfl, w3⟩ := open_int Tryz.underlying3 (hval 3 3 _ rfl rfl) h3
  obtain ⟨a4, ys4, cap4, Hs4, rfl, hsh4, hb4⟩ := open_slopes (hval 4 45 _ rfl rfl) h4
  exact ⟨rfl, (Hs0 ++ Hs4), (hsh0.app hsh4), fun Post => law16 (hsh0.app hsh4).glo (hsh0.app hsh4).ro (hb0.a ((Sub.pre _ _).trans (Sub.append_left _ _))) (hb4.a ((Sub.append_left _ _).trans (Sub.append_left _ _)))⟩
theorem said16 : Rows.CanvasStatesSaid :=
  OpenClaim.holds_of_wide_leaving 16 Tryz.f16 rfl rfl rfl rfl rfl rfl rfl ⟨rfl, rfl, rfl, rfl, rfl⟩ rfl rfl rfl rfl rfl fnm16 Tryz.func16 closed16 inst16 wrap16
    (fun os started H enc _ => lifted16 os started H enc)
theorem card16 : Rows.CanvasStatesCardSaid :=
  ⟨Claim7.tied_new_at .later [.funcs] true (Claim7.new_of_sixth said16 (true, "2aeeda9e0b315eb022070bc88bc80a554dcd329f773ad53586088327a2b29430") false rfl ⟨rfl, rfl⟩ mi1 rfl
    (fun f fn hf hfn => by
      obtain rfl : f = 16 := Option.some.inj (hf.symm.trans fnm16)
      obtain rfl : fn = Tryz.f16 := Option.some.inj (hfn.symm.trans Tryz.func16)
      exact ⟨looks1.symm, wants_of wants16⟩)) wbt16, (fun _ h => by cases h), canvasStates_row_tie, (fun h => by cases h), goes_of fnm16 goes16⟩
end Go.Gx
namespace Go.Proofs.YtokdmiiejfmomaaGreatDoor
/-- THE CARD OF CanvasStates. -/
theorem canvasStates_card : Rows.CanvasStatesCardSaid := Go.Gx.card16
#print axioms canvasStates_card
end Go.Proofs.YtokdmiiejfmomaaGreatDoor
end
