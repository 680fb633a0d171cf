/-
  Once the row of the slope of Ask is known no more states are left than it says, and for one of its rows just as many; no other slope leaves fewer, none before it as few; none is named just if no slope tells states apart; once such a row is marked no more are left: CanvasAsked holds.
-/
import Derived.Test.YtokdmiiejfmomaaGreatDoorW6
import Derived.SevenTiedAt
section
set_option linter.unusedSimpArgs false
set_option linter.unusedVariables false
namespace Go.Gx
open Go Go.Conc Go.Proofs Go.ChangeShapes Go.RowKit YtokdmiiejfmomaaGreatDoor
set_option maxRecDepth 100000
theorem Shr.ro {W : World} {Hs : Facts} (h : Shr W Hs) : ∀ f ∈ ([.seg 0 0 chkC] ++ Hs : Facts), f.isOwn = false := by
  intro f hf
  rcases List.mem_append.1 hf with hf | hf
  · rw [List.mem_singleton] at hf; subst hf; rfl
  · exact (h f hf).1
section
variable {H : Type} {enc : TypeId × Value → H} {W : World} {sp : Nat → Bool} {held : Bool}

theorem open_slopes {r : Reach} {b0 : Nat} {v : Value} {d : DataW H} {ps : List MemPlace} (hval : Value.okWide Tryz.prog W r b0 45 v) (hd : DataW.Trod enc Tryz.prog W 0 sp held 45 v d ps) :
    ∃ (a : Option Addr) (ys : List R2) (cap : Nat) (Hs : Facts), v = .slice a ys.length cap ∧ Shr W Hs ∧ Rd Hs a (ys.flatMap c2) := by
  obtain ⟨a0, len, cap, rfl⟩ := Go.WideShapes.okWide_slice Tryz.underlying45 hval
  obtain ⟨fuel, hf⟩ := hd
  obtain ⟨a, ys, cap', Hs, e, h1, h2⟩ := open_sl (c := c2) (sz := 2) (fun _ => rfl) (by decide) Tryz.underlying45 (by kernel_rfl) (fun n cs x h => by
      obtain ⟨a, b, rfl⟩ := two Tryz.underlying29 ⟨rfl, rfl⟩ ⟨rfl, rfl⟩ (by kernel_rfl) (by kernel_rfl) h
      exact ⟨(a, b), rfl⟩) hf
  exact ⟨a, ys, cap', Hs, e, h1, h2⟩
end
end Go.Gx
end

section
set_option linter.unusedSimpArgs false
set_option linter.unusedVariables false
namespace Go.Gx
open Go Go.Conc Go.Proofs

instance : BoI Tryz.prog 4 := ⟨by kernel_rfl⟩
end Go.Gx
end

section
set_option linter.unusedSimpArgs false
set_option linter.unusedVariables false
namespace Go.Gx
open Go Go.Conc Go.Proofs
variable {main : Bool}

/-! ### the reference's piece and point that is met, and that they are the program's -/
theorem pairs_ok {ps : List R2} (hp : ∀ p ∈ ps, PtOk p) (hpw : ps.Pairwise (fun p q => p.2 < q.2)) : ∀ x ∈ ps.zip ps.tail, PtOk x.1 ∧ PtOk x.2 ∧ x.1.2 < x.2.2 := by
  rintro ⟨p, q⟩ hx
  refine ⟨hp _ (List.of_mem_zip hx).1, hp _ (List.mem_of_mem_tail (List.of_mem_zip hx).2), ?_⟩
  obtain ⟨i, hi, e⟩ := List.getElem_of_mem hx
  simp only [List.getElem_zip, List.getElem_tail, Prod.mk.injEq] at e
  obtain ⟨rfl, rfl⟩ := e
  simp at hi
  exact List.pairwise_iff_getElem.1 hpw i (i + 1) (by omega) (by omega) (by omega)
end Go.Gx
end

section
set_option linter.unusedSimpArgs false
set_option linter.unusedVariables false
namespace Go.Gx
open Go Go.Conc Go.Proofs
variable {main : Bool}

end Go.Gx
end

section
set_option linter.unusedSimpArgs false
set_option linter.unusedVariables false
namespace Go.Gx
open Go Go.Conc Go.Proofs
variable {main : Bool}

end Go.Gx
end

section
set_option linter.unusedSimpArgs false
set_option linter.unusedVariables false
namespace Go.Gx
open Go Go.Conc Go.Proofs
variable {main : Bool}

end Go.Gx
end

section
set_option linter.unusedSimpArgs false
set_option linter.unusedVariables false
namespace Go.Gx
open Go Go.Conc Go.Proofs
variable {main : Bool}

end Go.Gx
end

section
/-
  LOGIC G: what a call has made is put behind the cells that one knows by their places.
-/
set_option linter.unusedSimpArgs false
set_option linter.unusedVariables false
namespace Go.Gx
open Go Go.Conc
/-- 'Y' is 'sf ++ X' with the own cells that stand first in 'X' ahead of 'sf'. -/
class Back (sf X : Facts) (Y : outParam Facts) : Prop where
  s : Sub Y (sf ++ X)
instance (priority := low) backNil {sf X : Facts} : Back sf X (sf ++ X) := ⟨Sub.refl _⟩
instance backCons {sf X Y : Facts} {r : Nat} {o : Obj} [h : Back sf X Y] : Back sf (.own r o :: X) (.own r o :: Y) :=
  ⟨(Sub.cons _ h.s).trans (Sub.of_perm List.perm_middle.symm)⟩
theorem At.back {P : Program} {main : Bool} {L : Lg P main} {f : FuncId} {ro : Option Nat} {ds : Dz} {cs : List Frame} {n : Nat} {E : Env} {k : List Item} {sf X Y : Facts} [hb : Back sf X Y] (h : At L f ro ds cs n E Y k) : At L f ro ds cs n E (sf ++ X) k :=
  h.weakH hb.s
end Go.Gx
end

section
set_option linter.unusedSimpArgs false
set_option linter.unusedVariables false
namespace Go.Gx
open Go Go.Conc Go.Proofs

end Go.Gx
end

section
set_option linter.unusedSimpArgs false
set_option linter.unusedVariables false
namespace Go.Gx
open Go Go.Conc Go.Proofs
variable {main : Bool}

end Go.Gx
end

section
set_option linter.unusedSimpArgs false
set_option linter.unusedVariables false
namespace Go.Gx
open Go Go.Conc Go.Proofs
variable {main : Bool}

theorem low_cross {n d : Int} (hd : d ≠ 0) : (low n d).1 * d = n * (low n d).2 := by
  unfold low lowN lowD
  have hg : 0 < Int.gcd n d := Int.gcd_pos_of_ne_zero_right n hd
  have h1 : ((Int.gcd n d : Nat) : Int) ∣ n := Int.gcd_dvd_left ..
  have h2 : ((Int.gcd n d : Nat) : Int) ∣ d := Int.gcd_dvd_right ..
  generalize ((Int.gcd n d : Nat) : Int) = g at *
  have hg0 : g ≠ 0 := by rintro rfl; exact hd (Int.zero_dvd.1 h2)
  obtain ⟨a, rfl⟩ := h1
  obtain ⟨b, rfl⟩ := h2
  split
  · rw [← Int.mul_neg, ← Int.mul_neg, Int.mul_tdiv_cancel_left _ hg0, Int.mul_tdiv_cancel_left _ hg0]
    simp only [Int.neg_mul, Int.mul_neg]
    rw [Int.mul_left_comm, Int.mul_assoc]
  · simp only
    rw [Int.mul_tdiv_cancel_left _ hg0, Int.mul_tdiv_cancel_left _ hg0, Int.mul_left_comm, Int.mul_assoc]
end Go.Gx
end

section
set_option linter.unusedSimpArgs false
set_option linter.unusedVariables false
namespace Go.Gx
open Go Go.Conc Go.Proofs

end Go.Gx
end

section
set_option linter.unusedSimpArgs false
set_option linter.unusedVariables false
namespace Go.Gx
open Go Go.Conc Go.Proofs
variable {main : Bool}

def knR (B : Bk) (r : Int) : Int := if bookBar B ≠ 0 then bookBar B else if r ≠ 0 then r else if (statesM B).length = 0 then 9 else 0
theorem knR_eq (B : Bk) (rs : List Int) : knR B (firstBar rs) = knownBar B rs := by
  unfold knR knownBar lookBar
  by_cases hz : bookBar B = 0
  · simp [hz]
  · simp [hz]
end Go.Gx
end

section
set_option linter.unusedSimpArgs false
set_option linter.unusedVariables false
namespace Go.Gx
open Go Go.Conc Go.Proofs
variable {main : Bool}

/-! ### where a line meets the canvas, and in which row -/
theorem low_den_pos {n d : Int} (hd : d ≠ 0) : 1 ≤ (low n d).2 := lowD_pos hd
theorem frac_le {n d a : Int} (hd : d ≠ 0) (h : 0 < d ∧ a * d ≤ n ∨ d < 0 ∧ n ≤ a * d) : a * (low n d).2 ≤ (low n d).1 := by
  have hc := low_cross (n := n) hd
  have hp := low_den_pos (n := n) hd
  generalize (low n d).1 = x at *
  generalize (low n d).2 = y at *
  have hy : 0 ≤ y := by omega
  have e : a * y * d = a * d * y := Int.mul_right_comm ..
  rcases h with ⟨h0, h⟩ | ⟨h0, h⟩
  · have := Int.mul_le_mul_of_nonneg_right h hy
    rw [← hc, ← e] at this
    exact Int.le_of_mul_le_mul_right this h0
  · have := Int.mul_le_mul_of_nonneg_right h hy
    rw [← hc, ← e] at this
    have h3 : a * y * -d ≤ x * -d := by rw [Int.mul_neg, Int.mul_neg]; omega
    exact Int.le_of_mul_le_mul_right h3 (by omega)
theorem le_frac {n d a : Int} (hd : d ≠ 0) (h : 0 < d ∧ n ≤ a * d ∨ d < 0 ∧ a * d ≤ n) : (low n d).1 ≤ a * (low n d).2 := by
  have hc := low_cross (n := n) hd
  have hp := low_den_pos (n := n) hd
  generalize (low n d).1 = x at *
  generalize (low n d).2 = y at *
  have hy : 0 ≤ y := by omega
  have e : a * y * d = a * d * y := Int.mul_right_comm ..
  rcases h with ⟨h0, h⟩ | ⟨h0, h⟩
  · have := Int.mul_le_mul_of_nonneg_right h hy
    rw [← hc, ← e] at this
    exact Int.le_of_mul_le_mul_right this h0
  · have := Int.mul_le_mul_of_nonneg_right h hy
    rw [← hc, ← e] at this
    have h3 : x * -d ≤ a * y * -d := by rw [Int.mul_neg, Int.mul_neg]; omega
    exact Int.le_of_mul_le_mul_right h3 (by omega)
/-- A point of a piece is between its ends. -/
theorem cross_high {p q : R2} {eye : Int} {s : R2} (hpq : p.2 < q.2) : ∀ x ∈ crossM p q eye s, p.2 * x.2.2 ≤ x.2.1 ∧ x.2.1 ≤ q.2 * x.2.2 := by
  intro x hx
  unfold crossM at hx
  rw [if_neg (by rintro rfl; omega)] at hx
  generalize ha : offL p eye s = a at hx
  generalize hb : offL q eye s = b at hx
  split at hx
  · simp only [List.mem_cons, List.not_mem_nil, or_false] at hx
    rcases hx with rfl | rfl <;> simp only <;> omega
  rename_i h0
  split at hx
  · rename_i hc
    rw [List.mem_singleton] at hx
    subst hx
    simp only
    have hd : a - b ≠ 0 := by omega
    have hpos : 0 < q.2 - p.2 := by omega
    have e1 : p.2 * (a - b) + (q.2 - p.2) * a - q.2 * (a - b) = (q.2 - p.2) * b := by
      rw [Int.sub_mul, Int.sub_mul, Int.mul_sub, Int.mul_sub]
      omega
    refine ⟨frac_le hd ?_, le_frac hd ?_⟩
    · rcases hc with hc | hc
      · refine .inr ⟨by omega, ?_⟩
        have := Int.mul_le_mul_of_nonneg_left hc.1 (Int.le_of_lt hpos)
        rw [Int.mul_zero] at this
        omega
      · refine .inl ⟨by omega, ?_⟩
        have := Int.mul_le_mul_of_nonneg_left hc.1 (Int.le_of_lt hpos)
        rw [Int.mul_zero] at this
        omega
    · rcases hc with hc | hc
      · refine .inr ⟨by omega, ?_⟩
        have := Int.mul_le_mul_of_nonneg_left hc.2 (Int.le_of_lt hpos)
        rw [Int.mul_zero] at this
        omega
      · refine .inl ⟨by omega, ?_⟩
        have := Int.mul_le_mul_of_nonneg_left hc.2 (Int.le_of_lt hpos)
        rw [Int.mul_zero] at this
        omega
  · cases hx
theorem meet_mem {ps : List R2} {eye : Int} {s : R2} {x : Spot} (h : meetM ps eye s = some x) : ∃ p q, (p, q) ∈ ps.zip ps.tail ∧ x ∈ crossM p q eye s := by
  have hx : x ∈ piecesM ps eye s := by
    unfold meetM at h
    split at h
    · cases h
    · rename_i y l e
      cases h
      rw [e]
      exact bestM_mem _ _ _
  unfold piecesM at hx
  obtain ⟨⟨p, q⟩, hpq, hx⟩ := List.mem_flatMap.1 hx
  exact ⟨p, q, hpq, hx⟩
theorem foot_le {B : Bk} (hz : bookBar B = 0) : ∀ p ∈ B.prof, footM B ≤ p.2 := by
  have hpw := prof_pw hz
  have h2 := (bounds_of_bar hz).1
  unfold footM
  cases hB : B.prof with
  | nil => simp
  | cons p0 ps =>
    rw [hB] at hpw
    intro p hp
    rcases List.mem_cons.1 hp with rfl | hp
    · exact Int.le_refl _
    · exact Int.le_of_lt ((List.pairwise_cons.1 hpw).1 p hp)
theorem foot_pos {B : Bk} (hz : bookBar B = 0) : 0 ≤ footM B := by
  have h2 := (bounds_of_bar hz).1
  have hp := (bounds_of_bar hz).2.2.1
  unfold footM
  cases hB : B.prof with
  | nil => rw [hB] at h2; simp at h2
  | cons p0 ps =>
    have := hp p0 (by rw [hB]; exact List.mem_cons_self ..)
    unfold PtOk at this
    simp only [List.headD_cons]
    omega
/-- How high a line meets the canvas. -/
theorem meet_high {B : Bk} (hz : bookBar B = 0) {eye : Int} {s : R2} {x : Spot} (h : meetM B.prof eye s = some x) : footM B * x.2.2 ≤ x.2.1 ∧ x.2.1 ≤ 90 * x.2.2 ∧ 1 ≤ x.2.2 ∨ x.2.2 ≤ 0 := by
  obtain ⟨p, q, hpq, hx⟩ := meet_mem h
  obtain ⟨hp, hq, hlt⟩ := pairs_ok (bounds_of_bar hz).2.2.1 (prof_pw hz) _ hpq
  obtain ⟨h1, h2⟩ := cross_high hlt x hx
  simp only at h1 h2
  by_cases h0 : 1 ≤ x.2.2
  · left
    have hf := foot_le hz p (List.of_mem_zip hpq).1
    simp only at hp hq hlt
    unfold PtOk at hp hq
    have a1 := Int.mul_le_mul_of_nonneg_right hf (show 0 ≤ x.2.2 by omega)
    have a2 := Int.mul_le_mul_of_nonneg_right (show q.2 ≤ 90 by omega) (show 0 ≤ x.2.2 by omega)
    omega
  · right; omega
/-- The row of what is met is a row. -/
theorem row_ok {B : Bk} (hz : bookBar B = 0) {eye : Int} {s : R2} (he : EyeOk eye) (hs : SlOk s) : rowM B eye s = -1 ∨ 0 ≤ rowM B eye s ∧ rowM B eye s ≤ 90 := by
  cases hm : meetM B.prof eye s with
  | none => left; exact rowM_none hm
  | some x =>
    right
    rw [rowM_some hm]
    have hok := meetM_ok (bounds_of_bar hz).2.2.1 he hs hm
    have hh := meet_high hz hm
    have hb := bounds_of_bar hz
    have hf := foot_pos hz
    obtain ⟨-, -, -, h2⟩ := hok
    unfold squareM
    simp only
    generalize hsz : B.size = z at *
    have hd : 0 < z * x.2.2 := Int.mul_pos (by omega) (by omega)
    have hn : 0 ≤ x.2.1 - footM B * x.2.2 := by omega
    refine ⟨Int.tdiv_nonneg hn (Int.le_of_lt hd), ?_⟩
    have h3 : x.2.1 - footM B * x.2.2 ≤ 90 * (z * x.2.2) := by
      have a1 : 0 ≤ footM B * x.2.2 := Int.mul_nonneg hf (by omega)
      have a2 : 1 * x.2.2 ≤ z * x.2.2 := Int.mul_le_mul_of_nonneg_right (by omega) (by omega)
      omega
    rw [Int.tdiv_eq_ediv_of_nonneg hn]
    have := Int.ediv_le_ediv hd h3
    rwa [Int.mul_ediv_cancel _ (by omega)] at this
theorem row_isSome {B : Bk} (hz : bookBar B = 0) {eye : Int} {s : R2} (he : EyeOk eye) (hs : SlOk s) : (meetM B.prof eye s).isSome = decide (0 ≤ rowM B eye s) := by
  cases hm : meetM B.prof eye s with
  | none => rw [rowM_none hm]; rfl
  | some x =>
    have := row_ok hz he hs
    have h1 : rowM B eye s ≠ -1 ∨ rowM B eye s = -1 := by omega
    rw [rowM_some hm] at *
    have hok := meetM_ok (bounds_of_bar hz).2.2.1 he hs hm
    have hh := meet_high hz hm
    have hb := bounds_of_bar hz
    obtain ⟨-, -, -, h2⟩ := hok
    have hn : 0 ≤ x.2.1 - footM B * x.2.2 := by omega
    have : 0 ≤ (squareM B x.2).1 := Int.tdiv_nonneg hn (Int.mul_nonneg (by omega) (by omega))
    simp [this]
theorem state_eye {B : Bk} (hz : bookBar B = 0) : ∀ e ∈ statesM B, EyeOk e ∧ B.lo ≤ e ∧ e ≤ B.hi ∧ rightM B e = true := by
  intro e he
  have hb := bounds_of_bar hz
  unfold statesM bandL at he
  obtain ⟨h1, h2⟩ := List.mem_filter.1 he
  obtain ⟨k, hk, rfl⟩ := List.mem_map.1 h1
  rw [List.mem_range] at hk
  unfold EyeOk
  refine ⟨by omega, by omega, by omega, h2⟩
theorem mem_states {B : Bk} {e : Int} : e ∈ statesM B ↔ (B.lo ≤ e ∧ e ≤ B.hi) ∧ rightM B e = true := by
  unfold statesM bandL
  rw [List.mem_filter, List.mem_map]
  constructor
  · rintro ⟨⟨k, hk, rfl⟩, h⟩
    rw [List.mem_range] at hk
    exact ⟨by omega, h⟩
  · rintro ⟨h1, h⟩
    exact ⟨⟨(e - B.lo).toNat, by rw [List.mem_range]; omega, by omega⟩, h⟩
/-! ### the reference's sorting -/
end Go.Gx
end

section
set_option linter.unusedSimpArgs false
set_option linter.unusedVariables false
namespace Go.Gx
open Go Go.Conc Go.Proofs
variable {main : Bool}

theorem sortM3 (a b c : Int) : sortM [a, b, c] = if b < a then (if c < a then (if c < b then [c, b, a] else [b, c, a]) else [b, a, c]) else (if c < b then (if c < a then [c, a, b] else [a, c, b]) else [a, b, c]) := by
  by_cases h1 : b < a <;> by_cases h2 : c < a <;> by_cases h3 : c < b <;> simp [sortM, outM, innerM, List.range_succ, h1, h2, h3]
set_option maxRecDepth 100000 in
set_option maxHeartbeats 4000000 in
/-- CheckLooks (ref02) -/
theorem s57 (L : Lg Tryz.prog main) (H : Facts) {a : Option Addr} {n cap : Nat} {ss : List R2} (hn : ss.length = n) (hr : Rd H a (ss.flatMap c2)) (hl : ss.length ≤ 1000) : Pure L 57 #[.slice a n cap] H (.int .i64 (looksBar ss)) := by
  subst hn
  refine Spec.enter Tryz.func57 rfl (by simp [Tryz.f57]) fun c cs hc => ?_
  unfold looksBar at hc
  refine At.seq (At.region ?_); refine At.v rfl rfl rfl rfl rfl trivial ?_; refine At.regionEnd (At.seq (At.seq (At.region ?_))); refine At.v rfl rfl rfl rfl rfl trivial ?_; refine At.ln rfl rfl rfl rfl rfl rfl rfl rfl ?_; refine At.cqb rfl rfl rfl rfl rfl rfl rfl rfl (s43 L _) fun b7 h7 => ?_; refine At.v rfl rfl rfl rfl rfl trivial ?_; refine At.regionEnd ?_
  cases b7
  · have e : ¬ (1 ≤ ss.length ∧ ss.length ≤ 6) := by simp at h7; omega
    simp only [if_pos e] at hc
    refine At.cond rfl ?_; refine At.seq (At.region ?_); refine At.v rfl rfl rfl rfl rfl trivial ?_; refine At.regionEnd ?_
    exact At.ret Tryz.func57 (.inr ⟨_, rfl⟩) rfl (.tmp rfl .nil) (wk (hc _ _ (⟨by rfl, rfl⟩)))
  have e : ¬ ¬ (1 ≤ ss.length ∧ ss.length ≤ 6) := by simp at h7; omega
  simp only [if_neg e] at hc
  refine At.cond rfl ?_; refine At.skip (At.seq (At.seq (At.region ?_))); refine At.v rfl rfl rfl rfl rfl trivial ?_; refine At.regionEnd ?_; refine At.block ?_
  refine At.lpk (X := { j : Nat // j ≤ ss.length ∧ slsBar (ss.drop j) = slsBar ss }) [0] (fun x => [(3, .int .i64 (x.1 : Int))]) (fun _ => H) (fun x => ss.length - x.1) (⟨0, Nat.zero_le _, rfl⟩) rfl ?_ (by repeat (first | exact trivial | refine ⟨rfl, ?_⟩)) sb
  rintro ⟨j, hj, hd⟩ again
  simp only at again ⊢
  refine At.seq (At.seq (At.region ?_)); (iterate 2 refine At.v rfl rfl rfl rfl rfl trivial ?_); refine At.ln rfl rfl rfl rfl rfl rfl rfl rfl ?_; refine At.cp rfl rfl rfl rfl rfl fun b12 h12 => ?_; refine At.regionEnd ?_
  cases b12
  · have e : j = ss.length := by simp at h12; omega
    subst e
    rw [List.drop_length] at hd
    refine At.cond rfl ?_; refine At.exit rfl ?_; refine At.seq (At.region ?_); refine At.v rfl rfl rfl rfl rfl trivial ?_; refine At.regionEnd ?_
    exact At.ret Tryz.func57 (.inr ⟨_, rfl⟩) rfl (.tmp rfl .nil) (wk (hc _ _ (⟨by rw [← hd]; rfl, rfl⟩)))
  · have hlt : j < ss.length := by simp at h12; omega
    obtain ⟨b, off, rfl, hc1⟩ := hr.el (List.getElem?_eq_getElem hlt)
    rw [List.drop_eq_getElem_cons hlt, slsBar] at hd
    refine At.cond rfl ?_; refine At.skip (At.seq ?_); refine At.block ?_; refine At.seq (At.region ?_); (iterate 2 refine At.v rfl rfl rfl rfl rfl trivial ?_); refine At.q rfl rfl rfl rfl (q_ia rfl rfl rfl (by assumption)) ?_; refine At.ldc rfl rfl rfl rfl rfl rfl hc1.a rfl rfl ?_; refine At.cq rfl rfl rfl rfl rfl rfl rfl rfl (s47 L _) ?_; refine At.v rfl rfl rfl rfl rfl trivial ?_; refine At.regionEnd (At.seq (At.region ?_)); refine At.v rfl rfl rfl rfl rfl trivial ?_
    refine At.cp rfl rfl rfl rfl rfl fun b21 h21 => ?_; refine At.regionEnd ?_
    cases b21
    · have e3 : slopeBar ss[j].1 ss[j].2 = 0 := by simpa using h21
      rw [if_neg (by simpa using e3)] at hd
      refine At.cond rfl ?_; refine At.skip ?_; refine At.inBlock ?_; refine At.region ?_; refine At.v rfl rfl rfl rfl rfl trivial ?_; refine At.v rfl rfl rfl rfl rfl (by omega) ?_; refine At.v rfl rfl rfl rfl rfl trivial ?_; refine At.regionEnd ?_
      refine At.tA ((again ⟨j + 1, hlt, hd⟩ (by simp; omega)))
    · have e3 : slopeBar ss[j].1 ss[j].2 ≠ 0 := by simpa using h21
      rw [if_pos e3] at hd
      refine At.cond rfl ?_; refine At.seq (At.region ?_); (iterate 2 refine At.v rfl rfl rfl rfl rfl trivial ?_); refine At.regionEnd ?_
      exact At.ret Tryz.func57 (.inr ⟨_, rfl⟩) rfl (.tmp rfl .nil) (wk (hc _ _ (⟨by rw [← hd]; rfl, rfl⟩)))
end Go.Gx
end

section
set_option linter.unusedSimpArgs false
set_option linter.unusedVariables false
namespace Go.Gx
open Go Go.Conc Go.Proofs
variable {main : Bool}

end Go.Gx
end

section
set_option linter.unusedSimpArgs false
set_option linter.unusedVariables false
namespace Go.Gx
open Go Go.Conc Go.Proofs
variable {main : Bool}

end Go.Gx
end

section
set_option linter.unusedSimpArgs false
set_option linter.unusedVariables false
namespace Go.Gx
open Go Go.Conc Go.Proofs
variable {main : Bool}

end Go.Gx
end

section
set_option linter.unusedSimpArgs false
set_option linter.unusedVariables false
namespace Go.Gx
open Go Go.Conc Go.Proofs

end Go.Gx
end

section
/-
  LOGIC G: a growing list is shared: nobody writes it any more.
-/
set_option linter.unusedSimpArgs false
set_option linter.unusedVariables false
namespace Go.Gx
open Go Go.Conc
end Go.Gx
end

section
set_option linter.unusedSimpArgs false
set_option linter.unusedVariables false
namespace Go.Gx
open Go Go.Conc Go.Proofs
variable {main : Bool}

/-! ### a book whose marks are right for an eye -/
/-! ### the plain law of CanvasReal -/
theorem sortM_mem3 {l : List Int} (h : l.length ≤ 3) (x : Int) : x ∈ compactM (sortM l) ↔ x ∈ l := by
  match l, h with
  | [], _ => simp [sortM, outM, innerM, compactM]
  | [a], _ => simp [sortM, outM, innerM, compactM, List.range_succ]
  | [a, b], _ =>
    have e : sortM [a, b] = if b < a then [b, a] else [a, b] := by
      by_cases h1 : b < a <;> simp [sortM, outM, innerM, List.range_succ, h1]
    rw [e]
    split
    · unfold compactM
      split
      · simp [compactM]; omega
      · simp [compactM]; omega
    · unfold compactM
      split
      · simp [compactM]; omega
      · simp [compactM]
  | [a, b, c], _ =>
    rw [sortM3]
    have key : ∀ p q r : Int, x ∈ compactM [p, q, r] ↔ x = p ∨ x = q ∨ x = r := by
      intro p q r
      unfold compactM
      split
      · rename_i h1
        unfold compactM
        split
        · simp [compactM]; omega
        · simp [compactM]; omega
      · unfold compactM
        split
        · simp [compactM]; omega
        · simp [compactM]
    split <;> split <;> (try split) <;> rw [key] <;> simp <;> omega
theorem rowsM_mem {B : Bk} (hz : bookBar B = 0) {s : R2} {x : Int} : x ∈ rowsM B s ↔ x ≠ -1 ∧ ∃ e ∈ statesM B, rowM B e s = x := by
  unfold rowsM
  rw [sortM_mem3 (Nat.le_trans (List.length_filter_le _ _) (rowsOf_len hz s)), List.mem_filter]
  unfold rowsOf
  rw [List.mem_map]
  simp only [decide_eq_true_eq]
  exact And.comm
end Go.Gx
end

section
set_option linter.unusedSimpArgs false
set_option linter.unusedVariables false
namespace Go.Gx
open Go Go.Conc Go.Proofs

theorem kn0 {B : Bk} {rs : List Int} (hz : bookBar B = 0) (hr : firstBar rs = 0) (hs : (statesM B).length ≠ 0) : knownBar B rs = 0 := by
  rw [← knR_eq, hr]
  unfold knR
  rw [if_neg (by simpa using hz), if_neg (by simp), if_neg hs]
end Go.Gx
end

section
set_option linter.unusedSimpArgs false
set_option linter.unusedVariables false
namespace Go.Gx
open Go Go.Conc Go.Proofs
variable {main : Bool}

/-! ### the plain law of CanvasReached -/
theorem known_nil {B : Bk} (hz : bookBar B = 0) : knownBar B [] = if (statesM B).length = 0 then 9 else 0 := by
  unfold knownBar
  rw [lookBar1 hz]
  rfl
theorem marked_right (B : Bk) (m : R2 × Int) (e : Int) : rightM (markedM B m) e = (rightM B e && decide (rowM B e m.1 = m.2)) := by
  unfold rightM markedM
  rw [List.all_append]
  simp [rowM]
  rfl
theorem marked_bar {B : Bk} {m : R2 × Int} (hz : bookBar B = 0) (hm : markBar m = 0) (hl : B.marks.length < 4) : bookBar (markedM B m) = 0 := by
  refine bookBar_marks hz (by rw [List.length_append]; simp; omega) ?_
  intro x hx
  rcases List.mem_append.1 hx with hx | hx
  · exact (bounds_of_bar hz).2.2.2.2.2.2.2.2.2.2 x hx
  · rw [List.mem_singleton] at hx; rw [hx]; exact hm
theorem mark_bar {B : Bk} (hz : bookBar B = 0) {s : R2} {k : Int} (hs : slopeBar s.1 s.2 = 0) (hk : EyeOk k) (hl : B.marks.length < 4) : markBarM B (s, k) = if k ∈ rowsM B s then 0 else 9 := by
  have hmb : markBar (s, k) = 0 := by
    unfold markBar
    simp only
    rw [if_neg (by simpa using hs)]
    exact if_pos hk
  have hz' := marked_bar hz hmb hl
  unfold markBarM
  rw [if_neg (by simpa using hz), known_nil hz']
  have em : ∀ e, e ∈ statesM (markedM B (s, k)) ↔ e ∈ statesM B ∧ rowM B e s = k := by
    intro e
    rw [mem_states, mem_states, marked_right]
    show (B.lo ≤ e ∧ e ≤ B.hi) ∧ _ ↔ _
    simp only [Bool.and_eq_true, decide_eq_true_eq]
    exact and_assoc.symm
  unfold EyeOk at hk
  by_cases h : k ∈ rowsM B s
  · obtain ⟨_, e, he, hr⟩ := (rowsM_mem hz).1 h
    rw [if_pos h, if_neg]
    have := List.length_pos_of_mem ((em e).2 ⟨he, hr⟩)
    omega
  · rw [if_neg h, if_pos]
    rw [List.length_eq_zero_iff, List.eq_nil_iff_forall_not_mem]
    intro e he
    obtain ⟨h1, h2⟩ := (em e).1 he
    exact h ((rowsM_mem hz).2 ⟨by omega, e, h1, h2⟩)
end Go.Gx
end

section
set_option linter.unusedSimpArgs false
set_option linter.unusedVariables false
namespace Go.Gx
open Go Go.Conc Go.Proofs

end Go.Gx
end

section
set_option linter.unusedSimpArgs false
set_option linter.unusedVariables false
namespace Go.Gx
open Go Go.Conc Go.Proofs

/-! ### the plain law of CanvasNeeded -/
theorem rowsM_of {B : Bk} (hz : bookBar B = 0) {s : R2} {x : Int} : x ∈ rowsM B s ↔ x ≠ -1 ∧ x ∈ rowsOf B s := by
  rw [rowsM_mem hz]
  unfold rowsOf
  rw [List.mem_map]
end Go.Gx
end

section
set_option linter.unusedSimpArgs false
set_option linter.unusedVariables false
namespace Go.Gx
open Go Go.Conc Go.Proofs

/-! ### marks the other way round -/
end Go.Gx
end

section
set_option linter.unusedSimpArgs false
set_option linter.unusedVariables false
namespace Go.Gx
open Go Go.Conc Go.Proofs

end Go.Gx
end

section
set_option linter.unusedSimpArgs false
set_option linter.unusedVariables false
namespace Go.Gx
open Go Go.Conc Go.Proofs
variable {main : Bool}

/-! ### a book that knows more -/
structure Knows (B C : Bk) : Prop where
  b : bookBar B = 0
  c : bookBar C = 0
  r : ∀ e s, rowM C e s = rowM B e s
  s : ∀ e ∈ statesM C, e ∈ statesM B
  n : (statesM C).length ≠ 0
theorem Knows.rows {B C : Bk} (h : Knows B C) (s : R2) : ∀ x ∈ rowsM C s, x ∈ rowsM B s := by
  intro x hx
  obtain ⟨h1, e, he, hr⟩ := (rowsM_mem h.c).1 hx
  exact (rowsM_mem h.b).2 ⟨h1, e, h.s e he, by rw [← h.r]; exact hr⟩
end Go.Gx
end

section
set_option linter.unusedSimpArgs false
set_option linter.unusedVariables false
namespace Go.Gx
open Go Go.Conc Go.Proofs

end Go.Gx
end

section
set_option linter.unusedSimpArgs false
set_option linter.unusedVariables false
namespace Go.Gx
open Go Go.Conc Go.Proofs

/-! ### an upright canvas -/
end Go.Gx
end

section
set_option linter.unusedSimpArgs false
set_option linter.unusedVariables false
namespace Go.Gx
open Go Go.Conc Go.Proofs

end Go.Gx
end

section
set_option linter.unusedSimpArgs false
set_option linter.unusedVariables false
namespace Go.Gx
open Go Go.Conc Go.Proofs
variable {main : Bool}

end Go.Gx
end

section
set_option linter.unusedSimpArgs false
set_option linter.unusedVariables false
namespace Go.Gx
open Go Go.Conc Go.Proofs

/-! ### sets of marks, by numbers -/
/-! ### the order of lists -/
/-! ### the least set of marks that clash -/
end Go.Gx
end

section
set_option linter.unusedSimpArgs false
set_option linter.unusedVariables false
namespace Go.Gx
open Go Go.Conc Go.Proofs

end Go.Gx
end

section
set_option linter.unusedSimpArgs false
set_option linter.unusedVariables false
namespace Go.Gx
open Go Go.Conc Go.Proofs

/-! ### how many states are left at most -/
def mostF (rows : List Int) (m x : Int) : Int := if ((rows.count x : Nat) : Int) > m then ((rows.count x : Nat) : Int) else m
theorem mostF_ge (rows : List Int) : ∀ (xs : List Int) (m : Int), m ≤ xs.foldl (mostF rows) m ∧ ∀ x ∈ xs, ((rows.count x : Nat) : Int) ≤ xs.foldl (mostF rows) m
  | [], m => ⟨Int.le_refl _, fun x h => by cases h⟩
  | y :: xs, m => by
    rw [List.foldl_cons]
    obtain ⟨h1, h2⟩ := mostF_ge rows xs (mostF rows m y)
    have h3 : m ≤ mostF rows m y ∧ ((rows.count y : Nat) : Int) ≤ mostF rows m y := by unfold mostF; split <;> omega
    refine ⟨by omega, fun x hx => ?_⟩
    rcases List.mem_cons.1 hx with rfl | hx
    · omega
    · exact h2 x hx
theorem mostF_or (rows : List Int) : ∀ (xs : List Int) (m : Int), xs.foldl (mostF rows) m = m ∨ ∃ x ∈ xs, xs.foldl (mostF rows) m = ((rows.count x : Nat) : Int)
  | [], m => .inl rfl
  | y :: xs, m => by
    rw [List.foldl_cons]
    rcases mostF_or rows xs (mostF rows m y) with h | ⟨x, hx, h⟩
    · rw [h]
      by_cases e : ((rows.count y : Nat) : Int) > m
      · right; exact ⟨y, List.mem_cons_self .., by unfold mostF; rw [if_pos e]⟩
      · left; unfold mostF; rw [if_neg e]
    · exact .inr ⟨x, List.mem_cons_of_mem _ hx, h⟩
theorem mostM_ge {rows : List Int} {x : Int} (h : x ∈ rows) : ((rows.count x : Nat) : Int) ≤ mostM rows rows := (mostF_ge rows rows 0).2 x h
theorem mostM_or (rows : List Int) : (mostM rows rows = 0 ∧ rows = []) ∨ ∃ x ∈ rows, mostM rows rows = ((rows.count x : Nat) : Int) := by
  rcases mostF_or rows rows 0 with h | h
  · cases rows with
    | nil => exact .inl ⟨rfl, rfl⟩
    | cons y l =>
      exfalso
      have h1 := (mostF_ge (y :: l) (y :: l) 0).2 y (List.mem_cons_self ..)
      have h2 : 0 < (y :: l).count y := List.count_pos_iff.2 (List.mem_cons_self ..)
      rw [h] at h1
      omega
  · exact .inr h
theorem most_snoc (r : List Int) (x : Int) : mostM (r ++ [x]) (r ++ [x]) = if (((r ++ [x]).count x : Nat) : Int) > mostM r r then (((r ++ [x]).count x : Nat) : Int) else mostM r r := by
  have hx : x ∈ r ++ [x] := List.mem_append_right _ (List.mem_singleton.2 rfl)
  have h1 := mostM_ge hx
  have h2 : ∀ y ∈ r, ((r.count y : Nat) : Int) ≤ (((r ++ [x]).count y : Nat) : Int) := by
    intro y _
    rw [List.count_append]; omega
  have h3 : mostM r r ≤ mostM (r ++ [x]) (r ++ [x]) := by
    rcases mostM_or r with ⟨h, _⟩ | ⟨y, hy, h⟩
    · rw [h]; exact (mostF_ge (r ++ [x]) (r ++ [x]) 0).1
    · have := mostM_ge (rows := r ++ [x]) (List.mem_append_left _ hy)
      have := h2 y hy
      omega
  rcases mostM_or (r ++ [x]) with ⟨_, h⟩ | ⟨y, hy, h⟩
  · simp at h
  · by_cases e : y = x
    · subst e
      split <;> omega
    · have hyr : y ∈ r := by
        rcases List.mem_append.1 hy with h | h
        · exact h
        · exact absurd (List.mem_singleton.1 h) e
      have h4 : (r ++ [x]).count y = r.count y := by
        rw [List.count_append, List.count_eq_zero.2 (show y ∉ [x] from fun h => e (List.mem_singleton.1 h))]; omega
      have h5 := mostM_ge hyr
      split <;> omega
set_option maxRecDepth 100000 in
set_option maxHeartbeats 4000000 in
/-- leaves (law02) -/
theorem s64 {main : Bool} (L : Lg Tryz.prog main) (H : Facts) {B : Bk} {A : BkA} {a : Option Addr} {n cap : Nat} {xs : List Int} {s : R2} (hn : xs.length = n) (hO : Opn H B A) (hz : bookBar B = 0) (hr : Rd H a (xs.flatMap c1)) (he : ∀ e ∈ xs, EyeOk e) (hs : slopeBar s.1 s.2 = 0) (hl : xs.length ≤ 1000) :
    Pure L 64 #[bkV B A, .slice a n cap, rV s] H (.tuple #[.int .i64 (mostM (xs.map fun e => rowM B e s) (xs.map fun e => rowM B e s)), .bool true]) := by
  subst hn
  refine Spec.enter Tryz.func64 rfl (by simp [Tryz.f64]) fun c cs hc => ?_
  obtain ⟨rs, hrs⟩ : ∃ y, xs.map (fun e => rowM B e s) = y := ⟨_, rfl⟩
  rw [hrs] at hc
  have hrl : rs.length = xs.length := by rw [← hrs, List.length_map]
  have q27 := fun H_ (e : Int) (hO_ : Opn H_ B A) => s27 L H_ (eye := e) (s := s) hO_
  have q27' : ∀ (H_ : Facts) (e : Int), EyeOk e → Opn H_ B A → Pure L 27 #[bkV B A, .int .i64 e, rV s] H_ (sqV B e s) := fun H_ e h1 h2 => by
    have := q27 H_ e h2
    rw [lookBar1 hz, firstBar2, hs, show hBar e = 0 from if_pos h1] at this
    simpa using this
  refine At.seq (At.region ?_); refine At.bx rfl rfl rfl rfl rfl rfl rfl fun r3 => ?_; refine At.bx rfl rfl rfl rfl rfl rfl rfl fun r5 => ?_; (iterate 2 refine At.v rfl rfl rfl rfl rfl trivial ?_); refine At.regionEnd (At.seq (At.region ?_)); refine At.v rfl rfl rfl rfl rfl trivial ?_; refine At.regionEnd (At.seq (At.region ?_)); refine At.v rfl rfl rfl rfl rfl trivial ?_; refine At.regionEnd (At.seq (At.seq (At.region ?_))); refine At.v rfl rfl rfl rfl rfl trivial ?_; refine At.regionEnd ?_
  refine At.block ?_
  refine At.lpk (X := { x : Nat × Value × Facts // x.1 ≤ xs.length ∧ Sl c1 3 x.2.1 (rs.take x.1) x.2.2 }) [1, 3, 5] (fun x => [(10, .int .i64 (x.1.1 : Int)), (8, x.1.2.1), (9, .int .i64 (mostM (rs.take x.1.1) (rs.take x.1.1)))]) (fun x => .own r5 (.cells (List.toArray (c2 s)) 29 (0, 0)) :: .own r3 (.cells (List.toArray (bkC B A)) 27 (0, 0)) :: (x.1.2.2 ++ H)) (fun x => xs.length - x.1.1) (⟨(0, .slice none 0 0, []), Nat.zero_le _, Sl.nil⟩) rfl ?_ (by repeat (first | exact trivial | refine ⟨rfl, ?_⟩)) sb
  rintro ⟨⟨i, v, sf⟩, hi, hsl⟩ again
  simp only at again hi hsl ⊢
  refine At.seq (At.seq (At.region ?_)); (iterate 2 refine At.v rfl rfl rfl rfl rfl trivial ?_); refine At.ln rfl rfl rfl rfl rfl rfl rfl rfl ?_; refine At.cp rfl rfl rfl rfl rfl fun b20 h20 => ?_; refine At.regionEnd ?_
  cases b20
  · have e : i = xs.length := by simp at h20; omega
    subst e
    rw [List.take_of_length_le (by omega)]
    refine At.cond rfl ?_; refine At.exit rfl ?_; refine At.seq (At.region ?_); (iterate 3 refine At.v rfl rfl rfl rfl rfl trivial ?_); refine At.regionEnd ?_
    exact At.ret Tryz.func64 (.inr ⟨_, rfl⟩) rfl (.tmp rfl (.tmp rfl .nil)) (wk (hc _ _ (⟨rfl, rfl⟩)))
  have hlt : i < xs.length := by simp at h20; omega
  have hlt' : i < rs.length := by omega
  obtain ⟨b, off, rfl, hc1⟩ := hr.el (List.getElem?_eq_getElem hlt)
  have hei := he _ (List.getElem_mem hlt)
  have hri : rs[i] = rowM B xs[i] s := by simp [← hrs]
  have htk : rs.take (i + 1) = rs.take i ++ [rowM B xs[i] s] := by rw [List.take_succ_eq_append_getElem hlt', hri]
  have hms := most_snoc (rs.take i) (rowM B xs[i] s)
  rw [← htk] at hms
  have p27 := fun H_ (hO_ : Opn H_ B A) => q27' H_ xs[i] hei hO_
  obtain ⟨e, hex⟩ : ∃ e, xs[i] = e := ⟨_, rfl⟩
  rw [hex] at hc1 hei hri htk hms p27
  cases hm : meetM B.prof e s with
  | none =>
    rw [rowM_none hm] at htk hms
    simp only [sqV_none hm] at p27
    have stop27 := trivial
    refine At.cond rfl ?_; refine At.skip (At.seq ?_); refine At.block ?_; refine At.seq ?_; refine At.drawJ hmix [] rfl ?_; refine Pool.ld 1 0 rfl rfl rfl rfl rfl rfl rfl rfl rfl rfl rfl ?_; refine Pool.v 1 rfl rfl rfl rfl rfl rfl rfl trivial ?_; refine Pool.v 2 rfl rfl rfl rfl rfl rfl rfl trivial ?_; refine Pool.q 3 rfl rfl rfl rfl rfl (q_ia rfl rfl rfl (by assumption)) rfl ?_; refine Pool.ldc 4 rfl rfl rfl rfl rfl rfl rfl hc1.a rfl rfl rfl ?_
    refine Pool.ld 0 5 rfl rfl rfl rfl rfl rfl rfl rfl rfl rfl rfl ?_; refine Pool.fl 12 rfl rfl rfl rfl rfl rfl rfl rfl rfl rfl ?_
    clear stop27
    refine Pool.cq 6 rfl rfl rfl rfl rfl rfl rfl rfl rfl (fun H_ hs_ => p27 H_ hO.a) ?_; refine Pool.v 7 rfl rfl rfl rfl rfl rfl rfl trivial ?_; refine Pool.v 8 rfl rfl rfl rfl rfl rfl rfl trivial ?_; refine Pool.v 9 rfl rfl rfl rfl rfl rfl rfl trivial ?_; refine Pool.v 10 rfl rfl rfl rfl rfl rfl rfl trivial ?_; refine Pool.v 11 rfl rfl rfl rfl rfl rfl rfl trivial ?_; refine Pool.v 13 rfl rfl rfl rfl rfl rfl rfl trivial ?_; refine Pool.v 15 rfl rfl rfl rfl rfl rfl rfl trivial ?_
    refine Pool.v 16 rfl rfl rfl rfl rfl rfl rfl trivial ?_; refine pool_take rfl rfl rfl fun rf12 => ?_; refine Pool.st 0 14 rfl rfl rfl rfl rfl rfl rfl rfl rfl rfl rfl rfl rfl rfl rfl rfl rfl rfl sb ?_; refine pool_done rfl rfl ?_; refine At.regionEnd (At.seq (At.seq (At.region ?_))); refine At.v rfl rfl rfl rfl rfl trivial ?_; refine At.cp rfl rfl rfl rfl rfl fun b36 h36 => ?_; refine At.regionEnd ?_
    obtain rfl : b36 = false := h36.symm.trans (by kernel_rfl)
    refine At.cond rfl ?_; refine At.skip (At.seq (At.seq (At.region ?_))); (iterate 2 refine At.v rfl rfl rfl rfl rfl trivial ?_); refine At.regionEnd ?_; refine At.cond rfl ?_; refine At.region ?_; refine At.v rfl rfl rfl rfl rfl trivial ?_; refine At.regionEnd (At.seq (At.region ?_)); (iterate 2 refine At.v rfl rfl rfl rfl rfl trivial ?_)
    (refine At.l rfl rfl rfl rfl (l_buildSlice rfl rfl rfl rfl rfl) ?_; rintro _ _ ⟨r41, rfl, rfl⟩)
    refine At.push (x := (-1 : Int)) 0 4 rfl rfl rfl rfl rfl rfl rfl rfl rfl rfl rfl rfl rfl rfl hsl rfl rfl rfl ?_ fun v sf hs => ?_
    · rw [List.length_take]; omega
    rw [← htk] at hs
    have hRl : (rs.take (i + 1)).length = i + 1 := by rw [List.length_take]; omega
    obtain ⟨R, hR⟩ : ∃ y, rs.take (i + 1) = y := ⟨_, rfl⟩
    rw [hR] at hs hms hRl
    have ag := again ⟨(i + 1, v, sf), hlt, by rw [hR]; exact hs⟩ (by simp; omega)
    simp only [hR] at ag
    obtain ⟨av, cv, rfl⟩ := hs.slice
    obtain ⟨_, hrv, _⟩ := hs.rd
    refine At.v rfl rfl rfl rfl rfl trivial ?_; refine At.regionEnd (At.seq (At.region ?_)); refine At.v rfl rfl rfl rfl rfl trivial ?_; refine At.regionEnd (At.seq (At.seq (At.region ?_))); refine At.v rfl rfl rfl rfl rfl trivial ?_; refine At.regionEnd ?_; refine At.block ?_
    refine At.lpk (X := { k : Nat // k ≤ R.length }) [1, 3, 5, 8, 9, 10, 11, 12, 13, 14, 17, 18, 19, 20, 23, 24, 25, 26, 27, 28, 29, 30, 31, 32, 33, 34, 35, 36, 37, 38, 39, 40, 41, 42] (fun x => [(16, .int .i64 (x.1 : Int)), (15, .int .i64 (((R.take x.1).count (-1 : Int) : Nat) : Int))]) (fun x => .own r5 (.cells (List.toArray (c2 s)) 29 (0, 0)) :: .own r3 (.cells (List.toArray (bkC B A)) 27 (0, 0)) :: (sf ++ H)) (fun x => R.length - x.1) (⟨0, Nat.zero_le _⟩) rfl ?_ (by repeat (first | exact trivial | refine ⟨rfl, ?_⟩)) sb
    rintro ⟨k, hk⟩ again2
    simp only at again2 hk ⊢
    refine At.seq (At.seq (At.region ?_)); (iterate 2 refine At.v rfl rfl rfl rfl rfl trivial ?_); refine At.ln rfl rfl rfl rfl rfl rfl rfl rfl ?_; refine At.cp rfl rfl rfl rfl rfl fun b46 h46 => ?_; refine At.regionEnd ?_
    cases b46
    · have e : k = R.length := by simp at h46; omega
      subst e
      rw [List.take_length]
      refine At.cond rfl ?_; refine At.exit rfl ?_; refine At.region ?_; (iterate 4 refine At.v rfl rfl rfl rfl rfl trivial ?_); refine At.regionEnd ?_; refine At.inBlock ?_; refine At.region ?_; refine At.v rfl rfl rfl rfl rfl trivial ?_; refine At.v rfl rfl rfl rfl rfl (by omega) ?_; refine At.v rfl rfl rfl rfl rfl trivial ?_; refine At.regionEnd ?_
      rw [← hms]
      skip
      refine At.tA (ag)
    have hlk : k < R.length := by simp at h46; omega
    obtain ⟨bv, ov, ev', hcv⟩ := hrv.el (List.getElem?_eq_getElem hlk)
    cases ev'
    have hck : (R.take (k + 1)).count (-1 : Int) = (R.take k).count (-1 : Int) + if R[k] = -1 then 1 else 0 := by
      rw [List.take_succ_eq_append_getElem hlk, List.count_append, List.count_singleton]
      simp
    have hcl : (R.take k).count (-1 : Int) ≤ 1000 := Nat.le_trans List.count_le_length (by rw [List.length_take]; omega)
    have ag2 := again2 ⟨k + 1, hlk⟩ (by simp; omega)
    simp only [hck] at ag2
    refine At.cond rfl ?_; refine At.skip (At.seq ?_); refine At.block ?_; refine At.seq (At.region ?_); (iterate 2 refine At.v rfl rfl rfl rfl rfl trivial ?_); refine At.q rfl rfl rfl rfl (q_ia rfl rfl rfl (by assumption)) ?_; refine At.ldc rfl rfl rfl rfl rfl rfl hcv.a rfl rfl ?_; refine At.v rfl rfl rfl rfl rfl trivial ?_; refine At.cp rfl rfl rfl rfl rfl fun b54 h54 => ?_; refine At.regionEnd ?_
    cases b54
    · rw [if_neg (by simpa using h54)] at ag2
      refine At.cond rfl ?_; refine At.skip ?_; refine At.inBlock ?_; refine At.region ?_; refine At.v rfl rfl rfl rfl rfl trivial ?_; refine At.v rfl rfl rfl rfl rfl (by omega) ?_; refine At.v rfl rfl rfl rfl rfl trivial ?_; refine At.regionEnd ?_
      refine At.tA (ag2)
    · rw [if_pos (by simpa using h54)] at ag2
      refine At.cond rfl ?_; refine At.region ?_; refine At.v rfl rfl rfl rfl rfl trivial ?_; refine At.v rfl rfl rfl rfl rfl (by omega) ?_; refine At.v rfl rfl rfl rfl rfl trivial ?_; refine At.regionEnd ?_; refine At.inBlock ?_; refine At.region ?_; refine At.v rfl rfl rfl rfl rfl trivial ?_; refine At.v rfl rfl rfl rfl rfl (by omega) ?_; refine At.v rfl rfl rfl rfl rfl trivial ?_; refine At.regionEnd ?_
      refine At.tA (ag2)
  | some x =>
    have hrx : rowM B e s = (squareM B x.2).1 := by unfold rowM; rw [hm]
    rw [hrx] at htk hms
    simp only [sqV_some hm] at p27
    obtain ⟨rr, hrr⟩ : ∃ y, (squareM B x.2).1 = y := ⟨_, rfl⟩
    rw [hrr] at htk hms p27
    have stop27 := trivial
    refine At.cond rfl ?_; refine At.skip (At.seq ?_); refine At.block ?_; refine At.seq ?_; refine At.drawJ hmix [] rfl ?_; refine Pool.ld 1 0 rfl rfl rfl rfl rfl rfl rfl rfl rfl rfl rfl ?_; refine Pool.v 1 rfl rfl rfl rfl rfl rfl rfl trivial ?_; refine Pool.v 2 rfl rfl rfl rfl rfl rfl rfl trivial ?_; refine Pool.q 3 rfl rfl rfl rfl rfl (q_ia rfl rfl rfl (by assumption)) rfl ?_; refine Pool.ldc 4 rfl rfl rfl rfl rfl rfl rfl hc1.a rfl rfl rfl ?_
    refine Pool.ld 0 5 rfl rfl rfl rfl rfl rfl rfl rfl rfl rfl rfl ?_; refine Pool.fl 12 rfl rfl rfl rfl rfl rfl rfl rfl rfl rfl ?_
    clear stop27
    refine Pool.cq 6 rfl rfl rfl rfl rfl rfl rfl rfl rfl (fun H_ hs_ => p27 H_ hO.a) ?_; refine Pool.v 7 rfl rfl rfl rfl rfl rfl rfl trivial ?_; refine Pool.v 8 rfl rfl rfl rfl rfl rfl rfl trivial ?_; refine Pool.v 9 rfl rfl rfl rfl rfl rfl rfl trivial ?_; refine Pool.v 10 rfl rfl rfl rfl rfl rfl rfl trivial ?_; refine Pool.v 11 rfl rfl rfl rfl rfl rfl rfl trivial ?_; refine Pool.v 13 rfl rfl rfl rfl rfl rfl rfl trivial ?_; refine Pool.v 15 rfl rfl rfl rfl rfl rfl rfl trivial ?_
    refine Pool.v 16 rfl rfl rfl rfl rfl rfl rfl trivial ?_; refine pool_take rfl rfl rfl fun rf12 => ?_; refine Pool.st 0 14 rfl rfl rfl rfl rfl rfl rfl rfl rfl rfl rfl rfl rfl rfl rfl rfl rfl rfl sb ?_; refine pool_done rfl rfl ?_; refine At.regionEnd (At.seq (At.seq (At.region ?_))); refine At.v rfl rfl rfl rfl rfl trivial ?_; refine At.cp rfl rfl rfl rfl rfl fun b36 h36 => ?_; refine At.regionEnd ?_
    obtain rfl : b36 = false := h36.symm.trans (by kernel_rfl)
    refine At.cond rfl ?_; refine At.skip (At.seq (At.seq (At.region ?_))); (iterate 2 refine At.v rfl rfl rfl rfl rfl trivial ?_); refine At.regionEnd ?_; refine At.cond rfl ?_; refine At.skip (At.seq (At.region ?_)); (iterate 2 refine At.v rfl rfl rfl rfl rfl trivial ?_)
    (refine At.l rfl rfl rfl rfl (l_buildSlice rfl rfl rfl rfl rfl) ?_; rintro _ _ ⟨r41, rfl, rfl⟩)
    refine At.push (x := rr) 0 4 rfl rfl rfl rfl rfl rfl rfl rfl rfl rfl rfl rfl rfl rfl hsl rfl rfl rfl ?_ fun v sf hs => ?_
    · rw [List.length_take]; omega
    rw [← htk] at hs
    have hRl : (rs.take (i + 1)).length = i + 1 := by rw [List.length_take]; omega
    obtain ⟨R, hR⟩ : ∃ y, rs.take (i + 1) = y := ⟨_, rfl⟩
    rw [hR] at hs hms hRl
    have ag := again ⟨(i + 1, v, sf), hlt, by rw [hR]; exact hs⟩ (by simp; omega)
    simp only [hR] at ag
    obtain ⟨av, cv, rfl⟩ := hs.slice
    obtain ⟨_, hrv, _⟩ := hs.rd
    refine At.v rfl rfl rfl rfl rfl trivial ?_; refine At.regionEnd (At.seq (At.region ?_)); refine At.v rfl rfl rfl rfl rfl trivial ?_; refine At.regionEnd (At.seq (At.seq (At.region ?_))); refine At.v rfl rfl rfl rfl rfl trivial ?_; refine At.regionEnd ?_; refine At.block ?_
    refine At.lpk (X := { k : Nat // k ≤ R.length }) [1, 3, 5, 8, 9, 10, 11, 12, 13, 14, 17, 18, 19, 20, 23, 24, 25, 26, 27, 28, 29, 30, 31, 32, 33, 34, 35, 36, 37, 38, 39, 40, 41, 42] (fun x => [(16, .int .i64 (x.1 : Int)), (15, .int .i64 (((R.take x.1).count rr : Nat) : Int))]) (fun x => .own r5 (.cells (List.toArray (c2 s)) 29 (0, 0)) :: .own r3 (.cells (List.toArray (bkC B A)) 27 (0, 0)) :: (sf ++ H)) (fun x => R.length - x.1) (⟨0, Nat.zero_le _⟩) rfl ?_ (by repeat (first | exact trivial | refine ⟨rfl, ?_⟩)) sb
    rintro ⟨k, hk⟩ again2
    simp only at again2 hk ⊢
    refine At.seq (At.seq (At.region ?_)); (iterate 2 refine At.v rfl rfl rfl rfl rfl trivial ?_); refine At.ln rfl rfl rfl rfl rfl rfl rfl rfl ?_; refine At.cp rfl rfl rfl rfl rfl fun b46 h46 => ?_; refine At.regionEnd ?_
    cases b46
    · have e : k = R.length := by simp at h46; omega
      subst e
      rw [List.take_length]
      refine At.cond rfl ?_; refine At.exit rfl ?_; refine At.region ?_; (iterate 4 refine At.v rfl rfl rfl rfl rfl trivial ?_); refine At.regionEnd ?_; refine At.inBlock ?_; refine At.region ?_; refine At.v rfl rfl rfl rfl rfl trivial ?_; refine At.v rfl rfl rfl rfl rfl (by omega) ?_; refine At.v rfl rfl rfl rfl rfl trivial ?_; refine At.regionEnd ?_
      rw [← hms]
      skip
      refine At.tA (ag)
    have hlk : k < R.length := by simp at h46; omega
    obtain ⟨bv, ov, ev', hcv⟩ := hrv.el (List.getElem?_eq_getElem hlk)
    cases ev'
    have hck : (R.take (k + 1)).count rr = (R.take k).count rr + if R[k] = rr then 1 else 0 := by
      rw [List.take_succ_eq_append_getElem hlk, List.count_append, List.count_singleton]
      simp
    have hcl : (R.take k).count rr ≤ 1000 := Nat.le_trans List.count_le_length (by rw [List.length_take]; omega)
    have ag2 := again2 ⟨k + 1, hlk⟩ (by simp; omega)
    simp only [hck] at ag2
    refine At.cond rfl ?_; refine At.skip (At.seq ?_); refine At.block ?_; refine At.seq (At.region ?_); (iterate 2 refine At.v rfl rfl rfl rfl rfl trivial ?_); refine At.q rfl rfl rfl rfl (q_ia rfl rfl rfl (by assumption)) ?_; refine At.ldc rfl rfl rfl rfl rfl rfl hcv.a rfl rfl ?_; refine At.v rfl rfl rfl rfl rfl trivial ?_; refine At.cp rfl rfl rfl rfl rfl fun b54 h54 => ?_; refine At.regionEnd ?_
    cases b54
    · rw [if_neg (by simpa using h54)] at ag2
      refine At.cond rfl ?_; refine At.skip ?_; refine At.inBlock ?_; refine At.region ?_; refine At.v rfl rfl rfl rfl rfl trivial ?_; refine At.v rfl rfl rfl rfl rfl (by omega) ?_; refine At.v rfl rfl rfl rfl rfl trivial ?_; refine At.regionEnd ?_
      refine At.tA (ag2)
    · rw [if_pos (by simpa using h54)] at ag2
      refine At.cond rfl ?_; refine At.region ?_; refine At.v rfl rfl rfl rfl rfl trivial ?_; refine At.v rfl rfl rfl rfl rfl (by omega) ?_; refine At.v rfl rfl rfl rfl rfl trivial ?_; refine At.regionEnd ?_; refine At.inBlock ?_; refine At.region ?_; refine At.v rfl rfl rfl rfl rfl trivial ?_; refine At.v rfl rfl rfl rfl rfl (by omega) ?_; refine At.v rfl rfl rfl rfl rfl trivial ?_; refine At.regionEnd ?_
      refine At.tA (ag2)
end Go.Gx
end

section
set_option linter.unusedSimpArgs false
set_option linter.unusedVariables false
namespace Go.Gx
open Go Go.Conc Go.Proofs

/-! ### the plain law of CanvasAsked -/
theorem states_marked (B : Bk) (s : R2) (k : Int) : (statesM (markedM B (s, k))).length = (rowsOf B s).count k := by
  have e : statesM (markedM B (s, k)) = (statesM B).filter fun e => decide (rowM B e s = k) := by
    unfold statesM
    rw [List.filter_filter]
    show (bandL B.lo B.hi).filter _ = _
    refine List.filter_congr fun e _ => ?_
    rw [marked_right, Bool.and_comm]
  rw [e]
  unfold rowsOf
  rw [List.count_eq_countP, List.countP_map, List.countP_eq_length_filter]
  congr 2
theorem ask_law (B : Bk) (ss : List R2) : ∀ n, n ≤ ss.length →
    (((askTo B ss n).1 = -1 ∧ (askTo B ss n).2 = (statesM B).length) ∨ ∃ w : Nat, w < n ∧ (askTo B ss n).1 = w ∧ (askTo B ss n).2 = leaveM B (ss.getD w (0, 0)) ∧ (askTo B ss n).2 < (statesM B).length) ∧
    ∀ i, i < n → (askTo B ss n).2 ≤ leaveM B (ss.getD i (0, 0)) ∧ (leaveM B (ss.getD i (0, 0)) = (askTo B ss n).2 → 0 ≤ (askTo B ss n).1 → (askTo B ss n).1 ≤ i)
  | 0, _ => ⟨.inl ⟨rfl, rfl⟩, fun i h => by omega⟩
  | n + 1, hn => by
    obtain ⟨h1, h2⟩ := ask_law B ss n (by omega)
    have hle := askTo_le (B := B) (ss := ss) n
    rw [askTo_succ]
    unfold askStep
    by_cases h : leaveM B (ss.getD n (0, 0)) < (askTo B ss n).2
    · rw [if_pos h]
      refine ⟨.inr ⟨n, by omega, rfl, rfl, by show leaveM B _ < _; omega⟩, fun i hi => ?_⟩
      by_cases e : i = n
      · subst e
        exact ⟨Int.le_refl _, fun _ _ => Int.le_refl _⟩
      · have := (h2 i (by omega)).1
        exact ⟨by show leaveM B _ ≤ _; omega, fun h3 _ => by simp only at h3; omega⟩
    · rw [if_neg h]
      refine ⟨?_, fun i hi => ?_⟩
      · rcases h1 with h1 | ⟨w, h3, h4⟩
        · exact .inl h1
        · exact .inr ⟨w, by omega, h4⟩
      · by_cases e : i = n
        · subst e
          refine ⟨by omega, fun h3 h4 => ?_⟩
          rcases h1 with h1 | ⟨w, h5, h6, h7⟩
          · omega
          · omega
        · exact h2 i (by omega)
theorem ask_none {B : Bk} {ss : List R2} (hz : bookBar B = 0) (hl : looksBar ss = 0) (h : (statesM B).length = 0) : askM B ss = ((0, 0), 9) := by
  have hk : knownBar B [looksBar ss] = 9 := by
    unfold knownBar
    rw [lookBar1 hz, firstBar1, hl, if_neg (by simp), if_pos h]
  unfold askM
  rw [hk]
  simp
theorem ask_some {B : Bk} {ss : List R2} (hz : bookBar B = 0) (hl : looksBar ss = 0) (h : (statesM B).length ≠ 0) : askM B ss = (askTo B ss ss.length, 0) := by
  unfold askM
  rw [kn0 hz (by rw [hl]; rfl) h]
  simp
set_option maxRecDepth 100000 in
set_option maxHeartbeats 4000000 in
/-- CanvasAsked -/
theorem law14 {Post : Value → World → Prop} {W₀ : World} {H Hg : Facts} (hG : Glo H Hg) (hsh : ∀ f ∈ H, f.isOwn = false) {B : Bk} {A : BkA} (hBk : BkR H B A) {a : Option Addr} {ss : List R2} {cap : Nat} (hS : Rd H a (ss.flatMap c2)) {ot pk : Int} (hot : 0 ≤ ot ∧ ot ≤ 255) (hpk : 0 ≤ pk ∧ pk ≤ 255) :
    LawAt (mainLg Tryz.prog Post W₀ [] []) 14 #[bkV B A, .slice a ss.length cap, .int .u8 ot, .int .u8 pk] H (.bool true) := by
  refine LawAt.enter Tryz.func14 rfl (by simp [Tryz.f14]) fun cs hLB => ?_
  obtain ⟨pa, pc, ma, mc⟩ := A
  generalize hL : mainLg Tryz.prog Post W₀ [] [] = L at hLB ⊢
  have stop22 := trivial
  refine At.seq (At.region ?_); refine At.bx rfl rfl rfl rfl rfl rfl rfl fun r4 => ?_; refine At.v rfl rfl rfl rfl rfl trivial ?_; refine At.regionEnd (At.seq (At.seq (At.region ?_))); refine At.ld 0 rfl rfl rfl rfl rfl rfl rfl rfl rfl ?_; refine At.cqb rfl rfl rfl rfl rfl rfl rfl rfl (s39 L _ bs) fun b26 h26 => ?_; (iterate 2 refine At.v rfl rfl rfl rfl rfl trivial ?_)
  cases b26
  · refine At.un rfl rfl rfl rfl ?_
    (iterate 2 refine At.un rfl rfl rfl rfl ?_); (iterate 2 refine At.v rfl rfl rfl rfl rfl trivial ?_); (iterate 3 refine At.un rfl rfl rfl rfl ?_); (iterate 2 refine At.v rfl rfl rfl rfl rfl trivial ?_); (iterate 4 refine At.un rfl rfl rfl rfl ?_); refine At.v rfl rfl rfl rfl rfl trivial ?_; refine At.regionEnd ?_; refine At.cond rfl ?_; refine At.seq (At.region ?_)
    subst hL
    refine At.cq rfl rfl rfl rfl rfl rfl rfl rfl (s22 hG.a) ?_; refine At.v rfl rfl rfl rfl rfl trivial ?_; refine At.regionEnd ?_
    exact hLB Tryz.func14 (.inr ⟨_, rfl⟩) rfl (.tmp rfl .nil) (⟨by rfl, rfl⟩)
  refine At.v rfl rfl rfl rfl rfl trivial ?_; refine At.ln rfl rfl rfl rfl rfl rfl rfl rfl ?_; refine At.cp rfl rfl rfl rfl rfl fun b31 h31 => ?_; (iterate 2 refine At.v rfl rfl rfl rfl rfl trivial ?_)
  cases b31
  rotate_left
  · refine At.un rfl rfl rfl rfl ?_
    (iterate 2 refine At.un rfl rfl rfl rfl ?_); (iterate 2 refine At.v rfl rfl rfl rfl rfl trivial ?_); (iterate 4 refine At.un rfl rfl rfl rfl ?_); refine At.v rfl rfl rfl rfl rfl trivial ?_; refine At.regionEnd ?_; refine At.cond rfl ?_; refine At.seq (At.region ?_)
    subst hL
    refine At.cq rfl rfl rfl rfl rfl rfl rfl rfl (s22 hG.a) ?_; refine At.v rfl rfl rfl rfl rfl trivial ?_; refine At.regionEnd ?_
    exact hLB Tryz.func14 (.inr ⟨_, rfl⟩) rfl (.tmp rfl .nil) (⟨by rfl, rfl⟩)
  have hsl : ss.length ≤ 1000 := by simp at h31; omega
  have stop57 := trivial
  refine At.v rfl rfl rfl rfl rfl trivial ?_
  clear stop57
  refine At.cq rfl rfl rfl rfl rfl rfl rfl rfl (s57 L _ (ss := ss) rfl hS.a hsl) ?_; refine At.cp rfl rfl rfl rfl rfl fun b36 h36 => ?_; (iterate 2 refine At.v rfl rfl rfl rfl rfl trivial ?_)
  cases b36
  rotate_left
  · refine At.un rfl rfl rfl rfl ?_
    (iterate 3 refine At.un rfl rfl rfl rfl ?_); refine At.v rfl rfl rfl rfl rfl trivial ?_; refine At.regionEnd ?_; refine At.cond rfl ?_; refine At.seq (At.region ?_)
    subst hL
    refine At.cq rfl rfl rfl rfl rfl rfl rfl rfl (s22 hG.a) ?_; refine At.v rfl rfl rfl rfl rfl trivial ?_; refine At.regionEnd ?_
    exact hLB Tryz.func14 (.inr ⟨_, rfl⟩) rfl (.tmp rfl .nil) (⟨by rfl, rfl⟩)
  refine At.fa 4 rfl rfl rfl rfl rfl rfl rfl ?_; refine At.ld 0 rfl rfl rfl rfl rfl rfl rfl rfl rfl ?_; refine At.ln rfl rfl rfl rfl rfl rfl rfl rfl ?_; refine At.cp rfl rfl rfl rfl rfl fun b42 h42 => ?_; refine At.v rfl rfl rfl rfl rfl trivial ?_; refine At.regionEnd ?_
  cases b42
  rotate_left
  · refine At.cond rfl ?_
    refine At.seq (At.region ?_)
    subst hL
    refine At.cq rfl rfl rfl rfl rfl rfl rfl rfl (s22 hG.a) ?_; refine At.v rfl rfl rfl rfl rfl trivial ?_; refine At.regionEnd ?_
    exact hLB Tryz.func14 (.inr ⟨_, rfl⟩) rfl (.tmp rfl .nil) (⟨by rfl, rfl⟩)
  have hlk : looksBar ss = 0 := by simpa using h36
  have hml : B.marks.length < 4 := by simp at h42; omega
  have hf : fitM B = true := h26
  have hz : bookBar B = 0 := by simp [fitM] at hf; exact hf.2.2
  have hg : Cells H 0 0 chkC := hG.g.a hG.sub
  have hb := bounds_of_bar hz
  have hO : Opn H B ⟨pa, pc, ma, mc⟩ := ⟨hg, hBk, by omega, by omega⟩
  have hOS : OpS H H B ⟨pa, pc, ma, mc⟩ := ⟨Sub.refl _, hsh, hO⟩
  obtain ⟨hs1, hs6, hss⟩ := looks0 hlk
  have q63 := fun H_ (hO_ : OpS H_ H B ⟨pa, pc, ma, mc⟩) hr_ => s63 (Post := Post) (W₀ := W₀) (a2 := a) (n := ss.length) (cap2 := cap) (ss := ss) hO_ rfl hr_ hsl
  have q51 := fun H_ (hO_ : Opn H_ B ⟨pa, pc, ma, mc⟩) => s51 L H_ hO_
  have l2 := statesM_len hz
  simp only [hL, hz, ne_eq, not_true_eq_false, if_false] at q63 q51
  by_cases h0 : (statesM B).length = 0
  · rw [ask_none hz hlk h0] at q63
    have stop63 := trivial
    refine At.cond rfl ?_; refine At.skip (At.seq (At.region ?_)); refine At.ld 0 rfl rfl rfl rfl rfl rfl rfl rfl rfl ?_; refine At.v rfl rfl rfl rfl rfl trivial ?_
    clear stop63
    refine At.cq rfl rfl rfl rfl rfl rfl rfl rfl (q63 _ hOS.a hS.a) ?_
    have stop51 := trivial
    (iterate 7 refine At.v rfl rfl rfl rfl rfl trivial ?_); refine At.regionEnd (At.seq (At.region ?_)); refine At.ld 0 rfl rfl rfl rfl rfl rfl rfl rfl rfl ?_
    clear stop51
    refine At.cl rfl rfl rfl rfl rfl rfl rfl rfl (q51 _ hO.a) ?_
    rintro _ _ ⟨sf1, ⟨a1, cap1, rfl, hsl1⟩, rfl⟩
    refine At.back ?_
    rw [h0]
    (iterate 5 refine At.v rfl rfl rfl rfl rfl trivial ?_); refine At.regionEnd (At.seq (At.seq (At.region ?_))); refine At.v rfl rfl rfl rfl rfl trivial ?_; refine At.cp rfl rfl rfl rfl rfl fun b58 h58 => ?_; refine At.v rfl rfl rfl rfl rfl trivial ?_
    obtain rfl : b58 = false := h58.symm.trans (by kernel_rfl)
    refine At.v rfl rfl rfl rfl rfl trivial ?_; refine At.cp rfl rfl rfl rfl rfl fun b61 h61 => ?_; refine At.v rfl rfl rfl rfl rfl trivial ?_; refine At.ln rfl rfl rfl rfl rfl rfl rfl rfl ?_; refine At.cp rfl rfl rfl rfl rfl fun b64 h64 => ?_; refine At.qb rfl rfl rfl rfl (q_neqB rfl rfl rfl) fun b65 h65 => ?_; (iterate 2 refine At.v rfl rfl rfl rfl rfl trivial ?_)
    obtain rfl : b61 = false := h61.symm.trans (by kernel_rfl)
    obtain rfl : b64 = false := h64.symm.trans (by kernel_rfl)
    obtain rfl : b65 = false := h65.symm.trans (by kernel_rfl)
    refine At.v rfl rfl rfl rfl rfl trivial ?_; refine At.ln rfl rfl rfl rfl rfl rfl rfl rfl ?_; refine At.cp rfl rfl rfl rfl rfl fun b70 h70 => ?_; refine At.v rfl rfl rfl rfl rfl trivial ?_; refine At.regionEnd ?_
    obtain rfl : b70 = false := h70.symm.trans (by kernel_rfl)
    refine At.cond rfl ?_; refine At.skip (At.seq (At.seq (At.region ?_))); refine At.v rfl rfl rfl rfl rfl trivial ?_; refine At.cp rfl rfl rfl rfl rfl fun b73 h73 => ?_; refine At.regionEnd ?_
    obtain rfl : b73 = true := h73.symm.trans (by kernel_rfl)
    refine At.cond rfl ?_; refine At.seq (At.region ?_); refine At.v rfl rfl rfl rfl rfl trivial ?_; refine At.cp rfl rfl rfl rfl rfl fun b75 h75 => ?_; refine At.v rfl rfl rfl rfl rfl trivial ?_
    obtain rfl : b75 = true := h75.symm.trans (by kernel_rfl)
    refine At.v rfl rfl rfl rfl rfl trivial ?_; refine At.cp rfl rfl rfl rfl rfl fun b78 h78 => ?_; (iterate 2 refine At.v rfl rfl rfl rfl rfl trivial ?_)
    obtain rfl : b78 = true := h78.symm.trans (by kernel_rfl)
    refine At.v rfl rfl rfl rfl rfl trivial ?_; refine At.cp rfl rfl rfl rfl rfl fun b82 h82 => ?_; (iterate 2 refine At.v rfl rfl rfl rfl rfl trivial ?_)
    obtain rfl : b82 = true := h82.symm.trans (by kernel_rfl)
    subst hL
    refine At.cq rfl rfl rfl rfl rfl rfl rfl rfl (s22 hG.a) ?_; (iterate 2 refine At.v rfl rfl rfl rfl rfl trivial ?_); refine At.regionEnd ?_
    exact hLB Tryz.func14 (.inr ⟨_, rfl⟩) rfl (.tmp rfl .nil) (⟨by rfl, rfl⟩)
  · rw [ask_some hz hlk h0] at q63
    obtain ⟨h1, h2⟩ := ask_law B ss ss.length (Nat.le_refl _)
    have ll : ∀ i : Nat, leaveM B (ss.getD i (0, 0)) = mostM (rowsOf B (ss.getD i (0, 0))) (rowsOf B (ss.getD i (0, 0))) := fun _ => rfl
    generalize askTo B ss ss.length = wl at q63 h1 h2
    obtain ⟨w, lf⟩ := wl
    simp only at q63 h1 h2
    have stop63 := trivial
    refine At.cond rfl ?_; refine At.skip (At.seq (At.region ?_)); refine At.ld 0 rfl rfl rfl rfl rfl rfl rfl rfl rfl ?_; refine At.v rfl rfl rfl rfl rfl trivial ?_
    clear stop63
    refine At.cq rfl rfl rfl rfl rfl rfl rfl rfl (q63 _ hOS.a hS.a) ?_
    have stop51 := trivial
    (iterate 7 refine At.v rfl rfl rfl rfl rfl trivial ?_); refine At.regionEnd (At.seq (At.region ?_)); refine At.ld 0 rfl rfl rfl rfl rfl rfl rfl rfl rfl ?_
    clear stop51
    refine At.cl rfl rfl rfl rfl rfl rfl rfl rfl (q51 _ hO.a) ?_
    rintro _ _ ⟨sf1, ⟨a1, cap1, rfl, hsl1⟩, rfl⟩
    refine At.back ?_
    obtain ⟨_, r1, _⟩ := hsl1.rd
    have w1 : IntKind.wrap .i64 ot = ot := wrap_in (by omega)
    have w2 : IntKind.wrap .i64 pk = pk := wrap_in (by omega)
    obtain ⟨io, hio⟩ : ∃ k : Nat, ot.tmod (ss.length : Int) = k := ⟨(ot.tmod (ss.length : Int)).toNat, by have := Int.tmod_nonneg (ss.length : Int) hot.1; omega⟩
    have hio2 : io < ss.length := by have := Int.tmod_lt_of_pos ot (show (0 : Int) < ss.length by omega); omega
    obtain ⟨ip, hip⟩ : ∃ k : Nat, pk.tmod ((statesM B).length : Int) = k := ⟨(pk.tmod ((statesM B).length : Int)).toNat, by have := Int.tmod_nonneg ((statesM B).length : Int) hpk.1; omega⟩
    have hip2 : ip < (statesM B).length := by have := Int.tmod_lt_of_pos pk (show (0 : Int) < (statesM B).length by omega); omega
    have g1 : ∀ k (h : k < ss.length), ss.getD k (0, 0) = ss[k] := fun k h => by rw [List.getD_eq_getElem?_getD, List.getElem?_eq_getElem h]; rfl
    have q64 := fun H_ (k : Nat) (hk : k < ss.length) (hO_ : Opn H_ B ⟨pa, pc, ma, mc⟩) (hr_ : Rd H_ a1 ((statesM B).flatMap c1)) => s64 L H_ (a := a1) (cap := cap1) (s := ss[k]) rfl hO_ hz hr_ (fun e he => (state_eye hz e he).1) (hss _ (List.getElem_mem hk)) (by omega)
    have stopDraw := trivial
    (iterate 5 refine At.v rfl rfl rfl rfl rfl trivial ?_); refine At.regionEnd (At.seq (At.seq (At.region ?_))); refine At.v rfl rfl rfl rfl rfl trivial ?_; refine At.cp rfl rfl rfl rfl rfl fun b58 h58 => ?_; refine At.v rfl rfl rfl rfl rfl trivial ?_
    obtain rfl : b58 = false := h58.symm.trans (by kernel_rfl)
    refine At.v rfl rfl rfl rfl rfl trivial ?_; refine At.cp rfl rfl rfl rfl rfl fun b61 h61 => ?_; refine At.v rfl rfl rfl rfl rfl trivial ?_; refine At.ln rfl rfl rfl rfl rfl rfl rfl rfl ?_; refine At.cp rfl rfl rfl rfl rfl fun b64 h64 => ?_; refine At.qb rfl rfl rfl rfl (q_neqB rfl rfl rfl) fun b65 h65 => ?_; (iterate 2 refine At.v rfl rfl rfl rfl rfl trivial ?_)
    obtain rfl : b61 = true := h61.symm.trans (by kernel_rfl)
    obtain rfl : b64 = true := h64.symm.trans (decide_eq_true (by omega))
    obtain rfl : b65 = false := h65.symm.trans (by kernel_rfl)
    refine At.v rfl rfl rfl rfl rfl trivial ?_; refine At.ln rfl rfl rfl rfl rfl rfl rfl rfl ?_; refine At.cp rfl rfl rfl rfl rfl fun b70 h70 => ?_; refine At.v rfl rfl rfl rfl rfl trivial ?_; refine At.regionEnd ?_
    obtain rfl : b70 = false := h70.symm.trans (decide_eq_false (by omega))
    refine At.cond rfl ?_; refine At.skip (At.seq (At.seq (At.region ?_))); refine At.v rfl rfl rfl rfl rfl trivial ?_; refine At.cp rfl rfl rfl rfl rfl fun b73 h73 => ?_; refine At.regionEnd ?_
    obtain rfl : b73 = false := h73.symm.trans (by kernel_rfl)
    refine At.cond rfl ?_; refine At.skip (At.seq (At.region ?_)); refine At.v rfl rfl rfl rfl rfl trivial ?_; refine At.q rfl rfl rfl rfl (q_conv rfl rfl rfl) ?_; refine At.v rfl rfl rfl rfl rfl trivial ?_; refine At.ln rfl rfl rfl rfl rfl rfl rfl rfl ?_; refine At.v rfl rfl rfl rfl rfl (by omega) ?_; refine At.v rfl rfl rfl rfl rfl trivial ?_; refine At.regionEnd (At.seq ?_)
    clear stopDraw
    rw [w1, hio]
    obtain ⟨bS, oS, rfl, hcS⟩ := hS.el (List.getElem?_eq_getElem hio2)
    obtain ⟨⟨s1, s2⟩, hsi⟩ : ∃ y, ss[io] = y := ⟨_, rfl⟩
    have q64i := fun H_ => q64 H_ io hio2
    have h2i := h2 io hio2
    rw [ll, g1 io hio2] at h2i
    rw [hsi] at hcS q64i h2i
    have e64 : (statesM B).map (fun e => rowM B e (s1, s2)) = rowsOf B (s1, s2) := rfl
    simp only [e64] at q64i
    generalize mostM (rowsOf B (s1, s2)) (rowsOf B (s1, s2)) = n1 at q64i h2i
    have stop64 := trivial
    refine At.drawJ hmix [] rfl ?_; refine Pool.ld 0 0 rfl rfl rfl rfl rfl rfl rfl rfl rfl rfl rfl ?_; refine Pool.v 1 rfl rfl rfl rfl rfl rfl rfl trivial ?_; refine Pool.v 2 rfl rfl rfl rfl rfl rfl rfl trivial ?_; refine Pool.v 3 rfl rfl rfl rfl rfl rfl rfl trivial ?_; refine Pool.q 4 rfl rfl rfl rfl rfl (q_ia rfl rfl rfl (by assumption)) rfl ?_; refine Pool.ldc 5 rfl rfl rfl rfl rfl rfl rfl hcS.a rfl rfl rfl ?_
    clear stop64
    refine Pool.cq 6 rfl rfl rfl rfl rfl rfl rfl rfl rfl (fun H_ hs_ => q64i H_ hO.a r1.a) ?_
    rcases h1 with ⟨rfl, rfl⟩ | ⟨wn, hwn, rfl, hlf, hlt⟩
    · refine Pool.v 7 rfl rfl rfl rfl rfl rfl rfl trivial ?_
      refine Pool.v 8 rfl rfl rfl rfl rfl rfl rfl trivial ?_; refine Pool.v 9 rfl rfl rfl rfl rfl rfl rfl trivial ?_; refine Pool.v 10 rfl rfl rfl rfl rfl rfl rfl trivial ?_; refine Pool.v 11 rfl rfl rfl rfl rfl rfl rfl trivial ?_; refine pool_done rfl rfl ?_; refine At.regionEnd (At.seq (At.seq (At.region ?_))); (iterate 5 refine At.v rfl rfl rfl rfl rfl trivial ?_); refine At.ln rfl rfl rfl rfl rfl rfl rfl rfl ?_; refine At.v rfl rfl rfl rfl rfl (by omega) ?_
      refine At.cqb rfl rfl rfl rfl rfl rfl rfl rfl (s43 L _) fun b109 h109 => ?_; (iterate 3 refine At.v rfl rfl rfl rfl rfl trivial ?_)
      obtain rfl : b109 = true := h109.symm.trans (decide_eq_true (by omega))
      refine At.v rfl rfl rfl rfl rfl trivial ?_; refine At.cp rfl rfl rfl rfl rfl fun b114 h114 => ?_; (iterate 2 refine At.v rfl rfl rfl rfl rfl trivial ?_); refine At.ln rfl rfl rfl rfl rfl rfl rfl rfl ?_; refine At.cp rfl rfl rfl rfl rfl fun b118 h118 => ?_; refine At.qb rfl rfl rfl rfl (q_neqB rfl rfl rfl) fun b119 h119 => ?_; (iterate 2 refine At.v rfl rfl rfl rfl rfl trivial ?_)
      obtain rfl : b114 = true := h114.symm.trans (by kernel_rfl)
      obtain rfl : b118 = true := h118.symm.trans (by simp)
      obtain rfl : b119 = false := h119.symm.trans (by kernel_rfl)
      (iterate 2 refine At.v rfl rfl rfl rfl rfl trivial ?_); refine At.ln rfl rfl rfl rfl rfl rfl rfl rfl ?_; refine At.cp rfl rfl rfl rfl rfl fun b125 h125 => ?_; (iterate 2 refine At.v rfl rfl rfl rfl rfl trivial ?_)
      obtain rfl : b125 = false := h125.symm.trans (by simp)
      (iterate 2 refine At.v rfl rfl rfl rfl rfl trivial ?_); refine At.cp rfl rfl rfl rfl rfl fun b130 h130 => ?_; (iterate 2 refine At.v rfl rfl rfl rfl rfl trivial ?_)
      obtain rfl : b130 = false := h130.symm.trans (decide_eq_false (by omega))
      (iterate 2 refine At.v rfl rfl rfl rfl rfl trivial ?_); refine At.cp rfl rfl rfl rfl rfl fun b135 h135 => ?_; refine At.v rfl rfl rfl rfl rfl trivial ?_
      cases b135
      · refine At.un rfl rfl rfl rfl ?_
        refine At.un rfl rfl rfl rfl ?_; (iterate 2 refine At.v rfl rfl rfl rfl rfl trivial ?_); (iterate 3 refine At.un rfl rfl rfl rfl ?_); (iterate 2 refine At.v rfl rfl rfl rfl rfl trivial ?_); refine At.regionEnd ?_; refine At.cond rfl ?_; refine At.skip (At.seq (At.seq (At.region ?_))); refine At.v rfl rfl rfl rfl rfl trivial ?_; refine At.cp rfl rfl rfl rfl rfl fun b147 h147 => ?_; refine At.regionEnd ?_
        obtain rfl : b147 = true := h147.symm.trans (by kernel_rfl)
        refine At.cond rfl ?_; refine At.seq (At.region ?_)
        subst hL
        refine At.cq rfl rfl rfl rfl rfl rfl rfl rfl (s22 hG.a) ?_; refine At.v rfl rfl rfl rfl rfl trivial ?_; refine At.regionEnd ?_
        exact hLB Tryz.func14 (.inr ⟨_, rfl⟩) rfl (.tmp rfl .nil) (⟨by rfl, rfl⟩)
      · refine At.v rfl rfl rfl rfl rfl trivial ?_
        refine At.cp rfl rfl rfl rfl rfl fun b138 h138 => ?_; (iterate 2 refine At.v rfl rfl rfl rfl rfl trivial ?_)
        obtain rfl : b138 = false := h138.symm.trans (by kernel_rfl)
        (iterate 3 refine At.un rfl rfl rfl rfl ?_); (iterate 2 refine At.v rfl rfl rfl rfl rfl trivial ?_); refine At.regionEnd ?_; refine At.cond rfl ?_; refine At.skip (At.seq (At.seq (At.region ?_))); refine At.v rfl rfl rfl rfl rfl trivial ?_; refine At.cp rfl rfl rfl rfl rfl fun b147 h147 => ?_; refine At.regionEnd ?_
        obtain rfl : b147 = true := h147.symm.trans (by kernel_rfl)
        refine At.cond rfl ?_; refine At.seq (At.region ?_)
        subst hL
        refine At.cq rfl rfl rfl rfl rfl rfl rfl rfl (s22 hG.a) ?_; refine At.v rfl rfl rfl rfl rfl trivial ?_; refine At.regionEnd ?_
        exact hLB Tryz.func14 (.inr ⟨_, rfl⟩) rfl (.tmp rfl .nil) (⟨by rfl, rfl⟩)
    · rw [ll, g1 wn hwn] at hlf
      obtain ⟨b2, o2, e2, hcW⟩ := hS.el (List.getElem?_eq_getElem hwn)
      cases e2
      have hsw := hss _ (List.getElem_mem hwn)
      have q64w := fun H_ => q64 H_ wn hwn
      obtain ⟨⟨t1, t2⟩, hsi2⟩ : ∃ y, ss[wn] = y := ⟨_, rfl⟩
      rw [hsi2] at hcW q64w hlf hsw
      have e64 : (statesM B).map (fun e => rowM B e (t1, t2)) = rowsOf B (t1, t2) := rfl
      simp only [e64, ← hlf] at q64w
      have h2j := h2i.2
      have stop64 := trivial
      refine Pool.v 7 rfl rfl rfl rfl rfl rfl rfl trivial ?_; refine Pool.v 8 rfl rfl rfl rfl rfl rfl rfl trivial ?_; refine Pool.v 9 rfl rfl rfl rfl rfl rfl rfl trivial ?_; refine Pool.v 10 rfl rfl rfl rfl rfl rfl rfl trivial ?_; refine Pool.v 11 rfl rfl rfl rfl rfl rfl rfl trivial ?_; refine pool_done rfl rfl ?_; refine At.regionEnd (At.seq (At.seq (At.region ?_))); (iterate 5 refine At.v rfl rfl rfl rfl rfl trivial ?_); refine At.ln rfl rfl rfl rfl rfl rfl rfl rfl ?_
      refine At.v rfl rfl rfl rfl rfl (by omega) ?_; refine At.cqb rfl rfl rfl rfl rfl rfl rfl rfl (s43 L _) fun b109 h109 => ?_; (iterate 3 refine At.v rfl rfl rfl rfl rfl trivial ?_)
      obtain rfl : b109 = true := h109.symm.trans (decide_eq_true (by omega))
      refine At.v rfl rfl rfl rfl rfl trivial ?_; refine At.cp rfl rfl rfl rfl rfl fun b114 h114 => ?_; (iterate 2 refine At.v rfl rfl rfl rfl rfl trivial ?_); refine At.ln rfl rfl rfl rfl rfl rfl rfl rfl ?_; refine At.cp rfl rfl rfl rfl rfl fun b118 h118 => ?_; refine At.qb rfl rfl rfl rfl (q_neqB rfl rfl rfl) fun b119 h119 => ?_; (iterate 2 refine At.v rfl rfl rfl rfl rfl trivial ?_)
      obtain rfl : b114 = false := h114.symm.trans (by kernel_rfl)
      obtain rfl : b118 = false := h118.symm.trans (decide_eq_false (by omega))
      obtain rfl : b119 = false := h119.symm.trans (by kernel_rfl)
      (iterate 2 refine At.v rfl rfl rfl rfl rfl trivial ?_); refine At.ln rfl rfl rfl rfl rfl rfl rfl rfl ?_; refine At.cp rfl rfl rfl rfl rfl fun b125 h125 => ?_; (iterate 2 refine At.v rfl rfl rfl rfl rfl trivial ?_)
      obtain rfl : b125 = false := h125.symm.trans (decide_eq_false (by omega))
      (iterate 2 refine At.v rfl rfl rfl rfl rfl trivial ?_); refine At.cp rfl rfl rfl rfl rfl fun b130 h130 => ?_; (iterate 2 refine At.v rfl rfl rfl rfl rfl trivial ?_)
      obtain rfl : b130 = false := h130.symm.trans (decide_eq_false (by omega))
      (iterate 2 refine At.v rfl rfl rfl rfl rfl trivial ?_); refine At.cp rfl rfl rfl rfl rfl fun b135 h135 => ?_; refine At.v rfl rfl rfl rfl rfl trivial ?_
      clear stop64
      have hst0 : (statesM B)[ip] ∈ statesM B := List.getElem_mem hip2
      have hmem : rowM B (statesM B)[ip] (t1, t2) ∈ rowsOf B (t1, t2) := List.mem_map.2 ⟨_, hst0, rfl⟩
      obtain ⟨bE, oE, eE, hcE⟩ := r1.el (List.getElem?_eq_getElem hip2)
      cases eE
      have hee := (state_eye hz _ hst0).1
      obtain ⟨e, hex⟩ : ∃ e, (statesM B)[ip] = e := ⟨_, rfl⟩
      rw [hex] at hcE hee hmem hst0
      have q27 : ∀ (H_ : Facts), Opn H_ B ⟨pa, pc, ma, mc⟩ → Pure L 27 #[bkV B ⟨pa, pc, ma, mc⟩, .int .i64 e, rV (t1, t2)] H_ (sqV B e (t1, t2)) := fun H_ h2 => by
        have := s27 L H_ (eye := e) (s := (t1, t2)) h2
        rw [lookBar1 hz, firstBar2, hsw, show hBar e = 0 from if_pos hee] at this
        simpa using this
      cases b135
      · have stop64 := trivial
        (iterate 2 refine At.un rfl rfl rfl rfl ?_); (iterate 2 refine At.v rfl rfl rfl rfl rfl trivial ?_); (iterate 3 refine At.un rfl rfl rfl rfl ?_); (iterate 2 refine At.v rfl rfl rfl rfl rfl trivial ?_); refine At.regionEnd ?_; refine At.cond rfl ?_; refine At.skip (At.seq (At.seq (At.region ?_))); refine At.v rfl rfl rfl rfl rfl trivial ?_; refine At.cp rfl rfl rfl rfl rfl fun b147 h147 => ?_; refine At.regionEnd ?_
        obtain rfl : b147 = false := h147.symm.trans (by kernel_rfl)
        refine At.cond rfl ?_; refine At.skip (At.seq (At.seq ?_)); refine At.drawJ hmix [] rfl ?_; refine Pool.ld 0 0 rfl rfl rfl rfl rfl rfl rfl rfl rfl rfl rfl ?_; refine Pool.v 1 rfl rfl rfl rfl rfl rfl rfl trivial ?_; refine Pool.v 2 rfl rfl rfl rfl rfl rfl rfl trivial ?_; refine Pool.v 3 rfl rfl rfl rfl rfl rfl rfl trivial ?_; refine Pool.q 4 rfl rfl rfl rfl rfl (q_ia rfl rfl rfl (by assumption)) rfl ?_; refine Pool.ldc 5 rfl rfl rfl rfl rfl rfl rfl hcW.a rfl rfl rfl ?_
        clear stop64
        refine Pool.cq 6 rfl rfl rfl rfl rfl rfl rfl rfl rfl (fun H_ hs_ => q64w H_ hO.a r1.a) ?_
        have stopDraw := trivial
        refine Pool.v 7 rfl rfl rfl rfl rfl rfl rfl trivial ?_; refine Pool.v 8 rfl rfl rfl rfl rfl rfl rfl trivial ?_; refine Pool.v 9 rfl rfl rfl rfl rfl rfl rfl trivial ?_; refine Pool.v 10 rfl rfl rfl rfl rfl rfl rfl trivial ?_; refine Pool.v 11 rfl rfl rfl rfl rfl rfl rfl trivial ?_; refine pool_done rfl rfl ?_; refine At.regionEnd (At.seq (At.region ?_)); (iterate 5 refine At.v rfl rfl rfl rfl rfl trivial ?_); refine At.cp rfl rfl rfl rfl rfl fun b164 h164 => ?_
        refine At.v rfl rfl rfl rfl rfl trivial ?_; refine At.regionEnd ?_
        obtain rfl : b164 = false := h164.symm.trans (by simp)
        refine At.cond rfl ?_; refine At.skip (At.seq ?_)
        clear stopDraw
        cases hme : meetM B.prof e (t1, t2) with
        | none =>
          simp only [sqV_none hme] at q27
          have stop27 := trivial
          refine At.drawJ hmix [] rfl ?_; refine Pool.ld 0 0 rfl rfl rfl rfl rfl rfl rfl rfl rfl rfl rfl ?_; refine Pool.v 1 rfl rfl rfl rfl rfl rfl rfl trivial ?_; refine Pool.v 2 rfl rfl rfl rfl rfl rfl rfl trivial ?_; refine Pool.q 3 rfl rfl rfl rfl rfl (q_conv rfl rfl (by assumption)) rfl ?_; refine Pool.v 4 rfl rfl rfl rfl rfl rfl rfl trivial ?_; refine Pool.ln 5 rfl rfl rfl rfl rfl rfl rfl rfl rfl rfl ?_; refine Pool.v 6 rfl rfl rfl rfl rfl rfl rfl (by omega) ?_
          refine Pool.v 9 rfl rfl rfl rfl rfl rfl rfl trivial ?_; refine Pool.v 10 rfl rfl rfl rfl rfl rfl rfl trivial ?_; refine Pool.q 11 rfl rfl rfl rfl rfl (q_ia rfl rfl rfl (by assumption)) rfl ?_; refine Pool.ldc 12 rfl rfl rfl rfl rfl rfl rfl hcW.a rfl rfl rfl ?_; refine Pool.fl 19 rfl rfl rfl rfl rfl rfl rfl rfl rfl rfl ?_
          rw [hip]
          refine Pool.q 7 rfl rfl rfl rfl rfl (q_ia rfl rfl rfl (by assumption)) rfl ?_; refine Pool.ldc 8 rfl rfl rfl rfl rfl rfl rfl hcE.a rfl rfl rfl ?_
          clear stop27
          refine Pool.cq 13 rfl rfl rfl rfl rfl rfl rfl rfl rfl (fun H_ hs_ => q27 H_ hO.a) ?_; refine Pool.v 14 rfl rfl rfl rfl rfl rfl rfl trivial ?_; refine Pool.v 15 rfl rfl rfl rfl rfl rfl rfl trivial ?_; refine Pool.v 16 rfl rfl rfl rfl rfl rfl rfl trivial ?_; refine Pool.v 17 rfl rfl rfl rfl rfl rfl rfl trivial ?_; refine Pool.v 18 rfl rfl rfl rfl rfl rfl rfl trivial ?_; refine Pool.v 20 rfl rfl rfl rfl rfl rfl rfl trivial ?_; refine Pool.v 22 rfl rfl rfl rfl rfl rfl rfl trivial ?_
          refine Pool.v 23 rfl rfl rfl rfl rfl rfl rfl trivial ?_; refine pool_take rfl rfl rfl fun rf19 => ?_; refine Pool.st 0 21 rfl rfl rfl rfl rfl rfl rfl rfl rfl rfl rfl rfl rfl rfl rfl rfl rfl rfl sb ?_; refine pool_done rfl rfl ?_; refine At.regionEnd (At.seq (At.seq (At.region ?_))); refine At.v rfl rfl rfl rfl rfl trivial ?_; refine At.cp rfl rfl rfl rfl rfl fun b186 h186 => ?_; refine At.v rfl rfl rfl rfl rfl trivial ?_
          obtain rfl : b186 = false := h186.symm.trans (by kernel_rfl)
          (iterate 3 refine At.v rfl rfl rfl rfl rfl trivial ?_); refine At.regionEnd ?_; refine At.cond rfl ?_; refine At.seq (At.region ?_); refine At.v rfl rfl rfl rfl rfl trivial ?_; refine At.cp rfl rfl rfl rfl rfl fun b192 h192 => ?_; refine At.v rfl rfl rfl rfl rfl trivial ?_
          obtain rfl : b192 = true := h192.symm.trans (by kernel_rfl)
          subst hL
          refine At.cq rfl rfl rfl rfl rfl rfl rfl rfl (s22 hG.a) ?_; (iterate 2 refine At.v rfl rfl rfl rfl rfl trivial ?_); refine At.regionEnd ?_
          exact hLB Tryz.func14 (.inr ⟨_, rfl⟩) rfl (.tmp rfl .nil) (⟨by rfl, rfl⟩)
        | some x =>
          have hrr : rowM B e (t1, t2) = (squareM B x.2).1 := by unfold rowM; rw [hme]
          have hro := row_ok hz hee (slOk_of (t1, t2) hsw)
          have hro2 := row_isSome hz hee (slOk_of (t1, t2) hsw)
          rw [hme] at hro2
          simp only [Option.isSome_some] at hro2
          have hro3 : 0 ≤ rowM B e (t1, t2) := by simpa using hro2.symm
          simp only [sqV_some hme, ← hrr] at q27
          generalize rowM B e (t1, t2) = rr at q27 hmem hro hro3
          generalize (squareM B x.2).2 = prt at q27
          have hk2 : rr ∈ rowsM B (t1, t2) := (rowsM_of hz).2 ⟨by omega, hmem⟩
          have q65 := fun H_ (hO_ : Opn H_ B ⟨pa, pc, ma, mc⟩) => s65 L H_ (m := ((t1, t2), rr)) hO_
          rw [mark_bar hz hsw (by unfold EyeOk; omega) hml, if_pos hk2] at q65
          have stop27 := trivial
          refine At.drawJ hmix [] rfl ?_; refine Pool.ld 0 0 rfl rfl rfl rfl rfl rfl rfl rfl rfl rfl rfl ?_; refine Pool.v 1 rfl rfl rfl rfl rfl rfl rfl trivial ?_; refine Pool.v 2 rfl rfl rfl rfl rfl rfl rfl trivial ?_; refine Pool.q 3 rfl rfl rfl rfl rfl (q_conv rfl rfl (by assumption)) rfl ?_; refine Pool.v 4 rfl rfl rfl rfl rfl rfl rfl trivial ?_; refine Pool.ln 5 rfl rfl rfl rfl rfl rfl rfl rfl rfl rfl ?_; refine Pool.v 6 rfl rfl rfl rfl rfl rfl rfl (by omega) ?_
          refine Pool.v 9 rfl rfl rfl rfl rfl rfl rfl trivial ?_; refine Pool.v 10 rfl rfl rfl rfl rfl rfl rfl trivial ?_; refine Pool.q 11 rfl rfl rfl rfl rfl (q_ia rfl rfl rfl (by assumption)) rfl ?_; refine Pool.ldc 12 rfl rfl rfl rfl rfl rfl rfl hcW.a rfl rfl rfl ?_; refine Pool.fl 19 rfl rfl rfl rfl rfl rfl rfl rfl rfl rfl ?_
          rw [hip]
          refine Pool.q 7 rfl rfl rfl rfl rfl (q_ia rfl rfl rfl (by assumption)) rfl ?_; refine Pool.ldc 8 rfl rfl rfl rfl rfl rfl rfl hcE.a rfl rfl rfl ?_
          clear stop27
          refine Pool.cq 13 rfl rfl rfl rfl rfl rfl rfl rfl rfl (fun H_ hs_ => q27 H_ hO.a) ?_
          have stopDraw := trivial
          refine Pool.v 14 rfl rfl rfl rfl rfl rfl rfl trivial ?_; refine Pool.v 15 rfl rfl rfl rfl rfl rfl rfl trivial ?_; refine Pool.v 16 rfl rfl rfl rfl rfl rfl rfl trivial ?_; refine Pool.v 17 rfl rfl rfl rfl rfl rfl rfl trivial ?_; refine Pool.v 18 rfl rfl rfl rfl rfl rfl rfl trivial ?_; refine Pool.v 20 rfl rfl rfl rfl rfl rfl rfl trivial ?_; refine Pool.v 22 rfl rfl rfl rfl rfl rfl rfl trivial ?_; refine Pool.v 23 rfl rfl rfl rfl rfl rfl rfl trivial ?_; refine pool_take rfl rfl rfl fun rf19 => ?_
          refine Pool.st 0 21 rfl rfl rfl rfl rfl rfl rfl rfl rfl rfl rfl rfl rfl rfl rfl rfl rfl rfl sb ?_; refine pool_done rfl rfl ?_; refine At.regionEnd (At.seq (At.seq (At.region ?_))); refine At.v rfl rfl rfl rfl rfl trivial ?_; refine At.cp rfl rfl rfl rfl rfl fun b186 h186 => ?_; refine At.v rfl rfl rfl rfl rfl trivial ?_
          obtain rfl : b186 = false := h186.symm.trans (by kernel_rfl)
          (iterate 3 refine At.v rfl rfl rfl rfl rfl trivial ?_); refine At.regionEnd ?_; refine At.cond rfl ?_; refine At.skip (At.seq ?_)
          clear stopDraw
          refine At.draw hmix (_) sb ?_
          have stop65 := trivial
          refine Pool.ld 1 0 rfl rfl rfl rfl rfl rfl rfl rfl rfl rfl rfl ?_; refine Pool.v 1 rfl rfl rfl rfl rfl rfl rfl trivial ?_; refine Pool.v 2 rfl rfl rfl rfl rfl rfl rfl trivial ?_; refine Pool.q 3 rfl rfl rfl rfl rfl (q_ia rfl rfl rfl (by assumption)) rfl ?_; refine Pool.ldc 4 rfl rfl rfl rfl rfl rfl rfl hcW.a rfl rfl rfl ?_; refine Pool.v 5 rfl rfl rfl rfl rfl rfl rfl trivial ?_; refine Pool.q 6 rfl rfl rfl rfl rfl (q_build rfl rfl rfl) rfl ?_
          refine Pool.fl 11 rfl rfl rfl rfl rfl rfl rfl rfl rfl rfl ?_
          clear stop65
          refine Pool.cl 7 rfl rfl rfl rfl rfl rfl rfl rfl rfl rfl rfl rfl rfl rfl (fun H_ hs_ => q65 H_ hO.a) sb ?_
          rintro v sf4 ⟨p3, p4⟩
          obtain ⟨A2, rfl, hbo⟩ := p4 rfl
          have hmb : markBar ((t1, t2), rr) = 0 := by
            unfold markBar
            simp only
            rw [if_neg (by simpa using hsw)]
            exact if_pos (show 0 ≤ rr ∧ rr ≤ 90 by omega)
          have hzm := marked_bar hz hmb hml
          have hlen : (((statesM (markedM B ((t1, t2), rr))).length : Nat) : Int) = (((rowsOf B (t1, t2)).count rr : Nat) : Int) := by rw [states_marked]
          have hc1 := List.count_pos_iff.2 hmem
          have hc2 := mostM_ge hmem
          rw [← hlf] at hc2
          have q51m : ∀ (H_ : Facts), Cells H_ 0 0 chkC → BkR H_ (markedM B ((t1, t2), rr)) A2 → Grows L 51 #[bkV (markedM B ((t1, t2), rr)) A2] H_ (fun v sf => ∃ a cap, v = .tuple #[.slice a (statesM (markedM B ((t1, t2), rr))).length cap, .int .i64 0]) := fun H_ g1_ g2_ => by
            have := s51 L H_ (B := markedM B ((t1, t2), rr)) (A := A2) ⟨g1_, g2_, by show B.prof.length ≤ 100000; omega, by simp [markedM]; omega⟩
            rw [hzm] at this
            exact this.mono fun _ _ ⟨sf, ⟨a, cap, h1, _⟩, h3⟩ => ⟨sf, ⟨a, cap, h1⟩, h3⟩
          have stop51 := trivial
          refine Pool.v 8 rfl rfl rfl rfl rfl rfl rfl trivial ?_; refine Pool.v 9 rfl rfl rfl rfl rfl rfl rfl trivial ?_; refine Pool.v 10 rfl rfl rfl rfl rfl rfl rfl trivial ?_; refine Pool.v 13 rfl rfl rfl rfl rfl rfl rfl trivial ?_; refine pool_take rfl rfl rfl fun rf11 => ?_; refine Pool.st 0 12 rfl rfl rfl rfl rfl rfl rfl rfl rfl rfl rfl rfl rfl rfl rfl rfl rfl rfl sb ?_; refine pool_done rfl rfl ?_; refine At.regionEnd (At.seq (At.region ?_)); refine At.ld 0 rfl rfl rfl rfl rfl rfl rfl rfl rfl ?_
          clear stop51
          refine At.cl rfl rfl rfl rfl rfl rfl rfl rfl (q51m _ hg.a (hbo.r.a)) ?_
          rintro _ _ ⟨sf5, ⟨a5, cap5, rfl⟩, rfl⟩
          refine At.back ?_
          generalize (statesM (markedM B ((t1, t2), rr))).length = mlen at hlen ⊢
          (iterate 5 refine At.v rfl rfl rfl rfl rfl trivial ?_); refine At.regionEnd (At.seq (At.region ?_)); refine At.v rfl rfl rfl rfl rfl trivial ?_; refine At.cp rfl rfl rfl rfl rfl fun b213 h213 => ?_; refine At.v rfl rfl rfl rfl rfl trivial ?_
          obtain rfl : b213 = true := h213.symm.trans (by kernel_rfl)
          refine At.v rfl rfl rfl rfl rfl trivial ?_; refine At.cp rfl rfl rfl rfl rfl fun b216 h216 => ?_; (iterate 2 refine At.v rfl rfl rfl rfl rfl trivial ?_)
          obtain rfl : b216 = true := h216.symm.trans (by kernel_rfl)
          refine At.v rfl rfl rfl rfl rfl trivial ?_; refine At.ln rfl rfl rfl rfl rfl rfl rfl rfl ?_; refine At.v rfl rfl rfl rfl rfl trivial ?_; refine At.cqb rfl rfl rfl rfl rfl rfl rfl rfl (s43 L _) fun b222 h222 => ?_; (iterate 2 refine At.v rfl rfl rfl rfl rfl trivial ?_)
          obtain rfl : b222 = true := h222.symm.trans (decide_eq_true (by omega))
          subst hL
          refine At.cq rfl rfl rfl rfl rfl rfl rfl rfl (s22 hG.a) ?_; (iterate 2 refine At.v rfl rfl rfl rfl rfl trivial ?_); refine At.regionEnd ?_
          exact hLB Tryz.func14 (.inr ⟨_, rfl⟩) rfl (.tmp rfl .nil) (⟨by rfl, rfl⟩)
      · have stop64 := trivial
        refine At.v rfl rfl rfl rfl rfl trivial ?_; refine At.cp rfl rfl rfl rfl rfl fun b138 h138 => ?_; (iterate 2 refine At.v rfl rfl rfl rfl rfl trivial ?_)
        obtain rfl : b138 = true := h138.symm.trans (by kernel_rfl)
        (iterate 2 refine At.v rfl rfl rfl rfl rfl trivial ?_); refine At.cp rfl rfl rfl rfl rfl fun b143 h143 => ?_; (iterate 2 refine At.v rfl rfl rfl rfl rfl trivial ?_); refine At.regionEnd ?_
        obtain rfl : b143 = false := by rw [← h143]; have := h2j (by simpa using h135) (by omega); exact decide_eq_false (by omega)
        refine At.cond rfl ?_; refine At.skip (At.seq (At.seq (At.region ?_))); refine At.v rfl rfl rfl rfl rfl trivial ?_; refine At.cp rfl rfl rfl rfl rfl fun b147 h147 => ?_; refine At.regionEnd ?_
        obtain rfl : b147 = false := h147.symm.trans (by kernel_rfl)
        refine At.cond rfl ?_; refine At.skip (At.seq (At.seq ?_)); refine At.drawJ hmix [] rfl ?_; refine Pool.ld 0 0 rfl rfl rfl rfl rfl rfl rfl rfl rfl rfl rfl ?_; refine Pool.v 1 rfl rfl rfl rfl rfl rfl rfl trivial ?_; refine Pool.v 2 rfl rfl rfl rfl rfl rfl rfl trivial ?_; refine Pool.v 3 rfl rfl rfl rfl rfl rfl rfl trivial ?_; refine Pool.q 4 rfl rfl rfl rfl rfl (q_ia rfl rfl rfl (by assumption)) rfl ?_; refine Pool.ldc 5 rfl rfl rfl rfl rfl rfl rfl hcW.a rfl rfl rfl ?_
        clear stop64
        refine Pool.cq 6 rfl rfl rfl rfl rfl rfl rfl rfl rfl (fun H_ hs_ => q64w H_ hO.a r1.a) ?_
        have stopDraw := trivial
        refine Pool.v 7 rfl rfl rfl rfl rfl rfl rfl trivial ?_; refine Pool.v 8 rfl rfl rfl rfl rfl rfl rfl trivial ?_; refine Pool.v 9 rfl rfl rfl rfl rfl rfl rfl trivial ?_; refine Pool.v 10 rfl rfl rfl rfl rfl rfl rfl trivial ?_; refine Pool.v 11 rfl rfl rfl rfl rfl rfl rfl trivial ?_; refine pool_done rfl rfl ?_; refine At.regionEnd (At.seq (At.region ?_)); (iterate 5 refine At.v rfl rfl rfl rfl rfl trivial ?_); refine At.cp rfl rfl rfl rfl rfl fun b164 h164 => ?_
        refine At.v rfl rfl rfl rfl rfl trivial ?_; refine At.regionEnd ?_
        obtain rfl : b164 = false := h164.symm.trans (by simp)
        refine At.cond rfl ?_; refine At.skip (At.seq ?_)
        clear stopDraw
        cases hme : meetM B.prof e (t1, t2) with
        | none =>
          simp only [sqV_none hme] at q27
          have stop27 := trivial
          refine At.drawJ hmix [] rfl ?_; refine Pool.ld 0 0 rfl rfl rfl rfl rfl rfl rfl rfl rfl rfl rfl ?_; refine Pool.v 1 rfl rfl rfl rfl rfl rfl rfl trivial ?_; refine Pool.v 2 rfl rfl rfl rfl rfl rfl rfl trivial ?_; refine Pool.q 3 rfl rfl rfl rfl rfl (q_conv rfl rfl (by assumption)) rfl ?_; refine Pool.v 4 rfl rfl rfl rfl rfl rfl rfl trivial ?_; refine Pool.ln 5 rfl rfl rfl rfl rfl rfl rfl rfl rfl rfl ?_; refine Pool.v 6 rfl rfl rfl rfl rfl rfl rfl (by omega) ?_
          refine Pool.v 9 rfl rfl rfl rfl rfl rfl rfl trivial ?_; refine Pool.v 10 rfl rfl rfl rfl rfl rfl rfl trivial ?_; refine Pool.q 11 rfl rfl rfl rfl rfl (q_ia rfl rfl rfl (by assumption)) rfl ?_; refine Pool.ldc 12 rfl rfl rfl rfl rfl rfl rfl hcW.a rfl rfl rfl ?_; refine Pool.fl 19 rfl rfl rfl rfl rfl rfl rfl rfl rfl rfl ?_
          rw [hip]
          refine Pool.q 7 rfl rfl rfl rfl rfl (q_ia rfl rfl rfl (by assumption)) rfl ?_; refine Pool.ldc 8 rfl rfl rfl rfl rfl rfl rfl hcE.a rfl rfl rfl ?_
          clear stop27
          refine Pool.cq 13 rfl rfl rfl rfl rfl rfl rfl rfl rfl (fun H_ hs_ => q27 H_ hO.a) ?_; refine Pool.v 14 rfl rfl rfl rfl rfl rfl rfl trivial ?_; refine Pool.v 15 rfl rfl rfl rfl rfl rfl rfl trivial ?_; refine Pool.v 16 rfl rfl rfl rfl rfl rfl rfl trivial ?_; refine Pool.v 17 rfl rfl rfl rfl rfl rfl rfl trivial ?_; refine Pool.v 18 rfl rfl rfl rfl rfl rfl rfl trivial ?_; refine Pool.v 20 rfl rfl rfl rfl rfl rfl rfl trivial ?_; refine Pool.v 22 rfl rfl rfl rfl rfl rfl rfl trivial ?_
          refine Pool.v 23 rfl rfl rfl rfl rfl rfl rfl trivial ?_; refine pool_take rfl rfl rfl fun rf19 => ?_; refine Pool.st 0 21 rfl rfl rfl rfl rfl rfl rfl rfl rfl rfl rfl rfl rfl rfl rfl rfl rfl rfl sb ?_; refine pool_done rfl rfl ?_; refine At.regionEnd (At.seq (At.seq (At.region ?_))); refine At.v rfl rfl rfl rfl rfl trivial ?_; refine At.cp rfl rfl rfl rfl rfl fun b186 h186 => ?_; refine At.v rfl rfl rfl rfl rfl trivial ?_
          obtain rfl : b186 = false := h186.symm.trans (by kernel_rfl)
          (iterate 3 refine At.v rfl rfl rfl rfl rfl trivial ?_); refine At.regionEnd ?_; refine At.cond rfl ?_; refine At.seq (At.region ?_); refine At.v rfl rfl rfl rfl rfl trivial ?_; refine At.cp rfl rfl rfl rfl rfl fun b192 h192 => ?_; refine At.v rfl rfl rfl rfl rfl trivial ?_
          obtain rfl : b192 = true := h192.symm.trans (by kernel_rfl)
          subst hL
          refine At.cq rfl rfl rfl rfl rfl rfl rfl rfl (s22 hG.a) ?_; (iterate 2 refine At.v rfl rfl rfl rfl rfl trivial ?_); refine At.regionEnd ?_
          exact hLB Tryz.func14 (.inr ⟨_, rfl⟩) rfl (.tmp rfl .nil) (⟨by rfl, rfl⟩)
        | some x =>
          have hrr : rowM B e (t1, t2) = (squareM B x.2).1 := by unfold rowM; rw [hme]
          have hro := row_ok hz hee (slOk_of (t1, t2) hsw)
          have hro2 := row_isSome hz hee (slOk_of (t1, t2) hsw)
          rw [hme] at hro2
          simp only [Option.isSome_some] at hro2
          have hro3 : 0 ≤ rowM B e (t1, t2) := by simpa using hro2.symm
          simp only [sqV_some hme, ← hrr] at q27
          generalize rowM B e (t1, t2) = rr at q27 hmem hro hro3
          generalize (squareM B x.2).2 = prt at q27
          have hk2 : rr ∈ rowsM B (t1, t2) := (rowsM_of hz).2 ⟨by omega, hmem⟩
          have q65 := fun H_ (hO_ : Opn H_ B ⟨pa, pc, ma, mc⟩) => s65 L H_ (m := ((t1, t2), rr)) hO_
          rw [mark_bar hz hsw (by unfold EyeOk; omega) hml, if_pos hk2] at q65
          have stop27 := trivial
          refine At.drawJ hmix [] rfl ?_; refine Pool.ld 0 0 rfl rfl rfl rfl rfl rfl rfl rfl rfl rfl rfl ?_; refine Pool.v 1 rfl rfl rfl rfl rfl rfl rfl trivial ?_; refine Pool.v 2 rfl rfl rfl rfl rfl rfl rfl trivial ?_; refine Pool.q 3 rfl rfl rfl rfl rfl (q_conv rfl rfl (by assumption)) rfl ?_; refine Pool.v 4 rfl rfl rfl rfl rfl rfl rfl trivial ?_; refine Pool.ln 5 rfl rfl rfl rfl rfl rfl rfl rfl rfl rfl ?_; refine Pool.v 6 rfl rfl rfl rfl rfl rfl rfl (by omega) ?_
          refine Pool.v 9 rfl rfl rfl rfl rfl rfl rfl trivial ?_; refine Pool.v 10 rfl rfl rfl rfl rfl rfl rfl trivial ?_; refine Pool.q 11 rfl rfl rfl rfl rfl (q_ia rfl rfl rfl (by assumption)) rfl ?_; refine Pool.ldc 12 rfl rfl rfl rfl rfl rfl rfl hcW.a rfl rfl rfl ?_; refine Pool.fl 19 rfl rfl rfl rfl rfl rfl rfl rfl rfl rfl ?_
          rw [hip]
          refine Pool.q 7 rfl rfl rfl rfl rfl (q_ia rfl rfl rfl (by assumption)) rfl ?_; refine Pool.ldc 8 rfl rfl rfl rfl rfl rfl rfl hcE.a rfl rfl rfl ?_
          clear stop27
          refine Pool.cq 13 rfl rfl rfl rfl rfl rfl rfl rfl rfl (fun H_ hs_ => q27 H_ hO.a) ?_
          have stopDraw := trivial
          refine Pool.v 14 rfl rfl rfl rfl rfl rfl rfl trivial ?_; refine Pool.v 15 rfl rfl rfl rfl rfl rfl rfl trivial ?_; refine Pool.v 16 rfl rfl rfl rfl rfl rfl rfl trivial ?_; refine Pool.v 17 rfl rfl rfl rfl rfl rfl rfl trivial ?_; refine Pool.v 18 rfl rfl rfl rfl rfl rfl rfl trivial ?_; refine Pool.v 20 rfl rfl rfl rfl rfl rfl rfl trivial ?_; refine Pool.v 22 rfl rfl rfl rfl rfl rfl rfl trivial ?_; refine Pool.v 23 rfl rfl rfl rfl rfl rfl rfl trivial ?_; refine pool_take rfl rfl rfl fun rf19 => ?_
          refine Pool.st 0 21 rfl rfl rfl rfl rfl rfl rfl rfl rfl rfl rfl rfl rfl rfl rfl rfl rfl rfl sb ?_; refine pool_done rfl rfl ?_; refine At.regionEnd (At.seq (At.seq (At.region ?_))); refine At.v rfl rfl rfl rfl rfl trivial ?_; refine At.cp rfl rfl rfl rfl rfl fun b186 h186 => ?_; refine At.v rfl rfl rfl rfl rfl trivial ?_
          obtain rfl : b186 = false := h186.symm.trans (by kernel_rfl)
          (iterate 3 refine At.v rfl rfl rfl rfl rfl trivial ?_); refine At.regionEnd ?_; refine At.cond rfl ?_; refine At.skip (At.seq ?_)
          clear stopDraw
          refine At.draw hmix (_) sb ?_
          have stop65 := trivial
          refine Pool.ld 1 0 rfl rfl rfl rfl rfl rfl rfl rfl rfl rfl rfl ?_; refine Pool.v 1 rfl rfl rfl rfl rfl rfl rfl trivial ?_; refine Pool.v 2 rfl rfl rfl rfl rfl rfl rfl trivial ?_; refine Pool.q 3 rfl rfl rfl rfl rfl (q_ia rfl rfl rfl (by assumption)) rfl ?_; refine Pool.ldc 4 rfl rfl rfl rfl rfl rfl rfl hcW.a rfl rfl rfl ?_; refine Pool.v 5 rfl rfl rfl rfl rfl rfl rfl trivial ?_; refine Pool.q 6 rfl rfl rfl rfl rfl (q_build rfl rfl rfl) rfl ?_
          refine Pool.fl 11 rfl rfl rfl rfl rfl rfl rfl rfl rfl rfl ?_
          clear stop65
          refine Pool.cl 7 rfl rfl rfl rfl rfl rfl rfl rfl rfl rfl rfl rfl rfl rfl (fun H_ hs_ => q65 H_ hO.a) sb ?_
          rintro v sf4 ⟨p3, p4⟩
          obtain ⟨A2, rfl, hbo⟩ := p4 rfl
          have hmb : markBar ((t1, t2), rr) = 0 := by
            unfold markBar
            simp only
            rw [if_neg (by simpa using hsw)]
            exact if_pos (show 0 ≤ rr ∧ rr ≤ 90 by omega)
          have hzm := marked_bar hz hmb hml
          have hlen : (((statesM (markedM B ((t1, t2), rr))).length : Nat) : Int) = (((rowsOf B (t1, t2)).count rr : Nat) : Int) := by rw [states_marked]
          have hc1 := List.count_pos_iff.2 hmem
          have hc2 := mostM_ge hmem
          rw [← hlf] at hc2
          have q51m : ∀ (H_ : Facts), Cells H_ 0 0 chkC → BkR H_ (markedM B ((t1, t2), rr)) A2 → Grows L 51 #[bkV (markedM B ((t1, t2), rr)) A2] H_ (fun v sf => ∃ a cap, v = .tuple #[.slice a (statesM (markedM B ((t1, t2), rr))).length cap, .int .i64 0]) := fun H_ g1_ g2_ => by
            have := s51 L H_ (B := markedM B ((t1, t2), rr)) (A := A2) ⟨g1_, g2_, by show B.prof.length ≤ 100000; omega, by simp [markedM]; omega⟩
            rw [hzm] at this
            exact this.mono fun _ _ ⟨sf, ⟨a, cap, h1, _⟩, h3⟩ => ⟨sf, ⟨a, cap, h1⟩, h3⟩
          have stop51 := trivial
          refine Pool.v 8 rfl rfl rfl rfl rfl rfl rfl trivial ?_; refine Pool.v 9 rfl rfl rfl rfl rfl rfl rfl trivial ?_; refine Pool.v 10 rfl rfl rfl rfl rfl rfl rfl trivial ?_; refine Pool.v 13 rfl rfl rfl rfl rfl rfl rfl trivial ?_; refine pool_take rfl rfl rfl fun rf11 => ?_; refine Pool.st 0 12 rfl rfl rfl rfl rfl rfl rfl rfl rfl rfl rfl rfl rfl rfl rfl rfl rfl rfl sb ?_; refine pool_done rfl rfl ?_; refine At.regionEnd (At.seq (At.region ?_)); refine At.ld 0 rfl rfl rfl rfl rfl rfl rfl rfl rfl ?_
          clear stop51
          refine At.cl rfl rfl rfl rfl rfl rfl rfl rfl (q51m _ hg.a (hbo.r.a)) ?_
          rintro _ _ ⟨sf5, ⟨a5, cap5, rfl⟩, rfl⟩
          refine At.back ?_
          generalize (statesM (markedM B ((t1, t2), rr))).length = mlen at hlen ⊢
          (iterate 5 refine At.v rfl rfl rfl rfl rfl trivial ?_); refine At.regionEnd (At.seq (At.region ?_)); refine At.v rfl rfl rfl rfl rfl trivial ?_; refine At.cp rfl rfl rfl rfl rfl fun b213 h213 => ?_; refine At.v rfl rfl rfl rfl rfl trivial ?_
          obtain rfl : b213 = true := h213.symm.trans (by kernel_rfl)
          refine At.v rfl rfl rfl rfl rfl trivial ?_; refine At.cp rfl rfl rfl rfl rfl fun b216 h216 => ?_; (iterate 2 refine At.v rfl rfl rfl rfl rfl trivial ?_)
          obtain rfl : b216 = true := h216.symm.trans (by kernel_rfl)
          refine At.v rfl rfl rfl rfl rfl trivial ?_; refine At.ln rfl rfl rfl rfl rfl rfl rfl rfl ?_; refine At.v rfl rfl rfl rfl rfl trivial ?_; refine At.cqb rfl rfl rfl rfl rfl rfl rfl rfl (s43 L _) fun b222 h222 => ?_; (iterate 2 refine At.v rfl rfl rfl rfl rfl trivial ?_)
          obtain rfl : b222 = true := h222.symm.trans (decide_eq_true (by omega))
          subst hL
          refine At.cq rfl rfl rfl rfl rfl rfl rfl rfl (s22 hG.a) ?_; (iterate 2 refine At.v rfl rfl rfl rfl rfl trivial ?_); refine At.regionEnd ?_
          exact hLB Tryz.func14 (.inr ⟨_, rfl⟩) rfl (.tmp rfl .nil) (⟨by rfl, rfl⟩)
end Go.Gx
end

section
set_option linter.unusedSimpArgs false
set_option linter.unusedVariables false
namespace Go.Gx
open Go Go.Conc Go.Proofs Go.ChangeShapes Go.RowKit YtokdmiiejfmomaaGreatDoor
set_option maxRecDepth 100000
theorem ip14 : Tryz.prog.inPlace 14 = [] := by kernel_rfl
theorem uf14 : Tryz.prog.unfollowed 14 = true := by kernel_rfl
theorem rc14 : Tryz.prog.recurses 14 = true := by kernel_rfl
theorem vn14 : Tryz.prog.varsNamed 14 = ["velarium/canvas.checks"] := by kernel_rfl
theorem closed14 : joinedFacts Tryz.prog 14 Tryz.f14 Rows.canvasAskedSpec Rows.canvasAskedRow = true := by
  unfold joinedFacts
  rewrite [ip14, uf14, rc14, vn14, enter1, lf1, make1]
  kernel_rfl
theorem fnm14 : Tryz.prog.funcNamed "velarium/velariumlaw02.CanvasAsked" = some 14 := by kernel_rfl
theorem inst14 : Tryz.f14.isInstance Tryz.prog Rows.canvasAskedRow.origin Rows.canvasAskedRow.targs := of_decide_eq_true (by kernel_rfl)
theorem wrap14 : Tryz.f14.isWrapper Tryz.prog Rows.canvasAskedRow.wrapper Rows.canvasAskedRow.mainSum := by unfold Func.isWrapper; first | (rw [if_pos (by decide +kernel)]; kernel_rfl) | (rw [if_neg (by decide +kernel)]; exact ⟨rfl, rfl⟩)
theorem goes14 : Tryz.prog.goes 14 = true := by kernel_rfl
theorem wbt14 : Rows.canvasAskedRow.wfByText (OpenSpec.ofChange Rows.canvasAskedSpec) = true := by kernel_rfl
theorem wants14 : (Tryz.f14.params.toList.all fun t => !Tryz.prog.wantsStandIn t) = true := by kernel_rfl
theorem lifted14 (os : Os) (started : os.Started) (H : Type) (enc : TypeId × Value → H) :
    ReturnsInLeavingWide {} Tryz.checked os 14 .any (fun w args => (Rows.canvasAskedSpec.pre enc Tryz.prog Tryz.f14 [] false w args ∧ laidMetH Tryz.prog laid1 w) ∧ sizedMet enc Tryz.prog Tryz.f14 (OpenSpec.ofChange Rows.canvasAskedSpec) false w args) (Rows.canvasAskedSpec.post enc Tryz.prog Tryz.f14 false true false false) := by
  refine law_lift Tryz.func14 (by kernel_rfl) rfl rfl (by kernel_rfl) os started H enc #[.agg #[.slice none 0 0, .int .i64 0, .int .i64 0, .int .i64 0, .slice none 0 0], .slice none 0 0, .int .u8 0, .int .u8 0]
    (World.shaped_of_RefB (by kernel_rfl) (by kernel_rfl)) (by kernel_rfl) (by kernel_rfl) (by kernel_rfl) ?_
  intro W base args ds ps hval hA
  rw [Tryz.params14] at hval hA
  obtain ⟨v0, vs0, d0, ds0, p0, q0, e0, rfl, rfl, h0, hA⟩ := trodAll_cons hA
  obtain ⟨v1, vs1, d1, ds1, p1, q1, rfl, rfl, rfl, h1, hA⟩ := trodAll_cons hA
  obtain ⟨v2, vs2, d2, ds2, p2, q2, rfl, rfl, rfl, h2, hA⟩ := trodAll_cons hA
  obtain ⟨v3, vs3, d3, ds3, p3, q3, rfl, rfl, rfl, h3, hA⟩ := trodAll_cons hA
  obtain ⟨rfl, rfl, rfl⟩ := trodAll_nil hA
  obtain rfl : args = #[v0, v1, v2, v3] := Array.toList_inj.1 e0
  obtain ⟨B0, A0, Hs0, rfl, hsh0, hb0⟩ := open_book (hval 0 27 _ rfl rfl) h0
  obtain ⟨a1, ys1, cap1, Hs1, rfl, hsh1, hb1⟩ := open_slopes (hval 1 45 _ rfl rfl) h1
  obtain ⟨n2, rfl, rfl, rfl, w2⟩ := open_int Tryz.underlying5 (hval 2 5 _ rfl rfl) h2
  obtain ⟨n3, rfl, rfl, rfl, w3⟩ := open_int Tryz.underlying5 (hval 3 5 _ rfl rfl) h3
  exact ⟨rfl, (Hs0 ++ Hs1), (hsh0.app hsh1), fun Post => law14 (hsh0.app hsh1).glo (hsh0.app hsh1).ro (hb0.a ((Sub.pre _ _).trans (Sub.append_left _ _))) (hb1.a ((Sub.append_left _ _).trans (Sub.append_left _ _))) (wf_u8 w2) (wf_u8 w3)⟩
theorem said14 : Rows.CanvasAskedSaid :=
  OpenClaim.holds_of_wide_leaving 14 Tryz.f14 rfl rfl rfl rfl rfl rfl rfl ⟨rfl, rfl, rfl, rfl, rfl⟩ rfl rfl rfl rfl rfl fnm14 Tryz.func14 closed14 inst14 wrap14
    (fun os started H enc _ => lifted14 os started H enc)
theorem card14 : Rows.CanvasAskedCardSaid :=
  ⟨Claim7.tied_new_at .later [.funcs] true (Claim7.new_of_sixth said14 (true, "2aeeda9e0b315eb022070bc88bc80a554dcd329f773ad53586088327a2b29430") false rfl ⟨rfl, rfl⟩ mi1 rfl
    (fun f fn hf hfn => by
      obtain rfl : f = 14 := Option.some.inj (hf.symm.trans fnm14)
      obtain rfl : fn = Tryz.f14 := Option.some.inj (hfn.symm.trans Tryz.func14)
      exact ⟨looks1.symm, wants_of wants14⟩)) wbt14, (fun _ h => by cases h), canvasAsked_row_tie, (fun h => by cases h), goes_of fnm14 goes14⟩
end Go.Gx
namespace Go.Proofs.YtokdmiiejfmomaaGreatDoor
/-- THE CARD OF CanvasAsked. -/
theorem canvasAsked_card : Rows.CanvasAskedCardSaid := Go.Gx.card14
#print axioms canvasAsked_card
end Go.Proofs.YtokdmiiejfmomaaGreatDoor
end
