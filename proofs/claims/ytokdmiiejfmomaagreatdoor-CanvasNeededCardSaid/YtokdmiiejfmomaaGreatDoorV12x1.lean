/-
  The law CanvasNeeded (each of the lines meets the canvas in a row of the band of Needs, in each state, and the least and the greatest row are met; Short is told just if one of them misses it in some state): its tied card holds, for every input, without a condition.
-/
import Derived.Test.YtokdmiiejfmomaaGreatDoorW6
import Derived.SevenTiedAt
section
set_option linter.unusedSimpArgs false
set_option linter.unusedVariables false
namespace Go.Gx
open Go Go.Conc Go.Proofs Go.ChangeShapes Go.RowKit YtokdmiiejfmomaaGreatDoor
set_option maxRecDepth 100000
theorem Shr.ro {W : World} {Hs : Facts} (h : Shr W Hs) : ∀ f ∈ ([.seg 0 0 chkC] ++ Hs : Facts), f.isOwn = false := by
  intro f hf
  rcases List.mem_append.1 hf with hf | hf
  · rw [List.mem_singleton] at hf; subst hf; rfl
  · exact (h f hf).1
section
variable {H : Type} {enc : TypeId × Value → H} {W : World} {sp : Nat → Bool} {held : Bool}

theorem open_slopes {r : Reach} {b0 : Nat} {v : Value} {d : DataW H} {ps : List MemPlace} (hval : Value.okWide Tryz.prog W r b0 45 v) (hd : DataW.Trod enc Tryz.prog W 0 sp held 45 v d ps) :
    ∃ (a : Option Addr) (ys : List R2) (cap : Nat) (Hs : Facts), v = .slice a ys.length cap ∧ Shr W Hs ∧ Rd Hs a (ys.flatMap c2) := by
  obtain ⟨a0, len, cap, rfl⟩ := Go.WideShapes.okWide_slice Tryz.underlying45 hval
  obtain ⟨fuel, hf⟩ := hd
  obtain ⟨a, ys, cap', Hs, e, h1, h2⟩ := open_sl (c := c2) (sz := 2) (fun _ => rfl) (by decide) Tryz.underlying45 (by kernel_rfl) (fun n cs x h => by
      obtain ⟨a, b, rfl⟩ := two Tryz.underlying29 ⟨rfl, rfl⟩ ⟨rfl, rfl⟩ (by kernel_rfl) (by kernel_rfl) h
      exact ⟨(a, b), rfl⟩) hf
  exact ⟨a, ys, cap', Hs, e, h1, h2⟩
end
end Go.Gx
end

section
set_option linter.unusedSimpArgs false
set_option linter.unusedVariables false
namespace Go.Gx
open Go Go.Conc Go.Proofs

instance : BoI Tryz.prog 4 := ⟨by kernel_rfl⟩
end Go.Gx
end

section
set_option linter.unusedSimpArgs false
set_option linter.unusedVariables false
namespace Go.Gx
open Go Go.Conc Go.Proofs
variable {main : Bool}

/-! ### the reference's piece and point that is met, and that they are the program's -/
theorem pairs_ok {ps : List R2} (hp : ∀ p ∈ ps, PtOk p) (hpw : ps.Pairwise (fun p q => p.2 < q.2)) : ∀ x ∈ ps.zip ps.tail, PtOk x.1 ∧ PtOk x.2 ∧ x.1.2 < x.2.2 := by
  rintro ⟨p, q⟩ hx
  refine ⟨hp _ (List.of_mem_zip hx).1, hp _ (List.mem_of_mem_tail (List.of_mem_zip hx).2), ?_⟩
  obtain ⟨i, hi, e⟩ := List.getElem_of_mem hx
  simp only [List.getElem_zip, List.getElem_tail, Prod.mk.injEq] at e
  obtain ⟨rfl, rfl⟩ := e
  simp at hi
  exact List.pairwise_iff_getElem.1 hpw i (i + 1) (by omega) (by omega) (by omega)
end Go.Gx
end

section
set_option linter.unusedSimpArgs false
set_option linter.unusedVariables false
namespace Go.Gx
open Go Go.Conc Go.Proofs
variable {main : Bool}

end Go.Gx
end

section
set_option linter.unusedSimpArgs false
set_option linter.unusedVariables false
namespace Go.Gx
open Go Go.Conc Go.Proofs
variable {main : Bool}

end Go.Gx
end

section
set_option linter.unusedSimpArgs false
set_option linter.unusedVariables false
namespace Go.Gx
open Go Go.Conc Go.Proofs
variable {main : Bool}

end Go.Gx
end

section
set_option linter.unusedSimpArgs false
set_option linter.unusedVariables false
namespace Go.Gx
open Go Go.Conc Go.Proofs
variable {main : Bool}

end Go.Gx
end

section
/-
  LOGIC G: what a call has made is put behind the cells that one knows by their places.
-/
set_option linter.unusedSimpArgs false
set_option linter.unusedVariables false
namespace Go.Gx
open Go Go.Conc
/-- 'Y' is 'sf ++ X' with the own cells that stand first in 'X' ahead of 'sf'. -/
class Back (sf X : Facts) (Y : outParam Facts) : Prop where
  s : Sub Y (sf ++ X)
instance (priority := low) backNil {sf X : Facts} : Back sf X (sf ++ X) := ⟨Sub.refl _⟩
instance backCons {sf X Y : Facts} {r : Nat} {o : Obj} [h : Back sf X Y] : Back sf (.own r o :: X) (.own r o :: Y) :=
  ⟨(Sub.cons _ h.s).trans (Sub.of_perm List.perm_middle.symm)⟩
theorem At.back {P : Program} {main : Bool} {L : Lg P main} {f : FuncId} {ro : Option Nat} {ds : Dz} {cs : List Frame} {n : Nat} {E : Env} {k : List Item} {sf X Y : Facts} [hb : Back sf X Y] (h : At L f ro ds cs n E Y k) : At L f ro ds cs n E (sf ++ X) k :=
  h.weakH hb.s
end Go.Gx
end

section
set_option linter.unusedSimpArgs false
set_option linter.unusedVariables false
namespace Go.Gx
open Go Go.Conc Go.Proofs

end Go.Gx
end

section
set_option linter.unusedSimpArgs false
set_option linter.unusedVariables false
namespace Go.Gx
open Go Go.Conc Go.Proofs
variable {main : Bool}

end Go.Gx
end

section
set_option linter.unusedSimpArgs false
set_option linter.unusedVariables false
namespace Go.Gx
open Go Go.Conc Go.Proofs
variable {main : Bool}

theorem low_cross {n d : Int} (hd : d ≠ 0) : (low n d).1 * d = n * (low n d).2 := by
  unfold low lowN lowD
  have hg : 0 < Int.gcd n d := Int.gcd_pos_of_ne_zero_right n hd
  have h1 : ((Int.gcd n d : Nat) : Int) ∣ n := Int.gcd_dvd_left ..
  have h2 : ((Int.gcd n d : Nat) : Int) ∣ d := Int.gcd_dvd_right ..
  generalize ((Int.gcd n d : Nat) : Int) = g at *
  have hg0 : g ≠ 0 := by rintro rfl; exact hd (Int.zero_dvd.1 h2)
  obtain ⟨a, rfl⟩ := h1
  obtain ⟨b, rfl⟩ := h2
  split
  · rw [← Int.mul_neg, ← Int.mul_neg, Int.mul_tdiv_cancel_left _ hg0, Int.mul_tdiv_cancel_left _ hg0]
    simp only [Int.neg_mul, Int.mul_neg]
    rw [Int.mul_left_comm, Int.mul_assoc]
  · simp only
    rw [Int.mul_tdiv_cancel_left _ hg0, Int.mul_tdiv_cancel_left _ hg0, Int.mul_left_comm, Int.mul_assoc]
end Go.Gx
end

section
set_option linter.unusedSimpArgs false
set_option linter.unusedVariables false
namespace Go.Gx
open Go Go.Conc Go.Proofs

end Go.Gx
end

section
set_option linter.unusedSimpArgs false
set_option linter.unusedVariables false
namespace Go.Gx
open Go Go.Conc Go.Proofs
variable {main : Bool}

def knR (B : Bk) (r : Int) : Int := if bookBar B ≠ 0 then bookBar B else if r ≠ 0 then r else if (statesM B).length = 0 then 9 else 0
theorem knR_eq (B : Bk) (rs : List Int) : knR B (firstBar rs) = knownBar B rs := by
  unfold knR knownBar lookBar
  by_cases hz : bookBar B = 0
  · simp [hz]
  · simp [hz]
end Go.Gx
end

section
set_option linter.unusedSimpArgs false
set_option linter.unusedVariables false
namespace Go.Gx
open Go Go.Conc Go.Proofs
variable {main : Bool}

/-! ### where a line meets the canvas, and in which row -/
theorem low_den_pos {n d : Int} (hd : d ≠ 0) : 1 ≤ (low n d).2 := lowD_pos hd
theorem frac_le {n d a : Int} (hd : d ≠ 0) (h : 0 < d ∧ a * d ≤ n ∨ d < 0 ∧ n ≤ a * d) : a * (low n d).2 ≤ (low n d).1 := by
  have hc := low_cross (n := n) hd
  have hp := low_den_pos (n := n) hd
  generalize (low n d).1 = x at *
  generalize (low n d).2 = y at *
  have hy : 0 ≤ y := by omega
  have e : a * y * d = a * d * y := Int.mul_right_comm ..
  rcases h with ⟨h0, h⟩ | ⟨h0, h⟩
  · have := Int.mul_le_mul_of_nonneg_right h hy
    rw [← hc, ← e] at this
    exact Int.le_of_mul_le_mul_right this h0
  · have := Int.mul_le_mul_of_nonneg_right h hy
    rw [← hc, ← e] at this
    have h3 : a * y * -d ≤ x * -d := by rw [Int.mul_neg, Int.mul_neg]; omega
    exact Int.le_of_mul_le_mul_right h3 (by omega)
theorem le_frac {n d a : Int} (hd : d ≠ 0) (h : 0 < d ∧ n ≤ a * d ∨ d < 0 ∧ a * d ≤ n) : (low n d).1 ≤ a * (low n d).2 := by
  have hc := low_cross (n := n) hd
  have hp := low_den_pos (n := n) hd
  generalize (low n d).1 = x at *
  generalize (low n d).2 = y at *
  have hy : 0 ≤ y := by omega
  have e : a * y * d = a * d * y := Int.mul_right_comm ..
  rcases h with ⟨h0, h⟩ | ⟨h0, h⟩
  · have := Int.mul_le_mul_of_nonneg_right h hy
    rw [← hc, ← e] at this
    exact Int.le_of_mul_le_mul_right this h0
  · have := Int.mul_le_mul_of_nonneg_right h hy
    rw [← hc, ← e] at this
    have h3 : x * -d ≤ a * y * -d := by rw [Int.mul_neg, Int.mul_neg]; omega
    exact Int.le_of_mul_le_mul_right h3 (by omega)
/-- A point of a piece is between its ends. -/
theorem cross_high {p q : R2} {eye : Int} {s : R2} (hpq : p.2 < q.2) : ∀ x ∈ crossM p q eye s, p.2 * x.2.2 ≤ x.2.1 ∧ x.2.1 ≤ q.2 * x.2.2 := by
  intro x hx
  unfold crossM at hx
  rw [if_neg (by rintro rfl; omega)] at hx
  generalize ha : offL p eye s = a at hx
  generalize hb : offL q eye s = b at hx
  split at hx
  · simp only [List.mem_cons, List.not_mem_nil, or_false] at hx
    rcases hx with rfl | rfl <;> simp only <;> omega
  rename_i h0
  split at hx
  · rename_i hc
    rw [List.mem_singleton] at hx
    subst hx
    simp only
    have hd : a - b ≠ 0 := by omega
    have hpos : 0 < q.2 - p.2 := by omega
    have e1 : p.2 * (a - b) + (q.2 - p.2) * a - q.2 * (a - b) = (q.2 - p.2) * b := by
      rw [Int.sub_mul, Int.sub_mul, Int.mul_sub, Int.mul_sub]
      omega
    refine ⟨frac_le hd ?_, le_frac hd ?_⟩
    · rcases hc with hc | hc
      · refine .inr ⟨by omega, ?_⟩
        have := Int.mul_le_mul_of_nonneg_left hc.1 (Int.le_of_lt hpos)
        rw [Int.mul_zero] at this
        omega
      · refine .inl ⟨by omega, ?_⟩
        have := Int.mul_le_mul_of_nonneg_left hc.1 (Int.le_of_lt hpos)
        rw [Int.mul_zero] at this
        omega
    · rcases hc with hc | hc
      · refine .inr ⟨by omega, ?_⟩
        have := Int.mul_le_mul_of_nonneg_left hc.2 (Int.le_of_lt hpos)
        rw [Int.mul_zero] at this
        omega
      · refine .inl ⟨by omega, ?_⟩
        have := Int.mul_le_mul_of_nonneg_left hc.2 (Int.le_of_lt hpos)
        rw [Int.mul_zero] at this
        omega
  · cases hx
theorem meet_mem {ps : List R2} {eye : Int} {s : R2} {x : Spot} (h : meetM ps eye s = some x) : ∃ p q, (p, q) ∈ ps.zip ps.tail ∧ x ∈ crossM p q eye s := by
  have hx : x ∈ piecesM ps eye s := by
    unfold meetM at h
    split at h
    · cases h
    · rename_i y l e
      cases h
      rw [e]
      exact bestM_mem _ _ _
  unfold piecesM at hx
  obtain ⟨⟨p, q⟩, hpq, hx⟩ := List.mem_flatMap.1 hx
  exact ⟨p, q, hpq, hx⟩
theorem foot_le {B : Bk} (hz : bookBar B = 0) : ∀ p ∈ B.prof, footM B ≤ p.2 := by
  have hpw := prof_pw hz
  have h2 := (bounds_of_bar hz).1
  unfold footM
  cases hB : B.prof with
  | nil => simp
  | cons p0 ps =>
    rw [hB] at hpw
    intro p hp
    rcases List.mem_cons.1 hp with rfl | hp
    · exact Int.le_refl _
    · exact Int.le_of_lt ((List.pairwise_cons.1 hpw).1 p hp)
theorem foot_pos {B : Bk} (hz : bookBar B = 0) : 0 ≤ footM B := by
  have h2 := (bounds_of_bar hz).1
  have hp := (bounds_of_bar hz).2.2.1
  unfold footM
  cases hB : B.prof with
  | nil => rw [hB] at h2; simp at h2
  | cons p0 ps =>
    have := hp p0 (by rw [hB]; exact List.mem_cons_self ..)
    unfold PtOk at this
    simp only [List.headD_cons]
    omega
/-- How high a line meets the canvas. -/
theorem meet_high {B : Bk} (hz : bookBar B = 0) {eye : Int} {s : R2} {x : Spot} (h : meetM B.prof eye s = some x) : footM B * x.2.2 ≤ x.2.1 ∧ x.2.1 ≤ 90 * x.2.2 ∧ 1 ≤ x.2.2 ∨ x.2.2 ≤ 0 := by
  obtain ⟨p, q, hpq, hx⟩ := meet_mem h
  obtain ⟨hp, hq, hlt⟩ := pairs_ok (bounds_of_bar hz).2.2.1 (prof_pw hz) _ hpq
  obtain ⟨h1, h2⟩ := cross_high hlt x hx
  simp only at h1 h2
  by_cases h0 : 1 ≤ x.2.2
  · left
    have hf := foot_le hz p (List.of_mem_zip hpq).1
    simp only at hp hq hlt
    unfold PtOk at hp hq
    have a1 := Int.mul_le_mul_of_nonneg_right hf (show 0 ≤ x.2.2 by omega)
    have a2 := Int.mul_le_mul_of_nonneg_right (show q.2 ≤ 90 by omega) (show 0 ≤ x.2.2 by omega)
    omega
  · right; omega
/-- The row of what is met is a row. -/
theorem row_ok {B : Bk} (hz : bookBar B = 0) {eye : Int} {s : R2} (he : EyeOk eye) (hs : SlOk s) : rowM B eye s = -1 ∨ 0 ≤ rowM B eye s ∧ rowM B eye s ≤ 90 := by
  cases hm : meetM B.prof eye s with
  | none => left; exact rowM_none hm
  | some x =>
    right
    rw [rowM_some hm]
    have hok := meetM_ok (bounds_of_bar hz).2.2.1 he hs hm
    have hh := meet_high hz hm
    have hb := bounds_of_bar hz
    have hf := foot_pos hz
    obtain ⟨-, -, -, h2⟩ := hok
    unfold squareM
    simp only
    generalize hsz : B.size = z at *
    have hd : 0 < z * x.2.2 := Int.mul_pos (by omega) (by omega)
    have hn : 0 ≤ x.2.1 - footM B * x.2.2 := by omega
    refine ⟨Int.tdiv_nonneg hn (Int.le_of_lt hd), ?_⟩
    have h3 : x.2.1 - footM B * x.2.2 ≤ 90 * (z * x.2.2) := by
      have a1 : 0 ≤ footM B * x.2.2 := Int.mul_nonneg hf (by omega)
      have a2 : 1 * x.2.2 ≤ z * x.2.2 := Int.mul_le_mul_of_nonneg_right (by omega) (by omega)
      omega
    rw [Int.tdiv_eq_ediv_of_nonneg hn]
    have := Int.ediv_le_ediv hd h3
    rwa [Int.mul_ediv_cancel _ (by omega)] at this
theorem state_eye {B : Bk} (hz : bookBar B = 0) : ∀ e ∈ statesM B, EyeOk e ∧ B.lo ≤ e ∧ e ≤ B.hi ∧ rightM B e = true := by
  intro e he
  have hb := bounds_of_bar hz
  unfold statesM bandL at he
  obtain ⟨h1, h2⟩ := List.mem_filter.1 he
  obtain ⟨k, hk, rfl⟩ := List.mem_map.1 h1
  rw [List.mem_range] at hk
  unfold EyeOk
  refine ⟨by omega, by omega, by omega, h2⟩
/-! ### the reference's sorting -/
end Go.Gx
end

section
set_option linter.unusedSimpArgs false
set_option linter.unusedVariables false
namespace Go.Gx
open Go Go.Conc Go.Proofs
variable {main : Bool}

theorem sortM3 (a b c : Int) : sortM [a, b, c] = if b < a then (if c < a then (if c < b then [c, b, a] else [b, c, a]) else [b, a, c]) else (if c < b then (if c < a then [c, a, b] else [a, c, b]) else [a, b, c]) := by
  by_cases h1 : b < a <;> by_cases h2 : c < a <;> by_cases h3 : c < b <;> simp [sortM, outM, innerM, List.range_succ, h1, h2, h3]
set_option maxRecDepth 100000 in
set_option maxHeartbeats 4000000 in
/-- CheckLooks (ref02) -/
theorem s57 (L : Lg Tryz.prog main) (H : Facts) {a : Option Addr} {n cap : Nat} {ss : List R2} (hn : ss.length = n) (hr : Rd H a (ss.flatMap c2)) (hl : ss.length ≤ 1000) : Pure L 57 #[.slice a n cap] H (.int .i64 (looksBar ss)) := by
  subst hn
  refine Spec.enter Tryz.func57 rfl (by simp [Tryz.f57]) fun c cs hc => ?_
  unfold looksBar at hc
  refine At.seq (At.region ?_); refine At.v rfl rfl rfl rfl rfl trivial ?_; refine At.regionEnd (At.seq (At.seq (At.region ?_))); refine At.v rfl rfl rfl rfl rfl trivial ?_; refine At.ln rfl rfl rfl rfl rfl rfl rfl rfl ?_; refine At.cqb rfl rfl rfl rfl rfl rfl rfl rfl (s43 L _) fun b7 h7 => ?_; refine At.v rfl rfl rfl rfl rfl trivial ?_; refine At.regionEnd ?_
  cases b7
  · have e : ¬ (1 ≤ ss.length ∧ ss.length ≤ 6) := by simp at h7; omega
    simp only [if_pos e] at hc
    refine At.cond rfl ?_; refine At.seq (At.region ?_); refine At.v rfl rfl rfl rfl rfl trivial ?_; refine At.regionEnd ?_
    exact At.ret Tryz.func57 (.inr ⟨_, rfl⟩) rfl (.tmp rfl .nil) (wk (hc _ _ (⟨by rfl, rfl⟩)))
  have e : ¬ ¬ (1 ≤ ss.length ∧ ss.length ≤ 6) := by simp at h7; omega
  simp only [if_neg e] at hc
  refine At.cond rfl ?_; refine At.skip (At.seq (At.seq (At.region ?_))); refine At.v rfl rfl rfl rfl rfl trivial ?_; refine At.regionEnd ?_; refine At.block ?_
  refine At.lpk (X := { j : Nat // j ≤ ss.length ∧ slsBar (ss.drop j) = slsBar ss }) [0] (fun x => [(3, .int .i64 (x.1 : Int))]) (fun _ => H) (fun x => ss.length - x.1) (⟨0, Nat.zero_le _, rfl⟩) rfl ?_ (by repeat (first | exact trivial | refine ⟨rfl, ?_⟩)) sb
  rintro ⟨j, hj, hd⟩ again
  simp only at again ⊢
  refine At.seq (At.seq (At.region ?_)); (iterate 2 refine At.v rfl rfl rfl rfl rfl trivial ?_); refine At.ln rfl rfl rfl rfl rfl rfl rfl rfl ?_; refine At.cp rfl rfl rfl rfl rfl fun b12 h12 => ?_; refine At.regionEnd ?_
  cases b12
  · have e : j = ss.length := by simp at h12; omega
    subst e
    rw [List.drop_length] at hd
    refine At.cond rfl ?_; refine At.exit rfl ?_; refine At.seq (At.region ?_); refine At.v rfl rfl rfl rfl rfl trivial ?_; refine At.regionEnd ?_
    exact At.ret Tryz.func57 (.inr ⟨_, rfl⟩) rfl (.tmp rfl .nil) (wk (hc _ _ (⟨by rw [← hd]; rfl, rfl⟩)))
  · have hlt : j < ss.length := by simp at h12; omega
    obtain ⟨b, off, rfl, hc1⟩ := hr.el (List.getElem?_eq_getElem hlt)
    rw [List.drop_eq_getElem_cons hlt, slsBar] at hd
    refine At.cond rfl ?_; refine At.skip (At.seq ?_); refine At.block ?_; refine At.seq (At.region ?_); (iterate 2 refine At.v rfl rfl rfl rfl rfl trivial ?_); refine At.q rfl rfl rfl rfl (q_ia rfl rfl rfl (by assumption)) ?_; refine At.ldc rfl rfl rfl rfl rfl rfl hc1.a rfl rfl ?_; refine At.cq rfl rfl rfl rfl rfl rfl rfl rfl (s47 L _) ?_; refine At.v rfl rfl rfl rfl rfl trivial ?_; refine At.regionEnd (At.seq (At.region ?_)); refine At.v rfl rfl rfl rfl rfl trivial ?_
    refine At.cp rfl rfl rfl rfl rfl fun b21 h21 => ?_; refine At.regionEnd ?_
    cases b21
    · have e3 : slopeBar ss[j].1 ss[j].2 = 0 := by simpa using h21
      rw [if_neg (by simpa using e3)] at hd
      refine At.cond rfl ?_; refine At.skip ?_; refine At.inBlock ?_; refine At.region ?_; refine At.v rfl rfl rfl rfl rfl trivial ?_; refine At.v rfl rfl rfl rfl rfl (by omega) ?_; refine At.v rfl rfl rfl rfl rfl trivial ?_; refine At.regionEnd ?_
      refine At.tA ((again ⟨j + 1, hlt, hd⟩ (by simp; omega)))
    · have e3 : slopeBar ss[j].1 ss[j].2 ≠ 0 := by simpa using h21
      rw [if_pos e3] at hd
      refine At.cond rfl ?_; refine At.seq (At.region ?_); (iterate 2 refine At.v rfl rfl rfl rfl rfl trivial ?_); refine At.regionEnd ?_
      exact At.ret Tryz.func57 (.inr ⟨_, rfl⟩) rfl (.tmp rfl .nil) (wk (hc _ _ (⟨by rw [← hd]; rfl, rfl⟩)))
end Go.Gx
end

section
set_option linter.unusedSimpArgs false
set_option linter.unusedVariables false
namespace Go.Gx
open Go Go.Conc Go.Proofs
variable {main : Bool}

end Go.Gx
end

section
set_option linter.unusedSimpArgs false
set_option linter.unusedVariables false
namespace Go.Gx
open Go Go.Conc Go.Proofs
variable {main : Bool}

end Go.Gx
end

section
set_option linter.unusedSimpArgs false
set_option linter.unusedVariables false
namespace Go.Gx
open Go Go.Conc Go.Proofs
variable {main : Bool}

end Go.Gx
end

section
set_option linter.unusedSimpArgs false
set_option linter.unusedVariables false
namespace Go.Gx
open Go Go.Conc Go.Proofs

theorem compactM_len : ∀ (l : List Int), (compactM l).length ≤ l.length
  | [] => Nat.le_refl _
  | [x] => Nat.le_refl _
  | x :: y :: l => by
    have := compactM_len (y :: l)
    unfold compactM
    split
    · simp at this ⊢; omega
    · simp at this ⊢; omega
theorem rowsM_len {B : Bk} (hz : bookBar B = 0) {s : R2} : (rowsM B s).length ≤ 3 := by
  unfold rowsM
  refine Nat.le_trans (compactM_len _) ?_
  rw [sortM_len]
  exact Nat.le_trans (List.length_filter_le _ _) (rowsOf_len hz s)
end Go.Gx
end

section
/-
  LOGIC G: a growing list is shared: nobody writes it any more.
-/
set_option linter.unusedSimpArgs false
set_option linter.unusedVariables false
namespace Go.Gx
open Go Go.Conc
end Go.Gx
end

section
set_option linter.unusedSimpArgs false
set_option linter.unusedVariables false
namespace Go.Gx
open Go Go.Conc Go.Proofs
variable {main : Bool}

/-! ### a book whose marks are right for an eye -/
/-! ### the plain law of CanvasReal -/
theorem sortM_mem3 {l : List Int} (h : l.length ≤ 3) (x : Int) : x ∈ compactM (sortM l) ↔ x ∈ l := by
  match l, h with
  | [], _ => simp [sortM, outM, innerM, compactM]
  | [a], _ => simp [sortM, outM, innerM, compactM, List.range_succ]
  | [a, b], _ =>
    have e : sortM [a, b] = if b < a then [b, a] else [a, b] := by
      by_cases h1 : b < a <;> simp [sortM, outM, innerM, List.range_succ, h1]
    rw [e]
    split
    · unfold compactM
      split
      · simp [compactM]; omega
      · simp [compactM]; omega
    · unfold compactM
      split
      · simp [compactM]; omega
      · simp [compactM]
  | [a, b, c], _ =>
    rw [sortM3]
    have key : ∀ p q r : Int, x ∈ compactM [p, q, r] ↔ x = p ∨ x = q ∨ x = r := by
      intro p q r
      unfold compactM
      split
      · rename_i h1
        unfold compactM
        split
        · simp [compactM]; omega
        · simp [compactM]; omega
      · unfold compactM
        split
        · simp [compactM]; omega
        · simp [compactM]
    split <;> split <;> (try split) <;> rw [key] <;> simp <;> omega
theorem rowsM_mem {B : Bk} (hz : bookBar B = 0) {s : R2} {x : Int} : x ∈ rowsM B s ↔ x ≠ -1 ∧ ∃ e ∈ statesM B, rowM B e s = x := by
  unfold rowsM
  rw [sortM_mem3 (Nat.le_trans (List.length_filter_le _ _) (rowsOf_len hz s)), List.mem_filter]
  unfold rowsOf
  rw [List.mem_map]
  simp only [decide_eq_true_eq]
  exact And.comm
end Go.Gx
end

section
set_option linter.unusedSimpArgs false
set_option linter.unusedVariables false
namespace Go.Gx
open Go Go.Conc Go.Proofs

theorem kn0 {B : Bk} {rs : List Int} (hz : bookBar B = 0) (hr : firstBar rs = 0) (hs : (statesM B).length ≠ 0) : knownBar B rs = 0 := by
  rw [← knR_eq, hr]
  unfold knR
  rw [if_neg (by simpa using hz), if_neg (by simp), if_neg hs]
end Go.Gx
end

section
set_option linter.unusedSimpArgs false
set_option linter.unusedVariables false
namespace Go.Gx
open Go Go.Conc Go.Proofs
variable {main : Bool}

/-! ### the plain law of CanvasReached -/
end Go.Gx
end

section
set_option linter.unusedSimpArgs false
set_option linter.unusedVariables false
namespace Go.Gx
open Go Go.Conc Go.Proofs

end Go.Gx
end

section
set_option linter.unusedSimpArgs false
set_option linter.unusedVariables false
namespace Go.Gx
open Go Go.Conc Go.Proofs

/-! ### the plain law of CanvasNeeded -/
theorem rowsOf_ok {B : Bk} (hz : bookBar B = 0) {s : R2} (hs : slopeBar s.1 s.2 = 0) : ∀ x ∈ rowsOf B s, x = -1 ∨ 0 ≤ x ∧ x ≤ 90 := by
  intro x hx
  obtain ⟨e, he, rfl⟩ := List.mem_map.1 hx
  exact row_ok hz (state_eye hz e he).1 (slOk_of s hs)
theorem rowsM_of {B : Bk} (hz : bookBar B = 0) {s : R2} {x : Int} : x ∈ rowsM B s ↔ x ≠ -1 ∧ x ∈ rowsOf B s := by
  rw [rowsM_mem hz]
  unfold rowsOf
  rw [List.mem_map]
theorem needs_none {B : Bk} {ss : List R2} (hz : bookBar B = 0) (hl : looksBar ss = 0) (h : (statesM B).length = 0) : needsM B ss = ((0, 0), 9) := by
  have hk : knownBar B [looksBar ss] = 9 := by
    unfold knownBar
    rw [lookBar1 hz, firstBar1, hl, if_neg (by simp), if_pos h]
  unfold needsM
  rw [hk]
  simp
theorem needs_some {B : Bk} {ss : List R2} (hz : bookBar B = 0) (hl : looksBar ss = 0) (h : (statesM B).length ≠ 0) :
    needsM B ss = if minO (allRows B ss) = -1 then ((0, 0), 8) else ((minO (allRows B ss), maxO (allRows B ss)), 0) := by
  unfold needsM
  rw [kn0 hz (by rw [hl]; rfl) h]
  simp
theorem all_pos {B : Bk} {ss : List R2} (hl : looksBar ss = 0) (h : (statesM B).length ≠ 0) : 0 < (allRows B ss).length := by
  obtain ⟨h1, _, _⟩ := looks0 hl
  refine List.length_pos_of_mem (a := rowM B (statesM B)[0] ss[0]) ?_
  unfold allRows rowsOf
  exact List.mem_flatMap.2 ⟨_, List.getElem_mem (by omega), List.mem_map.2 ⟨_, List.getElem_mem (by omega), rfl⟩⟩
theorem needs_short {B : Bk} {ss : List R2} (hz : bookBar B = 0) (hl : looksBar ss = 0) (h : (statesM B).length ≠ 0) (hx : ∃ s ∈ ss, (-1 : Int) ∈ rowsOf B s) : needsM B ss = ((0, 0), 8) := by
  obtain ⟨s, hs, hx⟩ := hx
  have hm := minO_spec (all_pos hl h)
  have h1 := hm.2 _ (List.mem_flatMap.2 ⟨s, hs, hx⟩)
  obtain ⟨s', hs', hx'⟩ := List.mem_flatMap.1 hm.1
  have h2 := rowsOf_ok hz ((looks0 hl).2.2 s' hs') _ hx'
  rw [needs_some hz hl h, if_pos (by omega)]
theorem needs_full {B : Bk} {ss : List R2} (hz : bookBar B = 0) (hl : looksBar ss = 0) (h : (statesM B).length ≠ 0) (hx : ∀ s ∈ ss, (-1 : Int) ∉ rowsOf B s) :
    (needsM B ss).2 = 0 ∧ (∀ s ∈ ss, ∀ r ∈ rowsM B s, (needsM B ss).1.1 ≤ r ∧ r ≤ (needsM B ss).1.2) ∧ (∃ s ∈ ss, (needsM B ss).1.1 ∈ rowsM B s) ∧ (∃ s ∈ ss, (needsM B ss).1.2 ∈ rowsM B s) := by
  have hm := minO_spec (all_pos hl h)
  have hM := maxO_spec (all_pos hl h)
  have hne : minO (allRows B ss) ≠ -1 := by
    intro e
    obtain ⟨s, hs, h1⟩ := List.mem_flatMap.1 hm.1
    rw [e] at h1
    exact hx s hs h1
  have hin : ∀ y ∈ allRows B ss, ∃ s ∈ ss, y ∈ rowsM B s := by
    intro y hy
    obtain ⟨s, hs, h1⟩ := List.mem_flatMap.1 hy
    exact ⟨s, hs, (rowsM_of hz).2 ⟨fun e => hx s hs (e ▸ h1), h1⟩⟩
  rw [needs_some hz hl h, if_neg hne]
  refine ⟨rfl, ?_, hin _ hm.1, hin _ hM.1⟩
  intro s hs r hr
  have h1 : r ∈ allRows B ss := List.mem_flatMap.2 ⟨s, hs, ((rowsM_of hz).1 hr).2⟩
  exact ⟨hm.2 r h1, hM.2 r h1⟩
theorem word_no {B : Bk} {s : R2} (h : (statesM B).length ≠ 0) : wordM (statesM B).length (((rowsOf B s).count (-1) : Nat) : Int) = 2 ↔ (-1 : Int) ∉ rowsOf B s := by
  rw [← List.count_eq_zero]
  unfold wordM
  constructor
  · intro h1
    split at h1
    · cases h1
    · split at h1
      · omega
      · cases h1
  · intro h1
    rw [h1, if_neg (by omega)]
    simp
def mayS (B : Bk) (s : R2) : Bool := decide (wordM (statesM B).length (((rowsOf B s).count (-1) : Nat) : Int) ≠ 2)
def anyR (B : Bk) (x : Int) (ss : List R2) : Bool := ss.any fun s => decide (x ∈ rowsM B s)
theorem any_snoc {α : Type} {p : α → Bool} {l : List α} {j : Nat} (h : j < l.length) : (l.take (j + 1)).any p = ((l.take j).any p || p l[j]) := by
  rw [List.take_succ_eq_append_getElem h, List.any_append]
  simp
set_option maxRecDepth 100000 in
set_option maxHeartbeats 4000000 in
/-- CanvasNeeded -/
theorem law12 {Post : Value → World → Prop} {W₀ : World} {H Hg : Facts} (hG : Glo H Hg) (hsh : ∀ f ∈ H, f.isOwn = false) {B : Bk} {A : BkA} (hBk : BkR H B A) {a : Option Addr} {ss : List R2} {cap : Nat} (hS : Rd H a (ss.flatMap c2)) :
    LawAt (mainLg Tryz.prog Post W₀ [] []) 12 #[bkV B A, .slice a ss.length cap] H (.bool true) := by
  refine LawAt.enter Tryz.func12 rfl (by simp [Tryz.f12]) fun cs hLB => ?_
  obtain ⟨pa, pc, ma, mc⟩ := A
  generalize hL : mainLg Tryz.prog Post W₀ [] [] = L at hLB ⊢
  have stop22 := trivial
  refine At.seq (At.region ?_); refine At.bx rfl rfl rfl rfl rfl rfl rfl fun r2 => ?_; refine At.v rfl rfl rfl rfl rfl trivial ?_; refine At.regionEnd (At.seq (At.seq (At.region ?_))); refine At.ld 0 rfl rfl rfl rfl rfl rfl rfl rfl rfl ?_; refine At.cqb rfl rfl rfl rfl rfl rfl rfl rfl (s39 L _ bs) fun b16 h16 => ?_; (iterate 2 refine At.v rfl rfl rfl rfl rfl trivial ?_)
  cases b16
  · refine At.un rfl rfl rfl rfl ?_
    (iterate 2 refine At.un rfl rfl rfl rfl ?_); (iterate 2 refine At.v rfl rfl rfl rfl rfl trivial ?_); (iterate 3 refine At.un rfl rfl rfl rfl ?_); refine At.v rfl rfl rfl rfl rfl trivial ?_; refine At.regionEnd ?_; refine At.cond rfl ?_; refine At.seq (At.region ?_)
    subst hL
    refine At.cq rfl rfl rfl rfl rfl rfl rfl rfl (s22 hG.a) ?_; refine At.v rfl rfl rfl rfl rfl trivial ?_; refine At.regionEnd ?_
    exact hLB Tryz.func12 (.inr ⟨_, rfl⟩) rfl (.tmp rfl .nil) (⟨by rfl, rfl⟩)
  refine At.v rfl rfl rfl rfl rfl trivial ?_; refine At.ln rfl rfl rfl rfl rfl rfl rfl rfl ?_; refine At.cp rfl rfl rfl rfl rfl fun b21 h21 => ?_; (iterate 2 refine At.v rfl rfl rfl rfl rfl trivial ?_)
  cases b21
  rotate_left
  · refine At.un rfl rfl rfl rfl ?_
    (iterate 2 refine At.un rfl rfl rfl rfl ?_); refine At.v rfl rfl rfl rfl rfl trivial ?_; refine At.regionEnd ?_; refine At.cond rfl ?_; refine At.seq (At.region ?_)
    subst hL
    refine At.cq rfl rfl rfl rfl rfl rfl rfl rfl (s22 hG.a) ?_; refine At.v rfl rfl rfl rfl rfl trivial ?_; refine At.regionEnd ?_
    exact hLB Tryz.func12 (.inr ⟨_, rfl⟩) rfl (.tmp rfl .nil) (⟨by rfl, rfl⟩)
  have hsl : ss.length ≤ 1000 := by simp at h21; omega
  have stop57 := trivial
  refine At.v rfl rfl rfl rfl rfl trivial ?_
  clear stop57
  refine At.cq rfl rfl rfl rfl rfl rfl rfl rfl (s57 L _ (ss := ss) rfl hS.a hsl) ?_; refine At.cp rfl rfl rfl rfl rfl fun b26 h26 => ?_; refine At.v rfl rfl rfl rfl rfl trivial ?_; refine At.regionEnd ?_
  cases b26
  rotate_left
  · refine At.cond rfl ?_
    refine At.seq (At.region ?_)
    subst hL
    refine At.cq rfl rfl rfl rfl rfl rfl rfl rfl (s22 hG.a) ?_; refine At.v rfl rfl rfl rfl rfl trivial ?_; refine At.regionEnd ?_
    exact hLB Tryz.func12 (.inr ⟨_, rfl⟩) rfl (.tmp rfl .nil) (⟨by rfl, rfl⟩)
  have hlk : looksBar ss = 0 := by simpa using h26
  have hf : fitM B = true := h16
  have hz : bookBar B = 0 := by simp [fitM] at hf; exact hf.2.2
  have hg : Cells H 0 0 chkC := hG.g.a hG.sub
  have hb := bounds_of_bar hz
  have hO : Opn H B ⟨pa, pc, ma, mc⟩ := ⟨hg, hBk, by omega, by omega⟩
  have hOS : OpS H H B ⟨pa, pc, ma, mc⟩ := ⟨Sub.refl _, hsh, hO⟩
  obtain ⟨hs1, hs6, hss⟩ := looks0 hlk
  have q58 := fun H_ (hO_ : OpS H_ H B ⟨pa, pc, ma, mc⟩) hr_ => s58 (Post := Post) (W₀ := W₀) (a2 := a) (n := ss.length) (cap2 := cap) (ss := ss) hO_ rfl hr_ hsl
  have q52 := fun (s : R2) H_ (hO_ : OpS H_ H B ⟨pa, pc, ma, mc⟩) => s52 (Post := Post) (W₀ := W₀) (s := s) hO_
  simp only [hL] at q58 q52
  have n0 := needs_none hz hlk
  have n1 := needs_short hz hlk
  have n2 := needs_full hz hlk
  generalize needsM B ss = nm at q58 n0 n1 n2
  have stop58 := trivial
  refine At.cond rfl ?_; refine At.skip (At.seq (At.region ?_)); refine At.ld 0 rfl rfl rfl rfl rfl rfl rfl rfl rfl ?_; refine At.v rfl rfl rfl rfl rfl trivial ?_
  clear stop58
  refine At.cq rfl rfl rfl rfl rfl rfl rfl rfl (q58 _ hOS.a hS.a) ?_; (iterate 3 refine At.v rfl rfl rfl rfl rfl trivial ?_); refine At.al rfl rfl rfl rfl rfl fun r5 => ?_; refine At.st 0 rfl rfl rfl rfl rfl rfl rfl rfl rfl rfl rfl rfl ?_; refine At.v rfl rfl rfl rfl rfl trivial ?_; refine At.regionEnd (At.seq (At.region ?_)); (iterate 3 refine At.v rfl rfl rfl rfl rfl trivial ?_); refine At.regionEnd (At.seq (At.seq (At.region ?_))); refine At.v rfl rfl rfl rfl rfl trivial ?_
  refine At.regionEnd ?_; refine At.block ?_
  refine At.lpk (X := { x : Nat × Bool × Bool × Bool // x.1 ≤ ss.length ∧ ((statesM B).length = 0 → x.1 = 0) ∧ x.2.1 = anyR B nm.1.1 (ss.take x.1) ∧ x.2.2.1 = anyR B nm.1.2 (ss.take x.1) ∧ x.2.2.2 = (ss.take x.1).any (mayS B) }) [1, 2, 5, 6] (fun x => [(10, .int .i64 (x.1.1 : Int)), (7, .bool x.1.2.1), (8, .bool x.1.2.2.1), (9, .bool x.1.2.2.2)]) (fun x => .own r5 (.cells (List.toArray (c2 nm.1)) 24 (0, 0)) :: .own r2 (.cells (List.toArray (bkC B ⟨pa, pc, ma, mc⟩)) 27 (0, 0)) :: H) (fun x => ss.length - x.1.1) (⟨(0, false, false, false), Nat.zero_le _, fun _ => rfl, rfl, rfl, rfl⟩) rfl ?_ (by repeat (first | exact trivial | refine ⟨rfl, ?_⟩)) sb
  rintro ⟨⟨j, lo, hi, sh⟩, hj, hj0, hlo, hhi, hsh'⟩ again
  simp only at again hj hj0 hlo hhi hsh' ⊢
  refine At.seq (At.seq (At.region ?_)); (iterate 2 refine At.v rfl rfl rfl rfl rfl trivial ?_); refine At.ln rfl rfl rfl rfl rfl rfl rfl rfl ?_; refine At.cp rfl rfl rfl rfl rfl fun b38 h38 => ?_; refine At.regionEnd ?_
  cases b38
  · have e : j = ss.length := by simp at h38; omega
    subst e
    rw [List.take_length] at hlo hhi hsh'
    have hne : (statesM B).length ≠ 0 := fun h => by have := hj0 h; omega
    cases sh
    · have hfull := n2 hne (fun s hs => by
        have h1 : mayS B s = false := by
          have := hsh'.symm
          rw [List.any_eq_false] at this
          simpa using this s hs
        exact (word_no hne).1 (by simpa [mayS] using h1))
      obtain ⟨f1, -, f3, f4⟩ := hfull
      have el : lo = true := by rw [hlo]; unfold anyR; rw [List.any_eq_true]; obtain ⟨s, hs, h1⟩ := f3; exact ⟨s, hs, by simp [h1]⟩
      have eh : hi = true := by rw [hhi]; unfold anyR; rw [List.any_eq_true]; obtain ⟨s, hs, h1⟩ := f4; exact ⟨s, hs, by simp [h1]⟩
      subst el eh
      refine At.cond rfl ?_; refine At.exit rfl ?_; refine At.seq (At.seq (At.region ?_)); refine At.v rfl rfl rfl rfl rfl trivial ?_; refine At.regionEnd ?_; refine At.cond rfl ?_; refine At.skip (At.seq (At.region ?_)); refine At.v rfl rfl rfl rfl rfl trivial ?_; refine At.cp rfl rfl rfl rfl rfl fun b124 h124 => ?_; refine At.v rfl rfl rfl rfl rfl trivial ?_
      obtain rfl : b124 = true := by rw [← h124]; simp [f1]
      (iterate 6 refine At.v rfl rfl rfl rfl rfl trivial ?_)
      subst hL
      refine At.cq rfl rfl rfl rfl rfl rfl rfl rfl (s22 hG.a) ?_; (iterate 2 refine At.v rfl rfl rfl rfl rfl trivial ?_); refine At.regionEnd ?_
      exact hLB Tryz.func12 (.inr ⟨_, rfl⟩) rfl (.tmp rfl .nil) (⟨by rfl, rfl⟩)
    · have hshort := n1 hne (by
        have h1 := hsh'.symm
        rw [List.any_eq_true] at h1
        obtain ⟨s, hs, h1⟩ := h1
        refine ⟨s, hs, ?_⟩
        simp only [mayS, decide_eq_true_eq] at h1
        exact Classical.not_not.1 fun h2 => h1 ((word_no hne).2 h2))
      subst hshort
      refine At.cond rfl ?_; refine At.exit rfl ?_; refine At.seq (At.seq (At.region ?_)); refine At.v rfl rfl rfl rfl rfl trivial ?_; refine At.regionEnd ?_; refine At.cond rfl ?_; refine At.seq (At.region ?_); refine At.v rfl rfl rfl rfl rfl trivial ?_; refine At.cp rfl rfl rfl rfl rfl fun b114 h114 => ?_; refine At.v rfl rfl rfl rfl rfl trivial ?_
      obtain rfl : b114 = true := h114.symm.trans (by kernel_rfl)
      refine At.ld 0 rfl rfl rfl rfl rfl rfl rfl rfl rfl ?_; refine At.q rfl rfl rfl rfl (q_build rfl rfl rfl) ?_; refine At.qb rfl rfl rfl rfl (q_eqS rfl rfl rfl rfl rfl rfl rfl rfl) fun b118 h118 => ?_; (iterate 2 refine At.v rfl rfl rfl rfl rfl trivial ?_)
      obtain rfl : b118 = true := h118.symm.trans (by kernel_rfl)
      subst hL
      refine At.cq rfl rfl rfl rfl rfl rfl rfl rfl (s22 hG.a) ?_; (iterate 2 refine At.v rfl rfl rfl rfl rfl trivial ?_); refine At.regionEnd ?_
      exact hLB Tryz.func12 (.inr ⟨_, rfl⟩) rfl (.tmp rfl .nil) (⟨by rfl, rfl⟩)
  · have hlt : j < ss.length := by simp at h38; omega
    obtain ⟨b, off, rfl, hcj⟩ := hS.el (List.getElem?_eq_getElem hlt)
    have hsj := hss _ (List.getElem_mem hlt)
    have q52j := q52 ss[j]
    have hkb : knownBar B [slopeBar ss[j].1 ss[j].2] = if (statesM B).length = 0 then 9 else 0 := by
      unfold knownBar
      rw [lookBar1 hz, firstBar1, hsj]
      rfl
    have a1 : anyR B nm.1.1 (ss.take (j + 1)) = (anyR B nm.1.1 (ss.take j) || decide (nm.1.1 ∈ rowsM B ss[j])) := any_snoc hlt
    have a2 : anyR B nm.1.2 (ss.take (j + 1)) = (anyR B nm.1.2 (ss.take j) || decide (nm.1.2 ∈ rowsM B ss[j])) := any_snoc hlt
    have a3 : (ss.take (j + 1)).any (mayS B) = ((ss.take j).any (mayS B) || mayS B ss[j]) := any_snoc hlt
    rw [← hlo] at a1
    rw [← hhi] at a2
    rw [← hsh'] at a3
    refine At.cond rfl ?_; refine At.skip (At.seq ?_); refine At.block ?_; refine At.seq ?_; refine At.draw hmix (_) sb ?_
    have stop52 := trivial
    refine Pool.ld 1 0 rfl rfl rfl rfl rfl rfl rfl rfl rfl rfl rfl ?_; refine Pool.v 1 rfl rfl rfl rfl rfl rfl rfl trivial ?_; refine Pool.v 2 rfl rfl rfl rfl rfl rfl rfl trivial ?_; refine Pool.q 3 rfl rfl rfl rfl rfl (q_ia rfl rfl rfl (by assumption)) rfl ?_; refine Pool.ldc 4 rfl rfl rfl rfl rfl rfl rfl hcj.a rfl rfl rfl ?_
    clear stop52
    by_cases hne : (statesM B).length = 0
    · simp only [hkb, if_pos hne, show ¬ (9 : Int) = 0 from by decide, ne_eq, not_false_eq_true, if_true] at q52j
      have e0 := n0 hne
      subst e0
      refine Pool.cl 5 rfl rfl rfl rfl rfl rfl rfl rfl rfl rfl rfl rfl rfl rfl (fun H_ hs_ => q52j H_ hOS.a) sb ?_
      rintro v sf ⟨a', cap', rfl, hsl'⟩
      refine Pool.v 6 rfl rfl rfl rfl rfl rfl rfl trivial ?_; refine Pool.v 7 rfl rfl rfl rfl rfl rfl rfl trivial ?_; refine Pool.v 8 rfl rfl rfl rfl rfl rfl rfl trivial ?_; refine Pool.v 9 rfl rfl rfl rfl rfl rfl rfl trivial ?_; refine Pool.v 10 rfl rfl rfl rfl rfl rfl rfl trivial ?_; refine Pool.v 11 rfl rfl rfl rfl rfl rfl rfl trivial ?_; refine Pool.v 12 rfl rfl rfl rfl rfl rfl rfl trivial ?_; refine pool_done rfl rfl ?_; refine At.regionEnd (At.seq (At.seq (At.region ?_)))
      refine At.v rfl rfl rfl rfl rfl trivial ?_; refine At.cp rfl rfl rfl rfl rfl fun b52 h52 => ?_; refine At.regionEnd ?_; refine At.back ?_
      obtain rfl : b52 = true := h52.symm.trans (by kernel_rfl)
      refine At.cond rfl ?_; refine At.seq (At.region ?_); refine At.v rfl rfl rfl rfl rfl trivial ?_; refine At.cp rfl rfl rfl rfl rfl fun b54 h54 => ?_; refine At.v rfl rfl rfl rfl rfl trivial ?_
      obtain rfl : b54 = true := h54.symm.trans (by kernel_rfl)
      refine At.v rfl rfl rfl rfl rfl trivial ?_; refine At.cp rfl rfl rfl rfl rfl fun b57 h57 => ?_; (iterate 2 refine At.v rfl rfl rfl rfl rfl trivial ?_)
      obtain rfl : b57 = true := h57.symm.trans (by kernel_rfl)
      refine At.ld 0 rfl rfl rfl rfl rfl rfl rfl rfl rfl ?_; refine At.q rfl rfl rfl rfl (q_build rfl rfl rfl) ?_; refine At.qb rfl rfl rfl rfl (q_eqS rfl rfl rfl rfl rfl rfl rfl rfl) fun b62 h62 => ?_; (iterate 2 refine At.v rfl rfl rfl rfl rfl trivial ?_)
      obtain rfl : b62 = true := h62.symm.trans (by kernel_rfl)
      subst hL
      refine At.cq rfl rfl rfl rfl rfl rfl rfl rfl (s22 hG.a) ?_; (iterate 2 refine At.v rfl rfl rfl rfl rfl trivial ?_); refine At.regionEnd ?_
      exact hLB Tryz.func12 (.inr ⟨_, rfl⟩) rfl (.tmp rfl .nil) (⟨by rfl, rfl⟩)
    · simp only [hkb, if_neg hne, ne_eq, not_true_eq_false, if_false] at q52j
      refine Pool.cl 5 rfl rfl rfl rfl rfl rfl rfl rfl rfl rfl rfl rfl rfl rfl (fun H_ hs_ => q52j H_ hOS.a) sb ?_
      rintro v sf ⟨a', cap', rfl, hsl'⟩
      refine Pool.v 6 rfl rfl rfl rfl rfl rfl rfl trivial ?_; refine Pool.v 7 rfl rfl rfl rfl rfl rfl rfl trivial ?_; refine Pool.v 8 rfl rfl rfl rfl rfl rfl rfl trivial ?_; refine Pool.v 9 rfl rfl rfl rfl rfl rfl rfl trivial ?_; refine Pool.v 10 rfl rfl rfl rfl rfl rfl rfl trivial ?_; refine Pool.v 11 rfl rfl rfl rfl rfl rfl rfl trivial ?_; refine Pool.v 12 rfl rfl rfl rfl rfl rfl rfl trivial ?_; refine pool_done rfl rfl ?_; refine At.regionEnd (At.seq (At.seq (At.region ?_)))
      refine At.v rfl rfl rfl rfl rfl trivial ?_; refine At.cp rfl rfl rfl rfl rfl fun b52 h52 => ?_; refine At.regionEnd ?_; refine At.back ?_
      obtain rfl : b52 = false := h52.symm.trans (by kernel_rfl)
      refine At.cond rfl ?_; refine At.skip (At.seq (At.region ?_)); (iterate 2 refine At.v rfl rfl rfl rfl rfl trivial ?_)
      have hbd : nm.2 = 0 → ∀ r ∈ rowsM B ss[j], nm.1.1 ≤ r ∧ r ≤ nm.1.2 := by
        intro h0
        by_cases hx : ∃ s ∈ ss, (-1 : Int) ∈ rowsOf B s
        · rw [n1 hne hx] at h0; cases h0
        · exact (n2 hne (fun s hs h => hx ⟨s, hs, h⟩)).2.1 _ (List.getElem_mem hlt)
      have hl3 := rowsM_len hz (s := ss[j])
      obtain ⟨_, hrl, _⟩ := hsl'.rd
      refine At.cutk (X := Unit) [1, 2, 5, 6, 7, 8, 10, 11, 12, 13, 35, 36, 37, 38, 41, 42, 43, 44, 45, 46, 47, 48, 49, 50, 51, 52] (fun _ => [(9, .bool (sh || mayS B ss[j]))]) (fun _ => .own r5 (.cells (List.toArray (c2 nm.1)) 24 (0, 0)) :: .own r2 (.cells (List.toArray (bkC B ⟨pa, pc, ma, mc⟩)) 27 (0, 0)) :: (sf ++ H)) rfl ?_ fun key => ?_
      rotate_left
      · cases sh
        · refine At.v rfl rfl rfl rfl rfl trivial ?_
          refine At.cp rfl rfl rfl rfl rfl fun b70 h70 => ?_; (iterate 2 refine At.v rfl rfl rfl rfl rfl trivial ?_); refine At.regionEnd ?_
          subst h70
          refine At.tA ((key ()))
        · refine At.un rfl rfl rfl rfl ?_
          refine At.un rfl rfl rfl rfl ?_; (iterate 2 refine At.v rfl rfl rfl rfl rfl trivial ?_); refine At.regionEnd ?_
          refine At.tA ((key ()))
      rintro ⟨⟩
      generalize rowsM B ss[j] = l at a1 a2 hbd hl3 hrl ⊢
      refine At.seq (At.region ?_); refine At.v rfl rfl rfl rfl rfl trivial ?_; refine At.regionEnd ?_; refine At.block ?_
      refine At.lpk (X := { y : Nat × Bool × Bool // y.1 ≤ l.length ∧ y.2.1 = (lo || (l.take y.1).any fun r => decide (r = nm.1.1)) ∧ y.2.2 = (hi || (l.take y.1).any fun r => decide (r = nm.1.2)) }) [1, 2, 5, 6, 9, 10, 11, 12, 13, 35, 36, 37, 38, 41, 42, 43, 44, 45, 46, 47, 48, 49, 50, 51, 52] (fun y => [(14, .int .i64 (y.1.1 : Int)), (7, .bool y.1.2.1), (8, .bool y.1.2.2)]) (fun _ => .own r5 (.cells (List.toArray (c2 nm.1)) 24 (0, 0)) :: .own r2 (.cells (List.toArray (bkC B ⟨pa, pc, ma, mc⟩)) 27 (0, 0)) :: (sf ++ H)) (fun y => l.length - y.1.1) (⟨(0, lo, hi), Nat.zero_le _, by simp, by simp⟩) rfl ?_ (by repeat (first | exact trivial | refine ⟨rfl, ?_⟩)) sb
      rintro ⟨⟨k, lo', hi'⟩, hk, hlo', hhi'⟩ again2
      simp only at again2 hk hlo' hhi' ⊢
      refine At.seq (At.seq (At.region ?_)); (iterate 2 refine At.v rfl rfl rfl rfl rfl trivial ?_); refine At.ln rfl rfl rfl rfl rfl rfl rfl rfl ?_; refine At.cp rfl rfl rfl rfl rfl fun b75 h75 => ?_; refine At.regionEnd ?_
      cases b75
      · have e : k = l.length := by simp at h75; omega
        subst e
        rw [List.take_length] at hlo' hhi'
        have m1 : (l.any fun r => decide (r = nm.1.1)) = decide (nm.1.1 ∈ l) := by rw [Bool.eq_iff_iff]; simp
        have m2 : (l.any fun r => decide (r = nm.1.2)) = decide (nm.1.2 ∈ l) := by rw [Bool.eq_iff_iff]; simp
        rw [m1] at hlo'
        rw [m2] at hhi'
        have ag := again ⟨(j + 1, lo', hi', sh || mayS B ss[j]), hlt, fun h => absurd h hne, by rw [a1]; exact hlo', by rw [a2]; exact hhi', by rw [a3]⟩ (by simp; omega)
        refine At.cond rfl ?_; refine At.exit rfl ?_; refine At.inBlock ?_; refine At.region ?_; refine At.v rfl rfl rfl rfl rfl trivial ?_; refine At.v rfl rfl rfl rfl rfl (by omega) ?_; refine At.v rfl rfl rfl rfl rfl trivial ?_; refine At.regionEnd ?_
        refine At.tA (ag)
      · have hlk : k < l.length := by simp at h75; omega
        obtain ⟨b', off', rfl, hck⟩ := hrl.el (List.getElem?_eq_getElem hlk)
        have s1 : ((l.take (k + 1)).any fun r => decide (r = nm.1.1)) = (((l.take k).any fun r => decide (r = nm.1.1)) || decide (l[k] = nm.1.1)) := any_snoc hlk
        have s2 : ((l.take (k + 1)).any fun r => decide (r = nm.1.2)) = (((l.take k).any fun r => decide (r = nm.1.2)) || decide (l[k] = nm.1.2)) := any_snoc hlk
        have ag := again2 ⟨(k + 1, lo' || decide (l[k] = nm.1.1), hi' || decide (l[k] = nm.1.2)), hlk, by rw [s1, ← Bool.or_assoc, ← hlo'], by rw [s2, ← Bool.or_assoc, ← hhi']⟩ (by simp; omega)
        simp only at ag
        have hin := fun h0 => hbd h0 _ (List.getElem_mem hlk)
        clear hlo' hhi' again2 s1 s2
        generalize l[k] = x at hck ag hin
        have stopDraw := trivial
        refine At.cond rfl ?_; refine At.skip (At.seq ?_); refine At.block ?_; refine At.seq (At.seq ?_)
        clear stopDraw
        refine At.cutk (X := Unit) [1, 2, 5, 6, 7, 8, 9, 10, 11, 12, 13, 14, 35, 36, 37, 38, 41, 42, 43, 44, 45, 46, 47, 48, 49, 50, 51, 52, 72, 73, 74, 75] (fun _ => [(91, .bool false)]) (fun _ => .own r5 (.cells (List.toArray (c2 nm.1)) 24 (0, 0)) :: .own r2 (.cells (List.toArray (bkC B ⟨pa, pc, ma, mc⟩)) 27 (0, 0)) :: (sf ++ H)) rfl ?_ fun key => ?_
        · rintro ⟨⟩
          cases lo'
          · cases hi'
            · refine At.cond rfl ?_
              refine At.skip ?_; refine At.drawJ hmix [] rfl ?_; refine Pool.v 0 rfl rfl rfl rfl rfl rfl rfl trivial ?_; refine Pool.v 1 rfl rfl rfl rfl rfl rfl rfl trivial ?_; refine Pool.v 2 rfl rfl rfl rfl rfl rfl rfl trivial ?_; refine Pool.v 3 rfl rfl rfl rfl rfl rfl rfl trivial ?_; refine Pool.q 4 rfl rfl rfl rfl rfl (q_ia rfl rfl rfl (by assumption)) rfl ?_; refine Pool.ldc 5 rfl rfl rfl rfl rfl rfl rfl hck.a rfl rfl rfl ?_; refine Pool.fa 0 6 rfl rfl rfl rfl rfl rfl rfl rfl rfl ?_
              refine Pool.ld 0 7 rfl rfl rfl rfl rfl rfl rfl rfl rfl rfl rfl ?_; refine Pool.cp 8 rfl rfl rfl rfl rfl rfl rfl fun b100 h100 => ?_; refine Pool.v 9 rfl rfl rfl rfl rfl rfl rfl trivial ?_; refine Pool.v 10 rfl rfl rfl rfl rfl rfl rfl trivial ?_; refine Pool.v 11 rfl rfl rfl rfl rfl rfl rfl trivial ?_; refine Pool.v 12 rfl rfl rfl rfl rfl rfl rfl trivial ?_; refine Pool.v 13 rfl rfl rfl rfl rfl rfl rfl trivial ?_; refine Pool.q 14 rfl rfl rfl rfl rfl (q_ia rfl rfl rfl (by assumption)) rfl ?_
              refine Pool.ldc 15 rfl rfl rfl rfl rfl rfl rfl hck.a rfl rfl rfl ?_; refine Pool.fa 1 16 rfl rfl rfl rfl rfl rfl rfl rfl rfl ?_; refine Pool.ld 0 17 rfl rfl rfl rfl rfl rfl rfl rfl rfl rfl rfl ?_; refine Pool.cp 18 rfl rfl rfl rfl rfl rfl rfl fun b110 h110 => ?_; refine Pool.v 19 rfl rfl rfl rfl rfl rfl rfl trivial ?_; refine Pool.v 20 rfl rfl rfl rfl rfl rfl rfl trivial ?_; refine Pool.v 21 rfl rfl rfl rfl rfl rfl rfl trivial ?_; refine pool_done rfl rfl ?_; refine At.regionEnd ?_
              refine At.inBlock ?_; refine At.region ?_; refine At.v rfl rfl rfl rfl rfl trivial ?_; refine At.v rfl rfl rfl rfl rfl (by omega) ?_; refine At.v rfl rfl rfl rfl rfl trivial ?_; refine At.regionEnd ?_
              subst h100 h110
              refine At.tA (ag)
            · refine At.cond rfl ?_
              refine At.skip ?_; refine At.drawJ hmix [] rfl ?_; refine Pool.v 0 rfl rfl rfl rfl rfl rfl rfl trivial ?_; refine Pool.v 1 rfl rfl rfl rfl rfl rfl rfl trivial ?_; refine Pool.v 2 rfl rfl rfl rfl rfl rfl rfl trivial ?_; refine Pool.v 3 rfl rfl rfl rfl rfl rfl rfl trivial ?_; refine Pool.q 4 rfl rfl rfl rfl rfl (q_ia rfl rfl rfl (by assumption)) rfl ?_; refine Pool.ldc 5 rfl rfl rfl rfl rfl rfl rfl hck.a rfl rfl rfl ?_; refine Pool.fa 0 6 rfl rfl rfl rfl rfl rfl rfl rfl rfl ?_
              refine Pool.ld 0 7 rfl rfl rfl rfl rfl rfl rfl rfl rfl rfl rfl ?_; refine Pool.cp 8 rfl rfl rfl rfl rfl rfl rfl fun b100 h100 => ?_; refine Pool.v 9 rfl rfl rfl rfl rfl rfl rfl trivial ?_; refine Pool.v 10 rfl rfl rfl rfl rfl rfl rfl trivial ?_; refine Pool.v 11 rfl rfl rfl rfl rfl rfl rfl trivial ?_; refine Pool.un 12 rfl rfl rfl rfl rfl rfl ?_; refine Pool.un 13 rfl rfl rfl rfl rfl rfl ?_; refine Pool.un 14 rfl rfl rfl rfl rfl rfl ?_; refine Pool.un 15 rfl rfl rfl rfl rfl rfl ?_
              refine Pool.un 16 rfl rfl rfl rfl rfl rfl ?_; refine Pool.un 17 rfl rfl rfl rfl rfl rfl ?_; refine Pool.un 18 rfl rfl rfl rfl rfl rfl ?_; refine Pool.v 19 rfl rfl rfl rfl rfl rfl rfl trivial ?_; refine Pool.v 20 rfl rfl rfl rfl rfl rfl rfl trivial ?_; refine Pool.v 21 rfl rfl rfl rfl rfl rfl rfl trivial ?_; refine pool_done rfl rfl ?_; refine At.regionEnd ?_; refine At.inBlock ?_; refine At.region ?_; refine At.v rfl rfl rfl rfl rfl trivial ?_; refine At.v rfl rfl rfl rfl rfl (by omega) ?_
              refine At.v rfl rfl rfl rfl rfl trivial ?_; refine At.regionEnd ?_
              subst h100
              refine At.tA (ag)
          · cases hi'
            · refine At.cond rfl ?_
              refine At.skip ?_; refine At.drawJ hmix [] rfl ?_; refine Pool.v 0 rfl rfl rfl rfl rfl rfl rfl trivial ?_; refine Pool.v 1 rfl rfl rfl rfl rfl rfl rfl trivial ?_; refine Pool.un 2 rfl rfl rfl rfl rfl rfl ?_; refine Pool.un 3 rfl rfl rfl rfl rfl rfl ?_; refine Pool.un 4 rfl rfl rfl rfl rfl rfl ?_; refine Pool.un 5 rfl rfl rfl rfl rfl rfl ?_; refine Pool.un 6 rfl rfl rfl rfl rfl rfl ?_; refine Pool.un 7 rfl rfl rfl rfl rfl rfl ?_; refine Pool.un 8 rfl rfl rfl rfl rfl rfl ?_
              refine Pool.v 9 rfl rfl rfl rfl rfl rfl rfl trivial ?_; refine Pool.v 10 rfl rfl rfl rfl rfl rfl rfl trivial ?_; refine Pool.v 11 rfl rfl rfl rfl rfl rfl rfl trivial ?_; refine Pool.v 12 rfl rfl rfl rfl rfl rfl rfl trivial ?_; refine Pool.v 13 rfl rfl rfl rfl rfl rfl rfl trivial ?_; refine Pool.q 14 rfl rfl rfl rfl rfl (q_ia rfl rfl rfl (by assumption)) rfl ?_; refine Pool.ldc 15 rfl rfl rfl rfl rfl rfl rfl hck.a rfl rfl rfl ?_; refine Pool.fa 1 16 rfl rfl rfl rfl rfl rfl rfl rfl rfl ?_
              refine Pool.ld 0 17 rfl rfl rfl rfl rfl rfl rfl rfl rfl rfl rfl ?_; refine Pool.cp 18 rfl rfl rfl rfl rfl rfl rfl fun b110 h110 => ?_; refine Pool.v 19 rfl rfl rfl rfl rfl rfl rfl trivial ?_; refine Pool.v 20 rfl rfl rfl rfl rfl rfl rfl trivial ?_; refine Pool.v 21 rfl rfl rfl rfl rfl rfl rfl trivial ?_; refine pool_done rfl rfl ?_; refine At.regionEnd ?_; refine At.inBlock ?_; refine At.region ?_; refine At.v rfl rfl rfl rfl rfl trivial ?_; refine At.v rfl rfl rfl rfl rfl (by omega) ?_
              refine At.v rfl rfl rfl rfl rfl trivial ?_; refine At.regionEnd ?_
              subst h110
              refine At.tA (ag)
            · refine At.cond rfl ?_
              refine At.skip ?_; refine At.drawJ hmix [] rfl ?_; refine Pool.v 0 rfl rfl rfl rfl rfl rfl rfl trivial ?_; refine Pool.v 1 rfl rfl rfl rfl rfl rfl rfl trivial ?_; refine Pool.un 2 rfl rfl rfl rfl rfl rfl ?_; refine Pool.un 3 rfl rfl rfl rfl rfl rfl ?_; refine Pool.un 4 rfl rfl rfl rfl rfl rfl ?_; refine Pool.un 5 rfl rfl rfl rfl rfl rfl ?_; refine Pool.un 6 rfl rfl rfl rfl rfl rfl ?_; refine Pool.un 7 rfl rfl rfl rfl rfl rfl ?_; refine Pool.un 8 rfl rfl rfl rfl rfl rfl ?_
              refine Pool.v 9 rfl rfl rfl rfl rfl rfl rfl trivial ?_; refine Pool.v 10 rfl rfl rfl rfl rfl rfl rfl trivial ?_; refine Pool.v 11 rfl rfl rfl rfl rfl rfl rfl trivial ?_; refine Pool.un 12 rfl rfl rfl rfl rfl rfl ?_; refine Pool.un 13 rfl rfl rfl rfl rfl rfl ?_; refine Pool.un 14 rfl rfl rfl rfl rfl rfl ?_; refine Pool.un 15 rfl rfl rfl rfl rfl rfl ?_; refine Pool.un 16 rfl rfl rfl rfl rfl rfl ?_; refine Pool.un 17 rfl rfl rfl rfl rfl rfl ?_; refine Pool.un 18 rfl rfl rfl rfl rfl rfl ?_
              refine Pool.v 19 rfl rfl rfl rfl rfl rfl rfl trivial ?_; refine Pool.v 20 rfl rfl rfl rfl rfl rfl rfl trivial ?_; refine Pool.v 21 rfl rfl rfl rfl rfl rfl rfl trivial ?_; refine pool_done rfl rfl ?_; refine At.regionEnd ?_; refine At.inBlock ?_; refine At.region ?_; refine At.v rfl rfl rfl rfl rfl trivial ?_; refine At.v rfl rfl rfl rfl rfl (by omega) ?_; refine At.v rfl rfl rfl rfl rfl trivial ?_; refine At.regionEnd ?_
              refine At.tA (ag)
        · refine At.drawJ hmix [] rfl ?_
          refine Pool.v 0 rfl rfl rfl rfl rfl rfl rfl trivial ?_; refine Pool.cp 1 rfl rfl rfl rfl rfl rfl rfl fun b79 h79 => ?_; refine Pool.v 2 rfl rfl rfl rfl rfl rfl rfl trivial ?_
          cases b79
          · refine Pool.un 3 rfl rfl rfl rfl rfl rfl ?_
            refine Pool.un 4 rfl rfl rfl rfl rfl rfl ?_; refine Pool.un 5 rfl rfl rfl rfl rfl rfl ?_; refine Pool.un 6 rfl rfl rfl rfl rfl rfl ?_; refine Pool.un 7 rfl rfl rfl rfl rfl rfl ?_; refine Pool.un 8 rfl rfl rfl rfl rfl rfl ?_; refine Pool.un 9 rfl rfl rfl rfl rfl rfl ?_; refine Pool.un 10 rfl rfl rfl rfl rfl rfl ?_; refine Pool.un 11 rfl rfl rfl rfl rfl rfl ?_; refine Pool.un 12 rfl rfl rfl rfl rfl rfl ?_; refine Pool.v 13 rfl rfl rfl rfl rfl rfl rfl trivial ?_; refine pool_done rfl rfl ?_
            refine At.regionEnd ?_
            refine At.tA ((key ()))
          · have e0 : nm.2 = 0 := by simpa using h79
            have e1 := hin e0
            refine Pool.v 3 rfl rfl rfl rfl rfl rfl rfl trivial ?_; refine Pool.v 4 rfl rfl rfl rfl rfl rfl rfl trivial ?_; refine Pool.q 5 rfl rfl rfl rfl rfl (q_ia rfl rfl rfl (by assumption)) rfl ?_; refine Pool.ldc 6 rfl rfl rfl rfl rfl rfl rfl hck.a rfl rfl rfl ?_; refine Pool.fa 0 7 rfl rfl rfl rfl rfl rfl rfl rfl rfl ?_; refine Pool.ld 0 8 rfl rfl rfl rfl rfl rfl rfl rfl rfl rfl rfl ?_; refine Pool.fa 1 9 rfl rfl rfl rfl rfl rfl rfl rfl rfl ?_
            refine Pool.ld 0 10 rfl rfl rfl rfl rfl rfl rfl rfl rfl rfl rfl ?_; refine Pool.cqb 11 rfl rfl rfl rfl rfl rfl rfl rfl rfl (fun H hs => s43 L H) fun b89 h89 => ?_; refine Pool.v 12 rfl rfl rfl rfl rfl rfl rfl trivial ?_; refine Pool.v 13 rfl rfl rfl rfl rfl rfl rfl trivial ?_; refine pool_done rfl rfl ?_; refine At.regionEnd ?_
            obtain rfl : b89 = true := by rw [← h89]; simp [e1]
            skip
            refine At.tA ((key ()))
end Go.Gx
end

section
set_option linter.unusedSimpArgs false
set_option linter.unusedVariables false
namespace Go.Gx
open Go Go.Conc Go.Proofs Go.ChangeShapes Go.RowKit YtokdmiiejfmomaaGreatDoor
set_option maxRecDepth 100000
theorem ip12 : Tryz.prog.inPlace 12 = [] := by kernel_rfl
theorem uf12 : Tryz.prog.unfollowed 12 = true := by kernel_rfl
theorem rc12 : Tryz.prog.recurses 12 = true := by kernel_rfl
theorem vn12 : Tryz.prog.varsNamed 12 = ["velarium/canvas.checks"] := by kernel_rfl
theorem closed12 : joinedFacts Tryz.prog 12 Tryz.f12 Rows.canvasNeededSpec Rows.canvasNeededRow = true := by
  unfold joinedFacts
  rewrite [ip12, uf12, rc12, vn12, enter1, lf1, make1]
  kernel_rfl
theorem fnm12 : Tryz.prog.funcNamed "velarium/velariumlaw02.CanvasNeeded" = some 12 := by kernel_rfl
theorem inst12 : Tryz.f12.isInstance Tryz.prog Rows.canvasNeededRow.origin Rows.canvasNeededRow.targs := of_decide_eq_true (by kernel_rfl)
theorem wrap12 : Tryz.f12.isWrapper Tryz.prog Rows.canvasNeededRow.wrapper Rows.canvasNeededRow.mainSum := by unfold Func.isWrapper; first | (rw [if_pos (by decide +kernel)]; kernel_rfl) | (rw [if_neg (by decide +kernel)]; exact ⟨rfl, rfl⟩)
theorem goes12 : Tryz.prog.goes 12 = true := by kernel_rfl
theorem wbt12 : Rows.canvasNeededRow.wfByText (OpenSpec.ofChange Rows.canvasNeededSpec) = true := by kernel_rfl
theorem wants12 : (Tryz.f12.params.toList.all fun t => !Tryz.prog.wantsStandIn t) = true := by kernel_rfl
theorem lifted12 (os : Os) (started : os.Started) (H : Type) (enc : TypeId × Value → H) :
    ReturnsInLeavingWide {} Tryz.checked os 12 .any (fun w args => (Rows.canvasNeededSpec.pre enc Tryz.prog Tryz.f12 [] false w args ∧ laidMetH Tryz.prog laid1 w) ∧ sizedMet enc Tryz.prog Tryz.f12 (OpenSpec.ofChange Rows.canvasNeededSpec) false w args) (Rows.canvasNeededSpec.post enc Tryz.prog Tryz.f12 false true false false) := by
  refine law_lift Tryz.func12 (by kernel_rfl) rfl rfl (by kernel_rfl) os started H enc #[.agg #[.slice none 0 0, .int .i64 0, .int .i64 0, .int .i64 0, .slice none 0 0], .slice none 0 0]
    (World.shaped_of_RefB (by kernel_rfl) (by kernel_rfl)) (by kernel_rfl) (by kernel_rfl) (by kernel_rfl) ?_
  intro W base args ds ps hval hA
  rw [Tryz.params12] at hval hA
  obtain ⟨v0, vs0, d0, ds0, p0, q0, e0, rfl, rfl, h0, hA⟩ := trodAll_cons hA
  obtain ⟨v1, vs1, d1, ds1, p1, q1, rfl, rfl, rfl, h1, hA⟩ := trodAll_cons hA
  obtain ⟨rfl, rfl, rfl⟩ := trodAll_nil hA
  obtain rfl : args = #[v0, v1] := Array.toList_inj.1 e0
  obtain ⟨B0, A0, Hs0, rfl, hsh0, hb0⟩ := open_book (hval 0 27 _ rfl rfl) h0
  obtain ⟨a1, ys1, cap1, Hs1, rfl, hsh1, hb1⟩ := open_slopes (hval 1 45 _ rfl rfl) h1
  exact ⟨rfl, (Hs0 ++ Hs1), (hsh0.app hsh1), fun Post => law12 (hsh0.app hsh1).glo (hsh0.app hsh1).ro (hb0.a ((Sub.pre _ _).trans (Sub.append_left _ _))) (hb1.a ((Sub.append_left _ _).trans (Sub.append_left _ _)))⟩
theorem said12 : Rows.CanvasNeededSaid :=
  OpenClaim.holds_of_wide_leaving 12 Tryz.f12 rfl rfl rfl rfl rfl rfl rfl ⟨rfl, rfl, rfl, rfl, rfl⟩ rfl rfl rfl rfl rfl fnm12 Tryz.func12 closed12 inst12 wrap12
    (fun os started H enc _ => lifted12 os started H enc)
theorem card12 : Rows.CanvasNeededCardSaid :=
  ⟨Claim7.tied_new_at .later [.funcs] true (Claim7.new_of_sixth said12 (true, "2aeeda9e0b315eb022070bc88bc80a554dcd329f773ad53586088327a2b29430") false rfl ⟨rfl, rfl⟩ mi1 rfl
    (fun f fn hf hfn => by
      obtain rfl : f = 12 := Option.some.inj (hf.symm.trans fnm12)
      obtain rfl : fn = Tryz.f12 := Option.some.inj (hfn.symm.trans Tryz.func12)
      exact ⟨looks1.symm, wants_of wants12⟩)) wbt12, (fun _ h => by cases h), canvasNeeded_row_tie, (fun h => by cases h), goes_of fnm12 goes12⟩
end Go.Gx
namespace Go.Proofs.YtokdmiiejfmomaaGreatDoor
/-- THE CARD OF CanvasNeeded. -/
theorem canvasNeeded_card : Rows.CanvasNeededCardSaid := Go.Gx.card12
#print axioms canvasNeeded_card
end Go.Proofs.YtokdmiiejfmomaaGreatDoor
end
