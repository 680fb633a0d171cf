/-
  Clash, Ask, Mark and Stand answer as the specification does: CanvasNews holds.
-/
import Derived.Test.YtokdmiiejfmomaaGreatDoorU18x6
import Derived.SevenTiedAt
section
set_option linter.unusedSimpArgs false
set_option linter.unusedVariables false
namespace Go.Gx
open Go Go.Conc Go.Proofs
variable {main : Bool}

set_option maxRecDepth 100000 in
set_option maxHeartbeats 4000000 in
/-- Right (ref02) -/
theorem s137 (L : Lg Tryz.prog main) (H : Facts) {B : Bk} {A : BkA} {eye : Int} (hB : BkR H B A) (hz : bookBar B = 0) : Pure L 137 #[bkV B A, .int .i64 eye] H (.bool (decide (B.lo ≤ eye ∧ eye ≤ B.hi) && rightM B eye)) := by
  refine Spec.enter Tryz.func137 rfl (by simp [Tryz.f137]) fun c cs hc => ?_
  have hb := bounds_of_bar hz
  have hrm := hB.m
  refine At.seq (At.region ?_); refine At.bx rfl rfl rfl rfl rfl rfl rfl fun r2 => ?_; refine At.v rfl rfl rfl rfl rfl trivial ?_; refine At.regionEnd (At.seq (At.seq (At.region ?_))); refine At.v rfl rfl rfl rfl rfl trivial ?_; (iterate 2 refine At.fa 2 rfl rfl rfl rfl rfl rfl rfl ?_); refine At.ld 0 rfl rfl rfl rfl rfl rfl rfl rfl rfl ?_; refine At.fa 2 rfl rfl rfl rfl rfl rfl rfl ?_; refine At.fa 3 rfl rfl rfl rfl rfl rfl rfl ?_; refine At.ld 0 rfl rfl rfl rfl rfl rfl rfl rfl rfl ?_
  refine At.cqb rfl rfl rfl rfl rfl rfl rfl rfl (s43 L _) fun b13 h13 => ?_; refine At.v rfl rfl rfl rfl rfl trivial ?_; refine At.regionEnd ?_
  cases b13
  · have e : ¬ (B.lo ≤ eye ∧ eye ≤ B.hi) := by simpa using h13
    simp only [e, decide_false, Bool.false_and] at hc
    refine At.cond rfl ?_; refine At.seq (At.region ?_); refine At.v rfl rfl rfl rfl rfl trivial ?_; refine At.regionEnd ?_
    exact At.ret Tryz.func137 (.inr ⟨_, rfl⟩) rfl (.tmp rfl .nil) (wk (hc _ _ (⟨by rfl, rfl⟩)))
  · have e : B.lo ≤ eye ∧ eye ≤ B.hi := by simpa using h13
    have he : EyeOk eye := by unfold EyeOk; omega
    simp only [e, and_self, decide_true, Bool.true_and] at hc
    refine At.cond rfl ?_; refine At.skip (At.seq (At.seq (At.region ?_))); refine At.v rfl rfl rfl rfl rfl trivial ?_; refine At.regionEnd ?_; refine At.block ?_
    refine At.lpk (X := { j : Nat // j ≤ B.marks.length ∧ (B.marks.drop j).all (fun m => decide (rowM B eye m.1 = m.2)) = rightM B eye }) [1, 2] (fun x => [(5, .int .i64 (x.1 : Int))]) (fun _ => .own r2 (.cells (List.toArray (bkC B A)) 27 (0, 0)) :: H) (fun x => B.marks.length - x.1) (⟨0, Nat.zero_le _, rfl⟩) rfl ?_ (by repeat (first | exact trivial | refine ⟨rfl, ?_⟩)) sb
    rintro ⟨j, hj, hd⟩ again
    simp only at again ⊢
    refine At.seq (At.seq (At.region ?_)); refine At.v rfl rfl rfl rfl rfl trivial ?_; refine At.fa 4 rfl rfl rfl rfl rfl rfl rfl ?_; refine At.ld 0 rfl rfl rfl rfl rfl rfl rfl rfl rfl ?_; refine At.ln rfl rfl rfl rfl rfl rfl rfl rfl ?_; refine At.cp rfl rfl rfl rfl rfl fun b19 h19 => ?_; refine At.regionEnd ?_
    cases b19
    · have e : j = B.marks.length := by simp at h19; omega
      subst e
      rw [List.drop_length] at hd
      have e2 : rightM B eye = true := hd.symm
      simp only [e2] at hc
      refine At.cond rfl ?_; refine At.exit rfl ?_; refine At.seq (At.region ?_); refine At.v rfl rfl rfl rfl rfl trivial ?_; refine At.regionEnd ?_
      exact At.ret Tryz.func137 (.inr ⟨_, rfl⟩) rfl (.tmp rfl .nil) (wk (hc _ _ (⟨by rfl, rfl⟩)))
    · have hlt : j < B.marks.length := by simp at h19; omega
      obtain ⟨pa, pc, ma, mc⟩ := A
      obtain ⟨b, off, e', hc1⟩ := hrm.el (List.getElem?_eq_getElem hlt)
      simp only at e'
      subst e'
      rw [List.drop_eq_getElem_cons hlt, List.all_cons] at hd
      have hsl := slOk_mark hz (List.getElem_mem hlt)
      refine At.cond rfl ?_; refine At.skip (At.seq ?_); refine At.block ?_; refine At.seq ?_; refine At.drawJ hmix [] rfl ?_; refine Pool.ld 0 0 rfl rfl rfl rfl rfl rfl rfl rfl rfl rfl rfl ?_; refine Pool.v 1 rfl rfl rfl rfl rfl rfl rfl trivial ?_; refine Pool.fa 4 2 rfl rfl rfl rfl rfl rfl rfl rfl rfl ?_; refine Pool.ld 0 3 rfl rfl rfl rfl rfl rfl rfl rfl rfl rfl rfl ?_; refine Pool.v 4 rfl rfl rfl rfl rfl rfl rfl trivial ?_
      refine Pool.q 5 rfl rfl rfl rfl rfl (q_ia rfl rfl rfl (by assumption)) rfl ?_; refine Pool.faE 6 rfl rfl rfl rfl rfl rfl rfl rfl ?_; refine Pool.ldc 7 rfl rfl rfl rfl rfl rfl rfl (hc1.s 0 2 rfl) rfl rfl rfl ?_; refine Pool.cq 8 rfl rfl rfl rfl rfl rfl rfl rfl rfl (fun H hs => s115 L H bs bs bs bs) ?_; refine Pool.fa 4 9 rfl rfl rfl rfl rfl rfl rfl rfl rfl ?_; refine Pool.ld 0 10 rfl rfl rfl rfl rfl rfl rfl rfl rfl rfl rfl ?_; refine Pool.v 11 rfl rfl rfl rfl rfl rfl rfl trivial ?_
      refine Pool.q 12 rfl rfl rfl rfl rfl (q_ia rfl rfl rfl (by assumption)) rfl ?_; refine Pool.faE 13 rfl rfl rfl rfl rfl rfl rfl rfl ?_; refine Pool.ldc 14 rfl rfl rfl rfl rfl rfl rfl (hc1.s 2 1 rfl) rfl rfl rfl ?_; refine Pool.cp 15 rfl rfl rfl rfl rfl rfl rfl fun b37 h37 => ?_; refine pool_done rfl rfl ?_; refine At.regionEnd ?_
      cases b37
      · have e3 : rowM B eye B.marks[j].1 = B.marks[j].2 := by simpa using h37
        simp only [e3, decide_true, Bool.true_and] at hd
        refine At.cond rfl ?_; refine At.skip ?_; refine At.inBlock ?_; refine At.region ?_; refine At.v rfl rfl rfl rfl rfl trivial ?_; refine At.v rfl rfl rfl rfl rfl (by omega) ?_; refine At.v rfl rfl rfl rfl rfl trivial ?_; refine At.regionEnd ?_
        refine At.tA ((again ⟨j + 1, hlt, hd⟩ (by simp; omega)))
      · have e3 : rowM B eye B.marks[j].1 ≠ B.marks[j].2 := by simpa using h37
        have e4 : rightM B eye = false := by rw [← hd]; simp [e3]
        simp only [e4] at hc
        refine At.cond rfl ?_; refine At.seq (At.region ?_); refine At.v rfl rfl rfl rfl rfl trivial ?_; refine At.regionEnd ?_
        exact At.ret Tryz.func137 (.inr ⟨_, rfl⟩) rfl (.tmp rfl .nil) (wk (hc _ _ (⟨by rfl, rfl⟩)))
def statesTo (B : Bk) (j : Nat) : List Int := ((bandL B.lo B.hi).take j).filter (rightM B)
theorem statesTo_succ {B : Bk} {j : Nat} (h : j < (bandL B.lo B.hi).length) : statesTo B (j + 1) = statesTo B j ++ (if rightM B (B.lo + j) then [B.lo + (j : Int)] else []) := by
  unfold statesTo
  rw [List.take_add_one, bandL_get h, List.filter_append]
  congr 1
  simp only [Option.toList, List.filter_cons, List.filter_nil]
theorem statesTo_all {B : Bk} {j : Nat} (h : (bandL B.lo B.hi).length ≤ j) : statesTo B j = statesM B := by
  unfold statesTo statesM
  rw [List.take_of_length_le h]
theorem statesTo_len {B : Bk} {j : Nat} : (statesTo B j).length ≤ j := by
  unfold statesTo
  refine Nat.le_trans (List.length_filter_le _ _) ?_
  rw [List.length_take]
  omega
set_option maxRecDepth 100000 in
set_option maxHeartbeats 4000000 in
/-- StatesOf (ref02) -/
theorem s138 (L : Lg Tryz.prog main) (H : Facts) {B : Bk} {A : BkA} (hB : BkR H B A) (hz : bookBar B = 0) : Grows L 138 #[bkV B A] H (fun v sf => ∃ a cap, v = .slice a (statesM B).length cap ∧ Sl c1 3 (.slice a (statesM B).length cap) (statesM B) sf) := by
  refine Spec.enter Tryz.func138 rfl (by simp [Tryz.f138]) fun c cs hc => ?_
  have hb := bounds_of_bar hz
  have hbl := bandL_len B.lo B.hi
  refine At.seq (At.region ?_); refine At.bx rfl rfl rfl rfl rfl rfl rfl fun r1 => ?_; refine At.v rfl rfl rfl rfl rfl trivial ?_; refine At.regionEnd (At.seq (At.region ?_)); refine At.v rfl rfl rfl rfl rfl trivial ?_; refine At.regionEnd (At.seq (At.seq (At.region ?_))); (iterate 2 refine At.fa 2 rfl rfl rfl rfl rfl rfl rfl ?_); refine At.ld 0 rfl rfl rfl rfl rfl rfl rfl rfl rfl ?_; refine At.v rfl rfl rfl rfl rfl trivial ?_; refine At.regionEnd ?_; refine At.block ?_
  refine At.lpk (X := { x : Nat × Int × Value × Facts // x.1 ≤ (bandL B.lo B.hi).length ∧ x.2.1 = B.lo + (x.1 : Int) ∧ Sl c1 3 x.2.2.1 (statesTo B x.1) x.2.2.2 }) [1, 2] (fun x => [(4, .int .i64 x.1.2.1), (3, x.1.2.2.1)]) (fun x => .own r1 (.cells (List.toArray (bkC B A)) 27 (0, 0)) :: (x.1.2.2.2 ++ H)) (fun x => (bandL B.lo B.hi).length - x.1.1) (⟨(0, B.lo, .slice none 0 0, []), Nat.zero_le _, by simp, Sl.nil⟩) rfl ?_ (by repeat (first | exact trivial | refine ⟨rfl, ?_⟩)) sb
  rintro ⟨⟨j, n, v, sf⟩, hj, hn, hsl⟩ again
  simp only at again hj hn hsl ⊢
  have hlen := statesTo_len (B := B) (j := j)
  refine At.seq (At.seq (At.region ?_)); refine At.v rfl rfl rfl rfl rfl trivial ?_; refine At.fa 2 rfl rfl rfl rfl rfl rfl rfl ?_; refine At.fa 3 rfl rfl rfl rfl rfl rfl rfl ?_; refine At.ld 0 rfl rfl rfl rfl rfl rfl rfl rfl rfl ?_; refine At.cp rfl rfl rfl rfl rfl fun b12 h12 => ?_; refine At.regionEnd ?_
  cases b12
  · have e : ¬ n ≤ B.hi := by simpa using h12
    rw [statesTo_all (by omega)] at hsl
    obtain ⟨a, cap, rfl⟩ := hsl.slice
    refine At.cond rfl ?_; refine At.exit rfl ?_; refine At.seq (At.region ?_); (iterate 2 refine At.v rfl rfl rfl rfl rfl trivial ?_); refine At.regionEnd ?_
    exact At.ret Tryz.func138 (.inr ⟨_, rfl⟩) rfl (.tmp rfl .nil) (wk (hc _ _ (⟨sf, ⟨a, cap, rfl, hsl⟩, rfl⟩)))
  · have e : n ≤ B.hi := by simpa using h12
    have hjl : j < (bandL B.lo B.hi).length := by omega
    have hsc := statesTo_succ hjl
    rw [← hn] at hsc
    refine At.cond rfl ?_; refine At.skip (At.seq ?_); refine At.block ?_; refine At.seq (At.region ?_); refine At.ld 0 rfl rfl rfl rfl rfl rfl rfl rfl rfl ?_; refine At.v rfl rfl rfl rfl rfl trivial ?_; refine At.cqb rfl rfl rfl rfl rfl rfl rfl rfl (s137 L _ bs bs) fun b17 h17 => ?_; refine At.regionEnd ?_
    have e17 : rightM B n = b17 := by rw [← h17, decide_eq_true (by omega), Bool.true_and]
    rw [e17] at hsc
    cases b17
    · rw [if_neg (by simp), List.append_nil] at hsc
      refine At.cond rfl ?_; refine At.skip ?_; refine At.inBlock ?_; refine At.region ?_; refine At.v rfl rfl rfl rfl rfl trivial ?_; refine At.v rfl rfl rfl rfl rfl (by omega) ?_; refine At.v rfl rfl rfl rfl rfl trivial ?_; refine At.regionEnd ?_
      refine At.tA ((again ⟨(j + 1, n + 1, v, sf), hjl, by show n + 1 = B.lo + ((j + 1 : Nat) : Int); omega, by rw [hsc]; exact hsl⟩ (by simp; omega)))
    · rw [if_pos rfl] at hsc
      refine At.cond rfl ?_; refine At.region ?_; (iterate 2 refine At.v rfl rfl rfl rfl rfl trivial ?_)
      (refine At.l rfl rfl rfl rfl (l_buildSlice rfl rfl rfl rfl rfl) ?_; rintro _ _ ⟨r20, rfl, rfl⟩)
      refine At.push (x := n) 0 2 rfl rfl rfl rfl rfl rfl rfl rfl rfl rfl rfl rfl rfl rfl hsl rfl rfl rfl ?_ fun v sf hs => ?_
      · omega
      · rw [← hsc] at hs
        refine At.v rfl rfl rfl rfl rfl trivial ?_; refine At.regionEnd ?_; refine At.inBlock ?_; refine At.region ?_; refine At.v rfl rfl rfl rfl rfl trivial ?_; refine At.v rfl rfl rfl rfl rfl (by omega) ?_; refine At.v rfl rfl rfl rfl rfl trivial ?_; refine At.regionEnd ?_
        refine At.tA ((again ⟨(j + 1, n + 1, v, sf), hjl, by show n + 1 = B.lo + ((j + 1 : Nat) : Int); omega, hs⟩ (by simp; omega)))
def knR (B : Bk) (r : Int) : Int := if bookBar B ≠ 0 then bookBar B else if r ≠ 0 then r else if (statesM B).length = 0 then 9 else 0
theorem knR_eq (B : Bk) (rs : List Int) : knR B (firstBar rs) = knownBar B rs := by
  unfold knR knownBar lookBar
  by_cases hz : bookBar B = 0
  · simp [hz]
  · simp [hz]
set_option maxRecDepth 100000 in
set_option maxHeartbeats 4000000 in
/-- known (ref02) -/
theorem s139 (L : Lg Tryz.prog main) (H : Facts) {B : Bk} {A : BkA} {r : Int} (hB : BkR H B A) (hlp : B.prof.length ≤ 100000) (hlm : B.marks.length ≤ 100000) :
    Grows L 139 #[bkV B A, .int .i64 r] H (fun v sf => ∃ a cap, v = .tuple #[.slice a (if knR B r ≠ 0 then [] else statesM B).length cap, .int .i64 (knR B r)] ∧
      Sl c1 3 (.slice a (if knR B r ≠ 0 then [] else statesM B).length cap) (if knR B r ≠ 0 then [] else statesM B) sf) := by
  refine Spec.enter Tryz.func139 rfl (by simp [Tryz.f139]) fun c cs hc => ?_
  unfold knR at hc
  refine At.seq (At.region ?_); refine At.bx rfl rfl rfl rfl rfl rfl rfl fun r2 => ?_; (iterate 2 refine At.v rfl rfl rfl rfl rfl trivial ?_); refine At.regionEnd (At.seq (At.seq (At.region ?_))); refine At.ld 0 rfl rfl rfl rfl rfl rfl rfl rfl rfl ?_; refine At.cq rfl rfl rfl rfl rfl rfl rfl rfl (s24 L _ bs bs bs) ?_; refine At.v rfl rfl rfl rfl rfl trivial ?_; refine At.regionEnd (At.seq (At.region ?_)); refine At.v rfl rfl rfl rfl rfl trivial ?_; refine At.cp rfl rfl rfl rfl rfl fun b11 h11 => ?_
  refine At.regionEnd ?_
  cases b11
  rotate_left
  · have hz : bookBar B ≠ 0 := by simpa using h11
    simp only [if_pos hz] at hc
    refine At.cond rfl ?_; refine At.seq (At.region ?_); (iterate 3 refine At.v rfl rfl rfl rfl rfl trivial ?_); refine At.regionEnd ?_
    exact At.ret Tryz.func139 (.inr ⟨_, rfl⟩) rfl (.tmp rfl (.tmp rfl .nil)) (wk (hc _ _ (⟨[], ⟨none, 0, rfl, Sl.nil⟩, rfl⟩)))
  have hz : bookBar B = 0 := by simpa using h11
  simp only [hz, ne_eq, not_true_eq_false, if_false] at hc
  refine At.cond rfl ?_; refine At.skip (At.seq (At.seq (At.region ?_))); refine At.v rfl rfl rfl rfl rfl trivial ?_; refine At.cp rfl rfl rfl rfl rfl fun b14 h14 => ?_; refine At.regionEnd ?_
  cases b14
  rotate_left
  · have hr : r ≠ 0 := by simpa using h14
    simp only [hr, not_false_eq_true, if_true] at hc
    refine At.cond rfl ?_; refine At.seq (At.region ?_); (iterate 3 refine At.v rfl rfl rfl rfl rfl trivial ?_); refine At.regionEnd ?_
    exact At.ret Tryz.func139 (.inr ⟨_, rfl⟩) rfl (.tmp rfl (.tmp rfl .nil)) (wk (hc _ _ (⟨[], ⟨none, 0, rfl, Sl.nil⟩, rfl⟩)))
  have hr : r = 0 := by simpa using h14
  simp only [hr, not_true_eq_false, if_false] at hc
  have stop138 := trivial
  refine At.cond rfl ?_; refine At.skip (At.seq (At.region ?_)); refine At.ld 0 rfl rfl rfl rfl rfl rfl rfl rfl rfl ?_
  clear stop138
  refine At.cl rfl rfl rfl rfl rfl rfl rfl rfl (s138 L _ hB.a hz) ?_
  rintro _ _ ⟨sf, ⟨a, cap, rfl, hsl⟩, rfl⟩
  refine At.v rfl rfl rfl rfl rfl trivial ?_; refine At.regionEnd (At.seq (At.seq (At.region ?_))); refine At.v rfl rfl rfl rfl rfl trivial ?_; refine At.ln rfl rfl rfl rfl rfl rfl rfl rfl ?_; refine At.cp rfl rfl rfl rfl rfl fun b20 h20 => ?_; refine At.regionEnd ?_
  cases b20
  · have e : ¬ (statesM B).length = 0 := by simpa using h20
    simp only [if_neg e, not_true_eq_false, if_false] at hc
    refine At.cond rfl ?_; refine At.skip (At.seq (At.region ?_)); (iterate 3 refine At.v rfl rfl rfl rfl rfl trivial ?_); refine At.regionEnd ?_
    exact At.ret Tryz.func139 (.inr ⟨_, rfl⟩) rfl (.tmp rfl (.tmp rfl .nil)) (wk (hc _ _ (⟨sf, ⟨a, cap, rfl, hsl⟩, rfl⟩)))
  · have e : (statesM B).length = 0 := by simpa using h20
    simp only [if_pos e] at hc
    refine At.cond rfl ?_; refine At.seq (At.region ?_); (iterate 2 refine At.v rfl rfl rfl rfl rfl trivial ?_); refine At.regionEnd ?_
    exact At.ret Tryz.func139 (.inr ⟨_, rfl⟩) rfl (.tmp rfl (.tmp rfl .nil)) (wk (hc _ _ (⟨[], ⟨none, 0, rfl, Sl.nil⟩, rfl⟩)))
end Go.Gx
end

section
set_option linter.unusedSimpArgs false
set_option linter.unusedVariables false
namespace Go.Gx
open Go Go.Conc Go.Proofs
variable {main : Bool}

/-! ### where a line meets the canvas, and in which row -/
theorem state_eye {B : Bk} (hz : bookBar B = 0) : ∀ e ∈ statesM B, EyeOk e ∧ B.lo ≤ e ∧ e ≤ B.hi ∧ rightM B e = true := by
  intro e he
  have hb := bounds_of_bar hz
  unfold statesM bandL at he
  obtain ⟨h1, h2⟩ := List.mem_filter.1 he
  obtain ⟨k, hk, rfl⟩ := List.mem_map.1 h1
  rw [List.mem_range] at hk
  unfold EyeOk
  refine ⟨by omega, by omega, by omega, h2⟩
theorem mem_states {B : Bk} {e : Int} : e ∈ statesM B ↔ (B.lo ≤ e ∧ e ≤ B.hi) ∧ rightM B e = true := by
  unfold statesM bandL
  rw [List.mem_filter, List.mem_map]
  constructor
  · rintro ⟨⟨k, hk, rfl⟩, h⟩
    rw [List.mem_range] at hk
    exact ⟨by omega, h⟩
  · rintro ⟨h1, h⟩
    exact ⟨⟨(e - B.lo).toNat, by rw [List.mem_range]; omega, by omega⟩, h⟩
/-! ### the reference's sorting -/
end Go.Gx
end

section
set_option linter.unusedSimpArgs false
set_option linter.unusedVariables false
namespace Go.Gx
open Go Go.Conc Go.Proofs
variable {main : Bool}

theorem sortM3 (a b c : Int) : sortM [a, b, c] = if b < a then (if c < a then (if c < b then [c, b, a] else [b, c, a]) else [b, a, c]) else (if c < b then (if c < a then [c, a, b] else [a, c, b]) else [a, b, c]) := by
  by_cases h1 : b < a <;> by_cases h2 : c < a <;> by_cases h3 : c < b <;> simp [sortM, outM, innerM, List.range_succ, h1, h2, h3]
set_option maxRecDepth 100000 in
set_option maxHeartbeats 4000000 in
/-- CheckLooks (ref02) -/
theorem s57 (L : Lg Tryz.prog main) (H : Facts) {a : Option Addr} {n cap : Nat} {ss : List R2} (hn : ss.length = n) (hr : Rd H a (ss.flatMap c2)) (hl : ss.length ≤ 1000) : Pure L 57 #[.slice a n cap] H (.int .i64 (looksBar ss)) := by
  subst hn
  refine Spec.enter Tryz.func57 rfl (by simp [Tryz.f57]) fun c cs hc => ?_
  unfold looksBar at hc
  refine At.seq (At.region ?_); refine At.v rfl rfl rfl rfl rfl trivial ?_; refine At.regionEnd (At.seq (At.seq (At.region ?_))); refine At.v rfl rfl rfl rfl rfl trivial ?_; refine At.ln rfl rfl rfl rfl rfl rfl rfl rfl ?_; refine At.cqb rfl rfl rfl rfl rfl rfl rfl rfl (s43 L _) fun b7 h7 => ?_; refine At.v rfl rfl rfl rfl rfl trivial ?_; refine At.regionEnd ?_
  cases b7
  · have e : ¬ (1 ≤ ss.length ∧ ss.length ≤ 6) := by simp at h7; omega
    simp only [if_pos e] at hc
    refine At.cond rfl ?_; refine At.seq (At.region ?_); refine At.v rfl rfl rfl rfl rfl trivial ?_; refine At.regionEnd ?_
    exact At.ret Tryz.func57 (.inr ⟨_, rfl⟩) rfl (.tmp rfl .nil) (wk (hc _ _ (⟨by rfl, rfl⟩)))
  have e : ¬ ¬ (1 ≤ ss.length ∧ ss.length ≤ 6) := by simp at h7; omega
  simp only [if_neg e] at hc
  refine At.cond rfl ?_; refine At.skip (At.seq (At.seq (At.region ?_))); refine At.v rfl rfl rfl rfl rfl trivial ?_; refine At.regionEnd ?_; refine At.block ?_
  refine At.lpk (X := { j : Nat // j ≤ ss.length ∧ slsBar (ss.drop j) = slsBar ss }) [0] (fun x => [(3, .int .i64 (x.1 : Int))]) (fun _ => H) (fun x => ss.length - x.1) (⟨0, Nat.zero_le _, rfl⟩) rfl ?_ (by repeat (first | exact trivial | refine ⟨rfl, ?_⟩)) sb
  rintro ⟨j, hj, hd⟩ again
  simp only at again ⊢
  refine At.seq (At.seq (At.region ?_)); (iterate 2 refine At.v rfl rfl rfl rfl rfl trivial ?_); refine At.ln rfl rfl rfl rfl rfl rfl rfl rfl ?_; refine At.cp rfl rfl rfl rfl rfl fun b12 h12 => ?_; refine At.regionEnd ?_
  cases b12
  · have e : j = ss.length := by simp at h12; omega
    subst e
    rw [List.drop_length] at hd
    refine At.cond rfl ?_; refine At.exit rfl ?_; refine At.seq (At.region ?_); refine At.v rfl rfl rfl rfl rfl trivial ?_; refine At.regionEnd ?_
    exact At.ret Tryz.func57 (.inr ⟨_, rfl⟩) rfl (.tmp rfl .nil) (wk (hc _ _ (⟨by rw [← hd]; rfl, rfl⟩)))
  · have hlt : j < ss.length := by simp at h12; omega
    obtain ⟨b, off, rfl, hc1⟩ := hr.el (List.getElem?_eq_getElem hlt)
    rw [List.drop_eq_getElem_cons hlt, slsBar] at hd
    refine At.cond rfl ?_; refine At.skip (At.seq ?_); refine At.block ?_; refine At.seq (At.region ?_); (iterate 2 refine At.v rfl rfl rfl rfl rfl trivial ?_); refine At.q rfl rfl rfl rfl (q_ia rfl rfl rfl (by assumption)) ?_; refine At.ldc rfl rfl rfl rfl rfl rfl hc1.a rfl rfl ?_; refine At.cq rfl rfl rfl rfl rfl rfl rfl rfl (s47 L _) ?_; refine At.v rfl rfl rfl rfl rfl trivial ?_; refine At.regionEnd (At.seq (At.region ?_)); refine At.v rfl rfl rfl rfl rfl trivial ?_
    refine At.cp rfl rfl rfl rfl rfl fun b21 h21 => ?_; refine At.regionEnd ?_
    cases b21
    · have e3 : slopeBar ss[j].1 ss[j].2 = 0 := by simpa using h21
      rw [if_neg (by simpa using e3)] at hd
      refine At.cond rfl ?_; refine At.skip ?_; refine At.inBlock ?_; refine At.region ?_; refine At.v rfl rfl rfl rfl rfl trivial ?_; refine At.v rfl rfl rfl rfl rfl (by omega) ?_; refine At.v rfl rfl rfl rfl rfl trivial ?_; refine At.regionEnd ?_
      refine At.tA ((again ⟨j + 1, hlt, hd⟩ (by simp; omega)))
    · have e3 : slopeBar ss[j].1 ss[j].2 ≠ 0 := by simpa using h21
      rw [if_pos e3] at hd
      refine At.cond rfl ?_; refine At.seq (At.region ?_); (iterate 2 refine At.v rfl rfl rfl rfl rfl trivial ?_); refine At.regionEnd ?_
      exact At.ret Tryz.func57 (.inr ⟨_, rfl⟩) rfl (.tmp rfl .nil) (wk (hc _ _ (⟨by rw [← hd]; rfl, rfl⟩)))
end Go.Gx
end

section
set_option linter.unusedSimpArgs false
set_option linter.unusedVariables false
namespace Go.Gx
open Go Go.Conc Go.Proofs
variable {main : Bool}

theorem kn_book {B : Bk} {r : Int} (h : knR B r = 0) : bookBar B = 0 := by
  unfold knR at h
  split at h
  · exact h
  · rename_i h1; simpa using h1
theorem kn_rest {B : Bk} {r : Int} (h : knR B r = 0) : r = 0 := by
  have hz := kn_book h
  unfold knR at h
  rw [if_neg (by simpa using hz)] at h
  split at h
  · exact h
  · rename_i h1; simpa using h1
theorem kn_states {B : Bk} {r : Int} (h : knR B r = 0) : (statesM B).length ≠ 0 := by
  have hz := kn_book h
  have hr := kn_rest h
  unfold knR at h
  rw [if_neg (by simpa using hz), if_neg (by simpa using hr)] at h
  intro e
  rw [if_pos e] at h
  cases h
end Go.Gx
end

section
set_option linter.unusedSimpArgs false
set_option linter.unusedVariables false
namespace Go.Gx
open Go Go.Conc Go.Proofs
variable {main : Bool}

end Go.Gx
end

section
set_option linter.unusedSimpArgs false
set_option linter.unusedVariables false
namespace Go.Gx
open Go Go.Conc Go.Proofs
variable {main : Bool}

end Go.Gx
end

section
set_option linter.unusedSimpArgs false
set_option linter.unusedVariables false
namespace Go.Gx
open Go Go.Conc Go.Proofs

end Go.Gx
end

section
/-
  LOGIC G: a growing list is shared: nobody writes it any more.
-/
set_option linter.unusedSimpArgs false
set_option linter.unusedVariables false
namespace Go.Gx
open Go Go.Conc
theorem Sl.share {α : Type} {c : α → List Value} {sz : Nat} [he : Enc c sz] {T : TypeId} {v : Value} {xs : List α} {sf : Facts} (h : Sl c T v xs sf) :
    ∃ sg : Facts, (∀ f ∈ sg, f.isOwn = false) ∧ (∀ a n cap, v = .slice a n cap → Rd sg a (xs.flatMap c)) ∧
      ∀ {P : Program} {main : Bool} {L : Lg P main} {f : FuncId} {ro : Option Nat} {ds : Dz} {cs : List Frame} {n : Nat} {E : Env} {k : List Item} {H : Facts}, At L f ro ds cs n E (sg ++ H) k → At L f ro ds cs n E (sf ++ H) k := by
  unfold Sl at h
  generalize hvs : xs.flatMap c = vs at h
  generalize hk : xs.length = k at h
  cases h with
  | nil => exact ⟨[], by simp, fun a n cap e => by cases e; exact .inl rfl, fun h => h⟩
  | own b cap _ _ rest hl hc hm =>
    refine ⟨[.seg b 0 (vs ++ rest)], ?_, ?_, fun h => At.share h⟩
    · intro f hf
      rw [List.mem_singleton] at hf
      subst hf
      rfl
    · intro a n cap' e
      cases e
      exact rd_cells (by have := cells_seg (H := [.seg b 0 (vs ++ rest)]) (vs := vs) (us := vs ++ rest) (b := b) (off := 0) 0 (by simp) (by simp); simpa using this)
end Go.Gx
end

section
set_option linter.unusedSimpArgs false
set_option linter.unusedVariables false
namespace Go.Gx
open Go Go.Conc Go.Proofs
variable {main : Bool}

/-! ### a book whose marks are right for an eye -/
/-! ### the plain law of CanvasReal -/
theorem sortM_mem3 {l : List Int} (h : l.length ≤ 3) (x : Int) : x ∈ compactM (sortM l) ↔ x ∈ l := by
  match l, h with
  | [], _ => simp [sortM, outM, innerM, compactM]
  | [a], _ => simp [sortM, outM, innerM, compactM, List.range_succ]
  | [a, b], _ =>
    have e : sortM [a, b] = if b < a then [b, a] else [a, b] := by
      by_cases h1 : b < a <;> simp [sortM, outM, innerM, List.range_succ, h1]
    rw [e]
    split
    · unfold compactM
      split
      · simp [compactM]; omega
      · simp [compactM]; omega
    · unfold compactM
      split
      · simp [compactM]; omega
      · simp [compactM]
  | [a, b, c], _ =>
    rw [sortM3]
    have key : ∀ p q r : Int, x ∈ compactM [p, q, r] ↔ x = p ∨ x = q ∨ x = r := by
      intro p q r
      unfold compactM
      split
      · rename_i h1
        unfold compactM
        split
        · simp [compactM]; omega
        · simp [compactM]; omega
      · unfold compactM
        split
        · simp [compactM]; omega
        · simp [compactM]
    split <;> split <;> (try split) <;> rw [key] <;> simp <;> omega
theorem rowsM_mem {B : Bk} (hz : bookBar B = 0) {s : R2} {x : Int} : x ∈ rowsM B s ↔ x ≠ -1 ∧ ∃ e ∈ statesM B, rowM B e s = x := by
  unfold rowsM
  rw [sortM_mem3 (Nat.le_trans (List.length_filter_le _ _) (rowsOf_len hz s)), List.mem_filter]
  unfold rowsOf
  rw [List.mem_map]
  simp only [decide_eq_true_eq]
  exact And.comm
end Go.Gx
end

section
set_option linter.unusedSimpArgs false
set_option linter.unusedVariables false
namespace Go.Gx
open Go Go.Conc Go.Proofs

end Go.Gx
end

section
set_option linter.unusedSimpArgs false
set_option linter.unusedVariables false
namespace Go.Gx
open Go Go.Conc Go.Proofs
variable {main : Bool}

def sameM (B C : Bk) : Bool := decide (B.size = C.size ∧ (B.lo = C.lo ∧ B.hi = C.hi) ∧ B.prof = C.prof ∧ B.marks = C.marks)
set_option maxRecDepth 100000 in
set_option maxHeartbeats 4000000 in
/-- Same (ref02) -/
theorem s78 (L : Lg Tryz.prog main) (H : Facts) {B C : Bk} {A D : BkA} (hB : BkR H B A) (hC : BkR H C D) (hl : B.prof.length ≤ 100000) (hm : B.marks.length ≤ 100000) : Pure L 78 #[bkV B A, bkV C D] H (.bool (sameM B C)) := by
  refine Spec.enter Tryz.func78 rfl (by simp [Tryz.f78]) fun c cs hc => ?_
  have hp1 := hB.p
  have hp2 := hC.p
  have hm1 := hB.m
  have hm2 := hC.m
  unfold sameM at hc
  refine At.seq (At.region ?_); refine At.bx rfl rfl rfl rfl rfl rfl rfl fun r2 => ?_; refine At.bx rfl rfl rfl rfl rfl rfl rfl fun r3 => ?_; refine At.v rfl rfl rfl rfl rfl trivial ?_; refine At.regionEnd (At.seq (At.seq (At.region ?_))); refine At.fa 1 rfl rfl rfl rfl rfl rfl rfl ?_; refine At.ld 1 rfl rfl rfl rfl rfl rfl rfl rfl rfl ?_; refine At.fa 1 rfl rfl rfl rfl rfl rfl rfl ?_; refine At.ld 0 rfl rfl rfl rfl rfl rfl rfl rfl rfl ?_; refine At.cp rfl rfl rfl rfl rfl fun b11 h11 => ?_
  refine At.v rfl rfl rfl rfl rfl trivial ?_
  cases b11
  rotate_left
  · have e : B.size ≠ C.size := by simpa using h11
    rw [decide_eq_false (fun h => e h.1)] at hc
    (iterate 5 refine At.un rfl rfl rfl rfl ?_); (iterate 2 refine At.v rfl rfl rfl rfl rfl trivial ?_); (iterate 7 refine At.un rfl rfl rfl rfl ?_); (iterate 2 refine At.v rfl rfl rfl rfl rfl trivial ?_); (iterate 7 refine At.un rfl rfl rfl rfl ?_); refine At.v rfl rfl rfl rfl rfl trivial ?_; refine At.regionEnd ?_; refine At.cond rfl ?_; refine At.seq (At.region ?_); refine At.v rfl rfl rfl rfl rfl trivial ?_; refine At.regionEnd ?_
    exact At.ret Tryz.func78 (.inr ⟨_, rfl⟩) rfl (.tmp rfl .nil) (wk (hc _ _ (⟨by rfl, rfl⟩)))
  have q1 : B.size = C.size := by simpa using h11
  refine At.fa 2 rfl rfl rfl rfl rfl rfl rfl ?_; refine At.ld 1 rfl rfl rfl rfl rfl rfl rfl rfl rfl ?_; refine At.fa 2 rfl rfl rfl rfl rfl rfl rfl ?_; refine At.ld 0 rfl rfl rfl rfl rfl rfl rfl rfl rfl ?_; refine At.qb rfl rfl rfl rfl (q_neqS rfl rfl rfl rfl rfl rfl rfl rfl) fun b17 h17 => ?_; (iterate 2 refine At.v rfl rfl rfl rfl rfl trivial ?_)
  cases b17
  rotate_left
  · have e : ¬ (B.lo = C.lo ∧ B.hi = C.hi) := by
      rintro ⟨h1, h2⟩
      rw [h1, h2] at h17
      simp at h17
    rw [decide_eq_false (fun h => e h.2.1)] at hc
    (iterate 7 refine At.un rfl rfl rfl rfl ?_); (iterate 2 refine At.v rfl rfl rfl rfl rfl trivial ?_); (iterate 7 refine At.un rfl rfl rfl rfl ?_); refine At.v rfl rfl rfl rfl rfl trivial ?_; refine At.regionEnd ?_; refine At.cond rfl ?_; refine At.seq (At.region ?_); refine At.v rfl rfl rfl rfl rfl trivial ?_; refine At.regionEnd ?_
    exact At.ret Tryz.func78 (.inr ⟨_, rfl⟩) rfl (.tmp rfl .nil) (wk (hc _ _ (⟨by rfl, rfl⟩)))
  have q2 : B.lo = C.lo ∧ B.hi = C.hi := by simpa using h17
  refine At.fa 0 rfl rfl rfl rfl rfl rfl rfl ?_; refine At.ld 1 rfl rfl rfl rfl rfl rfl rfl rfl rfl ?_; refine At.ln rfl rfl rfl rfl rfl rfl rfl rfl ?_; refine At.fa 0 rfl rfl rfl rfl rfl rfl rfl ?_; refine At.ld 0 rfl rfl rfl rfl rfl rfl rfl rfl rfl ?_; refine At.ln rfl rfl rfl rfl rfl rfl rfl rfl ?_; refine At.cp rfl rfl rfl rfl rfl fun b26 h26 => ?_; (iterate 2 refine At.v rfl rfl rfl rfl rfl trivial ?_)
  cases b26
  rotate_left
  · have e : B.prof.length ≠ C.prof.length := by simp at h26; omega
    rw [decide_eq_false (fun h => e (by rw [h.2.2.1]))] at hc
    (iterate 7 refine At.un rfl rfl rfl rfl ?_); refine At.v rfl rfl rfl rfl rfl trivial ?_; refine At.regionEnd ?_; refine At.cond rfl ?_; refine At.seq (At.region ?_); refine At.v rfl rfl rfl rfl rfl trivial ?_; refine At.regionEnd ?_
    exact At.ret Tryz.func78 (.inr ⟨_, rfl⟩) rfl (.tmp rfl .nil) (wk (hc _ _ (⟨by rfl, rfl⟩)))
  have q3 : B.prof.length = C.prof.length := by simp at h26; omega
  refine At.fa 4 rfl rfl rfl rfl rfl rfl rfl ?_; refine At.ld 1 rfl rfl rfl rfl rfl rfl rfl rfl rfl ?_; refine At.ln rfl rfl rfl rfl rfl rfl rfl rfl ?_; refine At.fa 4 rfl rfl rfl rfl rfl rfl rfl ?_; refine At.ld 0 rfl rfl rfl rfl rfl rfl rfl rfl rfl ?_; refine At.ln rfl rfl rfl rfl rfl rfl rfl rfl ?_; refine At.cp rfl rfl rfl rfl rfl fun b35 h35 => ?_; refine At.v rfl rfl rfl rfl rfl trivial ?_; refine At.regionEnd ?_
  cases b35
  rotate_left
  · have e : B.marks.length ≠ C.marks.length := by simp at h35; omega
    rw [decide_eq_false (fun h => e (by rw [h.2.2.2]))] at hc
    refine At.cond rfl ?_; refine At.seq (At.region ?_); refine At.v rfl rfl rfl rfl rfl trivial ?_; refine At.regionEnd ?_
    exact At.ret Tryz.func78 (.inr ⟨_, rfl⟩) rfl (.tmp rfl .nil) (wk (hc _ _ (⟨by rfl, rfl⟩)))
  have q4 : B.marks.length = C.marks.length := by simp at h35; omega
  refine At.cond rfl ?_; refine At.skip (At.seq (At.seq (At.region ?_))); refine At.v rfl rfl rfl rfl rfl trivial ?_; refine At.regionEnd ?_; refine At.block ?_
  refine At.lpk (X := { j : Nat // j ≤ B.prof.length ∧ (B.prof.drop j = C.prof.drop j ↔ B.prof = C.prof) }) [2, 3] (fun x => [(5, .int .i64 (x.1 : Int))]) (fun _ => .own r3 (.cells (List.toArray (bkC C D)) 27 (0, 0)) :: .own r2 (.cells (List.toArray (bkC B A)) 27 (0, 0)) :: H) (fun x => B.prof.length - x.1) (⟨0, Nat.zero_le _, Iff.rfl⟩) rfl ?_ (by repeat (first | exact trivial | refine ⟨rfl, ?_⟩)) sb
  rintro ⟨j, hj, hd⟩ again
  simp only at again ⊢
  refine At.seq (At.seq (At.region ?_)); refine At.v rfl rfl rfl rfl rfl trivial ?_; refine At.fa 0 rfl rfl rfl rfl rfl rfl rfl ?_; refine At.ld 1 rfl rfl rfl rfl rfl rfl rfl rfl rfl ?_; refine At.ln rfl rfl rfl rfl rfl rfl rfl rfl ?_; refine At.cp rfl rfl rfl rfl rfl fun b41 h41 => ?_; refine At.regionEnd ?_
  cases b41
  rotate_left
  · have h1 : j < B.prof.length := by simp at h41; omega
    have h2 : j < C.prof.length := by omega
    obtain ⟨pa, pc, ma, mc⟩ := A
    obtain ⟨pa', pc', ma', mc'⟩ := D
    obtain ⟨b, off, e1, c1⟩ := hp1.el (List.getElem?_eq_getElem h1)
    obtain ⟨b', off', e2, c2⟩ := hp2.el (List.getElem?_eq_getElem h2)
    simp only at e1 e2
    subst e1 e2
    rw [ext_drop q3 h1 h2] at hd
    refine At.cond rfl ?_; refine At.skip (At.seq ?_); refine At.block ?_; refine At.seq ?_; refine At.drawJ hmix [] rfl ?_; refine Pool.fa 0 0 rfl rfl rfl rfl rfl rfl rfl rfl rfl ?_; refine Pool.ld 1 1 rfl rfl rfl rfl rfl rfl rfl rfl rfl rfl rfl ?_; refine Pool.v 2 rfl rfl rfl rfl rfl rfl rfl trivial ?_; refine Pool.q 3 rfl rfl rfl rfl rfl (q_ia rfl rfl rfl (by assumption)) rfl ?_; refine Pool.ldc 4 rfl rfl rfl rfl rfl rfl rfl c1.a rfl rfl rfl ?_
    refine Pool.fa 0 5 rfl rfl rfl rfl rfl rfl rfl rfl rfl ?_; refine Pool.ld 0 6 rfl rfl rfl rfl rfl rfl rfl rfl rfl rfl rfl ?_; refine Pool.v 7 rfl rfl rfl rfl rfl rfl rfl trivial ?_; refine Pool.q 8 rfl rfl rfl rfl rfl (q_ia rfl rfl rfl (by assumption)) rfl ?_; refine Pool.ldc 9 rfl rfl rfl rfl rfl rfl rfl c2.a rfl rfl rfl ?_; refine Pool.qb 10 rfl rfl rfl rfl rfl (q_neqS rfl rfl rfl rfl rfl rfl rfl rfl) rfl fun b54 h54 => ?_; refine pool_done rfl rfl ?_; refine At.regionEnd ?_
    cases b54
    · have e : B.prof[j] = C.prof[j] := by
        simp at h54
        exact Prod.ext h54.1 h54.2
      refine At.cond rfl ?_; refine At.skip ?_; refine At.inBlock ?_; refine At.region ?_; refine At.v rfl rfl rfl rfl rfl trivial ?_; refine At.v rfl rfl rfl rfl rfl (by omega) ?_; refine At.v rfl rfl rfl rfl rfl trivial ?_; refine At.regionEnd ?_
      refine At.tA ((again ⟨j + 1, h1, by rw [← hd]; simp [e]⟩ (by simp; omega)))
    · have e : B.prof[j] ≠ C.prof[j] := by
        intro e
        rw [e] at h54
        simp at h54
      rw [decide_eq_false (fun h => e (hd.2 h.2.2.1).1)] at hc
      refine At.cond rfl ?_; refine At.seq (At.region ?_); refine At.v rfl rfl rfl rfl rfl trivial ?_; refine At.regionEnd ?_
      exact At.ret Tryz.func78 (.inr ⟨_, rfl⟩) rfl (.tmp rfl .nil) (wk (hc _ _ (⟨by rfl, rfl⟩)))
  · have e : j = B.prof.length := by simp at h41; omega
    subst e
    have q5 : B.prof = C.prof := by
      rw [← hd, List.drop_length, q3, List.drop_length]
    refine At.cond rfl ?_; refine At.exit rfl ?_; refine At.seq (At.seq (At.region ?_)); refine At.v rfl rfl rfl rfl rfl trivial ?_; refine At.regionEnd ?_; refine At.block ?_
    refine At.lpk (X := { j : Nat // j ≤ B.marks.length ∧ (B.marks.drop j = C.marks.drop j ↔ B.marks = C.marks) }) [2, 3] (fun x => [(6, .int .i64 (x.1 : Int))]) (fun _ => .own r3 (.cells (List.toArray (bkC C D)) 27 (0, 0)) :: .own r2 (.cells (List.toArray (bkC B A)) 27 (0, 0)) :: H) (fun x => B.marks.length - x.1) (⟨0, Nat.zero_le _, Iff.rfl⟩) rfl ?_ (by repeat (first | exact trivial | refine ⟨rfl, ?_⟩)) sb
    rintro ⟨j, hj, hd2⟩ again2
    simp only at again2 ⊢
    refine At.seq (At.seq (At.region ?_)); refine At.v rfl rfl rfl rfl rfl trivial ?_; refine At.fa 4 rfl rfl rfl rfl rfl rfl rfl ?_; refine At.ld 1 rfl rfl rfl rfl rfl rfl rfl rfl rfl ?_; refine At.ln rfl rfl rfl rfl rfl rfl rfl rfl ?_; refine At.cp rfl rfl rfl rfl rfl fun b59 h59 => ?_; refine At.regionEnd ?_
    cases b59
    rotate_left
    · have h1 : j < B.marks.length := by simp at h59; omega
      have h2 : j < C.marks.length := by omega
      obtain ⟨pa, pc, ma, mc⟩ := A
      obtain ⟨pa', pc', ma', mc'⟩ := D
      obtain ⟨b, off, e1, c1⟩ := hm1.el (List.getElem?_eq_getElem h1)
      obtain ⟨b', off', e2, c2⟩ := hm2.el (List.getElem?_eq_getElem h2)
      simp only at e1 e2
      subst e1 e2
      rw [ext_drop q4 h1 h2] at hd2
      refine At.cond rfl ?_; refine At.skip (At.seq ?_); refine At.block ?_; refine At.seq ?_; refine At.drawJ hmix [] rfl ?_; refine Pool.fa 4 0 rfl rfl rfl rfl rfl rfl rfl rfl rfl ?_; refine Pool.ld 1 1 rfl rfl rfl rfl rfl rfl rfl rfl rfl rfl rfl ?_; refine Pool.v 2 rfl rfl rfl rfl rfl rfl rfl trivial ?_; refine Pool.q 3 rfl rfl rfl rfl rfl (q_ia rfl rfl rfl (by assumption)) rfl ?_; refine Pool.ldc 4 rfl rfl rfl rfl rfl rfl rfl c1.a rfl rfl rfl ?_
      refine Pool.fa 4 5 rfl rfl rfl rfl rfl rfl rfl rfl rfl ?_; refine Pool.ld 0 6 rfl rfl rfl rfl rfl rfl rfl rfl rfl rfl rfl ?_; refine Pool.v 7 rfl rfl rfl rfl rfl rfl rfl trivial ?_; refine Pool.q 8 rfl rfl rfl rfl rfl (q_ia rfl rfl rfl (by assumption)) rfl ?_; refine Pool.ldc 9 rfl rfl rfl rfl rfl rfl rfl c2.a rfl rfl rfl ?_; refine Pool.qb 10 rfl rfl rfl rfl rfl (q_neqS rfl rfl rfl rfl rfl rfl rfl rfl) rfl fun b72 h72 => ?_; refine pool_done rfl rfl ?_; refine At.regionEnd ?_
      cases b72
      · have e : B.marks[j] = C.marks[j] := by
          simp at h72
          exact Prod.ext (Prod.ext h72.1 h72.2.1) h72.2.2
        refine At.cond rfl ?_; refine At.skip ?_; refine At.inBlock ?_; refine At.region ?_; refine At.v rfl rfl rfl rfl rfl trivial ?_; refine At.v rfl rfl rfl rfl rfl (by omega) ?_; refine At.v rfl rfl rfl rfl rfl trivial ?_; refine At.regionEnd ?_
        refine At.tA ((again2 ⟨j + 1, h1, by rw [← hd2]; simp [e]⟩ (by simp; omega)))
      · have e : B.marks[j] ≠ C.marks[j] := by
          intro e
          rw [e] at h72
          simp at h72
        rw [decide_eq_false (fun h => e (hd2.2 h.2.2.2).1)] at hc
        refine At.cond rfl ?_; refine At.seq (At.region ?_); refine At.v rfl rfl rfl rfl rfl trivial ?_; refine At.regionEnd ?_
        exact At.ret Tryz.func78 (.inr ⟨_, rfl⟩) rfl (.tmp rfl .nil) (wk (hc _ _ (⟨by rfl, rfl⟩)))
    · have e : j = B.marks.length := by simp at h59; omega
      subst e
      have q6 : B.marks = C.marks := by
        rw [← hd2, List.drop_length, q4, List.drop_length]
      rw [decide_eq_true ⟨q1, q2, q5, q6⟩] at hc
      refine At.cond rfl ?_; refine At.exit rfl ?_; refine At.seq (At.region ?_); refine At.v rfl rfl rfl rfl rfl trivial ?_; refine At.regionEnd ?_
      exact At.ret Tryz.func78 (.inr ⟨_, rfl⟩) rfl (.tmp rfl .nil) (wk (hc _ _ (⟨by rfl, rfl⟩)))
/-! ### the plain law of CanvasReached -/
end Go.Gx
end

section
set_option linter.unusedSimpArgs false
set_option linter.unusedVariables false
namespace Go.Gx
open Go Go.Conc Go.Proofs

def zB : Bk := ⟨[], 0, 0, 0, []⟩
def zA : BkA := ⟨none, 0, none, 0⟩
theorem zR (H : Facts) : BkR H zB zA := ⟨.inl rfl, .inl rfl⟩
theorem s78z {main : Bool} (L : Lg Tryz.prog main) (H : Facts) : Pure L 78 #[bkZ, bkZ] H (.bool true) := s78 L H (B := zB) (C := zB) (A := zA) (D := zA) (zR H) (zR H) (by decide) (by decide)
end Go.Gx
end

section
set_option linter.unusedSimpArgs false
set_option linter.unusedVariables false
namespace Go.Gx
open Go Go.Conc Go.Proofs

/-! ### the plain law of CanvasNeeded -/
end Go.Gx
end

section
set_option linter.unusedSimpArgs false
set_option linter.unusedVariables false
namespace Go.Gx
open Go Go.Conc Go.Proofs

/-! ### marks the other way round -/
end Go.Gx
end

section
set_option linter.unusedSimpArgs false
set_option linter.unusedVariables false
namespace Go.Gx
open Go Go.Conc Go.Proofs

end Go.Gx
end

section
set_option linter.unusedSimpArgs false
set_option linter.unusedVariables false
namespace Go.Gx
open Go Go.Conc Go.Proofs
variable {main : Bool}

theorem BkO.share {B : Bk} {A : BkA} {sf : Facts} (h : BkO B A sf) :
    ∃ sg : Facts, (∀ f ∈ sg, f.isOwn = false) ∧ BkR sg B A ∧
      ∀ {P : Program} {main : Bool} {L : Lg P main} {f : FuncId} {ro : Option Nat} {ds : Dz} {cs : List Frame} {n : Nat} {E : Env} {k : List Item} {H : Facts}, At L f ro ds cs n E (sg ++ H) k → At L f ro ds cs n E (sf ++ H) k := by
  obtain ⟨sp, sm, rfl, h1, h2⟩ := h
  obtain ⟨gp, p1, p2, p3⟩ := h1.share
  obtain ⟨gm, m1, m2, m3⟩ := h2.share
  refine ⟨gm ++ gp, fun f hf => (List.mem_append.1 hf).elim (m1 f) (p1 f), ⟨(p2 _ _ _ rfl).more (Sub.append_left _ _), (m2 _ _ _ rfl).more (Sub.pre _ _)⟩, ?_⟩
  intro P main L f ro ds cs n E k H hA
  rw [List.append_assoc] at hA ⊢
  have a1 : At L f ro ds cs n E (gp ++ (gm ++ H)) k := hA.weakH (Sub.of_perm (List.perm_append_comm_assoc gm gp H))
  have a2 : At L f ro ds cs n E (sp ++ (gm ++ H)) k := p3 a1
  have a3 : At L f ro ds cs n E (gm ++ (sp ++ H)) k := a2.weakH (Sub.of_perm (List.perm_append_comm_assoc sp gm H))
  exact m3 a3
/-- Overlap (ref01) -/
theorem s84 (L : Lg Tryz.prog main) (H : Facts) {x y : R2} : Pure L 84 #[.agg (List.toArray (c2 x)), .agg (List.toArray (c2 y))] H (.agg (List.toArray (c2 (maxI x.1 y.1, minI x.2 y.2)))) := by
  refine Spec.enter Tryz.func84 rfl (by simp [Tryz.f84]) fun c cs hc => ?_; refine At.seq (At.region ?_); refine At.bx rfl rfl rfl rfl rfl rfl rfl fun r2 => ?_; refine At.bx rfl rfl rfl rfl rfl rfl rfl fun r3 => ?_; refine At.al rfl rfl rfl rfl rfl fun r4 => ?_; refine At.regionEnd (At.seq (At.region ?_)); refine At.fa 0 rfl rfl rfl rfl rfl rfl rfl ?_; refine At.ld 2 rfl rfl rfl rfl rfl rfl rfl rfl rfl ?_; refine At.fa 0 rfl rfl rfl rfl rfl rfl rfl ?_
  refine At.ld 1 rfl rfl rfl rfl rfl rfl rfl rfl rfl ?_; refine At.v rfl rfl rfl rfl rfl trivial ?_; refine At.fa 1 rfl rfl rfl rfl rfl rfl rfl ?_; refine At.ld 2 rfl rfl rfl rfl rfl rfl rfl rfl rfl ?_; refine At.fa 1 rfl rfl rfl rfl rfl rfl rfl ?_; refine At.ld 1 rfl rfl rfl rfl rfl rfl rfl rfl rfl ?_; refine At.v rfl rfl rfl rfl rfl trivial ?_; refine At.q rfl rfl rfl rfl (q_build rfl rfl rfl) ?_; refine At.st 0 rfl rfl rfl rfl rfl rfl rfl rfl rfl rfl rfl rfl ?_; refine At.regionEnd ?_
  exact At.ret Tryz.func84 (.inr ⟨_, rfl⟩) rfl (.aggJ 0 rfl rfl rfl .nil) (wk (hc _ _ (⟨by rfl, rfl⟩)))
set_option maxRecDepth 100000 in
/-- Stood (ref02) -/
theorem s83 (L : Lg Tryz.prog main) (H : Facts) {B : Bk} {A : BkA} {x : R2} : Pure L 83 #[bkV B A, .agg (List.toArray (c2 x))] H (bkV (stoodM B x.1 x.2) A) := by
  refine Spec.enter Tryz.func83 rfl (by simp [Tryz.f83]) fun c cs hc => ?_; refine At.seq (At.region ?_); refine At.bx rfl rfl rfl rfl rfl rfl rfl fun r2 => ?_; refine At.bx rfl rfl rfl rfl rfl rfl rfl fun r3 => ?_; refine At.al rfl rfl rfl rfl rfl fun r4 => ?_; refine At.regionEnd (At.seq (At.region ?_)); refine At.ld 1 rfl rfl rfl rfl rfl rfl rfl rfl rfl ?_; refine At.fa 2 rfl rfl rfl rfl rfl rfl rfl ?_; refine At.st 2 rfl rfl rfl rfl rfl rfl rfl rfl rfl rfl rfl rfl ?_
  refine At.regionEnd (At.seq (At.region ?_)); refine At.ld 2 rfl rfl rfl rfl rfl rfl rfl rfl rfl ?_; refine At.st 0 rfl rfl rfl rfl rfl rfl rfl rfl rfl rfl rfl rfl ?_; refine At.regionEnd ?_
  exact At.ret Tryz.func83 (.inr ⟨_, rfl⟩) rfl (.aggJ 0 rfl rfl rfl .nil) (wk (hc _ _ (⟨by rfl, rfl⟩)))
/-! ### a book that knows more -/
theorem word_mono {l m : List Int} {f : Int → Int} {x : Int} (hs : ∀ e ∈ m, e ∈ l) (hne : m.length ≠ 0) :
    wordM l.length (((l.map f).count x : Nat) : Int) = 0 ∨ wordM l.length (((l.map f).count x : Nat) : Int) = wordM m.length (((m.map f).count x : Nat) : Int) := by
  unfold wordM
  by_cases h1 : (((l.map f).count x : Nat) : Int) = (l.length : Int)
  · right
    have h2 : (l.map f).count x = (l.map f).length := by rw [List.length_map]; omega
    have h3 := List.count_eq_length.1 h2
    have h4 : (m.map f).count x = (m.map f).length := by
      rw [List.count_eq_length]
      intro y hy
      obtain ⟨e, he, rfl⟩ := List.mem_map.1 hy
      exact h3 _ (List.mem_map.2 ⟨e, hs e he, rfl⟩)
    rw [List.length_map] at h4
    rw [if_pos h1, if_pos (by omega)]
  · rw [if_neg h1]
    by_cases h2 : (((l.map f).count x : Nat) : Int) = 0
    · right
      have h3 : x ∉ l.map f := List.count_eq_zero.1 (by omega)
      have h4 : (m.map f).count x = 0 := by
        rw [List.count_eq_zero]
        intro hy
        obtain ⟨e, he, hx⟩ := List.mem_map.1 hy
        exact h3 (List.mem_map.2 ⟨e, hs e he, hx⟩)
      rw [if_pos h2, if_neg (by omega), if_pos (by omega)]
    · left
      rw [if_neg h2]
structure Knows (B C : Bk) : Prop where
  b : bookBar B = 0
  c : bookBar C = 0
  r : ∀ e s, rowM C e s = rowM B e s
  s : ∀ e ∈ statesM C, e ∈ statesM B
  n : (statesM C).length ≠ 0
theorem Knows.n' {B C : Bk} (h : Knows B C) : (statesM B).length ≠ 0 := by
  have h1 : 0 < (statesM C).length := by have := h.n; omega
  have := List.length_pos_of_mem (h.s _ (List.getElem_mem h1))
  omega
theorem Knows.rows {B C : Bk} (h : Knows B C) (s : R2) : ∀ x ∈ rowsM C s, x ∈ rowsM B s := by
  intro x hx
  obtain ⟨h1, e, he, hr⟩ := (rowsM_mem h.c).1 hx
  exact (rowsM_mem h.b).2 ⟨h1, e, h.s e he, by rw [← h.r]; exact hr⟩
theorem Knows.word {B C : Bk} (h : Knows B C) (s : R2) (x : Int) :
    wordM (statesM B).length (((rowsOf B s).count x : Nat) : Int) = 0 ∨ wordM (statesM B).length (((rowsOf B s).count x : Nat) : Int) = wordM (statesM C).length (((rowsOf C s).count x : Nat) : Int) := by
  have := word_mono (f := fun e => rowM B e s) (x := x) h.s h.n
  have e : rowsOf C s = (statesM C).map fun e => rowM B e s := by
    unfold rowsOf
    congr 1
    funext e
    exact h.r e s
  rw [e]
  exact this
end Go.Gx
end

section
set_option linter.unusedSimpArgs false
set_option linter.unusedVariables false
namespace Go.Gx
open Go Go.Conc Go.Proofs

theorem same_self (B : Bk) : sameM B B = true := by simp [sameM]
end Go.Gx
end

section
set_option linter.unusedSimpArgs false
set_option linter.unusedVariables false
namespace Go.Gx
open Go Go.Conc Go.Proofs

/-! ### an upright canvas -/
end Go.Gx
end

section
set_option linter.unusedSimpArgs false
set_option linter.unusedVariables false
namespace Go.Gx
open Go Go.Conc Go.Proofs

end Go.Gx
end

section
set_option linter.unusedSimpArgs false
set_option linter.unusedVariables false
namespace Go.Gx
open Go Go.Conc Go.Proofs
variable {main : Bool}

set_option maxRecDepth 100000 in
set_option maxHeartbeats 4000000 in
/-- Earlier (ref01) -/
theorem s132 (L : Lg Tryz.prog main) (H : Facts) {a a' : Option Addr} {n n' cap cap' : Nat} {xs ys : List Int} (hn : xs.length = n) (hn' : ys.length = n') (hr : Rd H a (xs.flatMap c1)) (hr' : Rd H a' (ys.flatMap c1)) (hl : xs.length ≤ 1000) (hl' : ys.length ≤ 1000) :
    Pure L 132 #[.slice a n cap, .slice a' n' cap'] H (.bool (decide (cmpL xs ys < 0))) := by
  subst hn hn'
  refine Spec.enter Tryz.func132 rfl (by simp [Tryz.f132]) fun c cs hc => ?_; refine At.seq (At.region ?_); refine At.v rfl rfl rfl rfl rfl trivial ?_; refine At.regionEnd (At.seq (At.seq (At.region ?_))); refine At.v rfl rfl rfl rfl rfl trivial ?_; refine At.regionEnd ?_; refine At.block ?_
  refine At.lpk (X := { j : Nat // j ≤ xs.length ∧ j ≤ ys.length ∧ cmpL (xs.drop j) (ys.drop j) = cmpL xs ys }) [0, 1] (fun x => [(5, .int .i64 (x.1 : Int))]) (fun _ => H) (fun x => xs.length - x.1) (⟨0, Nat.zero_le _, Nat.zero_le _, rfl⟩) rfl ?_ (by repeat (first | exact trivial | refine ⟨rfl, ?_⟩)) sb
  rintro ⟨j, hj, hj', hd⟩ again
  simp only at again ⊢
  refine At.seq (At.seq (At.region ?_)); (iterate 2 refine At.v rfl rfl rfl rfl rfl trivial ?_); refine At.ln rfl rfl rfl rfl rfl rfl rfl rfl ?_; refine At.cp rfl rfl rfl rfl rfl fun b9 h9 => ?_; refine At.v rfl rfl rfl rfl rfl trivial ?_
  by_cases hlt : j < xs.length
  · by_cases hlt' : j < ys.length
    · have e9 : b9 = true := by rw [← h9]; simpa using hlt
      subst e9
      (iterate 2 refine At.v rfl rfl rfl rfl rfl trivial ?_); refine At.ln rfl rfl rfl rfl rfl rfl rfl rfl ?_; refine At.cp rfl rfl rfl rfl rfl fun b14 h14 => ?_; refine At.v rfl rfl rfl rfl rfl trivial ?_; refine At.regionEnd ?_
      have e14 : b14 = true := by rw [← h14]; simpa using hlt'
      subst e14
      obtain ⟨b, off, rfl, hc1⟩ := hr.el (List.getElem?_eq_getElem hlt)
      obtain ⟨b', off', rfl, hc2⟩ := hr'.el (List.getElem?_eq_getElem hlt')
      rw [List.drop_eq_getElem_cons hlt, List.drop_eq_getElem_cons hlt', cmpL] at hd
      refine At.cond rfl ?_; refine At.skip (At.seq ?_); refine At.block ?_; refine At.seq ?_; refine At.drawJ hmix [] rfl ?_; refine Pool.v 0 rfl rfl rfl rfl rfl rfl rfl trivial ?_; refine Pool.v 1 rfl rfl rfl rfl rfl rfl rfl trivial ?_; refine Pool.q 2 rfl rfl rfl rfl rfl (q_ia rfl rfl rfl (by assumption)) rfl ?_; refine Pool.ldc 3 rfl rfl rfl rfl rfl rfl rfl hc1.a rfl rfl rfl ?_; refine Pool.v 4 rfl rfl rfl rfl rfl rfl rfl trivial ?_; refine Pool.v 5 rfl rfl rfl rfl rfl rfl rfl trivial ?_
      refine Pool.q 6 rfl rfl rfl rfl rfl (q_ia rfl rfl rfl (by assumption)) rfl ?_; refine Pool.ldc 7 rfl rfl rfl rfl rfl rfl rfl hc2.a rfl rfl rfl ?_; refine Pool.cp 8 rfl rfl rfl rfl rfl rfl rfl fun b26 h26 => ?_; refine pool_done rfl rfl ?_; refine At.regionEnd ?_
      cases b26
      · have e : xs[j] = ys[j] := by simpa using h26
        rw [if_neg (by simp [cmpI, e])] at hd
        refine At.cond rfl ?_; refine At.skip ?_; refine At.inBlock ?_; refine At.region ?_; refine At.v rfl rfl rfl rfl rfl trivial ?_; refine At.v rfl rfl rfl rfl rfl (by omega) ?_; refine At.v rfl rfl rfl rfl rfl trivial ?_; refine At.regionEnd ?_
        refine At.tA ((again ⟨j + 1, hlt, hlt', hd⟩ (by simp; omega)))
      · have e : xs[j] ≠ ys[j] := by simpa using h26
        have ec : cmpI xs[j] ys[j] = if xs[j] < ys[j] then -1 else 1 := by
          unfold cmpI
          by_cases h : xs[j] < ys[j]
          · rw [if_pos h, if_pos h]
          · rw [if_neg h, if_neg h, if_pos (by omega)]
        rw [if_pos (by rw [ec]; split <;> decide), ec] at hd
        have e2 : decide (cmpL xs ys < 0) = decide (xs[j] < ys[j]) := by
          rw [← hd]
          by_cases h : xs[j] < ys[j]
          · rw [if_pos h]; simp [h]
          · rw [if_neg h]; simp [h]
        refine At.cond rfl ?_; refine At.seq ?_; refine At.drawJ hmix [] rfl ?_; refine Pool.v 0 rfl rfl rfl rfl rfl rfl rfl trivial ?_; refine Pool.v 1 rfl rfl rfl rfl rfl rfl rfl trivial ?_; refine Pool.q 2 rfl rfl rfl rfl rfl (q_ia rfl rfl rfl (by assumption)) rfl ?_; refine Pool.ldc 3 rfl rfl rfl rfl rfl rfl rfl hc1.a rfl rfl rfl ?_; refine Pool.v 4 rfl rfl rfl rfl rfl rfl rfl trivial ?_; refine Pool.v 5 rfl rfl rfl rfl rfl rfl rfl trivial ?_
        refine Pool.q 6 rfl rfl rfl rfl rfl (q_ia rfl rfl rfl (by assumption)) rfl ?_; refine Pool.ldc 7 rfl rfl rfl rfl rfl rfl rfl hc2.a rfl rfl rfl ?_; refine Pool.cp 8 rfl rfl rfl rfl rfl rfl rfl fun b35 h35 => ?_; refine Pool.v 9 rfl rfl rfl rfl rfl rfl rfl trivial ?_; refine pool_done rfl rfl ?_; refine At.regionEnd ?_
        exact At.ret Tryz.func132 (.inr ⟨_, rfl⟩) rfl (.tmp rfl .nil) (wk (hc _ _ (⟨by rw [e2, h35]; rfl, rfl⟩)))
    · have e9 : b9 = true := by rw [← h9]; simpa using hlt
      subst e9
      (iterate 2 refine At.v rfl rfl rfl rfl rfl trivial ?_); refine At.ln rfl rfl rfl rfl rfl rfl rfl rfl ?_; refine At.cp rfl rfl rfl rfl rfl fun b14 h14 => ?_; refine At.v rfl rfl rfl rfl rfl trivial ?_; refine At.regionEnd ?_
      have e14 : b14 = false := by rw [← h14]; simpa using hlt'
      subst e14
      have e : j = ys.length := by omega
      subst e
      rw [List.drop_length, List.drop_eq_getElem_cons hlt, cmpL] at hd
      have e2 : decide (cmpL xs ys < 0) = decide (xs.length < ys.length) := by
        rw [← hd, decide_eq_decide]; omega
      refine At.cond rfl ?_; refine At.exit rfl ?_; refine At.seq (At.region ?_); refine At.v rfl rfl rfl rfl rfl trivial ?_; refine At.ln rfl rfl rfl rfl rfl rfl rfl rfl ?_; refine At.v rfl rfl rfl rfl rfl trivial ?_; refine At.ln rfl rfl rfl rfl rfl rfl rfl rfl ?_; refine At.cp rfl rfl rfl rfl rfl fun b40 h40 => ?_; refine At.v rfl rfl rfl rfl rfl trivial ?_; refine At.regionEnd ?_
      exact At.ret Tryz.func132 (.inr ⟨_, rfl⟩) rfl (.tmp rfl .nil) (wk (hc _ _ (⟨by rw [e2]; simp_all [resVal]; try omega, rfl⟩)))
  · have e9 : b9 = false := by rw [← h9]; simpa using hlt
    subst e9
    have e : j = xs.length := by omega
    subst e
    have e2 : decide (cmpL xs ys < 0) = decide (xs.length < ys.length) := by
      rw [← hd, List.drop_length, decide_eq_decide]
      rcases Nat.lt_or_ge xs.length ys.length with h | h
      · rw [List.drop_eq_getElem_cons h, cmpL]; omega
      · have : xs.length = ys.length := by omega
        rw [this, List.drop_length, cmpL]; omega
    (iterate 4 refine At.un rfl rfl rfl rfl ?_); refine At.v rfl rfl rfl rfl rfl trivial ?_; refine At.regionEnd ?_; refine At.cond rfl ?_; refine At.exit rfl ?_; refine At.seq (At.region ?_); refine At.v rfl rfl rfl rfl rfl trivial ?_; refine At.ln rfl rfl rfl rfl rfl rfl rfl rfl ?_; refine At.v rfl rfl rfl rfl rfl trivial ?_; refine At.ln rfl rfl rfl rfl rfl rfl rfl rfl ?_; refine At.cp rfl rfl rfl rfl rfl fun b40 h40 => ?_; refine At.v rfl rfl rfl rfl rfl trivial ?_; refine At.regionEnd ?_
    exact At.ret Tryz.func132 (.inr ⟨_, rfl⟩) rfl (.tmp rfl .nil) (wk (hc _ _ (⟨by rw [e2]; simp_all [resVal]; try omega, rfl⟩)))
set_option maxRecDepth 100000 in
set_option maxHeartbeats 1000000 in
/-- Smaller (ref01) -/
theorem s62 (L : Lg Tryz.prog main) (H : Facts) {a a' : Option Addr} {n n' cap cap' : Nat} {xs ys : List Int} (hn : xs.length = n) (hn' : ys.length = n') (hr : Rd H a (xs.flatMap c1)) (hr' : Rd H a' (ys.flatMap c1)) (hl : xs.length ≤ 1000) (hl' : ys.length ≤ 1000) :
    Pure L 62 #[.slice a n cap, .slice a' n' cap'] H (.bool (smallerM xs ys)) := by
  subst hn hn'
  refine Spec.enter Tryz.func62 rfl (by simp [Tryz.f62]) fun c cs hc => ?_
  have stop132 := trivial
  refine At.seq (At.region ?_); refine At.v rfl rfl rfl rfl rfl trivial ?_; refine At.regionEnd (At.seq (At.region ?_)); refine At.v rfl rfl rfl rfl rfl trivial ?_; refine At.ln rfl rfl rfl rfl rfl rfl rfl rfl ?_; refine At.v rfl rfl rfl rfl rfl trivial ?_; refine At.ln rfl rfl rfl rfl rfl rfl rfl rfl ?_; refine At.cp rfl rfl rfl rfl rfl fun b9 h9 => ?_; refine At.v rfl rfl rfl rfl rfl trivial ?_
  cases b9
  · refine At.v rfl rfl rfl rfl rfl trivial ?_
    refine At.ln rfl rfl rfl rfl rfl rfl rfl rfl ?_; refine At.v rfl rfl rfl rfl rfl trivial ?_; refine At.ln rfl rfl rfl rfl rfl rfl rfl rfl ?_; refine At.cp rfl rfl rfl rfl rfl fun b15 h15 => ?_; refine At.v rfl rfl rfl rfl rfl trivial ?_
    cases b15
    · refine At.un rfl rfl rfl rfl ?_
      (iterate 2 refine At.un rfl rfl rfl rfl ?_); (iterate 3 refine At.v rfl rfl rfl rfl rfl trivial ?_); refine At.regionEnd ?_
      exact At.ret Tryz.func62 (.inr ⟨_, rfl⟩) rfl (.tmp rfl .nil) (wk (hc _ _ (⟨by simp_all [resVal, smallerM]; try omega, rfl⟩)))
    · refine At.v rfl rfl rfl rfl rfl trivial ?_
      refine At.v rfl rfl rfl rfl rfl trivial ?_
      clear stop132
      refine At.cq rfl rfl rfl rfl rfl rfl rfl rfl (s132 L _ rfl rfl hr hr' hl hl') ?_
      have a1 : xs.length = ys.length := by simp at h15; omega
      have a2 : smallerM xs ys = decide (cmpL xs ys < 0) := by simp [smallerM, a1]
      (iterate 3 refine At.v rfl rfl rfl rfl rfl trivial ?_); refine At.regionEnd ?_
      exact At.ret Tryz.func62 (.inr ⟨_, rfl⟩) rfl (.tmp rfl .nil) (wk (hc _ _ (⟨by rw [a2]; rfl, rfl⟩)))
  · refine At.un rfl rfl rfl rfl ?_
    (iterate 9 refine At.un rfl rfl rfl rfl ?_); (iterate 2 refine At.v rfl rfl rfl rfl rfl trivial ?_); refine At.regionEnd ?_
    exact At.ret Tryz.func62 (.inr ⟨_, rfl⟩) rfl (.tmp rfl .nil) (wk (hc _ _ (⟨by simp_all [resVal, smallerM], rfl⟩)))
/-- A book with the marks at some places alone. -/
def onlyM (B : Bk) (l : List Nat) : Bk := { B with marks := l.map fun i => B.marks.getD i ((0, 0), 0) }
theorem onlyM_take {B : Bk} {l : List Nat} {j : Nat} (h : j < l.length) (hm : l[j] < B.marks.length) : (onlyM B (l.take (j + 1))).marks = (onlyM B (l.take j)).marks ++ [B.marks[l[j]]] := by
  unfold onlyM
  simp only
  rw [List.take_succ_eq_append_getElem h, List.map_append, List.map_cons, List.map_nil, List.getD_eq_getElem?_getD, List.getElem?_eq_getElem hm]
  rfl
set_option maxRecDepth 100000 in
set_option maxHeartbeats 4000000 in
/-- Only (ref02) -/
theorem s60 (L : Lg Tryz.prog main) (H : Facts) {B : Bk} {A : BkA} {a : Option Addr} {n cap : Nat} {l : List Nat} (hn : l.length = n) (hB : BkR H B A) (hr : Rd H a ((l.map Int.ofNat).flatMap c1)) (hm : ∀ i ∈ l, i < B.marks.length) (hl : l.length ≤ 1000) (hlm : B.marks.length ≤ 1000) :
    Grows L 60 #[bkV B A, .slice a n cap] H (fun v sf => ∃ a cap, v = bkV (onlyM B l) ⟨A.pa, A.pc, a, cap⟩ ∧ Sl c3 94 (.slice a (onlyM B l).marks.length cap) (onlyM B l).marks sf) := by
  subst hn
  refine Spec.enter Tryz.func60 rfl (by simp [Tryz.f60]) fun c cs hc => ?_
  have hrm := hB.m
  obtain ⟨pa, pc, ma, mc⟩ := A
  simp only at hrm
  refine At.seq (At.region ?_); refine At.bx rfl rfl rfl rfl rfl rfl rfl fun r2 => ?_; refine At.al rfl rfl rfl rfl rfl fun r4 => ?_; refine At.regionEnd (At.seq (At.region ?_)); refine At.ld 1 rfl rfl rfl rfl rfl rfl rfl rfl rfl ?_; refine At.al rfl rfl rfl rfl rfl fun r5 => ?_; refine At.st 0 rfl rfl rfl rfl rfl rfl rfl rfl rfl rfl rfl rfl ?_; refine At.regionEnd (At.seq (At.region ?_)); refine At.fa 4 rfl rfl rfl rfl rfl rfl rfl ?_
  refine At.st 0 rfl rfl rfl rfl rfl rfl rfl rfl rfl rfl rfl rfl ?_; refine At.regionEnd (At.seq (At.seq (At.region ?_))); refine At.v rfl rfl rfl rfl rfl trivial ?_; refine At.regionEnd ?_; refine At.block ?_
  refine At.lpk (X := { x : Nat × Option Addr × Nat × Facts // x.1 ≤ l.length ∧ Sl c3 94 (.slice x.2.1 (onlyM B (l.take x.1)).marks.length x.2.2.1) (onlyM B (l.take x.1)).marks x.2.2.2 }) [1, 2, 4, 5] (fun x => [(6, .int .i64 (x.1.1 : Int))]) (fun x => .own r5 (.cells #[.slice pa B.prof.length pc, .int .i64 B.size, .int .i64 B.lo, .int .i64 B.hi, .slice x.1.2.1 (onlyM B (l.take x.1.1)).marks.length x.1.2.2.1] 27 (0, 0)) :: .own r4 (.cells #[.slice none 0 0, .int .i64 0, .int .i64 0, .int .i64 0, .slice none 0 0] 27 (0, 0)) :: .own r2 (.cells (List.toArray (bkC B ⟨pa, pc, ma, mc⟩)) 27 (0, 0)) :: (x.1.2.2.2 ++ H)) (fun x => l.length - x.1.1) (⟨(0, none, 0, []), Nat.zero_le _, Sl.nil⟩) rfl ?_ (by repeat (first | exact trivial | refine ⟨rfl, ?_⟩)) sb
  rintro ⟨⟨j, a1, cap1, sf⟩, hj, hsl⟩ again
  simp only at again hj hsl ⊢
  have hlen : (onlyM B (l.take j)).marks.length ≤ 1000 := by simp only [onlyM, List.length_map, List.length_take]; omega
  refine At.seq (At.seq (At.region ?_)); (iterate 2 refine At.v rfl rfl rfl rfl rfl trivial ?_); refine At.ln rfl rfl rfl rfl rfl rfl rfl rfl ?_; refine At.cp rfl rfl rfl rfl rfl fun b12 h12 => ?_; refine At.regionEnd ?_
  cases b12
  · have e : j = l.length := by simp at h12; omega
    subst e
    rw [List.take_length] at *
    refine At.cond rfl ?_; refine At.exit rfl ?_; refine At.seq (At.region ?_); refine At.ld 0 rfl rfl rfl rfl rfl rfl rfl rfl rfl ?_; refine At.st 1 rfl rfl rfl rfl rfl rfl rfl rfl rfl rfl rfl rfl ?_; refine At.regionEnd ?_
    exact At.ret Tryz.func60 (.inr ⟨_, rfl⟩) rfl (.aggJ 1 rfl rfl rfl .nil) (wk (hc _ _ (⟨sf, ⟨a1, cap1, rfl, hsl⟩, rfl⟩)))
  · have hlt : j < l.length := by simp at h12; omega
    have hlt2 : j < (l.map Int.ofNat).length := by simpa using hlt
    obtain ⟨b, off, rfl, hc1⟩ := hr.el (List.getElem?_eq_getElem hlt2)
    rw [List.getElem_map] at hc1
    have hk := hm _ (List.getElem_mem hlt)
    obtain ⟨b', off', e', hc2⟩ := hrm.el (List.getElem?_eq_getElem hk)
    subst e'
    have hsc := onlyM_take (B := B) hlt hk
    obtain ⟨k, hke⟩ : ∃ k, l[j] = k := ⟨_, rfl⟩
    simp only [hke] at hc1 hk hc2 hsc
    have hc1' : Cells H b (off + j * 1) (c1 (k : Int)) := hc1
    clear hc1
    have stopDraw := trivial
    refine At.cond rfl ?_; refine At.skip (At.seq ?_); refine At.block ?_
    clear stopDraw
    refine At.drawS hmix 3 rfl ?_; refine Pool.fa 4 0 rfl rfl rfl rfl rfl rfl rfl rfl rfl ?_; refine Pool.ld 0 1 rfl rfl rfl rfl rfl rfl rfl rfl rfl rfl rfl ?_; refine Pool.fa 4 2 rfl rfl rfl rfl rfl rfl rfl rfl rfl ?_; refine Pool.ld 2 3 rfl rfl rfl rfl rfl rfl rfl rfl rfl rfl rfl ?_; refine Pool.v 4 rfl rfl rfl rfl rfl rfl rfl trivial ?_; refine Pool.v 5 rfl rfl rfl rfl rfl rfl rfl trivial ?_; refine Pool.q 6 rfl rfl rfl rfl rfl (q_ia rfl rfl rfl (by assumption)) rfl ?_
    refine Pool.ldc 7 rfl rfl rfl rfl rfl rfl rfl hc1'.a rfl rfl rfl ?_; refine Pool.q 8 rfl rfl rfl rfl rfl (q_ia rfl rfl rfl (by assumption)) rfl ?_; refine Pool.ldc 9 rfl rfl rfl rfl rfl rfl rfl hc2.a rfl rfl rfl ?_; refine Pool.bs 10 rfl rfl rfl rfl rfl rfl rfl rfl rfl rfl rfl rfl rfl rfl rfl sb fun r25 => ?_; refine Pool.fa 4 12 rfl rfl rfl rfl rfl rfl rfl rfl rfl ?_
    refine Pool.push (x := B.marks[k]) 11 0 4 rfl rfl rfl rfl rfl rfl rfl rfl rfl rfl rfl rfl rfl rfl rfl rfl rfl rfl rfl rfl rfl hsl rfl rfl rfl (by repeat (first | exact Sub.refl _ | exact Sub.pre _ _ | apply Sub.cons | apply Sub.drop | apply Sub.appL | apply Sub.dropL)) (by omega) fun v sf' hs' => ?_
    rw [← hsc] at hs'
    obtain ⟨a', cap', rfl⟩ := hs'.slice
    have ag := again ⟨(j + 1, a', cap', sf'), hlt, hs'⟩ (by simp; omega)
    simp only at ag
    skip
    refine Pool.flush 13 (Hq' := H) rfl rfl rfl rfl rfl rfl (by repeat (first | exact Sub.refl _ | exact Sub.pre _ _ | apply Sub.cons | apply Sub.drop | apply Sub.appL | apply Sub.dropL)) ?_; refine Pool.st 1 13 rfl rfl rfl rfl rfl rfl rfl rfl rfl rfl rfl rfl rfl rfl rfl rfl rfl rfl sb ?_; refine pool_done rfl rfl ?_; refine At.regionEnd ?_; refine At.inBlock ?_; refine At.region ?_; refine At.v rfl rfl rfl rfl rfl trivial ?_; refine At.v rfl rfl rfl rfl rfl (by omega) ?_
    refine At.v rfl rfl rfl rfl rfl trivial ?_; refine At.regionEnd ?_
    refine At.tA (ag)
end Go.Gx
end

section
set_option linter.unusedSimpArgs false
set_option linter.unusedVariables false
namespace Go.Gx
open Go Go.Conc Go.Proofs

/-! ### sets of marks, by numbers -/
def idxN (mask : Nat) : Nat → List Nat
  | 0 => []
  | i + 1 => idxN mask i ++ (if bitM mask i then [i] else [])
theorem idxTo_N (mask : Nat) : ∀ i, idxTo mask i = (idxN mask i).map Int.ofNat
  | 0 => rfl
  | i + 1 => by
    unfold idxTo idxN
    rw [idxTo_N mask i, List.map_append]
    split <;> rfl
theorem mksTo_N (B : Bk) (mask : Nat) : ∀ i, mksTo B mask i = (idxN mask i).map fun k => B.marks.getD k ((0, 0), 0)
  | 0 => rfl
  | i + 1 => by
    unfold mksTo idxN
    rw [mksTo_N B mask i, List.map_append]
    split <;> rfl
theorem subM_N (B : Bk) (mask : Nat) : subM B mask = onlyM B (idxN mask B.marks.length) := by
  unfold subM onlyM
  rw [mksTo_N]
theorem idxN_lt {mask : Nat} : ∀ {i k : Nat}, k ∈ idxN mask i → k < i
  | 0, k, h => by cases h
  | i + 1, k, h => by
    unfold idxN at h
    rcases List.mem_append.1 h with h | h
    · have := idxN_lt h; omega
    · split at h
      · rw [List.mem_singleton] at h; omega
      · cases h
theorem idxN_len (mask i : Nat) : (idxN mask i).length ≤ i := by
  have := idxTo_len mask i
  rwa [idxTo_N, List.length_map] at this
theorem idx_climbs (n : Nat) (hn : n ≤ 4) (j : Nat) (hj : j < 16) : climbsM (n : Int) none (idxTo j n) = 0 := by
  have h : ∀ n ∈ List.range 5, ∀ j ∈ List.range 16, climbsM ((n : Nat) : Int) none (idxTo j n) = 0 := by decide
  exact h n (List.mem_range.2 (by omega)) j (List.mem_range.2 hj)
theorem idx_erase (n : Nat) (hn : n ≤ 4) (j : Nat) (hj : j < 16) (i : Nat) (hi : i < (idxN j n).length) : ∃ q, q < 2 ^ n ∧ idxN q n = (idxN j n).eraseIdx i := by
  have h : ∀ n ∈ List.range 5, ∀ j ∈ List.range 16, ∀ i ∈ List.range 4, i < (idxN j n).length → ∃ q ∈ List.range 16, q < 2 ^ n ∧ idxN q n = (idxN j n).eraseIdx i := by decide
  obtain ⟨q, _, h1, h2⟩ := h n (List.mem_range.2 (by omega)) j (List.mem_range.2 hj) i (List.mem_range.2 (by have := idxN_len j n; omega)) hi
  exact ⟨q, h1, h2⟩
theorem bit_mod {m n i : Nat} (h : i < n) : bitM (m % 2 ^ n) i = bitM m i := by
  unfold bitM
  have h1 := Nat.testBit_mod_two_pow m n i
  rw [Nat.testBit_eq_decide_div_mod_eq, Nat.testBit_eq_decide_div_mod_eq] at h1
  rw [h1]; simp [h]
theorem idx_mod (m n : Nat) : ∀ i, i ≤ n → idxN (m % 2 ^ n) i = idxN m i
  | 0, _ => rfl
  | i + 1, h => by
    unfold idxN
    rw [idx_mod m n i (by omega), bit_mod (by omega)]
/-! ### the order of lists -/
theorem cmpL_irr : ∀ xs : List Int, cmpL xs xs = 0
  | [] => rfl
  | x :: xs => by
    unfold cmpL
    have : cmpI x x = 0 := by unfold cmpI; rw [if_neg (by omega), if_neg (by omega)]
    rw [this, if_neg (by simp)]
    exact cmpL_irr xs
theorem cmpI_neg {x y : Int} : cmpI x y < 0 ↔ x < y := by
  unfold cmpI
  split
  · simp; omega
  · split
    · simp; omega
    · simp; omega
theorem cmpI_zero {x y : Int} : cmpI x y = 0 ↔ x = y := by
  unfold cmpI
  split
  · simp; omega
  · split
    · simp; omega
    · simp; omega
theorem cmpL_neg_cons {x y : Int} {xs ys : List Int} : cmpL (x :: xs) (y :: ys) < 0 ↔ x < y ∨ (x = y ∧ cmpL xs ys < 0) := by
  rw [cmpL]
  by_cases h : cmpI x y = 0
  · have e := cmpI_zero.1 h
    rw [if_neg (by simpa using h)]
    constructor
    · exact fun h2 => .inr ⟨e, h2⟩
    · rintro (h2 | ⟨_, h2⟩)
      · omega
      · exact h2
  · rw [if_pos h]
    have e : x ≠ y := fun e => h (cmpI_zero.2 e)
    rw [cmpI_neg]
    constructor
    · exact .inl
    · rintro (h2 | ⟨h2, _⟩)
      · exact h2
      · exact absurd h2 e
theorem cmpL_trans : ∀ {xs ys zs : List Int}, xs.length = ys.length → ys.length = zs.length → cmpL xs ys < 0 → cmpL ys zs < 0 → cmpL xs zs < 0
  | [], [], _, _, _, h, _ => absurd h (by decide)
  | [], _ :: _, _, h, _, _, _ => by simp at h
  | _ :: _, [], _, h, _, _, _ => by simp at h
  | _ :: _, _ :: _, [], _, h, _, _ => by simp at h
  | x :: xs, y :: ys, z :: zs, h1, h2, h3, h4 => by
    rw [cmpL_neg_cons] at h3 h4 ⊢
    rcases h3 with h3 | ⟨rfl, h3⟩
    · rcases h4 with h4 | ⟨rfl, h4⟩
      · exact .inl (by omega)
      · exact .inl h3
    · rcases h4 with h4 | ⟨rfl, h4⟩
      · exact .inl h4
      · exact .inr ⟨rfl, cmpL_trans (by simpa using h1) (by simpa using h2) h3 h4⟩
theorem smaller_spec {xs ys : List Int} : smallerM xs ys = true ↔ xs.length < ys.length ∨ (xs.length = ys.length ∧ cmpL xs ys < 0) := by
  unfold smallerM
  rw [decide_eq_true_eq]
theorem smaller_irr (xs : List Int) : smallerM xs xs = false := by
  rw [Bool.eq_false_iff, ne_eq, smaller_spec, cmpL_irr]
  omega
theorem smaller_trans {xs ys zs : List Int} (h1 : smallerM xs ys = true) (h2 : smallerM ys zs = true) : smallerM xs zs = true := by
  rw [smaller_spec] at *
  rcases h1 with h1 | ⟨h1, h3⟩
  · rcases h2 with h2 | ⟨h2, _⟩
    · left; omega
    · left; omega
  · rcases h2 with h2 | ⟨h2, h4⟩
    · left; omega
    · right; exact ⟨by omega, cmpL_trans h1 h2 h3 h4⟩
theorem bestM_leq {α : Type} {r : α → α → Bool} (hi : ∀ x, r x x = false) (ht : ∀ {x y z}, r x y = true → r y z = true → r x z = true) : ∀ (l : List α) (one : α), bestM r one l = one ∨ r (bestM r one l) one = true
  | [], one => .inl rfl
  | x :: l, one => by
    show bestM r (if r x one = true then x else one) l = one ∨ _
    by_cases h : r x one = true
    · have e : bestM r one (x :: l) = bestM r x l := by show bestM r (if r x one = true then x else one) l = _; rw [if_pos h]
      rw [e]
      rcases bestM_leq hi ht l x with h1 | h1
      · rw [h1]; exact .inr h
      · exact .inr (ht h1 h)
    · have e : bestM r one (x :: l) = bestM r one l := by show bestM r (if r x one = true then x else one) l = _; rw [if_neg h]
      rw [if_neg h, e]
      exact bestM_leq hi ht l one
theorem bestM_least {α : Type} {r : α → α → Bool} (hi : ∀ x, r x x = false) (ht : ∀ {x y z}, r x y = true → r y z = true → r x z = true) : ∀ (l : List α) (one : α), ∀ y ∈ one :: l, r y (bestM r one l) = false
  | [], one, y, hy => by
    obtain rfl : y = one := by simpa using hy
    exact hi _
  | x :: l, one, y, hy => by
    have e : bestM r one (x :: l) = bestM r (if r x one = true then x else one) l := rfl
    rw [e]
    have key : ∀ w, bestM r w l = w ∨ r (bestM r w l) w = true := fun w => bestM_leq hi ht l w
    have no : ∀ w z, (bestM r w l = w ∨ r (bestM r w l) w = true) → r z w = false → r z (bestM r w l) = false := by
      intro w z h1 h2
      rcases h1 with h1 | h1
      · rw [h1]; exact h2
      · cases h3 : r z (bestM r w l)
        · rfl
        · rw [ht h3 h1] at h2; cases h2
    by_cases h : r x one = true
    · rw [if_pos h]
      rcases List.mem_cons.1 hy with rfl | hy
      · refine no x y (key x) ?_
        cases h3 : r y x
        · rfl
        · have := ht h3 h; rw [hi] at this; cases this
      · exact bestM_least hi ht l x y hy
    · rw [if_neg h]
      rcases List.mem_cons.1 hy with rfl | hy
      · exact bestM_least hi ht l y y (List.mem_cons_self ..)
      · rcases List.mem_cons.1 hy with rfl | hy
        · exact no one y (key one) (by simpa using h)
        · exact bestM_least hi ht l one y (List.mem_cons_of_mem _ hy)
/-! ### the least set of marks that clash -/
def oddB (B : Bk) (l : List Nat) : Prop := (statesM (onlyM B l)).length = 0
theorem mem_odd {B : Bk} {N : Nat} {l : List Int} : l ∈ oddTo B N ↔ ∃ j, j < N ∧ oddB B (idxN j B.marks.length) ∧ l = idxTo j B.marks.length := by
  induction N with
  | zero => simp [oddTo]
  | succ N ih =>
    unfold oddTo
    rw [List.mem_append, ih]
    constructor
    · rintro (⟨j, h1, h2, h3⟩ | h)
      · exact ⟨j, by omega, h2, h3⟩
      · split at h
        · rename_i h0
          refine ⟨N, by omega, ?_, by simpa using h⟩
          unfold oddB
          rw [← subM_N]; exact h0
        · cases h
    · rintro ⟨j, h1, h2, h3⟩
      by_cases e : j = N
      · subst e
        right
        unfold oddB at h2
        rw [← subM_N] at h2
        rw [if_pos h2, h3]
        simp
      · exact .inl ⟨j, by omega, h2, h3⟩
theorem only_nil {B : Bk} (hz : bookBar B = 0) : ¬ oddB B [] := by
  intro h
  have hb := bounds_of_bar hz
  have hm : B.lo ∈ statesM (onlyM B []) := by
    refine mem_states.2 ⟨⟨Int.le_refl _, by show B.lo ≤ B.hi; omega⟩, ?_⟩
    simp [rightM, onlyM]
  have := List.length_pos_of_mem hm
  unfold oddB at h
  omega
theorem only_bar {B : Bk} (hz : bookBar B = 0) {l : List Nat} (hl : l.length ≤ 4) (hm : ∀ i ∈ l, i < B.marks.length) : bookBar (onlyM B l) = 0 := by
  have hb := bounds_of_bar hz
  refine bookBar_marks hz (by simpa using hl) fun m h => ?_
  obtain ⟨i, hi, rfl⟩ := List.mem_map.1 h
  have := hm i hi
  rw [List.getD_eq_getElem?_getD, List.getElem?_eq_getElem this]
  exact hb.2.2.2.2.2.2.2.2.2.2 _ (List.getElem_mem _)
theorem clash_law {B : Bk} (hz : bookBar B = 0) (h0 : (statesM B).length = 0) :
    ∃ l : List Nat, clashL B = l.map Int.ofNat ∧ 0 < l.length ∧ l.length ≤ 4 ∧ (∀ i ∈ l, i < B.marks.length) ∧ climbsM B.marks.length none (l.map Int.ofNat) = 0 ∧ oddB B l ∧
      (∀ i, i < l.length → ¬ oddB B (l.eraseIdx i)) ∧ ∀ bits, oddB B (idxN bits B.marks.length) → smallerM ((idxN bits B.marks.length).map Int.ofNat) (l.map Int.ofNat) = false := by
  have hb := bounds_of_bar hz
  have hm4 : B.marks.length ≤ 4 := by omega
  have hN : 2 ^ B.marks.length ≤ 16 := Nat.pow_le_pow_right (by omega) hm4
  have hp := odd_pos h0
  have hhd : (oddTo B (2 ^ B.marks.length)) = (oddTo B (2 ^ B.marks.length)).headD [] :: (oddTo B (2 ^ B.marks.length)).drop 1 := by
    cases h : oddTo B (2 ^ B.marks.length) with
    | nil => rw [h] at hp; simp at hp
    | cons x l => rfl
  have hmin := bestM_least smaller_irr (fun h1 h2 => smaller_trans h1 h2) ((oddTo B (2 ^ B.marks.length)).drop 1) ((oddTo B (2 ^ B.marks.length)).headD [])
  have hmem := bestM_mem smallerM ((oddTo B (2 ^ B.marks.length)).headD []) ((oddTo B (2 ^ B.marks.length)).drop 1)
  rw [← hhd] at hmin hmem
  have ec : clashL B = bestM smallerM ((oddTo B (2 ^ B.marks.length)).headD []) ((oddTo B (2 ^ B.marks.length)).drop 1) := by
    unfold clashL; rw [if_pos h0]
  rw [← ec] at hmin hmem
  obtain ⟨j, h1, h2, h3⟩ := mem_odd.1 hmem
  rw [idxTo_N] at h3
  have hall : ∀ q, q < 2 ^ B.marks.length → oddB B (idxN q B.marks.length) → smallerM ((idxN q B.marks.length).map Int.ofNat) ((idxN j B.marks.length).map Int.ofNat) = false := by
    intro q hq ho
    have := hmin _ (mem_odd.2 ⟨q, hq, ho, rfl⟩)
    rwa [idxTo_N, h3] at this
  have hlen := idxN_len j B.marks.length
  refine ⟨idxN j B.marks.length, h3, ?_, by omega, fun i hi => idxN_lt hi, ?_, h2, ?_, ?_⟩
  · rcases Nat.eq_zero_or_pos (idxN j B.marks.length).length with h | h
    · have := List.eq_nil_of_length_eq_zero h
      rw [this] at h2
      exact absurd h2 (only_nil hz)
    · exact h
  · rw [← idxTo_N]
    exact idx_climbs _ hm4 _ (by omega)
  · intro i hi ho
    obtain ⟨q, hq, hqe⟩ := idx_erase _ hm4 j (by omega) i hi
    rw [← hqe] at ho
    have h4 := hall q hq ho
    rw [Bool.eq_false_iff, ne_eq, smaller_spec] at h4
    apply h4
    left
    rw [List.length_map, List.length_map, hqe, List.length_eraseIdx_of_lt hi]
    omega
  · intro bits ho
    have := hall (bits % 2 ^ B.marks.length) (Nat.mod_lt _ (Nat.two_pow_pos _)) (by rw [idx_mod _ _ _ (Nat.le_refl _)]; exact ho)
    rwa [idx_mod _ _ _ (Nat.le_refl _)] at this
end Go.Gx
end

section
set_option linter.unusedSimpArgs false
set_option linter.unusedVariables false
namespace Go.Gx
open Go Go.Conc Go.Proofs

end Go.Gx
end

section
set_option linter.unusedSimpArgs false
set_option linter.unusedVariables false
namespace Go.Gx
open Go Go.Conc Go.Proofs

/-! ### how many states are left at most -/
end Go.Gx
end

section
set_option linter.unusedSimpArgs false
set_option linter.unusedVariables false
namespace Go.Gx
open Go Go.Conc Go.Proofs

/-! ### the plain law of CanvasAsked -/
end Go.Gx
end

section
set_option linter.unusedSimpArgs false
set_option linter.unusedVariables false
namespace Go.Gx
open Go Go.Conc Go.Proofs

/-! ### fractions in lowest terms -/
theorem low_eq' {n d n' d' : Int} (hd : 0 < d) (hd' : 0 < d') (h : n * d' = n' * d) : low n d = low n' d' := by
  rw [← low_scale (n := n) (d := d) hd', ← low_scale (n := n') (d := d') hd, h, Int.mul_comm d d']
theorem low_eq {n d n' d' : Int} (hd : d ≠ 0) (hd' : d' ≠ 0) (h : n * d' = n' * d) : low n d = low n' d' := by
  have flip : ∀ n d : Int, d ≠ 0 → ∃ n1 d1 : Int, 0 < d1 ∧ low n d = low n1 d1 ∧ ((n1 = n ∧ d1 = d) ∨ (n1 = -n ∧ d1 = -d)) := by
    intro n d hd
    by_cases h : 0 < d
    · exact ⟨n, d, h, rfl, .inl ⟨rfl, rfl⟩⟩
    · exact ⟨-n, -d, by omega, (low_neg hd).symm, .inr ⟨rfl, rfl⟩⟩
  obtain ⟨n1, d1, h1, e1, c1⟩ := flip n d hd
  obtain ⟨n2, d2, h2, e2, c2⟩ := flip n' d' hd'
  rw [e1, e2]
  refine low_eq' h1 h2 ?_
  rcases c1 with ⟨rfl, rfl⟩ | ⟨rfl, rfl⟩ <;> rcases c2 with ⟨rfl, rfl⟩ | ⟨rfl, rfl⟩ <;> grind
def IsLow (x : R2) : Prop := 1 ≤ x.2 ∧ low x.1 x.2 = x
theorem IsLow.inj {x y : R2} (hx : IsLow x) (hy : IsLow y) (h : x.1 * y.2 = y.1 * x.2) : x = y := by
  rw [← hx.2, ← hy.2]
  exact low_eq (by have := hx.1; omega) (by have := hy.1; omega) h
/-! ### a point at which a line meets a piece -/
/-! ### the nearest one -/
/-! ### points of the profile on the line; lines that miss the canvas -/
end Go.Gx
end

section
set_option linter.unusedSimpArgs false
set_option linter.unusedVariables false
namespace Go.Gx
open Go Go.Conc Go.Proofs

/-! ### the plain law of CanvasExact -/
end Go.Gx
end

section
set_option linter.unusedSimpArgs false
set_option linter.unusedVariables false
namespace Go.Gx
open Go Go.Conc Go.Proofs

end Go.Gx
end

section
set_option linter.unusedSimpArgs false
set_option linter.unusedVariables false
namespace Go.Gx
open Go Go.Conc Go.Proofs

/-! ### the plain law of CanvasNearest -/
end Go.Gx
end

section
set_option linter.unusedSimpArgs false
set_option linter.unusedVariables false
namespace Go.Gx
open Go Go.Conc Go.Proofs

/-! ### a canvas that is raised, or twice as large -/
end Go.Gx
end

section
set_option linter.unusedSimpArgs false
set_option linter.unusedVariables false
namespace Go.Gx
open Go Go.Conc Go.Proofs
variable {main : Bool}

end Go.Gx
end

section
set_option linter.unusedSimpArgs false
set_option linter.unusedVariables false
namespace Go.Gx
open Go Go.Conc Go.Proofs
variable {main : Bool}

def uptoM (n : Nat) : List Int := (List.range n).map Int.ofNat
theorem uptoM_succ (n : Nat) : uptoM (n + 1) = uptoM n ++ [(n : Int)] := by simp [uptoM, List.range_succ]
theorem uptoM_len (n : Nat) : (uptoM n).length = n := by simp [uptoM]
set_option maxRecDepth 100000 in
/-- Upto (ref01) -/
theorem s142 (L : Lg Tryz.prog main) (H : Facts) {n : Nat} (hn : n ≤ 1000) : Grows L 142 #[.int .i64 (n : Int)] H (fun v sf => Sl c1 3 v (uptoM n) sf) := by
  refine Spec.enter Tryz.func142 rfl (by simp [Tryz.f142]) fun c cs hc => ?_; refine At.seq (At.region ?_); refine At.v rfl rfl rfl rfl rfl trivial ?_; refine At.regionEnd (At.seq (At.region ?_)); refine At.v rfl rfl rfl rfl rfl trivial ?_; refine At.regionEnd (At.seq (At.seq (At.region ?_))); refine At.v rfl rfl rfl rfl rfl trivial ?_; refine At.regionEnd ?_; refine At.block ?_
  refine At.lpk (X := { x : Nat × Value × Facts // x.1 ≤ n ∧ Sl c1 3 x.2.1 (uptoM x.1) x.2.2 }) [0, 2] (fun x => [(4, .int .i64 (x.1.1 : Int)), (3, x.1.2.1)]) (fun x => x.1.2.2 ++ H) (fun x => n - x.1.1) (⟨(0, .slice none 0 0, []), Nat.zero_le _, Sl.nil⟩) rfl ?_ (by repeat (first | exact trivial | refine ⟨rfl, ?_⟩)) sb
  rintro ⟨⟨j, vl, sfo⟩, hj, hsl⟩ again
  simp only at again hj hsl ⊢
  have hjl := uptoM_len j
  refine At.seq (At.seq (At.region ?_)); (iterate 2 refine At.v rfl rfl rfl rfl rfl trivial ?_); refine At.cp rfl rfl rfl rfl rfl fun b7 h7 => ?_; refine At.regionEnd ?_
  cases b7
  · have e : j = n := by simp at h7; omega
    subst e
    refine At.cond rfl ?_; refine At.exit rfl ?_; refine At.seq (At.region ?_); (iterate 2 refine At.v rfl rfl rfl rfl rfl trivial ?_); refine At.regionEnd ?_
    exact At.ret Tryz.func142 (.inr ⟨_, rfl⟩) rfl (.tmp rfl .nil) (wk (hc _ _ (⟨sfo, hsl, rfl⟩)))
  · have hlt : j < n := by simp at h7; omega
    refine At.cond rfl ?_; refine At.skip (At.seq ?_); refine At.block ?_; refine At.region ?_; (iterate 2 refine At.v rfl rfl rfl rfl rfl trivial ?_)
    (refine At.l rfl rfl rfl rfl (l_buildSlice rfl rfl rfl rfl rfl) ?_; rintro _ _ ⟨r12, rfl, rfl⟩)
    refine At.push (x := (j : Int)) 0 1 rfl rfl rfl rfl rfl rfl rfl rfl rfl rfl rfl rfl rfl rfl hsl rfl rfl rfl ?_ fun v sf hs => ?_
    · omega
    refine At.v rfl rfl rfl rfl rfl trivial ?_; refine At.regionEnd ?_; refine At.inBlock ?_; refine At.region ?_; refine At.v rfl rfl rfl rfl rfl trivial ?_; refine At.v rfl rfl rfl rfl rfl (by omega) ?_; refine At.v rfl rfl rfl rfl rfl trivial ?_; refine At.regionEnd ?_
    refine At.tA ((again ⟨(j + 1, v, sf), hlt, by rw [uptoM_succ]; exact hs⟩ (by simp; omega)))
/-- Sets. -/
def setsM (most : Nat) : Nat → List (List Int)
  | 0 => [[]]
  | n + 1 => setsM most n ++ ((setsM most n).reverse.filter fun l => decide (l.length < most)).map (· ++ [(n : Int)])
def setsIn (most : Nat) (n : Int) (all : List (List Int)) (j : Nat) : List (List Int) := all ++ ((all.reverse.take j).filter fun l => decide (l.length < most)).map (· ++ [n])
theorem setsIn_succ {most : Nat} {n : Int} {all : List (List Int)} {j : Nat} (h : j < all.length) :
    setsIn most n all (j + 1) = setsIn most n all j ++ (if (all[all.length - 1 - j]).length < most then [all[all.length - 1 - j] ++ [n]] else []) := by
  unfold setsIn
  rw [List.take_succ_eq_append_getElem (by simpa using h), List.filter_append, List.map_append, List.append_assoc]
  congr 2
  rw [List.getElem_reverse]
  by_cases e : (all[all.length - 1 - j]).length < most
  · simp [e]
  · simp [e]
theorem setsIn_all {most : Nat} {n : Nat} : setsIn most (n : Int) (setsM most n) (setsM most n).length = setsM most (n + 1) := by
  unfold setsIn
  rw [List.take_of_length_le (by simp)]
  rfl
theorem setsM_len {most : Nat} : ∀ n, (setsM most n).length ≤ 2 ^ n
  | 0 => by simp [setsM]
  | n + 1 => by
    have := setsM_len (most := most) n
    have h2 := List.length_filter_le (fun l : List Int => decide (l.length < most)) (setsM most n).reverse
    simp only [setsM, List.length_append, List.length_map]
    rw [List.length_reverse] at h2
    omega
theorem setsM_xs {most : Nat} : ∀ n, ∀ l ∈ setsM most n, l.length ≤ n
  | 0, l, h => by simp [setsM] at h; simp [h]
  | n + 1, l, h => by
    simp only [setsM, List.mem_append, List.mem_map, List.mem_filter, List.mem_reverse] at h
    rcases h with h | ⟨x, ⟨h, _⟩, rfl⟩
    · have := setsM_xs n l h; omega
    · have := setsM_xs n x h
      simp; omega
set_option maxRecDepth 100000 in
set_option maxHeartbeats 4000000 in
/-- Sets (ref01) -/
theorem s143 (L : Lg Tryz.prog main) (H : Facts) {n most : Nat} (hn : n ≤ 4) (hm : most ≤ 1000) : Grows L 143 #[.int .i64 (n : Int), .int .i64 (most : Int)] H
    (fun v sf => ∃ es so sl, sf = so ++ sl ∧ Sl cL 38 v es so ∧ es.map LE.xs = setsM most n ∧ ∀ e ∈ es, Rd sl e.a (e.xs.flatMap c1) ∧ e.xs.length ≤ e.cap) := by
  refine Spec.enter Tryz.func143 rfl (by simp [Tryz.f143]) fun c cs hc => ?_; refine At.seq (At.region ?_); refine At.v rfl rfl rfl rfl rfl trivial ?_; refine At.regionEnd (At.seq (At.region ?_))
  (refine At.l rfl rfl rfl rfl (l_buildSlice rfl rfl rfl rfl rfl) ?_; rintro _ _ ⟨r8, rfl, rfl⟩)
  refine At.v rfl rfl rfl rfl rfl trivial ?_; refine At.regionEnd (At.seq (At.seq (At.region ?_))); refine At.v rfl rfl rfl rfl rfl trivial ?_; refine At.regionEnd ?_; refine At.block ?_
  have h0 : Sl cL 38 (.slice (some ⟨r8, 0, none⟩) 1 1) [(⟨none, 0, []⟩ : LE)] [.own r8 (.cells #[.slice none 0 0] 38 (0, 0))] := IsSl.own r8 1 1 [.slice none 0 0] [] rfl rfl (by omega)
  refine At.weakH (H' := [.own r8 (.cells #[.slice none 0 0] 38 (0, 0))] ++ ([] ++ H)) ?_ (Sub.refl _)
  refine At.lpk (X := { x : Nat × Value × List LE × Facts × Facts // x.1 ≤ n ∧ Sl cL 38 x.2.1 x.2.2.1 x.2.2.2.1 ∧ x.2.2.1.map LE.xs = setsM most x.1 ∧ ∀ e ∈ x.2.2.1, Rd x.2.2.2.2 e.a (e.xs.flatMap c1) ∧ e.xs.length ≤ e.cap }) [0, 1, 4] (fun x => [(6, .int .i64 (x.1.1 : Int)), (5, x.1.2.1)]) (fun x => x.1.2.2.2.1 ++ (x.1.2.2.2.2 ++ H)) (fun x => n - x.1.1) (⟨(0, .slice (some ⟨r8, 0, none⟩) 1 1, [⟨none, 0, []⟩], _, []), Nat.zero_le _, h0, rfl, by simp [Rd]⟩) rfl ?_ (by repeat (first | exact trivial | refine ⟨rfl, ?_⟩)) sb
  rintro ⟨⟨j, vo, es, sfo, sfl⟩, hj, hso, hes, hrd⟩ again
  simp only at again hj hso hes hrd ⊢
  have hel : es.length = (setsM most j).length := by rw [← hes, List.length_map]
  have hle : (setsM most j).length ≤ 16 := Nat.le_trans (setsM_len j) (Nat.le_trans (Nat.pow_le_pow_right (by omega) (show j ≤ 4 by omega)) (by decide))
  refine At.seq (At.seq (At.region ?_)); (iterate 2 refine At.v rfl rfl rfl rfl rfl trivial ?_); refine At.cp rfl rfl rfl rfl rfl fun b11 h11 => ?_; refine At.regionEnd ?_
  cases b11
  · have e : j = n := by simp at h11; omega
    subst e
    refine At.cond rfl ?_; refine At.exit rfl ?_; refine At.seq (At.region ?_); (iterate 2 refine At.v rfl rfl rfl rfl rfl trivial ?_); refine At.regionEnd ?_
    exact At.ret Tryz.func143 (.inr ⟨_, rfl⟩) rfl (.tmp rfl .nil) (wk (hc _ _ (⟨sfo ++ sfl, ⟨es, sfo, sfl, rfl, hso, hes, hrd⟩, (List.append_assoc ..).symm⟩)))
  · have hlt : j < n := by simp at h11; omega
    obtain ⟨ao, co, rfl⟩ := hso.slice
    refine At.cond rfl ?_; refine At.skip (At.seq ?_); refine At.block ?_; refine At.seq (At.region ?_); refine At.v rfl rfl rfl rfl rfl trivial ?_; refine At.ln rfl rfl rfl rfl rfl rfl rfl rfl ?_; refine At.v rfl rfl rfl rfl rfl (by omega) ?_; refine At.v rfl rfl rfl rfl rfl trivial ?_; refine At.regionEnd ?_; refine At.block ?_
    refine At.lpk (X := { x : Nat × Value × List LE × Facts × Facts × Int // x.1 ≤ es.length ∧ Sl cL 38 x.2.1 x.2.2.1 x.2.2.2.1 ∧ x.2.2.1.map LE.xs = setsIn most (j : Int) (setsM most j) x.1 ∧ es.length ≤ x.2.2.1.length ∧ (∀ e ∈ x.2.2.1, Rd x.2.2.2.2.1 e.a (e.xs.flatMap c1) ∧ e.xs.length ≤ e.cap) ∧ x.2.2.2.2.2 = (es.length : Int) - 1 - (x.1 : Int) }) [0, 1, 4, 6, 9, 10, 11, 14, 15, 16] (fun x => [(7, .int .i64 x.1.2.2.2.2.2), (5, x.1.2.1)]) (fun x => x.1.2.2.2.1 ++ (x.1.2.2.2.2.1 ++ H)) (fun x => es.length - x.1.1) (⟨(0, .slice ao es.length co, es, sfo, sfl, (es.length : Int) - 1), Nat.zero_le _, hso, by rw [hes]; simp [setsIn], Nat.le_refl _, hrd, by simp⟩) rfl ?_ (by repeat (first | exact trivial | refine ⟨rfl, ?_⟩)) sb
    rintro ⟨⟨q, vp, ep, sfp, sfm, kk⟩, hq, hsp, hep, hlp, hrp, hkk⟩ again2
    simp only at again2 hq hsp hep hlp hrp hkk ⊢
    have hpl : ep.length ≤ 32 := by
      have := congrArg List.length hep
      rw [List.length_map] at this
      rw [this]
      unfold setsIn
      have h2 := List.length_filter_le (fun l : List Int => decide (l.length < most)) ((setsM most j).reverse.take q)
      rw [List.length_take, List.length_reverse] at h2
      rw [List.length_append, List.length_map]
      omega
    obtain ⟨ap, cp, rfl⟩ := hsp.slice
    refine At.seq (At.seq (At.region ?_)); refine At.v rfl rfl rfl rfl rfl trivial ?_; refine At.cp rfl rfl rfl rfl rfl fun b18 h18 => ?_; refine At.regionEnd ?_
    cases b18
    · have e : q = es.length := by simp at h18; omega
      subst e
      rw [hel, setsIn_all] at hep
      refine At.cond rfl ?_; refine At.exit rfl ?_; refine At.inBlock ?_; refine At.region ?_; refine At.v rfl rfl rfl rfl rfl trivial ?_; refine At.v rfl rfl rfl rfl rfl (by omega) ?_; refine At.v rfl rfl rfl rfl rfl trivial ?_; refine At.regionEnd ?_
      refine At.tA ((again ⟨(j + 1, _, ep, sfp, sfm), hlt, hsp, hep, hrp⟩ (by simp; omega)))
    · have hqlt : q < es.length := by simp at h18; omega
      obtain ⟨_, hrpd, hcpp⟩ := hsp.rd
      have hk : es.length - 1 - q < ep.length := by omega
      obtain ⟨bk, offk, ek, hck⟩ := hrpd.el (List.getElem?_eq_getElem hk)
      cases ek
      obtain rfl : kk = ((es.length - 1 - q : Nat) : Int) := by omega
      obtain ⟨hre, hce⟩ := hrp _ (List.getElem_mem hk)
      have hxs : ep[es.length - 1 - q].xs = (setsM most j)[es.length - 1 - q]'(by omega) := by
        have h1 : (ep.map LE.xs)[es.length - 1 - q]? = some ep[es.length - 1 - q].xs := by rw [List.getElem?_map, List.getElem?_eq_getElem hk]; rfl
        rw [hep] at h1
        unfold setsIn at h1
        rw [List.getElem?_append_left (by omega), List.getElem?_eq_getElem (by omega)] at h1
        exact (Option.some.inj h1).symm
      have hxl := setsM_xs (most := most) j _ (List.getElem_mem (show es.length - 1 - q < (setsM most j).length by omega))
      rw [← hxs] at hxl
      have hsucc := setsIn_succ (most := most) (n := (j : Int)) (all := setsM most j) (j := q) (by omega)
      simp only [← hel, ← hxs] at hsucc
      generalize ep[es.length - 1 - q] = E0 at hck hre hce hxs hxl hsucc
      obtain ⟨ea, ec, ex⟩ := E0
      simp only at hre hce hxl hsucc
      refine At.cond rfl ?_; refine At.skip (At.seq ?_); refine At.block ?_; refine At.seq (At.region ?_); (iterate 2 refine At.v rfl rfl rfl rfl rfl trivial ?_); refine At.q rfl rfl rfl rfl (q_ia rfl rfl rfl (by assumption)) ?_; refine At.ldc rfl rfl rfl rfl rfl rfl hck.a rfl rfl ?_; refine At.ln rfl rfl rfl rfl rfl rfl rfl rfl ?_; refine At.v rfl rfl rfl rfl rfl trivial ?_; refine At.cp rfl rfl rfl rfl rfl fun b27 h27 => ?_; refine At.regionEnd ?_
      cases b27
      · have hge : ¬ ex.length < most := by simp at h27; omega
        rw [if_neg hge, List.append_nil] at hsucc
        refine At.cond rfl ?_; refine At.skip ?_; refine At.inBlock ?_; refine At.region ?_; refine At.v rfl rfl rfl rfl rfl trivial ?_; refine At.v rfl rfl rfl rfl rfl (by omega) ?_; refine At.v rfl rfl rfl rfl rfl trivial ?_; refine At.regionEnd ?_
        refine At.tA ((again2 ⟨(q + 1, _, ep, sfp, sfm, ((es.length - 1 - q : Nat) : Int) - 1), hqlt, hsp, by rw [hep, hsucc], hlp, hrp, by simp; omega⟩ (by simp; omega)))
      · have hlm : ex.length < most := by simp at h27; omega
        rw [if_pos hlm] at hsucc
        refine At.cond rfl ?_; refine At.region ?_; refine At.v rfl rfl rfl rfl rfl trivial ?_
        (refine At.l rfl rfl rfl rfl (l_buildSlice rfl rfl rfl rfl rfl) ?_; rintro _ _ ⟨r29, rfl, rfl⟩)
        (iterate 2 refine At.v rfl rfl rfl rfl rfl trivial ?_); refine At.q rfl rfl rfl rfl (q_ia rfl rfl rfl (by assumption)) ?_; refine At.ldc rfl rfl rfl rfl rfl rfl hck.a rfl rfl ?_
        rcases Nat.eq_zero_or_pos ex.length with h0x | h0x
        · obtain rfl := List.eq_nil_of_length_eq_zero h0x
          refine At.l rfl rfl rfl rfl (l_appI 0 (t := 38) (t' := 38) (vs := []) (rest := []) (ws := []) rfl rfl rfl rfl rfl rfl rfl rfl rfl (.inl rfl) rfl (by simp) (by simp) rfl) ?_
          rintro _ _ ⟨rfl, rfl⟩
          refine At.v rfl rfl rfl rfl rfl trivial ?_
          (refine At.l rfl rfl rfl rfl (l_buildSlice rfl rfl rfl rfl rfl) ?_; rintro _ _ ⟨r36, rfl, rfl⟩)
          have hs0 : Sl c1 3 (.slice (some ⟨r29, 0, none⟩) 0 0) ([] : List Int) [.own r29 (.cells (List.toArray []) 3 (0, 0))] := IsSl.own r29 0 0 [] [] rfl rfl (by omega)
          refine At.weakH (H' := .own r36 (.cells #[.int .i64 (j : Int)] 3 (0, 0)) :: ([.own r29 (.cells (List.toArray []) 3 (0, 0))] ++ (sfp ++ (sfm ++ H)))) ?_ (Sub.refl _)
          refine At.push (x := (j : Int)) 0 1 rfl rfl rfl rfl rfl rfl rfl rfl rfl rfl rfl rfl rfl rfl hs0 rfl rfl rfl ?_ fun v sf hs => ?_
          · simp
          obtain ⟨an, cn, rfl⟩ := hs.slice
          obtain ⟨_, hrn, hcn⟩ := hs.rd
          rename Facts => sfn
          (refine At.l rfl rfl rfl rfl (l_buildSlice rfl rfl rfl rfl rfl) ?_; rintro _ _ ⟨r38, rfl, rfl⟩)
          refine At.weakH ?_ (((Sub.of_perm (List.perm_append_comm_assoc sfp sfn (sfm ++ H))).drop _).cons _)
          refine At.push (x := (⟨an, cn, ([] : List Int) ++ [(j : Int)]⟩ : LE)) 0 1 rfl rfl rfl rfl rfl rfl rfl rfl rfl rfl rfl rfl rfl rfl hsp rfl rfl rfl ?_ fun v sf hs => ?_
          · omega
          refine At.v rfl rfl rfl rfl rfl trivial ?_; refine At.regionEnd ?_; refine At.inBlock ?_; refine At.region ?_; refine At.v rfl rfl rfl rfl rfl trivial ?_; refine At.v rfl rfl rfl rfl rfl (by omega) ?_; refine At.v rfl rfl rfl rfl rfl trivial ?_; refine At.regionEnd ?_
          have ag := again2 ⟨(q + 1, _, ep ++ [(⟨an, cn, ([] : List Int) ++ [(j : Int)]⟩ : LE)], sf, sfn ++ sfm, ((es.length - 1 - q : Nat) : Int) - 1), hqlt, hs, by rw [List.map_append, hep, hsucc]; rfl, by simp; omega, (by
            intro e he
            rcases List.mem_append.1 he with h | h
            · exact ⟨(hrp e h).1.more (Sub.append_left _ _), (hrp e h).2⟩
            · obtain rfl : e = _ := by simpa using h
              exact ⟨hrn.more (Sub.pre _ _), hcn⟩), by simp; omega⟩ (by simp; omega)
          simp only [List.append_assoc] at ag
          refine At.tA (ag)
        · refine At.appE rfl rfl rfl rfl rfl rfl rfl rfl rfl rfl rfl rfl rfl (hre.more (by repeat (first | exact Sub.refl _ | exact Sub.pre _ _ | apply Sub.drop | apply Sub.dropL))) rfl h0x (by omega) fun v0 sf0 hs0 => ?_
          refine At.v rfl rfl rfl rfl rfl trivial ?_
          (refine At.l rfl rfl rfl rfl (l_buildSlice rfl rfl rfl rfl rfl) ?_; rintro _ _ ⟨r36, rfl, rfl⟩)
          refine At.push (x := (j : Int)) 0 1 rfl rfl rfl rfl rfl rfl rfl rfl rfl rfl rfl rfl rfl rfl hs0 rfl rfl rfl ?_ fun v sf hs => ?_
          · omega
          obtain ⟨an, cn, rfl⟩ := hs.slice
          obtain ⟨_, hrn, hcn⟩ := hs.rd
          rename Facts => sfn
          (refine At.l rfl rfl rfl rfl (l_buildSlice rfl rfl rfl rfl rfl) ?_; rintro _ _ ⟨r38, rfl, rfl⟩)
          refine At.weakH ?_ (((Sub.of_perm (List.perm_append_comm_assoc sfp sfn (sfm ++ H))).drop _).cons _)
          refine At.push (x := (⟨an, cn, ex ++ [(j : Int)]⟩ : LE)) 0 1 rfl rfl rfl rfl rfl rfl rfl rfl rfl rfl rfl rfl rfl rfl hsp rfl rfl rfl ?_ fun v sf hs => ?_
          · omega
          refine At.v rfl rfl rfl rfl rfl trivial ?_; refine At.regionEnd ?_; refine At.inBlock ?_; refine At.region ?_; refine At.v rfl rfl rfl rfl rfl trivial ?_; refine At.v rfl rfl rfl rfl rfl (by omega) ?_; refine At.v rfl rfl rfl rfl rfl trivial ?_; refine At.regionEnd ?_
          have ag := again2 ⟨(q + 1, _, ep ++ [(⟨an, cn, ex ++ [(j : Int)]⟩ : LE)], sf, sfn ++ sfm, ((es.length - 1 - q : Nat) : Int) - 1), hqlt, hs, by rw [List.map_append, hep, hsucc]; rfl, by simp; omega, (by
            intro e he
            rcases List.mem_append.1 he with h | h
            · exact ⟨(hrp e h).1.more (Sub.append_left _ _), (hrp e h).2⟩
            · obtain rfl : e = _ := by simpa using h
              exact ⟨hrn.more (Sub.pre _ _), hcn⟩), by simp; omega⟩ (by simp; omega)
          simp only [List.append_assoc] at ag
          refine At.tA (ag)
end Go.Gx
end

section
set_option linter.unusedSimpArgs false
set_option linter.unusedVariables false
namespace Go.Gx
open Go Go.Conc Go.Proofs
variable {main : Bool}

set_option maxRecDepth 100000 in
/-- agreed (ref) -/
theorem s145 (L : Lg Tryz.prog main) (H : Facts) {B : Bk} {A : BkA} (hB : BkR H B A) (hlp : B.prof.length ≤ 100000) (hlm : B.marks.length ≤ 100000) :
    Pure L 145 #[bkV B A] H (if knR B 0 ≠ 0 then .tuple #[bkZ, .int .i64 (knR B 0)] else .tuple #[bkV B A, .int .i64 0]) := by
  refine Spec.enter Tryz.func145 rfl (by simp [Tryz.f145]) fun c cs hc => ?_
  have q139 := fun H_ (hB_ : BkR H_ B A) => s139 L H_ (r := 0) hB_ hlp hlm
  have stop139 := trivial
  refine At.seq (At.region ?_); refine At.bx rfl rfl rfl rfl rfl rfl rfl fun r1 => ?_; refine At.al rfl rfl rfl rfl rfl fun r2 => ?_; refine At.v rfl rfl rfl rfl rfl trivial ?_; refine At.regionEnd (At.seq (At.seq (At.region ?_))); refine At.ld 1 rfl rfl rfl rfl rfl rfl rfl rfl rfl ?_
  clear stop139
  refine At.cl rfl rfl rfl rfl rfl rfl rfl rfl (q139 _ hB.a) ?_
  rintro _ _ ⟨sf, ⟨a, cap, rfl, hsl⟩, rfl⟩
  refine At.back ?_
  refine At.weakH ?_ ((((Sub.refl H).dropL sf).cons _).cons _)
  by_cases e : knR B 0 = 0
  · rw [if_neg (by simpa using e)] at hc
    rw [e]
    (iterate 5 refine At.v rfl rfl rfl rfl rfl trivial ?_); refine At.regionEnd (At.seq (At.region ?_)); refine At.v rfl rfl rfl rfl rfl trivial ?_; refine At.cp rfl rfl rfl rfl rfl fun b12 h12 => ?_; refine At.regionEnd ?_
    obtain rfl : b12 = false := h12.symm.trans (by kernel_rfl)
    refine At.cond rfl ?_; refine At.skip (At.seq (At.region ?_)); refine At.ld 1 rfl rfl rfl rfl rfl rfl rfl rfl rfl ?_; refine At.st 0 rfl rfl rfl rfl rfl rfl rfl rfl rfl rfl rfl rfl ?_; refine At.v rfl rfl rfl rfl rfl trivial ?_; refine At.regionEnd ?_
    exact At.ret Tryz.func145 (.inr ⟨_, rfl⟩) rfl (.aggJ 0 rfl rfl rfl (.tmp rfl .nil)) (wk (hc _ _ (⟨rfl, rfl⟩)))
  · rw [if_pos e] at hc
    (iterate 5 refine At.v rfl rfl rfl rfl rfl trivial ?_); refine At.regionEnd (At.seq (At.region ?_)); refine At.v rfl rfl rfl rfl rfl trivial ?_; refine At.cp rfl rfl rfl rfl rfl fun b12 h12 => ?_; refine At.regionEnd ?_
    obtain rfl : b12 = true := by rw [← h12]; simpa using e
    refine At.cond rfl ?_; refine At.seq (At.region ?_); refine At.q rfl rfl rfl rfl (q_build rfl rfl rfl) ?_; refine At.v rfl rfl rfl rfl rfl trivial ?_; refine At.st 0 rfl rfl rfl rfl rfl rfl rfl rfl rfl rfl rfl rfl ?_; refine At.v rfl rfl rfl rfl rfl trivial ?_; refine At.regionEnd ?_
    exact At.ret Tryz.func145 (.inr ⟨_, rfl⟩) rfl (.aggJ 0 rfl rfl rfl (.tmp rfl .nil)) (wk (hc _ _ (⟨rfl, rfl⟩)))
theorem leave_bd {B : Bk} (hz : bookBar B = 0) (s : R2) (k : Nat) : (rowsOf B s).length ≤ 3 ∧ 0 ≤ mostM (rowsOf B s) ((rowsOf B s).take k) ∧ mostM (rowsOf B s) ((rowsOf B s).take k) ≤ 3 ∧ ∀ x, (rowsOf B s).count x ≤ 3 := by
  have h := rowsOf_len hz s
  have h2 := mostM_le (rows := rowsOf B s) (xs := (rowsOf B s).take k) h
  exact ⟨h, h2.1, h2.2, fun x => Nat.le_trans (List.count_le_length) h⟩
set_option maxRecDepth 100000 in
set_option maxHeartbeats 4000000 in
/-- LeftOf (ref) -/
theorem s144 (L : Lg Tryz.prog main) (H : Facts) {B : Bk} {A : BkA} {a : Option Addr} {n cap : Nat} {s : R2} (hB : BkR H B A) (hz : bookBar B = 0) (hn : (statesM B).length = n) (hr : Rd H a ((statesM B).flatMap c1)) (hs : SlOk s) :
    Pure L 144 #[bkV B A, .slice a n cap, rV s] H (.int .i64 (leaveM B s)) := by
  subst hn
  refine Spec.enter Tryz.func144 rfl (by simp [Tryz.f144]) fun c cs hc => ?_
  unfold leaveM at hc
  obtain ⟨rows, hrows⟩ : ∃ r, (statesM B).map (fun e => rowM B e s) = r := ⟨_, rfl⟩
  have h0 : rowsOf B s = rows := hrows
  have hst := state_eye hz
  have hl3 := statesM_len hz
  have hbd := leave_bd hz s
  rw [h0] at hc hbd
  clear h0
  generalize statesM B = l at *
  have hrl : rows.length = l.length := by rw [← hrows]; simp
  have hri : ∀ i, ∀ h : i < l.length, rowM B l[i] s = rows[i]'(by omega) := by
    intro i h
    simp only [← hrows, List.getElem_map]
  refine At.seq (At.region ?_); refine At.bx rfl rfl rfl rfl rfl rfl rfl fun r3 => ?_; refine At.bx rfl rfl rfl rfl rfl rfl rfl fun r5 => ?_; refine At.v rfl rfl rfl rfl rfl trivial ?_; refine At.regionEnd (At.seq (At.region ?_)); refine At.v rfl rfl rfl rfl rfl trivial ?_; refine At.regionEnd (At.seq (At.seq (At.region ?_))); refine At.v rfl rfl rfl rfl rfl trivial ?_; refine At.regionEnd ?_; refine At.block ?_
  refine At.lpk (X := { x : Nat × Int // x.1 ≤ l.length ∧ x.2 = mostM rows (rows.take x.1) }) [1, 3, 5, 6] (fun x => [(8, .int .i64 (x.1.1 : Int)), (7, .int .i64 x.1.2)]) (fun x => .own r5 (.cells (List.toArray (c2 s)) 29 (0, 0)) :: .own r3 (.cells (List.toArray (bkC B A)) 27 (0, 0)) :: H) (fun x => l.length - x.1.1) (⟨(0, 0), Nat.zero_le _, rfl⟩) rfl ?_ (by repeat (first | exact trivial | refine ⟨rfl, ?_⟩)) sb
  rintro ⟨⟨i, mo⟩, hi, hmo⟩ again
  simp only at again hi hmo ⊢
  refine At.seq (At.seq (At.region ?_)); (iterate 2 refine At.v rfl rfl rfl rfl rfl trivial ?_); refine At.ln rfl rfl rfl rfl rfl rfl rfl rfl ?_; refine At.cp rfl rfl rfl rfl rfl fun b14 h14 => ?_; refine At.regionEnd ?_
  cases b14
  · have e : i = l.length := by simp at h14; omega
    subst e
    rw [← hrl, List.take_length] at hmo
    subst hmo
    refine At.cond rfl ?_; refine At.exit rfl ?_; refine At.seq (At.region ?_); (iterate 2 refine At.v rfl rfl rfl rfl rfl trivial ?_); refine At.regionEnd ?_
    exact At.ret Tryz.func144 (.inr ⟨_, rfl⟩) rfl (.tmp rfl .nil) (wk (hc _ _ (⟨rfl, rfl⟩)))
  · have hlt : i < l.length := by simp at h14; omega
    refine At.cond rfl ?_; refine At.skip (At.seq ?_); refine At.block ?_; refine At.seq (At.region ?_); refine At.v rfl rfl rfl rfl rfl trivial ?_; refine At.regionEnd (At.seq (At.seq (At.region ?_))); refine At.v rfl rfl rfl rfl rfl trivial ?_; refine At.regionEnd ?_; refine At.block ?_
    refine At.lpk (X := { x : Nat × Int // x.1 ≤ l.length ∧ x.2 = (((rows.take x.1).count (rows[i]'(by omega)) : Nat) : Int) }) [1, 3, 5, 6, 7, 8, 11, 12, 13, 14] (fun x => [(10, .int .i64 (x.1.1 : Int)), (9, .int .i64 x.1.2)]) (fun x => .own r5 (.cells (List.toArray (c2 s)) 29 (0, 0)) :: .own r3 (.cells (List.toArray (bkC B A)) 27 (0, 0)) :: H) (fun x => l.length - x.1.1) (⟨(0, 0), Nat.zero_le _, by simp⟩) rfl ?_ (by repeat (first | exact trivial | refine ⟨rfl, ?_⟩)) sb
    rintro ⟨⟨k, cn⟩, hk, hcn⟩ again2
    simp only at again2 hk hcn ⊢
    refine At.seq (At.seq (At.region ?_)); (iterate 2 refine At.v rfl rfl rfl rfl rfl trivial ?_); refine At.ln rfl rfl rfl rfl rfl rfl rfl rfl ?_; refine At.cp rfl rfl rfl rfl rfl fun b20 h20 => ?_; refine At.regionEnd ?_
    cases b20
    · have e : k = l.length := by simp at h20; omega
      subst e
      rw [← hrl, List.take_length] at hcn
      have hms := mostM_take (rows := rows) (j := i) (by omega) rows
      obtain ⟨_, g1, g2, g3⟩ := hbd i
      have g4 := g3 rows[i]
      refine At.cond rfl ?_; refine At.exit rfl ?_; refine At.region ?_; (iterate 4 refine At.v rfl rfl rfl rfl rfl trivial ?_); refine At.regionEnd ?_; refine At.inBlock ?_; refine At.region ?_; refine At.v rfl rfl rfl rfl rfl trivial ?_; refine At.v rfl rfl rfl rfl rfl (by omega) ?_; refine At.v rfl rfl rfl rfl rfl trivial ?_; refine At.regionEnd ?_
      refine At.tA ((again ⟨(i + 1, if cn > mo then cn else mo), hlt, by rw [hms, hmo, hcn]⟩ (by simp; omega)))
    · have hltk : k < l.length := by simp at h20; omega
      obtain ⟨b1, o1, e1, hc1⟩ := hr.el (List.getElem?_eq_getElem hlt)
      cases e1
      obtain ⟨b2, o2, e2, hc2⟩ := hr.el (List.getElem?_eq_getElem hltk)
      obtain ⟨rfl, rfl⟩ : b2 = b1 ∧ o2 = o1 := by simpa using e2.symm
      have q1 := fun H_ (hB_ : BkR H_ B A) => s115 L H_ (eye := l[i]) (s := s) hB_ hz (hst _ (List.getElem_mem _)).1 hs
      have q2 := fun H_ (hB_ : BkR H_ B A) => s115 L H_ (eye := l[k]) (s := s) hB_ hz (hst _ (List.getElem_mem _)).1 hs
      rw [hri i hlt] at q1
      rw [hri k hltk] at q2
      have hck : (rows.take k).count rows[i] ≤ 3 := Nat.le_trans (List.Sublist.count_le _ (List.take_sublist ..)) ((hbd i).2.2.2 _)
      have hsc : (rows.take (k + 1)).count rows[i] = (rows.take k).count rows[i] + (if rows[k] = rows[i] then 1 else 0) := by
        rw [List.take_succ_eq_append_getElem (by omega), List.count_append]
        congr 1
        rw [List.count_singleton]
        simp
      have stop115 := trivial
      refine At.cond rfl ?_; refine At.skip (At.seq ?_); refine At.block ?_; refine At.seq ?_; refine At.drawJ hmix [] rfl ?_; refine Pool.ld 1 0 rfl rfl rfl rfl rfl rfl rfl rfl rfl rfl rfl ?_; refine Pool.v 1 rfl rfl rfl rfl rfl rfl rfl trivial ?_; refine Pool.v 2 rfl rfl rfl rfl rfl rfl rfl trivial ?_; refine Pool.q 3 rfl rfl rfl rfl rfl (q_ia rfl rfl rfl (by assumption)) rfl ?_; refine Pool.ldc 4 rfl rfl rfl rfl rfl rfl rfl hc2.a rfl rfl rfl ?_
      refine Pool.ld 0 5 rfl rfl rfl rfl rfl rfl rfl rfl rfl rfl rfl ?_; refine Pool.ld 1 7 rfl rfl rfl rfl rfl rfl rfl rfl rfl rfl rfl ?_; refine Pool.v 8 rfl rfl rfl rfl rfl rfl rfl trivial ?_; refine Pool.v 9 rfl rfl rfl rfl rfl rfl rfl trivial ?_; refine Pool.q 10 rfl rfl rfl rfl rfl (q_ia rfl rfl rfl (by assumption)) rfl ?_; refine Pool.ldc 11 rfl rfl rfl rfl rfl rfl rfl hc1.a rfl rfl rfl ?_; refine Pool.ld 0 12 rfl rfl rfl rfl rfl rfl rfl rfl rfl rfl rfl ?_
      refine Pool.cq 6 rfl rfl rfl rfl rfl rfl rfl rfl rfl (fun H_ hs_ => q2 _ hB.a) ?_
      skip
      clear stop115
      refine Pool.cq 13 rfl rfl rfl rfl rfl rfl rfl rfl rfl (fun H_ hs_ => q1 _ hB.a) ?_; refine Pool.cp 14 rfl rfl rfl rfl rfl rfl rfl fun b37 h37 => ?_; refine pool_done rfl rfl ?_; refine At.regionEnd ?_
      cases b37
      · rw [if_neg (by simpa using h37), Nat.add_zero] at hsc
        refine At.cond rfl ?_; refine At.skip ?_; refine At.inBlock ?_; refine At.region ?_; refine At.v rfl rfl rfl rfl rfl trivial ?_; refine At.v rfl rfl rfl rfl rfl (by omega) ?_; refine At.v rfl rfl rfl rfl rfl trivial ?_; refine At.regionEnd ?_
        refine At.tA ((again2 ⟨(k + 1, cn), hltk, by rw [hsc]; exact hcn⟩ (by simp; omega)))
      · rw [if_pos (by simpa using h37)] at hsc
        refine At.cond rfl ?_; refine At.region ?_; refine At.v rfl rfl rfl rfl rfl trivial ?_; refine At.v rfl rfl rfl rfl rfl (by omega) ?_; refine At.v rfl rfl rfl rfl rfl trivial ?_; refine At.regionEnd ?_; refine At.inBlock ?_; refine At.region ?_; refine At.v rfl rfl rfl rfl rfl trivial ?_; refine At.v rfl rfl rfl rfl rfl (by omega) ?_; refine At.v rfl rfl rfl rfl rfl trivial ?_; refine At.regionEnd ?_
        refine At.tA ((again2 ⟨(k + 1, cn + 1), hltk, by rw [hsc, hcn]; simp⟩ (by simp; omega)))
set_option maxRecDepth 100000 in
set_option maxHeartbeats 4000000 in
/-- Ask (ref) -/
theorem s76 (L : Lg Tryz.prog main) (H : Facts) {B : Bk} {A : BkA} {a2 : Option Addr} {n cap2 : Nat} {ss : List R2} (hB : BkR H B A) (hlp : B.prof.length ≤ 100000) (hlm : B.marks.length ≤ 100000) (hn : ss.length = n) (hS : Rd H a2 (ss.flatMap c2)) (hl : ss.length ≤ 1000) :
    Pure L 76 #[bkV B A, .slice a2 n cap2] H (.tuple #[.int .i64 (askM B ss).1.1, .int .i64 (askM B ss).1.2, .int .i64 (askM B ss).2]) := by
  subst hn
  refine Spec.enter Tryz.func76 rfl (by simp [Tryz.f76]) fun c cs hc => ?_
  unfold askM at hc
  rw [← knR_eq, firstBar1] at hc
  have q57 := fun H_ hr_ => s57 L H_ (a := a2) (n := ss.length) (cap := cap2) (ss := ss) rfl hr_ hl
  have q139 := fun H_ (hB_ : BkR H_ B A) => s139 L H_ (r := looksBar ss) hB_ hlp hlm
  have stop57 := trivial
  have stopDraw := trivial
  refine At.seq (At.region ?_); refine At.bx rfl rfl rfl rfl rfl rfl rfl fun r2 => ?_; (iterate 3 refine At.v rfl rfl rfl rfl rfl trivial ?_); refine At.regionEnd (At.seq ?_)
  clear stopDraw
  refine At.draw hmix (_) sb ?_; refine Pool.ld 0 0 rfl rfl rfl rfl rfl rfl rfl rfl rfl rfl rfl ?_; refine Pool.v 1 rfl rfl rfl rfl rfl rfl rfl trivial ?_
  clear stop57
  refine Pool.cq 2 rfl rfl rfl rfl rfl rfl rfl rfl rfl (fun H_ hs_ => q57 _ hS.a) ?_
  have stop139 := trivial
  skip
  clear stop139
  refine Pool.cl 3 rfl rfl rfl rfl rfl rfl rfl rfl rfl rfl rfl rfl rfl rfl (fun H_ hs_ => q139 H_ hB.a) sb ?_
  rintro _ sf ⟨a, cap, rfl, hsl⟩
  refine Pool.v 4 rfl rfl rfl rfl rfl rfl rfl trivial ?_; refine Pool.v 5 rfl rfl rfl rfl rfl rfl rfl trivial ?_; refine Pool.v 6 rfl rfl rfl rfl rfl rfl rfl trivial ?_; refine Pool.v 7 rfl rfl rfl rfl rfl rfl rfl trivial ?_; refine Pool.v 8 rfl rfl rfl rfl rfl rfl rfl trivial ?_; refine pool_done rfl rfl ?_; refine At.regionEnd (At.seq (At.seq (At.region ?_))); refine At.v rfl rfl rfl rfl rfl trivial ?_; refine At.cp rfl rfl rfl rfl rfl fun b21 h21 => ?_; refine At.regionEnd ?_; refine At.back ?_
  cases b21
  rotate_left
  · have e : knR B (looksBar ss) ≠ 0 := by simpa using h21
    simp only [if_pos e] at hc
    refine At.cond rfl ?_; refine At.seq (At.region ?_); (iterate 4 refine At.v rfl rfl rfl rfl rfl trivial ?_); refine At.regionEnd ?_
    exact At.ret Tryz.func76 (.inr ⟨_, rfl⟩) rfl (.tmp rfl (.tmp rfl (.tmp rfl .nil))) (wk (hc _ _ (⟨by rfl, rfl⟩)))
  have e : knR B (looksBar ss) = 0 := by simpa using h21
  have hz : bookBar B = 0 := kn_book e
  obtain ⟨hm1, hm6, hss⟩ := looks0 (kn_rest e)
  have hne := kn_states e
  simp only [e, ne_eq, not_true_eq_false, if_false] at hc hsl ⊢
  have hl3 := statesM_len hz
  obtain ⟨_, hrs, _⟩ := hsl.rd
  refine At.cond rfl ?_; refine At.skip (At.seq (At.region ?_)); refine At.v rfl rfl rfl rfl rfl trivial ?_; refine At.ln rfl rfl rfl rfl rfl rfl rfl rfl ?_; (iterate 2 refine At.v rfl rfl rfl rfl rfl trivial ?_); refine At.regionEnd (At.seq (At.seq (At.region ?_))); refine At.v rfl rfl rfl rfl rfl trivial ?_; refine At.regionEnd ?_; refine At.block ?_
  refine At.lpk (X := { x : Nat × Int × Int // x.1 ≤ ss.length ∧ x.2 = askTo B ss x.1 }) [1, 2, 4, 5, 6, 7] (fun x => [(11, .int .i64 (x.1.1 : Int)), (9, .int .i64 x.1.2.1), (10, .int .i64 x.1.2.2)]) (fun x => .own r2 (.cells (List.toArray (bkC B A)) 27 (0, 0)) :: (sf ++ H)) (fun x => ss.length - x.1.1) (⟨(0, -1, ((statesM B).length : Int)), Nat.zero_le _, rfl⟩) rfl ?_ (by repeat (first | exact trivial | refine ⟨rfl, ?_⟩)) sb
  rintro ⟨⟨j, w, lf⟩, hj, hwl⟩ again
  simp only at again hj hwl ⊢
  refine At.seq (At.seq (At.region ?_)); (iterate 2 refine At.v rfl rfl rfl rfl rfl trivial ?_); refine At.ln rfl rfl rfl rfl rfl rfl rfl rfl ?_; refine At.cp rfl rfl rfl rfl rfl fun b28 h28 => ?_; refine At.regionEnd ?_
  cases b28
  · have ej : j = ss.length := by simp at h28; omega
    subst ej
    rw [← hwl] at hc
    refine At.weakH ?_ (((Sub.refl H).dropL sf).cons _)
    refine At.cond rfl ?_; refine At.exit rfl ?_; refine At.seq (At.region ?_); (iterate 5 refine At.v rfl rfl rfl rfl rfl trivial ?_); refine At.regionEnd ?_
    exact At.ret Tryz.func76 (.inr ⟨_, rfl⟩) rfl (.tmp rfl (.tmp rfl (.tmp rfl .nil))) (wk (hc _ _ (⟨rfl, rfl⟩)))
  · have hlt : j < ss.length := by simp at h28; omega
    obtain ⟨b', off', e', hcj⟩ := hS.el (List.getElem?_eq_getElem hlt)
    cases e'
    have hgd : ss.getD j (0, 0) = ss[j] := by rw [List.getD_eq_getElem?_getD, List.getElem?_eq_getElem hlt]; rfl
    have hst : askTo B ss (j + 1) = if leaveM B ss[j] < lf then ((j : Int), leaveM B ss[j]) else (w, lf) := by
      rw [askTo_succ, ← hwl]; unfold askStep; rw [hgd]
    have q144 := fun H_ (hB_ : BkR H_ B A) hr_ => s144 L H_ (a := a) (n := (statesM B).length) (cap := cap) (s := ss[j]) hB_ hz rfl hr_ (slOk_of _ (hss _ (List.getElem_mem hlt)))
    generalize leaveM B ss[j] = lv at hst q144
    have stop144 := trivial
    refine At.cond rfl ?_; refine At.skip (At.seq ?_); refine At.block ?_; refine At.seq ?_; refine At.drawJ hmix [] rfl ?_; refine Pool.ld 0 0 rfl rfl rfl rfl rfl rfl rfl rfl rfl rfl rfl ?_; refine Pool.v 1 rfl rfl rfl rfl rfl rfl rfl trivial ?_; refine Pool.v 2 rfl rfl rfl rfl rfl rfl rfl trivial ?_; refine Pool.v 3 rfl rfl rfl rfl rfl rfl rfl trivial ?_; refine Pool.q 4 rfl rfl rfl rfl rfl (q_ia rfl rfl rfl (by assumption)) rfl ?_; refine Pool.ldc 5 rfl rfl rfl rfl rfl rfl rfl hcj.a rfl rfl rfl ?_
    clear stop144
    refine Pool.cq 6 rfl rfl rfl rfl rfl rfl rfl rfl rfl (fun H_ hs_ => q144 _ hB.a hrs.a) ?_; refine Pool.v 7 rfl rfl rfl rfl rfl rfl rfl trivial ?_; refine pool_done rfl rfl ?_; refine At.regionEnd (At.seq (At.region ?_)); (iterate 2 refine At.v rfl rfl rfl rfl rfl trivial ?_); refine At.cp rfl rfl rfl rfl rfl fun b40 h40 => ?_; refine At.regionEnd ?_
    cases b40
    · rw [if_neg (by simpa using h40)] at hst
      refine At.cond rfl ?_; refine At.skip ?_; refine At.inBlock ?_; refine At.region ?_; refine At.v rfl rfl rfl rfl rfl trivial ?_; refine At.v rfl rfl rfl rfl rfl (by omega) ?_; refine At.v rfl rfl rfl rfl rfl trivial ?_; refine At.regionEnd ?_
      refine At.tA ((again ⟨(j + 1, w, lf), hlt, hst.symm⟩ (by simp; omega)))
    · rw [if_pos (by simpa using h40)] at hst
      refine At.cond rfl ?_; refine At.region ?_; (iterate 4 refine At.v rfl rfl rfl rfl rfl trivial ?_); refine At.regionEnd ?_; refine At.inBlock ?_; refine At.region ?_; refine At.v rfl rfl rfl rfl rfl trivial ?_; refine At.v rfl rfl rfl rfl rfl (by omega) ?_; refine At.v rfl rfl rfl rfl rfl trivial ?_; refine At.regionEnd ?_
      refine At.tA ((again ⟨(j + 1, (j : Int), lv), hlt, hst.symm⟩ (by simp; omega)))
set_option maxRecDepth 100000 in
set_option maxHeartbeats 4000000 in
/-- Mark (ref) -/
theorem s77 (L : Lg Tryz.prog main) (H : Facts) {B : Bk} {A : BkA} {m : R2 × Int} (hB : BkR H B A) (hlp : B.prof.length ≤ 100000) (hlm : B.marks.length ≤ 900) :
    Grows L 77 #[bkV B A, mV m] H (fun v sf => (markBarM B m ≠ 0 → v = .tuple #[bkZ, .int .i64 (markBarM B m)]) ∧ (markBarM B m = 0 → ∃ a cap, v = .tuple #[bkV (markedM B m) ⟨A.pa, A.pc, a, cap⟩, .int .i64 0] ∧ Sl c3 94 (.slice a (B.marks.length + 1) cap) (B.marks ++ [m]) sf)) := by
  refine Spec.enter Tryz.func77 rfl (by simp [Tryz.f77]) fun c cs hc => ?_
  unfold markBarM at hc
  obtain ⟨pa, pc, ma, mc⟩ := A
  have hrm := hB.m
  have hrp := hB.p
  simp only at hrm hrp
  have q24 := fun H_ (hB_ : BkR H_ B ⟨pa, pc, ma, mc⟩) => s24 L H_ hB_ hlp (by omega)
  have q81 := fun H_ hr_ => s81 L H_ (B := B) (A := ⟨pa, pc, ma, mc⟩) (m := m) hr_ (by omega)
  have stop24 := trivial
  refine At.seq (At.region ?_); refine At.bx rfl rfl rfl rfl rfl rfl rfl fun r2 => ?_; refine At.bx rfl rfl rfl rfl rfl rfl rfl fun r3 => ?_; refine At.al rfl rfl rfl rfl rfl fun r4 => ?_; refine At.v rfl rfl rfl rfl rfl trivial ?_; refine At.regionEnd (At.seq (At.seq (At.region ?_))); refine At.ld 2 rfl rfl rfl rfl rfl rfl rfl rfl rfl ?_
  clear stop24
  refine At.cq rfl rfl rfl rfl rfl rfl rfl rfl (q24 _ hB.a) ?_; refine At.v rfl rfl rfl rfl rfl trivial ?_; refine At.regionEnd (At.seq (At.region ?_)); refine At.v rfl rfl rfl rfl rfl trivial ?_; refine At.cp rfl rfl rfl rfl rfl fun b10 h10 => ?_; refine At.regionEnd ?_
  cases b10
  rotate_left
  · have e : bookBar B ≠ 0 := by simpa using h10
    simp only [if_pos e] at hc
    refine At.cond rfl ?_; refine At.seq (At.region ?_); refine At.q rfl rfl rfl rfl (q_build rfl rfl rfl) ?_; refine At.v rfl rfl rfl rfl rfl trivial ?_; refine At.st 0 rfl rfl rfl rfl rfl rfl rfl rfl rfl rfl rfl rfl ?_; refine At.v rfl rfl rfl rfl rfl trivial ?_; refine At.regionEnd ?_
    exact At.ret Tryz.func77 (.inr ⟨_, rfl⟩) rfl (.aggJ 0 rfl rfl rfl (.tmp rfl .nil)) (wk (hc _ _ (⟨[], ⟨fun _ => rfl, fun h => absurd h e⟩, rfl⟩)))
  have e : bookBar B = 0 := by simpa using h10
  simp only [e, ne_eq, not_true_eq_false, if_false] at hc
  have stop81 := trivial
  refine At.cond rfl ?_; refine At.skip (At.seq (At.region ?_)); refine At.ld 2 rfl rfl rfl rfl rfl rfl rfl rfl rfl ?_; refine At.ld 1 rfl rfl rfl rfl rfl rfl rfl rfl rfl ?_
  clear stop81
  refine At.cl rfl rfl rfl rfl rfl rfl rfl rfl (q81 _ hrm.a) ?_
  rintro _ _ ⟨sf, ⟨a, cap, rfl, hsl⟩, rfl⟩
  refine At.back ?_
  have hsl' : Sl c3 94 (.slice a (markedM B m).marks.length cap) (markedM B m).marks sf := by
    show Sl c3 94 (.slice a (B.marks ++ [m]).length cap) (B.marks ++ [m]) sf
    rw [show (B.marks ++ [m]).length = B.marks.length + 1 by simp]
    exact hsl
  obtain ⟨_, hr1, _⟩ := hsl'.rd
  have q145 := fun H_ (hp_ : Rd H_ pa (B.prof.flatMap c2)) (hm_ : Rd H_ a ((markedM B m).marks.flatMap c3)) => s145 L H_ (B := markedM B m) (A := ⟨pa, pc, a, cap⟩) ⟨hp_, hm_⟩ hlp (by show (B.marks ++ [m]).length ≤ _; simp; omega)
  have hkn : knR (markedM B m) 0 = knownBar (markedM B m) [] := knR_eq (markedM B m) []
  rw [hkn] at q145
  by_cases hk : knownBar (markedM B m) [] = 0
  · simp only [hk, ne_eq, not_true_eq_false, if_false] at q145 hc
    have stop145 := trivial
    skip
    clear stop145
    refine At.cq rfl rfl rfl rfl rfl rfl rfl rfl (q145 _ hrp.a hr1.a) ?_; (iterate 2 refine At.v rfl rfl rfl rfl rfl trivial ?_); refine At.st 0 rfl rfl rfl rfl rfl rfl rfl rfl rfl rfl rfl rfl ?_; refine At.v rfl rfl rfl rfl rfl trivial ?_; refine At.regionEnd ?_
    exact At.ret Tryz.func77 (.inr ⟨_, rfl⟩) rfl (.aggJ 0 rfl rfl rfl (.tmp rfl .nil)) (wk (hc _ _ (⟨sf, ⟨fun h => absurd h (by simp), fun _ => ⟨a, cap, rfl, hsl⟩⟩, rfl⟩)))
  · rw [if_pos hk] at q145
    have stop145 := trivial
    skip
    clear stop145
    refine At.cq rfl rfl rfl rfl rfl rfl rfl rfl (q145 _ hrp.a hr1.a) ?_; (iterate 2 refine At.v rfl rfl rfl rfl rfl trivial ?_); refine At.st 0 rfl rfl rfl rfl rfl rfl rfl rfl rfl rfl rfl rfl ?_; refine At.v rfl rfl rfl rfl rfl trivial ?_; refine At.regionEnd ?_
    exact At.ret Tryz.func77 (.inr ⟨_, rfl⟩) rfl (.aggJ 0 rfl rfl rfl (.tmp rfl .nil)) (wk (hc _ _ (⟨sf, ⟨fun _ => rfl, fun h => absurd h hk⟩, rfl⟩)))
set_option maxRecDepth 100000 in
set_option maxHeartbeats 4000000 in
/-- Stand (ref) -/
theorem s80 (L : Lg Tryz.prog main) (H : Facts) {B : Bk} {A : BkA} {x : Int × Int} (hB : BkR H B A) (hlp : B.prof.length ≤ 100000) (hlm : B.marks.length ≤ 100000) :
    Pure L 80 #[bkV B A, .agg (List.toArray (c2 x))] H (if standBar B x ≠ 0 then .tuple #[bkZ, .int .i64 (standBar B x)] else .tuple #[bkV (standM B x) A, .int .i64 0]) := by
  refine Spec.enter Tryz.func80 rfl (by simp [Tryz.f80]) fun c cs hc => ?_
  unfold standBar at hc
  have q24 := fun H_ (hB_ : BkR H_ B A) => s24 L H_ hB_ hlp hlm
  have stop24 := trivial
  refine At.seq (At.region ?_); refine At.bx rfl rfl rfl rfl rfl rfl rfl fun r2 => ?_; refine At.bx rfl rfl rfl rfl rfl rfl rfl fun r3 => ?_; refine At.al rfl rfl rfl rfl rfl fun r4 => ?_; refine At.v rfl rfl rfl rfl rfl trivial ?_; refine At.regionEnd (At.seq (At.seq (At.region ?_))); refine At.ld 2 rfl rfl rfl rfl rfl rfl rfl rfl rfl ?_
  clear stop24
  refine At.cq rfl rfl rfl rfl rfl rfl rfl rfl (q24 _ hB.a) ?_; refine At.v rfl rfl rfl rfl rfl trivial ?_; refine At.regionEnd (At.seq (At.region ?_)); refine At.v rfl rfl rfl rfl rfl trivial ?_; refine At.cp rfl rfl rfl rfl rfl fun b11 h11 => ?_; refine At.regionEnd ?_
  cases b11
  rotate_left
  · have e : bookBar B ≠ 0 := by simpa using h11
    simp only [if_pos e] at hc
    refine At.cond rfl ?_; refine At.seq (At.region ?_); refine At.q rfl rfl rfl rfl (q_build rfl rfl rfl) ?_; refine At.v rfl rfl rfl rfl rfl trivial ?_; refine At.st 0 rfl rfl rfl rfl rfl rfl rfl rfl rfl rfl rfl rfl ?_; refine At.v rfl rfl rfl rfl rfl trivial ?_; refine At.regionEnd ?_
    exact At.ret Tryz.func80 (.inr ⟨_, rfl⟩) rfl (.aggJ 0 rfl rfl rfl (.tmp rfl .nil)) (wk (hc _ _ (⟨rfl, rfl⟩)))
  have e : bookBar B = 0 := by simpa using h11
  simp only [e, ne_eq, not_true_eq_false, if_false] at hc
  refine At.cond rfl ?_; refine At.skip (At.seq (At.seq (At.region ?_))); refine At.ld 1 rfl rfl rfl rfl rfl rfl rfl rfl rfl ?_; refine At.cqb rfl rfl rfl rfl rfl rfl rfl rfl (s88 L _) fun b15 h15 => ?_; refine At.v rfl rfl rfl rfl rfl trivial ?_; refine At.regionEnd ?_
  cases b15
  · have e1 : ¬ (0 ≤ x.1 ∧ x.1 ≤ x.2 ∧ x.2 ≤ 90) := by simpa using h15
    simp only [e1, not_false_eq_true, if_true] at hc
    rw [if_pos (by decide)] at hc
    refine At.cond rfl ?_; refine At.seq (At.region ?_); refine At.q rfl rfl rfl rfl (q_build rfl rfl rfl) ?_; refine At.st 0 rfl rfl rfl rfl rfl rfl rfl rfl rfl rfl rfl rfl ?_; refine At.v rfl rfl rfl rfl rfl trivial ?_; refine At.regionEnd ?_
    exact At.ret Tryz.func80 (.inr ⟨_, rfl⟩) rfl (.aggJ 0 rfl rfl rfl (.tmp rfl .nil)) (wk (hc _ _ (⟨rfl, rfl⟩)))
  have e1 : (0 ≤ x.1 ∧ x.1 ≤ x.2 ∧ x.2 ≤ 90) := by simpa using h15
  rw [if_neg (not_not_intro e1)] at hc
  have q84 := fun H_ => s84 L H_ (x := (B.lo, B.hi)) (y := x)
  have stop84 := trivial
  refine At.cond rfl ?_; refine At.skip (At.seq (At.region ?_)); refine At.fa 2 rfl rfl rfl rfl rfl rfl rfl ?_; refine At.ld 2 rfl rfl rfl rfl rfl rfl rfl rfl rfl ?_; refine At.ld 1 rfl rfl rfl rfl rfl rfl rfl rfl rfl ?_; refine At.cq rfl rfl rfl rfl rfl rfl rfl rfl (q84 _) ?_; refine At.al rfl rfl rfl rfl rfl fun r7 => ?_; refine At.st 0 rfl rfl rfl rfl rfl rfl rfl rfl rfl rfl rfl rfl ?_; refine At.regionEnd (At.seq (At.seq (At.region ?_))); refine At.fa 0 rfl rfl rfl rfl rfl rfl rfl ?_
  refine At.ld 0 rfl rfl rfl rfl rfl rfl rfl rfl rfl ?_; refine At.fa 1 rfl rfl rfl rfl rfl rfl rfl ?_; refine At.ld 0 rfl rfl rfl rfl rfl rfl rfl rfl rfl ?_; refine At.cp rfl rfl rfl rfl rfl fun b26 h26 => ?_; refine At.regionEnd ?_
  cases b26
  rotate_left
  · have e2 : maxI B.lo x.1 > minI B.hi x.2 := by simpa using h26
    rw [if_pos e2] at hc
    rw [if_pos (by decide)] at hc
    refine At.cond rfl ?_; refine At.seq (At.region ?_); refine At.q rfl rfl rfl rfl (q_build rfl rfl rfl) ?_; refine At.st 1 rfl rfl rfl rfl rfl rfl rfl rfl rfl rfl rfl rfl ?_; refine At.v rfl rfl rfl rfl rfl trivial ?_; refine At.regionEnd ?_
    exact At.ret Tryz.func80 (.inr ⟨_, rfl⟩) rfl (.aggJ 1 rfl rfl rfl (.tmp rfl .nil)) (wk (hc _ _ (⟨rfl, rfl⟩)))
  have e2 : ¬ maxI B.lo x.1 > minI B.hi x.2 := by simpa using h26
  rw [if_neg e2] at hc
  have q83 := fun H_ => s83 L H_ (B := B) (A := A) (x := (maxI B.lo x.1, minI B.hi x.2))
  have hB' : ∀ H_, BkR H_ B A → BkR H_ (standM B x) A := fun H_ h => ⟨h.p, h.m⟩
  have q145 := fun H_ (hB_ : BkR H_ B A) => s145 L H_ (B := standM B x) (A := A) (hB' H_ hB_) hlp hlm
  have hkn : knR (standM B x) 0 = knownBar (standM B x) [] := knR_eq (standM B x) []
  rw [hkn] at q145
  have stop83 := trivial
  refine At.cond rfl ?_; refine At.skip (At.seq (At.region ?_)); refine At.ld 3 rfl rfl rfl rfl rfl rfl rfl rfl rfl ?_; refine At.ld 0 rfl rfl rfl rfl rfl rfl rfl rfl rfl ?_
  clear stop83
  refine At.cq rfl rfl rfl rfl rfl rfl rfl rfl (q83 _) ?_
  rw [show stoodM B (maxI B.lo x.1, minI B.hi x.2).1 (maxI B.lo x.1, minI B.hi x.2).2 = standM B x from rfl]
  have stop145 := trivial
  skip
  clear stop145
  refine At.cq rfl rfl rfl rfl rfl rfl rfl rfl (q145 _ hB.a) ?_
  by_cases hk : knownBar (standM B x) [] = 0
  · rw [if_neg (by simpa using hk)] at hc ⊢
    (iterate 2 refine At.v rfl rfl rfl rfl rfl trivial ?_); refine At.st 1 rfl rfl rfl rfl rfl rfl rfl rfl rfl rfl rfl rfl ?_; refine At.v rfl rfl rfl rfl rfl trivial ?_; refine At.regionEnd ?_
    exact At.ret Tryz.func80 (.inr ⟨_, rfl⟩) rfl (.aggJ 1 rfl rfl rfl (.tmp rfl .nil)) (wk (hc _ _ (⟨rfl, rfl⟩)))
  · rw [if_pos hk] at hc ⊢
    (iterate 2 refine At.v rfl rfl rfl rfl rfl trivial ?_); refine At.st 1 rfl rfl rfl rfl rfl rfl rfl rfl rfl rfl rfl rfl ?_; refine At.v rfl rfl rfl rfl rfl trivial ?_; refine At.regionEnd ?_
    exact At.ret Tryz.func80 (.inr ⟨_, rfl⟩) rfl (.aggJ 1 rfl rfl rfl (.tmp rfl .nil)) (wk (hc _ _ (⟨rfl, rfl⟩)))
/-! ### Clash of the reference -/
def natL (l : List Int) : List Nat := l.map Int.toNat
def clStep (B : Bk) (best x : List Int) : List Int := if smallerM x best = true ∧ (statesM (onlyM B (natL x))).length = 0 then x else best
def clTo (B : Bk) (j : Nat) : List Int := ((setsM B.marks.length B.marks.length).take j).foldl (clStep B) (uptoM B.marks.length)
theorem clTo_succ {B : Bk} {j : Nat} (h : j < (setsM B.marks.length B.marks.length).length) : clTo B (j + 1) = clStep B (clTo B j) (setsM B.marks.length B.marks.length)[j] := by
  unfold clTo
  rw [List.take_succ_eq_append_getElem h, List.foldl_append]
  rfl
theorem clTo_mem (B : Bk) (j : Nat) : clTo B j = uptoM B.marks.length ∨ clTo B j ∈ setsM B.marks.length B.marks.length := by
  induction j with
  | zero => left; rfl
  | succ j ih =>
    by_cases h : j < (setsM B.marks.length B.marks.length).length
    · rw [clTo_succ h]
      unfold clStep
      split
      · right; exact List.getElem_mem h
      · exact ih
    · have : clTo B (j + 1) = clTo B j := by unfold clTo; rw [List.take_of_length_le (by omega), List.take_of_length_le (by omega)]
      rw [this]; exact ih
/-- The sets are the lists of the masks. -/
theorem sets_idx (n : Nat) (hn : n ≤ 4) : (∀ l ∈ setsM n n, ∃ j, j < 2 ^ n ∧ l = idxTo j n) ∧ (∀ j, j < 2 ^ n → idxTo j n ∈ setsM n n) ∧ uptoM n ∈ setsM n n ∧ ∀ l ∈ setsM n n, (natL l).map Int.ofNat = l ∧ ∀ i ∈ natL l, i < n := by
  have h1 : ∀ n ∈ List.range 5, ∀ l ∈ setsM n n, ∃ j ∈ List.range 16, j < 2 ^ n ∧ l = idxTo j n := by decide
  have h2 : ∀ n ∈ List.range 5, ∀ j ∈ List.range 16, j < 2 ^ n → idxTo j n ∈ setsM n n := by decide
  have h3 : ∀ n ∈ List.range 5, uptoM n ∈ setsM n n := by decide
  have h4 : ∀ n ∈ List.range 5, ∀ l ∈ setsM n n, (natL l).map Int.ofNat = l ∧ ∀ i ∈ natL l, i < n := by decide
  have hm : n ∈ List.range 5 := List.mem_range.2 (by omega)
  refine ⟨fun l hl => ?_, fun j hj => ?_, h3 n hm, h4 n hm⟩
  · obtain ⟨j, _, h⟩ := h1 n hm l hl
    exact ⟨j, h⟩
  · have : (2 : Nat) ^ n ≤ 16 := Nat.pow_le_pow_right (by omega) hn
    exact h2 n hm j (List.mem_range.2 (by omega)) hj
theorem cmpL_both : ∀ {xs ys : List Int}, xs.length = ys.length → ¬ cmpL xs ys < 0 → ¬ cmpL ys xs < 0 → xs = ys
  | [], [], _, _, _ => rfl
  | [], _ :: _, h, _, _ => by simp at h
  | _ :: _, [], h, _, _ => by simp at h
  | x :: xs, y :: ys, h, h1, h2 => by
    rw [cmpL_neg_cons] at h1 h2
    have e : x = y := by omega
    subst e
    have := cmpL_both (xs := xs) (ys := ys) (by simpa using h) (fun h3 => h1 (.inr ⟨rfl, h3⟩)) (fun h3 => h2 (.inr ⟨rfl, h3⟩))
    rw [this]
theorem smaller_both {xs ys : List Int} (h1 : smallerM xs ys = false) (h2 : smallerM ys xs = false) : xs = ys := by
  unfold smallerM at h1 h2
  rw [decide_eq_false_iff_not] at h1 h2
  have hl : xs.length = ys.length := by omega
  exact cmpL_both hl (fun h => h1 (.inr ⟨hl, h⟩)) (fun h => h2 (.inr ⟨hl.symm, h⟩))
theorem foldMin {α : Type} {r : α → α → Bool} {p : α → Prop} [DecidablePred p] (hi : ∀ x, r x x = false) (ht : ∀ {x y z}, r x y = true → r y z = true → r x z = true) : ∀ (l : List α) (one : α),
    (l.foldl (fun b x => if r x b = true ∧ p x then x else b) one = one ∨ (l.foldl (fun b x => if r x b = true ∧ p x then x else b) one ∈ l ∧ p (l.foldl (fun b x => if r x b = true ∧ p x then x else b) one))) ∧
    (l.foldl (fun b x => if r x b = true ∧ p x then x else b) one = one ∨ r (l.foldl (fun b x => if r x b = true ∧ p x then x else b) one) one = true) ∧
    ∀ x ∈ l, p x → r x (l.foldl (fun b x => if r x b = true ∧ p x then x else b) one) = false
  | [], one => ⟨.inl rfl, .inl rfl, by simp⟩
  | x :: l, one => by
    rw [List.foldl_cons]
    by_cases h : r x one = true ∧ p x
    · rw [if_pos h]
      obtain ⟨a1, a2, a3⟩ := foldMin hi ht l x (p := p)
      generalize l.foldl (fun b x => if r x b = true ∧ p x then x else b) x = res at *
      refine ⟨.inr ?_, .inr ?_, fun y hy hpy => ?_⟩
      · rcases a1 with rfl | ⟨h1, h2⟩
        · exact ⟨List.mem_cons_self .., h.2⟩
        · exact ⟨List.mem_cons_of_mem _ h1, h2⟩
      · rcases a2 with rfl | h1
        · exact h.1
        · exact ht h1 h.1
      · rcases List.mem_cons.1 hy with rfl | hy
        · rcases a2 with rfl | h1
          · exact hi _
          · cases h2 : r y res
            · rfl
            · have := ht h2 h1
              rw [hi] at this; cases this
        · exact a3 y hy hpy
    · rw [if_neg h]
      obtain ⟨a1, a2, a3⟩ := foldMin hi ht l one (p := p)
      generalize l.foldl (fun b x => if r x b = true ∧ p x then x else b) one = res at *
      refine ⟨a1.imp id fun ⟨h1, h2⟩ => ⟨List.mem_cons_of_mem _ h1, h2⟩, a2, fun y hy hpy => ?_⟩
      rcases List.mem_cons.1 hy with rfl | hy
      · have hn : r y one = false := by
          cases h1 : r y one
          · rfl
          · exact absurd ⟨h1, hpy⟩ h
        rcases a2 with rfl | h1
        · exact hn
        · cases h2 : r y res
          · rfl
          · rw [ht h2 h1] at hn; cases hn
      · exact a3 y hy hpy
theorem natL_idx (j n : Nat) : natL (idxTo j n) = idxN j n := by
  unfold natL
  rw [idxTo_N, List.map_map]
  exact List.map_id'' (fun x => by simp) _
theorem natL_upto (n : Nat) : natL (uptoM n) = List.range n := by
  unfold natL uptoM
  rw [List.map_map]
  exact List.map_id'' (fun x => by simp) _
theorem only_all (B : Bk) : onlyM B (List.range B.marks.length) = B := by
  unfold onlyM
  have : (List.range B.marks.length).map (fun i => B.marks.getD i ((0, 0), 0)) = B.marks := by
    refine List.ext_getElem (by simp) fun i h1 h2 => ?_
    simp only [List.getElem_map, List.getElem_range]
    rw [List.getD_eq_getElem?_getD, List.getElem?_eq_getElem h2]
    rfl
  rw [this]
theorem clash_eq {B : Bk} (hz : bookBar B = 0) (h0 : (statesM B).length = 0) : clTo B (setsM B.marks.length B.marks.length).length = clashL B := by
  have hb := bounds_of_bar hz
  obtain ⟨k1, k2, k3, _⟩ := sets_idx B.marks.length (by omega)
  obtain ⟨l, hl, _, _, _, _, hlo, _, hlm⟩ := clash_law hz h0
  obtain ⟨a1, _, a3⟩ := foldMin (r := smallerM) (p := fun x => (statesM (onlyM B (natL x))).length = 0) smaller_irr smaller_trans (setsM B.marks.length B.marks.length) (uptoM B.marks.length)
  have e : clTo B (setsM B.marks.length B.marks.length).length = (setsM B.marks.length B.marks.length).foldl (fun b x => if smallerM x b = true ∧ (statesM (onlyM B (natL x))).length = 0 then x else b) (uptoM B.marks.length) := by
    unfold clTo
    rw [List.take_length]
    rfl
  rw [e]
  generalize (setsM B.marks.length B.marks.length).foldl (fun b x => if smallerM x b = true ∧ (statesM (onlyM B (natL x))).length = 0 then x else b) (uptoM B.marks.length) = res at *
  have hres : res ∈ setsM B.marks.length B.marks.length ∧ (statesM (onlyM B (natL res))).length = 0 := by
    rcases a1 with rfl | h
    · exact ⟨k3, by rw [natL_upto, only_all]; exact h0⟩
    · exact h
  have hcm : clashL B ∈ setsM B.marks.length B.marks.length ∧ (statesM (onlyM B (natL (clashL B)))).length = 0 := by
    have hp := odd_pos h0
    have hm : clashL B ∈ oddTo B (2 ^ B.marks.length) := by
      unfold clashL
      rw [if_pos h0]
      have hhd : (oddTo B (2 ^ B.marks.length)) = (oddTo B (2 ^ B.marks.length)).headD [] :: (oddTo B (2 ^ B.marks.length)).drop 1 := by
        cases h : oddTo B (2 ^ B.marks.length) with
        | nil => rw [h] at hp; simp at hp
        | cons x r => rfl
      have := bestM_mem smallerM ((oddTo B (2 ^ B.marks.length)).headD []) ((oddTo B (2 ^ B.marks.length)).drop 1)
      rw [← hhd] at this
      exact this
    obtain ⟨j, hj, ho, he⟩ := mem_odd.1 hm
    rw [he]
    exact ⟨k2 j hj, by rw [natL_idx]; exact ho⟩
  refine smaller_both ?_ (a3 _ hcm.1 hcm.2)
  obtain ⟨j, hj, rfl⟩ := k1 res hres.1
  rw [hl, idxTo_N]
  refine hlm j ?_
  have := hres.2
  rw [natL_idx] at this
  exact this
end Go.Gx
end

section
set_option linter.unusedSimpArgs false
set_option linter.unusedVariables false
namespace Go.Gx
open Go Go.Conc Go.Proofs
variable {main : Bool}

set_option maxRecDepth 100000 in
set_option maxHeartbeats 4000000 in
/-- Clash (ref) -/
theorem s75 (L : Lg Tryz.prog main) (H : Facts) {B : Bk} {A : BkA} (hB : BkR H B A) (hlp : B.prof.length ≤ 100000) (hlm : B.marks.length ≤ 100000) :
    Grows L 75 #[bkV B A] H (fun v sf => ∃ a cap, v = .tuple #[.slice a (clashM B).1.length cap, .int .i64 (clashM B).2] ∧ Rd sf a ((clashM B).1.flatMap c1)) := by
  refine Spec.enter Tryz.func75 rfl (by simp [Tryz.f75]) fun c cs hc => ?_
  unfold clashM at hc
  have q24 := fun H_ (hB_ : BkR H_ B A) => s24 L H_ hB_ hlp hlm
  have stop24 := trivial
  refine At.seq (At.region ?_); refine At.bx rfl rfl rfl rfl rfl rfl rfl fun r1 => ?_; (iterate 2 refine At.v rfl rfl rfl rfl rfl trivial ?_); refine At.regionEnd (At.seq (At.seq (At.region ?_))); refine At.ld 0 rfl rfl rfl rfl rfl rfl rfl rfl rfl ?_
  clear stop24
  refine At.cq rfl rfl rfl rfl rfl rfl rfl rfl (q24 _ hB.a) ?_; refine At.v rfl rfl rfl rfl rfl trivial ?_; refine At.regionEnd (At.seq (At.region ?_)); refine At.v rfl rfl rfl rfl rfl trivial ?_; refine At.cp rfl rfl rfl rfl rfl fun b12 h12 => ?_; refine At.regionEnd ?_
  cases b12
  rotate_left
  · have e : bookBar B ≠ 0 := by simpa using h12
    simp only [if_pos e] at hc
    refine At.cond rfl ?_; refine At.seq (At.region ?_); (iterate 3 refine At.v rfl rfl rfl rfl rfl trivial ?_); refine At.regionEnd ?_
    exact At.ret Tryz.func75 (.inr ⟨_, rfl⟩) rfl (.tmp rfl (.tmp rfl .nil)) (wk (hc _ _ (⟨[], ⟨none, 0, rfl, .inl rfl⟩, rfl⟩)))
  have hz : bookBar B = 0 := by simpa using h12
  simp only [hz, ne_eq, not_true_eq_false, if_false] at hc
  have hb := bounds_of_bar hz
  have q138 := fun H_ (hB_ : BkR H_ B A) => s138 L H_ hB_ hz
  have stop138 := trivial
  refine At.cond rfl ?_; refine At.skip (At.seq (At.seq (At.region ?_))); refine At.ld 0 rfl rfl rfl rfl rfl rfl rfl rfl rfl ?_
  clear stop138
  refine At.cl rfl rfl rfl rfl rfl rfl rfl rfl (q138 _ hB.a) ?_
  rintro _ _ ⟨sf0, ⟨a0, cap0, rfl, _⟩, rfl⟩
  refine At.back ?_
  refine At.weakH ?_ (((Sub.refl H).dropL sf0).cons _)
  refine At.ln rfl rfl rfl rfl rfl rfl rfl rfl ?_; refine At.cp rfl rfl rfl rfl rfl fun b17 h17 => ?_; refine At.regionEnd ?_
  cases b17
  rotate_left
  · have e : (statesM B).length ≠ 0 := by simp at h17; omega
    have ec : clashL B = [] := by unfold clashL; rw [if_neg e]
    rw [ec] at hc
    refine At.cond rfl ?_; refine At.seq (At.region ?_); (iterate 2 refine At.v rfl rfl rfl rfl rfl trivial ?_); refine At.regionEnd ?_
    exact At.ret Tryz.func75 (.inr ⟨_, rfl⟩) rfl (.tmp rfl (.tmp rfl .nil)) (wk (hc _ _ (⟨[], ⟨none, 0, rfl, .inl rfl⟩, rfl⟩)))
  have h0 : (statesM B).length = 0 := by simp at h17; simpa using h17
  have heq := clash_eq hz h0
  obtain ⟨k1, _, k3, k4⟩ := sets_idx B.marks.length (by omega)
  have hsl := setsM_len (most := B.marks.length) B.marks.length
  have hsl2 : 2 ^ B.marks.length ≤ 16 := Nat.pow_le_pow_right (by omega) (show B.marks.length ≤ 4 by omega)
  have hsx := setsM_xs (most := B.marks.length) B.marks.length
  have q142 := fun H_ => s142 L H_ (n := B.marks.length) (by omega)
  have q143 := fun H_ => s143 L H_ (n := B.marks.length) (most := B.marks.length) (by omega) (by omega)
  have hrm := hB.m
  have hrp := hB.p
  have stop142 := trivial
  refine At.cond rfl ?_; refine At.skip (At.seq (At.region ?_)); refine At.fa 4 rfl rfl rfl rfl rfl rfl rfl ?_; refine At.ld 0 rfl rfl rfl rfl rfl rfl rfl rfl rfl ?_; refine At.ln rfl rfl rfl rfl rfl rfl rfl rfl ?_; refine At.v rfl rfl rfl rfl rfl trivial ?_; refine At.regionEnd (At.seq (At.region ?_)); refine At.v rfl rfl rfl rfl rfl trivial ?_
  clear stop142
  refine At.cl rfl rfl rfl rfl rfl rfl rfl rfl (q142 _) ?_
  rintro _ _ ⟨sfu, hu, rfl⟩
  refine At.back ?_
  have stop143 := trivial
  (iterate 2 refine At.v rfl rfl rfl rfl rfl trivial ?_)
  clear stop143
  refine At.cl rfl rfl rfl rfl rfl rfl rfl rfl (q143 _) ?_
  rintro _ _ ⟨sfs, ⟨es, so, sl, rfl, hso, hes, hrd⟩, rfl⟩
  refine At.back ?_
  obtain ⟨au, cu, rfl⟩ := hu.slice
  obtain ⟨ao, co, rfl⟩ := hso.slice
  obtain ⟨_, hru, hcu⟩ := hu.rd
  obtain ⟨_, hro, hco⟩ := hso.rd
  have hel : es.length = (setsM B.marks.length B.marks.length).length := by rw [← hes, List.length_map]
  have hcm := fun j => clTo_mem B j
  have hul := uptoM_len B.marks.length
  (iterate 2 refine At.v rfl rfl rfl rfl rfl trivial ?_); refine At.regionEnd (At.seq (At.seq (At.region ?_))); refine At.v rfl rfl rfl rfl rfl trivial ?_; refine At.regionEnd ?_; refine At.block ?_
  refine At.lpk (X := { x : Nat × LE // x.1 ≤ es.length ∧ x.2.xs = clTo B x.1 ∧ Rd ((so ++ sl) ++ sfu) x.2.a (x.2.xs.flatMap c1) }) [1, 2, 3, 7] (fun x => [(8, .int .i64 (x.1.1 : Int)), (6, x.1.2.v)]) (fun x => .own r1 (.cells (List.toArray (bkC B A)) 27 (0, 0)) :: ((so ++ sl) ++ (sfu ++ H))) (fun x => es.length - x.1.1) (⟨(0, ⟨au, cu, uptoM B.marks.length⟩), Nat.zero_le _, rfl, hru.more (Sub.append_left _ _)⟩) rfl ?_ (by repeat (first | exact trivial | refine ⟨rfl, ?_⟩)) sb
  rintro ⟨⟨j, ba, bc, bx⟩, hj, hbx, hbr⟩ again
  simp only [LE.v] at again hj hbx hbr ⊢
  refine At.seq (At.seq (At.region ?_)); (iterate 2 refine At.v rfl rfl rfl rfl rfl trivial ?_); refine At.ln rfl rfl rfl rfl rfl rfl rfl rfl ?_; refine At.cp rfl rfl rfl rfl rfl fun b29 h29 => ?_; refine At.regionEnd ?_
  have hbl : bx.length ≤ 4 := by
    rw [hbx]
    rcases hcm j with h | h
    · rw [h, hul]; omega
    · have := hsx _ h; omega
  cases b29
  · have e : j = es.length := by simp at h29; omega
    subst e
    rw [hel, heq] at hbx
    subst hbx
    refine At.cond rfl ?_; refine At.exit rfl ?_; refine At.seq (At.region ?_); (iterate 3 refine At.v rfl rfl rfl rfl rfl trivial ?_); refine At.regionEnd ?_
    exact At.ret Tryz.func75 (.inr ⟨_, rfl⟩) rfl (.tmp rfl (.tmp rfl .nil)) (wk (hc _ _ (⟨(so ++ sl) ++ sfu, ⟨ba, bc, rfl, hbr⟩, (List.append_assoc _ _ _).symm⟩)))
  · have hlt : j < es.length := by simp at h29; omega
    obtain ⟨b1, o1, e1, hcj⟩ := hro.el (List.getElem?_eq_getElem hlt)
    cases e1
    have hxs : es[j].xs = (setsM B.marks.length B.marks.length)[j]'(by omega) := by
      have h1 : (es.map LE.xs)[j]? = some es[j].xs := by rw [List.getElem?_map, List.getElem?_eq_getElem hlt]; rfl
      rw [hes, List.getElem?_eq_getElem (by omega)] at h1
      exact (Option.some.inj h1).symm
    have hmem : es[j].xs ∈ setsM B.marks.length B.marks.length := by rw [hxs]; exact List.getElem_mem _
    have hstp := clTo_succ (B := B) (j := j) (by omega)
    rw [← hxs, ← hbx] at hstp
    unfold clStep at hstp
    obtain ⟨hre, hce⟩ := hrd _ (List.getElem_mem hlt)
    obtain ⟨hn1, hn2⟩ := k4 _ hmem
    have hxl := hsx _ hmem
    generalize es[j] = E0 at hcj hxs hmem hstp hre hce hn1 hn2 hxl
    obtain ⟨ea, ec, ex⟩ := E0
    simp only at hxs hmem hstp hre hce hn1 hn2 hxl
    have hnl : (natL ex).length = ex.length := by simp [natL]
    have hcj2 : Cells (so ++ sl) b1 (o1 + j * 1) [.slice ea ex.length ec] := (show Cells so b1 (o1 + j * 1) [.slice ea ex.length ec] from hcj).a (Sub.pre so sl)
    clear hcj
    have hre2 := hre.more (Sub.append_left so sl)
    have hbr2 : Rd ((so ++ sl) ++ (sfu ++ H)) ba (bx.flatMap c1) := hbr.more (by rw [← List.append_assoc]; exact Sub.pre _ _)
    have hz2 := only_bar hz (l := natL ex) (by omega) hn2
    have q62 := fun H_ h1_ h2_ => s62 L H_ (a := ea) (a' := ba) (n := ex.length) (n' := bx.length) (cap := ec) (cap' := bc) (xs := ex) (ys := bx) rfl rfl h1_ h2_ (by omega) (by omega)
    have q60 := fun H_ (hB_ : BkR H_ B A) h1_ => s60 L H_ (a := ea) (n := ex.length) (cap := ec) (l := natL ex) hnl hB_ (by rw [hn1]; exact h1_) hn2 (by omega) (by omega)
    by_cases hsm : smallerM ex bx = true
    · rw [hsm] at q62
      have stop62 := trivial
      have stopDraw := trivial
      refine At.cond rfl ?_; refine At.skip (At.seq ?_); refine At.block ?_; refine At.seq ?_
      clear stopDraw
      refine At.draw hmix (_) sb ?_; refine Pool.v 0 rfl rfl rfl rfl rfl rfl rfl trivial ?_; refine Pool.v 1 rfl rfl rfl rfl rfl rfl rfl trivial ?_; refine Pool.q 2 rfl rfl rfl rfl rfl (q_ia rfl rfl rfl (by assumption)) rfl ?_; refine Pool.ldc 3 rfl rfl rfl rfl rfl rfl rfl hcj2.a rfl rfl rfl ?_; refine Pool.v 4 rfl rfl rfl rfl rfl rfl rfl trivial ?_
      clear stop62
      refine Pool.cq 5 rfl rfl rfl rfl rfl rfl rfl rfl rfl (fun H_ hs_ => q62 _ hre2.a hbr2.a) ?_
      have stop60 := trivial
      refine Pool.v 6 rfl rfl rfl rfl rfl rfl rfl trivial ?_; refine Pool.ld 0 7 rfl rfl rfl rfl rfl rfl rfl rfl rfl rfl rfl ?_; refine Pool.v 8 rfl rfl rfl rfl rfl rfl rfl trivial ?_; refine Pool.v 9 rfl rfl rfl rfl rfl rfl rfl trivial ?_; refine Pool.q 10 rfl rfl rfl rfl rfl (q_ia rfl rfl rfl (by assumption)) rfl ?_; refine Pool.ldc 11 rfl rfl rfl rfl rfl rfl rfl hcj2.a rfl rfl rfl ?_; refine Pool.cl 12 rfl rfl rfl rfl rfl rfl rfl rfl rfl rfl rfl rfl rfl rfl (fun H_ hs_ => q60 H_ hB.a hre2.a) sb ?_
      rintro _ sg ⟨a3, cp3, rfl, hsg⟩
      obtain ⟨_, hr3, _⟩ := hsg.rd
      have p138 := fun H_ (hm_ : Rd H_ a3 ((onlyM B (natL ex)).marks.flatMap c3)) (hp_ : Rd H_ A.pa (B.prof.flatMap c2)) => s138 L H_ (B := onlyM B (natL ex)) (A := ⟨A.pa, A.pc, a3, cp3⟩) ⟨hp_, hm_⟩ hz2
      have stop138 := trivial
      skip
      refine Pool.cl 13 rfl rfl rfl rfl rfl rfl rfl rfl rfl rfl rfl rfl rfl rfl (fun H_ hs_ => p138 H_ hr3.a hrp.a) sb ?_
      rintro _ s8 ⟨a8, cp8, rfl, hs8⟩
      refine Pool.ln 14 rfl rfl rfl rfl rfl rfl rfl rfl rfl rfl ?_; refine Pool.cp 15 rfl rfl rfl rfl rfl rfl rfl fun b47 h47 => ?_; refine Pool.v 16 rfl rfl rfl rfl rfl rfl rfl trivial ?_; refine pool_done rfl rfl ?_; refine At.regionEnd ?_
      refine At.weakH ?_ (((Sub.refl _).dropL sg).dropL s8)
      cases b47
      · have e : ¬ (statesM (onlyM B (natL ex))).length = 0 := by simpa using h47
        rw [if_neg (fun h => e h.2)] at hstp
        refine At.cond rfl ?_; refine At.skip ?_; refine At.inBlock ?_; refine At.region ?_; refine At.v rfl rfl rfl rfl rfl trivial ?_; refine At.v rfl rfl rfl rfl rfl (by omega) ?_; refine At.v rfl rfl rfl rfl rfl trivial ?_; refine At.regionEnd ?_
        refine At.tA ((again ⟨(j + 1, ⟨ba, bc, bx⟩), hlt, hstp.symm, hbr⟩ (by simp; omega)))
      · have e : (statesM (onlyM B (natL ex))).length = 0 := by simpa using h47
        rw [if_pos ⟨hsm, e⟩] at hstp
        refine At.cond rfl ?_; refine At.region ?_; (iterate 2 refine At.v rfl rfl rfl rfl rfl trivial ?_); refine At.q rfl rfl rfl rfl (q_ia rfl rfl rfl (by assumption)) ?_; refine At.ldc rfl rfl rfl rfl rfl rfl hcj2.a rfl rfl ?_; refine At.v rfl rfl rfl rfl rfl trivial ?_; refine At.regionEnd ?_; refine At.inBlock ?_; refine At.region ?_; refine At.v rfl rfl rfl rfl rfl trivial ?_; refine At.v rfl rfl rfl rfl rfl (by omega) ?_; refine At.v rfl rfl rfl rfl rfl trivial ?_; refine At.regionEnd ?_
        refine At.tA ((again ⟨(j + 1, ⟨ea, ec, ex⟩), hlt, hstp.symm, hre2.more (Sub.pre _ _)⟩ (by simp; omega)))
    · have hsm' : smallerM ex bx = false := by simpa using hsm
      rw [hsm'] at q62
      rw [if_neg (by simp [hsm'])] at hstp
      have stop62 := trivial
      have stopDraw := trivial
      refine At.cond rfl ?_; refine At.skip (At.seq ?_); refine At.block ?_; refine At.seq ?_
      clear stopDraw
      refine At.draw hmix (_) sb ?_; refine Pool.v 0 rfl rfl rfl rfl rfl rfl rfl trivial ?_; refine Pool.v 1 rfl rfl rfl rfl rfl rfl rfl trivial ?_; refine Pool.q 2 rfl rfl rfl rfl rfl (q_ia rfl rfl rfl (by assumption)) rfl ?_; refine Pool.ldc 3 rfl rfl rfl rfl rfl rfl rfl hcj2.a rfl rfl rfl ?_; refine Pool.v 4 rfl rfl rfl rfl rfl rfl rfl trivial ?_
      clear stop62
      refine Pool.cq 5 rfl rfl rfl rfl rfl rfl rfl rfl rfl (fun H_ hs_ => q62 _ hre2.a hbr2.a) ?_; refine Pool.v 6 rfl rfl rfl rfl rfl rfl rfl trivial ?_; refine Pool.un 7 rfl rfl rfl rfl rfl rfl ?_; refine Pool.un 8 rfl rfl rfl rfl rfl rfl ?_; refine Pool.un 9 rfl rfl rfl rfl rfl rfl ?_; refine Pool.un 10 rfl rfl rfl rfl rfl rfl ?_; refine Pool.un 11 rfl rfl rfl rfl rfl rfl ?_; refine Pool.un 12 rfl rfl rfl rfl rfl rfl ?_; refine Pool.un 13 rfl rfl rfl rfl rfl rfl ?_
      refine Pool.un 14 rfl rfl rfl rfl rfl rfl ?_; refine Pool.un 15 rfl rfl rfl rfl rfl rfl ?_; refine Pool.v 16 rfl rfl rfl rfl rfl rfl rfl trivial ?_; refine pool_done rfl rfl ?_; refine At.regionEnd ?_; refine At.cond rfl ?_; refine At.skip ?_; refine At.inBlock ?_; refine At.region ?_; refine At.v rfl rfl rfl rfl rfl trivial ?_; refine At.v rfl rfl rfl rfl rfl (by omega) ?_; refine At.v rfl rfl rfl rfl rfl trivial ?_; refine At.regionEnd ?_
      refine At.tA ((again ⟨(j + 1, ⟨ba, bc, bx⟩), hlt, hstp.symm, hbr⟩ (by simp; omega)))
end Go.Gx
end

section
set_option linter.unusedSimpArgs false
set_option linter.unusedVariables false
namespace Go.Gx
open Go Go.Conc Go.Proofs

theorem clash_len {B : Bk} : (clashM B).1.length ≤ B.marks.length := by
  unfold clashM
  split
  · simp
  · show (clashL B).length ≤ _
    unfold clashL
    split
    · rename_i h0
      have hp := odd_pos h0
      have hhd : (oddTo B (2 ^ B.marks.length)) = (oddTo B (2 ^ B.marks.length)).headD [] :: (oddTo B (2 ^ B.marks.length)).drop 1 := by
        cases h : oddTo B (2 ^ B.marks.length) with
        | nil => rw [h] at hp; simp at hp
        | cons x r => rfl
      have := bestM_mem smallerM ((oddTo B (2 ^ B.marks.length)).headD []) ((oddTo B (2 ^ B.marks.length)).drop 1)
      rw [← hhd] at this
      exact oddTo_xs B _ _ this
    · simp
set_option maxRecDepth 100000 in
set_option maxHeartbeats 4000000 in
/-- CanvasNews -/
theorem law18 {Post : Value → World → Prop} {W₀ : World} {H Hg : Facts} (hG : Glo H Hg) (hsh : ∀ f ∈ H, f.isOwn = false) {B : Bk} {A : BkA} (hBk : BkR H B A) {a : Option Addr} {ss : List R2} {cap : Nat} (hS : Rd H a (ss.flatMap c2)) {m : R2 × Int} {x : Int × Int} :
    LawAt (mainLg Tryz.prog Post W₀ [] []) 18 #[bkV B A, .slice a ss.length cap, .agg #[.int .i64 m.1.1, .int .i64 m.1.2, .int .i64 m.2], .agg #[.int .i64 x.1, .int .i64 x.2]] H (.bool true) := by
  refine LawAt.enter Tryz.func18 rfl (by simp [Tryz.f18]) fun cs hLB => ?_
  obtain ⟨pa, pc, ma, mc⟩ := A
  generalize hL : mainLg Tryz.prog Post W₀ [] [] = L at hLB ⊢
  have stop22 := trivial
  refine At.seq (At.region ?_); refine At.bx rfl rfl rfl rfl rfl rfl rfl fun r4 => ?_; refine At.bx rfl rfl rfl rfl rfl rfl rfl fun r6 => ?_; refine At.bx rfl rfl rfl rfl rfl rfl rfl fun r7 => ?_; refine At.v rfl rfl rfl rfl rfl trivial ?_; refine At.regionEnd (At.seq (At.seq (At.region ?_))); refine At.ld 2 rfl rfl rfl rfl rfl rfl rfl rfl rfl ?_; refine At.cqb rfl rfl rfl rfl rfl rfl rfl rfl (s21 L _) fun b20 h20 => ?_; refine At.v rfl rfl rfl rfl rfl trivial ?_
  cases b20
  rotate_left
  · refine At.un rfl rfl rfl rfl ?_
    (iterate 2 refine At.un rfl rfl rfl rfl ?_); refine At.v rfl rfl rfl rfl rfl trivial ?_; refine At.regionEnd ?_; refine At.cond rfl ?_; refine At.seq (At.region ?_)
    subst hL
    refine At.cq rfl rfl rfl rfl rfl rfl rfl rfl (s22 hG.a) ?_; refine At.v rfl rfl rfl rfl rfl trivial ?_; refine At.regionEnd ?_
    exact hLB Tryz.func18 (.inr ⟨_, rfl⟩) rfl (.tmp rfl .nil) (⟨by rfl, rfl⟩)
  have hl1 : B.prof.length ≤ 20 := by simp at h20; omega
  have hl2 : B.marks.length ≤ 20 := by simp at h20; omega
  have hg : Cells H 0 0 chkC := hG.g.a hG.sub
  have hO : Opn H B ⟨pa, pc, ma, mc⟩ := ⟨hg, hBk, by omega, by omega⟩
  have hOS : OpS H H B ⟨pa, pc, ma, mc⟩ := ⟨Sub.refl _, hsh, hO⟩
  refine At.v rfl rfl rfl rfl rfl trivial ?_; refine At.ln rfl rfl rfl rfl rfl rfl rfl rfl ?_; refine At.cp rfl rfl rfl rfl rfl fun b24 h24 => ?_; refine At.v rfl rfl rfl rfl rfl trivial ?_; refine At.regionEnd ?_
  cases b24
  rotate_left
  · refine At.cond rfl ?_
    refine At.seq (At.region ?_)
    subst hL
    refine At.cq rfl rfl rfl rfl rfl rfl rfl rfl (s22 hG.a) ?_; refine At.v rfl rfl rfl rfl rfl trivial ?_; refine At.regionEnd ?_
    exact hLB Tryz.func18 (.inr ⟨_, rfl⟩) rfl (.tmp rfl .nil) (⟨by rfl, rfl⟩)
  have hsl : ss.length ≤ 20 := by simp at h24; omega
  have hrp := hBk.p
  have hrm := hBk.m
  simp only at hrp hrm
  have q59 := fun H_ (hO_ : Opn H_ B ⟨pa, pc, ma, mc⟩) => s59 L H_ hO_
  have q75 := fun H_ (hB_ : BkR H_ B ⟨pa, pc, ma, mc⟩) => s75 L H_ hB_ (by omega) (by omega)
  have q63 := fun H_ (hO_ : OpS H_ H B ⟨pa, pc, ma, mc⟩) hr_ => s63 (Post := Post) (W₀ := W₀) (a2 := a) (n := ss.length) (cap2 := cap) (ss := ss) hO_ rfl hr_ (by omega)
  have q76 := fun H_ (hB_ : BkR H_ B ⟨pa, pc, ma, mc⟩) hr_ => s76 L H_ (a2 := a) (n := ss.length) (cap2 := cap) (ss := ss) hB_ (by omega) (by omega) rfl hr_ (by omega)
  have q65 := fun H_ (hO_ : Opn H_ B ⟨pa, pc, ma, mc⟩) => s65 L H_ (m := m) hO_
  have q77 := fun H_ (hB_ : BkR H_ B ⟨pa, pc, ma, mc⟩) => s77 L H_ (m := m) hB_ (by omega) (by omega)
  have q79 := fun H_ (hO_ : Opn H_ B ⟨pa, pc, ma, mc⟩) => s79 L H_ (x := x) hO_
  have q80 := fun H_ (hB_ : BkR H_ B ⟨pa, pc, ma, mc⟩) => s80 L H_ (x := x) hB_ (by omega) (by omega)
  simp only [hL] at q63
  have hcl := clash_len (B := B)
  generalize clashM B = cl at q59 q75 hcl
  generalize askM B ss = ak at q63 q76
  have stop59 := trivial
  refine At.cond rfl ?_; refine At.skip (At.seq (At.region ?_)); refine At.ld 2 rfl rfl rfl rfl rfl rfl rfl rfl rfl ?_
  clear stop59
  refine At.cl rfl rfl rfl rfl rfl rfl rfl rfl (q59 _ hO.a) ?_
  rintro _ _ ⟨sf1, ⟨a1, cap1, rfl, r1⟩, rfl⟩
  refine At.back ?_
  have stop75 := trivial
  (iterate 5 refine At.v rfl rfl rfl rfl rfl trivial ?_); refine At.regionEnd (At.seq (At.region ?_)); refine At.ld 2 rfl rfl rfl rfl rfl rfl rfl rfl rfl ?_
  clear stop75
  refine At.cl rfl rfl rfl rfl rfl rfl rfl rfl (q75 _ hBk.a) ?_
  rintro _ _ ⟨sf2, ⟨a2, cap2, rfl, r2⟩, rfl⟩
  refine At.back ?_
  have q31 := fun H_ (g1_ : Rd H_ a1 (cl.1.flatMap c1)) (g2_ : Rd H_ a2 (cl.1.flatMap c1)) => s31 L H_ (a := a1) (a' := a2) (n := cl.1.length) (n' := cl.1.length) (cap := cap1) (cap' := cap2) (xs := cl.1) (ys := cl.1) rfl rfl g1_ g2_ (by omega)
  rw [show decide (cl.1 = cl.1) = true by simp] at q31
  have stop31 := trivial
  (iterate 5 refine At.v rfl rfl rfl rfl rfl trivial ?_); refine At.regionEnd (At.seq (At.seq (At.region ?_))); (iterate 2 refine At.v rfl rfl rfl rfl rfl trivial ?_); refine At.cq rfl rfl rfl rfl rfl rfl rfl rfl (q31 _ r1.a r2.a) ?_
  have stop63 := trivial
  (iterate 4 refine At.v rfl rfl rfl rfl rfl trivial ?_); refine At.cp rfl rfl rfl rfl rfl fun b44 h44 => ?_; refine At.v rfl rfl rfl rfl rfl trivial ?_; refine At.regionEnd ?_
  obtain rfl : b44 = false := h44.symm.trans (by simp)
  refine At.cond rfl ?_; refine At.skip (At.seq (At.region ?_)); refine At.ld 2 rfl rfl rfl rfl rfl rfl rfl rfl rfl ?_; refine At.v rfl rfl rfl rfl rfl trivial ?_; refine At.cq rfl rfl rfl rfl rfl rfl rfl rfl (q63 _ hOS.a hS.a) ?_
  clear stop63
  have stop76 := trivial
  (iterate 7 refine At.v rfl rfl rfl rfl rfl trivial ?_); refine At.regionEnd (At.seq (At.region ?_)); refine At.ld 2 rfl rfl rfl rfl rfl rfl rfl rfl rfl ?_; refine At.v rfl rfl rfl rfl rfl trivial ?_; refine At.cq rfl rfl rfl rfl rfl rfl rfl rfl (q76 _ hBk.a hS.a) ?_
  clear stop76
  have stop65 := trivial
  (iterate 7 refine At.v rfl rfl rfl rfl rfl trivial ?_); refine At.regionEnd (At.seq (At.seq (At.region ?_))); (iterate 2 refine At.v rfl rfl rfl rfl rfl trivial ?_); refine At.cp rfl rfl rfl rfl rfl fun b62 h62 => ?_; refine At.v rfl rfl rfl rfl rfl trivial ?_
  obtain rfl : b62 = false := h62.symm.trans (by simp)
  (iterate 2 refine At.v rfl rfl rfl rfl rfl trivial ?_); refine At.cp rfl rfl rfl rfl rfl fun b66 h66 => ?_; (iterate 2 refine At.v rfl rfl rfl rfl rfl trivial ?_)
  obtain rfl : b66 = false := h66.symm.trans (by simp)
  (iterate 2 refine At.v rfl rfl rfl rfl rfl trivial ?_); refine At.cp rfl rfl rfl rfl rfl fun b71 h71 => ?_; refine At.v rfl rfl rfl rfl rfl trivial ?_; refine At.regionEnd ?_
  obtain rfl : b71 = false := h71.symm.trans (by simp)
  refine At.cond rfl ?_; refine At.skip (At.seq (At.region ?_)); refine At.ld 2 rfl rfl rfl rfl rfl rfl rfl rfl rfl ?_; refine At.ld 1 rfl rfl rfl rfl rfl rfl rfl rfl rfl ?_; refine At.cl rfl rfl rfl rfl rfl rfl rfl rfl (q65 _ hO.a) ?_
  rintro v3 _ ⟨sf3, ⟨h65a, h65b⟩, rfl⟩
  refine At.back ?_
  have q80' := q80
  by_cases hmb : markBarM B m = 0
  · obtain ⟨A3, rfl, hb3⟩ := h65b hmb
    have stop77 := trivial
    (iterate 3 refine At.v rfl rfl rfl rfl rfl trivial ?_); refine At.al rfl rfl rfl rfl rfl fun r17 => ?_; refine At.st 0 rfl rfl rfl rfl rfl rfl rfl rfl rfl rfl rfl rfl ?_; refine At.v rfl rfl rfl rfl rfl trivial ?_; refine At.regionEnd (At.seq (At.region ?_)); refine At.ld 3 rfl rfl rfl rfl rfl rfl rfl rfl rfl ?_; refine At.ld 2 rfl rfl rfl rfl rfl rfl rfl rfl rfl ?_; refine At.cl rfl rfl rfl rfl rfl rfl rfl rfl (q77 _ hBk.a) ?_
    rintro v4 _ ⟨sf4, ⟨h77a, h77b⟩, rfl⟩
    refine At.back ?_
    obtain ⟨a4, cap4, rfl, hs4⟩ := h77b hmb
    clear stop77
    have hs4' : Sl c3 94 (.slice a4 (markedM B m).marks.length cap4) (markedM B m).marks sf4 := by
      show Sl c3 94 (.slice a4 (B.marks ++ [m]).length cap4) (B.marks ++ [m]) sf4
      rw [show (B.marks ++ [m]).length = B.marks.length + 1 by simp]
      exact hs4
    obtain ⟨_, r4, _⟩ := hs4'.rd
    have p78 := fun H_ (h1 : BkR H_ (markedM B m) A3) (h2 : Rd H_ pa (B.prof.flatMap c2)) (h3 : Rd H_ a4 ((markedM B m).marks.flatMap c3)) => s78 L H_ (B := markedM B m) (C := markedM B m) (A := A3) (D := ⟨pa, pc, a4, cap4⟩) h1 ⟨h2, h3⟩ (by show B.prof.length ≤ _; omega) (by show (B.marks ++ [m]).length ≤ _; simp; omega)
    rw [same_self] at p78
    have stop78 := trivial
    (iterate 3 refine At.v rfl rfl rfl rfl rfl trivial ?_); refine At.al rfl rfl rfl rfl rfl fun r18 => ?_; refine At.st 0 rfl rfl rfl rfl rfl rfl rfl rfl rfl rfl rfl rfl ?_; refine At.v rfl rfl rfl rfl rfl trivial ?_; refine At.regionEnd (At.seq (At.seq (At.region ?_))); refine At.ld 1 rfl rfl rfl rfl rfl rfl rfl rfl rfl ?_; refine At.ld 0 rfl rfl rfl rfl rfl rfl rfl rfl rfl ?_; refine At.cq rfl rfl rfl rfl rfl rfl rfl rfl (p78 _ hb3.r.a hrp.a r4.a) ?_
    clear stop78
    have stop79 := trivial
    (iterate 4 refine At.v rfl rfl rfl rfl rfl trivial ?_); refine At.cp rfl rfl rfl rfl rfl fun b92 h92 => ?_; refine At.v rfl rfl rfl rfl rfl trivial ?_; refine At.regionEnd ?_
    obtain rfl : b92 = false := h92.symm.trans (by kernel_rfl)
    refine At.cond rfl ?_; refine At.skip (At.seq (At.region ?_)); refine At.ld 4 rfl rfl rfl rfl rfl rfl rfl rfl rfl ?_; refine At.ld 2 rfl rfl rfl rfl rfl rfl rfl rfl rfl ?_; refine At.cl rfl rfl rfl rfl rfl rfl rfl rfl (q79 _ hO.a) ?_
    rintro v5 _ ⟨sf5, ⟨h79a, h79b⟩, rfl⟩
    refine At.back ?_
    clear stop79
    by_cases hsb : standBar B x = 0
    · obtain ⟨A5, rfl, hb5⟩ := h79b hsb
      rw [if_neg (by simpa using hsb)] at q80'
      have stop80 := trivial
      (iterate 3 refine At.v rfl rfl rfl rfl rfl trivial ?_); refine At.st 1 rfl rfl rfl rfl rfl rfl rfl rfl rfl rfl rfl rfl ?_; refine At.v rfl rfl rfl rfl rfl trivial ?_; refine At.regionEnd (At.seq (At.region ?_)); refine At.ld 4 rfl rfl rfl rfl rfl rfl rfl rfl rfl ?_; refine At.ld 2 rfl rfl rfl rfl rfl rfl rfl rfl rfl ?_; refine At.cq rfl rfl rfl rfl rfl rfl rfl rfl (q80' _ hBk.a) ?_
      clear stop80
      have p78 := fun H_ (h1 : BkR H_ (standM B x) A5) (h2 : Rd H_ pa (B.prof.flatMap c2)) (h3 : Rd H_ ma (B.marks.flatMap c3)) => s78 L H_ (B := standM B x) (C := standM B x) (A := A5) (D := ⟨pa, pc, ma, mc⟩) h1 ⟨h2, h3⟩ (by show B.prof.length ≤ _; omega) (by show B.marks.length ≤ _; omega)
      rw [same_self] at p78
      have stop78 := trivial
      (iterate 3 refine At.v rfl rfl rfl rfl rfl trivial ?_); refine At.st 0 rfl rfl rfl rfl rfl rfl rfl rfl rfl rfl rfl rfl ?_; refine At.v rfl rfl rfl rfl rfl trivial ?_; refine At.regionEnd (At.seq (At.region ?_)); refine At.ld 1 rfl rfl rfl rfl rfl rfl rfl rfl rfl ?_; refine At.ld 0 rfl rfl rfl rfl rfl rfl rfl rfl rfl ?_; refine At.cq rfl rfl rfl rfl rfl rfl rfl rfl (p78 _ hb5.r.a hrp.a hrm.a) ?_; (iterate 3 refine At.v rfl rfl rfl rfl rfl trivial ?_)
      refine At.cp rfl rfl rfl rfl rfl fun b112 h112 => ?_; (iterate 2 refine At.v rfl rfl rfl rfl rfl trivial ?_)
      obtain rfl : b112 = true := h112.symm.trans (by kernel_rfl)
      subst hL
      refine At.cq rfl rfl rfl rfl rfl rfl rfl rfl (s22 hG.a) ?_; (iterate 2 refine At.v rfl rfl rfl rfl rfl trivial ?_); refine At.regionEnd ?_
      exact hLB Tryz.func18 (.inr ⟨_, rfl⟩) rfl (.tmp rfl .nil) (⟨by rfl, rfl⟩)
    · obtain rfl := h79a hsb
      rw [if_pos hsb] at q80'
      have stop80 := trivial
      (iterate 3 refine At.v rfl rfl rfl rfl rfl trivial ?_); refine At.st 1 rfl rfl rfl rfl rfl rfl rfl rfl rfl rfl rfl rfl ?_; refine At.v rfl rfl rfl rfl rfl trivial ?_; refine At.regionEnd (At.seq (At.region ?_)); refine At.ld 4 rfl rfl rfl rfl rfl rfl rfl rfl rfl ?_; refine At.ld 2 rfl rfl rfl rfl rfl rfl rfl rfl rfl ?_; refine At.cq rfl rfl rfl rfl rfl rfl rfl rfl (q80' _ hBk.a) ?_
      clear stop80
      have stop78 := trivial
      (iterate 3 refine At.v rfl rfl rfl rfl rfl trivial ?_); refine At.st 0 rfl rfl rfl rfl rfl rfl rfl rfl rfl rfl rfl rfl ?_; refine At.v rfl rfl rfl rfl rfl trivial ?_; refine At.regionEnd (At.seq (At.region ?_)); refine At.ld 1 rfl rfl rfl rfl rfl rfl rfl rfl rfl ?_; refine At.ld 0 rfl rfl rfl rfl rfl rfl rfl rfl rfl ?_; refine At.cq rfl rfl rfl rfl rfl rfl rfl rfl (s78z L _) ?_; (iterate 3 refine At.v rfl rfl rfl rfl rfl trivial ?_); refine At.cp rfl rfl rfl rfl rfl fun b112 h112 => ?_
      (iterate 2 refine At.v rfl rfl rfl rfl rfl trivial ?_)
      obtain rfl : b112 = true := h112.symm.trans (by simp)
      subst hL
      refine At.cq rfl rfl rfl rfl rfl rfl rfl rfl (s22 hG.a) ?_; (iterate 2 refine At.v rfl rfl rfl rfl rfl trivial ?_); refine At.regionEnd ?_
      exact hLB Tryz.func18 (.inr ⟨_, rfl⟩) rfl (.tmp rfl .nil) (⟨by rfl, rfl⟩)
  · obtain rfl := h65a hmb
    have stop77 := trivial
    (iterate 3 refine At.v rfl rfl rfl rfl rfl trivial ?_); refine At.al rfl rfl rfl rfl rfl fun r17 => ?_; refine At.st 0 rfl rfl rfl rfl rfl rfl rfl rfl rfl rfl rfl rfl ?_; refine At.v rfl rfl rfl rfl rfl trivial ?_; refine At.regionEnd (At.seq (At.region ?_)); refine At.ld 3 rfl rfl rfl rfl rfl rfl rfl rfl rfl ?_; refine At.ld 2 rfl rfl rfl rfl rfl rfl rfl rfl rfl ?_; refine At.cl rfl rfl rfl rfl rfl rfl rfl rfl (q77 _ hBk.a) ?_
    rintro v4 _ ⟨sf4, ⟨h77a, h77b⟩, rfl⟩
    refine At.back ?_
    obtain rfl := h77a hmb
    clear stop77
    have stop78 := trivial
    (iterate 3 refine At.v rfl rfl rfl rfl rfl trivial ?_); refine At.al rfl rfl rfl rfl rfl fun r18 => ?_; refine At.st 0 rfl rfl rfl rfl rfl rfl rfl rfl rfl rfl rfl rfl ?_; refine At.v rfl rfl rfl rfl rfl trivial ?_; refine At.regionEnd (At.seq (At.seq (At.region ?_))); refine At.ld 1 rfl rfl rfl rfl rfl rfl rfl rfl rfl ?_; refine At.ld 0 rfl rfl rfl rfl rfl rfl rfl rfl rfl ?_; refine At.cq rfl rfl rfl rfl rfl rfl rfl rfl (s78z L _) ?_
    clear stop78
    have stop79 := trivial
    (iterate 4 refine At.v rfl rfl rfl rfl rfl trivial ?_); refine At.cp rfl rfl rfl rfl rfl fun b92 h92 => ?_; refine At.v rfl rfl rfl rfl rfl trivial ?_; refine At.regionEnd ?_
    obtain rfl : b92 = false := h92.symm.trans (by simp)
    refine At.cond rfl ?_; refine At.skip (At.seq (At.region ?_)); refine At.ld 4 rfl rfl rfl rfl rfl rfl rfl rfl rfl ?_; refine At.ld 2 rfl rfl rfl rfl rfl rfl rfl rfl rfl ?_; refine At.cl rfl rfl rfl rfl rfl rfl rfl rfl (q79 _ hO.a) ?_
    rintro v5 _ ⟨sf5, ⟨h79a, h79b⟩, rfl⟩
    refine At.back ?_
    clear stop79
    by_cases hsb : standBar B x = 0
    · obtain ⟨A5, rfl, hb5⟩ := h79b hsb
      rw [if_neg (by simpa using hsb)] at q80'
      have stop80 := trivial
      (iterate 3 refine At.v rfl rfl rfl rfl rfl trivial ?_); refine At.st 1 rfl rfl rfl rfl rfl rfl rfl rfl rfl rfl rfl rfl ?_; refine At.v rfl rfl rfl rfl rfl trivial ?_; refine At.regionEnd (At.seq (At.region ?_)); refine At.ld 4 rfl rfl rfl rfl rfl rfl rfl rfl rfl ?_; refine At.ld 2 rfl rfl rfl rfl rfl rfl rfl rfl rfl ?_; refine At.cq rfl rfl rfl rfl rfl rfl rfl rfl (q80' _ hBk.a) ?_
      clear stop80
      have p78 := fun H_ (h1 : BkR H_ (standM B x) A5) (h2 : Rd H_ pa (B.prof.flatMap c2)) (h3 : Rd H_ ma (B.marks.flatMap c3)) => s78 L H_ (B := standM B x) (C := standM B x) (A := A5) (D := ⟨pa, pc, ma, mc⟩) h1 ⟨h2, h3⟩ (by show B.prof.length ≤ _; omega) (by show B.marks.length ≤ _; omega)
      rw [same_self] at p78
      have stop78 := trivial
      (iterate 3 refine At.v rfl rfl rfl rfl rfl trivial ?_); refine At.st 0 rfl rfl rfl rfl rfl rfl rfl rfl rfl rfl rfl rfl ?_; refine At.v rfl rfl rfl rfl rfl trivial ?_; refine At.regionEnd (At.seq (At.region ?_)); refine At.ld 1 rfl rfl rfl rfl rfl rfl rfl rfl rfl ?_; refine At.ld 0 rfl rfl rfl rfl rfl rfl rfl rfl rfl ?_; refine At.cq rfl rfl rfl rfl rfl rfl rfl rfl (p78 _ hb5.r.a hrp.a hrm.a) ?_; (iterate 3 refine At.v rfl rfl rfl rfl rfl trivial ?_)
      refine At.cp rfl rfl rfl rfl rfl fun b112 h112 => ?_; (iterate 2 refine At.v rfl rfl rfl rfl rfl trivial ?_)
      obtain rfl : b112 = true := h112.symm.trans (by kernel_rfl)
      subst hL
      refine At.cq rfl rfl rfl rfl rfl rfl rfl rfl (s22 hG.a) ?_; (iterate 2 refine At.v rfl rfl rfl rfl rfl trivial ?_); refine At.regionEnd ?_
      exact hLB Tryz.func18 (.inr ⟨_, rfl⟩) rfl (.tmp rfl .nil) (⟨by rfl, rfl⟩)
    · obtain rfl := h79a hsb
      rw [if_pos hsb] at q80'
      have stop80 := trivial
      (iterate 3 refine At.v rfl rfl rfl rfl rfl trivial ?_); refine At.st 1 rfl rfl rfl rfl rfl rfl rfl rfl rfl rfl rfl rfl ?_; refine At.v rfl rfl rfl rfl rfl trivial ?_; refine At.regionEnd (At.seq (At.region ?_)); refine At.ld 4 rfl rfl rfl rfl rfl rfl rfl rfl rfl ?_; refine At.ld 2 rfl rfl rfl rfl rfl rfl rfl rfl rfl ?_; refine At.cq rfl rfl rfl rfl rfl rfl rfl rfl (q80' _ hBk.a) ?_
      clear stop80
      have stop78 := trivial
      (iterate 3 refine At.v rfl rfl rfl rfl rfl trivial ?_); refine At.st 0 rfl rfl rfl rfl rfl rfl rfl rfl rfl rfl rfl rfl ?_; refine At.v rfl rfl rfl rfl rfl trivial ?_; refine At.regionEnd (At.seq (At.region ?_)); refine At.ld 1 rfl rfl rfl rfl rfl rfl rfl rfl rfl ?_; refine At.ld 0 rfl rfl rfl rfl rfl rfl rfl rfl rfl ?_; refine At.cq rfl rfl rfl rfl rfl rfl rfl rfl (s78z L _) ?_; (iterate 3 refine At.v rfl rfl rfl rfl rfl trivial ?_); refine At.cp rfl rfl rfl rfl rfl fun b112 h112 => ?_
      (iterate 2 refine At.v rfl rfl rfl rfl rfl trivial ?_)
      obtain rfl : b112 = true := h112.symm.trans (by simp)
      subst hL
      refine At.cq rfl rfl rfl rfl rfl rfl rfl rfl (s22 hG.a) ?_; (iterate 2 refine At.v rfl rfl rfl rfl rfl trivial ?_); refine At.regionEnd ?_
      exact hLB Tryz.func18 (.inr ⟨_, rfl⟩) rfl (.tmp rfl .nil) (⟨by rfl, rfl⟩)
end Go.Gx
end

section
set_option linter.unusedSimpArgs false
set_option linter.unusedVariables false
namespace Go.Gx
open Go Go.Conc Go.Proofs Go.ChangeShapes Go.RowKit YtokdmiiejfmomaaGreatDoor
set_option maxRecDepth 100000
theorem ip18 : Tryz.prog.inPlace 18 = [] := by kernel_rfl
theorem uf18 : Tryz.prog.unfollowed 18 = true := by kernel_rfl
theorem rc18 : Tryz.prog.recurses 18 = true := by kernel_rfl
theorem vn18 : Tryz.prog.varsNamed 18 = ["velarium/canvas.checks"] := by kernel_rfl
theorem closed18 : joinedFacts Tryz.prog 18 Tryz.f18 Rows.canvasNewsSpec Rows.canvasNewsRow = true := by
  unfold joinedFacts
  rewrite [ip18, uf18, rc18, vn18, enter1, lf1, make1]
  kernel_rfl
theorem fnm18 : Tryz.prog.funcNamed "velarium/velariumlaw02.CanvasNews" = some 18 := by kernel_rfl
theorem inst18 : Tryz.f18.isInstance Tryz.prog Rows.canvasNewsRow.origin Rows.canvasNewsRow.targs := of_decide_eq_true (by kernel_rfl)
theorem wrap18 : Tryz.f18.isWrapper Tryz.prog Rows.canvasNewsRow.wrapper Rows.canvasNewsRow.mainSum := by unfold Func.isWrapper; first | (rw [if_pos (by decide +kernel)]; kernel_rfl) | (rw [if_neg (by decide +kernel)]; exact ⟨rfl, rfl⟩)
theorem goes18 : Tryz.prog.goes 18 = true := by kernel_rfl
theorem wbt18 : Rows.canvasNewsRow.wfByText (OpenSpec.ofChange Rows.canvasNewsSpec) = true := by kernel_rfl
theorem wants18 : (Tryz.f18.params.toList.all fun t => !Tryz.prog.wantsStandIn t) = true := by kernel_rfl
theorem lifted18 (os : Os) (started : os.Started) (H : Type) (enc : TypeId × Value → H) :
    ReturnsInLeavingWide {} Tryz.checked os 18 .any (fun w args => (Rows.canvasNewsSpec.pre enc Tryz.prog Tryz.f18 [] false w args ∧ laidMetH Tryz.prog laid1 w) ∧ sizedMet enc Tryz.prog Tryz.f18 (OpenSpec.ofChange Rows.canvasNewsSpec) false w args) (Rows.canvasNewsSpec.post enc Tryz.prog Tryz.f18 false true false false) := by
  refine law_lift Tryz.func18 (by kernel_rfl) rfl rfl (by kernel_rfl) os started H enc #[.agg #[.slice none 0 0, .int .i64 0, .int .i64 0, .int .i64 0, .slice none 0 0], .slice none 0 0, .agg #[.int .i64 0, .int .i64 0, .int .i64 0], .agg #[.int .i64 0, .int .i64 0]]
    (World.shaped_of_RefB (by kernel_rfl) (by kernel_rfl)) (by kernel_rfl) (by kernel_rfl) (by kernel_rfl) ?_
  intro W base args ds ps hval hA
  rw [Tryz.params18] at hval hA
  obtain ⟨v0, vs0, d0, ds0, p0, q0, e0, rfl, rfl, h0, hA⟩ := trodAll_cons hA
  obtain ⟨v1, vs1, d1, ds1, p1, q1, rfl, rfl, rfl, h1, hA⟩ := trodAll_cons hA
  obtain ⟨v2, vs2, d2, ds2, p2, q2, rfl, rfl, rfl, h2, hA⟩ := trodAll_cons hA
  obtain ⟨v3, vs3, d3, ds3, p3, q3, rfl, rfl, rfl, h3, hA⟩ := trodAll_cons hA
  obtain ⟨rfl, rfl, rfl⟩ := trodAll_nil hA
  obtain rfl : args = #[v0, v1, v2, v3] := Array.toList_inj.1 e0
  obtain ⟨B0, A0, Hs0, rfl, hsh0, hb0⟩ := open_book (hval 0 27 _ rfl rfl) h0
  obtain ⟨a1, ys1, cap1, Hs1, rfl, hsh1, hb1⟩ := open_slopes (hval 1 45 _ rfl rfl) h1
  obtain ⟨x2, rfl⟩ := open_mark (hval 2 94 _ rfl rfl) h2
  obtain ⟨x3, rfl⟩ := open_band (hval 3 24 _ rfl rfl) h3
  exact ⟨rfl, (Hs0 ++ Hs1), (hsh0.app hsh1), fun Post => law18 (hsh0.app hsh1).glo (hsh0.app hsh1).ro (hb0.a ((Sub.pre _ _).trans (Sub.append_left _ _))) (hb1.a ((Sub.append_left _ _).trans (Sub.append_left _ _)))⟩
theorem said18 : Rows.CanvasNewsSaid :=
  OpenClaim.holds_of_wide_leaving 18 Tryz.f18 rfl rfl rfl rfl rfl rfl rfl ⟨rfl, rfl, rfl, rfl, rfl⟩ rfl rfl rfl rfl rfl fnm18 Tryz.func18 closed18 inst18 wrap18
    (fun os started H enc _ => lifted18 os started H enc)
theorem card18 : Rows.CanvasNewsCardSaid :=
  ⟨Claim7.tied_new_at .later [.funcs] true (Claim7.new_of_sixth said18 (true, "2aeeda9e0b315eb022070bc88bc80a554dcd329f773ad53586088327a2b29430") false rfl ⟨rfl, rfl⟩ mi1 rfl
    (fun f fn hf hfn => by
      obtain rfl : f = 18 := Option.some.inj (hf.symm.trans fnm18)
      obtain rfl : fn = Tryz.f18 := Option.some.inj (hfn.symm.trans Tryz.func18)
      exact ⟨looks1.symm, wants_of wants18⟩)) wbt18, (fun _ h => by cases h), canvasNews_row_tie, (fun h => by cases h), goes_of fnm18 goes18⟩
end Go.Gx
namespace Go.Proofs.YtokdmiiejfmomaaGreatDoor
/-- THE CARD OF CanvasNews. -/
theorem canvasNews_card : Rows.CanvasNewsCardSaid := Go.Gx.card18
#print axioms canvasNews_card
end Go.Proofs.YtokdmiiejfmomaaGreatDoor
end
