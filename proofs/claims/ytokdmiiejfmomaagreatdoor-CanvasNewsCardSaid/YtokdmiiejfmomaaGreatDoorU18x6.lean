/-
  Clash, Ask, Mark and Stand answer as the specification does: CanvasNews holds.
-/
import Derived.Test.YtokdmiiejfmomaaGreatDoorU18x5
import Derived.KernelRfl
import Derived.OpenShut
import Derived.Test.YtokdmiiejfmomaaGreatDoorTie
import Derived.Test.YtokdmiiejfmomaaGreatDoorCards
import Derived.LaidLaws
import Derived.Test.YtokdmiiejfmomaaGreatDoorRows
import Derived.Conc.LeavingOf
import Derived.SevenTiedAt
section
set_option linter.unusedSimpArgs false
set_option linter.unusedVariables false
namespace Go.Gx
open Go Go.Conc Go.Proofs
variable {main : Bool}

def bitM (mask i : Nat) : Bool := decide (mask / 2 ^ i % 2 = 1)
def idxTo (mask : Nat) : Nat → List Int
  | 0 => []
  | i + 1 => idxTo mask i ++ (if bitM mask i then [(i : Int)] else [])
def mksTo (B : Bk) (mask : Nat) : Nat → List (R2 × Int)
  | 0 => []
  | i + 1 => mksTo B mask i ++ (if bitM mask i then [B.marks.getD i ((0, 0), 0)] else [])
/-- A book with some of its marks alone. -/
def subM (B : Bk) (mask : Nat) : Bk := { B with marks := mksTo B mask B.marks.length }
def oddTo (B : Bk) : Nat → List (List Int)
  | 0 => []
  | j + 1 => oddTo B j ++ (if (statesM (subM B j)).length = 0 then [idxTo j B.marks.length] else [])
def clashL (B : Bk) : List Int := if (statesM B).length = 0 then bestM smallerM ((oddTo B (2 ^ B.marks.length)).headD []) ((oddTo B (2 ^ B.marks.length)).drop 1) else []
def clashM (B : Bk) : List Int × Int := if bookBar B ≠ 0 then ([], bookBar B) else (clashL B, 0)
theorem idxTo_len (mask : Nat) : ∀ i, (idxTo mask i).length ≤ i
  | 0 => Nat.le_refl _
  | i + 1 => by
    have := idxTo_len mask i
    unfold idxTo
    rw [List.length_append]
    split <;> simp <;> omega
theorem mksTo_len (B : Bk) (mask : Nat) : ∀ i, (mksTo B mask i).length ≤ i
  | 0 => Nat.le_refl _
  | i + 1 => by
    have := mksTo_len B mask i
    unfold mksTo
    rw [List.length_append]
    split <;> simp <;> omega
theorem oddTo_len (B : Bk) : ∀ i, (oddTo B i).length ≤ i
  | 0 => Nat.le_refl _
  | i + 1 => by
    have := oddTo_len B i
    unfold oddTo
    rw [List.length_append]
    split <;> simp <;> omega
theorem oddTo_xs (B : Bk) : ∀ i, ∀ l ∈ oddTo B i, l.length ≤ B.marks.length
  | 0, l, h => by cases h
  | i + 1, l, h => by
    unfold oddTo at h
    rcases List.mem_append.1 h with h | h
    · exact oddTo_xs B i l h
    · split at h
      · obtain rfl : l = _ := by simpa using h
        exact idxTo_len _ _
      · cases h
theorem mksTo_mem (B : Bk) (mask : Nat) : ∀ i, i ≤ B.marks.length → ∀ m ∈ mksTo B mask i, m ∈ B.marks
  | 0, _, m, h => by cases h
  | i + 1, hi, m, h => by
    unfold mksTo at h
    rcases List.mem_append.1 h with h | h
    · exact mksTo_mem B mask i (by omega) m h
    · split at h
      · rw [List.mem_singleton] at h
        subst h
        rw [List.getD_eq_getElem?_getD, List.getElem?_eq_getElem (by omega)]
        exact List.getElem_mem _
      · cases h
theorem marksBar_of {ms : List (R2 × Int)} (h : ∀ m ∈ ms, markBar m = 0) : marksBar ms = 0 := by
  induction ms with
  | nil => rfl
  | cons m ms ih =>
    unfold marksBar
    rw [if_neg (by simpa using h m (List.mem_cons_self ..))]
    exact ih fun x hx => h x (List.mem_cons_of_mem _ hx)
theorem bookBar_marks {B : Bk} (h : bookBar B = 0) {ms : List (R2 × Int)} (hl : ms.length ≤ 4) (hm : ∀ m ∈ ms, markBar m = 0) : bookBar { B with marks := ms } = 0 := by
  have h0 := h
  unfold bookBar at h
  have hp : profBar B.prof = 0 := by
    by_cases e : profBar B.prof = 0
    · exact e
    · rw [if_pos e] at h; exact h
  rw [if_neg (by simp [hp])] at h
  have hs : sizeBar B = 0 := by
    by_cases e : sizeBar B = 0
    · exact e
    · rw [if_pos e] at h; exact h
  have hs' : sizeBar { B with marks := ms } = 0 := hs
  unfold bookBar
  simp only [hp, hs']
  rw [if_neg (by simp), if_neg (by simp)]
  unfold mksBar
  rw [if_neg (by omega)]
  exact marksBar_of hm
theorem bookBar_sub {B : Bk} (h : bookBar B = 0) (mask : Nat) : bookBar (subM B mask) = 0 := by
  have hb := bounds_of_bar h
  refine bookBar_marks h (Nat.le_trans (mksTo_len B mask _) (by omega)) fun m hm => ?_
  exact hb.2.2.2.2.2.2.2.2.2.2 m (mksTo_mem B mask _ (Nat.le_refl _) m hm)
theorem bit_all {n i : Nat} (h : i < n) : bitM (2 ^ n - 1) i = true := by
  unfold bitM
  rw [decide_eq_true_eq]
  have h1 := Nat.testBit_two_pow_sub_one n i
  rw [Nat.testBit_eq_decide_div_mod_eq] at h1
  simpa [h] using h1
theorem mksTo_all (B : Bk) : ∀ i, i ≤ B.marks.length → mksTo B (2 ^ B.marks.length - 1) i = B.marks.take i
  | 0, _ => by simp [mksTo]
  | i + 1, h => by
    unfold mksTo
    rw [mksTo_all B i (by omega), bit_all (by omega), if_pos rfl, List.getD_eq_getElem?_getD, List.getElem?_eq_getElem (by omega), List.take_succ_eq_append_getElem (by omega)]
    rfl
theorem sub_all (B : Bk) : subM B (2 ^ B.marks.length - 1) = B := by
  unfold subM
  rw [mksTo_all B _ (Nat.le_refl _), List.take_length]
theorem odd_pos {B : Bk} (h : (statesM B).length = 0) : 0 < (oddTo B (2 ^ B.marks.length)).length := by
  have hp : 0 < 2 ^ B.marks.length := Nat.two_pow_pos _
  obtain ⟨k, hk⟩ : ∃ k, 2 ^ B.marks.length = k + 1 := ⟨2 ^ B.marks.length - 1, by omega⟩
  have hs := sub_all B
  rw [show 2 ^ B.marks.length - 1 = k from by omega] at hs
  rw [hk]
  unfold oddTo
  rw [hs, if_pos h]
  simp
theorem bestM_map {α β : Type} (f : α → β) (better : α → α → Bool) (better' : β → β → Bool) (h : ∀ x y, better x y = better' (f x) (f y)) : ∀ (one : α) (l : List α), f (bestM better one l) = bestM better' (f one) (l.map f)
  | one, [] => rfl
  | one, x :: l => by
    show f (bestM better (if better x one then x else one) l) = bestM better' (if better' (f x) (f one) then f x else f one) (l.map f)
    rw [bestM_map f better better' h, ← h]
    congr 1
    split <;> rfl
set_option maxRecDepth 100000 in
set_option maxHeartbeats 1000000 in
/-- Clash -/
theorem s59c (L : Lg Tryz.prog main) (H : Facts) {B : Bk} {A : BkA} (hO : Opn H B A) :
    Grows L 59 #[bkV B A] H (fun v sf => ∃ a cap, v = .tuple #[.slice a (clashM B).1.length cap, .int .i64 (clashM B).2] ∧ Rd sf a ((clashM B).1.flatMap c1) ∧ (clashM B).1.length ≤ cap) := by
  refine Spec.enter Tryz.func59 rfl (by simp [Tryz.f59]) fun c cs hc => ?_
  unfold clashM clashL at hc
  by_cases hz : bookBar B = 0
  · simp only [if_neg (show ¬ bookBar B ≠ 0 from by simpa using hz)] at hc
    have hB := hO.r
    have hrm := hB.m
    have hb := bounds_of_bar hz
    have hm4 := hb.2.2.2.2.2.2.2.2.2.1
    refine At.seq (At.region ?_); refine At.bx rfl rfl rfl rfl rfl rfl rfl fun r1 => ?_; (iterate 2 refine At.v rfl rfl rfl rfl rfl trivial ?_); refine At.regionEnd (At.seq (At.region ?_)); refine At.ld 0 rfl rfl rfl rfl rfl rfl rfl rfl rfl ?_; refine At.cq rfl rfl rfl rfl rfl rfl rfl rfl (s90z L _ (fs := []) (rs := []) hO.a hz rfl (.inl rfl) Bars.nil (by simp)) ?_; (iterate 3 refine At.v rfl rfl rfl rfl rfl trivial ?_); refine At.al rfl rfl rfl rfl rfl fun r4 => ?_
    refine At.st 0 rfl rfl rfl rfl rfl rfl rfl rfl rfl rfl rfl rfl ?_; refine At.v rfl rfl rfl rfl rfl trivial ?_; refine At.regionEnd (At.seq (At.seq (At.region ?_))); refine At.v rfl rfl rfl rfl rfl trivial ?_; refine At.cp rfl rfl rfl rfl rfl fun b18 h18 => ?_; refine At.regionEnd ?_
    have e : b18 = false := by rw [← h18]; rfl
    subst e
    refine At.cond rfl ?_; refine At.skip (At.seq (At.seq (At.region ?_))); refine At.ld 0 rfl rfl rfl rfl rfl rfl rfl rfl rfl ?_; refine At.cqb rfl rfl rfl rfl rfl rfl rfl rfl (s128 L _ bs bs) fun b21 h21 => ?_; refine At.regionEnd ?_
    cases b21
    · have h0 : (statesM B).length = 0 := by simp at h21; simpa using h21
      simp only [if_pos h0] at hc
      obtain ⟨N, hNe⟩ : ∃ N : Nat, N = 2 ^ B.marks.length := ⟨_, rfl⟩
      have hN : N ≤ 16 := by rw [hNe]; exact Nat.pow_le_pow_right (by omega) (show B.marks.length ≤ 4 by omega)
      have e2 : (1 : Int) * 2 ^ B.marks.length = (N : Int) := by rw [hNe]; simp
      have hop := odd_pos h0
      rw [← hNe] at hc hop
      refine At.cond rfl ?_; refine At.skip (At.seq (At.region ?_)); refine At.v rfl rfl rfl rfl rfl trivial ?_; refine At.regionEnd (At.seq (At.seq (At.region ?_))); refine At.fa 4 rfl rfl rfl rfl rfl rfl rfl ?_; refine At.ld 1 rfl rfl rfl rfl rfl rfl rfl rfl rfl ?_; refine At.ln rfl rfl rfl rfl rfl rfl rfl rfl ?_; refine At.q rfl rfl rfl rfl (q_shl (i := B.marks.length) rfl rfl rfl (by omega) (by rw [e2]; unfold InI; omega)) ?_
      rw [e2]
      refine At.v rfl rfl rfl rfl rfl trivial ?_; refine At.regionEnd ?_; refine At.block ?_
      have hR0 : BkR (.own r4 (.cells (List.toArray (bkC B A)) 118 (0, 0)) :: .own r1 (.cells (List.toArray (bkC B A)) 27 (0, 0)) :: H) B A := hB.a
      refine At.lpk (X := { x : Nat × Value × List LE × Facts × Facts // x.1 ≤ N ∧ Sl cL 38 x.2.1 x.2.2.1 x.2.2.2.1 ∧ x.2.2.1.map LE.xs = oddTo B x.1 ∧ ∀ e ∈ x.2.2.1, Rd x.2.2.2.2 e.a (e.xs.flatMap c1) ∧ e.xs.length ≤ e.cap }) [1, 2, 3, 4, 25] (fun x => [(26, .int .i64 (x.1.1 : Int)), (6, x.1.2.1)]) (fun x => .own r4 (.cells (List.toArray (bkC B A)) 118 (0, 0)) :: .own r1 (.cells (List.toArray (bkC B A)) 27 (0, 0)) :: (x.1.2.2.2.1 ++ (x.1.2.2.2.2 ++ H))) (fun x => N - x.1.1) (⟨(0, .slice none 0 0, [], [], []), Nat.zero_le _, Sl.nil, rfl, by simp⟩) rfl ?_ (by repeat (first | exact trivial | refine ⟨rfl, ?_⟩)) sb
      rintro ⟨⟨j, vo, es, sfo, sfl⟩, hj, hso, hes, hrd⟩ again
      simp only at again hj hso hes hrd ⊢
      refine At.seq (At.region ?_); refine At.cp rfl rfl rfl rfl rfl fun b27 h27 => ?_; refine At.regionEnd (At.seq ?_)
      cases b27
      · have e : j = N := by simp at h27; omega
        subst e
        obtain ⟨ao, co, rfl⟩ := hso.slice
        obtain ⟨_, hro, hco⟩ := hso.rd
        have hel : es.length = (oddTo B j).length := by rw [← hes, List.length_map]
        have hole := oddTo_len B j
        have hxl : ∀ e ∈ es, e.xs.length ≤ 1000 := by
          intro e he
          have := oddTo_xs B j e.xs (by rw [← hes]; exact List.mem_map_of_mem he)
          omega
        have h0e : 0 < es.length := by omega
        obtain ⟨b0, off0, rfl, hc0⟩ := hro.el (List.getElem?_eq_getElem h0e)
        have hr1 := hro.slA (cap := co) (l := 1) hco (by omega)
        have hm0 : es[0] ∈ es := List.getElem_mem h0e
        have hmm : ∀ y, y ∈ es[0] :: es.drop 1 → y ∈ es := by
          intro y hy
          rcases List.mem_cons.1 hy with rfl | hy
          · exact hm0
          · exact List.mem_of_mem_drop hy
        have hbx : bestM smallerM ((oddTo B j).headD []) ((oddTo B j).drop 1) = (bestM (fun x y : LE => smallerM x.xs y.xs) es[0] (es.drop 1)).xs := by
          rw [bestM_map LE.xs _ smallerM (fun _ _ => rfl), ← hes, List.map_drop]
          congr 1
          rw [List.headD_eq_head?_getD, List.head?_map, List.head?_eq_getElem?, List.getElem?_eq_getElem h0e]
          rfl
        simp only [hbx] at hc
        have hbm := hmm _ (bestM_mem (fun x y : LE => smallerM x.xs y.xs) es[0] (es.drop 1))
        have h129 := fun H_ hr_ (hs_ : Sub sfl H_) => s129 L H_ (fv := .func (.func 130) #[] #[]) (better := fun x y => smallerM x.xs y.xs) (one := es[0]) (l := es.drop 1) (a := slA (some ⟨b0, off0, none⟩) co 1 1) (n := es.length - 1) (cap := co - 1) (by rw [List.length_drop]) (fun H' x y hs hx hy => SpecV.of HB.h (s130 L H' rfl rfl ((hrd x (List.mem_of_mem_drop hx)).1.more (hs_.trans hs)) ((hrd y (hmm y hy)).1.more (hs_.trans hs)) (hxl x (List.mem_of_mem_drop hx)) (hxl y (hmm y hy)))) hr_ (by rw [List.length_drop]; omega)
        have stop129 := trivial
        refine At.cond rfl ?_; refine At.exit rfl ?_; refine At.seq ?_; refine At.drawJ hmix [] rfl ?_; refine Pool.v 0 rfl rfl rfl rfl rfl rfl rfl trivial ?_; refine Pool.q 1 rfl rfl rfl rfl rfl (q_ia rfl rfl rfl (by assumption)) rfl ?_; refine Pool.ldc 2 rfl rfl rfl rfl rfl rfl rfl hc0.a rfl rfl rfl ?_; refine Pool.v 3 rfl rfl rfl rfl rfl rfl rfl trivial ?_; refine Pool.q 4 rfl rfl rfl rfl rfl (q_sliceL (l := 1) rfl rfl rfl (by assumption)) rfl ?_; refine Pool.v 7 rfl rfl rfl rfl rfl rfl rfl trivial ?_
        clear stop129
        refine Pool.cq 5 rfl rfl rfl rfl rfl rfl rfl rfl rfl (fun H_ hs_ => h129 H_ hr1.a (((((Sub.pre sfl H).trans (Sub.append_left sfo _)).trans (Sub.tail _ _)).trans (Sub.tail _ _)).trans hs_)) ?_; refine Pool.v 6 rfl rfl rfl rfl rfl rfl rfl trivial ?_; refine pool_done rfl rfl ?_; refine At.regionEnd ?_
        exact At.ret Tryz.func59 (.inr ⟨_, rfl⟩) rfl (.tmp rfl (.tmp rfl .nil)) (wk (hc _ _ (⟨sfl, ⟨(bestM (fun x y : LE => smallerM x.xs y.xs) es[0] (es.drop 1)).a, (bestM (fun x y : LE => smallerM x.xs y.xs) es[0] (es.drop 1)).cap, rfl, (hrd _ hbm).1, (hrd _ hbm).2⟩, rfl⟩)))
      · have hlt : j < N := by simp at h27; omega
        have hol : es.length ≤ j := by
          have := congrArg List.length hes
          rw [List.length_map] at this
          rw [this]; exact oddTo_len B j
        refine At.cond rfl ?_; refine At.skip (At.seq ?_); refine At.block ?_; refine At.seq (At.region ?_); (iterate 2 refine At.v rfl rfl rfl rfl rfl trivial ?_); refine At.regionEnd (At.seq (At.region ?_)); refine At.v rfl rfl rfl rfl rfl trivial ?_; refine At.regionEnd (At.seq (At.region ?_)); refine At.ld 0 rfl rfl rfl rfl rfl rfl rfl rfl rfl ?_; refine At.al rfl rfl rfl rfl rfl fun r9 => ?_; refine At.st 0 rfl rfl rfl rfl rfl rfl rfl rfl rfl rfl rfl rfl ?_
        refine At.regionEnd (At.seq (At.region ?_)); refine At.fa 0 rfl rfl rfl rfl rfl rfl rfl ?_; refine At.fa 4 rfl rfl rfl rfl rfl rfl rfl ?_; refine At.st 0 rfl rfl rfl rfl rfl rfl rfl rfl rfl rfl rfl rfl ?_; refine At.regionEnd (At.seq (At.seq (At.region ?_))); refine At.fa 4 rfl rfl rfl rfl rfl rfl rfl ?_; refine At.ld 2 rfl rfl rfl rfl rfl rfl rfl rfl rfl ?_; refine At.ln rfl rfl rfl rfl rfl rfl rfl rfl ?_; refine At.v rfl rfl rfl rfl rfl trivial ?_; refine At.regionEnd ?_; refine At.block ?_
        refine At.lpk (X := { x : Nat × Value × Facts × Option Addr × Nat × Facts // x.1 ≤ B.marks.length ∧ Sl c1 3 x.2.1 (idxTo j x.1) x.2.2.1 ∧ Sl c3 94 (.slice x.2.2.2.1 (mksTo B j x.1).length x.2.2.2.2.1) (mksTo B j x.1) x.2.2.2.2.2 }) [1, 2, 3, 4, 6, 7, 9, 25, 26, 27, 28, 29, 30, 31, 32, 33, 34] (fun x => [(35, .int .i64 (x.1.1 : Int)), (8, x.1.2.1)]) (fun x => .own r9 (.cells #[.slice A.pa B.prof.length A.pc, .int .i64 B.size, .int .i64 B.lo, .int .i64 B.hi, .slice x.1.2.2.2.1 (mksTo B j x.1.1).length x.1.2.2.2.2.1] 118 (0, 0)) :: .own r4 (.cells (List.toArray (bkC B A)) 118 (0, 0)) :: .own r1 (.cells (List.toArray (bkC B A)) 27 (0, 0)) :: (x.1.2.2.1 ++ (x.1.2.2.2.2.2 ++ (sfo ++ (sfl ++ H))))) (fun x => B.marks.length - x.1.1) (⟨(0, .slice none 0 0, [], none, 0, []), Nat.zero_le _, Sl.nil, Sl.nil⟩) rfl ?_ (by repeat (first | exact trivial | refine ⟨rfl, ?_⟩)) sb
        rintro ⟨⟨i, vl, sl, am, cm, sm⟩, hi, hsl, hsm⟩ again2
        simp only at again2 hi hsl hsm ⊢
        refine At.seq (At.region ?_); refine At.cp rfl rfl rfl rfl rfl fun b36 h36 => ?_; refine At.regionEnd (At.seq ?_)
        cases b36
        · have e : i = B.marks.length := by simp at h36; omega
          subst e
          have hzs := bookBar_sub hz j
          have hsm2 : Sl c3 94 (.slice am (subM B j).marks.length cm) (subM B j).marks sm := hsm
          obtain ⟨_, hrm2, _⟩ := hsm2.rd
          refine At.weakH (H' := .own r9 (.cells (List.toArray (bkC (subM B j) ⟨A.pa, A.pc, am, cm⟩)) 118 (0, 0)) :: .own r4 (.cells (List.toArray (bkC B A)) 118 (0, 0)) :: .own r1 (.cells (List.toArray (bkC B A)) 27 (0, 0)) :: (sl ++ (sm ++ (sfo ++ (sfl ++ H))))) ?_ (Sub.refl _)
          have hB2 : BkR (.own r9 (.cells (List.toArray (bkC (subM B j) ⟨A.pa, A.pc, am, cm⟩)) 118 (0, 0)) :: .own r4 (.cells (List.toArray (bkC B A)) 118 (0, 0)) :: .own r1 (.cells (List.toArray (bkC B A)) 27 (0, 0)) :: (sl ++ (sm ++ (sfo ++ (sfl ++ H))))) (subM B j) ⟨A.pa, A.pc, am, cm⟩ := ⟨hB.p.a, hrm2.a⟩
          have stop128 := trivial
          refine At.cond rfl ?_; refine At.exit rfl ?_; refine At.seq (At.region ?_); refine At.ld 0 rfl rfl rfl rfl rfl rfl rfl rfl rfl ?_
          clear stop128
          refine At.cq rfl rfl rfl rfl rfl rfl rfl rfl (s128 L _ hB2 hzs) ?_
          obtain ⟨al, cl, rfl⟩ := hsl.slice
          obtain ⟨_, hrl, hcl⟩ := hsl.rd
          by_cases h0j : (statesM (subM B j)).length = 0
          · have eod : oddTo B (j + 1) = oddTo B j ++ [idxTo j B.marks.length] := by
              show oddTo B j ++ (if _ then _ else _) = _
              rw [if_pos h0j]
            rw [show decide (0 < (statesM (subM B j)).length) = false from by simp [h0j]]
            refine At.v rfl rfl rfl rfl rfl trivial ?_; refine At.regionEnd ?_; refine At.cond rfl ?_; refine At.region ?_; (iterate 2 refine At.v rfl rfl rfl rfl rfl trivial ?_)
            (refine At.l rfl rfl rfl rfl (l_buildSlice rfl rfl rfl rfl rfl) ?_; rintro _ _ ⟨r63, rfl, rfl⟩)
            refine At.weakH ?_ ((((((Sub.of_perm (List.perm_append_comm_assoc sfo sl (sfl ++ H))).trans (((Sub.refl _).dropL sm).appL sl)).cons _).cons _).drop _).cons _)
            refine At.push (x := (⟨al, cl, idxTo j B.marks.length⟩ : LE)) 0 3 rfl rfl rfl rfl rfl rfl rfl rfl rfl rfl rfl rfl rfl rfl hso rfl rfl rfl ?_ fun v sf hs => ?_
            · omega
            · refine At.v rfl rfl rfl rfl rfl trivial ?_
              refine At.regionEnd ?_; refine At.inBlock ?_; refine At.region ?_; refine At.v rfl rfl rfl rfl rfl (by omega) ?_; refine At.v rfl rfl rfl rfl rfl trivial ?_; refine At.regionEnd ?_
              have ag := again ⟨(j + 1, v, es ++ [⟨al, cl, idxTo j B.marks.length⟩], sf, sl ++ sfl), hlt, hs, (by rw [List.map_append, hes, eod]; rfl), (by
                intro e he
                rcases List.mem_append.1 he with h | h
                · exact ⟨(hrd e h).1.more (Sub.append_left _ _), (hrd e h).2⟩
                · obtain rfl : e = _ := by simpa using h
                  exact ⟨hrl.more (Sub.pre _ _), hcl⟩)⟩ (by simp; omega)
              simp only [List.append_assoc] at ag
              refine At.tA (ag)
          · have eod : oddTo B (j + 1) = oddTo B j := by
              show oddTo B j ++ (if _ then _ else _) = _
              rw [if_neg h0j]; simp
            rw [show decide (0 < (statesM (subM B j)).length) = true from by simp; omega]
            refine At.v rfl rfl rfl rfl rfl trivial ?_; refine At.regionEnd ?_; refine At.cond rfl ?_; refine At.skip ?_; refine At.inBlock ?_; refine At.region ?_; refine At.v rfl rfl rfl rfl rfl (by omega) ?_; refine At.v rfl rfl rfl rfl rfl trivial ?_; refine At.regionEnd ?_
            refine At.tA ((again ⟨(j + 1, vo, es, sfo, sfl), hlt, hso, by rw [eod]; exact hes, hrd⟩ (by simp; omega)))
        · have hlti : i < B.marks.length := by simp at h36; omega
          obtain ⟨bm, offm, em, hcm⟩ := hrm.el (List.getElem?_eq_getElem hlti)
          have hgd : B.marks.getD i ((0, 0), 0) = B.marks[i] := by rw [List.getD_eq_getElem?_getD, List.getElem?_eq_getElem hlti]; rfl
          have hml : (mksTo B j i).length < 100000 := by have := mksTo_len B j i; omega
          have hil : (idxTo j i).length < 100000 := by have := idxTo_len j i; omega
          refine At.cond rfl ?_; refine At.skip (At.seq ?_); refine At.block ?_; refine At.seq (At.region ?_); refine At.v rfl rfl rfl rfl rfl trivial ?_; refine At.q rfl rfl rfl rfl (q_iaQ (k := (i)) rfl rfl rfl (by assumption) rfl (by assumption)) ?_; refine At.ldc rfl rfl rfl rfl rfl rfl hcm.a rfl rfl ?_; refine At.al rfl rfl rfl rfl rfl fun r11 => ?_; refine At.v rfl rfl rfl rfl rfl trivial ?_; refine At.st 0 rfl rfl rfl rfl rfl rfl rfl rfl rfl rfl rfl rfl ?_; refine At.regionEnd (At.seq (At.region ?_))
          (iterate 2 refine At.v rfl rfl rfl rfl rfl trivial ?_); refine At.q rfl rfl rfl rfl (q_shr (m := j) (i := i) rfl rfl rfl (by show i ≤ 64; omega)) ?_; refine At.q rfl rfl rfl rfl (q_and1 rfl rfl rfl) ?_; refine At.cp rfl rfl rfl rfl rfl fun b44 h44 => ?_; refine At.regionEnd ?_
          have hbit : bitM j i = b44 := by
            rw [← h44]; unfold bitM
            exact decide_eq_decide.2 (by omega)
          cases b44
          · have eix : idxTo j (i + 1) = idxTo j i := by show idxTo j i ++ (if bitM j i then _ else _) = _; rw [hbit]; simp
            have emk : mksTo B j (i + 1) = mksTo B j i := by show mksTo B j i ++ (if bitM j i then _ else _) = _; rw [hbit]; simp
            refine At.cond rfl ?_; refine At.skip ?_; refine At.inBlock ?_; refine At.region ?_; refine At.v rfl rfl rfl rfl rfl (by omega) ?_; refine At.v rfl rfl rfl rfl rfl trivial ?_; refine At.regionEnd ?_
            have ag := again2 ⟨(i + 1, vl, sl, am, cm, sm), hlti, by rw [eix]; exact hsl, by rw [emk]; exact hsm⟩ (by simp; omega)
            simp only [emk] at ag
            refine At.tA (ag)
          · have eix : idxTo j (i + 1) = idxTo j i ++ [(i : Int)] := by show idxTo j i ++ (if bitM j i then _ else _) = _; rw [hbit]; rfl
            have emk : mksTo B j (i + 1) = mksTo B j i ++ [B.marks[i]] := by show mksTo B j i ++ (if bitM j i then _ else _) = _; rw [hbit, hgd]; rfl
            have stopDraw := trivial
            refine At.cond rfl ?_
            clear stopDraw

            refine At.cutk (X := { x : Value × Facts × Option Addr × Nat × Facts // Sl c1 3 x.1 (idxTo j (i + 1)) x.2.1 ∧ Sl c3 94 (.slice x.2.2.1 (mksTo B j (i + 1)).length x.2.2.2.1) (mksTo B j (i + 1)) x.2.2.2.2 }) [1, 2, 3, 4, 6, 7, 9, 10, 11, 25, 26, 27, 28, 29, 30, 31, 32, 33, 34, 35, 36, 37, 38, 39, 40, 41, 42, 43, 44] (fun x => [(8, x.1.1)]) (fun x => .own r9 (.cells #[.slice A.pa B.prof.length A.pc, .int .i64 B.size, .int .i64 B.lo, .int .i64 B.hi, .slice x.1.2.2.1 (mksTo B j (i + 1)).length x.1.2.2.2.1] 118 (0, 0)) :: .own r4 (.cells (List.toArray (bkC B A)) 118 (0, 0)) :: .own r1 (.cells (List.toArray (bkC B A)) 27 (0, 0)) :: (x.1.2.1 ++ (x.1.2.2.2.2 ++ (sfo ++ (sfl ++ H))))) rfl ?_ fun key => ?_
            · rintro ⟨⟨vl, sl, am, cm, sm⟩, hsl, hsm⟩
              simp only at hsl hsm ⊢
              refine At.inBlock ?_; refine At.region ?_; refine At.v rfl rfl rfl rfl rfl (by omega) ?_; refine At.v rfl rfl rfl rfl rfl trivial ?_; refine At.regionEnd ?_
              refine At.tA ((again2 ⟨(i + 1, vl, sl, am, cm, sm), hlti, hsl, hsm⟩ (by simp; omega)))
            · rw [emk] at key
              rw [eix] at key
              refine At.draw hmix _ (((((((Sub.refl H).dropL sfl).dropL sfo).dropL sm).dropL sl).drop _ |>.drop _).cons _ |>.cons _) ?_
              have stopPhase := trivial
              have stopI11 := trivial
              refine Pool.v 0 rfl rfl rfl rfl rfl rfl rfl trivial ?_; refine Pool.v 1 rfl rfl rfl rfl rfl rfl rfl trivial ?_; refine Pool.fa 0 4 rfl rfl rfl rfl rfl rfl rfl rfl rfl ?_; refine Pool.fa 4 5 rfl rfl rfl rfl rfl rfl rfl rfl rfl ?_; refine Pool.ld 1 6 rfl rfl rfl rfl rfl rfl rfl rfl rfl rfl rfl ?_; refine Pool.ld 0 7 rfl rfl rfl rfl rfl rfl rfl rfl rfl rfl rfl ?_
              refine Pool.two 2 8 rfl rfl rfl rfl rfl (loud_bs rfl rfl rfl rfl rfl rfl rfl rfl rfl rfl (by repeat (first | exact Sub.refl _ | exact Sub.pre _ _ | apply Sub.cons | apply Sub.drop | apply Sub.appL | apply Sub.dropL)) fun r47 => ?_) (loud_bs rfl rfl rfl rfl rfl rfl rfl rfl rfl rfl (by repeat (first | exact Sub.refl _ | exact Sub.pre _ _ | apply Sub.cons | apply Sub.drop | apply Sub.appL | apply Sub.dropL)) fun r53 => ?_)
              · refine Pool.two 3 8 rfl rfl rfl rfl rfl (loud_push 0 5 rfl rfl rfl rfl rfl rfl rfl rfl rfl rfl rfl rfl rfl rfl rfl rfl hsl rfl rfl rfl (by repeat (first | exact Sub.refl _ | exact Sub.pre _ _ | apply Sub.cons | apply Sub.drop | apply Sub.appL | apply Sub.dropL)) hil fun vl' sl' hs1 => ?_) (loud_bs rfl rfl rfl rfl rfl rfl rfl rfl rfl rfl (by repeat (first | exact Sub.refl _ | exact Sub.pre _ _ | apply Sub.cons | apply Sub.drop | apply Sub.appL | apply Sub.dropL)) fun r53 => ?_)
                · refine Pool.bs 8 rfl rfl rfl rfl rfl rfl rfl rfl rfl rfl rfl rfl rfl rfl rfl (by repeat (first | exact Sub.refl _ | exact Sub.pre _ _ | apply Sub.cons | apply Sub.drop | apply Sub.appL | apply Sub.dropL)) fun r53 => ?_
                  refine Pool.weakH ?_ ((((((Sub.of_perm (List.perm_append_comm_assoc sm sl' (sfo ++ (sfl ++ H)))).cons _).cons _).cons _).cons _).cons _ |>.cons _) (by repeat (first | exact Sub.refl _ | exact Sub.pre _ _ | apply Sub.cons | apply Sub.drop | apply Sub.appL | apply Sub.dropL))
                  refine Pool.push (x := B.marks[i]) 9 0 6 rfl rfl rfl rfl rfl rfl rfl rfl rfl rfl rfl rfl rfl rfl rfl rfl rfl rfl rfl rfl rfl hsm rfl rfl rfl (by repeat (first | exact Sub.refl _ | exact Sub.pre _ _ | apply Sub.cons | apply Sub.drop | apply Sub.appL | apply Sub.dropL)) hml fun vm' sm' hs2 => ?_
                  obtain ⟨am', cm', rfl⟩ := hs2.slice
                  refine Pool.v 10 rfl rfl rfl rfl rfl rfl rfl trivial ?_
                  clear stopPhase stopI11
                  refine Pool.flush 11 (Hq' := H) rfl rfl rfl rfl rfl rfl (by repeat (first | exact Sub.refl _ | exact Sub.pre _ _ | apply Sub.cons | apply Sub.drop | apply Sub.appL | apply Sub.dropL)) ?_
                  refine Pool.weakH ?_ ((((((Sub.of_perm (List.perm_append_comm_assoc sl' sm' (sfo ++ (sfl ++ H)))).cons _).cons _).cons _).drop _).drop _ |>.drop _) (by repeat (first | exact Sub.refl _ | exact Sub.pre _ _ | apply Sub.cons | apply Sub.drop | apply Sub.appL | apply Sub.dropL))
                  refine Pool.fa 0 11 rfl rfl rfl rfl rfl rfl rfl rfl rfl ?_; refine Pool.fa 4 12 rfl rfl rfl rfl rfl rfl rfl rfl rfl ?_; refine Pool.st 0 13 rfl rfl rfl rfl rfl rfl rfl rfl rfl rfl rfl rfl rfl rfl rfl rfl rfl rfl sb ?_; refine pool_done rfl rfl ?_; refine At.regionEnd ?_
                  refine At.tA ((key ⟨(vl', sl', am', cm', sm'), hs1, hs2⟩))
                · refine Pool.push (x := (i : Int)) 3 1 6 rfl rfl rfl rfl rfl rfl rfl rfl rfl rfl rfl rfl rfl rfl rfl rfl rfl rfl rfl rfl rfl hsl rfl rfl rfl (by repeat (first | exact Sub.refl _ | exact Sub.pre _ _ | apply Sub.cons | apply Sub.drop | apply Sub.appL | apply Sub.dropL)) hil fun vl' sl' hs1 => ?_
                  refine Pool.weakH ?_ ((((((Sub.of_perm (List.perm_append_comm_assoc sm sl' (sfo ++ (sfl ++ H)))).cons _).cons _).cons _).cons _).cons _ |>.cons _) (by repeat (first | exact Sub.refl _ | exact Sub.pre _ _ | apply Sub.cons | apply Sub.drop | apply Sub.appL | apply Sub.dropL))
                  refine Pool.push (x := B.marks[i]) 9 0 6 rfl rfl rfl rfl rfl rfl rfl rfl rfl rfl rfl rfl rfl rfl rfl rfl rfl rfl rfl rfl rfl hsm rfl rfl rfl (by repeat (first | exact Sub.refl _ | exact Sub.pre _ _ | apply Sub.cons | apply Sub.drop | apply Sub.appL | apply Sub.dropL)) hml fun vm' sm' hs2 => ?_
                  obtain ⟨am', cm', rfl⟩ := hs2.slice
                  refine Pool.v 10 rfl rfl rfl rfl rfl rfl rfl trivial ?_
                  clear stopPhase stopI11
                  refine Pool.flush 11 (Hq' := H) rfl rfl rfl rfl rfl rfl (by repeat (first | exact Sub.refl _ | exact Sub.pre _ _ | apply Sub.cons | apply Sub.drop | apply Sub.appL | apply Sub.dropL)) ?_
                  refine Pool.weakH ?_ ((((((Sub.of_perm (List.perm_append_comm_assoc sl' sm' (sfo ++ (sfl ++ H)))).cons _).cons _).cons _).drop _).drop _ |>.drop _) (by repeat (first | exact Sub.refl _ | exact Sub.pre _ _ | apply Sub.cons | apply Sub.drop | apply Sub.appL | apply Sub.dropL))
                  refine Pool.fa 0 11 rfl rfl rfl rfl rfl rfl rfl rfl rfl ?_; refine Pool.fa 4 12 rfl rfl rfl rfl rfl rfl rfl rfl rfl ?_; refine Pool.st 0 13 rfl rfl rfl rfl rfl rfl rfl rfl rfl rfl rfl rfl rfl rfl rfl rfl rfl rfl sb ?_; refine pool_done rfl rfl ?_; refine At.regionEnd ?_
                  refine At.tA ((key ⟨(vl', sl', am', cm', sm'), hs1, hs2⟩))
              · refine Pool.bs 2 rfl rfl rfl rfl rfl rfl rfl rfl rfl rfl rfl rfl rfl rfl rfl (by repeat (first | exact Sub.refl _ | exact Sub.pre _ _ | apply Sub.cons | apply Sub.drop | apply Sub.appL | apply Sub.dropL)) fun r47 => ?_
                refine Pool.push (x := (i : Int)) 3 0 6 rfl rfl rfl rfl rfl rfl rfl rfl rfl rfl rfl rfl rfl rfl rfl rfl rfl rfl rfl rfl rfl hsl rfl rfl rfl (by repeat (first | exact Sub.refl _ | exact Sub.pre _ _ | apply Sub.cons | apply Sub.drop | apply Sub.appL | apply Sub.dropL)) hil fun vl' sl' hs1 => ?_
                refine Pool.weakH ?_ ((((((Sub.of_perm (List.perm_append_comm_assoc sm sl' (sfo ++ (sfl ++ H)))).cons _).cons _).cons _).cons _).cons _ |>.cons _) (by repeat (first | exact Sub.refl _ | exact Sub.pre _ _ | apply Sub.cons | apply Sub.drop | apply Sub.appL | apply Sub.dropL))
                refine Pool.push (x := B.marks[i]) 9 1 6 rfl rfl rfl rfl rfl rfl rfl rfl rfl rfl rfl rfl rfl rfl rfl rfl rfl rfl rfl rfl rfl hsm rfl rfl rfl (by repeat (first | exact Sub.refl _ | exact Sub.pre _ _ | apply Sub.cons | apply Sub.drop | apply Sub.appL | apply Sub.dropL)) hml fun vm' sm' hs2 => ?_
                obtain ⟨am', cm', rfl⟩ := hs2.slice
                refine Pool.v 10 rfl rfl rfl rfl rfl rfl rfl trivial ?_
                clear stopPhase stopI11
                refine Pool.flush 11 (Hq' := H) rfl rfl rfl rfl rfl rfl (by repeat (first | exact Sub.refl _ | exact Sub.pre _ _ | apply Sub.cons | apply Sub.drop | apply Sub.appL | apply Sub.dropL)) ?_
                refine Pool.weakH ?_ ((((((Sub.of_perm (List.perm_append_comm_assoc sl' sm' (sfo ++ (sfl ++ H)))).cons _).cons _).cons _).drop _).drop _ |>.drop _) (by repeat (first | exact Sub.refl _ | exact Sub.pre _ _ | apply Sub.cons | apply Sub.drop | apply Sub.appL | apply Sub.dropL))
                refine Pool.fa 0 11 rfl rfl rfl rfl rfl rfl rfl rfl rfl ?_; refine Pool.fa 4 12 rfl rfl rfl rfl rfl rfl rfl rfl rfl ?_; refine Pool.st 0 13 rfl rfl rfl rfl rfl rfl rfl rfl rfl rfl rfl rfl rfl rfl rfl rfl rfl rfl sb ?_; refine pool_done rfl rfl ?_; refine At.regionEnd ?_
                refine At.tA ((key ⟨(vl', sl', am', cm', sm'), hs1, hs2⟩))
    · have h0 : ¬ (statesM B).length = 0 := by simp at h21; omega
      simp only [if_neg h0] at hc
      refine At.cond rfl ?_; refine At.seq (At.region ?_); (iterate 2 refine At.v rfl rfl rfl rfl rfl trivial ?_); refine At.regionEnd ?_
      exact At.ret Tryz.func59 (.inr ⟨_, rfl⟩) rfl (.tmp rfl (.tmp rfl .nil)) (wk (hc _ _ (⟨[], ⟨none, 0, rfl, .inl rfl, Nat.le_refl _⟩, rfl⟩)))
  · simp only [if_pos hz] at hc
    refine At.seq (At.region ?_); refine At.bx rfl rfl rfl rfl rfl rfl rfl fun r1 => ?_; (iterate 2 refine At.v rfl rfl rfl rfl rfl trivial ?_); refine At.regionEnd (At.seq (At.region ?_)); refine At.ld 0 rfl rfl rfl rfl rfl rfl rfl rfl rfl ?_; refine At.cq rfl rfl rfl rfl rfl rfl rfl rfl (s90n L _ hO.a hz) ?_; (iterate 3 refine At.v rfl rfl rfl rfl rfl trivial ?_); refine At.al rfl rfl rfl rfl rfl fun r4 => ?_; refine At.st 0 rfl rfl rfl rfl rfl rfl rfl rfl rfl rfl rfl rfl ?_
    refine At.v rfl rfl rfl rfl rfl trivial ?_; refine At.regionEnd (At.seq (At.seq (At.region ?_))); refine At.v rfl rfl rfl rfl rfl trivial ?_; refine At.cp rfl rfl rfl rfl rfl fun b18 h18 => ?_; refine At.regionEnd ?_
    have e : b18 = true := by rw [← h18]; simpa using hz
    subst e
    refine At.cond rfl ?_; refine At.seq (At.region ?_); (iterate 3 refine At.v rfl rfl rfl rfl rfl trivial ?_); refine At.regionEnd ?_
    exact At.ret Tryz.func59 (.inr ⟨_, rfl⟩) rfl (.tmp rfl (.tmp rfl .nil)) (wk (hc _ _ (⟨[], ⟨none, 0, rfl, .inl rfl, Nat.le_refl _⟩, rfl⟩)))
theorem s59 (L : Lg Tryz.prog main) (H : Facts) {B : Bk} {A : BkA} (hO : Opn H B A) :
    Grows L 59 #[bkV B A] H (fun v sf => ∃ a cap, v = .tuple #[.slice a (clashM B).1.length cap, .int .i64 (clashM B).2] ∧ Rd sf a ((clashM B).1.flatMap c1)) :=
  (s59c L H hO).mono fun _ _ ⟨sf, ⟨a, cap, h1, h2, _⟩, h3⟩ => ⟨sf, ⟨a, cap, h1, h2⟩, h3⟩
end Go.Gx
end

section
set_option linter.unusedSimpArgs false
set_option linter.unusedVariables false
namespace Go.Gx
open Go Go.Conc Go.Proofs
variable {main : Bool}

theorem ext_drop {α : Type} {xs ys : List α} {j : Nat} (hl : xs.length = ys.length) (hj : j < xs.length) (hj' : j < ys.length) : xs.drop j = ys.drop j ↔ xs[j] = ys[j] ∧ xs.drop (j + 1) = ys.drop (j + 1) := by
  rw [List.drop_eq_getElem_cons hj, List.drop_eq_getElem_cons hj', List.cons.injEq]
set_option maxRecDepth 100000 in
set_option maxHeartbeats 1000000 in
/-- SameInts -/
theorem s31 (L : Lg Tryz.prog main) (H : Facts) {a a' : Option Addr} {n n' cap cap' : Nat} {xs ys : List Int} (hn : xs.length = n) (hn' : ys.length = n') (hr : Rd H a (xs.flatMap c1)) (hr' : Rd H a' (ys.flatMap c1)) (hl : xs.length ≤ 100000) :
    Pure L 31 #[.slice a n cap, .slice a' n' cap'] H (.bool (decide (xs = ys))) := by
  subst hn hn'
  refine Spec.enter Tryz.func31 rfl (by simp [Tryz.f31]) fun c cs hc => ?_; refine At.seq (At.region ?_); refine At.v rfl rfl rfl rfl rfl trivial ?_; refine At.regionEnd (At.seq (At.seq (At.region ?_))); refine At.v rfl rfl rfl rfl rfl trivial ?_; refine At.ln rfl rfl rfl rfl rfl rfl rfl rfl ?_; refine At.v rfl rfl rfl rfl rfl trivial ?_; refine At.ln rfl rfl rfl rfl rfl rfl rfl rfl ?_; refine At.cp rfl rfl rfl rfl rfl fun b10 h10 => ?_; refine At.regionEnd ?_
  cases b10
  · have e : xs.length = ys.length := by simp at h10; omega
    refine At.cond rfl ?_; refine At.skip (At.seq (At.seq (At.region ?_))); refine At.v rfl rfl rfl rfl rfl trivial ?_; refine At.regionEnd ?_; refine At.block ?_
    refine At.lpk (X := { j : Nat // j ≤ xs.length ∧ (xs = ys ↔ xs.drop j = ys.drop j) }) [0, 1] (fun x => [(5, .int .i64 (x.1 : Int))]) (fun _ => H) (fun x => xs.length - x.1) (⟨0, Nat.zero_le _, Iff.rfl⟩) rfl ?_ (by repeat (first | exact trivial | refine ⟨rfl, ?_⟩)) sb
    rintro ⟨j, hj, hd⟩ again
    simp only at again ⊢
    refine At.seq (At.seq (At.region ?_)); (iterate 2 refine At.v rfl rfl rfl rfl rfl trivial ?_); refine At.ln rfl rfl rfl rfl rfl rfl rfl rfl ?_; refine At.cp rfl rfl rfl rfl rfl fun b14 h14 => ?_; refine At.regionEnd ?_
    cases b14
    · have e1 : j = xs.length := by simp at h14; omega
      have e2 : xs = ys := hd.2 (by rw [List.drop_of_length_le (by omega), List.drop_of_length_le (by omega)])
      refine At.cond rfl ?_; refine At.exit rfl ?_; refine At.seq (At.region ?_); refine At.v rfl rfl rfl rfl rfl trivial ?_; refine At.regionEnd ?_
      exact At.ret Tryz.func31 (.inr ⟨_, rfl⟩) rfl (.tmp rfl .nil) (wk (hc _ _ (⟨by simp [resVal, e2], rfl⟩)))
    · have hlt : j < xs.length := by simp at h14; omega
      have hlt' : j < ys.length := by omega
      obtain ⟨b, off, rfl, hc1⟩ := hr.el (List.getElem?_eq_getElem hlt)
      obtain ⟨b', off', rfl, hc2⟩ := hr'.el (List.getElem?_eq_getElem hlt')
      have hx := ext_drop e hlt hlt'
      refine At.cond rfl ?_; refine At.skip (At.seq ?_); refine At.block ?_; refine At.seq ?_; refine At.drawJ hmix [] rfl ?_; refine Pool.v 0 rfl rfl rfl rfl rfl rfl rfl trivial ?_; refine Pool.v 1 rfl rfl rfl rfl rfl rfl rfl trivial ?_; refine Pool.q 2 rfl rfl rfl rfl rfl (q_ia rfl rfl rfl (by assumption)) rfl ?_; refine Pool.ldc 3 rfl rfl rfl rfl rfl rfl rfl hc1.a rfl rfl rfl ?_; refine Pool.v 4 rfl rfl rfl rfl rfl rfl rfl trivial ?_; refine Pool.v 5 rfl rfl rfl rfl rfl rfl rfl trivial ?_
      refine Pool.q 6 rfl rfl rfl rfl rfl (q_ia rfl rfl rfl (by assumption)) rfl ?_; refine Pool.ldc 7 rfl rfl rfl rfl rfl rfl rfl hc2.a rfl rfl rfl ?_; refine Pool.cp 8 rfl rfl rfl rfl rfl rfl rfl fun b25 h25 => ?_; refine pool_done rfl rfl ?_; refine At.regionEnd ?_
      cases b25
      · have e3 : xs[j] = ys[j] := by simpa using h25
        refine At.cond rfl ?_; refine At.skip ?_; refine At.inBlock ?_; refine At.region ?_; refine At.v rfl rfl rfl rfl rfl trivial ?_; refine At.v rfl rfl rfl rfl rfl (by omega) ?_; refine At.v rfl rfl rfl rfl rfl trivial ?_; refine At.regionEnd ?_
        refine At.tA ((again ⟨j + 1, hlt, by rw [hd, hx]; simp [e3]⟩ (by simp; omega)))
      · have e3 : ¬ xs[j] = ys[j] := by simpa using h25
        have e4 : ¬ xs = ys := by rw [hd, hx]; simp [e3]
        refine At.cond rfl ?_; refine At.seq (At.region ?_); refine At.v rfl rfl rfl rfl rfl trivial ?_; refine At.regionEnd ?_
        exact At.ret Tryz.func31 (.inr ⟨_, rfl⟩) rfl (.tmp rfl .nil) (wk (hc _ _ (⟨by simp [resVal, e4], rfl⟩)))
  · have e : ¬ xs = ys := by rintro rfl; simp at h10
    refine At.cond rfl ?_; refine At.seq (At.region ?_); refine At.v rfl rfl rfl rfl rfl trivial ?_; refine At.regionEnd ?_
    exact At.ret Tryz.func31 (.inr ⟨_, rfl⟩) rfl (.tmp rfl .nil) (wk (hc _ _ (⟨by simp [resVal, e], rfl⟩)))
set_option maxRecDepth 100000 in
set_option maxHeartbeats 1000000 in
/-- SameRatios -/
theorem s38 (L : Lg Tryz.prog main) (H : Facts) {a a' : Option Addr} {n n' cap cap' : Nat} {xs ys : List R2} (hn : xs.length = n) (hn' : ys.length = n') (hr : Rd H a (xs.flatMap c2)) (hr' : Rd H a' (ys.flatMap c2)) (hl : xs.length ≤ 100000) :
    Pure L 38 #[.slice a n cap, .slice a' n' cap'] H (.bool (decide (xs = ys))) := by
  subst hn hn'
  refine Spec.enter Tryz.func38 rfl (by simp [Tryz.f38]) fun c cs hc => ?_; refine At.seq (At.region ?_); refine At.v rfl rfl rfl rfl rfl trivial ?_; refine At.regionEnd (At.seq (At.seq (At.region ?_))); refine At.v rfl rfl rfl rfl rfl trivial ?_; refine At.ln rfl rfl rfl rfl rfl rfl rfl rfl ?_; refine At.v rfl rfl rfl rfl rfl trivial ?_; refine At.ln rfl rfl rfl rfl rfl rfl rfl rfl ?_; refine At.cp rfl rfl rfl rfl rfl fun b10 h10 => ?_; refine At.regionEnd ?_
  cases b10
  · have e : xs.length = ys.length := by simp at h10; omega
    refine At.cond rfl ?_; refine At.skip (At.seq (At.seq (At.region ?_))); refine At.v rfl rfl rfl rfl rfl trivial ?_; refine At.regionEnd ?_; refine At.block ?_
    refine At.lpk (X := { j : Nat // j ≤ xs.length ∧ (xs = ys ↔ xs.drop j = ys.drop j) }) [0, 1] (fun x => [(5, .int .i64 (x.1 : Int))]) (fun _ => H) (fun x => xs.length - x.1) (⟨0, Nat.zero_le _, Iff.rfl⟩) rfl ?_ (by repeat (first | exact trivial | refine ⟨rfl, ?_⟩)) sb
    rintro ⟨j, hj, hd⟩ again
    simp only at again ⊢
    refine At.seq (At.seq (At.region ?_)); (iterate 2 refine At.v rfl rfl rfl rfl rfl trivial ?_); refine At.ln rfl rfl rfl rfl rfl rfl rfl rfl ?_; refine At.cp rfl rfl rfl rfl rfl fun b14 h14 => ?_; refine At.regionEnd ?_
    cases b14
    · have e1 : j = xs.length := by simp at h14; omega
      have e2 : xs = ys := hd.2 (by rw [List.drop_of_length_le (by omega), List.drop_of_length_le (by omega)])
      refine At.cond rfl ?_; refine At.exit rfl ?_; refine At.seq (At.region ?_); refine At.v rfl rfl rfl rfl rfl trivial ?_; refine At.regionEnd ?_
      exact At.ret Tryz.func38 (.inr ⟨_, rfl⟩) rfl (.tmp rfl .nil) (wk (hc _ _ (⟨by simp [resVal, e2], rfl⟩)))
    · have hlt : j < xs.length := by simp at h14; omega
      have hlt' : j < ys.length := by omega
      obtain ⟨b, off, rfl, hc1⟩ := hr.el (List.getElem?_eq_getElem hlt)
      obtain ⟨b', off', rfl, hc2⟩ := hr'.el (List.getElem?_eq_getElem hlt')
      have hx := ext_drop e hlt hlt'
      refine At.cond rfl ?_; refine At.skip (At.seq ?_); refine At.block ?_; refine At.seq ?_; refine At.drawJ hmix [] rfl ?_; refine Pool.v 0 rfl rfl rfl rfl rfl rfl rfl trivial ?_; refine Pool.v 1 rfl rfl rfl rfl rfl rfl rfl trivial ?_; refine Pool.q 2 rfl rfl rfl rfl rfl (q_ia rfl rfl rfl (by assumption)) rfl ?_; refine Pool.ldc 3 rfl rfl rfl rfl rfl rfl rfl hc1.a rfl rfl rfl ?_; refine Pool.v 4 rfl rfl rfl rfl rfl rfl rfl trivial ?_; refine Pool.v 5 rfl rfl rfl rfl rfl rfl rfl trivial ?_
      refine Pool.q 6 rfl rfl rfl rfl rfl (q_ia rfl rfl rfl (by assumption)) rfl ?_; refine Pool.ldc 7 rfl rfl rfl rfl rfl rfl rfl hc2.a rfl rfl rfl ?_; refine Pool.qb 8 rfl rfl rfl rfl rfl (q_neqS rfl rfl rfl rfl rfl rfl rfl rfl) rfl fun b25 h25 => ?_; refine pool_done rfl rfl ?_; refine At.regionEnd ?_
      have hb : b25 = !decide (xs[j] = ys[j]) := by
        rw [← h25]
        congr 1
        refine decide_eq_decide.2 ⟨fun h => ?_, fun h => by rw [h]⟩
        simp only [List.cons.injEq, and_true] at h
        exact Prod.ext h.1 h.2
      cases b25
      · have e3 : xs[j] = ys[j] := by simpa using hb
        refine At.cond rfl ?_; refine At.skip ?_; refine At.inBlock ?_; refine At.region ?_; refine At.v rfl rfl rfl rfl rfl trivial ?_; refine At.v rfl rfl rfl rfl rfl (by omega) ?_; refine At.v rfl rfl rfl rfl rfl trivial ?_; refine At.regionEnd ?_
        refine At.tA ((again ⟨j + 1, hlt, by rw [hd, hx]; simp [e3]⟩ (by simp; omega)))
      · have e3 : ¬ xs[j] = ys[j] := by simpa using hb
        have e4 : ¬ xs = ys := by rw [hd, hx]; simp [e3]
        refine At.cond rfl ?_; refine At.seq (At.region ?_); refine At.v rfl rfl rfl rfl rfl trivial ?_; refine At.regionEnd ?_
        exact At.ret Tryz.func38 (.inr ⟨_, rfl⟩) rfl (.tmp rfl .nil) (wk (hc _ _ (⟨by simp [resVal, e4], rfl⟩)))
  · have e : ¬ xs = ys := by rintro rfl; simp at h10
    refine At.cond rfl ?_; refine At.seq (At.region ?_); refine At.v rfl rfl rfl rfl rfl trivial ?_; refine At.regionEnd ?_
    exact At.ret Tryz.func38 (.inr ⟨_, rfl⟩) rfl (.tmp rfl .nil) (wk (hc _ _ (⟨by simp [resVal, e], rfl⟩)))
/-- list -/
theorem s87 (L : Lg Tryz.prog main) (H : Facts) {a a' : Option Addr} {n n' cap cap' : Nat} {xs ys : List Int} (hn : xs.length = n) (hn' : ys.length = n') (hr : Rd H a (xs.flatMap c1)) (hr' : Rd H a' (ys.flatMap c1)) (hl : xs.length ≤ 100000) :
    Pure L 87 #[.slice a n cap, .slice a' n' cap'] H (.bool (decide (xs = ys))) := by
  refine Spec.enter Tryz.func87 rfl (by simp [Tryz.f87]) fun c cs hc => ?_
  have stop31 := trivial
  refine At.seq (At.region ?_); refine At.v rfl rfl rfl rfl rfl trivial ?_; refine At.regionEnd (At.seq (At.region ?_)); (iterate 2 refine At.v rfl rfl rfl rfl rfl trivial ?_)
  clear stop31
  refine At.cq rfl rfl rfl rfl rfl rfl rfl rfl (s31 L _ hn hn' hr hr' hl) ?_; refine At.v rfl rfl rfl rfl rfl trivial ?_; refine At.regionEnd ?_
  exact At.ret Tryz.func87 (.inr ⟨_, rfl⟩) rfl (.tmp rfl .nil) (wk (hc _ _ (⟨by rfl, rfl⟩)))
def exC : Bk := ⟨[(20, 0), (16, 12), (16, 24), (20, 36)], 6, 14, 16, []⟩
def exV : Bk := ⟨[(10, 0), (5, 10), (10, 20)], 5, 0, 0, []⟩
def exA (r : Nat) (n : Nat) : BkA := ⟨some ⟨r, 0, none⟩, n, none, 0⟩
set_option maxRecDepth 100000 in
/-- Example -/
theorem s85 (L : Lg Tryz.prog main) (H : Facts) : Grows L 85 #[] H (fun v sf => ∃ r, v = bkV exC (exA r 4) ∧ sf = [.own r (.cells (List.toArray (exC.prof.flatMap c2)) 57 (0, 0))]) := by
  refine Spec.enter Tryz.func85 rfl (by simp [Tryz.f85]) fun c cs hc => ?_; refine At.seq (At.region ?_); refine At.al rfl rfl rfl rfl rfl fun r0 => ?_; refine At.regionEnd (At.seq (At.region ?_)); (iterate 4 refine At.q rfl rfl rfl rfl (q_build rfl rfl rfl) ?_)
  (refine At.l rfl rfl rfl rfl (l_buildSlice rfl rfl rfl rfl rfl) ?_; rintro _ _ ⟨r5, rfl, rfl⟩)
  (iterate 2 refine At.q rfl rfl rfl rfl (q_build rfl rfl rfl) ?_); refine At.st 1 rfl rfl rfl rfl rfl rfl rfl rfl rfl rfl rfl rfl ?_; refine At.regionEnd ?_
  exact At.ret Tryz.func85 (.inr ⟨_, rfl⟩) rfl (.aggJ 1 rfl rfl rfl .nil) (wk (hc _ _ (⟨[_], ⟨r5, rfl, rfl⟩, rfl⟩)))
set_option maxRecDepth 100000 in
/-- bulge -/
theorem s86 (L : Lg Tryz.prog main) (H : Facts) : Grows L 86 #[] H (fun v sf => ∃ r, v = bkV exV (exA r 3) ∧ sf = [.own r (.cells (List.toArray (exV.prof.flatMap c2)) 57 (0, 0))]) := by
  refine Spec.enter Tryz.func86 rfl (by simp [Tryz.f86]) fun c cs hc => ?_; refine At.seq (At.region ?_); refine At.al rfl rfl rfl rfl rfl fun r0 => ?_; refine At.regionEnd (At.seq (At.region ?_)); (iterate 3 refine At.q rfl rfl rfl rfl (q_build rfl rfl rfl) ?_)
  (refine At.l rfl rfl rfl rfl (l_buildSlice rfl rfl rfl rfl rfl) ?_; rintro _ _ ⟨r4, rfl, rfl⟩)
  refine At.q rfl rfl rfl rfl (q_build rfl rfl rfl) ?_; refine At.st 1 rfl rfl rfl rfl rfl rfl rfl rfl rfl rfl rfl rfl ?_; refine At.regionEnd ?_
  exact At.ret Tryz.func86 (.inr ⟨_, rfl⟩) rfl (.aggJ 1 rfl rfl rfl .nil) (wk (hc _ _ (⟨[_], ⟨r4, rfl, rfl⟩, rfl⟩)))
end Go.Gx
end

section
set_option linter.unusedSimpArgs false
set_option linter.unusedVariables false
namespace Go.Gx
open Go Go.Conc Go.Proofs
variable {main : Bool}

set_option maxRecDepth 100000 in
set_option maxHeartbeats 1000000 in
/-- Marked -/
theorem s81 (L : Lg Tryz.prog main) (H : Facts) {B : Bk} {A : BkA} {m : R2 × Int} (hrm : Rd H A.ma (B.marks.flatMap c3)) (hl : B.marks.length ≤ 1000) :
    Grows L 81 #[bkV B A, mV m] H (fun v sf => ∃ a cap, v = bkV (markedM B m) ⟨A.pa, A.pc, a, cap⟩ ∧ Sl c3 94 (.slice a (B.marks.length + 1) cap) (B.marks ++ [m]) sf) := by
  refine Spec.enter Tryz.func81 rfl (by simp [Tryz.f81]) fun c cs hc => ?_
  obtain ⟨n, hn⟩ : ∃ n, B.marks.length = n := ⟨_, rfl⟩
  have stopDraw := trivial
  refine At.seq (At.region ?_); refine At.bx rfl rfl rfl rfl rfl rfl rfl fun r2 => ?_; refine At.bx rfl rfl rfl rfl rfl rfl rfl fun r3 => ?_; refine At.al rfl rfl rfl rfl rfl fun r4 => ?_; refine At.regionEnd (At.seq ?_)
  clear stopDraw
  refine At.cutk (X := { x : Option Addr × Nat × Facts // Sl c3 94 (.slice x.1 (B.marks.length + 1) x.2.1) (B.marks ++ [m]) x.2.2 }) [2, 3, 4] (fun _ => []) (fun x => .own r4 (.cells #[.slice none 0 0, .int .i64 0, .int .i64 0, .int .i64 0, .slice none 0 0] 27 (0, 0)) :: .own r2 (.cells #[.slice A.pa B.prof.length A.pc, .int .i64 B.size, .int .i64 B.lo, .int .i64 B.hi, .slice x.1.1 (B.marks.length + 1) x.1.2.1] 27 (0, 0)) :: (x.1.2.2 ++ H)) rfl ?_ fun key => ?_
  · rintro ⟨⟨a, cp, sm⟩, hsm⟩
    simp only at hsm ⊢
    refine At.seq (At.region ?_); refine At.ld 1 rfl rfl rfl rfl rfl rfl rfl rfl rfl ?_; refine At.st 0 rfl rfl rfl rfl rfl rfl rfl rfl rfl rfl rfl rfl ?_; refine At.regionEnd ?_
    have e : (markedM B m).marks.length = B.marks.length + 1 := by simp [markedM]
    have ev : Value.agg #[.slice A.pa B.prof.length A.pc, .int .i64 B.size, .int .i64 B.lo, .int .i64 B.hi, .slice a (B.marks.length + 1) cp] = bkV (markedM B m) ⟨A.pa, A.pc, a, cp⟩ := by
      show _ = Value.agg #[.slice A.pa (markedM B m).prof.length A.pc, .int .i64 (markedM B m).size, .int .i64 (markedM B m).lo, .int .i64 (markedM B m).hi, .slice a (markedM B m).marks.length cp]
      rw [e]; rfl
    exact At.ret Tryz.func81 (.inr ⟨_, rfl⟩) rfl (.aggJ 0 rfl rfl rfl .nil) (wk (hc _ _ (⟨sm, ⟨a, cp, ev, hsm⟩, rfl⟩)))
  · refine At.draw hmix (_) sb ?_
    have stopPhase := trivial
    refine Pool.fa 4 1 rfl rfl rfl rfl rfl rfl rfl rfl rfl ?_; refine Pool.ld 2 2 rfl rfl rfl rfl rfl rfl rfl rfl rfl rfl rfl ?_; refine Pool.ld 1 4 rfl rfl rfl rfl rfl rfl rfl rfl rfl rfl rfl ?_
    refine Pool.two 0 5 rfl rfl rfl rfl rfl (loud_bs rfl rfl rfl rfl rfl rfl rfl rfl rfl rfl (by repeat (first | exact Sub.refl _ | exact Sub.pre _ _ | apply Sub.cons | apply Sub.drop | apply Sub.appL | apply Sub.dropL)) fun r5 => ?_) (loud_bs rfl rfl rfl rfl rfl rfl rfl rfl rfl rfl (by repeat (first | exact Sub.refl _ | exact Sub.pre _ _ | apply Sub.cons | apply Sub.drop | apply Sub.appL | apply Sub.dropL)) fun r10 => ?_)
    · refine Pool.two 3 5 rfl rfl rfl rfl rfl (loud_app (ops := _) (H₀ := _) rfl rfl rfl rfl rfl rfl rfl rfl rfl rfl rfl rfl rfl rfl (IsSl.own r5 0 0 [] [] rfl rfl (by omega)) (List.Perm.refl _) (hrm.more ((((Sub.refl _).drop _).drop _).drop _ |>.drop _)) (by rw [flat_len (c := c3), hn]) flat_one (.inr ⟨_, _, _, rfl⟩) (by omega) (by repeat (first | exact Sub.refl _ | exact Sub.pre _ _ | apply Sub.cons | apply Sub.drop | apply Sub.appL | apply Sub.dropL)) fun v sm hsm0 => ?_) (loud_bs rfl rfl rfl rfl rfl rfl rfl rfl rfl rfl (by repeat (first | exact Sub.refl _ | exact Sub.pre _ _ | apply Sub.cons | apply Sub.drop | apply Sub.appL | apply Sub.dropL)) fun r10 => ?_)
      · have hsm : Sl c3 94 v B.marks sm := by unfold Sl; simpa [hn] using hsm0
        refine Pool.bs 5 rfl rfl rfl rfl rfl rfl rfl rfl rfl rfl rfl rfl rfl rfl rfl (by repeat (first | exact Sub.refl _ | exact Sub.pre _ _ | apply Sub.cons | apply Sub.drop | apply Sub.appL | apply Sub.dropL)) fun r10 => ?_
        refine Pool.push (x := m) 6 0 1 rfl rfl rfl rfl rfl rfl rfl rfl rfl rfl rfl rfl rfl rfl rfl rfl rfl rfl rfl rfl rfl hsm rfl rfl rfl (by repeat (first | exact Sub.refl _ | exact Sub.pre _ _ | apply Sub.cons | apply Sub.drop | apply Sub.appL | apply Sub.dropL)) (by omega) fun v' sm' hs' => ?_
        obtain ⟨a', cp', rfl⟩ := hs'.slice
        simp only [List.length_append, List.length_cons, List.length_nil, Nat.zero_add] at hs' ⊢
        refine Pool.fa 4 7 rfl rfl rfl rfl rfl rfl rfl rfl rfl ?_
        clear stopPhase
        refine Pool.flush 8 (Hq' := H) rfl rfl rfl rfl rfl rfl (by repeat (first | exact Sub.refl _ | exact Sub.pre _ _ | apply Sub.cons | apply Sub.drop | apply Sub.appL | apply Sub.dropL)) ?_
        refine Pool.weakH (H' := .own r4 (.cells #[.slice none 0 0, .int .i64 0, .int .i64 0, .int .i64 0, .slice none 0 0] 27 (0, 0)) :: .own r2 (.cells (List.toArray (bkC B A)) 27 (0, 0)) :: (sm' ++ H)) ?_ (((Sub.of_perm (List.perm_append_comm_assoc [_, _] sm' H)).trans ((((Sub.refl _).cons _ |>.drop _).cons _).appL sm')).drop _) (by repeat (first | exact Sub.refl _ | exact Sub.pre _ _ | apply Sub.cons | apply Sub.drop | apply Sub.appL | apply Sub.dropL))
        refine Pool.st 1 8 rfl rfl rfl rfl rfl rfl rfl rfl rfl rfl rfl rfl rfl rfl rfl rfl rfl rfl sb ?_; refine pool_done rfl rfl ?_; refine At.regionEnd ?_
        refine At.tA ((key ⟨(a', cp', sm'), hs'⟩))
      · refine Pool.one 3 rfl rfl rfl rfl rfl (loud_app (ops := _) (H₀ := _) rfl rfl rfl rfl rfl rfl rfl rfl rfl rfl rfl rfl rfl rfl (IsSl.own r5 0 0 [] [] rfl rfl (by omega)) (List.Perm.swap _ _ _) (hrm.more (((((Sub.refl _).drop _).drop _).drop _).drop _ |>.drop _)) (by rw [flat_len (c := c3), hn]) flat_one (.inr ⟨_, _, _, rfl⟩) (by omega) (by repeat (first | exact Sub.refl _ | exact Sub.pre _ _ | apply Sub.cons | apply Sub.drop | apply Sub.appL | apply Sub.dropL)) fun v sm hsm0 => ?_)
        have hsm : Sl c3 94 v B.marks sm := by unfold Sl; simpa [hn] using hsm0
        refine Pool.weakH ?_ (Sub.of_perm List.perm_middle.symm) (by repeat (first | exact Sub.refl _ | exact Sub.pre _ _ | apply Sub.cons | apply Sub.drop | apply Sub.appL | apply Sub.dropL))
        refine Pool.push (x := m) 6 0 1 rfl rfl rfl rfl rfl rfl rfl rfl rfl rfl rfl rfl rfl rfl rfl rfl rfl rfl rfl rfl rfl hsm rfl rfl rfl (by repeat (first | exact Sub.refl _ | exact Sub.pre _ _ | apply Sub.cons | apply Sub.drop | apply Sub.appL | apply Sub.dropL)) (by omega) fun v' sm' hs' => ?_
        obtain ⟨a', cp', rfl⟩ := hs'.slice
        simp only [List.length_append, List.length_cons, List.length_nil, Nat.zero_add] at hs' ⊢
        refine Pool.fa 4 7 rfl rfl rfl rfl rfl rfl rfl rfl rfl ?_
        clear stopPhase
        refine Pool.flush 8 (Hq' := H) rfl rfl rfl rfl rfl rfl (by repeat (first | exact Sub.refl _ | exact Sub.pre _ _ | apply Sub.cons | apply Sub.drop | apply Sub.appL | apply Sub.dropL)) ?_
        refine Pool.weakH (H' := .own r4 (.cells #[.slice none 0 0, .int .i64 0, .int .i64 0, .int .i64 0, .slice none 0 0] 27 (0, 0)) :: .own r2 (.cells (List.toArray (bkC B A)) 27 (0, 0)) :: (sm' ++ H)) ?_ (((Sub.of_perm (List.perm_append_comm_assoc [_, _] sm' H)).trans ((((Sub.refl _).cons _ |>.drop _).cons _).appL sm')).drop _) (by repeat (first | exact Sub.refl _ | exact Sub.pre _ _ | apply Sub.cons | apply Sub.drop | apply Sub.appL | apply Sub.dropL))
        refine Pool.st 1 8 rfl rfl rfl rfl rfl rfl rfl rfl rfl rfl rfl rfl rfl rfl rfl rfl rfl rfl sb ?_; refine pool_done rfl rfl ?_; refine At.regionEnd ?_
        refine At.tA ((key ⟨(a', cp', sm'), hs'⟩))
    · refine Pool.bs 0 rfl rfl rfl rfl rfl rfl rfl rfl rfl rfl rfl rfl rfl rfl rfl (by repeat (first | exact Sub.refl _ | exact Sub.pre _ _ | apply Sub.cons | apply Sub.drop | apply Sub.appL | apply Sub.dropL)) fun r5 => ?_
      refine Pool.one 3 rfl rfl rfl rfl rfl (loud_app (ops := _) (H₀ := _) rfl rfl rfl rfl rfl rfl rfl rfl rfl rfl rfl rfl rfl rfl (IsSl.own r5 0 0 [] [] rfl rfl (by omega)) (List.Perm.refl _) (hrm.more (((((Sub.refl _).drop _).drop _).drop _).drop _ |>.drop _)) (by rw [flat_len (c := c3), hn]) flat_one (.inr ⟨_, _, _, rfl⟩) (by omega) (by repeat (first | exact Sub.refl _ | exact Sub.pre _ _ | apply Sub.cons | apply Sub.drop | apply Sub.appL | apply Sub.dropL)) fun v sm hsm0 => ?_)
      have hsm : Sl c3 94 v B.marks sm := by unfold Sl; simpa [hn] using hsm0
      refine Pool.weakH ?_ (Sub.of_perm List.perm_middle.symm) (by repeat (first | exact Sub.refl _ | exact Sub.pre _ _ | apply Sub.cons | apply Sub.drop | apply Sub.appL | apply Sub.dropL))
      refine Pool.push (x := m) 6 0 1 rfl rfl rfl rfl rfl rfl rfl rfl rfl rfl rfl rfl rfl rfl rfl rfl rfl rfl rfl rfl rfl hsm rfl rfl rfl (by repeat (first | exact Sub.refl _ | exact Sub.pre _ _ | apply Sub.cons | apply Sub.drop | apply Sub.appL | apply Sub.dropL)) (by omega) fun v' sm' hs' => ?_
      obtain ⟨a', cp', rfl⟩ := hs'.slice
      simp only [List.length_append, List.length_cons, List.length_nil, Nat.zero_add] at hs' ⊢
      refine Pool.fa 4 7 rfl rfl rfl rfl rfl rfl rfl rfl rfl ?_
      clear stopPhase
      refine Pool.flush 8 (Hq' := H) rfl rfl rfl rfl rfl rfl (by repeat (first | exact Sub.refl _ | exact Sub.pre _ _ | apply Sub.cons | apply Sub.drop | apply Sub.appL | apply Sub.dropL)) ?_
      refine Pool.weakH (H' := .own r4 (.cells #[.slice none 0 0, .int .i64 0, .int .i64 0, .int .i64 0, .slice none 0 0] 27 (0, 0)) :: .own r2 (.cells (List.toArray (bkC B A)) 27 (0, 0)) :: (sm' ++ H)) ?_ (((Sub.of_perm (List.perm_append_comm_assoc [_, _] sm' H)).trans ((((Sub.refl _).cons _ |>.drop _).cons _).appL sm')).drop _) (by repeat (first | exact Sub.refl _ | exact Sub.pre _ _ | apply Sub.cons | apply Sub.drop | apply Sub.appL | apply Sub.dropL))
      refine Pool.st 1 8 rfl rfl rfl rfl rfl rfl rfl rfl rfl rfl rfl rfl rfl rfl rfl rfl rfl rfl sb ?_; refine pool_done rfl rfl ?_; refine At.regionEnd ?_
      refine At.tA ((key ⟨(a', cp', sm'), hs'⟩))
end Go.Gx
end

section
set_option linter.unusedSimpArgs false
set_option linter.unusedVariables false
namespace Go.Gx
open Go Go.Conc Go.Proofs
variable {main : Bool}

theorem Pure.eq {P : Program} {L : Lg P main} {g : FuncId} {args : Array Value} {H : Facts} {v w : Value} (h : Pure L g args H v) (e : v = w) : Pure L g args H w := e ▸ h
section
variable (L : Lg Tryz.prog main) (H : Facts) {A : BkA}
theorem x25a (hO : Opn H exC A) : Pure L 25 #[bkV exC A, .int .i64 14, rV (-1, 2)] H (.tuple #[rV (92, 5), rV (24, 5), .bool true, .int .i64 0]) := (s25 L H hO).eq (by kernel_rfl)
theorem x25b (hO : Opn H exC A) : Pure L 25 #[bkV exC A, .int .i64 14, rV (2, 1)] H (.tuple #[rV (0, 0), rV (0, 0), .bool false, .int .i64 0]) := (s25 L H hO).eq (by kernel_rfl)
theorem x27a (hO : Opn H exC A) : Pure L 27 #[bkV exC A, .int .i64 15, rV (1, 1)] H (.tuple #[.int .i64 5, rV (3, 4), .bool true, .int .i64 0]) := (s27 L H hO).eq (by kernel_rfl)
theorem x27b (hO : Opn H exC A) : Pure L 27 #[bkV exC A, .int .i64 16, rV (1, 2)] H (.tuple #[.int .i64 4, rV (0, 1), .bool true, .int .i64 0]) := (s27 L H hO).eq (by kernel_rfl)
theorem e29a : (if lookBar exV [hBar 0] ≠ 0 then [] else hiddenTo exV 0 exV.prof.length) = [2] ∧ lookBar exV [hBar 0] = 0 := ⟨by kernel_rfl, by kernel_rfl⟩
theorem e29b : (if lookBar exV [hBar 10] ≠ 0 then [] else hiddenTo exV 10 exV.prof.length) = [] ∧ lookBar exV [hBar 10] = 0 := ⟨by kernel_rfl, by kernel_rfl⟩
theorem x29a (hO : Opn H exV A) : Grows L 29 #[bkV exV A, .int .i64 0] H (fun v sf => ∃ a cap, v = .tuple #[.slice a 1 cap, .int .i64 0] ∧ Sl c1 3 (.slice a 1 cap) [2] sf) := by
  have h := s29 L H hO (eye := 0)
  rw [e29a.1, e29a.2] at h
  exact h
theorem x29b (hO : Opn H exV A) : Grows L 29 #[bkV exV A, .int .i64 10] H (fun v sf => ∃ a cap, v = .tuple #[.slice a 0 cap, .int .i64 0] ∧ Sl c1 3 (.slice a 0 cap) [] sf) := by
  have h := s29 L H hO (eye := 10)
  rw [e29b.1, e29b.2] at h
  exact h
def exF : Int × R2 := (0, (0, 1))
def exT : Int × R2 := (4, (1, 1))
def exTh : List R2 := [(14, 1), (18, 1), (22, 1), (80, 3), (33, 1)]
theorem e32 : thingM exC 14 exF exT = (exTh, 0) := by kernel_rfl
theorem x32 (hO : Opn H exC A) : Grows L 32 #[bkV exC A, .int .i64 14, .agg (List.toArray (cI3 exF)), .agg (List.toArray (cI3 exT))] H (fun v sf => ∃ a cap, v = .tuple #[.slice a 5 cap, .int .i64 0] ∧ Sl c2 29 (.slice a 5 cap) exTh sf) := by
  have h := s32 L H hO (eye := 14) (f := exF) (t := exT)
  rw [e32] at h
  exact h
theorem e34 : bendM exC 14 exF exT = ((3, (-19, 12)), 0) := by kernel_rfl
theorem x34 (hO : Opn H exC A) : Pure L 34 #[bkV exC A, .int .i64 14, .agg (List.toArray (cI3 exF)), .agg (List.toArray (cI3 exT))] H (.tuple #[.int .i64 3, rV (-19, 12), .int .i64 0]) := by
  have h := s34 L H hO (eye := 14) (f := exF) (t := exT)
  rw [e34] at h
  exact h
theorem e36 : (if lookBar exC [slopeBar 0 1, hBar 2] ≠ 0 then [] else keepsM exC (0, 1) 2 91) = [12, 13, 14, 15, 16, 17] ∧ lookBar exC [slopeBar 0 1, hBar 2] = 0 := ⟨by kernel_rfl, by kernel_rfl⟩
theorem x36 (hO : Opn H exC A) : Grows L 36 #[bkV exC A, rV (0, 1), .int .i64 2] H (fun v sf => ∃ a cap, v = .tuple #[.slice a 6 cap, .int .i64 0] ∧ Sl c1 3 (.slice a 6 cap) [12, 13, 14, 15, 16, 17] sf) := by
  have h := s36 L H hO (s := (0, 1)) (row := 2)
  rw [e36.1, e36.2] at h
  exact h
theorem e51 : (if bookBar exC ≠ 0 then [] else statesM exC) = [14, 15, 16] ∧ bookBar exC = 0 := ⟨by kernel_rfl, by kernel_rfl⟩
theorem x51 (hO : Opn H exC A) : Grows L 51 #[bkV exC A] H (fun v sf => ∃ a cap, v = .tuple #[.slice a 3 cap, .int .i64 0] ∧ Sl c1 3 (.slice a 3 cap) [14, 15, 16] sf) := by
  have h := s51 L H hO
  rw [e51.1, e51.2] at h
  exact h
def exM1 : Bk := markedM exC ((1, 2), 3)
theorem e51b : (if bookBar exM1 ≠ 0 then [] else statesM exM1) = [14, 15] ∧ bookBar exM1 = 0 := ⟨by kernel_rfl, by kernel_rfl⟩
theorem x51b (hO : Opn H exM1 A) : Grows L 51 #[bkV exM1 A] H (fun v sf => ∃ a cap, v = .tuple #[.slice a 2 cap, .int .i64 0] ∧ Sl c1 3 (.slice a 2 cap) [14, 15] sf) := by
  have h := s51 L H hO
  rw [e51b.1, e51b.2] at h
  exact h
theorem e65a : markBarM exC ((1, 2), 3) = 0 := by kernel_rfl
theorem x65a (hO : Opn H exC A) : Grows L 65 #[bkV exC A, mV ((1, 2), 3)] H (fun v sf => ∃ A', v = .tuple #[bkV exM1 A', .int .i64 0] ∧ BkO exM1 A' sf) := by
  refine Spec.mono (s65 L H hO) ?_
  rintro v H' ⟨sf, ⟨_, h⟩, rfl⟩
  exact ⟨sf, h e65a, rfl⟩
theorem e65b : markBarM exC ((1, 2), 2) = 9 := by kernel_rfl
theorem x65b (hO : Opn H exC A) : Grows L 65 #[bkV exC A, mV ((1, 2), 2)] H (fun v sf => v = .tuple #[bkZ, .int .i64 9]) := by
  refine Spec.mono (s65 L H hO) ?_
  rintro v H' ⟨sf, ⟨h, _⟩, rfl⟩
  have e := e65b
  rw [e] at h
  exact ⟨sf, h (by omega), rfl⟩
def exM3 : Bk := markedM (markedM (markedM exC ((0, 1), 2)) ((1, 2), 3)) ((1, 1), 6)
theorem e59 : clashM exM3 = ([1, 2], 0) := by kernel_rfl
theorem x59 (hO : Opn H exM3 A) : Grows L 59 #[bkV exM3 A] H (fun v sf => ∃ a cap, v = .tuple #[.slice a 2 cap, .int .i64 0] ∧ Rd sf a (([1, 2] : List Int).flatMap c1)) := by
  have h := s59 L H hO
  rw [e59] at h
  exact h
end
section
variable {Post : Value → World → Prop} {W₀ : World} {H Hs : Facts} {A : BkA}
theorem e52a : knownBar exC [slopeBar 1 2] = 0 ∧ rowsM exC (1, 2) = [3, 4] ∧ wordM (statesM exC).length (((rowsOf exC (1, 2)).count (-1) : Nat) : Int) = 2 := ⟨by kernel_rfl, by kernel_rfl, by kernel_rfl⟩
theorem x52a (hO : OpS H Hs exC A) : Grows (mainLg Tryz.prog Post W₀ [] []) 52 #[bkV exC A, rV (1, 2)] H (fun v sf => ∃ a cap, v = .tuple #[.slice a 2 cap, .int .i64 2, .int .i64 0] ∧ Sl c1 3 (.slice a 2 cap) [3, 4] sf) := by
  have h := s52 (Post := Post) (W₀ := W₀) (s := (1, 2)) hO
  obtain ⟨h1, h2, h3⟩ := e52a
  simp only [h1, h2, h3] at h
  exact h
theorem e52b : knownBar exC [slopeBar 2 1] = 0 ∧ rowsM exC (2, 1) = [] ∧ wordM (statesM exC).length (((rowsOf exC (2, 1)).count (-1) : Nat) : Int) = 1 := ⟨by kernel_rfl, by kernel_rfl, by kernel_rfl⟩
theorem x52b (hO : OpS H Hs exC A) : Grows (mainLg Tryz.prog Post W₀ [] []) 52 #[bkV exC A, rV (2, 1)] H (fun v sf => ∃ a cap, v = .tuple #[.slice a 0 cap, .int .i64 1, .int .i64 0] ∧ Sl c1 3 (.slice a 0 cap) [] sf) := by
  have h := s52 (Post := Post) (W₀ := W₀) (s := (2, 1)) hO
  obtain ⟨h1, h2, h3⟩ := e52b
  simp only [h1, h2, h3] at h
  exact h
theorem x66 (hO : OpS H Hs exC A) : Pure (mainLg Tryz.prog Post W₀ [] []) 66 #[bkV exC A, rV (1, 2), .int .i64 3] H (.tuple #[.int .i64 0, .int .i64 0]) :=
  (s66 (Post := Post) (W₀ := W₀) (s := (1, 2)) (row := 3) hO).eq (by kernel_rfl)
theorem x58 {a : Option Addr} (hO : OpS H Hs exC A) (hr : Rd H a (([(0, 1), (1, 2)] : List R2).flatMap c2)) : Pure (mainLg Tryz.prog Post W₀ [] []) 58 #[bkV exC A, .slice a 2 2] H (.tuple #[.agg (List.toArray (c2 (2, 4))), .int .i64 0]) :=
  (s58 (Post := Post) (W₀ := W₀) (ss := [(0, 1), (1, 2)]) hO rfl hr (by decide)).eq (by kernel_rfl)
theorem x63 {a : Option Addr} (hO : OpS H Hs exC A) (hr : Rd H a (([(0, 1), (1, 2), (1, 1)] : List R2).flatMap c2)) : Pure (mainLg Tryz.prog Post W₀ [] []) 63 #[bkV exC A, .slice a 3 3] H (.tuple #[.int .i64 1, .int .i64 2, .int .i64 0]) :=
  (s63 (Post := Post) (W₀ := W₀) (ss := [(0, 1), (1, 2), (1, 1)]) hO rfl hr (by decide)).eq (by kernel_rfl)
end
end Go.Gx
end

section
set_option linter.unusedSimpArgs false
set_option linter.unusedVariables false
namespace Go.Gx
open Go Go.Conc Go.Proofs

/-- The table of checks, shared. -/
structure Glo (H Hg : Facts) : Prop where
  sub : Sub Hg H
  sh : ∀ f ∈ Hg, f.isOwn = false
  g : Cells Hg 0 0 chkC
theorem Glo.a {H H' Hg : Facts} (h : Glo H Hg) (hs : Sub H H' := by repeat (first | exact Sub.refl _ | assumption | exact Sub.pre _ _ | apply Sub.cons | apply Sub.drop | apply Sub.appL | apply Sub.dropL | refine Sub.trans ?_ (by assumption))) : Glo H' Hg := ⟨h.sub.trans hs, h.sh, h.g⟩
theorem Glo.ops {H Hg : Facts} {B : Bk} {A : BkA} {r : Nat} {n cap : Nat} (h : Glo H Hg) (hA : A = ⟨some ⟨r, 0, none⟩, cap, none, 0⟩) (hm : B.marks = []) (hl : B.prof.length ≤ 100000) : OpS (.seg r 0 (B.prof.flatMap c2) :: H) (.seg r 0 (B.prof.flatMap c2) :: Hg) B A := by
  subst hA
  refine ⟨h.sub.cons _, ?_, ⟨h.g.a, ⟨?_, ?_⟩, hl, by rw [hm]; simp⟩⟩
  · intro f hf
    rcases List.mem_cons.1 hf with rfl | hf
    · rfl
    · exact h.sh f hf
  · have := rd_seg (H := .seg r 0 (B.prof.flatMap c2) :: Hg) (b := r) (vs := B.prof.flatMap c2) (rest := []) (by simp)
    exact this
  · rw [hm]; exact .inl rfl
set_option maxRecDepth 100000 in
set_option maxHeartbeats 1000000 in
/-- painted: the chapter's examples -/
theorem s22 {Post : Value → World → Prop} {W₀ : World} {H Hg : Facts} (hG : Glo H Hg) : Pure (mainLg Tryz.prog Post W₀ [] []) 22 #[] H (.bool true) := by
  refine Spec.enter Tryz.func22 rfl (by simp [Tryz.f22]) fun c cs hc => ?_
  generalize hL : mainLg Tryz.prog Post W₀ [] [] = L at hc ⊢
  have stop25 := trivial
  have stop27 := trivial
  have stop29 := trivial
  have stop32 := trivial
  have stop34 := trivial
  have stop36 := trivial
  have stop51 := trivial
  have stop52 := trivial
  have stop58 := trivial
  have stop59 := trivial
  have stop63 := trivial
  have stop65 := trivial
  have stop66 := trivial
  have stop81 := trivial
  have stop87 := trivial
  have stop38 := trivial
  refine At.seq (At.region ?_); refine At.v rfl rfl rfl rfl rfl trivial ?_; refine At.regionEnd (At.seq (At.region ?_)); refine At.cl rfl rfl rfl rfl rfl rfl rfl rfl (s85 L H) ?_
  rintro _ _ ⟨_, ⟨rc, rfl, rfl⟩, rfl⟩
  refine At.share ?_
  have hO := Glo.ops (B := exC) (A := exA rc 4) (r := rc) (n := 4) (cap := 4) hG rfl rfl (by decide)
  refine At.weakH (H' := .seg rc 0 (exC.prof.flatMap c2) :: H) ?_ (Sub.refl _)
  refine At.al rfl rfl rfl rfl rfl fun r1 => ?_; refine At.st 0 rfl rfl rfl rfl rfl rfl rfl rfl rfl rfl rfl rfl ?_; refine At.regionEnd (At.seq ?_); refine At.drawJ hmix [] rfl ?_; refine Pool.ld 0 0 rfl rfl rfl rfl rfl rfl rfl rfl rfl rfl rfl ?_; refine Pool.cq 1 rfl rfl rfl rfl rfl rfl rfl rfl rfl (fun H hs => s49 L H) ?_; refine Pool.fl 8 rfl rfl rfl rfl rfl rfl rfl rfl rfl rfl ?_; refine Pool.fl 9 rfl rfl rfl rfl rfl rfl rfl rfl rfl rfl ?_
  refine Pool.cq 2 rfl rfl rfl rfl rfl rfl rfl rfl rfl (fun H_ hs_ => x25a L H_ (hO.a.opn)) ?_; refine Pool.v 3 rfl rfl rfl rfl rfl rfl rfl trivial ?_; refine Pool.v 4 rfl rfl rfl rfl rfl rfl rfl trivial ?_; refine Pool.v 5 rfl rfl rfl rfl rfl rfl rfl trivial ?_; refine Pool.v 6 rfl rfl rfl rfl rfl rfl rfl trivial ?_; refine Pool.v 7 rfl rfl rfl rfl rfl rfl rfl trivial ?_; refine Pool.v 12 rfl rfl rfl rfl rfl rfl rfl trivial ?_; refine Pool.v 13 rfl rfl rfl rfl rfl rfl rfl trivial ?_
  refine pool_take rfl rfl rfl fun rf9 => ?_; refine pool_take rfl rfl rfl fun rf8 => ?_; refine Pool.st 0 10 rfl rfl rfl rfl rfl rfl rfl rfl rfl rfl rfl rfl rfl rfl rfl rfl rfl rfl sb ?_; refine Pool.st 1 11 rfl rfl rfl rfl rfl rfl rfl rfl rfl rfl rfl rfl rfl rfl rfl rfl rfl rfl sb ?_; refine pool_done rfl rfl ?_; refine At.regionEnd (At.seq ?_); refine At.drawJ hmix [] rfl ?_; refine Pool.ld 2 0 rfl rfl rfl rfl rfl rfl rfl rfl rfl rfl rfl ?_
  refine Pool.cq 1 rfl rfl rfl rfl rfl rfl rfl rfl rfl (fun H hs => s49 L H) ?_; refine Pool.fl 8 rfl rfl rfl rfl rfl rfl rfl rfl rfl rfl ?_; refine Pool.fl 9 rfl rfl rfl rfl rfl rfl rfl rfl rfl rfl ?_; refine Pool.cq 2 rfl rfl rfl rfl rfl rfl rfl rfl rfl (fun H_ hs_ => x25b L H_ (hO.a.opn)) ?_; refine Pool.v 3 rfl rfl rfl rfl rfl rfl rfl trivial ?_; refine Pool.v 4 rfl rfl rfl rfl rfl rfl rfl trivial ?_; refine Pool.v 5 rfl rfl rfl rfl rfl rfl rfl trivial ?_
  refine Pool.v 6 rfl rfl rfl rfl rfl rfl rfl trivial ?_; refine Pool.v 7 rfl rfl rfl rfl rfl rfl rfl trivial ?_; refine Pool.v 12 rfl rfl rfl rfl rfl rfl rfl trivial ?_; refine Pool.v 13 rfl rfl rfl rfl rfl rfl rfl trivial ?_; refine pool_take rfl rfl rfl fun rf9 => ?_; refine pool_take rfl rfl rfl fun rf8 => ?_; refine Pool.st 0 10 rfl rfl rfl rfl rfl rfl rfl rfl rfl rfl rfl rfl rfl rfl rfl rfl rfl rfl sb ?_
  refine Pool.st 1 11 rfl rfl rfl rfl rfl rfl rfl rfl rfl rfl rfl rfl rfl rfl rfl rfl rfl rfl sb ?_; refine pool_done rfl rfl ?_; refine At.regionEnd (At.seq ?_); refine At.drawJ hmix [] rfl ?_; refine Pool.ld 4 0 rfl rfl rfl rfl rfl rfl rfl rfl rfl rfl rfl ?_; refine Pool.cq 1 rfl rfl rfl rfl rfl rfl rfl rfl rfl (fun H hs => s49 L H) ?_; refine Pool.fl 8 rfl rfl rfl rfl rfl rfl rfl rfl rfl rfl ?_; refine Pool.cq 2 rfl rfl rfl rfl rfl rfl rfl rfl rfl (fun H_ hs_ => x27a L H_ (hO.a.opn)) ?_
  refine Pool.v 3 rfl rfl rfl rfl rfl rfl rfl trivial ?_; refine Pool.v 4 rfl rfl rfl rfl rfl rfl rfl trivial ?_; refine Pool.v 5 rfl rfl rfl rfl rfl rfl rfl trivial ?_; refine Pool.v 6 rfl rfl rfl rfl rfl rfl rfl trivial ?_; refine Pool.v 7 rfl rfl rfl rfl rfl rfl rfl trivial ?_; refine Pool.v 9 rfl rfl rfl rfl rfl rfl rfl trivial ?_; refine Pool.v 11 rfl rfl rfl rfl rfl rfl rfl trivial ?_; refine Pool.v 12 rfl rfl rfl rfl rfl rfl rfl trivial ?_; refine pool_take rfl rfl rfl fun rf8 => ?_
  refine Pool.st 0 10 rfl rfl rfl rfl rfl rfl rfl rfl rfl rfl rfl rfl rfl rfl rfl rfl rfl rfl sb ?_; refine pool_done rfl rfl ?_; refine At.regionEnd (At.seq ?_); refine At.drawJ hmix [] rfl ?_; refine Pool.ld 5 0 rfl rfl rfl rfl rfl rfl rfl rfl rfl rfl rfl ?_; refine Pool.cq 1 rfl rfl rfl rfl rfl rfl rfl rfl rfl (fun H hs => s49 L H) ?_; refine Pool.fl 8 rfl rfl rfl rfl rfl rfl rfl rfl rfl rfl ?_; refine Pool.cq 2 rfl rfl rfl rfl rfl rfl rfl rfl rfl (fun H_ hs_ => x27b L H_ (hO.a.opn)) ?_
  refine Pool.v 3 rfl rfl rfl rfl rfl rfl rfl trivial ?_; refine Pool.v 4 rfl rfl rfl rfl rfl rfl rfl trivial ?_; refine Pool.v 5 rfl rfl rfl rfl rfl rfl rfl trivial ?_; refine Pool.v 6 rfl rfl rfl rfl rfl rfl rfl trivial ?_; refine Pool.v 7 rfl rfl rfl rfl rfl rfl rfl trivial ?_; refine Pool.v 9 rfl rfl rfl rfl rfl rfl rfl trivial ?_; refine Pool.v 11 rfl rfl rfl rfl rfl rfl rfl trivial ?_; refine Pool.v 12 rfl rfl rfl rfl rfl rfl rfl trivial ?_; refine pool_take rfl rfl rfl fun rf8 => ?_
  refine Pool.st 0 10 rfl rfl rfl rfl rfl rfl rfl rfl rfl rfl rfl rfl rfl rfl rfl rfl rfl rfl sb ?_; refine pool_done rfl rfl ?_; refine At.regionEnd (At.seq (At.region ?_)); refine At.cl rfl rfl rfl rfl rfl rfl rfl rfl (s86 L _) ?_
  rintro _ _ ⟨_, ⟨rv, rfl, rfl⟩, rfl⟩
  refine At.share ?_
  have hV := Glo.ops (B := exV) (A := exA rv 3) (r := rv) (n := 3) (cap := 3) hG rfl rfl (by decide)
  refine At.weakH (H' := .seg rv 0 (exV.prof.flatMap c2) :: _) ?_ (Sub.refl _)
  skip
  refine At.cl rfl rfl rfl rfl rfl rfl rfl rfl (x29a L _ (hV.a.opn)) ?_
  rintro _ _ ⟨s6, ⟨a6, c6, rfl, hs6⟩, rfl⟩
  obtain ⟨_, hr6, _⟩ := hs6.rd
  refine At.rot 9 rfl ?_; (iterate 5 refine At.v rfl rfl rfl rfl rfl trivial ?_); refine At.regionEnd (At.seq (At.region ?_)); refine At.cl rfl rfl rfl rfl rfl rfl rfl rfl (s86 L _) ?_
  rintro _ _ ⟨_, ⟨rv2, rfl, rfl⟩, rfl⟩
  refine At.share ?_
  have hV2 := Glo.ops (B := exV) (A := exA rv2 3) (r := rv2) (n := 3) (cap := 3) hG rfl rfl (by decide)
  refine At.weakH (H' := .seg rv2 0 (exV.prof.flatMap c2) :: _) ?_ (Sub.refl _)
  skip
  refine At.cl rfl rfl rfl rfl rfl rfl rfl rfl (x29b L _ (hV2.a.opn)) ?_
  rintro _ _ ⟨s7, ⟨a7, c7, rfl, hs7⟩, rfl⟩
  refine At.rot 10 rfl ?_; (iterate 5 refine At.v rfl rfl rfl rfl rfl trivial ?_); refine At.regionEnd (At.seq (At.region ?_)); refine At.cq rfl rfl rfl rfl rfl rfl rfl rfl (s49 L _) ?_; refine At.q rfl rfl rfl rfl (q_build rfl rfl rfl) ?_; refine At.cq rfl rfl rfl rfl rfl rfl rfl rfl (s49 L _) ?_; refine At.q rfl rfl rfl rfl (q_build rfl rfl rfl) ?_; refine At.al rfl rfl rfl rfl rfl fun r22 => ?_; refine At.al rfl rfl rfl rfl rfl fun r23 => ?_
  refine At.st 1 rfl rfl rfl rfl rfl rfl rfl rfl rfl rfl rfl rfl ?_; refine At.st 0 rfl rfl rfl rfl rfl rfl rfl rfl rfl rfl rfl rfl ?_; refine At.regionEnd (At.seq (At.region ?_)); refine At.ld 10 rfl rfl rfl rfl rfl rfl rfl rfl rfl ?_; refine At.ld 1 rfl rfl rfl rfl rfl rfl rfl rfl rfl ?_; refine At.ld 0 rfl rfl rfl rfl rfl rfl rfl rfl rfl ?_; refine At.cl rfl rfl rfl rfl rfl rfl rfl rfl (x32 L _ (hO.a.opn)) ?_
  rintro _ _ ⟨s8, ⟨a8, c8, rfl, hs8⟩, rfl⟩
  obtain ⟨_, hr8, _⟩ := hs8.rd
  refine At.rot 12 rfl ?_; (iterate 5 refine At.v rfl rfl rfl rfl rfl trivial ?_); refine At.regionEnd (At.seq (At.region ?_)); refine At.ld 10 rfl rfl rfl rfl rfl rfl rfl rfl rfl ?_; refine At.ld 1 rfl rfl rfl rfl rfl rfl rfl rfl rfl ?_; refine At.ld 0 rfl rfl rfl rfl rfl rfl rfl rfl rfl ?_; refine At.cq rfl rfl rfl rfl rfl rfl rfl rfl (x34 L _ (hO.a.opn)) ?_; (iterate 4 refine At.v rfl rfl rfl rfl rfl trivial ?_); refine At.al rfl rfl rfl rfl rfl fun r27 => ?_
  refine At.v rfl rfl rfl rfl rfl trivial ?_; refine At.st 0 rfl rfl rfl rfl rfl rfl rfl rfl rfl rfl rfl rfl ?_; refine At.v rfl rfl rfl rfl rfl trivial ?_; refine At.regionEnd (At.seq ?_); refine At.draw hmix (_) sb ?_; refine Pool.ld 11 0 rfl rfl rfl rfl rfl rfl rfl rfl rfl rfl rfl ?_; refine Pool.cq 1 rfl rfl rfl rfl rfl rfl rfl rfl rfl (fun H hs => s49 L H) ?_; refine Pool.cl 2 rfl rfl rfl rfl rfl rfl rfl rfl rfl rfl rfl rfl rfl rfl (fun H_ hs_ => x36 L H_ (hO.a.opn)) sb ?_
  rintro _ s9 ⟨a9, c9, rfl, hs9⟩
  obtain ⟨_, hr9, _⟩ := hs9.rd
  refine Pool.v 3 rfl rfl rfl rfl rfl rfl rfl trivial ?_; refine Pool.v 4 rfl rfl rfl rfl rfl rfl rfl trivial ?_; refine Pool.v 5 rfl rfl rfl rfl rfl rfl rfl trivial ?_; refine Pool.v 6 rfl rfl rfl rfl rfl rfl rfl trivial ?_; refine Pool.v 7 rfl rfl rfl rfl rfl rfl rfl trivial ?_; refine pool_done rfl rfl ?_; refine At.regionEnd (At.seq (At.region ?_)); refine At.rot 13 rfl ?_; refine At.ld 11 rfl rfl rfl rfl rfl rfl rfl rfl rfl ?_
  refine At.cl rfl rfl rfl rfl rfl rfl rfl rfl (x51 L _ (hO.a.opn)) ?_
  rintro _ _ ⟨s10, ⟨a10, c10, rfl, hs10⟩, rfl⟩
  obtain ⟨_, hr10, _⟩ := hs10.rd
  refine At.rot 13 rfl ?_; (iterate 5 refine At.v rfl rfl rfl rfl rfl trivial ?_); refine At.regionEnd (At.seq (At.seq (At.region ?_))); refine At.v rfl rfl rfl rfl rfl trivial ?_; refine At.cp rfl rfl rfl rfl rfl fun b115 h115 => ?_; refine At.v rfl rfl rfl rfl rfl trivial ?_
  obtain rfl : b115 = false := h115.symm.trans (by kernel_rfl)
  refine At.v rfl rfl rfl rfl rfl trivial ?_; refine At.cp rfl rfl rfl rfl rfl fun b118 h118 => ?_; (iterate 2 refine At.v rfl rfl rfl rfl rfl trivial ?_)
  obtain rfl : b118 = false := h118.symm.trans (by kernel_rfl)
  refine At.v rfl rfl rfl rfl rfl trivial ?_; refine At.cp rfl rfl rfl rfl rfl fun b122 h122 => ?_; (iterate 2 refine At.v rfl rfl rfl rfl rfl trivial ?_)
  obtain rfl : b122 = false := h122.symm.trans (by kernel_rfl)
  refine At.v rfl rfl rfl rfl rfl trivial ?_; refine At.cp rfl rfl rfl rfl rfl fun b126 h126 => ?_; (iterate 2 refine At.v rfl rfl rfl rfl rfl trivial ?_)
  obtain rfl : b126 = false := h126.symm.trans (by kernel_rfl)
  refine At.v rfl rfl rfl rfl rfl trivial ?_; refine At.cp rfl rfl rfl rfl rfl fun b130 h130 => ?_; (iterate 2 refine At.v rfl rfl rfl rfl rfl trivial ?_)
  obtain rfl : b130 = false := h130.symm.trans (by kernel_rfl)
  refine At.v rfl rfl rfl rfl rfl trivial ?_; refine At.cp rfl rfl rfl rfl rfl fun b134 h134 => ?_; (iterate 2 refine At.v rfl rfl rfl rfl rfl trivial ?_)
  obtain rfl : b134 = false := h134.symm.trans (by kernel_rfl)
  refine At.v rfl rfl rfl rfl rfl trivial ?_; refine At.cp rfl rfl rfl rfl rfl fun b138 h138 => ?_; (iterate 2 refine At.v rfl rfl rfl rfl rfl trivial ?_)
  obtain rfl : b138 = false := h138.symm.trans (by kernel_rfl)
  refine At.v rfl rfl rfl rfl rfl trivial ?_; refine At.cp rfl rfl rfl rfl rfl fun b142 h142 => ?_; (iterate 2 refine At.v rfl rfl rfl rfl rfl trivial ?_)
  obtain rfl : b142 = false := h142.symm.trans (by kernel_rfl)
  refine At.v rfl rfl rfl rfl rfl trivial ?_; refine At.cp rfl rfl rfl rfl rfl fun b146 h146 => ?_; (iterate 2 refine At.v rfl rfl rfl rfl rfl trivial ?_)
  obtain rfl : b146 = false := h146.symm.trans (by kernel_rfl)
  refine At.v rfl rfl rfl rfl rfl trivial ?_; refine At.cp rfl rfl rfl rfl rfl fun b150 h150 => ?_; refine At.v rfl rfl rfl rfl rfl trivial ?_; refine At.regionEnd ?_
  obtain rfl : b150 = false := h150.symm.trans (by kernel_rfl)
  refine At.cond rfl ?_; refine At.skip (At.seq (At.seq ?_)); refine At.drawJ hmix [] rfl ?_; refine Pool.ld 9 0 rfl rfl rfl rfl rfl rfl rfl rfl rfl rfl rfl ?_; refine Pool.cq 1 rfl rfl rfl rfl rfl rfl rfl rfl rfl (fun H hs => s49 L H) ?_; refine Pool.qb 2 rfl rfl rfl rfl rfl (q_neqS rfl rfl rfl rfl rfl rfl rfl rfl) rfl fun b154 h154 => ?_; refine Pool.v 3 rfl rfl rfl rfl rfl rfl rfl trivial ?_
  obtain rfl : b154 = false := h154.symm.trans (by kernel_rfl)
  refine Pool.ld 10 4 rfl rfl rfl rfl rfl rfl rfl rfl rfl rfl rfl ?_; refine Pool.cq 5 rfl rfl rfl rfl rfl rfl rfl rfl rfl (fun H hs => s49 L H) ?_; refine Pool.qb 6 rfl rfl rfl rfl rfl (q_neqS rfl rfl rfl rfl rfl rfl rfl rfl) rfl fun b158 h158 => ?_; refine Pool.v 7 rfl rfl rfl rfl rfl rfl rfl trivial ?_; refine Pool.v 8 rfl rfl rfl rfl rfl rfl rfl trivial ?_
  obtain rfl : b158 = false := h158.symm.trans (by kernel_rfl)
  refine Pool.v 9 rfl rfl rfl rfl rfl rfl rfl trivial ?_; refine Pool.v 10 rfl rfl rfl rfl rfl rfl rfl trivial ?_; refine Pool.v 11 rfl rfl rfl rfl rfl rfl rfl trivial ?_; refine Pool.v 12 rfl rfl rfl rfl rfl rfl rfl trivial ?_; refine Pool.v 13 rfl rfl rfl rfl rfl rfl rfl trivial ?_; refine Pool.v 14 rfl rfl rfl rfl rfl rfl rfl trivial ?_; refine Pool.v 15 rfl rfl rfl rfl rfl rfl rfl trivial ?_; refine Pool.v 16 rfl rfl rfl rfl rfl rfl rfl trivial ?_
  refine Pool.cp 17 rfl rfl rfl rfl rfl rfl rfl fun b169 h169 => ?_; refine Pool.v 18 rfl rfl rfl rfl rfl rfl rfl trivial ?_; refine Pool.v 19 rfl rfl rfl rfl rfl rfl rfl trivial ?_
  obtain rfl : b169 = false := h169.symm.trans (by kernel_rfl)
  refine Pool.ld 6 20 rfl rfl rfl rfl rfl rfl rfl rfl rfl rfl rfl ?_; refine Pool.cq 21 rfl rfl rfl rfl rfl rfl rfl rfl rfl (fun H hs => s49 L H) ?_; refine Pool.qb 22 rfl rfl rfl rfl rfl (q_neqS rfl rfl rfl rfl rfl rfl rfl rfl) rfl fun b174 h174 => ?_; refine Pool.v 23 rfl rfl rfl rfl rfl rfl rfl trivial ?_; refine Pool.v 24 rfl rfl rfl rfl rfl rfl rfl trivial ?_
  obtain rfl : b174 = false := h174.symm.trans (by kernel_rfl)
  refine Pool.v 25 rfl rfl rfl rfl rfl rfl rfl trivial ?_; refine Pool.v 26 rfl rfl rfl rfl rfl rfl rfl trivial ?_; refine Pool.v 27 rfl rfl rfl rfl rfl rfl rfl trivial ?_; refine Pool.v 28 rfl rfl rfl rfl rfl rfl rfl trivial ?_; refine Pool.v 29 rfl rfl rfl rfl rfl rfl rfl trivial ?_; refine Pool.cp 30 rfl rfl rfl rfl rfl rfl rfl fun b182 h182 => ?_; refine Pool.v 31 rfl rfl rfl rfl rfl rfl rfl trivial ?_; refine Pool.v 32 rfl rfl rfl rfl rfl rfl rfl trivial ?_
  obtain rfl : b182 = false := h182.symm.trans (by kernel_rfl)
  refine Pool.ld 5 33 rfl rfl rfl rfl rfl rfl rfl rfl rfl rfl rfl ?_; refine Pool.cq 34 rfl rfl rfl rfl rfl rfl rfl rfl rfl (fun H hs => s49 L H) ?_; refine Pool.qb 35 rfl rfl rfl rfl rfl (q_neqS rfl rfl rfl rfl rfl rfl rfl rfl) rfl fun b187 h187 => ?_; refine Pool.v 36 rfl rfl rfl rfl rfl rfl rfl trivial ?_; refine Pool.v 37 rfl rfl rfl rfl rfl rfl rfl trivial ?_
  obtain rfl : b187 = false := h187.symm.trans (by kernel_rfl)
  refine Pool.v 38 rfl rfl rfl rfl rfl rfl rfl trivial ?_; refine Pool.v 39 rfl rfl rfl rfl rfl rfl rfl trivial ?_; refine Pool.v 40 rfl rfl rfl rfl rfl rfl rfl trivial ?_; refine Pool.v 41 rfl rfl rfl rfl rfl rfl rfl trivial ?_; refine Pool.v 42 rfl rfl rfl rfl rfl rfl rfl trivial ?_; refine Pool.bs 43 rfl rfl rfl rfl rfl rfl rfl rfl rfl rfl rfl rfl rfl rfl rfl sb fun r195 => ?_
  refine Pool.cl 44 rfl rfl rfl rfl rfl rfl rfl rfl rfl rfl rfl rfl rfl rfl (fun H_ hs_ => ((s87 L H_ (xs := [2]) (ys := [2]) rfl rfl (hr6.a) ((rd_own 0 rfl rfl).more hs_) (by decide)).eq (w := .bool true) (by kernel_rfl)).grows) sb ?_
  rintro _ _ ⟨rfl, rfl⟩
  refine Pool.v 45 rfl rfl rfl rfl rfl rfl rfl trivial ?_; refine Pool.v 46 rfl rfl rfl rfl rfl rfl rfl trivial ?_; refine Pool.v 47 rfl rfl rfl rfl rfl rfl rfl trivial ?_; refine Pool.v 48 rfl rfl rfl rfl rfl rfl rfl trivial ?_; refine Pool.ln 49 rfl rfl rfl rfl rfl rfl rfl rfl rfl rfl ?_; refine Pool.cp 50 rfl rfl rfl rfl rfl rfl rfl fun b202 h202 => ?_; refine Pool.v 51 rfl rfl rfl rfl rfl rfl rfl trivial ?_; refine Pool.v 52 rfl rfl rfl rfl rfl rfl rfl trivial ?_
  obtain rfl : b202 = false := h202.symm.trans (by kernel_rfl)
  refine Pool.v 53 rfl rfl rfl rfl rfl rfl rfl trivial ?_; refine Pool.bs 54 rfl rfl rfl rfl rfl rfl rfl rfl rfl rfl rfl rfl rfl rfl rfl sb fun r206 => ?_; refine Pool.cl 55 rfl rfl rfl rfl rfl rfl rfl rfl rfl rfl rfl rfl rfl rfl (fun H_ hs_ => ((s87 L H_ (xs := [12, 13, 14, 15, 16, 17]) (ys := [12, 13, 14, 15, 16, 17]) rfl rfl (hr9.a) ((rd_own 0 rfl rfl).more hs_) (by decide)).eq (w := .bool true) (by kernel_rfl)).grows) sb ?_
  rintro _ _ ⟨rfl, rfl⟩
  refine Pool.v 56 rfl rfl rfl rfl rfl rfl rfl trivial ?_; refine Pool.v 57 rfl rfl rfl rfl rfl rfl rfl trivial ?_; refine Pool.v 58 rfl rfl rfl rfl rfl rfl rfl trivial ?_; refine Pool.v 59 rfl rfl rfl rfl rfl rfl rfl trivial ?_; refine Pool.bs 60 rfl rfl rfl rfl rfl rfl rfl rfl rfl rfl rfl rfl rfl rfl rfl sb fun r212 => ?_
  refine Pool.cl 61 rfl rfl rfl rfl rfl rfl rfl rfl rfl rfl rfl rfl rfl rfl (fun H_ hs_ => ((s87 L H_ (xs := [14, 15, 16]) (ys := [14, 15, 16]) rfl rfl (hr10.a) ((rd_own 0 rfl rfl).more hs_) (by decide)).eq (w := .bool true) (by kernel_rfl)).grows) sb ?_
  rintro _ _ ⟨rfl, rfl⟩
  refine Pool.v 62 rfl rfl rfl rfl rfl rfl rfl trivial ?_; refine Pool.v 63 rfl rfl rfl rfl rfl rfl rfl trivial ?_; refine pool_done rfl rfl ?_; refine At.regionEnd ?_; refine At.cond rfl ?_; refine At.skip (At.seq (At.seq ?_)); refine At.drawJ hmix [] rfl ?_; refine Pool.v 0 rfl rfl rfl rfl rfl rfl rfl trivial ?_; refine Pool.cq 1 rfl rfl rfl rfl rfl rfl rfl rfl rfl (fun H hs => s49 L H) ?_; refine Pool.cq 2 rfl rfl rfl rfl rfl rfl rfl rfl rfl (fun H hs => s49 L H) ?_
  refine Pool.cq 3 rfl rfl rfl rfl rfl rfl rfl rfl rfl (fun H hs => s49 L H) ?_; refine Pool.cq 4 rfl rfl rfl rfl rfl rfl rfl rfl rfl (fun H hs => s49 L H) ?_; refine Pool.cq 5 rfl rfl rfl rfl rfl rfl rfl rfl rfl (fun H hs => s49 L H) ?_; refine Pool.bs 6 rfl rfl rfl rfl rfl rfl rfl rfl rfl rfl rfl rfl rfl rfl rfl sb fun r222 => ?_
  refine Pool.cl 7 rfl rfl rfl rfl rfl rfl rfl rfl rfl rfl rfl rfl rfl rfl (fun H_ hs_ => ((s38 L H_ (xs := exTh) (ys := exTh) rfl rfl (hr8.a) ((rd_own 0 rfl rfl).more hs_) (by decide)).eq (w := .bool true) (by kernel_rfl)).grows) sb ?_
  rintro _ _ ⟨rfl, rfl⟩
  refine Pool.v 8 rfl rfl rfl rfl rfl rfl rfl trivial ?_; refine Pool.v 9 rfl rfl rfl rfl rfl rfl rfl trivial ?_; refine Pool.v 10 rfl rfl rfl rfl rfl rfl rfl trivial ?_; refine Pool.cp 11 rfl rfl rfl rfl rfl rfl rfl fun b227 h227 => ?_; refine Pool.v 12 rfl rfl rfl rfl rfl rfl rfl trivial ?_; refine Pool.v 13 rfl rfl rfl rfl rfl rfl rfl trivial ?_
  obtain rfl : b227 = false := h227.symm.trans (by kernel_rfl)
  refine Pool.ld 3 14 rfl rfl rfl rfl rfl rfl rfl rfl rfl rfl rfl ?_; refine Pool.cq 15 rfl rfl rfl rfl rfl rfl rfl rfl rfl (fun H hs => s49 L H) ?_; refine Pool.qb 16 rfl rfl rfl rfl rfl (q_neqS rfl rfl rfl rfl rfl rfl rfl rfl) rfl fun b232 h232 => ?_; refine Pool.v 17 rfl rfl rfl rfl rfl rfl rfl trivial ?_; refine pool_done rfl rfl ?_; refine At.regionEnd ?_
  obtain rfl : b232 = false := h232.symm.trans (by kernel_rfl)
  refine At.cond rfl ?_; refine At.skip (At.seq ?_)
  refine At.weakH (H' := .own r1 (.cells (List.toArray (bkC exC (exA rc 4))) 27 (0, 0)) :: .seg rc 0 (exC.prof.flatMap c2) :: H) ?_ (by repeat (first | exact Sub.refl _ | exact Sub.pre _ _ | apply Sub.cons | apply Sub.drop | apply Sub.appL | apply Sub.dropL))
  refine At.draw hmix (_) sb ?_; refine Pool.ld 0 0 rfl rfl rfl rfl rfl rfl rfl rfl rfl rfl rfl ?_; refine Pool.cq 1 rfl rfl rfl rfl rfl rfl rfl rfl rfl (fun H hs => s49 L H) ?_
  subst hL
  refine Pool.cl 2 rfl rfl rfl rfl rfl rfl rfl rfl rfl rfl rfl rfl rfl rfl (fun H_ hs_ => x52a (H := H_) (hO.a)) sb ?_
  rintro _ s11 ⟨a11, c11, rfl, hs11⟩
  obtain ⟨_, hr11, _⟩ := hs11.rd
  generalize hL : mainLg Tryz.prog Post W₀ [] [] = L at hc ⊢
  refine Pool.v 3 rfl rfl rfl rfl rfl rfl rfl trivial ?_; refine Pool.v 4 rfl rfl rfl rfl rfl rfl rfl trivial ?_; refine Pool.v 5 rfl rfl rfl rfl rfl rfl rfl trivial ?_; refine Pool.v 6 rfl rfl rfl rfl rfl rfl rfl trivial ?_; refine Pool.v 7 rfl rfl rfl rfl rfl rfl rfl trivial ?_; refine Pool.v 8 rfl rfl rfl rfl rfl rfl rfl trivial ?_; refine Pool.v 9 rfl rfl rfl rfl rfl rfl rfl trivial ?_; refine pool_done rfl rfl ?_; refine At.regionEnd (At.seq ?_); refine At.rot 2 rfl ?_
  skip
  refine At.draw hmix (_) sb ?_; refine Pool.ld 0 0 rfl rfl rfl rfl rfl rfl rfl rfl rfl rfl rfl ?_; refine Pool.cq 1 rfl rfl rfl rfl rfl rfl rfl rfl rfl (fun H hs => s49 L H) ?_
  subst hL
  refine Pool.cl 2 rfl rfl rfl rfl rfl rfl rfl rfl rfl rfl rfl rfl rfl rfl (fun H_ hs_ => x52b (H := H_) (hO.a)) sb ?_
  rintro _ s12 ⟨a12, c12, rfl, hs12⟩
  generalize hL : mainLg Tryz.prog Post W₀ [] [] = L at hc ⊢
  have stopDraw := trivial
  refine Pool.v 3 rfl rfl rfl rfl rfl rfl rfl trivial ?_; refine Pool.v 4 rfl rfl rfl rfl rfl rfl rfl trivial ?_; refine Pool.v 5 rfl rfl rfl rfl rfl rfl rfl trivial ?_; refine Pool.v 6 rfl rfl rfl rfl rfl rfl rfl trivial ?_; refine Pool.v 7 rfl rfl rfl rfl rfl rfl rfl trivial ?_; refine Pool.v 8 rfl rfl rfl rfl rfl rfl rfl trivial ?_; refine Pool.v 9 rfl rfl rfl rfl rfl rfl rfl trivial ?_; refine pool_done rfl rfl ?_; refine At.regionEnd (At.seq ?_)
  clear stopDraw
  refine At.rot 2 rfl ?_; refine At.drawJ hmix [] rfl ?_; refine Pool.ld 0 0 rfl rfl rfl rfl rfl rfl rfl rfl rfl rfl rfl ?_; refine Pool.cq 1 rfl rfl rfl rfl rfl rfl rfl rfl rfl (fun H hs => s49 L H) ?_
  subst hL
  refine Pool.cq 2 rfl rfl rfl rfl rfl rfl rfl rfl rfl (fun H_ hs_ => x66 (H := H_) (hO.a)) ?_
  generalize hL : mainLg Tryz.prog Post W₀ [] [] = L at hc ⊢
  refine Pool.v 3 rfl rfl rfl rfl rfl rfl rfl trivial ?_; refine Pool.v 4 rfl rfl rfl rfl rfl rfl rfl trivial ?_; refine Pool.v 5 rfl rfl rfl rfl rfl rfl rfl trivial ?_; refine Pool.v 6 rfl rfl rfl rfl rfl rfl rfl trivial ?_; refine Pool.v 7 rfl rfl rfl rfl rfl rfl rfl trivial ?_; refine pool_done rfl rfl ?_; refine At.regionEnd (At.seq ?_); refine At.drawJ hmix [] rfl ?_; refine Pool.ld 0 0 rfl rfl rfl rfl rfl rfl rfl rfl rfl rfl rfl ?_
  refine Pool.cq 1 rfl rfl rfl rfl rfl rfl rfl rfl rfl (fun H hs => s49 L H) ?_; refine Pool.cq 2 rfl rfl rfl rfl rfl rfl rfl rfl rfl (fun H hs => s49 L H) ?_; refine Pool.fl 8 rfl rfl rfl rfl rfl rfl rfl rfl rfl rfl ?_; refine Pool.bs 3 rfl rfl rfl rfl rfl rfl rfl rfl rfl rfl rfl rfl rfl rfl rfl sb fun r258 => ?_
  subst hL
  refine Pool.cl 4 rfl rfl rfl rfl rfl rfl rfl rfl rfl rfl rfl rfl rfl rfl (fun H_ hs_ => (x58 (H := H_) (hO.a) ((rd_own 0 rfl rfl).more hs_)).grows) sb ?_
  rintro _ _ ⟨rfl, rfl⟩
  generalize hL : mainLg Tryz.prog Post W₀ [] [] = L at hc ⊢
  refine Pool.v 5 rfl rfl rfl rfl rfl rfl rfl trivial ?_; refine Pool.v 6 rfl rfl rfl rfl rfl rfl rfl trivial ?_; refine Pool.v 7 rfl rfl rfl rfl rfl rfl rfl trivial ?_; refine Pool.v 10 rfl rfl rfl rfl rfl rfl rfl trivial ?_; refine pool_take rfl rfl rfl fun rf8 => ?_; refine Pool.st 0 9 rfl rfl rfl rfl rfl rfl rfl rfl rfl rfl rfl rfl rfl rfl rfl rfl rfl rfl sb ?_; refine pool_done rfl rfl ?_; refine At.regionEnd (At.seq ?_); refine At.drawJ hmix [] rfl ?_
  refine Pool.ld 2 0 rfl rfl rfl rfl rfl rfl rfl rfl rfl rfl rfl ?_; refine Pool.cq 1 rfl rfl rfl rfl rfl rfl rfl rfl rfl (fun H hs => s49 L H) ?_; refine Pool.cq 2 rfl rfl rfl rfl rfl rfl rfl rfl rfl (fun H hs => s49 L H) ?_; refine Pool.cq 3 rfl rfl rfl rfl rfl rfl rfl rfl rfl (fun H hs => s49 L H) ?_; refine Pool.bs 4 rfl rfl rfl rfl rfl rfl rfl rfl rfl rfl rfl rfl rfl rfl rfl sb fun r267 => ?_
  subst hL
  refine Pool.cl 5 rfl rfl rfl rfl rfl rfl rfl rfl rfl rfl rfl rfl rfl rfl (fun H_ hs_ => (x63 (H := H_) (hO.a) ((rd_own 0 rfl rfl).more hs_)).grows) sb ?_
  rintro _ _ ⟨rfl, rfl⟩
  generalize hL : mainLg Tryz.prog Post W₀ [] [] = L at hc ⊢
  refine Pool.v 6 rfl rfl rfl rfl rfl rfl rfl trivial ?_; refine Pool.v 7 rfl rfl rfl rfl rfl rfl rfl trivial ?_; refine Pool.v 8 rfl rfl rfl rfl rfl rfl rfl trivial ?_; refine Pool.v 9 rfl rfl rfl rfl rfl rfl rfl trivial ?_; refine Pool.v 10 rfl rfl rfl rfl rfl rfl rfl trivial ?_; refine Pool.v 11 rfl rfl rfl rfl rfl rfl rfl trivial ?_; refine Pool.v 12 rfl rfl rfl rfl rfl rfl rfl trivial ?_; refine pool_done rfl rfl ?_; refine At.regionEnd (At.seq ?_)
  refine At.weakH (H' := .own rf8 (.cells (List.toArray (c2 (2, 4))) 24 (0, 0)) :: .own r1 (.cells (List.toArray (bkC exC (exA rc 4))) 27 (0, 0)) :: .seg rc 0 (exC.prof.flatMap c2) :: (s11 ++ H)) ?_ (by repeat (first | exact Sub.refl _ | exact Sub.pre _ _ | apply Sub.cons | apply Sub.drop | apply Sub.appL | apply Sub.dropL))
  refine At.draw hmix (_) sb ?_; refine Pool.ld 1 0 rfl rfl rfl rfl rfl rfl rfl rfl rfl rfl rfl ?_; refine Pool.cq 1 rfl rfl rfl rfl rfl rfl rfl rfl rfl (fun H hs => s49 L H) ?_; refine Pool.q 2 rfl rfl rfl rfl rfl (q_build rfl rfl rfl) rfl ?_; refine Pool.fl 7 rfl rfl rfl rfl rfl rfl rfl rfl rfl rfl ?_; refine Pool.cl 3 rfl rfl rfl rfl rfl rfl rfl rfl rfl rfl rfl rfl rfl rfl (fun H_ hs_ => x65a L H_ (hO.a.opn)) sb ?_
  rintro _ s13 ⟨A3, rfl, hbo⟩
  have hO3 : Opn (s13 ++ H) exM1 A3 := ⟨hG.g.a (hG.sub.trans (Sub.append_left _ _)), hbo.r.a, by decide, by decide⟩
  refine Pool.v 4 rfl rfl rfl rfl rfl rfl rfl trivial ?_; refine Pool.v 5 rfl rfl rfl rfl rfl rfl rfl trivial ?_; refine Pool.v 6 rfl rfl rfl rfl rfl rfl rfl trivial ?_; refine Pool.v 9 rfl rfl rfl rfl rfl rfl rfl trivial ?_; refine pool_take rfl rfl rfl fun rf7 => ?_; refine Pool.st 0 8 rfl rfl rfl rfl rfl rfl rfl rfl rfl rfl rfl rfl rfl rfl rfl rfl rfl rfl sb ?_; refine pool_done rfl rfl ?_; refine At.regionEnd (At.seq (At.region ?_)); refine At.ld 0 rfl rfl rfl rfl rfl rfl rfl rfl rfl ?_
  refine At.cl rfl rfl rfl rfl rfl rfl rfl rfl (x51b L _ (hO3.a)) ?_
  rintro _ _ ⟨s14, ⟨a14, c14, rfl, hs14⟩, rfl⟩
  obtain ⟨_, hr14, _⟩ := hs14.rd
  refine At.weakH (H' := .own rf8 (.cells (List.toArray (c2 (2, 4))) 24 (0, 0)) :: .own r1 (.cells (List.toArray (bkC exC (exA rc 4))) 27 (0, 0)) :: .seg rc 0 (exC.prof.flatMap c2) :: (s14 ++ (s11 ++ H))) ?_ ((Sub.of_perm (List.perm_append_comm_assoc [.own rf8 (.cells (List.toArray (c2 (2, 4))) 24 (0, 0)), .own r1 (.cells (List.toArray (bkC exC (exA rc 4))) 27 (0, 0)), .seg rc 0 (exC.prof.flatMap c2)] s14 (s11 ++ H))).trans ((((Sub.refl _).dropL s13).drop _).appL s14))
  (iterate 5 refine At.v rfl rfl rfl rfl rfl trivial ?_); refine At.regionEnd (At.seq ?_); refine At.draw hmix (_) sb ?_; refine Pool.ld 1 0 rfl rfl rfl rfl rfl rfl rfl rfl rfl rfl rfl ?_; refine Pool.cq 1 rfl rfl rfl rfl rfl rfl rfl rfl rfl (fun H hs => s49 L H) ?_; refine Pool.q 2 rfl rfl rfl rfl rfl (q_build rfl rfl rfl) rfl ?_; refine Pool.cl 3 rfl rfl rfl rfl rfl rfl rfl rfl rfl rfl rfl rfl rfl rfl (fun H_ hs_ => x65b L H_ (hO.a.opn)) sb ?_
  rintro _ s15 rfl
  refine Pool.v 4 rfl rfl rfl rfl rfl rfl rfl trivial ?_; refine Pool.v 5 rfl rfl rfl rfl rfl rfl rfl trivial ?_; refine Pool.v 6 rfl rfl rfl rfl rfl rfl rfl trivial ?_; refine Pool.v 7 rfl rfl rfl rfl rfl rfl rfl trivial ?_; refine pool_done rfl rfl ?_; refine At.regionEnd (At.seq ?_)
  have stopDraw := trivial
  skip
  clear stopDraw
  refine At.rot 3 rfl ?_
  skip
  refine At.draw hmix (_) sb ?_; refine Pool.ld 1 0 rfl rfl rfl rfl rfl rfl rfl rfl rfl rfl rfl ?_; refine Pool.cq 1 rfl rfl rfl rfl rfl rfl rfl rfl rfl (fun H hs => s49 L H) ?_; refine Pool.q 2 rfl rfl rfl rfl rfl (q_build rfl rfl rfl) rfl ?_; refine Pool.cq 4 rfl rfl rfl rfl rfl rfl rfl rfl rfl (fun H hs => s49 L H) ?_; refine Pool.q 5 rfl rfl rfl rfl rfl (q_build rfl rfl rfl) rfl ?_; refine Pool.cq 7 rfl rfl rfl rfl rfl rfl rfl rfl rfl (fun H hs => s49 L H) ?_
  refine Pool.q 8 rfl rfl rfl rfl rfl (q_build rfl rfl rfl) rfl ?_; refine Pool.cl 3 rfl rfl rfl rfl rfl rfl rfl rfl rfl rfl rfl rfl rfl rfl (fun H_ hs_ => s81 L H_ (B := exC) (A := exA rc 4) (m := ((0, 1), 2)) (.inl rfl) (by decide)) sb ?_
  rintro _ s16 ⟨a16, c16, rfl, hs16⟩
  obtain ⟨_, hr16, _⟩ := hs16.rd
  skip
  refine Pool.cl 6 rfl rfl rfl rfl rfl rfl rfl rfl rfl rfl rfl rfl rfl rfl (fun H_ hs_ => s81 L H_ (B := markedM exC ((0, 1), 2)) (A := ⟨(exA rc 4).pa, (exA rc 4).pc, a16, c16⟩) (m := ((1, 2), 3)) (hr16.a) (by decide)) sb ?_
  rintro _ s17 ⟨a17, c17, rfl, hs17⟩
  obtain ⟨_, hr17, _⟩ := hs17.rd
  skip
  refine Pool.cl 9 rfl rfl rfl rfl rfl rfl rfl rfl rfl rfl rfl rfl rfl rfl (fun H_ hs_ => s81 L H_ (B := markedM (markedM exC ((0, 1), 2)) ((1, 2), 3)) (A := ⟨(exA rc 4).pa, (exA rc 4).pc, a17, c17⟩) (m := ((1, 1), 6)) (hr17.a) (by decide)) sb ?_
  rintro _ s18 ⟨a18, c18, rfl, hs18⟩
  obtain ⟨_, hr18, _⟩ := hs18.rd
  skip
  refine Pool.cl 10 rfl rfl rfl rfl rfl rfl rfl rfl rfl rfl rfl rfl rfl rfl (fun H_ hs_ => x59 L H_ (A := ⟨(exA rc 4).pa, (exA rc 4).pc, a18, c18⟩) ⟨hO.a.opn.g, ⟨hO.a.opn.r.p, hr18.a⟩, by decide, by decide⟩) sb ?_
  rintro _ s19 ⟨a19, c19, rfl, hr19⟩
  refine Pool.v 11 rfl rfl rfl rfl rfl rfl rfl trivial ?_; refine Pool.v 12 rfl rfl rfl rfl rfl rfl rfl trivial ?_; refine Pool.v 13 rfl rfl rfl rfl rfl rfl rfl trivial ?_; refine Pool.v 14 rfl rfl rfl rfl rfl rfl rfl trivial ?_; refine Pool.v 15 rfl rfl rfl rfl rfl rfl rfl trivial ?_; refine pool_done rfl rfl ?_; refine At.regionEnd (At.seq (At.region ?_)); refine At.v rfl rfl rfl rfl rfl trivial ?_; refine At.cp rfl rfl rfl rfl rfl fun b306 h306 => ?_; refine At.v rfl rfl rfl rfl rfl trivial ?_
  refine At.weakH (H' := .own rf8 (.cells (List.toArray (c2 (2, 4))) 24 (0, 0)) :: (s19 ++ (s14 ++ (s11 ++ H)))) ?_ ((Sub.of_perm List.perm_middle.symm).trans (((((((((Sub.refl (s14 ++ (s11 ++ H))).dropL s15).drop _).drop _).cons _).dropL s16).dropL s17).dropL s18).appL s19))
  have e306 : b306 = true := h306.symm.trans (by kernel_rfl)
  subst e306
  refine At.v rfl rfl rfl rfl rfl trivial ?_; refine At.cp rfl rfl rfl rfl rfl fun b309 h309 => ?_; (iterate 2 refine At.v rfl rfl rfl rfl rfl trivial ?_)
  obtain rfl : b309 = true := h309.symm.trans (by kernel_rfl)
  refine At.v rfl rfl rfl rfl rfl trivial ?_; refine At.cp rfl rfl rfl rfl rfl fun b313 h313 => ?_; (iterate 2 refine At.v rfl rfl rfl rfl rfl trivial ?_)
  obtain rfl : b313 = true := h313.symm.trans (by kernel_rfl)
  refine At.v rfl rfl rfl rfl rfl trivial ?_; refine At.cp rfl rfl rfl rfl rfl fun b317 h317 => ?_; (iterate 2 refine At.v rfl rfl rfl rfl rfl trivial ?_)
  obtain rfl : b317 = true := h317.symm.trans (by kernel_rfl)
  refine At.v rfl rfl rfl rfl rfl trivial ?_; refine At.cp rfl rfl rfl rfl rfl fun b321 h321 => ?_; (iterate 2 refine At.v rfl rfl rfl rfl rfl trivial ?_)
  obtain rfl : b321 = true := h321.symm.trans (by kernel_rfl)
  refine At.v rfl rfl rfl rfl rfl trivial ?_; refine At.cp rfl rfl rfl rfl rfl fun b325 h325 => ?_; (iterate 2 refine At.v rfl rfl rfl rfl rfl trivial ?_)
  obtain rfl : b325 = true := h325.symm.trans (by kernel_rfl)
  refine At.v rfl rfl rfl rfl rfl trivial ?_; refine At.cp rfl rfl rfl rfl rfl fun b329 h329 => ?_; (iterate 2 refine At.v rfl rfl rfl rfl rfl trivial ?_)
  obtain rfl : b329 = true := h329.symm.trans (by kernel_rfl)
  refine At.v rfl rfl rfl rfl rfl trivial ?_; refine At.cp rfl rfl rfl rfl rfl fun b333 h333 => ?_; (iterate 2 refine At.v rfl rfl rfl rfl rfl trivial ?_)
  obtain rfl : b333 = true := h333.symm.trans (by kernel_rfl)
  refine At.v rfl rfl rfl rfl rfl trivial ?_; refine At.cp rfl rfl rfl rfl rfl fun b337 h337 => ?_; (iterate 2 refine At.v rfl rfl rfl rfl rfl trivial ?_)
  obtain rfl : b337 = true := h337.symm.trans (by kernel_rfl)
  refine At.v rfl rfl rfl rfl rfl trivial ?_
  (refine At.l rfl rfl rfl rfl (l_buildSlice rfl rfl rfl rfl rfl) ?_; rintro _ _ ⟨r341, rfl, rfl⟩)
  refine At.cl rfl rfl rfl rfl rfl rfl rfl rfl (((s87 L _ (xs := [3, 4]) (ys := [3, 4]) rfl rfl (hr11.a) (rd_own 0 rfl rfl) (by decide)).eq (w := .bool true) (by kernel_rfl))) ?_
  rintro _ _ ⟨rfl, rfl⟩
  (iterate 3 refine At.v rfl rfl rfl rfl rfl trivial ?_); refine At.cp rfl rfl rfl rfl rfl fun b346 h346 => ?_; (iterate 2 refine At.v rfl rfl rfl rfl rfl trivial ?_)
  obtain rfl : b346 = true := h346.symm.trans (by kernel_rfl)
  refine At.v rfl rfl rfl rfl rfl trivial ?_; refine At.cp rfl rfl rfl rfl rfl fun b350 h350 => ?_; (iterate 2 refine At.v rfl rfl rfl rfl rfl trivial ?_)
  obtain rfl : b350 = true := h350.symm.trans (by kernel_rfl)
  refine At.v rfl rfl rfl rfl rfl trivial ?_; refine At.cp rfl rfl rfl rfl rfl fun b354 h354 => ?_; (iterate 2 refine At.v rfl rfl rfl rfl rfl trivial ?_)
  obtain rfl : b354 = true := h354.symm.trans (by kernel_rfl)
  refine At.ld 1 rfl rfl rfl rfl rfl rfl rfl rfl rfl ?_; refine At.q rfl rfl rfl rfl (q_build rfl rfl rfl) ?_; refine At.qb rfl rfl rfl rfl (q_eqS rfl rfl rfl rfl rfl rfl rfl rfl) fun b359 h359 => ?_; (iterate 2 refine At.v rfl rfl rfl rfl rfl trivial ?_)
  obtain rfl : b359 = true := h359.symm.trans (by kernel_rfl)
  refine At.v rfl rfl rfl rfl rfl trivial ?_; refine At.cp rfl rfl rfl rfl rfl fun b363 h363 => ?_; (iterate 2 refine At.v rfl rfl rfl rfl rfl trivial ?_)
  obtain rfl : b363 = true := h363.symm.trans (by kernel_rfl)
  refine At.v rfl rfl rfl rfl rfl trivial ?_; refine At.cp rfl rfl rfl rfl rfl fun b367 h367 => ?_; (iterate 2 refine At.v rfl rfl rfl rfl rfl trivial ?_)
  obtain rfl : b367 = true := h367.symm.trans (by kernel_rfl)
  refine At.v rfl rfl rfl rfl rfl trivial ?_
  (refine At.l rfl rfl rfl rfl (l_buildSlice rfl rfl rfl rfl rfl) ?_; rintro _ _ ⟨r371, rfl, rfl⟩)
  refine At.cl rfl rfl rfl rfl rfl rfl rfl rfl (((s87 L _ (xs := [14, 15]) (ys := [14, 15]) rfl rfl (hr14.a) (rd_own 0 rfl rfl) (by decide)).eq (w := .bool true) (by kernel_rfl))) ?_
  rintro _ _ ⟨rfl, rfl⟩
  (iterate 3 refine At.v rfl rfl rfl rfl rfl trivial ?_)
  (refine At.l rfl rfl rfl rfl (l_buildSlice rfl rfl rfl rfl rfl) ?_; rintro _ _ ⟨r376, rfl, rfl⟩)
  refine At.cl rfl rfl rfl rfl rfl rfl rfl rfl (((s87 L _ (xs := [1, 2]) (ys := [1, 2]) rfl rfl (hr19.a) (rd_own 0 rfl rfl) (by decide)).eq (w := .bool true) (by kernel_rfl))) ?_
  rintro _ _ ⟨rfl, rfl⟩
  (iterate 2 refine At.v rfl rfl rfl rfl rfl trivial ?_); refine At.regionEnd ?_
  exact At.ret Tryz.func22 (.inr ⟨_, rfl⟩) rfl (.tmp rfl .nil) (wk (hc _ _ (⟨rfl, rfl⟩)))
end Go.Gx
end

section
set_option linter.unusedSimpArgs false
set_option linter.unusedVariables false
namespace Go.Gx
open Go Go.Conc Go.Proofs Go.ChangeShapes Go.RowKit YtokdmiiejfmomaaGreatDoor

/-- Facts that hold and are read only. -/
def Shr (W : World) (H : Facts) : Prop := ∀ f ∈ H, f.isOwn = false ∧ f.Is W
theorem Shr.nil {W : World} : Shr W [] := fun _ h => by cases h
theorem Shr.app {W : World} {H H' : Facts} (h : Shr W H) (h' : Shr W H') : Shr W (H ++ H') := fun f hf => (List.mem_append.1 hf).elim (h f) (h' f)
theorem Shr.holds {W : World} {H : Facts} (h : Shr W H) : Holds H W := by
  refine ⟨?_, fun f hf => (h f hf).2⟩
  induction H with
  | nil => exact List.Pairwise.nil
  | cons f H ih =>
    refine List.Pairwise.cons (fun g hg => ?_) (ih fun f hf => h f (List.mem_cons_of_mem _ hf))
    rintro (e | e)
    · rw [(h f (List.mem_cons_self ..)).1] at e; cases e
    · rw [(h g (List.mem_cons_of_mem _ hg)).1] at e; cases e
theorem seg_of {α : Type} {c : α → List Value} {sz : Nat} (hsz : ∀ y, (c y).length = sz) {W : World} {b : Nat} : ∀ (ys : List α) (off : Nat), (∀ i y, ys[i]? = some y → ∀ j v, (c y)[j]? = some v → W.cell? ⟨b, off + i * sz + j, none⟩ = some v) →
    ∀ k v, (ys.flatMap c)[k]? = some v → W.cell? ⟨b, off + k, none⟩ = some v
  | [], _, _, k, v, h => by simp at h
  | y :: ys, off, hy, k, v, h => by
    rw [List.flatMap_cons] at h
    by_cases hk : k < sz
    · rw [List.getElem?_append_left (by rw [hsz]; exact hk)] at h
      have := hy 0 y rfl k v h
      simpa using this
    · rw [List.getElem?_append_right (by rw [hsz]; omega), hsz] at h
      have := seg_of hsz ys (off + sz) (fun i z hz j w hw => by
        have := hy (i + 1) z (by simpa using hz) j w hw
        rw [Nat.succ_mul] at this
        rw [show off + sz + i * sz + j = off + (i * sz + sz) + j by omega]; exact this) (k - sz) v h
      rwa [show off + sz + (k - sz) = off + k by omega] at this
section
variable {H : Type} {enc : TypeId × Value → H} {W : World} {sp : Nat → Bool} {held : Bool}

theorem addr_none (b off n : Nat) : (⟨b, off, none⟩ : Addr).add n = ⟨b, off + n, none⟩ := by
  unfold Addr.add
  split
  · simp_all
  · rfl
/-- A slice whose elements are read by an encoding. -/
theorem open_sl {t e : TypeId} {α : Type} {c : α → List Value} {sz : Nat} (hsz : ∀ y, (c y).length = sz) (h0 : 0 < sz) (ht : Tryz.prog.underlying t = some (.slice e)) (hc : Tryz.prog.cellsOf e = sz)
    (hel : ∀ n cs x, DataW.trod enc Tryz.prog W 0 sp held n e cs = some x → ∃ y, cs = c y) {fuel : Nat} {v : Value} {x : DataW H × List MemPlace} (h : DataW.trod enc Tryz.prog W 0 sp held fuel t [v] = some x) :
    ∃ (a : Option Addr) (ys : List α) (cap : Nat) (Hs : Facts), v = .slice a ys.length cap ∧ Shr W Hs ∧ Rd Hs a (ys.flatMap c) := by
  rcases DataW.trod_slice ht h with ⟨hv, _⟩ | ⟨a, len, cap, elems, rest, n, _, hcs, _, _, _, _, hlen, hE, _⟩
  · cases hv
    exact ⟨none, [], 0, [], rfl, Shr.nil, .inl rfl⟩
  · cases hcs
    have key : ∀ i : _root_.Fin len, ∃ y, W.cells? 0 (a.add (i.1 * sz)) sz = some (c y) := fun i => by
      have h1 := hE i.1 i.2
      rw [hc, List.getElem?_eq_getElem (by rw [hlen]; exact i.2)] at h1
      obtain ⟨cs, h2, h3⟩ := Option.bind_eq_some_iff.1 h1
      obtain ⟨y, rfl⟩ := hel _ _ _ h3
      exact ⟨y, h2⟩
    obtain ⟨b, off, spot⟩ := a
    have hget : ∀ i y, (List.ofFn fun i => Classical.choose (key i))[i]? = some y → W.cells? 0 ((⟨b, off, spot⟩ : Addr).add (i * sz)) sz = some (c y) := fun i y hy => by
      obtain ⟨hi, e⟩ := List.getElem?_eq_some_iff.1 hy
      rw [List.length_ofFn] at hi
      rw [List.getElem_ofFn] at e
      subst e
      exact Classical.choose_spec (key ⟨i, hi⟩)
    have hlen' : (List.ofFn fun i => Classical.choose (key i)).length = len := List.length_ofFn
    generalize (List.ofFn fun i => Classical.choose (key i)) = ys at hget hlen'
    subst hlen'
    cases ys with
    | nil => exact ⟨some ⟨b, off, spot⟩, [], cap, [], rfl, Shr.nil, .inl rfl⟩
    | cons y0 ys =>
      have hspot : spot = none := by
        obtain ⟨_, _, h3⟩ := World.cells?_some (hget 0 y0 rfl)
        have h4 := h3 0 h0
        rw [List.getElem?_eq_getElem (by rw [hsz]; exact h0)] at h4
        have h5 : ((⟨b, off, spot⟩ : Addr).add (0 * sz)).add 0 = ⟨b, off, spot⟩ := by simp [Addr.add]
        rw [h5] at h4
        simpa using World.cell?_spot h4
      subst hspot
      have hcell : ∀ i y, (y0 :: ys)[i]? = some y → ∀ j v, (c y)[j]? = some v → W.cell? ⟨b, off + i * sz + j, none⟩ = some v := fun i y hy j v hv => by
        obtain ⟨_, _, h3⟩ := World.cells?_some (hget i y hy)
        have hj : j < sz := by
          have := (List.getElem?_eq_some_iff.1 hv).1
          rwa [hsz] at this
        have h4 := h3 j hj
        rw [hv, addr_none, addr_none] at h4
        exact h4
      obtain ⟨v0, hv0⟩ : ∃ v, (c y0)[0]? = some v := ⟨_, List.getElem?_eq_getElem (by rw [hsz]; exact h0)⟩
      have hc0 := hcell 0 y0 rfl 0 v0 hv0
      have hb : b < W.heap.size := by
        rcases Nat.lt_or_ge b W.heap.size with h | h
        · exact h
        · simp [World.cell?, Array.getElem?_eq_none h] at hc0
      refine ⟨some ⟨b, off, none⟩, y0 :: ys, cap, [.seg b off ((y0 :: ys).flatMap c)], rfl, ?_, ?_⟩
      · intro f hf
        rw [List.mem_singleton] at hf
        subst hf
        exact ⟨rfl, hb, seg_of hsz _ _ hcell⟩
      · have := cells_seg (H := [.seg b off ((y0 :: ys).flatMap c)]) (b := b) (off := off) (us := (y0 :: ys).flatMap c) (vs := (y0 :: ys).flatMap c) 0 (by simp) (by rw [List.drop_zero, List.take_length])
        exact rd_cells (by simpa using this)
set_option maxRecDepth 100000 in
theorem two {t : TypeId} {f0 f1 : Field} (ht : Tryz.prog.underlying t = some (.struct #[f0, f1])) (h0 : f0.type = 3 ∧ f0.offset = 0) (h1 : f1.type = 3 ∧ f1.offset = 1) (hc : Tryz.prog.cellsOf t = 2) (h3 : Tryz.prog.cellsOf 3 = 1)
    {fuel : Nat} {cs : List Value} {x : DataW H × List MemPlace} (h : DataW.trod enc Tryz.prog W 0 sp held fuel t cs = some x) : ∃ a b : Int, cs = [.int .i64 a, .int .i64 b] := by
  obtain ⟨xs, n, rfl, rfl, hl, hx, hf⟩ := DataW.trod_struct ht h
  rw [hc] at hl
  match cs, hl, xs, hx with
  | [u, v], _, [y0, y1], _ =>
    have g0 := hf 0 f0 rfl
    have g1 := hf 1 f1 rfl
    rw [h0.1, h0.2, h3] at g0
    rw [h1.1, h1.2, h3] at g1
    obtain ⟨a, e, -⟩ := DataW.trod_int Tryz.underlying3 (x := y0) g0
    obtain ⟨b, e', -⟩ := DataW.trod_int Tryz.underlying3 (x := y1) g1
    cases e
    cases e'
    exact ⟨a, b, rfl⟩
set_option maxRecDepth 100000 in
theorem three {n : Nat} {cs : List Value} {x : DataW H × List MemPlace} (h : DataW.trod enc Tryz.prog W 0 sp held n 94 cs = some x) : ∃ m : R2 × Int, cs = c3 m := by
  obtain ⟨xs, n, rfl, rfl, hl, hx, hf⟩ := DataW.trod_struct Tryz.underlying94 h
  rw [show Tryz.prog.cellsOf 94 = 3 by kernel_rfl] at hl
  match cs, hl, xs, hx with
  | [u, v, w], _, [y0, y1], _ =>
    have g0 : DataW.trod enc Tryz.prog W 0 sp held n 29 ((List.drop 0 [u, v, w]).take (Tryz.prog.cellsOf 29)) = some y0 := hf 0 _ rfl
    have g1 : DataW.trod enc Tryz.prog W 0 sp held n 3 ((List.drop 2 [u, v, w]).take (Tryz.prog.cellsOf 3)) = some y1 := hf 1 _ rfl
    rw [show Tryz.prog.cellsOf 29 = 2 by kernel_rfl] at g0
    rw [show Tryz.prog.cellsOf 3 = 1 by kernel_rfl] at g1
    obtain ⟨a, b, e⟩ := two (x := y0) Tryz.underlying29 ⟨rfl, rfl⟩ ⟨rfl, rfl⟩ (by kernel_rfl) (by kernel_rfl) g0
    obtain ⟨r, e', -⟩ := DataW.trod_int Tryz.underlying3 (x := y1) g1
    cases e
    cases e'
    exact ⟨((a, b), r), rfl⟩
set_option maxRecDepth 100000 in
/-- A book as an argument. -/
theorem open_book {r : Reach} {b0 : Nat} {v : Value} {d : DataW H} {ps : List MemPlace} (hval : Value.okWide Tryz.prog W r b0 27 v) (hd : DataW.Trod enc Tryz.prog W 0 sp held 27 v d ps) :
    ∃ (B : Bk) (A : BkA) (Hs : Facts), v = bkV B A ∧ Shr W Hs ∧ BkR Hs B A := by
  obtain ⟨cs, rfl, hsz⟩ := Go.WideShapes.okWide_struct Tryz.underlying27 hval
  obtain ⟨fuel, hf⟩ := hd
  obtain ⟨xs, n, rfl, hx0, hl, hx, hg⟩ := DataW.trod_struct Tryz.underlying27 hf
  obtain ⟨l⟩ := cs
  have hl' : l.length = 5 := hl.trans (show Tryz.prog.cellsOf 27 = 5 by kernel_rfl)
  match l, hl', xs, hx with
  | [u0, u1, u2, u3, u4], _, [y0, y1, y2, y3], _ =>
    have g0 : DataW.trod enc Tryz.prog W 0 sp held n 22 ((List.drop 0 [u0, u1, u2, u3, u4]).take (Tryz.prog.cellsOf 22)) = some y0 := hg 0 _ rfl
    have g1 : DataW.trod enc Tryz.prog W 0 sp held n 3 ((List.drop 1 [u0, u1, u2, u3, u4]).take (Tryz.prog.cellsOf 3)) = some y1 := hg 1 _ rfl
    have g2 : DataW.trod enc Tryz.prog W 0 sp held n 24 ((List.drop 2 [u0, u1, u2, u3, u4]).take (Tryz.prog.cellsOf 24)) = some y2 := hg 2 _ rfl
    have g3 : DataW.trod enc Tryz.prog W 0 sp held n 25 ((List.drop 4 [u0, u1, u2, u3, u4]).take (Tryz.prog.cellsOf 25)) = some y3 := hg 3 _ rfl
    rw [show Tryz.prog.cellsOf 22 = 1 by kernel_rfl] at g0
    rw [show Tryz.prog.cellsOf 3 = 1 by kernel_rfl] at g1
    rw [show Tryz.prog.cellsOf 24 = 2 by kernel_rfl] at g2
    rw [show Tryz.prog.cellsOf 25 = 1 by kernel_rfl] at g3
    obtain ⟨sz, e1, -⟩ := DataW.trod_int Tryz.underlying3 (x := y1) g1
    obtain ⟨lo, hi, e2⟩ := two (x := y2) Tryz.underlying24 ⟨rfl, rfl⟩ ⟨rfl, rfl⟩ (by kernel_rfl) (by kernel_rfl) g2
    obtain ⟨pa, ps, pc, H1, e0, s1, r1⟩ := open_sl (x := y0) (c := c2) (sz := 2) (fun _ => rfl) (by decide) Tryz.underlying22 (by kernel_rfl) (fun n cs x h => by
      obtain ⟨a, b, rfl⟩ := two Tryz.underlying57 ⟨rfl, rfl⟩ ⟨rfl, rfl⟩ (by kernel_rfl) (by kernel_rfl) h
      exact ⟨(a, b), rfl⟩) g0
    obtain ⟨ma, ms, mc, H2, e3, s2, r2⟩ := open_sl (x := y3) (c := c3) (sz := 3) (fun _ => rfl) (by decide) Tryz.underlying25 (by kernel_rfl) (fun n cs x h => three h) g3
    cases e0
    cases e1
    cases e2
    cases e3
    exact ⟨⟨ps, sz, lo, hi, ms⟩, ⟨pa, pc, ma, mc⟩, H1 ++ H2, rfl, s1.app s2, ⟨r1.more (Sub.pre _ _), r2.more (Sub.append_left _ _)⟩⟩
end
end Go.Gx
end

section
set_option linter.unusedSimpArgs false
set_option linter.unusedVariables false
namespace Go.Gx
open Go Go.Conc Go.Proofs Go.ChangeShapes Go.RowKit YtokdmiiejfmomaaGreatDoor

set_option maxRecDepth 100000
theorem own : ownKnob Tryz.prog.godebug = none := by kernel_rfl
abbrev laid1 : List (String × DataW Unit) := [("velarium/canvas.checks", Rows.laid_velarium_canvas_checks)]
theorem fnName {W : World} {fuel : Nat} {cs : List Value} {b : UInt8} {r : List UInt8} {q : List MemPlace} {f0 : FuncId} (hone : ((List.range Tryz.prog.funcs.size).filter fun f => (Tryz.prog.funcs[f]?).any (·.name.toUTF8.data.toList == b :: r)) = [f0])
    (h : DataW.trod (funcToken Tryz.prog) Tryz.prog W 0 (fun _ => true) true fuel 115 cs = some (.agg [.held (b :: r)], q)) : cs = [.func (.func f0) #[] #[]] := by
  obtain ⟨xs, n, rfl, e, hl, hx, hf⟩ := DataW.trod_struct Tryz.underlying115 h
  have hl' : cs.length = 1 := hl.trans (show Tryz.prog.cellsOf 115 = 1 by kernel_rfl)
  match cs, hl', xs, hx, e with
  | [u], _, [y0], _, e =>
    have g0 : DataW.trod (funcToken Tryz.prog) Tryz.prog W 0 (fun _ => true) true n 113 ((List.drop 0 [u]).take (Tryz.prog.cellsOf 113)) = some y0 := hf 0 _ rfl
    rw [show Tryz.prog.cellsOf 113 = 1 by kernel_rfl] at g0
    have e2 : y0.1 = .held (b :: r) := by
      simp only [Prod.mk.injEq, List.map_cons, List.map_nil, DataW.agg.injEq, List.cons.injEq, and_true] at e
      exact e.1.symm
    have k : u = .func (.func f0) #[] #[] := func_of_trod (q := y0.2) Tryz.underlying113 hone (by rw [← e2]; exact g0)
    rw [k]
theorem of_laid {W : World} (h : laidMetH Tryz.prog laid1 W) : Shr W [.seg 0 0 chkC] := by
  obtain ⟨g, t, cs, fuel, p, hg, ht, hv, hd⟩ := h.funcs (List.mem_singleton.2 rfl)
  obtain rfl := Option.some.inj ((show Tryz.prog.globalNamed "velarium/canvas.checks" = some 0 by kernel_rfl).symm.trans hg)
  obtain rfl := Option.some.inj ((show (Tryz.prog.globals[0]?).map (·.type) = some 116 by kernel_rfl).symm.trans ht)
  obtain ⟨xs, m, rfl, e, hl, hx, hf⟩ := DataW.trod_array Tryz.underlying116 hd
  have hl' : cs.toList.length = 3 := hl.trans (show Tryz.prog.cellsOf 116 = 3 by kernel_rfl)
  obtain ⟨l⟩ := cs
  match l, hl', xs, hx, e with
  | [u0, u1, u2], _, [y0, y1, y2], _, e =>
    have g0 : DataW.trod (funcToken Tryz.prog) Tryz.prog W 0 (fun _ => true) true m 115 ((List.drop (0 * Tryz.prog.cellsOf 115) [u0, u1, u2]).take (Tryz.prog.cellsOf 115)) = some y0 := hf 0 (by decide)
    have g1 : DataW.trod (funcToken Tryz.prog) Tryz.prog W 0 (fun _ => true) true m 115 ((List.drop (1 * Tryz.prog.cellsOf 115) [u0, u1, u2]).take (Tryz.prog.cellsOf 115)) = some y1 := hf 1 (by decide)
    have g2 : DataW.trod (funcToken Tryz.prog) Tryz.prog W 0 (fun _ => true) true m 115 ((List.drop (2 * Tryz.prog.cellsOf 115) [u0, u1, u2]).take (Tryz.prog.cellsOf 115)) = some y2 := hf 2 (by decide)
    rw [show Tryz.prog.cellsOf 115 = 1 by kernel_rfl] at g0 g1 g2
    have e' : [y0.1, y1.1, y2.1] = [.agg [.held [118, 101, 108, 97, 114, 105, 117, 109, 47, 99, 97, 110, 118, 97, 115, 46, 99, 104, 101, 99, 107, 115, 36, 49]], .agg [.held [118, 101, 108, 97, 114, 105, 117, 109, 47, 99, 97, 110, 118, 97, 115, 46, 99, 104, 101, 99, 107, 115, 36, 50]], .agg [.held [118, 101, 108, 97, 114, 105, 117, 109, 47, 99, 97, 110, 118, 97, 115, 46, 99, 104, 101, 99, 107, 115, 36, 51]]] := by
      have := (Prod.mk.inj e).1
      exact (DataW.agg.inj this).symm
    simp only [List.cons.injEq, and_true] at e'
    have k0 := fnName (f0 := 203) (q := y0.2) (by kernel_rfl) (by rw [← e'.1]; exact g0)
    have k1 := fnName (f0 := 204) (q := y1.2) (by kernel_rfl) (by rw [← e'.2.1]; exact g1)
    have k2 := fnName (f0 := 205) (q := y2.2) (by kernel_rfl) (by rw [← e'.2.2]; exact g2)
    cases k0
    cases k1
    cases k2
    intro f hf
    rw [List.mem_singleton] at hf
    subst hf
    have hc := World.var?_cell hg hv
    refine ⟨rfl, ?_, fun k v hk => ?_⟩
    · have := hc 0
      rcases Nat.lt_or_ge 0 W.heap.size with h | h
      · exact h
      · simp [World.cell?, Array.getElem?_eq_none h] at this
    · have := hc k
      rw [Nat.zero_add, this]
      rw [← Array.getElem?_toList]
      exact hk
end Go.Gx
end

section
set_option linter.unusedSimpArgs false
set_option linter.unusedVariables false
namespace Go.Gx
open Go Go.Conc Go.Proofs Go.ChangeShapes Go.RowKit YtokdmiiejfmomaaGreatDoor
set_option maxRecDepth 100000

theorem Shr.glo {W : World} {Hs : Facts} (h : Shr W Hs) : Glo ([.seg 0 0 chkC] ++ Hs) ([.seg 0 0 chkC] ++ Hs) := by
  refine ⟨Sub.refl _, ?_, ?_⟩
  · intro f hf
    rcases List.mem_append.1 hf with hf | hf
    · rw [List.mem_singleton] at hf; subst hf; rfl
    · exact (h f hf).1
  · have := cells_seg (H := [.seg 0 0 chkC] ++ Hs) (b := 0) (off := 0) (us := chkC) (vs := chkC) 0 (by simp) (by rw [List.drop_zero, List.take_length])
    simpa using this
theorem door_met (os : Os) (args : Array Value) : laidMetH Tryz.prog laid1 ((World.doorLaid Tryz.prog 17 os).forCall (fun _ _ => 0) ⟨#[], args, []⟩).memory :=
  laidMetH_of_parts3 (fuel := 8) (laidMet_of_run' 8 (by kernel_rfl) (by kernel_rfl)) (by kernel_rfl) (by kernel_rfl)
/-- FROM A LAW's WALK TO ITS CONTRACT. -/
theorem law_lift {f : FuncId} {fn : Func} {s : ChangeSpec} (hfn : Tryz.prog.funcs[f]? = some fn) (hr : fn.params.toList.all (rowed Tryz.prog) = true) (hres : fn.resultTypes = #[4]) (hvars : s.vars = []) (hi : Tryz.prog.inits.idxOf? f = none)
    (os : Os) (started : os.Started) (H : Type) (enc : TypeId × Value → H) (args0 : Array Value)
    (w1 : ((World.doorLaid Tryz.prog 17 os).forCall (fun _ _ => 0) ⟨#[], args0, []⟩).Shaped Tryz.prog)
    (w2 : Input.okWideB Tryz.prog ((World.doorLaid Tryz.prog 17 os).forCall (fun _ _ => 0) ⟨#[], args0, []⟩) f ⟨#[], args0, []⟩ = true)
    (w3 : s.preB enc Tryz.prog fn [] false ((World.doorLaid Tryz.prog 17 os).forCall (fun _ _ => 0) ⟨#[], args0, []⟩).memory args0 8 = true)
    (w4 : s.sizedB enc Tryz.prog fn false ((World.doorLaid Tryz.prog 17 os).forCall (fun _ _ => 0) ⟨#[], args0, []⟩).memory args0 8 = true)
    (walk : ∀ (W : World) (base : Nat) (args : Array Value) (ds : List (DataW H)) (ps : List MemPlace), (∀ (j : Nat) t v, fn.params[j]? = some t → args[j]? = some v → Value.okWide Tryz.prog W .any base t v) →
      DataW.TrodAll enc Tryz.prog W 0 (fun _ => true) true fn.params.toList args.toList ds ps →
      s.fn H ds = { results := [.lit (.bool true)], args := ds } ∧ ∃ Hs, Shr W Hs ∧ ∀ Post, LawAt (mainLg Tryz.prog Post W [] []) f args ([.seg 0 0 chkC] ++ Hs) (.bool true)) :
    ReturnsInLeavingWide {} Tryz.checked os f .any (fun w args => (s.pre enc Tryz.prog fn [] false w args ∧ laidMetH Tryz.prog laid1 w) ∧ sizedMet enc Tryz.prog fn (OpenSpec.ofChange s) false w args) (s.post enc Tryz.prog fn false true false false) := by
  refine returnsInLeavingWide_of_change_and (C := Tryz.checked) (X := fun w _ => laidMetH Tryz.prog laid1 w) (fun _ _ _ hh h => h.of_heap hh) own started hfn
    (ChangeSpec.witness_shaped (enc := enc) (C := Tryz.checked) (os := os) (X := fun w _ => laidMetH Tryz.prog laid1 w) false (World.doorLaid Tryz.prog 17 os) args0 8 rfl w1 w2 w3 w4 (door_met os _)) ?_
  intro W base args ds gs before hval hW hL
  obtain ⟨p, q, hA, hV, _, _, _⟩ := id hW
  obtain ⟨hs, Hs, hsh, hw⟩ := walk W base args ds p hval hA
  have hall : Shr W ([.seg 0 0 chkC] ++ Hs) := (of_laid hL).app hsh
  exact (hw _).ends hi (fun w hf => law_post (by kernel_rfl) hr hres Tryz.underlying4 hvars hW hs hf) hall.holds fun f hf => (hall f hf).1
end Go.Gx
end

section
set_option linter.unusedSimpArgs false
set_option linter.unusedVariables false
namespace Go.Gx
open Go Go.Conc Go.Proofs Go.ChangeShapes Go.RowKit YtokdmiiejfmomaaGreatDoor
set_option maxRecDepth 100000
theorem Shr.ro {W : World} {Hs : Facts} (h : Shr W Hs) : ∀ f ∈ ([.seg 0 0 chkC] ++ Hs : Facts), f.isOwn = false := by
  intro f hf
  rcases List.mem_append.1 hf with hf | hf
  · rw [List.mem_singleton] at hf; subst hf; rfl
  · exact (h f hf).1
section
variable {H : Type} {enc : TypeId × Value → H} {W : World} {sp : Nat → Bool} {held : Bool}

theorem open_band {r : Reach} {b0 : Nat} {v : Value} {d : DataW H} {ps : List MemPlace} (hval : Value.okWide Tryz.prog W r b0 24 v) (hd : DataW.Trod enc Tryz.prog W 0 sp held 24 v d ps) :
    ∃ s : R2, v = .agg #[.int .i64 s.1, .int .i64 s.2] := by
  obtain ⟨cs, rfl, hsz⟩ := Go.WideShapes.okWide_struct Tryz.underlying24 hval
  obtain ⟨fuel, hf⟩ := hd
  obtain ⟨l⟩ := cs
  obtain ⟨a, b, e⟩ := two Tryz.underlying24 ⟨rfl, rfl⟩ ⟨rfl, rfl⟩ (by kernel_rfl) (by kernel_rfl) hf
  have e' : l = [.int .i64 a, .int .i64 b] := e
  subst e'
  exact ⟨(a, b), rfl⟩
theorem open_mark {r : Reach} {b0 : Nat} {v : Value} {d : DataW H} {ps : List MemPlace} (hval : Value.okWide Tryz.prog W r b0 94 v) (hd : DataW.Trod enc Tryz.prog W 0 sp held 94 v d ps) :
    ∃ m : R2 × Int, v = .agg #[.int .i64 m.1.1, .int .i64 m.1.2, .int .i64 m.2] := by
  obtain ⟨cs, rfl, hsz⟩ := Go.WideShapes.okWide_struct Tryz.underlying94 hval
  obtain ⟨fuel, hf⟩ := hd
  obtain ⟨l⟩ := cs
  obtain ⟨m, e⟩ := three hf
  have e' : l = c3 m := e
  subst e'
  exact ⟨m, rfl⟩
theorem open_slopes {r : Reach} {b0 : Nat} {v : Value} {d : DataW H} {ps : List MemPlace} (hval : Value.okWide Tryz.prog W r b0 45 v) (hd : DataW.Trod enc Tryz.prog W 0 sp held 45 v d ps) :
    ∃ (a : Option Addr) (ys : List R2) (cap : Nat) (Hs : Facts), v = .slice a ys.length cap ∧ Shr W Hs ∧ Rd Hs a (ys.flatMap c2) := by
  obtain ⟨a0, len, cap, rfl⟩ := Go.WideShapes.okWide_slice Tryz.underlying45 hval
  obtain ⟨fuel, hf⟩ := hd
  obtain ⟨a, ys, cap', Hs, e, h1, h2⟩ := open_sl (c := c2) (sz := 2) (fun _ => rfl) (by decide) Tryz.underlying45 (by kernel_rfl) (fun n cs x h => by
      obtain ⟨a, b, rfl⟩ := two Tryz.underlying29 ⟨rfl, rfl⟩ ⟨rfl, rfl⟩ (by kernel_rfl) (by kernel_rfl) h
      exact ⟨(a, b), rfl⟩) hf
  exact ⟨a, ys, cap', Hs, e, h1, h2⟩
end
end Go.Gx
end

section
set_option linter.unusedSimpArgs false
set_option linter.unusedVariables false
namespace Go.Gx
open Go Go.Proofs YtokdmiiejfmomaaGreatDoor
set_option maxRecDepth 100000
/-- The line of the dump's order, sign by sign: the kernel is spared the decoding of a text. -/
def ioL : List Char := [.ofNat 104, .ofNat 97, .ofNat 114, .ofNat 110, .ofNat 101, .ofNat 115, .ofNat 115, .ofNat 32, .ofNat 50, .ofNat 97, .ofNat 101, .ofNat 101, .ofNat 100, .ofNat 97, .ofNat 57, .ofNat 101, .ofNat 48, .ofNat 98, .ofNat 51, .ofNat 49, .ofNat 53, .ofNat 101, .ofNat 98, .ofNat 48, .ofNat 50, .ofNat 50, .ofNat 48, .ofNat 55, .ofNat 48, .ofNat 98, .ofNat 99, .ofNat 56, .ofNat 56, .ofNat 98, .ofNat 99, .ofNat 56, .ofNat 48, .ofNat 97, .ofNat 53, .ofNat 53, .ofNat 52, .ofNat 100, .ofNat 99, .ofNat 100, .ofNat 51, .ofNat 50, .ofNat 57, .ofNat 102, .ofNat 55, .ofNat 55, .ofNat 51, .ofNat 97, .ofNat 100, .ofNat 53, .ofNat 51, .ofNat 53, .ofNat 56, .ofNat 54, .ofNat 48, .ofNat 56, .ofNat 56, .ofNat 51, .ofNat 50, .ofNat 55, .ofNat 97, .ofNat 50, .ofNat 98, .ofNat 50, .ofNat 57, .ofNat 52, .ofNat 51, .ofNat 48, .ofNat 32, .ofNat 99, .ofNat 117, .ofNat 116, .ofNat 32, .ofNat 97, .ofNat 116, .ofNat 32, .ofNat 118, .ofNat 101, .ofNat 108, .ofNat 97, .ofNat 114, .ofNat 105, .ofNat 117, .ofNat 109, .ofNat 47, .ofNat 118, .ofNat 101, .ofNat 108, .ofNat 97, .ofNat 114, .ofNat 105, .ofNat 117, .ofNat 109, .ofNat 108, .ofNat 97, .ofNat 119, .ofNat 48, .ofNat 50, .ofNat 46, .ofNat 67, .ofNat 97, .ofNat 110, .ofNat 118, .ofNat 97, .ofNat 115, .ofNat 76, .ofNat 105, .ofNat 110, .ofNat 101, .ofNat 115, .ofNat 32, .ofNat 118, .ofNat 101, .ofNat 108, .ofNat 97, .ofNat 114, .ofNat 105, .ofNat 117, .ofNat 109, .ofNat 47, .ofNat 118, .ofNat 101, .ofNat 108, .ofNat 97, .ofNat 114, .ofNat 105, .ofNat 117, .ofNat 109, .ofNat 108, .ofNat 97, .ofNat 119, .ofNat 48, .ofNat 50, .ofNat 46, .ofNat 67, .ofNat 97, .ofNat 110, .ofNat 118, .ofNat 97, .ofNat 115, .ofNat 84, .ofNat 104, .ofNat 105, .ofNat 110, .ofNat 103, .ofNat 115, .ofNat 32, .ofNat 118, .ofNat 101, .ofNat 108, .ofNat 97, .ofNat 114, .ofNat 105, .ofNat 117, .ofNat 109, .ofNat 47, .ofNat 118, .ofNat 101, .ofNat 108, .ofNat 97, .ofNat 114, .ofNat 105, .ofNat 117, .ofNat 109, .ofNat 108, .ofNat 97, .ofNat 119, .ofNat 48, .ofNat 50, .ofNat 46, .ofNat 67, .ofNat 97, .ofNat 110, .ofNat 118, .ofNat 97, .ofNat 115, .ofNat 69, .ofNat 120, .ofNat 97, .ofNat 99, .ofNat 116, .ofNat 32, .ofNat 118, .ofNat 101, .ofNat 108, .ofNat 97, .ofNat 114, .ofNat 105, .ofNat 117, .ofNat 109, .ofNat 47, .ofNat 118, .ofNat 101, .ofNat 108, .ofNat 97, .ofNat 114, .ofNat 105, .ofNat 117, .ofNat 109, .ofNat 108, .ofNat 97, .ofNat 119, .ofNat 48, .ofNat 50, .ofNat 46, .ofNat 67, .ofNat 97, .ofNat 110, .ofNat 118, .ofNat 97, .ofNat 115, .ofNat 78, .ofNat 101, .ofNat 97, .ofNat 114, .ofNat 101, .ofNat 115, .ofNat 116, .ofNat 32, .ofNat 118, .ofNat 101, .ofNat 108, .ofNat 97, .ofNat 114, .ofNat 105, .ofNat 117, .ofNat 109, .ofNat 47, .ofNat 118, .ofNat 101, .ofNat 108, .ofNat 97, .ofNat 114, .ofNat 105, .ofNat 117, .ofNat 109, .ofNat 108, .ofNat 97, .ofNat 119, .ofNat 48, .ofNat 50, .ofNat 46, .ofNat 67, .ofNat 97, .ofNat 110, .ofNat 118, .ofNat 97, .ofNat 115, .ofNat 80, .ofNat 97, .ofNat 114, .ofNat 116, .ofNat 101, .ofNat 100, .ofNat 32, .ofNat 118, .ofNat 101, .ofNat 108, .ofNat 97, .ofNat 114, .ofNat 105, .ofNat 117, .ofNat 109, .ofNat 47, .ofNat 118, .ofNat 101, .ofNat 108, .ofNat 97, .ofNat 114, .ofNat 105, .ofNat 117, .ofNat 109, .ofNat 108, .ofNat 97, .ofNat 119, .ofNat 48, .ofNat 50, .ofNat 46, .ofNat 67, .ofNat 97, .ofNat 110, .ofNat 118, .ofNat 97, .ofNat 115, .ofNat 65, .ofNat 108, .ofNat 105, .ofNat 107, .ofNat 101, .ofNat 32, .ofNat 118, .ofNat 101, .ofNat 108, .ofNat 97, .ofNat 114, .ofNat 105, .ofNat 117, .ofNat 109, .ofNat 47, .ofNat 118, .ofNat 101, .ofNat 108, .ofNat 97, .ofNat 114, .ofNat 105, .ofNat 117, .ofNat 109, .ofNat 108, .ofNat 97, .ofNat 119, .ofNat 48, .ofNat 50, .ofNat 46, .ofNat 67, .ofNat 97, .ofNat 110, .ofNat 118, .ofNat 97, .ofNat 115, .ofNat 69, .ofNat 110, .ofNat 100, .ofNat 115, .ofNat 32, .ofNat 118, .ofNat 101, .ofNat 108, .ofNat 97, .ofNat 114, .ofNat 105, .ofNat 117, .ofNat 109, .ofNat 47, .ofNat 118, .ofNat 101, .ofNat 108, .ofNat 97, .ofNat 114, .ofNat 105, .ofNat 117, .ofNat 109, .ofNat 108, .ofNat 97, .ofNat 119, .ofNat 48, .ofNat 50, .ofNat 46, .ofNat 67, .ofNat 97, .ofNat 110, .ofNat 118, .ofNat 97, .ofNat 115, .ofNat 85, .ofNat 112, .ofNat 114, .ofNat 105, .ofNat 103, .ofNat 104, .ofNat 116, .ofNat 32, .ofNat 118, .ofNat 101, .ofNat 108, .ofNat 97, .ofNat 114, .ofNat 105, .ofNat 117, .ofNat 109, .ofNat 47, .ofNat 118, .ofNat 101, .ofNat 108, .ofNat 97, .ofNat 114, .ofNat 105, .ofNat 117, .ofNat 109, .ofNat 108, .ofNat 97, .ofNat 119, .ofNat 48, .ofNat 50, .ofNat 46, .ofNat 67, .ofNat 97, .ofNat 110, .ofNat 118, .ofNat 97, .ofNat 115, .ofNat 75, .ofNat 101, .ofNat 112, .ofNat 116, .ofNat 32, .ofNat 118, .ofNat 101, .ofNat 108, .ofNat 97, .ofNat 114, .ofNat 105, .ofNat 117, .ofNat 109, .ofNat 47, .ofNat 118, .ofNat 101, .ofNat 108, .ofNat 97, .ofNat 114, .ofNat 105, .ofNat 117, .ofNat 109, .ofNat 108, .ofNat 97, .ofNat 119, .ofNat 48, .ofNat 50, .ofNat 46, .ofNat 67, .ofNat 97, .ofNat 110, .ofNat 118, .ofNat 97, .ofNat 115, .ofNat 78, .ofNat 101, .ofNat 101, .ofNat 100, .ofNat 101, .ofNat 100, .ofNat 32, .ofNat 118, .ofNat 101, .ofNat 108, .ofNat 97, .ofNat 114, .ofNat 105, .ofNat 117, .ofNat 109, .ofNat 47, .ofNat 118, .ofNat 101, .ofNat 108, .ofNat 97, .ofNat 114, .ofNat 105, .ofNat 117, .ofNat 109, .ofNat 108, .ofNat 97, .ofNat 119, .ofNat 48, .ofNat 50, .ofNat 46, .ofNat 67, .ofNat 97, .ofNat 110, .ofNat 118, .ofNat 97, .ofNat 115, .ofNat 67, .ofNat 108, .ofNat 97, .ofNat 115, .ofNat 104, .ofNat 101, .ofNat 115, .ofNat 32, .ofNat 118, .ofNat 101, .ofNat 108, .ofNat 97, .ofNat 114, .ofNat 105, .ofNat 117, .ofNat 109, .ofNat 47, .ofNat 118, .ofNat 101, .ofNat 108, .ofNat 97, .ofNat 114, .ofNat 105, .ofNat 117, .ofNat 109, .ofNat 108, .ofNat 97, .ofNat 119, .ofNat 48, .ofNat 50, .ofNat 46, .ofNat 67, .ofNat 97, .ofNat 110, .ofNat 118, .ofNat 97, .ofNat 115, .ofNat 65, .ofNat 115, .ofNat 107, .ofNat 101, .ofNat 100, .ofNat 32, .ofNat 118, .ofNat 101, .ofNat 108, .ofNat 97, .ofNat 114, .ofNat 105, .ofNat 117, .ofNat 109, .ofNat 47, .ofNat 118, .ofNat 101, .ofNat 108, .ofNat 97, .ofNat 114, .ofNat 105, .ofNat 117, .ofNat 109, .ofNat 108, .ofNat 97, .ofNat 119, .ofNat 48, .ofNat 50, .ofNat 46, .ofNat 67, .ofNat 97, .ofNat 110, .ofNat 118, .ofNat 97, .ofNat 115, .ofNat 65, .ofNat 110, .ofNat 121, .ofNat 79, .ofNat 114, .ofNat 100, .ofNat 101, .ofNat 114, .ofNat 32, .ofNat 118, .ofNat 101, .ofNat 108, .ofNat 97, .ofNat 114, .ofNat 105, .ofNat 117, .ofNat 109, .ofNat 47, .ofNat 118, .ofNat 101, .ofNat 108, .ofNat 97, .ofNat 114, .ofNat 105, .ofNat 117, .ofNat 109, .ofNat 108, .ofNat 97, .ofNat 119, .ofNat 48, .ofNat 50, .ofNat 46, .ofNat 67, .ofNat 97, .ofNat 110, .ofNat 118, .ofNat 97, .ofNat 115, .ofNat 83, .ofNat 116, .ofNat 97, .ofNat 116, .ofNat 101, .ofNat 115, .ofNat 32, .ofNat 118, .ofNat 101, .ofNat 108, .ofNat 97, .ofNat 114, .ofNat 105, .ofNat 117, .ofNat 109, .ofNat 47, .ofNat 118, .ofNat 101, .ofNat 108, .ofNat 97, .ofNat 114, .ofNat 105, .ofNat 117, .ofNat 109, .ofNat 108, .ofNat 97, .ofNat 119, .ofNat 48, .ofNat 50, .ofNat 46, .ofNat 67, .ofNat 97, .ofNat 110, .ofNat 118, .ofNat 97, .ofNat 115, .ofNat 82, .ofNat 101, .ofNat 97, .ofNat 108, .ofNat 32, .ofNat 118, .ofNat 101, .ofNat 108, .ofNat 97, .ofNat 114, .ofNat 105, .ofNat 117, .ofNat 109, .ofNat 47, .ofNat 118, .ofNat 101, .ofNat 108, .ofNat 97, .ofNat 114, .ofNat 105, .ofNat 117, .ofNat 109, .ofNat 108, .ofNat 97, .ofNat 119, .ofNat 48, .ofNat 50, .ofNat 46, .ofNat 67, .ofNat 97, .ofNat 110, .ofNat 118, .ofNat 97, .ofNat 115, .ofNat 78, .ofNat 101, .ofNat 119, .ofNat 115, .ofNat 32, .ofNat 118, .ofNat 101, .ofNat 108, .ofNat 97, .ofNat 114, .ofNat 105, .ofNat 117, .ofNat 109, .ofNat 47, .ofNat 118, .ofNat 101, .ofNat 108, .ofNat 97, .ofNat 114, .ofNat 105, .ofNat 117, .ofNat 109, .ofNat 108, .ofNat 97, .ofNat 119, .ofNat 48, .ofNat 50, .ofNat 46, .ofNat 67, .ofNat 97, .ofNat 110, .ofNat 118, .ofNat 97, .ofNat 115, .ofNat 76, .ofNat 101, .ofNat 97, .ofNat 114, .ofNat 110, .ofNat 116, .ofNat 32, .ofNat 118, .ofNat 101, .ofNat 108, .ofNat 97, .ofNat 114, .ofNat 105, .ofNat 117, .ofNat 109, .ofNat 47, .ofNat 118, .ofNat 101, .ofNat 108, .ofNat 97, .ofNat 114, .ofNat 105, .ofNat 117, .ofNat 109, .ofNat 108, .ofNat 97, .ofNat 119, .ofNat 48, .ofNat 50, .ofNat 46, .ofNat 67, .ofNat 97, .ofNat 110, .ofNat 118, .ofNat 97, .ofNat 115, .ofNat 82, .ofNat 101, .ofNat 97, .ofNat 99, .ofNat 104, .ofNat 101, .ofNat 100]
theorem io_of : Tryz.prog.initOrder = String.ofList ioL := by kernel_rfl
theorem io_l : Tryz.prog.initOrder.toList = ioL := by rw [io_of]; exact String.toList_ofList
def wsL : List (List Char) := [[.ofNat 104, .ofNat 97, .ofNat 114, .ofNat 110, .ofNat 101, .ofNat 115, .ofNat 115], [.ofNat 50, .ofNat 97, .ofNat 101, .ofNat 101, .ofNat 100, .ofNat 97, .ofNat 57, .ofNat 101, .ofNat 48, .ofNat 98, .ofNat 51, .ofNat 49, .ofNat 53, .ofNat 101, .ofNat 98, .ofNat 48, .ofNat 50, .ofNat 50, .ofNat 48, .ofNat 55, .ofNat 48, .ofNat 98, .ofNat 99, .ofNat 56, .ofNat 56, .ofNat 98, .ofNat 99, .ofNat 56, .ofNat 48, .ofNat 97, .ofNat 53, .ofNat 53, .ofNat 52, .ofNat 100, .ofNat 99, .ofNat 100, .ofNat 51, .ofNat 50, .ofNat 57, .ofNat 102, .ofNat 55, .ofNat 55, .ofNat 51, .ofNat 97, .ofNat 100, .ofNat 53, .ofNat 51, .ofNat 53, .ofNat 56, .ofNat 54, .ofNat 48, .ofNat 56, .ofNat 56, .ofNat 51, .ofNat 50, .ofNat 55, .ofNat 97, .ofNat 50, .ofNat 98, .ofNat 50, .ofNat 57, .ofNat 52, .ofNat 51, .ofNat 48], [.ofNat 99, .ofNat 117, .ofNat 116], [.ofNat 97, .ofNat 116], [.ofNat 118, .ofNat 101, .ofNat 108, .ofNat 97, .ofNat 114, .ofNat 105, .ofNat 117, .ofNat 109, .ofNat 47, .ofNat 118, .ofNat 101, .ofNat 108, .ofNat 97, .ofNat 114, .ofNat 105, .ofNat 117, .ofNat 109, .ofNat 108, .ofNat 97, .ofNat 119, .ofNat 48, .ofNat 50, .ofNat 46, .ofNat 67, .ofNat 97, .ofNat 110, .ofNat 118, .ofNat 97, .ofNat 115, .ofNat 76, .ofNat 105, .ofNat 110, .ofNat 101, .ofNat 115], [.ofNat 118, .ofNat 101, .ofNat 108, .ofNat 97, .ofNat 114, .ofNat 105, .ofNat 117, .ofNat 109, .ofNat 47, .ofNat 118, .ofNat 101, .ofNat 108, .ofNat 97, .ofNat 114, .ofNat 105, .ofNat 117, .ofNat 109, .ofNat 108, .ofNat 97, .ofNat 119, .ofNat 48, .ofNat 50, .ofNat 46, .ofNat 67, .ofNat 97, .ofNat 110, .ofNat 118, .ofNat 97, .ofNat 115, .ofNat 84, .ofNat 104, .ofNat 105, .ofNat 110, .ofNat 103, .ofNat 115], [.ofNat 118, .ofNat 101, .ofNat 108, .ofNat 97, .ofNat 114, .ofNat 105, .ofNat 117, .ofNat 109, .ofNat 47, .ofNat 118, .ofNat 101, .ofNat 108, .ofNat 97, .ofNat 114, .ofNat 105, .ofNat 117, .ofNat 109, .ofNat 108, .ofNat 97, .ofNat 119, .ofNat 48, .ofNat 50, .ofNat 46, .ofNat 67, .ofNat 97, .ofNat 110, .ofNat 118, .ofNat 97, .ofNat 115, .ofNat 69, .ofNat 120, .ofNat 97, .ofNat 99, .ofNat 116], [.ofNat 118, .ofNat 101, .ofNat 108, .ofNat 97, .ofNat 114, .ofNat 105, .ofNat 117, .ofNat 109, .ofNat 47, .ofNat 118, .ofNat 101, .ofNat 108, .ofNat 97, .ofNat 114, .ofNat 105, .ofNat 117, .ofNat 109, .ofNat 108, .ofNat 97, .ofNat 119, .ofNat 48, .ofNat 50, .ofNat 46, .ofNat 67, .ofNat 97, .ofNat 110, .ofNat 118, .ofNat 97, .ofNat 115, .ofNat 78, .ofNat 101, .ofNat 97, .ofNat 114, .ofNat 101, .ofNat 115, .ofNat 116], [.ofNat 118, .ofNat 101, .ofNat 108, .ofNat 97, .ofNat 114, .ofNat 105, .ofNat 117, .ofNat 109, .ofNat 47, .ofNat 118, .ofNat 101, .ofNat 108, .ofNat 97, .ofNat 114, .ofNat 105, .ofNat 117, .ofNat 109, .ofNat 108, .ofNat 97, .ofNat 119, .ofNat 48, .ofNat 50, .ofNat 46, .ofNat 67, .ofNat 97, .ofNat 110, .ofNat 118, .ofNat 97, .ofNat 115, .ofNat 80, .ofNat 97, .ofNat 114, .ofNat 116, .ofNat 101, .ofNat 100], [.ofNat 118, .ofNat 101, .ofNat 108, .ofNat 97, .ofNat 114, .ofNat 105, .ofNat 117, .ofNat 109, .ofNat 47, .ofNat 118, .ofNat 101, .ofNat 108, .ofNat 97, .ofNat 114, .ofNat 105, .ofNat 117, .ofNat 109, .ofNat 108, .ofNat 97, .ofNat 119, .ofNat 48, .ofNat 50, .ofNat 46, .ofNat 67, .ofNat 97, .ofNat 110, .ofNat 118, .ofNat 97, .ofNat 115, .ofNat 65, .ofNat 108, .ofNat 105, .ofNat 107, .ofNat 101], [.ofNat 118, .ofNat 101, .ofNat 108, .ofNat 97, .ofNat 114, .ofNat 105, .ofNat 117, .ofNat 109, .ofNat 47, .ofNat 118, .ofNat 101, .ofNat 108, .ofNat 97, .ofNat 114, .ofNat 105, .ofNat 117, .ofNat 109, .ofNat 108, .ofNat 97, .ofNat 119, .ofNat 48, .ofNat 50, .ofNat 46, .ofNat 67, .ofNat 97, .ofNat 110, .ofNat 118, .ofNat 97, .ofNat 115, .ofNat 69, .ofNat 110, .ofNat 100, .ofNat 115], [.ofNat 118, .ofNat 101, .ofNat 108, .ofNat 97, .ofNat 114, .ofNat 105, .ofNat 117, .ofNat 109, .ofNat 47, .ofNat 118, .ofNat 101, .ofNat 108, .ofNat 97, .ofNat 114, .ofNat 105, .ofNat 117, .ofNat 109, .ofNat 108, .ofNat 97, .ofNat 119, .ofNat 48, .ofNat 50, .ofNat 46, .ofNat 67, .ofNat 97, .ofNat 110, .ofNat 118, .ofNat 97, .ofNat 115, .ofNat 85, .ofNat 112, .ofNat 114, .ofNat 105, .ofNat 103, .ofNat 104, .ofNat 116], [.ofNat 118, .ofNat 101, .ofNat 108, .ofNat 97, .ofNat 114, .ofNat 105, .ofNat 117, .ofNat 109, .ofNat 47, .ofNat 118, .ofNat 101, .ofNat 108, .ofNat 97, .ofNat 114, .ofNat 105, .ofNat 117, .ofNat 109, .ofNat 108, .ofNat 97, .ofNat 119, .ofNat 48, .ofNat 50, .ofNat 46, .ofNat 67, .ofNat 97, .ofNat 110, .ofNat 118, .ofNat 97, .ofNat 115, .ofNat 75, .ofNat 101, .ofNat 112, .ofNat 116], [.ofNat 118, .ofNat 101, .ofNat 108, .ofNat 97, .ofNat 114, .ofNat 105, .ofNat 117, .ofNat 109, .ofNat 47, .ofNat 118, .ofNat 101, .ofNat 108, .ofNat 97, .ofNat 114, .ofNat 105, .ofNat 117, .ofNat 109, .ofNat 108, .ofNat 97, .ofNat 119, .ofNat 48, .ofNat 50, .ofNat 46, .ofNat 67, .ofNat 97, .ofNat 110, .ofNat 118, .ofNat 97, .ofNat 115, .ofNat 78, .ofNat 101, .ofNat 101, .ofNat 100, .ofNat 101, .ofNat 100], [.ofNat 118, .ofNat 101, .ofNat 108, .ofNat 97, .ofNat 114, .ofNat 105, .ofNat 117, .ofNat 109, .ofNat 47, .ofNat 118, .ofNat 101, .ofNat 108, .ofNat 97, .ofNat 114, .ofNat 105, .ofNat 117, .ofNat 109, .ofNat 108, .ofNat 97, .ofNat 119, .ofNat 48, .ofNat 50, .ofNat 46, .ofNat 67, .ofNat 97, .ofNat 110, .ofNat 118, .ofNat 97, .ofNat 115, .ofNat 67, .ofNat 108, .ofNat 97, .ofNat 115, .ofNat 104, .ofNat 101, .ofNat 115], [.ofNat 118, .ofNat 101, .ofNat 108, .ofNat 97, .ofNat 114, .ofNat 105, .ofNat 117, .ofNat 109, .ofNat 47, .ofNat 118, .ofNat 101, .ofNat 108, .ofNat 97, .ofNat 114, .ofNat 105, .ofNat 117, .ofNat 109, .ofNat 108, .ofNat 97, .ofNat 119, .ofNat 48, .ofNat 50, .ofNat 46, .ofNat 67, .ofNat 97, .ofNat 110, .ofNat 118, .ofNat 97, .ofNat 115, .ofNat 65, .ofNat 115, .ofNat 107, .ofNat 101, .ofNat 100], [.ofNat 118, .ofNat 101, .ofNat 108, .ofNat 97, .ofNat 114, .ofNat 105, .ofNat 117, .ofNat 109, .ofNat 47, .ofNat 118, .ofNat 101, .ofNat 108, .ofNat 97, .ofNat 114, .ofNat 105, .ofNat 117, .ofNat 109, .ofNat 108, .ofNat 97, .ofNat 119, .ofNat 48, .ofNat 50, .ofNat 46, .ofNat 67, .ofNat 97, .ofNat 110, .ofNat 118, .ofNat 97, .ofNat 115, .ofNat 65, .ofNat 110, .ofNat 121, .ofNat 79, .ofNat 114, .ofNat 100, .ofNat 101, .ofNat 114], [.ofNat 118, .ofNat 101, .ofNat 108, .ofNat 97, .ofNat 114, .ofNat 105, .ofNat 117, .ofNat 109, .ofNat 47, .ofNat 118, .ofNat 101, .ofNat 108, .ofNat 97, .ofNat 114, .ofNat 105, .ofNat 117, .ofNat 109, .ofNat 108, .ofNat 97, .ofNat 119, .ofNat 48, .ofNat 50, .ofNat 46, .ofNat 67, .ofNat 97, .ofNat 110, .ofNat 118, .ofNat 97, .ofNat 115, .ofNat 83, .ofNat 116, .ofNat 97, .ofNat 116, .ofNat 101, .ofNat 115], [.ofNat 118, .ofNat 101, .ofNat 108, .ofNat 97, .ofNat 114, .ofNat 105, .ofNat 117, .ofNat 109, .ofNat 47, .ofNat 118, .ofNat 101, .ofNat 108, .ofNat 97, .ofNat 114, .ofNat 105, .ofNat 117, .ofNat 109, .ofNat 108, .ofNat 97, .ofNat 119, .ofNat 48, .ofNat 50, .ofNat 46, .ofNat 67, .ofNat 97, .ofNat 110, .ofNat 118, .ofNat 97, .ofNat 115, .ofNat 82, .ofNat 101, .ofNat 97, .ofNat 108], [.ofNat 118, .ofNat 101, .ofNat 108, .ofNat 97, .ofNat 114, .ofNat 105, .ofNat 117, .ofNat 109, .ofNat 47, .ofNat 118, .ofNat 101, .ofNat 108, .ofNat 97, .ofNat 114, .ofNat 105, .ofNat 117, .ofNat 109, .ofNat 108, .ofNat 97, .ofNat 119, .ofNat 48, .ofNat 50, .ofNat 46, .ofNat 67, .ofNat 97, .ofNat 110, .ofNat 118, .ofNat 97, .ofNat 115, .ofNat 78, .ofNat 101, .ofNat 119, .ofNat 115], [.ofNat 118, .ofNat 101, .ofNat 108, .ofNat 97, .ofNat 114, .ofNat 105, .ofNat 117, .ofNat 109, .ofNat 47, .ofNat 118, .ofNat 101, .ofNat 108, .ofNat 97, .ofNat 114, .ofNat 105, .ofNat 117, .ofNat 109, .ofNat 108, .ofNat 97, .ofNat 119, .ofNat 48, .ofNat 50, .ofNat 46, .ofNat 67, .ofNat 97, .ofNat 110, .ofNat 118, .ofNat 97, .ofNat 115, .ofNat 76, .ofNat 101, .ofNat 97, .ofNat 114, .ofNat 110, .ofNat 116], [.ofNat 118, .ofNat 101, .ofNat 108, .ofNat 97, .ofNat 114, .ofNat 105, .ofNat 117, .ofNat 109, .ofNat 47, .ofNat 118, .ofNat 101, .ofNat 108, .ofNat 97, .ofNat 114, .ofNat 105, .ofNat 117, .ofNat 109, .ofNat 108, .ofNat 97, .ofNat 119, .ofNat 48, .ofNat 50, .ofNat 46, .ofNat 67, .ofNat 97, .ofNat 110, .ofNat 118, .ofNat 97, .ofNat 115, .ofNat 82, .ofNat 101, .ofNat 97, .ofNat 99, .ofNat 104, .ofNat 101, .ofNat 100]]
theorem ws1 : wordsSigns ioL = wsL := by kernel_rfl
def rsL : List (List Char) := [[.ofNat 99, .ofNat 117, .ofNat 116], [.ofNat 97, .ofNat 116], [.ofNat 118, .ofNat 101, .ofNat 108, .ofNat 97, .ofNat 114, .ofNat 105, .ofNat 117, .ofNat 109, .ofNat 47, .ofNat 118, .ofNat 101, .ofNat 108, .ofNat 97, .ofNat 114, .ofNat 105, .ofNat 117, .ofNat 109, .ofNat 108, .ofNat 97, .ofNat 119, .ofNat 48, .ofNat 50, .ofNat 46, .ofNat 67, .ofNat 97, .ofNat 110, .ofNat 118, .ofNat 97, .ofNat 115, .ofNat 76, .ofNat 105, .ofNat 110, .ofNat 101, .ofNat 115], [.ofNat 118, .ofNat 101, .ofNat 108, .ofNat 97, .ofNat 114, .ofNat 105, .ofNat 117, .ofNat 109, .ofNat 47, .ofNat 118, .ofNat 101, .ofNat 108, .ofNat 97, .ofNat 114, .ofNat 105, .ofNat 117, .ofNat 109, .ofNat 108, .ofNat 97, .ofNat 119, .ofNat 48, .ofNat 50, .ofNat 46, .ofNat 67, .ofNat 97, .ofNat 110, .ofNat 118, .ofNat 97, .ofNat 115, .ofNat 84, .ofNat 104, .ofNat 105, .ofNat 110, .ofNat 103, .ofNat 115], [.ofNat 118, .ofNat 101, .ofNat 108, .ofNat 97, .ofNat 114, .ofNat 105, .ofNat 117, .ofNat 109, .ofNat 47, .ofNat 118, .ofNat 101, .ofNat 108, .ofNat 97, .ofNat 114, .ofNat 105, .ofNat 117, .ofNat 109, .ofNat 108, .ofNat 97, .ofNat 119, .ofNat 48, .ofNat 50, .ofNat 46, .ofNat 67, .ofNat 97, .ofNat 110, .ofNat 118, .ofNat 97, .ofNat 115, .ofNat 69, .ofNat 120, .ofNat 97, .ofNat 99, .ofNat 116], [.ofNat 118, .ofNat 101, .ofNat 108, .ofNat 97, .ofNat 114, .ofNat 105, .ofNat 117, .ofNat 109, .ofNat 47, .ofNat 118, .ofNat 101, .ofNat 108, .ofNat 97, .ofNat 114, .ofNat 105, .ofNat 117, .ofNat 109, .ofNat 108, .ofNat 97, .ofNat 119, .ofNat 48, .ofNat 50, .ofNat 46, .ofNat 67, .ofNat 97, .ofNat 110, .ofNat 118, .ofNat 97, .ofNat 115, .ofNat 78, .ofNat 101, .ofNat 97, .ofNat 114, .ofNat 101, .ofNat 115, .ofNat 116], [.ofNat 118, .ofNat 101, .ofNat 108, .ofNat 97, .ofNat 114, .ofNat 105, .ofNat 117, .ofNat 109, .ofNat 47, .ofNat 118, .ofNat 101, .ofNat 108, .ofNat 97, .ofNat 114, .ofNat 105, .ofNat 117, .ofNat 109, .ofNat 108, .ofNat 97, .ofNat 119, .ofNat 48, .ofNat 50, .ofNat 46, .ofNat 67, .ofNat 97, .ofNat 110, .ofNat 118, .ofNat 97, .ofNat 115, .ofNat 80, .ofNat 97, .ofNat 114, .ofNat 116, .ofNat 101, .ofNat 100], [.ofNat 118, .ofNat 101, .ofNat 108, .ofNat 97, .ofNat 114, .ofNat 105, .ofNat 117, .ofNat 109, .ofNat 47, .ofNat 118, .ofNat 101, .ofNat 108, .ofNat 97, .ofNat 114, .ofNat 105, .ofNat 117, .ofNat 109, .ofNat 108, .ofNat 97, .ofNat 119, .ofNat 48, .ofNat 50, .ofNat 46, .ofNat 67, .ofNat 97, .ofNat 110, .ofNat 118, .ofNat 97, .ofNat 115, .ofNat 65, .ofNat 108, .ofNat 105, .ofNat 107, .ofNat 101], [.ofNat 118, .ofNat 101, .ofNat 108, .ofNat 97, .ofNat 114, .ofNat 105, .ofNat 117, .ofNat 109, .ofNat 47, .ofNat 118, .ofNat 101, .ofNat 108, .ofNat 97, .ofNat 114, .ofNat 105, .ofNat 117, .ofNat 109, .ofNat 108, .ofNat 97, .ofNat 119, .ofNat 48, .ofNat 50, .ofNat 46, .ofNat 67, .ofNat 97, .ofNat 110, .ofNat 118, .ofNat 97, .ofNat 115, .ofNat 69, .ofNat 110, .ofNat 100, .ofNat 115], [.ofNat 118, .ofNat 101, .ofNat 108, .ofNat 97, .ofNat 114, .ofNat 105, .ofNat 117, .ofNat 109, .ofNat 47, .ofNat 118, .ofNat 101, .ofNat 108, .ofNat 97, .ofNat 114, .ofNat 105, .ofNat 117, .ofNat 109, .ofNat 108, .ofNat 97, .ofNat 119, .ofNat 48, .ofNat 50, .ofNat 46, .ofNat 67, .ofNat 97, .ofNat 110, .ofNat 118, .ofNat 97, .ofNat 115, .ofNat 85, .ofNat 112, .ofNat 114, .ofNat 105, .ofNat 103, .ofNat 104, .ofNat 116], [.ofNat 118, .ofNat 101, .ofNat 108, .ofNat 97, .ofNat 114, .ofNat 105, .ofNat 117, .ofNat 109, .ofNat 47, .ofNat 118, .ofNat 101, .ofNat 108, .ofNat 97, .ofNat 114, .ofNat 105, .ofNat 117, .ofNat 109, .ofNat 108, .ofNat 97, .ofNat 119, .ofNat 48, .ofNat 50, .ofNat 46, .ofNat 67, .ofNat 97, .ofNat 110, .ofNat 118, .ofNat 97, .ofNat 115, .ofNat 75, .ofNat 101, .ofNat 112, .ofNat 116], [.ofNat 118, .ofNat 101, .ofNat 108, .ofNat 97, .ofNat 114, .ofNat 105, .ofNat 117, .ofNat 109, .ofNat 47, .ofNat 118, .ofNat 101, .ofNat 108, .ofNat 97, .ofNat 114, .ofNat 105, .ofNat 117, .ofNat 109, .ofNat 108, .ofNat 97, .ofNat 119, .ofNat 48, .ofNat 50, .ofNat 46, .ofNat 67, .ofNat 97, .ofNat 110, .ofNat 118, .ofNat 97, .ofNat 115, .ofNat 78, .ofNat 101, .ofNat 101, .ofNat 100, .ofNat 101, .ofNat 100], [.ofNat 118, .ofNat 101, .ofNat 108, .ofNat 97, .ofNat 114, .ofNat 105, .ofNat 117, .ofNat 109, .ofNat 47, .ofNat 118, .ofNat 101, .ofNat 108, .ofNat 97, .ofNat 114, .ofNat 105, .ofNat 117, .ofNat 109, .ofNat 108, .ofNat 97, .ofNat 119, .ofNat 48, .ofNat 50, .ofNat 46, .ofNat 67, .ofNat 97, .ofNat 110, .ofNat 118, .ofNat 97, .ofNat 115, .ofNat 67, .ofNat 108, .ofNat 97, .ofNat 115, .ofNat 104, .ofNat 101, .ofNat 115], [.ofNat 118, .ofNat 101, .ofNat 108, .ofNat 97, .ofNat 114, .ofNat 105, .ofNat 117, .ofNat 109, .ofNat 47, .ofNat 118, .ofNat 101, .ofNat 108, .ofNat 97, .ofNat 114, .ofNat 105, .ofNat 117, .ofNat 109, .ofNat 108, .ofNat 97, .ofNat 119, .ofNat 48, .ofNat 50, .ofNat 46, .ofNat 67, .ofNat 97, .ofNat 110, .ofNat 118, .ofNat 97, .ofNat 115, .ofNat 65, .ofNat 115, .ofNat 107, .ofNat 101, .ofNat 100], [.ofNat 118, .ofNat 101, .ofNat 108, .ofNat 97, .ofNat 114, .ofNat 105, .ofNat 117, .ofNat 109, .ofNat 47, .ofNat 118, .ofNat 101, .ofNat 108, .ofNat 97, .ofNat 114, .ofNat 105, .ofNat 117, .ofNat 109, .ofNat 108, .ofNat 97, .ofNat 119, .ofNat 48, .ofNat 50, .ofNat 46, .ofNat 67, .ofNat 97, .ofNat 110, .ofNat 118, .ofNat 97, .ofNat 115, .ofNat 65, .ofNat 110, .ofNat 121, .ofNat 79, .ofNat 114, .ofNat 100, .ofNat 101, .ofNat 114], [.ofNat 118, .ofNat 101, .ofNat 108, .ofNat 97, .ofNat 114, .ofNat 105, .ofNat 117, .ofNat 109, .ofNat 47, .ofNat 118, .ofNat 101, .ofNat 108, .ofNat 97, .ofNat 114, .ofNat 105, .ofNat 117, .ofNat 109, .ofNat 108, .ofNat 97, .ofNat 119, .ofNat 48, .ofNat 50, .ofNat 46, .ofNat 67, .ofNat 97, .ofNat 110, .ofNat 118, .ofNat 97, .ofNat 115, .ofNat 83, .ofNat 116, .ofNat 97, .ofNat 116, .ofNat 101, .ofNat 115], [.ofNat 118, .ofNat 101, .ofNat 108, .ofNat 97, .ofNat 114, .ofNat 105, .ofNat 117, .ofNat 109, .ofNat 47, .ofNat 118, .ofNat 101, .ofNat 108, .ofNat 97, .ofNat 114, .ofNat 105, .ofNat 117, .ofNat 109, .ofNat 108, .ofNat 97, .ofNat 119, .ofNat 48, .ofNat 50, .ofNat 46, .ofNat 67, .ofNat 97, .ofNat 110, .ofNat 118, .ofNat 97, .ofNat 115, .ofNat 82, .ofNat 101, .ofNat 97, .ofNat 108], [.ofNat 118, .ofNat 101, .ofNat 108, .ofNat 97, .ofNat 114, .ofNat 105, .ofNat 117, .ofNat 109, .ofNat 47, .ofNat 118, .ofNat 101, .ofNat 108, .ofNat 97, .ofNat 114, .ofNat 105, .ofNat 117, .ofNat 109, .ofNat 108, .ofNat 97, .ofNat 119, .ofNat 48, .ofNat 50, .ofNat 46, .ofNat 67, .ofNat 97, .ofNat 110, .ofNat 118, .ofNat 97, .ofNat 115, .ofNat 78, .ofNat 101, .ofNat 119, .ofNat 115], [.ofNat 118, .ofNat 101, .ofNat 108, .ofNat 97, .ofNat 114, .ofNat 105, .ofNat 117, .ofNat 109, .ofNat 47, .ofNat 118, .ofNat 101, .ofNat 108, .ofNat 97, .ofNat 114, .ofNat 105, .ofNat 117, .ofNat 109, .ofNat 108, .ofNat 97, .ofNat 119, .ofNat 48, .ofNat 50, .ofNat 46, .ofNat 67, .ofNat 97, .ofNat 110, .ofNat 118, .ofNat 97, .ofNat 115, .ofNat 76, .ofNat 101, .ofNat 97, .ofNat 114, .ofNat 110, .ofNat 116], [.ofNat 118, .ofNat 101, .ofNat 108, .ofNat 97, .ofNat 114, .ofNat 105, .ofNat 117, .ofNat 109, .ofNat 47, .ofNat 118, .ofNat 101, .ofNat 108, .ofNat 97, .ofNat 114, .ofNat 105, .ofNat 117, .ofNat 109, .ofNat 108, .ofNat 97, .ofNat 119, .ofNat 48, .ofNat 50, .ofNat 46, .ofNat 67, .ofNat 97, .ofNat 110, .ofNat 118, .ofNat 97, .ofNat 115, .ofNat 82, .ofNat 101, .ofNat 97, .ofNat 99, .ofNat 104, .ofNat 101, .ofNat 100]]
theorem b1 : behindMainWord wsL = rsL := by kernel_rfl
theorem lf1 : Tryz.prog.liftsFinal = false := by
  unfold Program.liftsFinal Program.headLifts
  rw [io_l, ws1, b1]
  kernel_rfl
theorem make_cut {P : Program} {rest : List (List Char)} (h : behindMainWord (wordsSigns P.initOrder.toList) = "cut".toList :: rest) : P.make = some .cut := by
  unfold Program.make
  rw [h]
  rfl
theorem hrs : rsL = "cut".toList :: rsL.tail := by kernel_rfl
theorem make1 : Tryz.prog.make = some .cut := make_cut (by rw [io_l, ws1, b1]; exact hrs)
theorem enter_cut {P : Program} {rest : List (List Char)} (h : behindMainWord (wordsSigns P.initOrder.toList) = "cut".toList :: rest) (h1 : P.laysLater = false) (h2 : P.bearsReflect = false) (h3 : P.doorFits [] = true) : P.mayEnter = true := by
  have e : stripLifts liftWords ("cut".toList :: rest) = ([], "cut".toList :: rest) := rfl
  unfold Program.mayEnter
  rw [h]
  simp only [e, h1, h2, h3]
  simp
theorem ll1 : Tryz.prog.laysLater = false := by kernel_rfl
theorem br1 : Tryz.prog.bearsReflect = false := by kernel_rfl
theorem df1 : Tryz.prog.doorFits [] = true := by kernel_rfl
theorem enter1 : Tryz.prog.mayEnter = true := enter_cut (by rw [io_l, ws1, b1]; exact hrs) ll1 br1 df1
theorem main_of {P : Program} {h s : List Char} {r : List (List Char)} (e : wordsSigns P.initOrder.toList = h :: s :: r) (h1 : isSumSigns s = true) (h2 : h = "harness".toList) : P.mainIs = some (true, s) := by
  subst h2
  unfold Program.mainIs
  rw [e]
  simp [h1]
theorem mi1 : Tryz.prog.mainIs = some (true, "2aeeda9e0b315eb022070bc88bc80a554dcd329f773ad53586088327a2b29430".toList) := main_of (r := wsL.drop 2) (by rw [io_l, ws1]; kernel_rfl) (by kernel_rfl) rfl
theorem looks1 : Tryz.prog.looks [] = false := by kernel_rfl
theorem goes_of {P : Program} {f : FuncId} {c : OpenClaim} (hf : P.funcNamed c.func = some f) (h : P.goes f = true) : true = c.goesBy P := by
  unfold OpenClaim.goesBy Program.goesAt Program.goesFrom
  rw [hf]
  simp [h]
theorem wants_of {P : Program} {fn : Func} (h : (fn.params.toList.all fun t => !P.wantsStandIn t) = true) (j : Nat) (t : TypeId) (ht : fn.params[j]? = some t) : P.wantsStandIn t = false := by
  have := List.all_eq_true.1 h t (List.mem_of_getElem? (by simpa using ht))
  simpa using this
end Go.Gx
end

section
set_option linter.unusedSimpArgs false
set_option linter.unusedVariables false
namespace Go.Gx
open Go Go.Conc Go.Proofs
variable {main : Bool}

/-- Great -/
theorem s21 (L : Lg Tryz.prog main) (H : Facts) {B : Bk} {A : BkA} : Pure L 21 #[bkV B A] H (.bool (decide (20 < B.prof.length ∨ 20 < B.marks.length))) := by
  refine Spec.enter Tryz.func21 rfl (by simp [Tryz.f21]) fun c cs hc => ?_
  obtain ⟨prof, size, lo, hi, marks⟩ := B
  obtain ⟨pa, pc, ma, mc⟩ := A
  simp only at hc ⊢
  refine At.seq (At.region ?_); refine At.bx rfl rfl rfl rfl rfl rfl rfl fun r1 => ?_; refine At.v rfl rfl rfl rfl rfl trivial ?_; refine At.regionEnd (At.seq (At.region ?_)); refine At.fa 0 rfl rfl rfl rfl rfl rfl rfl ?_; refine At.ld 0 rfl rfl rfl rfl rfl rfl rfl rfl rfl ?_; refine At.ln rfl rfl rfl rfl rfl rfl rfl rfl ?_; refine At.cp rfl rfl rfl rfl rfl fun b6 h6 => ?_; refine At.v rfl rfl rfl rfl rfl trivial ?_
  cases b6
  · have e : ¬ 20 < prof.length := by simp at h6; omega
    refine At.fa 4 rfl rfl rfl rfl rfl rfl rfl ?_; refine At.ld 0 rfl rfl rfl rfl rfl rfl rfl rfl rfl ?_; refine At.ln rfl rfl rfl rfl rfl rfl rfl rfl ?_; refine At.cp rfl rfl rfl rfl rfl fun b11 h11 => ?_; (iterate 2 refine At.v rfl rfl rfl rfl rfl trivial ?_); refine At.regionEnd ?_
    exact At.ret Tryz.func21 (.inr ⟨_, rfl⟩) rfl (.tmp rfl .nil) (wk (hc _ _ (⟨by rw [← h11]; exact congrArg Value.bool (decide_eq_decide.2 (by dsimp only; omega)), rfl⟩)))
  · refine At.un rfl rfl rfl rfl ?_
    (iterate 3 refine At.un rfl rfl rfl rfl ?_); (iterate 2 refine At.v rfl rfl rfl rfl rfl trivial ?_); refine At.regionEnd ?_
    exact At.ret Tryz.func21 (.inr ⟨_, rfl⟩) rfl (.tmp rfl .nil) (wk (hc _ _ (⟨by simp_all [resVal]; try omega, rfl⟩)))
/-- Strictly upward, below a number. -/
def climbsM (lim : Int) : Option Int → List Int → Int
  | _, [] => 0
  | pr, x :: xs => if ¬ (0 ≤ x ∧ x ≤ lim - 1) then 6 else if (match pr with | some y => decide (x ≤ y) | none => false) = true then 7 else climbsM lim (some x) xs
end Go.Gx
end

section
set_option linter.unusedSimpArgs false
set_option linter.unusedVariables false
namespace Go.Gx
open Go Go.Conc Go.Proofs
variable {main : Bool}

set_option maxRecDepth 100000 in
set_option maxHeartbeats 4000000 in
/-- CheckBook (ref02) -/
theorem s24 (L : Lg Tryz.prog main) (H : Facts) {B : Bk} {A : BkA} (hB : BkR H B A) (hl : B.prof.length ≤ 100000) (hm : B.marks.length ≤ 100000) : Pure L 24 #[bkV B A] H (.int .i64 (bookBar B)) := by
  refine Spec.enter Tryz.func24 rfl (by simp [Tryz.f24]) fun c cs hc => ?_
  obtain ⟨prof, size, lo, hi, marks⟩ := B
  obtain ⟨pa, pc, ma, mc⟩ := A
  obtain ⟨hrp, hrm⟩ := hB
  simp only at hrp hrm hl hm
  simp only [bookBar] at hc
  refine At.seq (At.region ?_); refine At.bx rfl rfl rfl rfl rfl rfl rfl fun r1 => ?_; refine At.v rfl rfl rfl rfl rfl trivial ?_; refine At.regionEnd (At.seq (At.seq (At.region ?_))); refine At.fa 0 rfl rfl rfl rfl rfl rfl rfl ?_; refine At.ld 0 rfl rfl rfl rfl rfl rfl rfl rfl rfl ?_; refine At.ln rfl rfl rfl rfl rfl rfl rfl rfl ?_; refine At.cqb rfl rfl rfl rfl rfl rfl rfl rfl (s43 L _) fun b10 h10 => ?_; refine At.v rfl rfl rfl rfl rfl trivial ?_; refine At.regionEnd ?_
  cases b10
  · have e : profBar prof = 2 := by simp at h10; unfold profBar; rw [if_pos (by omega)]
    refine At.cond rfl ?_; refine At.seq (At.region ?_); refine At.v rfl rfl rfl rfl rfl trivial ?_; refine At.regionEnd ?_
    exact At.ret Tryz.func24 (.inr ⟨_, rfl⟩) rfl (.tmp rfl .nil) (wk (hc _ _ (⟨by simp [resVal, e], rfl⟩)))
  have hpb : profBar prof = ptsBar none prof := by simp at h10; unfold profBar; rw [if_neg (by omega)]
  simp only [hpb] at hc
  refine At.cond rfl ?_; refine At.skip (At.seq (At.seq (At.region ?_))); refine At.v rfl rfl rfl rfl rfl trivial ?_; refine At.regionEnd ?_; refine At.block ?_
  refine At.lpk (X := { j : Nat // j ≤ prof.length ∧ ptsBar (prevO prof j) (prof.drop j) = ptsBar none prof }) [1] (fun x => [(3, .int .i64 (x.1 : Int))]) (fun _ => .own r1 (.cells (List.toArray (bkC ⟨prof, size, lo, hi, marks⟩ ⟨pa, pc, ma, mc⟩)) 27 (0, 0)) :: H) (fun x => prof.length - x.1) (⟨0, Nat.zero_le _, rfl⟩) rfl ?_ (by repeat (first | exact trivial | refine ⟨rfl, ?_⟩)) sb
  rintro ⟨j, hj, hd⟩ again
  simp only at again ⊢
  refine At.seq (At.seq (At.region ?_)); refine At.v rfl rfl rfl rfl rfl trivial ?_; refine At.fa 0 rfl rfl rfl rfl rfl rfl rfl ?_; refine At.ld 0 rfl rfl rfl rfl rfl rfl rfl rfl rfl ?_; refine At.ln rfl rfl rfl rfl rfl rfl rfl rfl ?_; refine At.cp rfl rfl rfl rfl rfl fun b16 h16 => ?_; refine At.regionEnd ?_
  cases b16
  rotate_left
  · have hlt : j < prof.length := by simp at h16; omega
    obtain ⟨b, off, rfl, hc1⟩ := hrp.el (List.getElem?_eq_getElem hlt)
    rw [List.drop_eq_getElem_cons hlt, ptsBar_cons] at hd
    refine At.cond rfl ?_; refine At.skip (At.seq ?_); refine At.block ?_; refine At.seq (At.region ?_); refine At.fa 0 rfl rfl rfl rfl rfl rfl rfl ?_; refine At.ld 0 rfl rfl rfl rfl rfl rfl rfl rfl rfl ?_; refine At.v rfl rfl rfl rfl rfl trivial ?_; refine At.q rfl rfl rfl rfl (q_ia rfl rfl rfl (by assumption)) ?_; refine At.ldc rfl rfl rfl rfl rfl rfl hc1.a rfl rfl ?_; refine At.al rfl rfl rfl rfl rfl fun r4 => ?_; refine At.st 0 rfl rfl rfl rfl rfl rfl rfl rfl rfl rfl rfl rfl ?_
    refine At.regionEnd (At.seq (At.seq (At.region ?_))); refine At.fa 0 rfl rfl rfl rfl rfl rfl rfl ?_; refine At.ld 0 rfl rfl rfl rfl rfl rfl rfl rfl rfl ?_; refine At.cqb rfl rfl rfl rfl rfl rfl rfl rfl (s43 L _) fun b26 h26 => ?_; (iterate 2 refine At.v rfl rfl rfl rfl rfl trivial ?_)
    cases b26
    · rw [if_pos (by simp at h26; omega)] at hd
      (iterate 4 refine At.un rfl rfl rfl rfl ?_); refine At.v rfl rfl rfl rfl rfl trivial ?_; refine At.regionEnd ?_; refine At.cond rfl ?_; refine At.seq (At.region ?_); refine At.v rfl rfl rfl rfl rfl trivial ?_; refine At.regionEnd ?_
      exact At.ret Tryz.func24 (.inr ⟨_, rfl⟩) rfl (.tmp rfl .nil) (wk (hc _ _ (⟨by rw [← hd]; rfl, rfl⟩)))
    · refine At.fa 1 rfl rfl rfl rfl rfl rfl rfl ?_
      refine At.ld 0 rfl rfl rfl rfl rfl rfl rfl rfl rfl ?_; refine At.cqb rfl rfl rfl rfl rfl rfl rfl rfl (s43 L _) fun b31 h31 => ?_; (iterate 2 refine At.v rfl rfl rfl rfl rfl trivial ?_); refine At.regionEnd ?_
      cases b31
      · rw [if_pos (by simp at h31; omega)] at hd
        refine At.cond rfl ?_; refine At.seq (At.region ?_); refine At.v rfl rfl rfl rfl rfl trivial ?_; refine At.regionEnd ?_
        exact At.ret Tryz.func24 (.inr ⟨_, rfl⟩) rfl (.tmp rfl .nil) (wk (hc _ _ (⟨by rw [← hd]; rfl, rfl⟩)))
      · rw [if_neg (by simp at h26 h31; omega)] at hd
        cases j with
        | zero =>
          refine At.cond rfl ?_; refine At.skip (At.seq ?_); refine At.drawJ hmix [] rfl ?_; refine Pool.v 0 rfl rfl rfl rfl rfl rfl rfl trivial ?_; refine Pool.cp 1 rfl rfl rfl rfl rfl rfl rfl fun b35 h35 => ?_; refine Pool.v 2 rfl rfl rfl rfl rfl rfl rfl trivial ?_
          cases b35
          · rw [if_neg (by simp [prevO])] at hd
            refine Pool.un 3 rfl rfl rfl rfl rfl rfl ?_; refine Pool.un 4 rfl rfl rfl rfl rfl rfl ?_; refine Pool.un 5 rfl rfl rfl rfl rfl rfl ?_; refine Pool.un 6 rfl rfl rfl rfl rfl rfl ?_; refine Pool.un 7 rfl rfl rfl rfl rfl rfl ?_; refine Pool.un 8 rfl rfl rfl rfl rfl rfl ?_; refine Pool.un 9 rfl rfl rfl rfl rfl rfl ?_; refine Pool.un 10 rfl rfl rfl rfl rfl rfl ?_; refine Pool.un 11 rfl rfl rfl rfl rfl rfl ?_; refine Pool.un 12 rfl rfl rfl rfl rfl rfl ?_
            refine Pool.v 13 rfl rfl rfl rfl rfl rfl rfl trivial ?_; refine pool_done rfl rfl ?_; refine At.regionEnd ?_; refine At.cond rfl ?_; refine At.skip ?_; refine At.inBlock ?_; refine At.region ?_; refine At.v rfl rfl rfl rfl rfl trivial ?_; refine At.v rfl rfl rfl rfl rfl (by omega) ?_; refine At.v rfl rfl rfl rfl rfl trivial ?_; refine At.regionEnd ?_
            refine At.tA ((again ⟨0 + 1, hlt, by rw [← hd]; simp [prevO, hlt]⟩ (by simp; omega)))
          · simp at h35
        | succ i =>
          have hlt' : i < prof.length := by omega
          obtain ⟨b', off', e', hc2⟩ := hrp.el (List.getElem?_eq_getElem hlt')
          cases e'
          have hpr : prevO prof (i + 1) = some prof[i].2 := by simp [prevO, hlt']
          rw [hpr] at hd
          refine At.cond rfl ?_; refine At.skip (At.seq ?_); refine At.drawJ hmix [] rfl ?_; refine Pool.v 0 rfl rfl rfl rfl rfl rfl rfl trivial ?_; refine Pool.cp 1 rfl rfl rfl rfl rfl rfl rfl fun b35 h35 => ?_; refine Pool.v 2 rfl rfl rfl rfl rfl rfl rfl trivial ?_
          cases b35
          · simp at h35 <;> omega
          · refine Pool.fa 1 3 rfl rfl rfl rfl rfl rfl rfl rfl rfl ?_
            refine Pool.ld 0 4 rfl rfl rfl rfl rfl rfl rfl rfl rfl rfl rfl ?_; refine Pool.fa 0 5 rfl rfl rfl rfl rfl rfl rfl rfl rfl ?_; refine Pool.ld 1 6 rfl rfl rfl rfl rfl rfl rfl rfl rfl rfl rfl ?_; refine Pool.v 7 rfl rfl rfl rfl rfl rfl rfl trivial ?_; refine Pool.v 8 rfl rfl rfl rfl rfl rfl rfl (by omega) ?_; refine Pool.q 9 rfl rfl rfl rfl rfl (q_iaN (k := (i + 1 - 1)) rfl rfl rfl (by omega) (by assumption)) rfl ?_; refine Pool.faE 10 rfl rfl rfl rfl rfl rfl rfl rfl ?_
            refine Pool.ldc 11 rfl rfl rfl rfl rfl rfl rfl (hc2.s 1 1 rfl) rfl rfl rfl ?_; refine Pool.cp 12 rfl rfl rfl rfl rfl rfl rfl fun b46 h46 => ?_; refine Pool.v 13 rfl rfl rfl rfl rfl rfl rfl trivial ?_; refine pool_done rfl rfl ?_; refine At.regionEnd ?_
            cases b46
            · rw [if_neg (by simpa using h46)] at hd
              refine At.cond rfl ?_; refine At.skip ?_; refine At.inBlock ?_; refine At.region ?_; refine At.v rfl rfl rfl rfl rfl trivial ?_; refine At.v rfl rfl rfl rfl rfl (by omega) ?_; refine At.v rfl rfl rfl rfl rfl trivial ?_; refine At.regionEnd ?_
              refine At.tA ((again ⟨i + 1 + 1, hlt, by rw [← hd]; simp [prevO, hlt]⟩ (by simp; omega)))
            · rw [if_pos (by simpa using h46)] at hd
              refine At.cond rfl ?_; refine At.seq (At.region ?_); refine At.v rfl rfl rfl rfl rfl trivial ?_; refine At.regionEnd ?_
              exact At.ret Tryz.func24 (.inr ⟨_, rfl⟩) rfl (.tmp rfl .nil) (wk (hc _ _ (⟨by rw [← hd]; rfl, rfl⟩)))
  · have e : j = prof.length := by simp at h16; omega
    subst e
    rw [List.drop_length] at hd
    have hz : ptsBar none prof = 0 := hd.symm
    simp only [hz] at hc
    refine At.cond rfl ?_; refine At.exit rfl ?_; refine At.seq (At.seq (At.region ?_)); refine At.fa 1 rfl rfl rfl rfl rfl rfl rfl ?_; refine At.ld 0 rfl rfl rfl rfl rfl rfl rfl rfl rfl ?_; refine At.cqb rfl rfl rfl rfl rfl rfl rfl rfl (s43 L _) fun b50 h50 => ?_; (iterate 2 refine At.v rfl rfl rfl rfl rfl trivial ?_)
    cases b50
    · have e : sizeBar ⟨prof, size, lo, hi, marks⟩ = 1 := by simp at h50; unfold sizeBar; rw [if_pos (by simp only; omega)]
      (iterate 4 refine At.un rfl rfl rfl rfl ?_); (iterate 2 refine At.v rfl rfl rfl rfl rfl trivial ?_); (iterate 8 refine At.un rfl rfl rfl rfl ?_); refine At.v rfl rfl rfl rfl rfl trivial ?_; refine At.regionEnd ?_; refine At.cond rfl ?_; refine At.seq (At.region ?_); refine At.v rfl rfl rfl rfl rfl trivial ?_; refine At.regionEnd ?_
      exact At.ret Tryz.func24 (.inr ⟨_, rfl⟩) rfl (.tmp rfl .nil) (wk (hc _ _ (⟨by simp [resVal, e], rfl⟩)))
    refine At.fa 2 rfl rfl rfl rfl rfl rfl rfl ?_; refine At.ld 0 rfl rfl rfl rfl rfl rfl rfl rfl rfl ?_; refine At.cqb rfl rfl rfl rfl rfl rfl rfl rfl (s88 L _) fun b55 h55 => ?_; (iterate 3 refine At.v rfl rfl rfl rfl rfl trivial ?_)
    cases b55
    · have e : sizeBar ⟨prof, size, lo, hi, marks⟩ = 1 := by simp at h55; unfold sizeBar; rw [if_pos (by simp only; omega)]
      (iterate 8 refine At.un rfl rfl rfl rfl ?_); refine At.v rfl rfl rfl rfl rfl trivial ?_; refine At.regionEnd ?_; refine At.cond rfl ?_; refine At.seq (At.region ?_); refine At.v rfl rfl rfl rfl rfl trivial ?_; refine At.regionEnd ?_
      exact At.ret Tryz.func24 (.inr ⟨_, rfl⟩) rfl (.tmp rfl .nil) (wk (hc _ _ (⟨by simp [resVal, e], rfl⟩)))
    have e55 : 0 ≤ lo ∧ lo ≤ hi ∧ hi ≤ 90 := by simpa using h55
    have e50 : 1 ≤ size ∧ size ≤ 30 := by simpa using h50
    refine At.fa 2 rfl rfl rfl rfl rfl rfl rfl ?_; refine At.fa 3 rfl rfl rfl rfl rfl rfl rfl ?_; refine At.ld 0 rfl rfl rfl rfl rfl rfl rfl rfl rfl ?_; (iterate 2 refine At.fa 2 rfl rfl rfl rfl rfl rfl rfl ?_); refine At.ld 0 rfl rfl rfl rfl rfl rfl rfl rfl rfl ?_; refine At.v rfl rfl rfl rfl rfl (by dsimp only; omega) ?_; refine At.cp rfl rfl rfl rfl rfl fun b66 h66 => ?_; refine At.v rfl rfl rfl rfl rfl trivial ?_; refine At.regionEnd ?_
    dsimp only
    skip
    cases b66
    rotate_left
    · have e : sizeBar ⟨prof, size, lo, hi, marks⟩ = 1 := by simp at h66; unfold sizeBar; rw [if_pos (by simp only; omega)]
      refine At.cond rfl ?_; refine At.seq (At.region ?_); refine At.v rfl rfl rfl rfl rfl trivial ?_; refine At.regionEnd ?_
      exact At.ret Tryz.func24 (.inr ⟨_, rfl⟩) rfl (.tmp rfl .nil) (wk (hc _ _ (⟨by simp [resVal, e], rfl⟩)))
    have hz2 : sizeBar ⟨prof, size, lo, hi, marks⟩ = 0 := by simp at h66; unfold sizeBar; rw [if_neg (by simp only; omega)]
    simp only [hz2] at hc
    refine At.cond rfl ?_; refine At.skip (At.seq (At.seq (At.region ?_))); refine At.fa 4 rfl rfl rfl rfl rfl rfl rfl ?_; refine At.ld 0 rfl rfl rfl rfl rfl rfl rfl rfl rfl ?_; refine At.ln rfl rfl rfl rfl rfl rfl rfl rfl ?_; refine At.cp rfl rfl rfl rfl rfl fun b71 h71 => ?_; refine At.regionEnd ?_
    cases b71
    rotate_left
    · have e : mksBar marks = 2 := by simp at h71; unfold mksBar; rw [if_pos (by omega)]
      refine At.cond rfl ?_; refine At.seq (At.region ?_); refine At.v rfl rfl rfl rfl rfl trivial ?_; refine At.regionEnd ?_
      exact At.ret Tryz.func24 (.inr ⟨_, rfl⟩) rfl (.tmp rfl .nil) (wk (hc _ _ (⟨by simp [resVal, e], rfl⟩)))
    have hpm : mksBar marks = marksBar marks := by simp at h71; unfold mksBar; rw [if_neg (by omega)]
    simp only [hpm] at hc
    refine At.cond rfl ?_; refine At.skip (At.seq (At.seq (At.region ?_))); refine At.v rfl rfl rfl rfl rfl trivial ?_; refine At.regionEnd ?_; refine At.block ?_
    refine At.lpk (X := { j : Nat // j ≤ marks.length ∧ marksBar (marks.drop j) = marksBar marks }) [1] (fun x => [(5, .int .i64 (x.1 : Int))]) (fun _ => .own r1 (.cells (List.toArray (bkC ⟨prof, size, lo, hi, marks⟩ ⟨pa, pc, ma, mc⟩)) 27 (0, 0)) :: H) (fun x => marks.length - x.1) (⟨0, Nat.zero_le _, rfl⟩) rfl ?_ (by repeat (first | exact trivial | refine ⟨rfl, ?_⟩)) sb
    rintro ⟨j, hj, hd⟩ again2
    simp only at again2 ⊢
    refine At.seq (At.seq (At.region ?_)); refine At.v rfl rfl rfl rfl rfl trivial ?_; refine At.fa 4 rfl rfl rfl rfl rfl rfl rfl ?_; refine At.ld 0 rfl rfl rfl rfl rfl rfl rfl rfl rfl ?_; refine At.ln rfl rfl rfl rfl rfl rfl rfl rfl ?_; refine At.cp rfl rfl rfl rfl rfl fun b76 h76 => ?_; refine At.regionEnd ?_
    cases b76
    · have e : j = marks.length := by simp at h76; omega
      subst e
      rw [List.drop_length] at hd
      refine At.cond rfl ?_; refine At.exit rfl ?_; refine At.seq (At.region ?_); refine At.v rfl rfl rfl rfl rfl trivial ?_; refine At.regionEnd ?_
      exact At.ret Tryz.func24 (.inr ⟨_, rfl⟩) rfl (.tmp rfl .nil) (wk (hc _ _ (⟨by rw [← hd]; rfl, rfl⟩)))
    · have hlt : j < marks.length := by simp at h76; omega
      obtain ⟨b, off, rfl, hc1⟩ := hrm.el (List.getElem?_eq_getElem hlt)
      rw [List.drop_eq_getElem_cons hlt, marksBar] at hd
      refine At.cond rfl ?_; refine At.skip (At.seq ?_); refine At.block ?_; refine At.seq (At.seq (At.region ?_)); refine At.fa 4 rfl rfl rfl rfl rfl rfl rfl ?_; refine At.ld 0 rfl rfl rfl rfl rfl rfl rfl rfl rfl ?_; refine At.v rfl rfl rfl rfl rfl trivial ?_; refine At.q rfl rfl rfl rfl (q_ia rfl rfl rfl (by assumption)) ?_; refine At.faE rfl rfl rfl rfl rfl rfl ?_; refine At.ldc rfl rfl rfl rfl rfl rfl (hc1.s 0 2 rfl) rfl rfl ?_; refine At.cq rfl rfl rfl rfl rfl rfl rfl rfl (s47 L _) ?_
      refine At.v rfl rfl rfl rfl rfl trivial ?_; refine At.regionEnd (At.seq (At.region ?_)); refine At.v rfl rfl rfl rfl rfl trivial ?_; refine At.cp rfl rfl rfl rfl rfl fun b87 h87 => ?_; refine At.regionEnd ?_
      cases b87
      rotate_left
      · have e : slopeBar marks[j].1.1 marks[j].1.2 ≠ 0 := by simpa using h87
        have e2 : markBar marks[j] = slopeBar marks[j].1.1 marks[j].1.2 := by simp [markBar, e]
        rw [if_pos (by rw [e2]; exact e), e2] at hd
        refine At.cond rfl ?_; refine At.seq (At.region ?_); (iterate 2 refine At.v rfl rfl rfl rfl rfl trivial ?_); refine At.regionEnd ?_
        exact At.ret Tryz.func24 (.inr ⟨_, rfl⟩) rfl (.tmp rfl .nil) (wk (hc _ _ (⟨by rw [← hd]; rfl, rfl⟩)))
      · have e : slopeBar marks[j].1.1 marks[j].1.2 = 0 := by simpa using h87
        have e2 : markBar marks[j] = hBar marks[j].2 := by simp [markBar, e]
        rw [e2] at hd
        refine At.cond rfl ?_; refine At.skip (At.seq (At.region ?_)); refine At.fa 4 rfl rfl rfl rfl rfl rfl rfl ?_; refine At.ld 0 rfl rfl rfl rfl rfl rfl rfl rfl rfl ?_; refine At.v rfl rfl rfl rfl rfl trivial ?_; refine At.q rfl rfl rfl rfl (q_ia rfl rfl rfl (by assumption)) ?_; refine At.faE rfl rfl rfl rfl rfl rfl ?_; refine At.ldc rfl rfl rfl rfl rfl rfl (hc1.s 2 1 rfl) rfl rfl ?_; refine At.cqb rfl rfl rfl rfl rfl rfl rfl rfl (s89 L _) fun b95 h95 => ?_; refine At.v rfl rfl rfl rfl rfl trivial ?_
        refine At.regionEnd ?_
        cases b95
        · have e3 : hBar marks[j].2 = 1 := by simp at h95; unfold hBar; rw [if_neg (by omega)]
          rw [if_pos (by omega), e3] at hd
          refine At.cond rfl ?_; refine At.seq (At.region ?_); refine At.v rfl rfl rfl rfl rfl trivial ?_; refine At.regionEnd ?_
          exact At.ret Tryz.func24 (.inr ⟨_, rfl⟩) rfl (.tmp rfl .nil) (wk (hc _ _ (⟨by rw [← hd]; rfl, rfl⟩)))
        · have e3 : hBar marks[j].2 = 0 := by simp at h95; unfold hBar; rw [if_pos (by omega)]
          rw [if_neg (by omega)] at hd
          refine At.cond rfl ?_; refine At.skip ?_; refine At.inBlock ?_; refine At.region ?_; refine At.v rfl rfl rfl rfl rfl trivial ?_; refine At.v rfl rfl rfl rfl rfl (by omega) ?_; refine At.v rfl rfl rfl rfl rfl trivial ?_; refine At.regionEnd ?_
          refine At.tA ((again2 ⟨j + 1, hlt, hd⟩ (by simp; omega)))
end Go.Gx
end

section
set_option linter.unusedSimpArgs false
set_option linter.unusedVariables false
namespace Go.Gx
open Go Go.Conc Go.Proofs
variable {main : Bool}

instance : CvI Tryz.prog 53 3 .i64 := ⟨by kernel_rfl⟩
end Go.Gx
end

section
set_option linter.unusedSimpArgs false
set_option linter.unusedVariables false
namespace Go.Gx
open Go Go.Conc Go.Proofs

theorem ptsBar_pw : ∀ (ps : List R2) (pr : Option Int), ptsBar pr ps = 0 → (∀ h, pr = some h → ∀ p ∈ ps, h < p.2) ∧ ps.Pairwise (fun p q => p.2 < q.2)
  | [], pr, _ => ⟨fun _ _ _ hp => by simp at hp, List.Pairwise.nil⟩
  | p :: ps, pr, h => by
    rw [ptsBar_cons] at h
    by_cases h1 : ¬ (1 ≤ p.1 ∧ p.1 ≤ 60) ∨ ¬ (0 ≤ p.2 ∧ p.2 ≤ 90)
    · rw [if_pos h1] at h
      omega
    · rw [if_neg h1] at h
      have h3 : (∀ y, pr = some y → y < p.2) ∧ ptsBar (some p.2) ps = 0 := by
        cases pr with
        | none => exact ⟨by simp, by simpa using h⟩
        | some y =>
          by_cases hy : p.2 ≤ y
          · simp [hy] at h
          · simp [hy] at h
            exact ⟨by rintro z hz; cases hz; omega, h⟩
      obtain ⟨i1, i2⟩ := ptsBar_pw ps (some p.2) h3.2
      have i3 := i1 p.2 rfl
      refine ⟨?_, List.Pairwise.cons i3 i2⟩
      intro x hx q hq
      have h4 := h3.1 x hx
      rcases List.mem_cons.1 hq with rfl | hq
      · exact h4
      · exact Int.lt_trans h4 (i3 q hq)
theorem prof_pw {B : Bk} (h : bookBar B = 0) : B.prof.Pairwise (fun p q => p.2 < q.2) := by
  have hp : profBar B.prof = 0 := by
    unfold bookBar at h
    split at h
    · assumption
    · rename_i h1; simpa using h1
  unfold profBar at hp
  split at hp
  · cases hp
  · exact (ptsBar_pw _ _ hp).2
theorem low_mul {e d : Int} (hd : d ≠ 0) : low (e * d) d = (e, 1) := by
  unfold low lowN lowD
  have hg : ((Int.gcd (e * d) d : Nat) : Int) = if d < 0 then -d else d := by
    rw [Int.gcd_mul_left_left]
    split <;> omega
  rw [hg]
  split
  · rw [show -(e * d) = e * -d by rw [Int.mul_neg], Int.mul_tdiv_cancel _ (by omega), Int.tdiv_self (by omega)]
  · rw [Int.mul_tdiv_cancel _ hd, Int.tdiv_self hd]
end Go.Gx
end

section
set_option linter.unusedSimpArgs false
set_option linter.unusedVariables false
namespace Go.Gx
open Go Go.Conc Go.Proofs

instance : BoI Tryz.prog 4 := ⟨by kernel_rfl⟩
end Go.Gx
end

section
set_option linter.unusedSimpArgs false
set_option linter.unusedVariables false
namespace Go.Gx
open Go Go.Conc Go.Proofs
variable {main : Bool}

/-! ### the reference's piece and point that is met, and that they are the program's -/
def pdR (p q s : R2) : Int := s.2 * (q.2 - p.2) - s.1 * (q.1 - p.1)
def pnR (p : R2) (eye : Int) (s : R2) : Int := eye * s.2 + s.1 * p.1 - s.2 * p.2
def spotR (p q : R2) (n d : Int) : Spot := (low (p.1 * d + (q.1 - p.1) * n) d, low (p.2 * d + (q.2 - p.2) * n) d)
def pieceR (p q : R2) (eye : Int) (s : R2) : Option Spot :=
  if pdR p q s = 0 ∧ pnR p eye s = 0 then some (if p.1 ≤ q.1 then (low p.1 1, low p.2 1) else (low q.1 1, low q.2 1))
  else if pdR p q s < 0 then (if -pnR p eye s < 0 ∨ -pdR p q s < -pnR p eye s then none else some (spotR p q (-pnR p eye s) (-pdR p q s)))
  else if pdR p q s = 0 ∨ pnR p eye s < 0 ∨ pdR p q s < pnR p eye s then none else some (spotR p q (pnR p eye s) (pdR p q s))
def stepR (o x : Option Spot) : Option Spot :=
  match x, o with
  | none, _ => o
  | some x, none => some x
  | some x, some y => if lessW x.1 y.1 then some x else some y
def accR (ps : List R2) (eye : Int) (s : R2) (j : Nat) : Option Spot := ((ps.zip ps.tail).take j).foldl (fun o x => stepR o (pieceR x.1 x.2 eye s)) none
def meetR (ps : List R2) (eye : Int) (s : R2) : Option Spot := (ps.zip ps.tail).foldl (fun o x => stepR o (pieceR x.1 x.2 eye s)) none
theorem low_one (n : Int) : low n 1 = (n, 1) := by
  have := low_mul (e := n) (d := 1) (by decide)
  rwa [Int.mul_one] at this
theorem low_neg {n d : Int} (hd : d ≠ 0) : low (-n) (-d) = low n d := by
  unfold low lowN lowD
  rw [Int.neg_gcd, Int.gcd_neg]
  by_cases h : d < 0
  · rw [if_pos h, if_pos h, if_neg (by omega), if_neg (by omega)]
  · rw [if_neg h, if_neg h, if_pos (by omega), if_pos (by omega), Int.neg_neg, Int.neg_neg]
theorem pn_off (p : R2) (eye : Int) (s : R2) : pnR p eye s = -offL p eye s := by
  unfold pnR offL
  rw [Int.sub_mul, Int.mul_comm s.2 p.2]
  omega
theorem pd_off (p q : R2) (eye : Int) (s : R2) : pdR p q s = offL q eye s - offL p eye s := by
  unfold pdR offL
  rw [Int.sub_mul, Int.sub_mul, Int.mul_sub, Int.mul_sub, Int.mul_comm s.2 p.2, Int.mul_comm s.2 q.2]
  omega
theorem lessW_pt {p : R2} {y : Spot} (hp : PtOk p) (hy : SpotOk y) : lessW (p.1, 1) y.1 = decide (p.1 * y.1.2 < y.1.1) := by
  obtain ⟨f1, f2, _, _⟩ := hy
  unfold PtOk at hp
  have a1 := mul_bd (a := p.1) (b := y.1.2) (A := 60) (B := 3000000) (by omega) (by omega)
  unfold lessW
  dsimp only
  rw [Int.mul_one, wr_in (by omega), wr_in (by omega)]
theorem lessW_pts {p q : R2} (hp : PtOk p) (hq : PtOk q) : lessW (p.1, 1) (q.1, 1) = decide (p.1 < q.1) := by
  unfold PtOk at hp hq
  unfold lessW
  dsimp only
  rw [Int.mul_one, Int.mul_one, wr_in (by omega), wr_in (by omega)]
theorem foldl_cross {p q : R2} {eye : Int} {s : R2} (hp : PtOk p) (hq : PtOk q) (he : EyeOk eye) (hs : SlOk s) (hpq : p.2 < q.2) {o : Option Spot} (ho : ∀ y, o = some y → SpotOk y) :
    (crossM p q eye s).foldl (fun o x => stepR o (some x)) o = stepR o (pieceR p q eye s) := by
  unfold crossM pieceR
  rw [if_neg (by rintro rfl; omega), pd_off p q eye s, pn_off]
  by_cases h0 : offL p eye s = 0 ∧ offL q eye s = 0
  · rw [if_pos h0, if_pos (by omega), low_one, low_one, low_one, low_one]
    simp only [List.foldl_cons, List.foldl_nil]
    cases o with
    | none =>
      simp only [stepR, lessW_pts hq hp]
      by_cases h : p.1 ≤ q.1
      · rw [if_pos h]
        simp [Int.not_lt.2 h]
      · rw [if_neg h]
        simp [Int.not_le.1 h]
    | some y =>
      have hy := ho y rfl
      simp only [stepR, lessW_pt hp hy]
      have y2 : 0 < y.1.2 := by have := hy.f2; omega
      by_cases h1 : p.1 * y.1.2 < y.1.1
      · simp only [h1, decide_true, if_true, lessW_pts hq hp]
        by_cases h : p.1 ≤ q.1
        · rw [if_pos h]
          simp [Int.not_lt.2 h, lessW_pt hp hy, h1]
        · rw [if_neg h]
          have h2 : q.1 * y.1.2 < y.1.1 := Int.lt_trans (Int.mul_lt_mul_of_pos_right (Int.not_le.1 h) y2) h1
          simp [Int.not_le.1 h, lessW_pt hq hy, h2]
      · simp only [h1, decide_false, lessW_pt hq hy]
        by_cases h : p.1 ≤ q.1
        · rw [if_pos h]
          have h2 : ¬ q.1 * y.1.2 < y.1.1 := by
            have := Int.mul_le_mul_of_nonneg_right h (Int.le_of_lt y2)
            omega
          simp [h2, lessW_pt hp hy, lessW_pt hq hy, h1]
        · rw [if_neg h]
          simp [lessW_pt hq hy]
  · have h0' : ¬ (offL q eye s - offL p eye s = 0 ∧ -offL p eye s = 0) := by omega
    rw [if_neg h0, if_neg h0']
    generalize offL p eye s = a at *
    generalize offL q eye s = b at *
    by_cases hd : b - a < 0
    · rw [if_pos hd]
      by_cases hc : a ≤ 0 ∧ 0 ≤ b ∨ 0 ≤ a ∧ b ≤ 0
      · have g : ¬ (- -a < 0 ∨ -(b - a) < - -a) := by omega
        rw [if_pos hc, if_neg g]
        unfold spotR
        rw [show - -a = a by omega, show -(b - a) = a - b by omega]
        rfl
      · have g : - -a < 0 ∨ -(b - a) < - -a := by omega
        rw [if_neg hc, if_pos g]
        rfl
    · rw [if_neg hd]
      by_cases hc : a ≤ 0 ∧ 0 ≤ b ∨ 0 ≤ a ∧ b ≤ 0
      · have g : ¬ (b - a = 0 ∨ -a < 0 ∨ b - a < -a) := by omega
        rw [if_pos hc, if_neg g]
        unfold spotR
        have e1 : a - b = -(b - a) := by omega
        have e2 : ∀ x y : Int, x * (a - b) + y * a = -(x * (b - a) + y * -a) := by
          intro x y
          rw [e1, Int.mul_neg, Int.mul_neg]
          omega
        rw [e2, e2, e1, low_neg (by omega), low_neg (by omega)]
        rfl
      · have g : b - a = 0 ∨ -a < 0 ∨ b - a < -a := by omega
        rw [if_neg hc, if_pos g]
        rfl
theorem spotR_ok {p q : R2} {eye : Int} {s : R2} (hp : PtOk p) (hq : PtOk q) (he : EyeOk eye) (hs : SlOk s) (hpq : p.2 < q.2) : ∀ x, pieceR p q eye s = some x → SpotOk x := by
  intro x hx
  have h := foldl_cross hp hq he hs hpq (o := none) (by simp)
  rw [hx] at h
  have key : ∀ (l : List Spot) (o : Option Spot), (∀ y ∈ l, SpotOk y) → (∀ y, o = some y → SpotOk y) → ∀ y, l.foldl (fun o x => stepR o (some x)) o = some y → SpotOk y := by
    intro l
    induction l with
    | nil => intro o _ ho; exact ho
    | cons a l ih =>
      intro o hl ho
      refine ih _ (fun y hy => hl y (List.mem_cons_of_mem _ hy)) ?_
      intro y hy
      cases o with
      | none => cases hy; exact hl _ (List.mem_cons_self ..)
      | some z =>
        simp only [stepR] at hy
        split at hy
        · cases hy; exact hl _ (List.mem_cons_self ..)
        · cases hy; exact ho _ rfl
  exact key _ none (crossM_ok hp hq he hs) (by simp) x h
theorem stepR_ok {o x : Option Spot} (ho : ∀ y, o = some y → SpotOk y) (hx : ∀ y, x = some y → SpotOk y) : ∀ y, stepR o x = some y → SpotOk y := by
  intro y hy
  cases x with
  | none => exact ho y hy
  | some x =>
    cases o with
    | none => exact hx y hy
    | some z =>
      simp only [stepR] at hy
      split at hy
      · exact hx y hy
      · exact ho y hy
theorem best_fold {l : List Spot} : ∀ (one : Spot), l.foldl (fun o x => stepR o (some x)) (some one) = some (bestM (fun a b => lessW a.1 b.1) one l) := by
  induction l with
  | nil => intro one; rfl
  | cons x l ih =>
    intro one
    rw [List.foldl_cons]
    unfold bestM
    rw [← ih]
    congr 1
    simp only [stepR]
    split <;> rfl
theorem pairs_ok {ps : List R2} (hp : ∀ p ∈ ps, PtOk p) (hpw : ps.Pairwise (fun p q => p.2 < q.2)) : ∀ x ∈ ps.zip ps.tail, PtOk x.1 ∧ PtOk x.2 ∧ x.1.2 < x.2.2 := by
  rintro ⟨p, q⟩ hx
  refine ⟨hp _ (List.of_mem_zip hx).1, hp _ (List.mem_of_mem_tail (List.of_mem_zip hx).2), ?_⟩
  obtain ⟨i, hi, e⟩ := List.getElem_of_mem hx
  simp only [List.getElem_zip, List.getElem_tail, Prod.mk.injEq] at e
  obtain ⟨rfl, rfl⟩ := e
  simp at hi
  exact List.pairwise_iff_getElem.1 hpw i (i + 1) (by omega) (by omega) (by omega)
/-- The reference meets the canvas where the program does. -/
theorem meetR_eq {ps : List R2} {eye : Int} {s : R2} (hp : ∀ p ∈ ps, PtOk p) (hpw : ps.Pairwise (fun p q => p.2 < q.2)) (he : EyeOk eye) (hs : SlOk s) : meetR ps eye s = meetM ps eye s := by
  have hall := pairs_ok hp hpw
  unfold meetR meetM piecesM
  generalize ps.zip ps.tail = l at hall
  have key : ∀ (l : List (R2 × R2)) (o : Option Spot), (∀ x ∈ l, PtOk x.1 ∧ PtOk x.2 ∧ x.1.2 < x.2.2) → (∀ y, o = some y → SpotOk y) →
      l.foldl (fun o x => stepR o (pieceR x.1 x.2 eye s)) o = (l.flatMap fun x => crossM x.1 x.2 eye s).foldl (fun o x => stepR o (some x)) o := by
    intro l
    induction l with
    | nil => intros; rfl
    | cons x l ih =>
      intro o hl ho
      obtain ⟨h1, h2, h3⟩ := hl x (List.mem_cons_self ..)
      rw [List.foldl_cons, List.flatMap_cons, List.foldl_append, foldl_cross h1 h2 he hs h3 ho]
      exact ih _ (fun y hy => hl y (List.mem_cons_of_mem _ hy)) (stepR_ok ho (spotR_ok h1 h2 he hs h3))
  rw [key l none hall (by simp)]
  cases h : (l.flatMap fun x => crossM x.1 x.2 eye s) with
  | nil => rfl
  | cons x r => exact best_fold x
theorem meetR_bk {B : Bk} {eye : Int} {s : R2} (hz : bookBar B = 0) (he : EyeOk eye) (hs : SlOk s) : meetR B.prof eye s = meetM B.prof eye s := meetR_eq (bounds_of_bar hz).2.2.1 (prof_pw hz) he hs
theorem accR_ok {B : Bk} {eye : Int} {s : R2} (hz : bookBar B = 0) (he : EyeOk eye) (hs : SlOk s) (j : Nat) : ∀ y, accR B.prof eye s j = some y → SpotOk y := by
  have hall := pairs_ok (bounds_of_bar hz).2.2.1 (prof_pw hz)
  unfold accR
  have key : ∀ (l : List (R2 × R2)) (o : Option Spot), (∀ x ∈ l, PtOk x.1 ∧ PtOk x.2 ∧ x.1.2 < x.2.2) → (∀ y, o = some y → SpotOk y) →
      ∀ y, l.foldl (fun o x => stepR o (pieceR x.1 x.2 eye s)) o = some y → SpotOk y := by
    intro l
    induction l with
    | nil => intro o _ ho; exact ho
    | cons x l ih =>
      intro o hl ho
      obtain ⟨h1, h2, h3⟩ := hl x (List.mem_cons_self ..)
      exact ih _ (fun y hy => hl y (List.mem_cons_of_mem _ hy)) (stepR_ok ho (spotR_ok h1 h2 he hs h3))
  exact key _ none (fun x hx => hall x (List.mem_of_mem_take hx)) (by simp)
theorem accR_succ {ps : List R2} {eye : Int} {s : R2} {j : Nat} (h : j + 1 < ps.length) : accR ps eye s (j + 1) = stepR (accR ps eye s j) (pieceR ps[j] ps[j + 1] eye s) := by
  unfold accR
  rw [List.take_add_one, List.foldl_append]
  have : (ps.zip ps.tail)[j]? = some (ps[j], ps[j + 1]) := by
    rw [List.getElem?_eq_getElem (by simp; omega), List.getElem_zip, List.getElem_tail]
  rw [this]
  rfl
theorem accR_all {ps : List R2} {eye : Int} {s : R2} {j : Nat} (h : ps.length ≤ j + 1) : accR ps eye s j = meetR ps eye s := by
  unfold accR meetR
  rw [List.take_of_length_le (by simp; omega)]
end Go.Gx
end

section
set_option linter.unusedSimpArgs false
set_option linter.unusedVariables false
namespace Go.Gx
open Go Go.Conc Go.Proofs
variable {main : Bool}

set_option maxRecDepth 100000 in
set_option maxHeartbeats 4000000 in
/-- onPiece (ref02) -/
theorem s155 (L : Lg Tryz.prog main) (H : Facts) {p q : R2} {eye : Int} {s : R2} (hp : PtOk p) (hq : PtOk q) (he : EyeOk eye) (hs : SlOk s) :
    Pure L 155 #[rV p, rV q, .int .i64 eye, rV s] H (.tuple #[rV ((pieceR p q eye s).getD ((0, 0), (0, 0))).1, rV ((pieceR p q eye s).getD ((0, 0), (0, 0))).2, .bool (pieceR p q eye s).isSome]) := by
  refine Spec.enter Tryz.func155 rfl (by simp [Tryz.f155]) fun c cs hc => ?_
  unfold PtOk at hp hq
  unfold EyeOk at he
  unfold SlOk at hs
  have b1 := mul_bd (a := s.2) (b := q.2 - p.2) (A := 10000) (B := 90) (by omega) (by omega)
  have b2 := mul_bd (a := s.1) (b := q.1 - p.1) (A := 10000) (B := 60) (by omega) (by omega)
  have b3 := mul_bd (a := eye) (b := s.2) (A := 90) (B := 10000) (by omega) (by omega)
  have b4 := mul_bd (a := s.1) (b := p.1) (A := 10000) (B := 60) (by omega) (by omega)
  have b5 := mul_bd (a := s.2) (b := p.2) (A := 10000) (B := 90) (by omega) (by omega)
  have hd : (pdR p q s).natAbs ≤ 1500000 := by unfold pdR; omega
  have hn : (pnR p eye s).natAbs ≤ 2400000 := by unfold pnR; omega
  have e1 : s.2 * (q.2 - p.2) - s.1 * (q.1 - p.1) = pdR p q s := rfl
  have e2 : eye * s.2 + s.1 * p.1 - s.2 * p.2 = pnR p eye s := rfl
  have m1 : Mid 1 := by omega
  refine At.seq (At.region ?_); refine At.bx rfl rfl rfl rfl rfl rfl rfl fun r4 => ?_; refine At.bx rfl rfl rfl rfl rfl rfl rfl fun r5 => ?_; refine At.bx rfl rfl rfl rfl rfl rfl rfl fun r7 => ?_; refine At.al rfl rfl rfl rfl rfl fun r8 => ?_; refine At.al rfl rfl rfl rfl rfl fun r9 => ?_; refine At.v rfl rfl rfl rfl rfl trivial ?_; refine At.regionEnd (At.seq ?_); refine At.drawJ hmix [] rfl ?_; refine Pool.fa 0 0 rfl rfl rfl rfl rfl rfl rfl rfl rfl ?_
  refine Pool.ld 3 1 rfl rfl rfl rfl rfl rfl rfl rfl rfl rfl rfl ?_; refine Pool.fa 0 2 rfl rfl rfl rfl rfl rfl rfl rfl rfl ?_; refine Pool.ld 4 3 rfl rfl rfl rfl rfl rfl rfl rfl rfl rfl rfl ?_; refine Pool.v 4 rfl rfl rfl rfl rfl rfl rfl (by omega) ?_; refine Pool.fa 1 5 rfl rfl rfl rfl rfl rfl rfl rfl rfl ?_; refine Pool.ld 3 6 rfl rfl rfl rfl rfl rfl rfl rfl rfl rfl rfl ?_; refine Pool.fa 1 7 rfl rfl rfl rfl rfl rfl rfl rfl rfl ?_; refine Pool.ld 4 8 rfl rfl rfl rfl rfl rfl rfl rfl rfl rfl rfl ?_
  refine Pool.v 9 rfl rfl rfl rfl rfl rfl rfl (by omega) ?_; refine Pool.v 10 rfl rfl rfl rfl rfl rfl rfl trivial ?_; refine Pool.v 11 rfl rfl rfl rfl rfl rfl rfl trivial ?_; refine pool_done rfl rfl ?_; refine At.regionEnd (At.seq (At.region ?_)); refine At.fa 1 rfl rfl rfl rfl rfl rfl rfl ?_; refine At.ld 2 rfl rfl rfl rfl rfl rfl rfl rfl rfl ?_; refine At.v rfl rfl rfl rfl rfl trivial ?_; refine At.v rfl rfl rfl rfl rfl (by omega) ?_; refine At.fa 0 rfl rfl rfl rfl rfl rfl rfl ?_
  refine At.ld 2 rfl rfl rfl rfl rfl rfl rfl rfl rfl ?_; refine At.v rfl rfl rfl rfl rfl trivial ?_; (iterate 2 refine At.v rfl rfl rfl rfl rfl (by omega) ?_); refine At.v rfl rfl rfl rfl rfl trivial ?_; refine At.regionEnd (At.seq (At.region ?_)); refine At.v rfl rfl rfl rfl rfl trivial ?_; refine At.fa 1 rfl rfl rfl rfl rfl rfl rfl ?_; refine At.ld 2 rfl rfl rfl rfl rfl rfl rfl rfl rfl ?_; refine At.v rfl rfl rfl rfl rfl (by omega) ?_; refine At.fa 0 rfl rfl rfl rfl rfl rfl rfl ?_
  refine At.ld 2 rfl rfl rfl rfl rfl rfl rfl rfl rfl ?_; refine At.fa 0 rfl rfl rfl rfl rfl rfl rfl ?_; refine At.ld 4 rfl rfl rfl rfl rfl rfl rfl rfl rfl ?_; (iterate 2 refine At.v rfl rfl rfl rfl rfl (by omega) ?_); refine At.fa 1 rfl rfl rfl rfl rfl rfl rfl ?_; refine At.ld 2 rfl rfl rfl rfl rfl rfl rfl rfl rfl ?_; refine At.fa 1 rfl rfl rfl rfl rfl rfl rfl ?_; refine At.ld 4 rfl rfl rfl rfl rfl rfl rfl rfl rfl ?_; (iterate 2 refine At.v rfl rfl rfl rfl rfl (by omega) ?_)
  refine At.v rfl rfl rfl rfl rfl trivial ?_; refine At.regionEnd (At.seq (At.seq (At.region ?_))); refine At.v rfl rfl rfl rfl rfl trivial ?_; refine At.cp rfl rfl rfl rfl rfl fun b51 h51 => ?_; refine At.v rfl rfl rfl rfl rfl trivial ?_
  rw [e1, e2]
  rw [e1] at h51
  unfold pieceR at hc
  clear e1 e2
  generalize pdR p q s = d at *
  generalize pnR p eye s = n at *
  clear b1 b2 b3 b4 b5
  have c1 := mul_bd (a := p.1) (b := d) (A := 60) (B := 1500000) (by omega) hd
  have c2 := mul_bd (a := p.2) (b := d) (A := 90) (B := 1500000) (by omega) hd
  have c3 := mul_bd (a := q.1 - p.1) (b := n) (A := 60) (B := 2400000) (by omega) hn
  have c4 := mul_bd (a := q.2 - p.2) (b := n) (A := 90) (B := 2400000) (by omega) hn
  cases b51
  · have g0 : ¬ (d = 0 ∧ n = 0) := by simp at h51; omega
    simp only [if_neg g0] at hc
    (iterate 2 refine At.un rfl rfl rfl rfl ?_); refine At.v rfl rfl rfl rfl rfl trivial ?_; refine At.regionEnd ?_; refine At.cond rfl ?_; refine At.skip (At.seq (At.seq (At.region ?_))); refine At.v rfl rfl rfl rfl rfl trivial ?_; refine At.cp rfl rfl rfl rfl rfl fun b74 h74 => ?_; refine At.regionEnd ?_
    cases b74
    · have g1 : ¬ d < 0 := by simpa using h74
      simp only [if_neg g1] at hc
      refine At.cond rfl ?_; refine At.skip (At.seq (At.seq (At.region ?_))); refine At.v rfl rfl rfl rfl rfl trivial ?_; refine At.cp rfl rfl rfl rfl rfl fun b80 h80 => ?_; refine At.v rfl rfl rfl rfl rfl trivial ?_
      cases b80
      · have d1 : d ≠ 0 := by simpa using h80
        refine At.v rfl rfl rfl rfl rfl trivial ?_; refine At.cp rfl rfl rfl rfl rfl fun b83 h83 => ?_; (iterate 2 refine At.v rfl rfl rfl rfl rfl trivial ?_)
        cases b83
        · have n1 : ¬ n < 0 := by simpa using h83
          (iterate 2 refine At.v rfl rfl rfl rfl rfl trivial ?_); refine At.cp rfl rfl rfl rfl rfl fun b88 h88 => ?_; refine At.v rfl rfl rfl rfl rfl trivial ?_; refine At.regionEnd ?_
          cases b88
          · have g2 : ¬ (d = 0 ∨ n < 0 ∨ d < n) := by simp at h88; omega
            simp only [if_neg g2] at hc
            refine At.cond rfl ?_; refine At.skip (At.seq ?_); refine At.drawJ hmix [1, 0] rfl ?_; refine Pool.fa 0 0 rfl rfl rfl rfl rfl rfl rfl rfl rfl ?_; refine Pool.ld 2 1 rfl rfl rfl rfl rfl rfl rfl rfl rfl rfl rfl ?_; refine Pool.v 2 rfl rfl rfl rfl rfl rfl rfl trivial ?_; refine Pool.v 3 rfl rfl rfl rfl rfl rfl rfl (by omega) ?_; refine Pool.v 4 rfl rfl rfl rfl rfl rfl rfl trivial ?_; refine Pool.v 5 rfl rfl rfl rfl rfl rfl rfl trivial ?_; refine Pool.v 6 rfl rfl rfl rfl rfl rfl rfl (by omega) ?_
            refine Pool.v 7 rfl rfl rfl rfl rfl rfl rfl (by omega) ?_; refine Pool.v 8 rfl rfl rfl rfl rfl rfl rfl trivial ?_; refine Pool.cq 9 rfl rfl rfl rfl rfl rfl rfl rfl rfl (fun H hs => s46 L H bs bs bs) ?_; refine Pool.fa 1 10 rfl rfl rfl rfl rfl rfl rfl rfl rfl ?_; refine Pool.ld 2 11 rfl rfl rfl rfl rfl rfl rfl rfl rfl rfl rfl ?_; refine Pool.v 12 rfl rfl rfl rfl rfl rfl rfl trivial ?_; refine Pool.v 13 rfl rfl rfl rfl rfl rfl rfl (by omega) ?_
            refine Pool.v 14 rfl rfl rfl rfl rfl rfl rfl trivial ?_; refine Pool.v 15 rfl rfl rfl rfl rfl rfl rfl trivial ?_; refine Pool.v 16 rfl rfl rfl rfl rfl rfl rfl (by omega) ?_; refine Pool.v 17 rfl rfl rfl rfl rfl rfl rfl (by omega) ?_; refine Pool.v 18 rfl rfl rfl rfl rfl rfl rfl trivial ?_; refine Pool.cq 19 rfl rfl rfl rfl rfl rfl rfl rfl rfl (fun H hs => s46 L H bs bs bs) ?_; refine Pool.st 1 20 rfl rfl rfl rfl rfl rfl rfl rfl rfl rfl rfl rfl rfl rfl rfl rfl rfl rfl sb ?_
            refine Pool.st 0 21 rfl rfl rfl rfl rfl rfl rfl rfl rfl rfl rfl rfl rfl rfl rfl rfl rfl rfl sb ?_; refine Pool.v 22 rfl rfl rfl rfl rfl rfl rfl trivial ?_; refine pool_done rfl rfl ?_; refine At.regionEnd ?_
            exact At.ret Tryz.func155 (.inr ⟨_, rfl⟩) rfl (.aggJ 1 rfl rfl rfl (.aggJ 0 rfl rfl rfl (.tmp rfl .nil))) (wk (hc _ _ (⟨by rfl, rfl⟩)))
          · have g2 : (d = 0 ∨ n < 0 ∨ d < n) := by simp at h88; omega
            simp only [if_pos g2] at hc
            refine At.cond rfl ?_; refine At.seq (At.region ?_); (iterate 2 refine At.q rfl rfl rfl rfl (q_build rfl rfl rfl) ?_); refine At.st 1 rfl rfl rfl rfl rfl rfl rfl rfl rfl rfl rfl rfl ?_; refine At.st 0 rfl rfl rfl rfl rfl rfl rfl rfl rfl rfl rfl rfl ?_; refine At.v rfl rfl rfl rfl rfl trivial ?_; refine At.regionEnd ?_
            exact At.ret Tryz.func155 (.inr ⟨_, rfl⟩) rfl (.aggJ 1 rfl rfl rfl (.aggJ 0 rfl rfl rfl (.tmp rfl .nil))) (wk (hc _ _ (⟨by rfl, rfl⟩)))
        · have g2 : (d = 0 ∨ n < 0 ∨ d < n) := by simp at h83; omega
          simp only [if_pos g2] at hc
          (iterate 3 refine At.un rfl rfl rfl rfl ?_); refine At.v rfl rfl rfl rfl rfl trivial ?_; refine At.regionEnd ?_; refine At.cond rfl ?_; refine At.seq (At.region ?_); (iterate 2 refine At.q rfl rfl rfl rfl (q_build rfl rfl rfl) ?_); refine At.st 1 rfl rfl rfl rfl rfl rfl rfl rfl rfl rfl rfl rfl ?_; refine At.st 0 rfl rfl rfl rfl rfl rfl rfl rfl rfl rfl rfl rfl ?_; refine At.v rfl rfl rfl rfl rfl trivial ?_; refine At.regionEnd ?_
          exact At.ret Tryz.func155 (.inr ⟨_, rfl⟩) rfl (.aggJ 1 rfl rfl rfl (.aggJ 0 rfl rfl rfl (.tmp rfl .nil))) (wk (hc _ _ (⟨by rfl, rfl⟩)))
      · have d1 : d = 0 := by simpa using h80
        have g2 : (d = 0 ∨ n < 0 ∨ d < n) := .inl d1
        simp only [if_pos g2] at hc
        (iterate 2 refine At.un rfl rfl rfl rfl ?_); (iterate 2 refine At.v rfl rfl rfl rfl rfl trivial ?_); (iterate 3 refine At.un rfl rfl rfl rfl ?_); refine At.v rfl rfl rfl rfl rfl trivial ?_; refine At.regionEnd ?_; refine At.cond rfl ?_; refine At.seq (At.region ?_); (iterate 2 refine At.q rfl rfl rfl rfl (q_build rfl rfl rfl) ?_); refine At.st 1 rfl rfl rfl rfl rfl rfl rfl rfl rfl rfl rfl rfl ?_; refine At.st 0 rfl rfl rfl rfl rfl rfl rfl rfl rfl rfl rfl rfl ?_
        refine At.v rfl rfl rfl rfl rfl trivial ?_; refine At.regionEnd ?_
        exact At.ret Tryz.func155 (.inr ⟨_, rfl⟩) rfl (.aggJ 1 rfl rfl rfl (.aggJ 0 rfl rfl rfl (.tmp rfl .nil))) (wk (hc _ _ (⟨by rfl, rfl⟩)))
    · have g1 : d < 0 := by simpa using h74
      simp only [if_pos g1] at hc
      have c5 : (p.1 * -d).natAbs ≤ 60 * 1500000 := by rw [Int.mul_neg, Int.natAbs_neg]; exact c1
      have c6 : (p.2 * -d).natAbs ≤ 90 * 1500000 := by rw [Int.mul_neg, Int.natAbs_neg]; exact c2
      have c7 : ((q.1 - p.1) * -n).natAbs ≤ 60 * 2400000 := by rw [Int.mul_neg, Int.natAbs_neg]; exact c3
      have c8 : ((q.2 - p.2) * -n).natAbs ≤ 90 * 2400000 := by rw [Int.mul_neg, Int.natAbs_neg]; exact c4
      refine At.cond rfl ?_; refine At.region ?_; refine At.v rfl rfl rfl rfl rfl trivial ?_; refine At.v rfl rfl rfl rfl rfl (by omega) ?_; refine At.v rfl rfl rfl rfl rfl trivial ?_; refine At.v rfl rfl rfl rfl rfl (by omega) ?_; (iterate 2 refine At.v rfl rfl rfl rfl rfl trivial ?_); refine At.regionEnd (At.seq (At.seq (At.region ?_))); refine At.v rfl rfl rfl rfl rfl trivial ?_; refine At.cp rfl rfl rfl rfl rfl fun b80 h80 => ?_; refine At.v rfl rfl rfl rfl rfl trivial ?_
      cases b80
      · have d1 : -d ≠ 0 := by simpa using h80
        refine At.v rfl rfl rfl rfl rfl trivial ?_; refine At.cp rfl rfl rfl rfl rfl fun b83 h83 => ?_; (iterate 2 refine At.v rfl rfl rfl rfl rfl trivial ?_)
        cases b83
        · have n1 : ¬ -n < 0 := by simpa using h83
          (iterate 2 refine At.v rfl rfl rfl rfl rfl trivial ?_); refine At.cp rfl rfl rfl rfl rfl fun b88 h88 => ?_; refine At.v rfl rfl rfl rfl rfl trivial ?_; refine At.regionEnd ?_
          cases b88
          · have g2 : ¬ (-n < 0 ∨ -d < -n) := by simp at h88; omega
            simp only [if_neg g2] at hc
            refine At.cond rfl ?_; refine At.skip (At.seq ?_); refine At.drawJ hmix [1, 0] rfl ?_; refine Pool.fa 0 0 rfl rfl rfl rfl rfl rfl rfl rfl rfl ?_; refine Pool.ld 2 1 rfl rfl rfl rfl rfl rfl rfl rfl rfl rfl rfl ?_; refine Pool.v 2 rfl rfl rfl rfl rfl rfl rfl trivial ?_; refine Pool.v 3 rfl rfl rfl rfl rfl rfl rfl (by omega) ?_; refine Pool.v 4 rfl rfl rfl rfl rfl rfl rfl trivial ?_; refine Pool.v 5 rfl rfl rfl rfl rfl rfl rfl trivial ?_; refine Pool.v 6 rfl rfl rfl rfl rfl rfl rfl (by omega) ?_
            refine Pool.v 7 rfl rfl rfl rfl rfl rfl rfl (by omega) ?_; refine Pool.v 8 rfl rfl rfl rfl rfl rfl rfl trivial ?_; refine Pool.cq 9 rfl rfl rfl rfl rfl rfl rfl rfl rfl (fun H hs => s46 L H bs bs bs) ?_; refine Pool.fa 1 10 rfl rfl rfl rfl rfl rfl rfl rfl rfl ?_; refine Pool.ld 2 11 rfl rfl rfl rfl rfl rfl rfl rfl rfl rfl rfl ?_; refine Pool.v 12 rfl rfl rfl rfl rfl rfl rfl trivial ?_; refine Pool.v 13 rfl rfl rfl rfl rfl rfl rfl (by omega) ?_
            refine Pool.v 14 rfl rfl rfl rfl rfl rfl rfl trivial ?_; refine Pool.v 15 rfl rfl rfl rfl rfl rfl rfl trivial ?_; refine Pool.v 16 rfl rfl rfl rfl rfl rfl rfl (by omega) ?_; refine Pool.v 17 rfl rfl rfl rfl rfl rfl rfl (by omega) ?_; refine Pool.v 18 rfl rfl rfl rfl rfl rfl rfl trivial ?_; refine Pool.cq 19 rfl rfl rfl rfl rfl rfl rfl rfl rfl (fun H hs => s46 L H bs bs bs) ?_; refine Pool.st 1 20 rfl rfl rfl rfl rfl rfl rfl rfl rfl rfl rfl rfl rfl rfl rfl rfl rfl rfl sb ?_
            refine Pool.st 0 21 rfl rfl rfl rfl rfl rfl rfl rfl rfl rfl rfl rfl rfl rfl rfl rfl rfl rfl sb ?_; refine Pool.v 22 rfl rfl rfl rfl rfl rfl rfl trivial ?_; refine pool_done rfl rfl ?_; refine At.regionEnd ?_
            exact At.ret Tryz.func155 (.inr ⟨_, rfl⟩) rfl (.aggJ 1 rfl rfl rfl (.aggJ 0 rfl rfl rfl (.tmp rfl .nil))) (wk (hc _ _ (⟨by rfl, rfl⟩)))
          · have g2 : (-n < 0 ∨ -d < -n) := by simp at h88; omega
            simp only [if_pos g2] at hc
            refine At.cond rfl ?_; refine At.seq (At.region ?_); (iterate 2 refine At.q rfl rfl rfl rfl (q_build rfl rfl rfl) ?_); refine At.st 1 rfl rfl rfl rfl rfl rfl rfl rfl rfl rfl rfl rfl ?_; refine At.st 0 rfl rfl rfl rfl rfl rfl rfl rfl rfl rfl rfl rfl ?_; refine At.v rfl rfl rfl rfl rfl trivial ?_; refine At.regionEnd ?_
            exact At.ret Tryz.func155 (.inr ⟨_, rfl⟩) rfl (.aggJ 1 rfl rfl rfl (.aggJ 0 rfl rfl rfl (.tmp rfl .nil))) (wk (hc _ _ (⟨by rfl, rfl⟩)))
        · have g2 : (-n < 0 ∨ -d < -n) := by simp at h83; omega
          simp only [if_pos g2] at hc
          (iterate 3 refine At.un rfl rfl rfl rfl ?_); refine At.v rfl rfl rfl rfl rfl trivial ?_; refine At.regionEnd ?_; refine At.cond rfl ?_; refine At.seq (At.region ?_); (iterate 2 refine At.q rfl rfl rfl rfl (q_build rfl rfl rfl) ?_); refine At.st 1 rfl rfl rfl rfl rfl rfl rfl rfl rfl rfl rfl rfl ?_; refine At.st 0 rfl rfl rfl rfl rfl rfl rfl rfl rfl rfl rfl rfl ?_; refine At.v rfl rfl rfl rfl rfl trivial ?_; refine At.regionEnd ?_
          exact At.ret Tryz.func155 (.inr ⟨_, rfl⟩) rfl (.aggJ 1 rfl rfl rfl (.aggJ 0 rfl rfl rfl (.tmp rfl .nil))) (wk (hc _ _ (⟨by rfl, rfl⟩)))
      · have d1 : -d = 0 := by simpa using h80
        omega
  · have d1 : d = 0 := by simpa using h51
    refine At.v rfl rfl rfl rfl rfl trivial ?_; refine At.cp rfl rfl rfl rfl rfl fun b54 h54 => ?_; refine At.v rfl rfl rfl rfl rfl trivial ?_; refine At.regionEnd ?_
    cases b54
    · have n1 : n ≠ 0 := by simpa using h54
      have g0 : ¬ (d = 0 ∧ n = 0) := by omega
      have g1 : ¬ d < 0 := by omega
      have g2 : d = 0 ∨ n < 0 ∨ d < n := by omega
      simp only [if_neg g0, if_neg g1, if_pos g2] at hc
      refine At.cond rfl ?_; refine At.skip (At.seq (At.seq (At.region ?_))); refine At.v rfl rfl rfl rfl rfl trivial ?_; refine At.cp rfl rfl rfl rfl rfl fun b74 h74 => ?_; refine At.regionEnd ?_
      have e74 : b74 = false := by rw [← h74]; simp; omega
      subst e74
      refine At.cond rfl ?_; refine At.skip (At.seq (At.seq (At.region ?_))); refine At.v rfl rfl rfl rfl rfl trivial ?_; refine At.cp rfl rfl rfl rfl rfl fun b80 h80 => ?_; refine At.v rfl rfl rfl rfl rfl trivial ?_
      have e80 : b80 = true := by rw [← h80]; simp; omega
      subst e80
      (iterate 2 refine At.un rfl rfl rfl rfl ?_); (iterate 2 refine At.v rfl rfl rfl rfl rfl trivial ?_); (iterate 3 refine At.un rfl rfl rfl rfl ?_); refine At.v rfl rfl rfl rfl rfl trivial ?_; refine At.regionEnd ?_; refine At.cond rfl ?_; refine At.seq (At.region ?_); (iterate 2 refine At.q rfl rfl rfl rfl (q_build rfl rfl rfl) ?_); refine At.st 1 rfl rfl rfl rfl rfl rfl rfl rfl rfl rfl rfl rfl ?_; refine At.st 0 rfl rfl rfl rfl rfl rfl rfl rfl rfl rfl rfl rfl ?_
      refine At.v rfl rfl rfl rfl rfl trivial ?_; refine At.regionEnd ?_
      exact At.ret Tryz.func155 (.inr ⟨_, rfl⟩) rfl (.aggJ 1 rfl rfl rfl (.aggJ 0 rfl rfl rfl (.tmp rfl .nil))) (wk (hc _ _ (⟨by rfl, rfl⟩)))
    · have g0 : d = 0 ∧ n = 0 := ⟨d1, by simpa using h54⟩
      simp only [if_pos g0] at hc
      refine At.cond rfl ?_; refine At.seq (At.seq (At.region ?_)); refine At.fa 0 rfl rfl rfl rfl rfl rfl rfl ?_; refine At.ld 4 rfl rfl rfl rfl rfl rfl rfl rfl rfl ?_; refine At.fa 0 rfl rfl rfl rfl rfl rfl rfl ?_; refine At.ld 3 rfl rfl rfl rfl rfl rfl rfl rfl rfl ?_; refine At.cp rfl rfl rfl rfl rfl fun b60 h60 => ?_; refine At.regionEnd ?_
      cases b60
      · have g1 : ¬ p.1 ≤ q.1 := by simpa using h60
        simp only [if_neg g1] at hc
        refine At.cond rfl ?_; refine At.skip (At.seq ?_); refine At.drawJ hmix [1, 0] rfl ?_; refine Pool.fa 0 0 rfl rfl rfl rfl rfl rfl rfl rfl rfl ?_; refine Pool.ld 1 1 rfl rfl rfl rfl rfl rfl rfl rfl rfl rfl rfl ?_; refine Pool.cq 2 rfl rfl rfl rfl rfl rfl rfl rfl rfl (fun H hs => s46 L H bs bs bs) ?_; refine Pool.fa 1 3 rfl rfl rfl rfl rfl rfl rfl rfl rfl ?_; refine Pool.ld 1 4 rfl rfl rfl rfl rfl rfl rfl rfl rfl rfl rfl ?_
        refine Pool.cq 5 rfl rfl rfl rfl rfl rfl rfl rfl rfl (fun H hs => s46 L H bs bs bs) ?_; refine Pool.st 1 6 rfl rfl rfl rfl rfl rfl rfl rfl rfl rfl rfl rfl rfl rfl rfl rfl rfl rfl sb ?_; refine Pool.st 0 7 rfl rfl rfl rfl rfl rfl rfl rfl rfl rfl rfl rfl rfl rfl rfl rfl rfl rfl sb ?_; refine Pool.v 8 rfl rfl rfl rfl rfl rfl rfl trivial ?_; refine pool_done rfl rfl ?_; refine At.regionEnd ?_
        exact At.ret Tryz.func155 (.inr ⟨_, rfl⟩) rfl (.aggJ 1 rfl rfl rfl (.aggJ 0 rfl rfl rfl (.tmp rfl .nil))) (wk (hc _ _ (⟨by rfl, rfl⟩)))
      · have g1 : p.1 ≤ q.1 := by simpa using h60
        simp only [if_pos g1] at hc
        refine At.cond rfl ?_; refine At.seq ?_; refine At.drawJ hmix [1, 0] rfl ?_; refine Pool.fa 0 0 rfl rfl rfl rfl rfl rfl rfl rfl rfl ?_; refine Pool.ld 2 1 rfl rfl rfl rfl rfl rfl rfl rfl rfl rfl rfl ?_; refine Pool.cq 2 rfl rfl rfl rfl rfl rfl rfl rfl rfl (fun H hs => s46 L H bs bs bs) ?_; refine Pool.fa 1 3 rfl rfl rfl rfl rfl rfl rfl rfl rfl ?_; refine Pool.ld 2 4 rfl rfl rfl rfl rfl rfl rfl rfl rfl rfl rfl ?_
        refine Pool.cq 5 rfl rfl rfl rfl rfl rfl rfl rfl rfl (fun H hs => s46 L H bs bs bs) ?_; refine Pool.st 1 6 rfl rfl rfl rfl rfl rfl rfl rfl rfl rfl rfl rfl rfl rfl rfl rfl rfl rfl sb ?_; refine Pool.st 0 7 rfl rfl rfl rfl rfl rfl rfl rfl rfl rfl rfl rfl rfl rfl rfl rfl rfl rfl sb ?_; refine Pool.v 8 rfl rfl rfl rfl rfl rfl rfl trivial ?_; refine pool_done rfl rfl ?_; refine At.regionEnd ?_
        exact At.ret Tryz.func155 (.inr ⟨_, rfl⟩) rfl (.aggJ 1 rfl rfl rfl (.aggJ 0 rfl rfl rfl (.tmp rfl .nil))) (wk (hc _ _ (⟨by rfl, rfl⟩)))
end Go.Gx
end

section
set_option linter.unusedSimpArgs false
set_option linter.unusedVariables false
namespace Go.Gx
open Go Go.Conc Go.Proofs
variable {main : Bool}

set_option maxRecDepth 100000 in
set_option maxHeartbeats 4000000 in
/-- MeetOf (ref02) -/
theorem s95 (L : Lg Tryz.prog main) (H : Facts) {B : Bk} {A : BkA} {eye : Int} {s : R2} (hB : BkR H B A) (hz : bookBar B = 0) (he : EyeOk eye) (hs : SlOk s) :
    Pure L 95 #[bkV B A, .int .i64 eye, rV s] H (.tuple #[rV ((meetM B.prof eye s).getD ((0, 0), (0, 0))).1, rV ((meetM B.prof eye s).getD ((0, 0), (0, 0))).2, .bool (meetM B.prof eye s).isSome]) := by
  refine Spec.enter Tryz.func95 rfl (by simp [Tryz.f95]) fun c cs hc => ?_
  rw [← meetR_bk hz he hs] at hc
  have hok := accR_ok (s := s) hz he hs
  have hpt := (bounds_of_bar hz).2.2.1
  have hl5 := (bounds_of_bar hz).2.1
  have hl2 := (bounds_of_bar hz).1
  have hrp := hB.p
  obtain ⟨prof, size, lo, hi, marks⟩ := B
  obtain ⟨pa, pc, ma, mc⟩ := A
  simp only at hrp hpt hl5 hl2 hc hok
  refine At.seq (At.region ?_); refine At.bx rfl rfl rfl rfl rfl rfl rfl fun r3 => ?_; refine At.bx rfl rfl rfl rfl rfl rfl rfl fun r5 => ?_; refine At.al rfl rfl rfl rfl rfl fun r6 => ?_; refine At.al rfl rfl rfl rfl rfl fun r7 => ?_; refine At.v rfl rfl rfl rfl rfl trivial ?_; refine At.regionEnd (At.seq (At.region ?_)); refine At.al rfl rfl rfl rfl rfl fun r9 => ?_; refine At.al rfl rfl rfl rfl rfl fun r10 => ?_; refine At.regionEnd (At.seq (At.region ?_))
  refine At.v rfl rfl rfl rfl rfl trivial ?_; refine At.regionEnd (At.seq (At.seq (At.region ?_))); refine At.v rfl rfl rfl rfl rfl trivial ?_; refine At.regionEnd ?_; refine At.block ?_
  refine At.lpk (X := { j : Nat // j ≤ prof.length - 1 }) [1, 3, 5, 6, 7, 8, 9, 10] (fun x => [(12, .int .i64 (x.1 : Int)), (11, .bool (accR prof eye s x.1).isSome)]) (fun x => .own r10 (.cells (List.toArray (c2 ((accR prof eye s x.1).getD ((0, 0), (0, 0))).2)) 29 (0, 0)) :: .own r9 (.cells (List.toArray (c2 ((accR prof eye s x.1).getD ((0, 0), (0, 0))).1)) 29 (0, 0)) :: .own r7 (.cells #[.int .i64 0, .int .i64 0] 29 (0, 0)) :: .own r6 (.cells #[.int .i64 0, .int .i64 0] 29 (0, 0)) :: .own r5 (.cells (List.toArray (c2 s)) 29 (0, 0)) :: .own r3 (.cells (List.toArray (bkC ⟨prof, size, lo, hi, marks⟩ ⟨pa, pc, ma, mc⟩)) 27 (0, 0)) :: H) (fun x => prof.length - 1 - x.1) (⟨0, Nat.zero_le _⟩) rfl ?_ (by repeat (first | exact trivial | refine ⟨rfl, ?_⟩)) sb
  rintro ⟨j, hj⟩ again
  simp only at again ⊢
  refine At.seq (At.seq (At.region ?_)); refine At.v rfl rfl rfl rfl rfl trivial ?_; refine At.v rfl rfl rfl rfl rfl (by omega) ?_; refine At.fa 0 rfl rfl rfl rfl rfl rfl rfl ?_; refine At.ld 5 rfl rfl rfl rfl rfl rfl rfl rfl rfl ?_; refine At.ln rfl rfl rfl rfl rfl rfl rfl rfl ?_; refine At.cp rfl rfl rfl rfl rfl fun b21 h21 => ?_; refine At.regionEnd ?_
  cases b21
  · have e : j = prof.length - 1 := by simp at h21; omega
    subst e
    rw [accR_all (by omega)]
    refine At.cond rfl ?_; refine At.exit rfl ?_; refine At.seq ?_; refine At.drawJ hmix [3, 2] rfl ?_; refine Pool.ld 1 0 rfl rfl rfl rfl rfl rfl rfl rfl rfl rfl rfl ?_; refine Pool.ld 0 1 rfl rfl rfl rfl rfl rfl rfl rfl rfl rfl rfl ?_; refine Pool.v 2 rfl rfl rfl rfl rfl rfl rfl trivial ?_; refine Pool.st 3 3 rfl rfl rfl rfl rfl rfl rfl rfl rfl rfl rfl rfl rfl rfl rfl rfl rfl rfl sb ?_; refine Pool.st 2 4 rfl rfl rfl rfl rfl rfl rfl rfl rfl rfl rfl rfl rfl rfl rfl rfl rfl rfl sb ?_
    refine Pool.v 5 rfl rfl rfl rfl rfl rfl rfl trivial ?_; refine pool_done rfl rfl ?_; refine At.regionEnd ?_
    exact At.ret Tryz.func95 (.inr ⟨_, rfl⟩) rfl (.aggJ 3 rfl rfl rfl (.aggJ 2 rfl rfl rfl (.tmp rfl .nil))) (wk (hc _ _ (⟨by rfl, rfl⟩)))
  · have hlt : j + 1 < prof.length := by simp at h21; omega
    have hlt' : j < prof.length := by omega
    obtain ⟨b, off, rfl, hc0⟩ := hrp.el (List.getElem?_eq_getElem hlt')
    obtain ⟨b', off', e', hc1⟩ := hrp.el (List.getElem?_eq_getElem hlt)
    cases e'
    have p0 := hpt _ (List.getElem_mem hlt')
    have p1 := hpt _ (List.getElem_mem hlt)
    have hsc := accR_succ (eye := eye) (s := s) hlt
    refine At.cond rfl ?_; refine At.skip (At.seq ?_); refine At.block ?_; refine At.seq ?_; refine At.drawJ hmix [] rfl ?_; refine Pool.fa 0 0 rfl rfl rfl rfl rfl rfl rfl rfl rfl ?_; refine Pool.ld 5 1 rfl rfl rfl rfl rfl rfl rfl rfl rfl rfl rfl ?_; refine Pool.v 2 rfl rfl rfl rfl rfl rfl rfl trivial ?_; refine Pool.q 3 rfl rfl rfl rfl rfl (q_ia rfl rfl rfl (by assumption)) rfl ?_; refine Pool.ldc 4 rfl rfl rfl rfl rfl rfl rfl hc0.a rfl rfl rfl ?_
    refine Pool.fa 0 5 rfl rfl rfl rfl rfl rfl rfl rfl rfl ?_; refine Pool.ld 5 6 rfl rfl rfl rfl rfl rfl rfl rfl rfl rfl rfl ?_; refine Pool.v 7 rfl rfl rfl rfl rfl rfl rfl trivial ?_; refine Pool.v 8 rfl rfl rfl rfl rfl rfl rfl (by omega) ?_; refine Pool.q 9 rfl rfl rfl rfl rfl (q_ia rfl rfl rfl (by assumption)) rfl ?_; refine Pool.ldc 10 rfl rfl rfl rfl rfl rfl rfl hc1.a rfl rfl rfl ?_; refine Pool.v 11 rfl rfl rfl rfl rfl rfl rfl trivial ?_
    refine Pool.ld 4 12 rfl rfl rfl rfl rfl rfl rfl rfl rfl rfl rfl ?_; refine Pool.cq 13 rfl rfl rfl rfl rfl rfl rfl rfl rfl (fun H hs => s155 L H bs bs bs bs) ?_; refine Pool.v 14 rfl rfl rfl rfl rfl rfl rfl trivial ?_; refine Pool.v 15 rfl rfl rfl rfl rfl rfl rfl trivial ?_; refine Pool.v 16 rfl rfl rfl rfl rfl rfl rfl trivial ?_; refine Pool.v 17 rfl rfl rfl rfl rfl rfl rfl trivial ?_; refine Pool.fl 18 rfl rfl rfl rfl rfl rfl rfl rfl rfl rfl ?_
    refine Pool.al 19 rfl rfl rfl rfl rfl rfl rfl rfl rfl rfl rfl sb fun r14 => ?_; refine Pool.v 22 rfl rfl rfl rfl rfl rfl rfl trivial ?_; refine pool_take rfl rfl rfl fun rf18 => ?_; refine Pool.st 0 20 rfl rfl rfl rfl rfl rfl rfl rfl rfl rfl rfl rfl rfl rfl rfl rfl rfl rfl sb ?_; refine Pool.st 1 21 rfl rfl rfl rfl rfl rfl rfl rfl rfl rfl rfl rfl rfl rfl rfl rfl rfl rfl sb ?_; refine pool_done rfl rfl ?_; refine At.regionEnd (At.seq (At.region ?_))
    (iterate 2 refine At.v rfl rfl rfl rfl rfl trivial ?_)
    have hpo := spotR_ok p0 p1 he hs (Int.lt_of_not_ge fun h => by
      have := List.pairwise_iff_getElem.1 (prof_pw hz) j (j + 1) (by simpa using hlt') (by simpa using hlt) (by omega)
      simp only at this
      omega)
    have ag := again ⟨j + 1, by omega⟩ (by simp; omega)
    simp only [hsc] at ag
    cases hpc : pieceR prof[j] prof[j + 1] eye s with
    | none =>
      simp only [hpc, stepR] at ag
      (iterate 7 refine At.un rfl rfl rfl rfl ?_); refine At.v rfl rfl rfl rfl rfl trivial ?_; refine At.regionEnd ?_; refine At.cond rfl ?_; refine At.skip ?_; refine At.inBlock ?_; refine At.region ?_; refine At.v rfl rfl rfl rfl rfl trivial ?_; refine At.v rfl rfl rfl rfl rfl (by omega) ?_; refine At.v rfl rfl rfl rfl rfl trivial ?_; refine At.regionEnd ?_
      refine At.tA (ag)
    | some x =>
      cases hacc : accR prof eye s j with
      | none =>
        simp only [hpc, hacc, stepR, Option.isSome, Option.getD] at ag
        (iterate 3 refine At.v rfl rfl rfl rfl rfl trivial ?_); (iterate 3 refine At.un rfl rfl rfl rfl ?_); (iterate 2 refine At.v rfl rfl rfl rfl rfl trivial ?_); refine At.regionEnd ?_; refine At.cond rfl ?_; refine At.drawJ hmix [3, 2] rfl ?_; refine Pool.ld 0 0 rfl rfl rfl rfl rfl rfl rfl rfl rfl rfl rfl ?_; refine Pool.ld 1 1 rfl rfl rfl rfl rfl rfl rfl rfl rfl rfl rfl ?_; refine Pool.st 3 2 rfl rfl rfl rfl rfl rfl rfl rfl rfl rfl rfl rfl rfl rfl rfl rfl rfl rfl sb ?_
        refine Pool.st 2 3 rfl rfl rfl rfl rfl rfl rfl rfl rfl rfl rfl rfl rfl rfl rfl rfl rfl rfl sb ?_; refine Pool.v 4 rfl rfl rfl rfl rfl rfl rfl trivial ?_; refine pool_done rfl rfl ?_; refine At.regionEnd ?_; refine At.inBlock ?_; refine At.region ?_; refine At.v rfl rfl rfl rfl rfl trivial ?_; refine At.v rfl rfl rfl rfl rfl (by omega) ?_; refine At.v rfl rfl rfl rfl rfl trivial ?_; refine At.regionEnd ?_
        refine At.tA (ag)
      | some y =>
        simp only [hpc, hacc, stepR] at ag
        (iterate 3 refine At.v rfl rfl rfl rfl rfl trivial ?_); refine At.ld 0 rfl rfl rfl rfl rfl rfl rfl rfl rfl ?_; refine At.ld 3 rfl rfl rfl rfl rfl rfl rfl rfl rfl ?_; refine At.cqb rfl rfl rfl rfl rfl rfl rfl rfl (s103 L _) fun b49 h49 => ?_; (iterate 2 refine At.v rfl rfl rfl rfl rfl trivial ?_); refine At.regionEnd ?_
        cases b49
        · have e49 : lessW x.1 y.1 = false := h49
          simp only [e49, if_false, Option.isSome, Option.getD, Bool.false_eq_true] at ag
          refine At.cond rfl ?_; refine At.skip ?_; refine At.inBlock ?_; refine At.region ?_; refine At.v rfl rfl rfl rfl rfl trivial ?_; refine At.v rfl rfl rfl rfl rfl (by omega) ?_; refine At.v rfl rfl rfl rfl rfl trivial ?_; refine At.regionEnd ?_
          refine At.tA (ag)
        · have e49 : lessW x.1 y.1 = true := h49
          simp only [e49, if_true, Option.isSome, Option.getD] at ag
          refine At.cond rfl ?_; refine At.drawJ hmix [3, 2] rfl ?_; refine Pool.ld 0 0 rfl rfl rfl rfl rfl rfl rfl rfl rfl rfl rfl ?_; refine Pool.ld 1 1 rfl rfl rfl rfl rfl rfl rfl rfl rfl rfl rfl ?_; refine Pool.st 3 2 rfl rfl rfl rfl rfl rfl rfl rfl rfl rfl rfl rfl rfl rfl rfl rfl rfl rfl sb ?_; refine Pool.st 2 3 rfl rfl rfl rfl rfl rfl rfl rfl rfl rfl rfl rfl rfl rfl rfl rfl rfl rfl sb ?_; refine Pool.v 4 rfl rfl rfl rfl rfl rfl rfl trivial ?_; refine pool_done rfl rfl ?_; refine At.regionEnd ?_
          refine At.inBlock ?_; refine At.region ?_; refine At.v rfl rfl rfl rfl rfl trivial ?_; refine At.v rfl rfl rfl rfl rfl (by omega) ?_; refine At.v rfl rfl rfl rfl rfl trivial ?_; refine At.regionEnd ?_
          refine At.tA (ag)
end Go.Gx
end

section
set_option linter.unusedSimpArgs false
set_option linter.unusedVariables false
namespace Go.Gx
open Go Go.Conc Go.Proofs
variable {main : Bool}

/-- RowOf (ref02), a book's -/
theorem s97 (L : Lg Tryz.prog main) (H : Facts) {B : Bk} {A : BkA} {h : R2} (hB : BkR H B A) (hz : bookBar B = 0) (hh : HighOk h) : Pure L 97 #[bkV B A, rV h] H (.tuple #[.int .i64 (squareM B h).1, rV (squareM B h).2]) := by
  have hb := bounds_of_bar hz
  have h0 : 0 < B.prof.length := by omega
  obtain ⟨b, off, e, hc⟩ := hB.p.el (List.getElem?_eq_getElem h0)
  obtain ⟨pa, pc, ma, mc⟩ := A
  simp only at e
  subst e
  have hp := hb.2.2.1 _ (List.getElem_mem h0)
  obtain ⟨hn, hd1, hd2⟩ := hh
  have ef : footM B = B.prof[0].2 := by
    unfold footM
    rw [List.headD_eq_head?_getD, List.head?_eq_getElem?, List.getElem?_eq_getElem h0]
    rfl
  unfold PtOk at hp
  have m1 := mul_bd (a := B.size) (b := h.2) (A := 30) (B := 3000000) (by omega) (by omega)
  have m2 := mul_bd (a := B.prof[0].2) (b := h.2) (A := 90) (B := 3000000) (by omega) (by omega)
  have m3 : B.size * h.2 ≠ 0 := Int.mul_ne_zero (by omega) (by omega)
  have m4 : ((h.1 - B.prof[0].2 * h.2).tdiv (B.size * h.2)).natAbs ≤ 800000000 := by
    rw [Int.natAbs_tdiv]
    exact Nat.le_trans (Nat.div_le_self _ _) (by omega)
  have m5 := mul_bd (a := (h.1 - B.prof[0].2 * h.2).tdiv (B.size * h.2)) (b := B.size) (A := 800000000) (B := 30) m4 (by omega)
  have m6 : ((h.1 - B.prof[0].2 * h.2).tdiv (B.size * h.2) * B.size * h.2).natAbs ≤ 800000000 * 30 * 3000000 := mul_bd m5 (by omega)
  have := r97 L H (n := B.prof.length) (cap := pc) (m := B.marks.length) (mc := mc) (ma := ma) (size := B.size) (lo := B.lo) (hi := B.hi) (hn := h.1) (hd := h.2) (h0 := B.prof[0].2) h0 (cells_sub hc 1 1 rfl) (by omega) (by omega) (by omega) m3 (by omega) (by omega)
  unfold squareM
  rw [ef]
  exact this
set_option maxRecDepth 100000 in
set_option maxHeartbeats 4000000 in
/-- RowIn (ref02) -/
theorem s115 (L : Lg Tryz.prog main) (H : Facts) {B : Bk} {A : BkA} {eye : Int} {s : R2} (hB : BkR H B A) (hz : bookBar B = 0) (he : EyeOk eye) (hs : SlOk s) : Pure L 115 #[bkV B A, .int .i64 eye, rV s] H (.int .i64 (rowM B eye s)) := by
  refine Spec.enter Tryz.func115 rfl (by simp [Tryz.f115]) fun c cs hc => ?_
  have hp := profOk_of hz
  refine At.seq (At.region ?_); refine At.bx rfl rfl rfl rfl rfl rfl rfl fun r3 => ?_; refine At.bx rfl rfl rfl rfl rfl rfl rfl fun r5 => ?_; refine At.v rfl rfl rfl rfl rfl trivial ?_; refine At.regionEnd (At.seq (At.region ?_)); refine At.ld 1 rfl rfl rfl rfl rfl rfl rfl rfl rfl ?_; refine At.v rfl rfl rfl rfl rfl trivial ?_; refine At.ld 0 rfl rfl rfl rfl rfl rfl rfl rfl rfl ?_; refine At.cq rfl rfl rfl rfl rfl rfl rfl rfl (s95 L _ bs bs bs bs) ?_
  (iterate 4 refine At.v rfl rfl rfl rfl rfl trivial ?_); refine At.al rfl rfl rfl rfl rfl fun r7 => ?_; refine At.al rfl rfl rfl rfl rfl fun r8 => ?_; refine At.st 1 rfl rfl rfl rfl rfl rfl rfl rfl rfl rfl rfl rfl ?_; refine At.st 0 rfl rfl rfl rfl rfl rfl rfl rfl rfl rfl rfl rfl ?_; refine At.v rfl rfl rfl rfl rfl trivial ?_; refine At.regionEnd (At.seq (At.seq (At.region ?_))); (iterate 2 refine At.v rfl rfl rfl rfl rfl trivial ?_); refine At.regionEnd ?_
  cases hm : meetM B.prof eye s with
  | none =>
    rw [rowM_none hm] at hc
    refine At.cond rfl ?_; refine At.seq (At.region ?_); refine At.v rfl rfl rfl rfl rfl trivial ?_; refine At.regionEnd ?_
    exact At.ret Tryz.func115 (.inr ⟨_, rfl⟩) rfl (.tmp rfl .nil) (wk (hc _ _ (⟨by rfl, rfl⟩)))
  | some x =>
    have hx := highOk_of (meetM_ok hp.2 he hs hm)
    rw [rowM_some hm] at hc
    refine At.cond rfl ?_; refine At.skip (At.seq (At.region ?_)); refine At.ld 3 rfl rfl rfl rfl rfl rfl rfl rfl rfl ?_; refine At.ld 0 rfl rfl rfl rfl rfl rfl rfl rfl rfl ?_; refine At.cq rfl rfl rfl rfl rfl rfl rfl rfl (s97 L _ bs bs bs) ?_; (iterate 3 refine At.v rfl rfl rfl rfl rfl trivial ?_); refine At.al rfl rfl rfl rfl rfl fun r11 => ?_; refine At.v rfl rfl rfl rfl rfl trivial ?_; refine At.st 0 rfl rfl rfl rfl rfl rfl rfl rfl rfl rfl rfl rfl ?_; refine At.regionEnd (At.seq (At.region ?_))
    (iterate 2 refine At.v rfl rfl rfl rfl rfl trivial ?_); refine At.regionEnd ?_
    exact At.ret Tryz.func115 (.inr ⟨_, rfl⟩) rfl (.tmp rfl .nil) (wk (hc _ _ (⟨by rfl, rfl⟩)))
end Go.Gx
end

section
set_option linter.unusedSimpArgs false
set_option linter.unusedVariables false
namespace Go.Gx
open Go Go.Conc Go.Proofs
variable {main : Bool}

end Go.Gx
end

section
/-
  LOGIC G: what a call has made is put behind the cells that one knows by their places.
-/
set_option linter.unusedSimpArgs false
set_option linter.unusedVariables false
namespace Go.Gx
open Go Go.Conc
/-- 'Y' is 'sf ++ X' with the own cells that stand first in 'X' ahead of 'sf'. -/
class Back (sf X : Facts) (Y : outParam Facts) : Prop where
  s : Sub Y (sf ++ X)
instance (priority := low) backNil {sf X : Facts} : Back sf X (sf ++ X) := ⟨Sub.refl _⟩
instance backCons {sf X Y : Facts} {r : Nat} {o : Obj} [h : Back sf X Y] : Back sf (.own r o :: X) (.own r o :: Y) :=
  ⟨(Sub.cons _ h.s).trans (Sub.of_perm List.perm_middle.symm)⟩
theorem At.back {P : Program} {main : Bool} {L : Lg P main} {f : FuncId} {ro : Option Nat} {ds : Dz} {cs : List Frame} {n : Nat} {E : Env} {k : List Item} {sf X Y : Facts} [hb : Back sf X Y] (h : At L f ro ds cs n E Y k) : At L f ro ds cs n E (sf ++ X) k :=
  h.weakH hb.s
end Go.Gx
end

section
set_option linter.unusedSimpArgs false
set_option linter.unusedVariables false
namespace Go.Gx
open Go Go.Conc Go.Proofs

end Go.Gx
end

section
set_option linter.unusedSimpArgs false
set_option linter.unusedVariables false
namespace Go.Gx
open Go Go.Conc Go.Proofs
variable {main : Bool}

end Go.Gx
end

section
set_option linter.unusedSimpArgs false
set_option linter.unusedVariables false
namespace Go.Gx
open Go Go.Conc Go.Proofs
variable {main : Bool}

end Go.Gx
end

section
set_option linter.unusedSimpArgs false
set_option linter.unusedVariables false
namespace Go.Gx
open Go Go.Conc Go.Proofs

end Go.Gx
end
