/-
  The law CanvasKept (from each height of Keeps, and from no other one, the line meets the canvas in the row; the line of the slope 0 meets it just as high as the eye, if it is that high at all): its tied card holds, for every input, without a condition.
-/
import Derived.Test.YtokdmiiejfmomaaGreatDoorW6
import Derived.SevenTiedAt
section
set_option linter.unusedSimpArgs false
set_option linter.unusedVariables false
namespace Go.Gx
open Go Go.Conc Go.Proofs

instance : BoI Tryz.prog 4 := ⟨by kernel_rfl⟩
theorem low_slope {n d : Int} (h1 : -20 ≤ n ∧ n ≤ 20) (h2 : 1 ≤ d ∧ d ≤ 20) : slopeBar (low n d).1 (low n d).2 = 0 := by
  have key : ∀ a ∈ (List.range 41), ∀ b ∈ (List.range 20), slopeBar (low ((a : Int) - 20) ((b : Int) + 1)).1 (low ((a : Int) - 20) ((b : Int) + 1)).2 = 0 := by decide +kernel
  have := key (n + 20).toNat (by rw [List.mem_range]; omega) (d - 1).toNat (by rw [List.mem_range]; omega)
  rwa [show (((n + 20).toNat : Nat) : Int) - 20 = n by omega, show (((d - 1).toNat : Nat) : Int) + 1 = d by omega] at this

def sqD (B : Bk) (eye : Int) (s : R2) : Int × R2 := ((meetM B.prof eye s).map fun x => squareM B x.2).getD (0, (0, 0))
theorem sqV_eq (B : Bk) (eye : Int) (s : R2) : sqV B eye s = .tuple #[.int .i64 (sqD B eye s).1, rV (sqD B eye s).2, .bool (meetM B.prof eye s).isSome, .int .i64 0] := by
  unfold sqD
  cases hm : meetM B.prof eye s with
  | none => rw [sqV_none hm]; rfl
  | some x => rw [sqV_some hm]; rfl
theorem row_sqD {B : Bk} {eye row : Int} {s : R2} (hr : EyeOk row) : (rowM B eye s = row) ↔ ((meetM B.prof eye s).isSome = true ∧ (sqD B eye s).1 = row) := by
  unfold sqD
  unfold EyeOk at hr
  cases hm : meetM B.prof eye s with
  | none => rw [rowM_none hm]; simp; omega
  | some x => rw [rowM_some hm]; simp

set_option maxRecDepth 100000 in
set_option maxHeartbeats 1000000 in
/-- CanvasKept -/
theorem s11 {Post : Value → World → Prop} {W₀ : World} {H Hg : Facts} (hG : Glo H Hg) {B : Bk} {A : BkA} (hBk : BkR H B A) {h d k n : Int} (hh : 0 ≤ h ∧ h ≤ 255) (hd : 0 ≤ d ∧ d ≤ 255) (hk : 0 ≤ k ∧ k ≤ 255) (hn : -128 ≤ n ∧ n ≤ 127) :
    LawAt (mainLg Tryz.prog Post W₀ [] []) 11 #[bkV B A, .int .u8 h, .int .u8 d, .int .u8 k, .int .i8 n] H (.bool true) := by
  refine LawAt.enter Tryz.func11 rfl (by simp [Tryz.f11]) fun cs hLB => ?_
  obtain ⟨pa, pc, ma, mc⟩ := A
  generalize hL : mainLg Tryz.prog Post W₀ [] [] = L at hLB ⊢
  refine At.seq (At.region ?_); refine At.bx rfl rfl rfl rfl rfl rfl rfl fun r5 => ?_; refine At.v rfl rfl rfl rfl rfl trivial ?_; refine At.regionEnd (At.seq (At.seq (At.region ?_))); refine At.ld 0 rfl rfl rfl rfl rfl rfl rfl rfl rfl ?_; refine At.cqb rfl rfl rfl rfl rfl rfl rfl rfl (s39 L _ bs) fun b25 h25 => ?_; refine At.v rfl rfl rfl rfl rfl trivial ?_; refine At.regionEnd ?_
  cases b25
  · have stop22 := trivial
    refine At.cond rfl ?_; refine At.seq (At.region ?_)
    subst hL
    refine At.cq rfl rfl rfl rfl rfl rfl rfl rfl (s22 hG.a) ?_; refine At.v rfl rfl rfl rfl rfl trivial ?_; refine At.regionEnd ?_
    exact hLB Tryz.func11 (.inr ⟨_, rfl⟩) rfl (.tmp rfl .nil) (⟨by rfl, rfl⟩)
  have hf : fitM B = true := h25
  have hz : bookBar B = 0 := by simp [fitM] at hf; exact hf.2.2
  have hl1 : B.prof.length ≤ 100000 := by simp [fitM] at hf; omega
  have hl2 : B.marks.length ≤ 100000 := by simp [fitM] at hf; omega
  have hO : Opn H B ⟨pa, pc, ma, mc⟩ := ⟨hG.g.a hG.sub, hBk, hl1, hl2⟩
  have w1 : IntKind.wrap .i64 h = h := wrap_in (by omega)
  have w2 : IntKind.wrap .i64 k = k := wrap_in (by omega)
  have stop36 := trivial
  refine At.cond rfl ?_; refine At.skip (At.seq (At.region ?_)); refine At.v rfl rfl rfl rfl rfl trivial ?_; refine At.q rfl rfl rfl rfl (q_conv rfl rfl rfl) ?_; refine At.v rfl rfl rfl rfl rfl (by omega) ?_; (iterate 2 refine At.v rfl rfl rfl rfl rfl trivial ?_); refine At.cq rfl rfl rfl rfl rfl rfl rfl rfl (s40 L _ bs bs) ?_; refine At.v rfl rfl rfl rfl rfl trivial ?_; refine At.q rfl rfl rfl rfl (q_conv rfl rfl rfl) ?_; refine At.v rfl rfl rfl rfl rfl (by omega) ?_
  refine At.al rfl rfl rfl rfl rfl fun r12 => ?_; refine At.v rfl rfl rfl rfl rfl trivial ?_; refine At.st 0 rfl rfl rfl rfl rfl rfl rfl rfl rfl rfl rfl rfl ?_; refine At.v rfl rfl rfl rfl rfl trivial ?_; refine At.regionEnd (At.seq (At.region ?_)); refine At.ld 1 rfl rfl rfl rfl rfl rfl rfl rfl rfl ?_; refine At.ld 0 rfl rfl rfl rfl rfl rfl rfl rfl rfl ?_; refine At.v rfl rfl rfl rfl rfl trivial ?_
  clear stop36
  rw [w1, w2]
  have t1 : -91 + 1 ≤ h.tmod 91 ∧ h.tmod 91 ≤ 91 - 1 := tmod_bd h 91 (by omega)
  have t2 : -91 + 1 ≤ k.tmod 91 ∧ k.tmod 91 ≤ 91 - 1 := tmod_bd k 91 (by omega)
  have t3 : -20 + 1 ≤ d.tmod 20 ∧ d.tmod 20 ≤ 20 - 1 := tmod_bd d 20 (by omega)
  have he : EyeOk (h.tmod 91) := ⟨Int.tmod_nonneg _ hh.1, by omega⟩
  have hr : EyeOk (k.tmod 91) := ⟨Int.tmod_nonneg _ hk.1, by omega⟩
  have hs : slopeBar (low (n.tmod 21) (1 + d.tmod 20)).1 (low (n.tmod 21) (1 + d.tmod 20)).2 = 0 :=
    low_slope (tmod_bd n 21 (by omega)) ⟨by have := Int.tmod_nonneg 20 hd.1; omega, by omega⟩
  clear t1 t2 t3
  generalize h.tmod 91 = eye at he ⊢
  generalize k.tmod 91 = row at hr ⊢
  generalize low (n.tmod 21) (1 + d.tmod 20) = s at hs ⊢
  have he' : hBar eye = 0 := by exact if_pos he
  have hr' : hBar row = 0 := by exact if_pos hr
  have e1 : lookBar B [slopeBar s.1 s.2, hBar row] = 0 := by rw [lookBar1 hz, hs, hr']; rfl
  have e2 : lookBar B [hBar eye, slopeBar s.1 s.2] = 0 := by rw [lookBar1 hz, hs, he']; rfl
  have e3 : lookBar B [hBar eye, slopeBar 0 1] = 0 := by rw [lookBar1 hz, he']; rfl
  have h36 := fun H_ (hO_ : Opn H_ B ⟨pa, pc, ma, mc⟩) => s36 L H_ (s := s) (row := row) hO_
  have h27 := fun H_ (hO_ : Opn H_ B ⟨pa, pc, ma, mc⟩) => s27 L H_ (s := s) (eye := eye) hO_
  have h25 := fun H_ (hO_ : Opn H_ B ⟨pa, pc, ma, mc⟩) => s25 L H_ (s := (0, 1)) (eye := eye) hO_
  simp only [e1, e2, e3, ne_eq, not_true_eq_false, if_false, sqV_eq] at h36 h27 h25
  refine At.cl rfl rfl rfl rfl rfl rfl rfl rfl (h36 _ hO.a) ?_
  rintro _ _ ⟨sf, ⟨a, cap, rfl, hsl⟩, rfl⟩
  obtain ⟨_, hrs, _⟩ := hsl.rd
  have hmem := mem_keepsM (B := B) (s := s) (row := row) he
  have hclm := keepsM_climbs B s row
  have hkl : (keepsM B s row 91).length ≤ 100000 := by
    unfold keepsM
    refine Nat.le_trans (List.length_filter_le _ _) ?_
    simp
  rw [row_sqD hr] at hmem
  refine At.weakH (H' := .own r12 (.cells #[.int .i64 s.1, .int .i64 s.2] 29 (0, 0)) :: .own r5 (.cells (List.toArray (bkC B ⟨pa, pc, ma, mc⟩)) 27 (0, 0)) :: (sf ++ H)) ?_ (Sub.of_perm (List.perm_append_comm_assoc ([.own r12 (.cells #[.int .i64 s.1, .int .i64 s.2] 29 (0, 0)), .own r5 (.cells (List.toArray (bkC B ⟨pa, pc, ma, mc⟩)) 27 (0, 0))] : Facts) sf H))
  have stop27 := trivial
  (iterate 5 refine At.v rfl rfl rfl rfl rfl trivial ?_); refine At.regionEnd (At.seq (At.region ?_)); refine At.ld 1 rfl rfl rfl rfl rfl rfl rfl rfl rfl ?_; refine At.v rfl rfl rfl rfl rfl trivial ?_; refine At.ld 0 rfl rfl rfl rfl rfl rfl rfl rfl rfl ?_
  clear stop27
  refine At.cq rfl rfl rfl rfl rfl rfl rfl rfl (h27 _ hO.a) ?_
  have stop25 := trivial
  (iterate 5 refine At.v rfl rfl rfl rfl rfl trivial ?_); refine At.al rfl rfl rfl rfl rfl fun r17 => ?_; refine At.v rfl rfl rfl rfl rfl trivial ?_; refine At.st 0 rfl rfl rfl rfl rfl rfl rfl rfl rfl rfl rfl rfl ?_; (iterate 2 refine At.v rfl rfl rfl rfl rfl trivial ?_); refine At.regionEnd (At.seq ?_); refine At.drawJ hmix [] rfl ?_; refine Pool.ld 2 0 rfl rfl rfl rfl rfl rfl rfl rfl rfl rfl rfl ?_; refine Pool.v 1 rfl rfl rfl rfl rfl rfl rfl trivial ?_
  refine Pool.cq 2 rfl rfl rfl rfl rfl rfl rfl rfl rfl (fun H hs => s49 L H) ?_; refine Pool.fl 9 rfl rfl rfl rfl rfl rfl rfl rfl rfl rfl ?_; refine Pool.fl 10 rfl rfl rfl rfl rfl rfl rfl rfl rfl rfl ?_
  clear stop25
  refine Pool.cq 3 rfl rfl rfl rfl rfl rfl rfl rfl rfl (fun H_ hs_ => h25 _ hO.a) ?_; refine Pool.v 4 rfl rfl rfl rfl rfl rfl rfl trivial ?_; refine Pool.v 5 rfl rfl rfl rfl rfl rfl rfl trivial ?_; refine Pool.v 6 rfl rfl rfl rfl rfl rfl rfl trivial ?_; refine Pool.v 7 rfl rfl rfl rfl rfl rfl rfl trivial ?_; refine Pool.v 8 rfl rfl rfl rfl rfl rfl rfl trivial ?_; refine Pool.v 13 rfl rfl rfl rfl rfl rfl rfl trivial ?_; refine Pool.v 14 rfl rfl rfl rfl rfl rfl rfl trivial ?_
  refine pool_take rfl rfl rfl fun rf10 => ?_; refine pool_take rfl rfl rfl fun rf9 => ?_; refine Pool.st 0 11 rfl rfl rfl rfl rfl rfl rfl rfl rfl rfl rfl rfl rfl rfl rfl rfl rfl rfl sb ?_; refine Pool.st 1 12 rfl rfl rfl rfl rfl rfl rfl rfl rfl rfl rfl rfl rfl rfl rfl rfl rfl rfl sb ?_; refine pool_done rfl rfl ?_; refine At.regionEnd (At.seq (At.seq (At.region ?_))); refine At.v rfl rfl rfl rfl rfl trivial ?_; refine At.cp rfl rfl rfl rfl rfl fun b63 h63 => ?_
  refine At.v rfl rfl rfl rfl rfl trivial ?_
  obtain rfl : b63 = false := h63.symm.trans (by kernel_rfl)
  refine At.v rfl rfl rfl rfl rfl trivial ?_; refine At.cp rfl rfl rfl rfl rfl fun b66 h66 => ?_; (iterate 2 refine At.v rfl rfl rfl rfl rfl trivial ?_)
  obtain rfl : b66 = false := h66.symm.trans (by kernel_rfl)
  refine At.v rfl rfl rfl rfl rfl trivial ?_; refine At.cp rfl rfl rfl rfl rfl fun b70 h70 => ?_; (iterate 2 refine At.v rfl rfl rfl rfl rfl trivial ?_)
  obtain rfl : b70 = false := h70.symm.trans (by kernel_rfl)
  refine At.v rfl rfl rfl rfl rfl trivial ?_; refine At.cq rfl rfl rfl rfl rfl rfl rfl rfl (s45 L _ bs bs bs bs) ?_; refine At.cp rfl rfl rfl rfl rfl fun b75 h75 => ?_; (iterate 2 refine At.v rfl rfl rfl rfl rfl trivial ?_)
  have e75 : b75 = false := by rw [← h75, hclm]; rfl
  subst e75
  (iterate 2 refine At.v rfl rfl rfl rfl rfl trivial ?_); refine At.cqb rfl rfl rfl rfl rfl rfl rfl rfl (s48 L _ bs bs bs) fun b80 h80 => ?_; (iterate 2 refine At.v rfl rfl rfl rfl rfl trivial ?_)
  generalize (meetM B.prof eye s).isSome = fo at hmem ⊢
  have h0 : 0 < B.prof.length := by have := (bounds_of_bar hz).1; omega
  obtain ⟨hlv, hhi⟩ := meet_level hz eye h0
  have hhi' : (meetM B.prof eye (0, 1)).isSome = true → ((meetM B.prof eye (0, 1)).getD ((0, 0), 0, 0)).2 = (eye, 1) := by
    intro h
    obtain ⟨x, hx⟩ := Option.isSome_iff_exists.1 h
    rw [hx]
    exact hhi x hx
  clear hhi
  generalize ((meetM B.prof eye (0, 1)).getD ((0, 0), 0, 0)) = hi at hhi' ⊢
  generalize (meetM B.prof eye (0, 1)).isSome = lv at hhi' hlv ⊢
  have hrp : Rd H pa (B.prof.flatMap c2) := hBk.p
  obtain ⟨b0, off0, rfl, hc1⟩ := hrp.el (List.getElem?_eq_getElem h0)
  obtain ⟨b1, off1, hpa1, hc2⟩ := hrp.el (List.getElem?_eq_getElem (show B.prof.length - 1 < B.prof.length by omega))
  cases hpa1
  have stopDraw := trivial
  cases fo
  · refine At.un rfl rfl rfl rfl ?_
    (iterate 2 refine At.un rfl rfl rfl rfl ?_); refine At.v rfl rfl rfl rfl rfl trivial ?_; refine At.qb rfl rfl rfl rfl (q_neqB rfl rfl rfl) fun b87 h87 => ?_; refine At.v rfl rfl rfl rfl rfl trivial ?_; refine At.regionEnd ?_
    have e87 : b87 = false := by rw [← h87, ← h80]; simp [hmem]
    subst e87
    refine At.cond rfl ?_; refine At.skip (At.seq ?_)
    clear stopDraw
    refine At.drawJ hmix [] rfl ?_; refine Pool.v 0 rfl rfl rfl rfl rfl rfl rfl trivial ?_; refine Pool.v 1 rfl rfl rfl rfl rfl rfl rfl trivial ?_; refine Pool.fa 0 2 rfl rfl rfl rfl rfl rfl rfl rfl rfl ?_; refine Pool.ld 4 3 rfl rfl rfl rfl rfl rfl rfl rfl rfl rfl rfl ?_; refine Pool.q 4 rfl rfl rfl rfl rfl (q_ia rfl rfl rfl (by assumption)) rfl ?_; refine Pool.faE 5 rfl rfl rfl rfl rfl rfl rfl rfl ?_; refine Pool.ldc 6 rfl rfl rfl rfl rfl rfl rfl (hc1.s 1 1 rfl) rfl rfl rfl ?_
    refine Pool.fa 0 7 rfl rfl rfl rfl rfl rfl rfl rfl rfl ?_; refine Pool.ld 4 8 rfl rfl rfl rfl rfl rfl rfl rfl rfl rfl rfl ?_; refine Pool.fa 0 9 rfl rfl rfl rfl rfl rfl rfl rfl rfl ?_; refine Pool.ld 4 10 rfl rfl rfl rfl rfl rfl rfl rfl rfl rfl rfl ?_; refine Pool.ln 11 rfl rfl rfl rfl rfl rfl rfl rfl rfl rfl ?_; refine Pool.v 12 rfl rfl rfl rfl rfl rfl rfl (by omega) ?_; refine Pool.q 13 rfl rfl rfl rfl rfl (q_iaN (k := (B.prof.length - 1)) rfl rfl rfl (by omega) (by omega)) rfl ?_
    refine Pool.faE 14 rfl rfl rfl rfl rfl rfl rfl rfl ?_; refine Pool.ldc 15 rfl rfl rfl rfl rfl rfl rfl (hc2.s 1 1 rfl) rfl rfl rfl ?_; refine Pool.cqb 16 rfl rfl rfl rfl rfl rfl rfl rfl rfl (fun H hs => s43 L H) fun b105 h105 => ?_; refine Pool.qb 17 rfl rfl rfl rfl rfl (q_eqlB rfl rfl rfl) rfl fun b106 h106 => ?_; refine Pool.v 18 rfl rfl rfl rfl rfl rfl rfl trivial ?_
    have e106 : b106 = true := by rw [← h106, ← h105, hlv]; simp
    subst e106
    cases lv
    · have stop22 := trivial
      refine Pool.v 19 rfl rfl rfl rfl rfl rfl rfl trivial ?_; refine Pool.v 20 rfl rfl rfl rfl rfl rfl rfl trivial ?_; refine Pool.v 21 rfl rfl rfl rfl rfl rfl rfl trivial ?_; refine Pool.un 22 rfl rfl rfl rfl rfl rfl ?_; refine Pool.un 23 rfl rfl rfl rfl rfl rfl ?_; refine Pool.un 24 rfl rfl rfl rfl rfl rfl ?_; refine Pool.un 25 rfl rfl rfl rfl rfl rfl ?_; refine Pool.v 26 rfl rfl rfl rfl rfl rfl rfl trivial ?_; refine Pool.v 27 rfl rfl rfl rfl rfl rfl rfl trivial ?_
      refine Pool.v 28 rfl rfl rfl rfl rfl rfl rfl trivial ?_
      subst hL
      refine Pool.cq 29 rfl rfl rfl rfl rfl rfl rfl rfl rfl (fun H_ hs_ => s22 hG.a) ?_; refine Pool.v 30 rfl rfl rfl rfl rfl rfl rfl trivial ?_; refine Pool.v 31 rfl rfl rfl rfl rfl rfl rfl trivial ?_; refine pool_done rfl rfl ?_; refine At.regionEnd ?_
      exact hLB Tryz.func11 (.inr ⟨_, rfl⟩) rfl (.tmp rfl .nil) (⟨by rfl, rfl⟩)
    · have stop22 := trivial
      refine Pool.v 19 rfl rfl rfl rfl rfl rfl rfl trivial ?_; refine Pool.v 20 rfl rfl rfl rfl rfl rfl rfl trivial ?_; refine Pool.v 21 rfl rfl rfl rfl rfl rfl rfl trivial ?_; refine Pool.ld 1 22 rfl rfl rfl rfl rfl rfl rfl rfl rfl rfl rfl ?_; refine Pool.v 23 rfl rfl rfl rfl rfl rfl rfl trivial ?_; refine Pool.cq 24 rfl rfl rfl rfl rfl rfl rfl rfl rfl (fun H hs => s49 L H) ?_; refine Pool.qb 25 rfl rfl rfl rfl rfl (q_eqS rfl rfl rfl rfl rfl rfl rfl rfl) rfl fun b114 h114 => ?_
      refine Pool.v 26 rfl rfl rfl rfl rfl rfl rfl trivial ?_; refine Pool.v 27 rfl rfl rfl rfl rfl rfl rfl trivial ?_; refine Pool.v 28 rfl rfl rfl rfl rfl rfl rfl trivial ?_
      have e114 : b114 = true := by rw [← h114, hhi' rfl]; simp
      subst e114
      skip
      subst hL
      refine Pool.cq 29 rfl rfl rfl rfl rfl rfl rfl rfl rfl (fun H_ hs_ => s22 hG.a) ?_; refine Pool.v 30 rfl rfl rfl rfl rfl rfl rfl trivial ?_; refine Pool.v 31 rfl rfl rfl rfl rfl rfl rfl trivial ?_; refine pool_done rfl rfl ?_; refine At.regionEnd ?_
      exact hLB Tryz.func11 (.inr ⟨_, rfl⟩) rfl (.tmp rfl .nil) (⟨by rfl, rfl⟩)
  · refine At.v rfl rfl rfl rfl rfl trivial ?_
    refine At.v rfl rfl rfl rfl rfl trivial ?_; refine At.cp rfl rfl rfl rfl rfl fun b85 h85 => ?_; refine At.v rfl rfl rfl rfl rfl trivial ?_; refine At.qb rfl rfl rfl rfl (q_neqB rfl rfl rfl) fun b87 h87 => ?_; refine At.v rfl rfl rfl rfl rfl trivial ?_; refine At.regionEnd ?_
    have e87 : b87 = false := by rw [← h87, ← h85, ← h80]; simp [hmem]
    subst e87
    refine At.cond rfl ?_; refine At.skip (At.seq ?_)
    clear stopDraw
    refine At.drawJ hmix [] rfl ?_; refine Pool.v 0 rfl rfl rfl rfl rfl rfl rfl trivial ?_; refine Pool.v 1 rfl rfl rfl rfl rfl rfl rfl trivial ?_; refine Pool.fa 0 2 rfl rfl rfl rfl rfl rfl rfl rfl rfl ?_; refine Pool.ld 4 3 rfl rfl rfl rfl rfl rfl rfl rfl rfl rfl rfl ?_; refine Pool.q 4 rfl rfl rfl rfl rfl (q_ia rfl rfl rfl (by assumption)) rfl ?_; refine Pool.faE 5 rfl rfl rfl rfl rfl rfl rfl rfl ?_; refine Pool.ldc 6 rfl rfl rfl rfl rfl rfl rfl (hc1.s 1 1 rfl) rfl rfl rfl ?_
    refine Pool.fa 0 7 rfl rfl rfl rfl rfl rfl rfl rfl rfl ?_; refine Pool.ld 4 8 rfl rfl rfl rfl rfl rfl rfl rfl rfl rfl rfl ?_; refine Pool.fa 0 9 rfl rfl rfl rfl rfl rfl rfl rfl rfl ?_; refine Pool.ld 4 10 rfl rfl rfl rfl rfl rfl rfl rfl rfl rfl rfl ?_; refine Pool.ln 11 rfl rfl rfl rfl rfl rfl rfl rfl rfl rfl ?_; refine Pool.v 12 rfl rfl rfl rfl rfl rfl rfl (by omega) ?_; refine Pool.q 13 rfl rfl rfl rfl rfl (q_iaN (k := (B.prof.length - 1)) rfl rfl rfl (by omega) (by omega)) rfl ?_
    refine Pool.faE 14 rfl rfl rfl rfl rfl rfl rfl rfl ?_; refine Pool.ldc 15 rfl rfl rfl rfl rfl rfl rfl (hc2.s 1 1 rfl) rfl rfl rfl ?_; refine Pool.cqb 16 rfl rfl rfl rfl rfl rfl rfl rfl rfl (fun H hs => s43 L H) fun b105 h105 => ?_; refine Pool.qb 17 rfl rfl rfl rfl rfl (q_eqlB rfl rfl rfl) rfl fun b106 h106 => ?_; refine Pool.v 18 rfl rfl rfl rfl rfl rfl rfl trivial ?_
    have e106 : b106 = true := by rw [← h106, ← h105, hlv]; simp
    subst e106
    cases lv
    · have stop22 := trivial
      refine Pool.v 19 rfl rfl rfl rfl rfl rfl rfl trivial ?_; refine Pool.v 20 rfl rfl rfl rfl rfl rfl rfl trivial ?_; refine Pool.v 21 rfl rfl rfl rfl rfl rfl rfl trivial ?_; refine Pool.un 22 rfl rfl rfl rfl rfl rfl ?_; refine Pool.un 23 rfl rfl rfl rfl rfl rfl ?_; refine Pool.un 24 rfl rfl rfl rfl rfl rfl ?_; refine Pool.un 25 rfl rfl rfl rfl rfl rfl ?_; refine Pool.v 26 rfl rfl rfl rfl rfl rfl rfl trivial ?_; refine Pool.v 27 rfl rfl rfl rfl rfl rfl rfl trivial ?_
      refine Pool.v 28 rfl rfl rfl rfl rfl rfl rfl trivial ?_
      subst hL
      refine Pool.cq 29 rfl rfl rfl rfl rfl rfl rfl rfl rfl (fun H_ hs_ => s22 hG.a) ?_; refine Pool.v 30 rfl rfl rfl rfl rfl rfl rfl trivial ?_; refine Pool.v 31 rfl rfl rfl rfl rfl rfl rfl trivial ?_; refine pool_done rfl rfl ?_; refine At.regionEnd ?_
      exact hLB Tryz.func11 (.inr ⟨_, rfl⟩) rfl (.tmp rfl .nil) (⟨by rfl, rfl⟩)
    · have stop22 := trivial
      refine Pool.v 19 rfl rfl rfl rfl rfl rfl rfl trivial ?_; refine Pool.v 20 rfl rfl rfl rfl rfl rfl rfl trivial ?_; refine Pool.v 21 rfl rfl rfl rfl rfl rfl rfl trivial ?_; refine Pool.ld 1 22 rfl rfl rfl rfl rfl rfl rfl rfl rfl rfl rfl ?_; refine Pool.v 23 rfl rfl rfl rfl rfl rfl rfl trivial ?_; refine Pool.cq 24 rfl rfl rfl rfl rfl rfl rfl rfl rfl (fun H hs => s49 L H) ?_; refine Pool.qb 25 rfl rfl rfl rfl rfl (q_eqS rfl rfl rfl rfl rfl rfl rfl rfl) rfl fun b114 h114 => ?_
      refine Pool.v 26 rfl rfl rfl rfl rfl rfl rfl trivial ?_; refine Pool.v 27 rfl rfl rfl rfl rfl rfl rfl trivial ?_; refine Pool.v 28 rfl rfl rfl rfl rfl rfl rfl trivial ?_
      have e114 : b114 = true := by rw [← h114, hhi' rfl]; simp
      subst e114
      skip
      subst hL
      refine Pool.cq 29 rfl rfl rfl rfl rfl rfl rfl rfl rfl (fun H_ hs_ => s22 hG.a) ?_; refine Pool.v 30 rfl rfl rfl rfl rfl rfl rfl trivial ?_; refine Pool.v 31 rfl rfl rfl rfl rfl rfl rfl trivial ?_; refine pool_done rfl rfl ?_; refine At.regionEnd ?_
      exact hLB Tryz.func11 (.inr ⟨_, rfl⟩) rfl (.tmp rfl .nil) (⟨by rfl, rfl⟩)
end Go.Gx
end

section
set_option linter.unusedSimpArgs false
set_option linter.unusedVariables false
namespace Go.Gx
open Go Go.Conc Go.Proofs Go.ChangeShapes Go.RowKit YtokdmiiejfmomaaGreatDoor
set_option maxRecDepth 100000
theorem ip11 : Tryz.prog.inPlace 11 = [] := by kernel_rfl
theorem uf11 : Tryz.prog.unfollowed 11 = true := by kernel_rfl
theorem rc11 : Tryz.prog.recurses 11 = true := by kernel_rfl
theorem vn11 : Tryz.prog.varsNamed 11 = ["velarium/canvas.checks"] := by kernel_rfl
theorem closed11 : joinedFacts Tryz.prog 11 Tryz.f11 Rows.canvasKeptSpec Rows.canvasKeptRow = true := by
  unfold joinedFacts
  rewrite [ip11, uf11, rc11, vn11, enter1, lf1, make1]
  kernel_rfl
theorem fnm11 : Tryz.prog.funcNamed "velarium/velariumlaw02.CanvasKept" = some 11 := by kernel_rfl
theorem inst11 : Tryz.f11.isInstance Tryz.prog Rows.canvasKeptRow.origin Rows.canvasKeptRow.targs := of_decide_eq_true (by kernel_rfl)
theorem wrap11 : Tryz.f11.isWrapper Tryz.prog Rows.canvasKeptRow.wrapper Rows.canvasKeptRow.mainSum := by unfold Func.isWrapper; first | (rw [if_pos (by decide +kernel)]; kernel_rfl) | (rw [if_neg (by decide +kernel)]; exact ⟨rfl, rfl⟩)
theorem goes11 : Tryz.prog.goes 11 = true := by kernel_rfl
theorem wbt11 : Rows.canvasKeptRow.wfByText (OpenSpec.ofChange Rows.canvasKeptSpec) = true := by kernel_rfl
theorem wants11 : (Tryz.f11.params.toList.all fun t => !Tryz.prog.wantsStandIn t) = true := by kernel_rfl

theorem lifted11 (os : Os) (started : os.Started) (H : Type) (enc : TypeId × Value → H) :
    ReturnsInLeavingWide {} Tryz.checked os 11 .any (fun w args => (Rows.canvasKeptSpec.pre enc Tryz.prog Tryz.f11 [] false w args ∧ laidMetH Tryz.prog laid1 w) ∧ sizedMet enc Tryz.prog Tryz.f11 (OpenSpec.ofChange Rows.canvasKeptSpec) false w args) (Rows.canvasKeptSpec.post enc Tryz.prog Tryz.f11 false true false false) := by
  refine law_lift Tryz.func11 (by kernel_rfl) rfl rfl (by kernel_rfl) os started H enc #[.agg #[.slice none 0 0, .int .i64 0, .int .i64 0, .int .i64 0, .slice none 0 0], .int .u8 0, .int .u8 0, .int .u8 0, .int .i8 0]
    (World.shaped_of_RefB (by kernel_rfl) (by kernel_rfl)) (by kernel_rfl) (by kernel_rfl) (by kernel_rfl) ?_
  intro W base args ds ps hval hA
  rw [Tryz.params11] at hval hA
  obtain ⟨v0, vs0, d0, ds0, p0, q0, e0, rfl, rfl, h0, hA⟩ := trodAll_cons hA
  obtain ⟨v1, vs1, d1, ds1, p1, q1, rfl, rfl, rfl, h1, hA⟩ := trodAll_cons hA
  obtain ⟨v2, vs2, d2, ds2, p2, q2, rfl, rfl, rfl, h2, hA⟩ := trodAll_cons hA
  obtain ⟨v3, vs3, d3, ds3, p3, q3, rfl, rfl, rfl, h3, hA⟩ := trodAll_cons hA
  obtain ⟨v4, vs4, d4, ds4, p4, q4, rfl, rfl, rfl, h4, hA⟩ := trodAll_cons hA
  obtain ⟨rfl, rfl, rfl⟩ := trodAll_nil hA
  obtain rfl : args = #[v0, v1, v2, v3, v4] := Array.toList_inj.1 e0
  obtain ⟨B0, A0, Hs0, rfl, hsh0, hb0⟩ := open_book (hval 0 27 _ rfl rfl) h0
  obtain ⟨n1, rfl, rfl, rfl, w1⟩ := open_int Tryz.underlying5 (hval 1 5 _ rfl rfl) h1
  obtain ⟨n2, rfl, rfl, rfl, w2⟩ := open_int Tryz.underlying5 (hval 2 5 _ rfl rfl) h2
  obtain ⟨n3, rfl, rfl, rfl, w3⟩ := open_int Tryz.underlying5 (hval 3 5 _ rfl rfl) h3
  obtain ⟨n4, rfl, rfl, rfl, w4⟩ := open_int Tryz.underlying53 (hval 4 53 _ rfl rfl) h4
  exact ⟨rfl, Hs0, hsh0, fun Post => s11 hsh0.glo (hb0.a (Sub.append_left _ _)) (wf_u8 w1) (wf_u8 w2) (wf_u8 w3) (wf_i8 w4)⟩
theorem said11 : Rows.CanvasKeptSaid :=
  OpenClaim.holds_of_wide_leaving 11 Tryz.f11 rfl rfl rfl rfl rfl rfl rfl ⟨rfl, rfl, rfl, rfl, rfl⟩ rfl rfl rfl rfl rfl fnm11 Tryz.func11 closed11 inst11 wrap11
    (fun os started H enc _ => lifted11 os started H enc)
theorem card11 : Rows.CanvasKeptCardSaid :=
  ⟨Claim7.tied_new_at .later [.funcs] true (Claim7.new_of_sixth said11 (true, "2aeeda9e0b315eb022070bc88bc80a554dcd329f773ad53586088327a2b29430") false rfl ⟨rfl, rfl⟩ mi1 rfl
    (fun f fn hf hfn => by
      obtain rfl : f = 11 := Option.some.inj (hf.symm.trans fnm11)
      obtain rfl : fn = Tryz.f11 := Option.some.inj (hfn.symm.trans Tryz.func11)
      exact ⟨looks1.symm, wants_of wants11⟩)) wbt11, (fun _ h => by cases h), canvasKept_row_tie, (fun h => by cases h), goes_of fnm11 goes11⟩
end Go.Gx
namespace Go.Proofs.YtokdmiiejfmomaaGreatDoor
/-- THE CARD OF CanvasKept. -/
theorem canvasKept_card : Rows.CanvasKeptCardSaid := Go.Gx.card11
#print axioms canvasKept_card
end Go.Proofs.YtokdmiiejfmomaaGreatDoor
end
