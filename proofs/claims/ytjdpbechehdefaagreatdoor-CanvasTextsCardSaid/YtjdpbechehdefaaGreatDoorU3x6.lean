/-
  CanvasTexts: the logic of the walk, the contracts of the program's functions, the plain law and the card.
-/
import Derived.Test.YtjdpbechehdefaaGreatDoorU3x5
import Derived.KernelRfl
import GoSem.Extern.BytealgIndexByte
import GoSem.Extern.BytealgCount
set_option linter.unusedSimpArgs false
set_option linter.unusedVariables false
section
namespace Go.Gx
open Go Go.Conc Go.Proofs
structure Glo (H Hg : Facts) : Prop where
 sub : Sub Hg H
 sh : ∀ f ∈ Hg,f.isOwn = false
 g : Cells Hg 1 0 chkC
theorem Glo.a {H H' Hg : Facts} (h : Glo H Hg) (hs : Sub H H' := by repeat (first | exact Sub.refl _ | assumption | exact Sub.pre _ _ | apply Sub.cons | apply Sub.drop | apply Sub.appL | apply Sub.dropL | refine Sub.trans ?_ (by assumption))) : Glo H' Hg := ⟨h.sub.trans hs,h.sh,h.g⟩
theorem Glo.ops {H Hg : Facts} {B : Bk} {A : BkA} {r : Nat} {n cap : Nat} (h : Glo H Hg) (hA : A = ⟨some ⟨r,0,none⟩,cap,none,0⟩) (hm : B.marks = []) (hl : B.prof.length ≤ 100000) : OpS (.seg r 0 (B.prof.flatMap c2) :: H) (.seg r 0 (B.prof.flatMap c2) :: Hg) B A := by
 subst hA
 refine ⟨h.sub.cons _,?_,⟨h.g.a,⟨?_,?_⟩,hl,by rw [hm];simp⟩⟩
 ·intro f hf
  rcases List.mem_cons.1 hf with rfl | hf
  ·rfl
  ·exact h.sh f hf
 ·have := rd_seg (H := .seg r 0 (B.prof.flatMap c2) :: Hg) (b := r) (vs := B.prof.flatMap c2) (rest := []) (by simp)
  exact this
 ·rw [hm];exact .inl rfl
set_option maxRecDepth 100000 in
set_option maxHeartbeats 1000000 in
theorem s6 {Post : Value → World → Prop} {W₀ : World} {H Hg : Facts} (hG : Glo H Hg) : Pure (mainLg Tryz.prog Post W₀ [] []) 6 #[] H (.bool true) := by
 refine Spec.enter Tryz.func6 rfl (by simp [Tryz.f6]) fun c cs hc => ?_
 generalize hL : mainLg Tryz.prog Post W₀ [] [] = L at hc ⊢
 have stop14 := trivial
 have stop16 := trivial
 have stop17 := trivial
 have stop19 := trivial
 have stop20 := trivial
 have stop21 := trivial
 have stop22 := trivial
 have stop25 := trivial
 have stop27 := trivial
 have stop30 := trivial
 have stop28 := trivial
 have stop29 := trivial
 have stop26 := trivial
 have stop31 := trivial
 have stop23 := trivial
 have stop24 := trivial
 refine At.seq (At.region ?_);refine Aa Z Z Z Z Z O ?_;refine Ab (At.seq (At.region ?_));refine Ay Z Z Z Z Z Z Z Z (s13 L H) ?_
 rintro _ _ ⟨_,⟨rc,rfl,rfl⟩,rfl⟩
 refine At.share ?_
 have hO := Glo.ops (B := exC) (A := exA rc 4) (r := rc) (n := 4) (cap := 4) hG Z Z (by decide)
 refine At.weakH (H' := .seg rc 0 (exC.prof.flatMap c2) :: H) ?_ (Sub.refl _)
 refine Al Z Z Z Z Z fun r1 => ?_;refine Ag 0 Z Z Z Z Z Z Z Z Z Z Z Z ?_;refine Ab (At.seq ?_);refine Aw hmix [] rfl ?_;refine Aj 0 0 Z Z Z Z Z Z Z Z Z Z Z ?_;refine Ap 1 Z Z Z Z Z Z Z Z Z (fun H hs => s15 L H) ?_;refine Pool.fl 8 Z Z Z Z Z Z Z Z Z Z ?_;refine Pool.fl 9 Z Z Z Z Z Z Z Z Z Z ?_
 refine Ap 2 Z Z Z Z Z Z Z Z Z (fun H_ hs_ => x25a L H_ (hO.a.opn)) ?_;refine Ac 3 Z Z Z Z Z Z Z O ?_;refine Ac 4 Z Z Z Z Z Z Z O ?_;refine Ac 5 Z Z Z Z Z Z Z O ?_;refine Ac 6 Z Z Z Z Z Z Z O ?_;refine Ac 7 Z Z Z Z Z Z Z O ?_;refine Ac 12 Z Z Z Z Z Z Z O ?_;refine Ac 13 Z Z Z Z Z Z Z O ?_
 refine pool_take Z Z Z fun rf9 => ?_;refine pool_take Z Z Z fun rf8 => ?_;refine Ba 0 10 Z Z Z Z Z Z Z Z Z Z Z Z Z Z Z Z Z Z sb ?_;refine Ba 1 11 Z Z Z Z Z Z Z Z Z Z Z Z Z Z Z Z Z Z sb ?_;refine pool_done Z Z ?_;refine Ab (At.seq ?_);refine Aw hmix [] rfl ?_;refine Aj 2 0 Z Z Z Z Z Z Z Z Z Z Z ?_
 refine Ap 1 Z Z Z Z Z Z Z Z Z (fun H hs => s15 L H) ?_;refine Pool.fl 8 Z Z Z Z Z Z Z Z Z Z ?_;refine Pool.fl 9 Z Z Z Z Z Z Z Z Z Z ?_;refine Ap 2 Z Z Z Z Z Z Z Z Z (fun H_ hs_ => x25b L H_ (hO.a.opn)) ?_;refine Ac 3 Z Z Z Z Z Z Z O ?_;refine Ac 4 Z Z Z Z Z Z Z O ?_;refine Ac 5 Z Z Z Z Z Z Z O ?_
 refine Ac 6 Z Z Z Z Z Z Z O ?_;refine Ac 7 Z Z Z Z Z Z Z O ?_;refine Ac 12 Z Z Z Z Z Z Z O ?_;refine Ac 13 Z Z Z Z Z Z Z O ?_;refine pool_take Z Z Z fun rf9 => ?_;refine pool_take Z Z Z fun rf8 => ?_;refine Ba 0 10 Z Z Z Z Z Z Z Z Z Z Z Z Z Z Z Z Z Z sb ?_
 refine Ba 1 11 Z Z Z Z Z Z Z Z Z Z Z Z Z Z Z Z Z Z sb ?_;refine pool_done Z Z ?_;refine Ab (At.seq ?_);refine Aw hmix [] rfl ?_;refine Aj 4 0 Z Z Z Z Z Z Z Z Z Z Z ?_;refine Ap 1 Z Z Z Z Z Z Z Z Z (fun H hs => s15 L H) ?_;refine Pool.fl 8 Z Z Z Z Z Z Z Z Z Z ?_;refine Ap 2 Z Z Z Z Z Z Z Z Z (fun H_ hs_ => x27a L H_ (hO.a.opn)) ?_
 refine Ac 3 Z Z Z Z Z Z Z O ?_;refine Ac 4 Z Z Z Z Z Z Z O ?_;refine Ac 5 Z Z Z Z Z Z Z O ?_;refine Ac 6 Z Z Z Z Z Z Z O ?_;refine Ac 7 Z Z Z Z Z Z Z O ?_;refine Ac 9 Z Z Z Z Z Z Z O ?_;refine Ac 11 Z Z Z Z Z Z Z O ?_;refine Ac 12 Z Z Z Z Z Z Z O ?_;refine pool_take Z Z Z fun rf8 => ?_
 refine Ba 0 10 Z Z Z Z Z Z Z Z Z Z Z Z Z Z Z Z Z Z sb ?_;refine pool_done Z Z ?_;refine Ab (At.seq ?_);refine Aw hmix [] rfl ?_;refine Aj 5 0 Z Z Z Z Z Z Z Z Z Z Z ?_;refine Ap 1 Z Z Z Z Z Z Z Z Z (fun H hs => s15 L H) ?_;refine Pool.fl 8 Z Z Z Z Z Z Z Z Z Z ?_;refine Ap 2 Z Z Z Z Z Z Z Z Z (fun H_ hs_ => x27b L H_ (hO.a.opn)) ?_
 refine Ac 3 Z Z Z Z Z Z Z O ?_;refine Ac 4 Z Z Z Z Z Z Z O ?_;refine Ac 5 Z Z Z Z Z Z Z O ?_;refine Ac 6 Z Z Z Z Z Z Z O ?_;refine Ac 7 Z Z Z Z Z Z Z O ?_;refine Ac 9 Z Z Z Z Z Z Z O ?_;refine Ac 11 Z Z Z Z Z Z Z O ?_;refine Ac 12 Z Z Z Z Z Z Z O ?_;refine pool_take Z Z Z fun rf8 => ?_
 refine Ba 0 10 Z Z Z Z Z Z Z Z Z Z Z Z Z Z Z Z Z Z sb ?_;refine pool_done Z Z ?_;refine Ab (At.seq (At.region ?_));refine Ay Z Z Z Z Z Z Z Z (s18 L _) ?_
 rintro _ _ ⟨_,⟨rv,rfl,rfl⟩,rfl⟩
 refine At.share ?_
 have hV := Glo.ops (B := exV) (A := exA rv 3) (r := rv) (n := 3) (cap := 3) hG Z Z (by decide)
 refine At.weakH (H' := .seg rv 0 (exV.prof.flatMap c2) :: _) ?_ (Sub.refl _)
 skip
 refine Ay Z Z Z Z Z Z Z Z (x29a L _ (hV.a.opn)) ?_
 rintro _ _ ⟨sv6,⟨a6,c6,rfl,hs6⟩,rfl⟩
 obtain ⟨_,hr6,_⟩ := hs6.rd
 refine At.rot 9 rfl ?_;(iterate 5 refine Aa Z Z Z Z Z O ?_);refine Ab (At.seq (At.region ?_));refine Ay Z Z Z Z Z Z Z Z (s18 L _) ?_
 rintro _ _ ⟨_,⟨rv2,rfl,rfl⟩,rfl⟩
 refine At.share ?_
 have hV2 := Glo.ops (B := exV) (A := exA rv2 3) (r := rv2) (n := 3) (cap := 3) hG Z Z (by decide)
 refine At.weakH (H' := .seg rv2 0 (exV.prof.flatMap c2) :: _) ?_ (Sub.refl _)
 skip
 refine Ay Z Z Z Z Z Z Z Z (x29b L _ (hV2.a.opn)) ?_
 rintro _ _ ⟨sv7,⟨a7,c7,rfl,hs7⟩,rfl⟩
 refine At.rot 10 rfl ?_;(iterate 5 refine Aa Z Z Z Z Z O ?_);refine Ab (At.seq (At.region ?_));refine Ai Z Z Z Z Z Z Z Z (s15 L _) ?_;refine Ae Z Z Z Z (q_build Z Z Z) ?_;refine Ai Z Z Z Z Z Z Z Z (s15 L _) ?_;refine Ae Z Z Z Z (q_build Z Z Z) ?_;refine Al Z Z Z Z Z fun r22 => ?_;refine Al Z Z Z Z Z fun r23 => ?_
 refine Ag 1 Z Z Z Z Z Z Z Z Z Z Z Z ?_;refine Ag 0 Z Z Z Z Z Z Z Z Z Z Z Z ?_;refine Ab (At.seq (At.region ?_));refine Af 10 Z Z Z Z Z Z Z Z Z ?_;refine Af 1 Z Z Z Z Z Z Z Z Z ?_;refine Af 0 Z Z Z Z Z Z Z Z Z ?_;refine Ay Z Z Z Z Z Z Z Z (x32 L _ (hO.a.opn)) ?_
 rintro _ _ ⟨sv8,⟨a8,c8,rfl,hs8⟩,rfl⟩
 obtain ⟨_,hr8,_⟩ := hs8.rd
 refine At.rot 12 rfl ?_;(iterate 5 refine Aa Z Z Z Z Z O ?_);refine Ab (At.seq (At.region ?_));refine Af 10 Z Z Z Z Z Z Z Z Z ?_;refine Af 1 Z Z Z Z Z Z Z Z Z ?_;refine Af 0 Z Z Z Z Z Z Z Z Z ?_;refine Ai Z Z Z Z Z Z Z Z (x34 L _ (hO.a.opn)) ?_;(iterate 4 refine Aa Z Z Z Z Z O ?_);refine Al Z Z Z Z Z fun r27 => ?_
 refine Aa Z Z Z Z Z O ?_;refine Ag 0 Z Z Z Z Z Z Z Z Z Z Z Z ?_;refine Aa Z Z Z Z Z O ?_;refine Ab (At.seq ?_);refine Bd hmix (_) sb ?_;refine Aj 11 0 Z Z Z Z Z Z Z Z Z Z Z ?_;refine Ap 1 Z Z Z Z Z Z Z Z Z (fun H hs => s15 L H) ?_;refine Pool.cl 2 Z Z Z Z Z Z Z Z Z Z Z Z Z Z (fun H_ hs_ => x36 L H_ (hO.a.opn)) sb ?_
 rintro _ sv9 ⟨a9,c9,rfl,hs9⟩
 obtain ⟨_,hr9,_⟩ := hs9.rd
 refine Ac 3 Z Z Z Z Z Z Z O ?_;refine Ac 4 Z Z Z Z Z Z Z O ?_;refine Ac 5 Z Z Z Z Z Z Z O ?_;refine Ac 6 Z Z Z Z Z Z Z O ?_;refine Ac 7 Z Z Z Z Z Z Z O ?_;refine pool_done Z Z ?_;refine Ab (At.seq (At.region ?_));refine At.rot 13 rfl ?_;refine Af 11 Z Z Z Z Z Z Z Z Z ?_
 refine Ay Z Z Z Z Z Z Z Z (x51 L _ (hO.a.opn)) ?_
 rintro _ _ ⟨sv10,⟨a10,c10,rfl,hs10⟩,rfl⟩
 obtain ⟨_,hr10,_⟩ := hs10.rd
 refine At.rot 13 rfl ?_;(iterate 5 refine Aa Z Z Z Z Z O ?_);refine Ab (At.seq (At.seq (At.region ?_)));refine Aa Z Z Z Z Z O ?_;refine Ad Z Z Z Z Z fun b115 h115 => ?_;refine Aa Z Z Z Z Z O ?_
 obtain rfl : b115 = false := h115.symm.trans (by kernel_rfl)
 refine Aa Z Z Z Z Z O ?_;refine Ad Z Z Z Z Z fun b118 h118 => ?_;(iterate 2 refine Aa Z Z Z Z Z O ?_)
 obtain rfl : b118 = false := h118.symm.trans (by kernel_rfl)
 refine Aa Z Z Z Z Z O ?_;refine Ad Z Z Z Z Z fun b122 h122 => ?_;(iterate 2 refine Aa Z Z Z Z Z O ?_)
 obtain rfl : b122 = false := h122.symm.trans (by kernel_rfl)
 refine Aa Z Z Z Z Z O ?_;refine Ad Z Z Z Z Z fun b126 h126 => ?_;(iterate 2 refine Aa Z Z Z Z Z O ?_)
 obtain rfl : b126 = false := h126.symm.trans (by kernel_rfl)
 refine Aa Z Z Z Z Z O ?_;refine Ad Z Z Z Z Z fun b130 h130 => ?_;(iterate 2 refine Aa Z Z Z Z Z O ?_)
 obtain rfl : b130 = false := h130.symm.trans (by kernel_rfl)
 refine Aa Z Z Z Z Z O ?_;refine Ad Z Z Z Z Z fun b134 h134 => ?_;(iterate 2 refine Aa Z Z Z Z Z O ?_)
 obtain rfl : b134 = false := h134.symm.trans (by kernel_rfl)
 refine Aa Z Z Z Z Z O ?_;refine Ad Z Z Z Z Z fun b138 h138 => ?_;(iterate 2 refine Aa Z Z Z Z Z O ?_)
 obtain rfl : b138 = false := h138.symm.trans (by kernel_rfl)
 refine Aa Z Z Z Z Z O ?_;refine Ad Z Z Z Z Z fun b142 h142 => ?_;(iterate 2 refine Aa Z Z Z Z Z O ?_)
 obtain rfl : b142 = false := h142.symm.trans (by kernel_rfl)
 refine Aa Z Z Z Z Z O ?_;refine Ad Z Z Z Z Z fun b146 h146 => ?_;(iterate 2 refine Aa Z Z Z Z Z O ?_)
 obtain rfl : b146 = false := h146.symm.trans (by kernel_rfl)
 refine Aa Z Z Z Z Z O ?_;refine Ad Z Z Z Z Z fun b150 h150 => ?_;refine Aa Z Z Z Z Z O ?_;refine Ab ?_
 obtain rfl : b150 = false := h150.symm.trans (by kernel_rfl)
 refine At.cond Z ?_;refine At.skip (At.seq (At.seq ?_));refine Aw hmix [] rfl ?_;refine Aj 9 0 Z Z Z Z Z Z Z Z Z Z Z ?_;refine Ap 1 Z Z Z Z Z Z Z Z Z (fun H hs => s15 L H) ?_;refine Pool.qb 2 Z Z Z Z Z (q_neqS Z Z Z Z Z Z Z Z) rfl fun b154 h154 => ?_;refine Ac 3 Z Z Z Z Z Z Z O ?_
 obtain rfl : b154 = false := h154.symm.trans (by kernel_rfl)
 refine Aj 10 4 Z Z Z Z Z Z Z Z Z Z Z ?_;refine Ap 5 Z Z Z Z Z Z Z Z Z (fun H hs => s15 L H) ?_;refine Pool.qb 6 Z Z Z Z Z (q_neqS Z Z Z Z Z Z Z Z) rfl fun b158 h158 => ?_;refine Ac 7 Z Z Z Z Z Z Z O ?_;refine Ac 8 Z Z Z Z Z Z Z O ?_
 obtain rfl : b158 = false := h158.symm.trans (by kernel_rfl)
 refine Ac 9 Z Z Z Z Z Z Z O ?_;refine Ac 10 Z Z Z Z Z Z Z O ?_;refine Ac 11 Z Z Z Z Z Z Z O ?_;refine Ac 12 Z Z Z Z Z Z Z O ?_;refine Ac 13 Z Z Z Z Z Z Z O ?_;refine Ac 14 Z Z Z Z Z Z Z O ?_;refine Ac 15 Z Z Z Z Z Z Z O ?_;refine Ac 16 Z Z Z Z Z Z Z O ?_
 refine Bb 17 Z Z Z Z Z Z Z fun b169 h169 => ?_;refine Ac 18 Z Z Z Z Z Z Z O ?_;refine Ac 19 Z Z Z Z Z Z Z O ?_
 obtain rfl : b169 = false := h169.symm.trans (by kernel_rfl)
 refine Aj 6 20 Z Z Z Z Z Z Z Z Z Z Z ?_;refine Ap 21 Z Z Z Z Z Z Z Z Z (fun H hs => s15 L H) ?_;refine Pool.qb 22 Z Z Z Z Z (q_neqS Z Z Z Z Z Z Z Z) rfl fun b174 h174 => ?_;refine Ac 23 Z Z Z Z Z Z Z O ?_;refine Ac 24 Z Z Z Z Z Z Z O ?_
 obtain rfl : b174 = false := h174.symm.trans (by kernel_rfl)
 refine Ac 25 Z Z Z Z Z Z Z O ?_;refine Ac 26 Z Z Z Z Z Z Z O ?_;refine Ac 27 Z Z Z Z Z Z Z O ?_;refine Ac 28 Z Z Z Z Z Z Z O ?_;refine Ac 29 Z Z Z Z Z Z Z O ?_;refine Bb 30 Z Z Z Z Z Z Z fun b182 h182 => ?_;refine Ac 31 Z Z Z Z Z Z Z O ?_;refine Ac 32 Z Z Z Z Z Z Z O ?_
 obtain rfl : b182 = false := h182.symm.trans (by kernel_rfl)
 refine Aj 5 33 Z Z Z Z Z Z Z Z Z Z Z ?_;refine Ap 34 Z Z Z Z Z Z Z Z Z (fun H hs => s15 L H) ?_;refine Pool.qb 35 Z Z Z Z Z (q_neqS Z Z Z Z Z Z Z Z) rfl fun b187 h187 => ?_;refine Ac 36 Z Z Z Z Z Z Z O ?_;refine Ac 37 Z Z Z Z Z Z Z O ?_
 obtain rfl : b187 = false := h187.symm.trans (by kernel_rfl)
 refine Ac 38 Z Z Z Z Z Z Z O ?_;refine Ac 39 Z Z Z Z Z Z Z O ?_;refine Ac 40 Z Z Z Z Z Z Z O ?_;refine Ac 41 Z Z Z Z Z Z Z O ?_;refine Ac 42 Z Z Z Z Z Z Z O ?_;refine Pool.bs 43 Z Z Z Z Z Z Z Z Z Z Z Z Z Z Z sb fun r195 => ?_
 refine Pool.cl 44 Z Z Z Z Z Z Z Z Z Z Z Z Z Z (fun H_ hs_ => ((s23 L H_ (xs := [2]) (ys := [2]) Z Z (hr6.a) ((rd_own 0 Z Z).more hs_) (by decide)).eq (w := .bool true) (by kernel_rfl)).grows) sb ?_
 rintro _ _ ⟨rfl,rfl⟩
 refine Ac 45 Z Z Z Z Z Z Z O ?_;refine Ac 46 Z Z Z Z Z Z Z O ?_;refine Ac 47 Z Z Z Z Z Z Z O ?_;refine Ac 48 Z Z Z Z Z Z Z O ?_;refine Pool.ln 49 Z Z Z Z Z Z Z Z Z Z ?_;refine Bb 50 Z Z Z Z Z Z Z fun b202 h202 => ?_;refine Ac 51 Z Z Z Z Z Z Z O ?_;refine Ac 52 Z Z Z Z Z Z Z O ?_
 obtain rfl : b202 = false := h202.symm.trans (by kernel_rfl)
 refine Ac 53 Z Z Z Z Z Z Z O ?_;refine Pool.bs 54 Z Z Z Z Z Z Z Z Z Z Z Z Z Z Z sb fun r206 => ?_;refine Pool.cl 55 Z Z Z Z Z Z Z Z Z Z Z Z Z Z (fun H_ hs_ => ((s23 L H_ (xs := [12,13,14,15,16,17]) (ys := [12,13,14,15,16,17]) Z Z (hr9.a) ((rd_own 0 Z Z).more hs_) (by decide)).eq (w := .bool true) (by kernel_rfl)).grows) sb ?_
 rintro _ _ ⟨rfl,rfl⟩
 refine Ac 56 Z Z Z Z Z Z Z O ?_;refine Ac 57 Z Z Z Z Z Z Z O ?_;refine Ac 58 Z Z Z Z Z Z Z O ?_;refine Ac 59 Z Z Z Z Z Z Z O ?_;refine Pool.bs 60 Z Z Z Z Z Z Z Z Z Z Z Z Z Z Z sb fun r212 => ?_
 refine Pool.cl 61 Z Z Z Z Z Z Z Z Z Z Z Z Z Z (fun H_ hs_ => ((s23 L H_ (xs := [14,15,16]) (ys := [14,15,16]) Z Z (hr10.a) ((rd_own 0 Z Z).more hs_) (by decide)).eq (w := .bool true) (by kernel_rfl)).grows) sb ?_
 rintro _ _ ⟨rfl,rfl⟩
 refine Ac 62 Z Z Z Z Z Z Z O ?_;refine Ac 63 Z Z Z Z Z Z Z O ?_;refine pool_done Z Z ?_;refine Ab ?_;refine At.cond Z ?_;refine At.skip (At.seq (At.seq ?_));refine Aw hmix [] rfl ?_;refine Ac 0 Z Z Z Z Z Z Z O ?_;refine Ap 1 Z Z Z Z Z Z Z Z Z (fun H hs => s15 L H) ?_;refine Ap 2 Z Z Z Z Z Z Z Z Z (fun H hs => s15 L H) ?_
 refine Ap 3 Z Z Z Z Z Z Z Z Z (fun H hs => s15 L H) ?_;refine Ap 4 Z Z Z Z Z Z Z Z Z (fun H hs => s15 L H) ?_;refine Ap 5 Z Z Z Z Z Z Z Z Z (fun H hs => s15 L H) ?_;refine Pool.bs 6 Z Z Z Z Z Z Z Z Z Z Z Z Z Z Z sb fun r222 => ?_
 refine Pool.cl 7 Z Z Z Z Z Z Z Z Z Z Z Z Z Z (fun H_ hs_ => ((s24 L H_ (xs := exTh) (ys := exTh) Z Z (hr8.a) ((rd_own 0 Z Z).more hs_) (by decide)).eq (w := .bool true) (by kernel_rfl)).grows) sb ?_
 rintro _ _ ⟨rfl,rfl⟩
 refine Ac 8 Z Z Z Z Z Z Z O ?_;refine Ac 9 Z Z Z Z Z Z Z O ?_;refine Ac 10 Z Z Z Z Z Z Z O ?_;refine Bb 11 Z Z Z Z Z Z Z fun b227 h227 => ?_;refine Ac 12 Z Z Z Z Z Z Z O ?_;refine Ac 13 Z Z Z Z Z Z Z O ?_
 obtain rfl : b227 = false := h227.symm.trans (by kernel_rfl)
 refine Aj 3 14 Z Z Z Z Z Z Z Z Z Z Z ?_;refine Ap 15 Z Z Z Z Z Z Z Z Z (fun H hs => s15 L H) ?_;refine Pool.qb 16 Z Z Z Z Z (q_neqS Z Z Z Z Z Z Z Z) rfl fun b232 h232 => ?_;refine Ac 17 Z Z Z Z Z Z Z O ?_;refine pool_done Z Z ?_;refine Ab ?_
 obtain rfl : b232 = false := h232.symm.trans (by kernel_rfl)
 refine At.cond Z ?_;refine At.skip (At.seq ?_)
 refine At.weakH (H' := .own r1 (.cells (List.toArray (bkC exC (exA rc 4))) 27 (0,0)) :: .seg rc 0 (exC.prof.flatMap c2) :: H) ?_ (by repeat (first | exact Sub.refl _ | exact Sub.pre _ _ | apply Sub.cons | apply Sub.drop | apply Sub.appL | apply Sub.dropL))
 refine Bd hmix (_) sb ?_;refine Aj 0 0 Z Z Z Z Z Z Z Z Z Z Z ?_;refine Ap 1 Z Z Z Z Z Z Z Z Z (fun H hs => s15 L H) ?_
 subst hL
 refine Pool.cl 2 Z Z Z Z Z Z Z Z Z Z Z Z Z Z (fun H_ hs_ => x52a (H := H_) (hO.a)) sb ?_
 rintro _ sv11 ⟨a11,c11,rfl,hs11⟩
 obtain ⟨_,hr11,_⟩ := hs11.rd
 generalize hL : mainLg Tryz.prog Post W₀ [] [] = L at hc ⊢
 refine Ac 3 Z Z Z Z Z Z Z O ?_;refine Ac 4 Z Z Z Z Z Z Z O ?_;refine Ac 5 Z Z Z Z Z Z Z O ?_;refine Ac 6 Z Z Z Z Z Z Z O ?_;refine Ac 7 Z Z Z Z Z Z Z O ?_;refine Ac 8 Z Z Z Z Z Z Z O ?_;refine Ac 9 Z Z Z Z Z Z Z O ?_;refine pool_done Z Z ?_;refine Ab (At.seq ?_);refine At.rot 2 rfl ?_
 skip
 refine Bd hmix (_) sb ?_;refine Aj 0 0 Z Z Z Z Z Z Z Z Z Z Z ?_;refine Ap 1 Z Z Z Z Z Z Z Z Z (fun H hs => s15 L H) ?_
 subst hL
 refine Pool.cl 2 Z Z Z Z Z Z Z Z Z Z Z Z Z Z (fun H_ hs_ => x52b (H := H_) (hO.a)) sb ?_
 rintro _ sv12 ⟨a12,c12,rfl,hs12⟩
 generalize hL : mainLg Tryz.prog Post W₀ [] [] = L at hc ⊢
 have stopDraw := trivial
 refine Ac 3 Z Z Z Z Z Z Z O ?_;refine Ac 4 Z Z Z Z Z Z Z O ?_;refine Ac 5 Z Z Z Z Z Z Z O ?_;refine Ac 6 Z Z Z Z Z Z Z O ?_;refine Ac 7 Z Z Z Z Z Z Z O ?_;refine Ac 8 Z Z Z Z Z Z Z O ?_;refine Ac 9 Z Z Z Z Z Z Z O ?_;refine pool_done Z Z ?_;refine Ab (At.seq ?_)
 clear stopDraw
 refine At.rot 2 rfl ?_;refine Aw hmix [] rfl ?_;refine Aj 0 0 Z Z Z Z Z Z Z Z Z Z Z ?_;refine Ap 1 Z Z Z Z Z Z Z Z Z (fun H hs => s15 L H) ?_
 subst hL
 refine Ap 2 Z Z Z Z Z Z Z Z Z (fun H_ hs_ => x66 (H := H_) (hO.a)) ?_
 generalize hL : mainLg Tryz.prog Post W₀ [] [] = L at hc ⊢
 refine Ac 3 Z Z Z Z Z Z Z O ?_;refine Ac 4 Z Z Z Z Z Z Z O ?_;refine Ac 5 Z Z Z Z Z Z Z O ?_;refine Ac 6 Z Z Z Z Z Z Z O ?_;refine Ac 7 Z Z Z Z Z Z Z O ?_;refine pool_done Z Z ?_;refine Ab (At.seq ?_);refine Aw hmix [] rfl ?_;refine Aj 0 0 Z Z Z Z Z Z Z Z Z Z Z ?_
 refine Ap 1 Z Z Z Z Z Z Z Z Z (fun H hs => s15 L H) ?_;refine Ap 2 Z Z Z Z Z Z Z Z Z (fun H hs => s15 L H) ?_;refine Pool.fl 8 Z Z Z Z Z Z Z Z Z Z ?_;refine Pool.bs 3 Z Z Z Z Z Z Z Z Z Z Z Z Z Z Z sb fun r258 => ?_
 subst hL
 refine Pool.cl 4 Z Z Z Z Z Z Z Z Z Z Z Z Z Z (fun H_ hs_ => (x58 (H := H_) (hO.a) ((rd_own 0 Z Z).more hs_)).grows) sb ?_
 rintro _ _ ⟨rfl,rfl⟩
 generalize hL : mainLg Tryz.prog Post W₀ [] [] = L at hc ⊢
 refine Ac 5 Z Z Z Z Z Z Z O ?_;refine Ac 6 Z Z Z Z Z Z Z O ?_;refine Ac 7 Z Z Z Z Z Z Z O ?_;refine Ac 10 Z Z Z Z Z Z Z O ?_;refine pool_take Z Z Z fun rf8 => ?_;refine Ba 0 9 Z Z Z Z Z Z Z Z Z Z Z Z Z Z Z Z Z Z sb ?_;refine pool_done Z Z ?_;refine Ab (At.seq ?_);refine Aw hmix [] rfl ?_
 refine Aj 2 0 Z Z Z Z Z Z Z Z Z Z Z ?_;refine Ap 1 Z Z Z Z Z Z Z Z Z (fun H hs => s15 L H) ?_;refine Ap 2 Z Z Z Z Z Z Z Z Z (fun H hs => s15 L H) ?_;refine Ap 3 Z Z Z Z Z Z Z Z Z (fun H hs => s15 L H) ?_;refine Pool.bs 4 Z Z Z Z Z Z Z Z Z Z Z Z Z Z Z sb fun r267 => ?_
 subst hL
 refine Pool.cl 5 Z Z Z Z Z Z Z Z Z Z Z Z Z Z (fun H_ hs_ => (x63 (H := H_) (hO.a) ((rd_own 0 Z Z).more hs_)).grows) sb ?_
 rintro _ _ ⟨rfl,rfl⟩
 generalize hL : mainLg Tryz.prog Post W₀ [] [] = L at hc ⊢
 refine Ac 6 Z Z Z Z Z Z Z O ?_;refine Ac 7 Z Z Z Z Z Z Z O ?_;refine Ac 8 Z Z Z Z Z Z Z O ?_;refine Ac 9 Z Z Z Z Z Z Z O ?_;refine Ac 10 Z Z Z Z Z Z Z O ?_;refine Ac 11 Z Z Z Z Z Z Z O ?_;refine Ac 12 Z Z Z Z Z Z Z O ?_;refine pool_done Z Z ?_;refine Ab (At.seq ?_)
 refine At.weakH (H' := .own rf8 (.cells (List.toArray (c2 (2,4))) 24 (0,0)) :: .own r1 (.cells (List.toArray (bkC exC (exA rc 4))) 27 (0,0)) :: .seg rc 0 (exC.prof.flatMap c2) :: (sv11 ++ H)) ?_ (by repeat (first | exact Sub.refl _ | exact Sub.pre _ _ | apply Sub.cons | apply Sub.drop | apply Sub.appL | apply Sub.dropL))
 refine Bd hmix (_) sb ?_;refine Aj 1 0 Z Z Z Z Z Z Z Z Z Z Z ?_;refine Ap 1 Z Z Z Z Z Z Z Z Z (fun H hs => s15 L H) ?_;refine Ak 2 Z Z Z Z Z (q_build Z Z Z) rfl ?_;refine Pool.fl 7 Z Z Z Z Z Z Z Z Z Z ?_;refine Pool.cl 3 Z Z Z Z Z Z Z Z Z Z Z Z Z Z (fun H_ hs_ => x65a L H_ (hO.a.opn)) sb ?_
 rintro _ sv13 ⟨A3,rfl,hbo⟩
 have hO3 : Opn (sv13 ++ H) exM1 A3 := ⟨hG.g.a (hG.sub.trans (Sub.append_left _ _)),hbo.r.a,by decide,by decide⟩
 refine Ac 4 Z Z Z Z Z Z Z O ?_;refine Ac 5 Z Z Z Z Z Z Z O ?_;refine Ac 6 Z Z Z Z Z Z Z O ?_;refine Ac 9 Z Z Z Z Z Z Z O ?_;refine pool_take Z Z Z fun rf7 => ?_;refine Ba 0 8 Z Z Z Z Z Z Z Z Z Z Z Z Z Z Z Z Z Z sb ?_;refine pool_done Z Z ?_;refine Ab (At.seq (At.region ?_));refine Af 0 Z Z Z Z Z Z Z Z Z ?_
 refine Ay Z Z Z Z Z Z Z Z (x51b L _ (hO3.a)) ?_
 rintro _ _ ⟨sv14,⟨a14,c14,rfl,hs14⟩,rfl⟩
 obtain ⟨_,hr14,_⟩ := hs14.rd
 refine At.weakH (H' := .own rf8 (.cells (List.toArray (c2 (2,4))) 24 (0,0)) :: .own r1 (.cells (List.toArray (bkC exC (exA rc 4))) 27 (0,0)) :: .seg rc 0 (exC.prof.flatMap c2) :: (sv14 ++ (sv11 ++ H))) ?_ ((Sub.of_perm (List.perm_append_comm_assoc [.own rf8 (.cells (List.toArray (c2 (2,4))) 24 (0,0)),.own r1 (.cells (List.toArray (bkC exC (exA rc 4))) 27 (0,0)),.seg rc 0 (exC.prof.flatMap c2)] sv14 (sv11 ++ H))).trans ((((Sub.refl _).dropL sv13).drop _).appL sv14))
 (iterate 5 refine Aa Z Z Z Z Z O ?_);refine Ab (At.seq ?_);refine Bd hmix (_) sb ?_;refine Aj 1 0 Z Z Z Z Z Z Z Z Z Z Z ?_;refine Ap 1 Z Z Z Z Z Z Z Z Z (fun H hs => s15 L H) ?_;refine Ak 2 Z Z Z Z Z (q_build Z Z Z) rfl ?_;refine Pool.cl 3 Z Z Z Z Z Z Z Z Z Z Z Z Z Z (fun H_ hs_ => x65b L H_ (hO.a.opn)) sb ?_
 rintro _ sv15 rfl
 refine Ac 4 Z Z Z Z Z Z Z O ?_;refine Ac 5 Z Z Z Z Z Z Z O ?_;refine Ac 6 Z Z Z Z Z Z Z O ?_;refine Ac 7 Z Z Z Z Z Z Z O ?_;refine pool_done Z Z ?_;refine Ab (At.seq ?_)
 have stopDraw := trivial
 skip
 clear stopDraw
 refine At.rot 3 rfl ?_
 skip
 refine Bd hmix (_) sb ?_;refine Aj 1 0 Z Z Z Z Z Z Z Z Z Z Z ?_;refine Ap 1 Z Z Z Z Z Z Z Z Z (fun H hs => s15 L H) ?_;refine Ak 2 Z Z Z Z Z (q_build Z Z Z) rfl ?_;refine Ap 4 Z Z Z Z Z Z Z Z Z (fun H hs => s15 L H) ?_;refine Ak 5 Z Z Z Z Z (q_build Z Z Z) rfl ?_;refine Ap 7 Z Z Z Z Z Z Z Z Z (fun H hs => s15 L H) ?_
 refine Ak 8 Z Z Z Z Z (q_build Z Z Z) rfl ?_;refine Pool.cl 3 Z Z Z Z Z Z Z Z Z Z Z Z Z Z (fun H_ hs_ => s31 L H_ (B := exC) (A := exA rc 4) (m := ((0,1),2)) (.inl rfl) (by decide)) sb ?_
 rintro _ sv16 ⟨a16,c16,rfl,hs16⟩
 obtain ⟨_,hr16,_⟩ := hs16.rd
 skip
 refine Pool.cl 6 Z Z Z Z Z Z Z Z Z Z Z Z Z Z (fun H_ hs_ => s31 L H_ (B := markedM exC ((0,1),2)) (A := ⟨(exA rc 4).pa,(exA rc 4).pc,a16,c16⟩) (m := ((1,2),3)) (hr16.a) (by decide)) sb ?_
 rintro _ sv17 ⟨a17,c17,rfl,hs17⟩
 obtain ⟨_,hr17,_⟩ := hs17.rd
 skip
 refine Pool.cl 9 Z Z Z Z Z Z Z Z Z Z Z Z Z Z (fun H_ hs_ => s31 L H_ (B := markedM (markedM exC ((0,1),2)) ((1,2),3)) (A := ⟨(exA rc 4).pa,(exA rc 4).pc,a17,c17⟩) (m := ((1,1),6)) (hr17.a) (by decide)) sb ?_
 rintro _ sv18 ⟨a18,c18,rfl,hs18⟩
 obtain ⟨_,hr18,_⟩ := hs18.rd
 skip
 refine Pool.cl 10 Z Z Z Z Z Z Z Z Z Z Z Z Z Z (fun H_ hs_ => x59 L H_ (A := ⟨(exA rc 4).pa,(exA rc 4).pc,a18,c18⟩) ⟨hO.a.opn.g,⟨hO.a.opn.r.p,hr18.a⟩,by decide,by decide⟩) sb ?_
 rintro _ sv19 ⟨a19,c19,rfl,hr19⟩
 refine Ac 11 Z Z Z Z Z Z Z O ?_;refine Ac 12 Z Z Z Z Z Z Z O ?_;refine Ac 13 Z Z Z Z Z Z Z O ?_;refine Ac 14 Z Z Z Z Z Z Z O ?_;refine Ac 15 Z Z Z Z Z Z Z O ?_;refine pool_done Z Z ?_;refine Ab (At.seq (At.region ?_));refine Aa Z Z Z Z Z O ?_;refine Ad Z Z Z Z Z fun b306 h306 => ?_;refine Aa Z Z Z Z Z O ?_
 refine At.weakH (H' := .own rf8 (.cells (List.toArray (c2 (2,4))) 24 (0,0)) :: (sv19 ++ (sv14 ++ (sv11 ++ H)))) ?_ ((Sub.of_perm List.perm_middle.symm).trans (((((((((Sub.refl (sv14 ++ (sv11 ++ H))).dropL sv15).drop _).drop _).cons _).dropL sv16).dropL sv17).dropL sv18).appL sv19))
 have e306 : b306 = true := h306.symm.trans (by kernel_rfl)
 subst e306
 refine Aa Z Z Z Z Z O ?_;refine Ad Z Z Z Z Z fun b309 h309 => ?_;(iterate 2 refine Aa Z Z Z Z Z O ?_)
 obtain rfl : b309 = true := h309.symm.trans (by kernel_rfl)
 refine Aa Z Z Z Z Z O ?_;refine Ad Z Z Z Z Z fun b313 h313 => ?_;(iterate 2 refine Aa Z Z Z Z Z O ?_)
 obtain rfl : b313 = true := h313.symm.trans (by kernel_rfl)
 refine Aa Z Z Z Z Z O ?_;refine Ad Z Z Z Z Z fun b317 h317 => ?_;(iterate 2 refine Aa Z Z Z Z Z O ?_)
 obtain rfl : b317 = true := h317.symm.trans (by kernel_rfl)
 refine Aa Z Z Z Z Z O ?_;refine Ad Z Z Z Z Z fun b321 h321 => ?_;(iterate 2 refine Aa Z Z Z Z Z O ?_)
 obtain rfl : b321 = true := h321.symm.trans (by kernel_rfl)
 refine Aa Z Z Z Z Z O ?_;refine Ad Z Z Z Z Z fun b325 h325 => ?_;(iterate 2 refine Aa Z Z Z Z Z O ?_)
 obtain rfl : b325 = true := h325.symm.trans (by kernel_rfl)
 refine Aa Z Z Z Z Z O ?_;refine Ad Z Z Z Z Z fun b329 h329 => ?_;(iterate 2 refine Aa Z Z Z Z Z O ?_)
 obtain rfl : b329 = true := h329.symm.trans (by kernel_rfl)
 refine Aa Z Z Z Z Z O ?_;refine Ad Z Z Z Z Z fun b333 h333 => ?_;(iterate 2 refine Aa Z Z Z Z Z O ?_)
 obtain rfl : b333 = true := h333.symm.trans (by kernel_rfl)
 refine Aa Z Z Z Z Z O ?_;refine Ad Z Z Z Z Z fun b337 h337 => ?_;(iterate 2 refine Aa Z Z Z Z Z O ?_)
 obtain rfl : b337 = true := h337.symm.trans (by kernel_rfl)
 refine Aa Z Z Z Z Z O ?_
 (refine At.l Z Z Z Z (l_buildSlice Z Z Z Z Z) ?_;rintro _ _ ⟨r341,rfl,rfl⟩)
 refine Ay Z Z Z Z Z Z Z Z (((s23 L _ (xs := [3,4]) (ys := [3,4]) Z Z (hr11.a) (rd_own 0 Z Z) (by decide)).eq (w := .bool true) (by kernel_rfl))) ?_
 rintro _ _ ⟨rfl,rfl⟩
 (iterate 3 refine Aa Z Z Z Z Z O ?_);refine Ad Z Z Z Z Z fun b346 h346 => ?_;(iterate 2 refine Aa Z Z Z Z Z O ?_)
 obtain rfl : b346 = true := h346.symm.trans (by kernel_rfl)
 refine Aa Z Z Z Z Z O ?_;refine Ad Z Z Z Z Z fun b350 h350 => ?_;(iterate 2 refine Aa Z Z Z Z Z O ?_)
 obtain rfl : b350 = true := h350.symm.trans (by kernel_rfl)
 refine Aa Z Z Z Z Z O ?_;refine Ad Z Z Z Z Z fun b354 h354 => ?_;(iterate 2 refine Aa Z Z Z Z Z O ?_)
 obtain rfl : b354 = true := h354.symm.trans (by kernel_rfl)
 refine Af 1 Z Z Z Z Z Z Z Z Z ?_;refine Ae Z Z Z Z (q_build Z Z Z) ?_;refine At.qb Z Z Z Z (q_eqS Z Z Z Z Z Z Z Z) fun b359 h359 => ?_;(iterate 2 refine Aa Z Z Z Z Z O ?_)
 obtain rfl : b359 = true := h359.symm.trans (by kernel_rfl)
 refine Aa Z Z Z Z Z O ?_;refine Ad Z Z Z Z Z fun b363 h363 => ?_;(iterate 2 refine Aa Z Z Z Z Z O ?_)
 obtain rfl : b363 = true := h363.symm.trans (by kernel_rfl)
 refine Aa Z Z Z Z Z O ?_;refine Ad Z Z Z Z Z fun b367 h367 => ?_;(iterate 2 refine Aa Z Z Z Z Z O ?_)
 obtain rfl : b367 = true := h367.symm.trans (by kernel_rfl)
 refine Aa Z Z Z Z Z O ?_
 (refine At.l Z Z Z Z (l_buildSlice Z Z Z Z Z) ?_;rintro _ _ ⟨r371,rfl,rfl⟩)
 refine Ay Z Z Z Z Z Z Z Z (((s23 L _ (xs := [14,15]) (ys := [14,15]) Z Z (hr14.a) (rd_own 0 Z Z) (by decide)).eq (w := .bool true) (by kernel_rfl))) ?_
 rintro _ _ ⟨rfl,rfl⟩
 (iterate 3 refine Aa Z Z Z Z Z O ?_)
 (refine At.l Z Z Z Z (l_buildSlice Z Z Z Z Z) ?_;rintro _ _ ⟨r376,rfl,rfl⟩)
 refine Ay Z Z Z Z Z Z Z Z (((s23 L _ (xs := [1,2]) (ys := [1,2]) Z Z (hr19.a) (rd_own 0 Z Z) (by decide)).eq (w := .bool true) (by kernel_rfl))) ?_
 rintro _ _ ⟨rfl,rfl⟩
 (iterate 2 refine Aa Z Z Z Z Z O ?_);refine Ab ?_
 exact At.ret Tryz.func6 (.inr ⟨_,rfl⟩) rfl (.tmp rfl .nil) (wk (hc _ _ (⟨rfl,rfl⟩)))
end Go.Gx
end
section
namespace Go.Gx
open Go Go.Conc Go.Proofs Go.ChangeShapes Go.RowKit YtjdpbechehdefaaGreatDoor
def Shr (W : World) (H : Facts) : Prop := ∀ f ∈ H,f.isOwn = false ∧ f.Is W
theorem Shr.nil {W : World} : Shr W [] := fun _ h => by cases h
theorem Shr.app {W : World} {H H' : Facts} (h : Shr W H) (h' : Shr W H') : Shr W (H ++ H') := fun f hf => (List.mem_append.1 hf).elim (h f) (h' f)
theorem Shr.holds {W : World} {H : Facts} (h : Shr W H) : Holds H W := by
 refine ⟨?_,fun f hf => (h f hf).2⟩
 induction H with
 | nil => exact List.Pairwise.nil
 | cons f H ih =>
  refine List.Pairwise.cons (fun g hg => ?_) (ih fun f hf => h f (List.mem_cons_of_mem _ hf))
  rintro (e | e)
  ·rw [(h f (List.mem_cons_self ..)).1] at e;cases e
  ·rw [(h g (List.mem_cons_of_mem _ hg)).1] at e;cases e
theorem seg_of {α : Type} {c : α → List Value} {sz : Nat} (hsz : ∀ y,(c y).length = sz) {W : World} {b : Nat} : ∀ (ys : List α) (off : Nat),(∀ i y,ys[i]? = some y → ∀ j v,(c y)[j]? = some v → W.cell? ⟨b,off + i * sz + j,none⟩ = some v) →
  ∀ k v,(ys.flatMap c)[k]? = some v → W.cell? ⟨b,off + k,none⟩ = some v
 | [],_,_,k,v,h => by simp at h
 | y :: ys,off,hy,k,v,h => by
  rw [List.flatMap_cons] at h
  by_cases hk : k < sz
  ·rw [List.getElem?_append_left (by rw [hsz];exact hk)] at h
   have := hy 0 y rfl k v h
   simpa using this
  ·rw [List.getElem?_append_right (by rw [hsz];omega),hsz] at h
   have := seg_of hsz ys (off + sz) (fun i z hz j w hw => by
    have := hy (i + 1) z (by simpa using hz) j w hw
    rw [Nat.succ_mul] at this
    rw [show off + sz + i * sz + j = off + (i * sz + sz) + j by omega];exact this) (k - sz) v h
   rwa [show off + sz + (k - sz) = off + k by omega] at this
section
variable {H : Type} {enc : TypeId × Value → H} {W : World} {sp : Nat → Bool} {held : Bool}
theorem addr_none (b off n : Nat) : (⟨b,off,none⟩ : Addr).add n = ⟨b,off + n,none⟩ := by
 unfold Addr.add
 split
 ·simp_all
 ·rfl
theorem open_sl {t e : TypeId} {α : Type} {c : α → List Value} {sz : Nat} (hsz : ∀ y,(c y).length = sz) (h0 : 0 < sz) (ht : Tryz.prog.underlying t = some (.slice e)) (hc : Tryz.prog.cellsOf e = sz)
  (hel : ∀ n cs x,DataW.trod enc Tryz.prog W 0 sp held n e cs = some x → ∃ y,cs = c y) {fuel : Nat} {v : Value} {x : DataW H × List MemPlace} (h : DataW.trod enc Tryz.prog W 0 sp held fuel t [v] = some x) :
  ∃ (a : Option Addr) (ys : List α) (cap : Nat) (Hs : Facts),v = .slice a ys.length cap ∧ Shr W Hs ∧ Rd Hs a (ys.flatMap c) := by
 rcases DataW.trod_slice ht h with ⟨hv,_⟩ | ⟨a,len,cap,elems,rest,n,_,hcs,_,_,_,_,hlen,hE,_⟩
 ·cases hv
  exact ⟨none,[],0,[],rfl,Shr.nil,.inl rfl⟩
 ·cases hcs
  have key : ∀ i : _root_.Fin len,∃ y,W.cells? 0 (a.add (i.1 * sz)) sz = some (c y) := fun i => by
   have h1 := hE i.1 i.2
   rw [hc,List.getElem?_eq_getElem (by rw [hlen];exact i.2)] at h1
   obtain ⟨cs,h2,h3⟩ := Option.bind_eq_some_iff.1 h1
   obtain ⟨y,rfl⟩ := hel _ _ _ h3
   exact ⟨y,h2⟩
  obtain ⟨b,off,spot⟩ := a
  have hget : ∀ i y,(List.ofFn fun i => Classical.choose (key i))[i]? = some y → W.cells? 0 ((⟨b,off,spot⟩ : Addr).add (i * sz)) sz = some (c y) := fun i y hy => by
   obtain ⟨hi,e⟩ := List.getElem?_eq_some_iff.1 hy
   rw [List.length_ofFn] at hi
   rw [List.getElem_ofFn] at e
   subst e
   exact Classical.choose_spec (key ⟨i,hi⟩)
  have hlen' : (List.ofFn fun i => Classical.choose (key i)).length = len := List.length_ofFn
  generalize (List.ofFn fun i => Classical.choose (key i)) = ys at hget hlen'
  subst hlen'
  cases ys with
  | nil => exact ⟨some ⟨b,off,spot⟩,[],cap,[],rfl,Shr.nil,.inl rfl⟩
  | cons y0 ys =>
   have hspot : spot = none := by
    obtain ⟨_,_,h3⟩ := World.cells?_some (hget 0 y0 rfl)
    have h4 := h3 0 h0
    rw [List.getElem?_eq_getElem (by rw [hsz];exact h0)] at h4
    have h5 : ((⟨b,off,spot⟩ : Addr).add (0 * sz)).add 0 = ⟨b,off,spot⟩ := by simp [Addr.add]
    rw [h5] at h4
    simpa using World.cell?_spot h4
   subst hspot
   have hcell : ∀ i y,(y0 :: ys)[i]? = some y → ∀ j v,(c y)[j]? = some v → W.cell? ⟨b,off + i * sz + j,none⟩ = some v := fun i y hy j v hv => by
    obtain ⟨_,_,h3⟩ := World.cells?_some (hget i y hy)
    have hj : j < sz := by
     have := (List.getElem?_eq_some_iff.1 hv).1
     rwa [hsz] at this
    have h4 := h3 j hj
    rw [hv,addr_none,addr_none] at h4
    exact h4
   obtain ⟨v0,hv0⟩ : ∃ v,(c y0)[0]? = some v := ⟨_,List.getElem?_eq_getElem (by rw [hsz];exact h0)⟩
   have hc0 := hcell 0 y0 rfl 0 v0 hv0
   have hb : b < W.heap.size := by
    rcases Nat.lt_or_ge b W.heap.size with h | h
    ·exact h
    ·simp [World.cell?,Array.getElem?_eq_none h] at hc0
   refine ⟨some ⟨b,off,none⟩,y0 :: ys,cap,[.seg b off ((y0 :: ys).flatMap c)],rfl,?_,?_⟩
   ·intro f hf
    rw [List.mem_singleton] at hf
    subst hf
    exact ⟨rfl,hb,seg_of hsz _ _ hcell⟩
   ·have := cells_seg (H := [.seg b off ((y0 :: ys).flatMap c)]) (b := b) (off := off) (us := (y0 :: ys).flatMap c) (vs := (y0 :: ys).flatMap c) 0 (by simp) (by rw [List.drop_zero,List.take_length])
    exact rd_cells (by simpa using this)
set_option maxRecDepth 100000 in
theorem two {t : TypeId} {f0 f1 : Field} (ht : Tryz.prog.underlying t = some (.struct #[f0,f1])) (h0 : f0.type = 3 ∧ f0.offset = 0) (h1 : f1.type = 3 ∧ f1.offset = 1) (hc : Tryz.prog.cellsOf t = 2) (h3 : Tryz.prog.cellsOf 3 = 1)
  {fuel : Nat} {cs : List Value} {x : DataW H × List MemPlace} (h : DataW.trod enc Tryz.prog W 0 sp held fuel t cs = some x) : ∃ a b : Int,cs = [.int .i64 a,.int .i64 b] := by
 obtain ⟨xs,n,rfl,rfl,hl,hx,hf⟩ := DataW.trod_struct ht h
 rw [hc] at hl
 match cs,hl,xs,hx with
 | [u,v],_,[y0,y1],_ =>
  have g0 := hf 0 f0 rfl
  have g1 := hf 1 f1 rfl
  rw [h0.1,h0.2,h3] at g0
  rw [h1.1,h1.2,h3] at g1
  obtain ⟨a,e,-⟩ := DataW.trod_int Tryz.underlying3 (x := y0) g0
  obtain ⟨b,e',-⟩ := DataW.trod_int Tryz.underlying3 (x := y1) g1
  cases e
  cases e'
  exact ⟨a,b,rfl⟩
set_option maxRecDepth 100000 in
theorem three {n : Nat} {cs : List Value} {x : DataW H × List MemPlace} (h : DataW.trod enc Tryz.prog W 0 sp held n 72 cs = some x) : ∃ m : R2 × Int,cs = c3 m := by
 obtain ⟨xs,n,rfl,rfl,hl,hx,hf⟩ := DataW.trod_struct Tryz.underlying72 h
 rw [show Tryz.prog.cellsOf 72 = 3 by kernel_rfl] at hl
 match cs,hl,xs,hx with
 | [u,v,w],_,[y0,y1],_ =>
  have g0 : DataW.trod enc Tryz.prog W 0 sp held n 40 ((List.drop 0 [u,v,w]).take (Tryz.prog.cellsOf 40)) = some y0 := hf 0 _ rfl
  have g1 : DataW.trod enc Tryz.prog W 0 sp held n 3 ((List.drop 2 [u,v,w]).take (Tryz.prog.cellsOf 3)) = some y1 := hf 1 _ rfl
  rw [show Tryz.prog.cellsOf 40 = 2 by kernel_rfl] at g0
  rw [show Tryz.prog.cellsOf 3 = 1 by kernel_rfl] at g1
  obtain ⟨a,b,e⟩ := two (x := y0) Tryz.underlying40 ⟨rfl,rfl⟩ ⟨rfl,rfl⟩ (by kernel_rfl) (by kernel_rfl) g0
  obtain ⟨r,e',-⟩ := DataW.trod_int Tryz.underlying3 (x := y1) g1
  cases e
  cases e'
  exact ⟨((a,b),r),rfl⟩
set_option maxRecDepth 100000 in
theorem open_book {r : Reach} {b0 : Nat} {v : Value} {d : DataW H} {ps : List MemPlace} (hval : Value.okWide Tryz.prog W r b0 27 v) (hd : DataW.Trod enc Tryz.prog W 0 sp held 27 v d ps) :
  ∃ (B : Bk) (A : BkA) (Hs : Facts),v = bkV B A ∧ Shr W Hs ∧ BkR Hs B A := by
 obtain ⟨cs,rfl,hsz⟩ := Go.WideShapes.okWide_struct Tryz.underlying27 hval
 obtain ⟨fuel,hf⟩ := hd
 obtain ⟨xs,n,rfl,hx0,hl,hx,hg⟩ := DataW.trod_struct Tryz.underlying27 hf
 obtain ⟨l⟩ := cs
 have hl' : l.length = 5 := hl.trans (show Tryz.prog.cellsOf 27 = 5 by kernel_rfl)
 match l,hl',xs,hx with
 | [u0,u1,u2,u3,u4],_,[y0,y1,y2,y3],_ =>
  have g0 : DataW.trod enc Tryz.prog W 0 sp held n 22 ((List.drop 0 [u0,u1,u2,u3,u4]).take (Tryz.prog.cellsOf 22)) = some y0 := hg 0 _ rfl
  have g1 : DataW.trod enc Tryz.prog W 0 sp held n 3 ((List.drop 1 [u0,u1,u2,u3,u4]).take (Tryz.prog.cellsOf 3)) = some y1 := hg 1 _ rfl
  have g2 : DataW.trod enc Tryz.prog W 0 sp held n 24 ((List.drop 2 [u0,u1,u2,u3,u4]).take (Tryz.prog.cellsOf 24)) = some y2 := hg 2 _ rfl
  have g3 : DataW.trod enc Tryz.prog W 0 sp held n 25 ((List.drop 4 [u0,u1,u2,u3,u4]).take (Tryz.prog.cellsOf 25)) = some y3 := hg 3 _ rfl
  rw [show Tryz.prog.cellsOf 22 = 1 by kernel_rfl] at g0
  rw [show Tryz.prog.cellsOf 3 = 1 by kernel_rfl] at g1
  rw [show Tryz.prog.cellsOf 24 = 2 by kernel_rfl] at g2
  rw [show Tryz.prog.cellsOf 25 = 1 by kernel_rfl] at g3
  obtain ⟨sz,e1,-⟩ := DataW.trod_int Tryz.underlying3 (x := y1) g1
  obtain ⟨lo,hi,e2⟩ := two (x := y2) Tryz.underlying24 ⟨rfl,rfl⟩ ⟨rfl,rfl⟩ (by kernel_rfl) (by kernel_rfl) g2
  obtain ⟨pa,ps,pc,H1,e0,s1,r1⟩ := open_sl (x := y0) (c := c2) (sz := 2) (fun _ => rfl) (by decide) Tryz.underlying22 (by kernel_rfl) (fun n cs x h => by
   obtain ⟨a,b,rfl⟩ := two Tryz.underlying89 ⟨rfl,rfl⟩ ⟨rfl,rfl⟩ (by kernel_rfl) (by kernel_rfl) h
   exact ⟨(a,b),rfl⟩) g0
  obtain ⟨ma,ms,mc,H2,e3,s2,r2⟩ := open_sl (x := y3) (c := c3) (sz := 3) (fun _ => rfl) (by decide) Tryz.underlying25 (by kernel_rfl) (fun n cs x h => three h) g3
  cases e0
  cases e1
  cases e2
  cases e3
  exact ⟨⟨ps,sz,lo,hi,ms⟩,⟨pa,pc,ma,mc⟩,H1 ++ H2,rfl,s1.app s2,⟨r1.more (Sub.pre _ _),r2.more (Sub.append_left _ _)⟩⟩
end
end Go.Gx
end
section
namespace Go.Gx
open Go Go.Conc
section
variable {P : Program} {H : Facts} {E : Env} {o : Oper}
theorem l_copy (j : Nat) {az : Array Operand} {ats : Array TypeId} {x y : Operand} {t e T : TypeId} {ag : Bool} {sz by_ : Nat} {z l l' vs : List Value} {a' : Option Addr} {b off n cap m cap' : Nat} {H' : Facts} [hel : ElI P t e ag sz by_ z]
  (ho : o.op = .call { callee := .builtin .copy,args := az,argTypes := ats }) (has : az.toList = [x,y]) (hat : ats[0]? = some t) (hx : ev E x = some (.slice (some ⟨b,off,none⟩) n cap)) (hy : ev E y = some (.slice a' m cap')) (hmn : m ≤ n)
  (hr : Rd H a' vs) (hl : vs.length = m * sz) (hf : nthF H j = some (.own b (.cells (List.toArray l) T (0,0)))) (h1c : ∀ v ∈ vs,v.oneCell' = true) (hs : setC l off vs = some l') (hH : setF H j (.own b (.cells (List.toArray l') T (0,0))) = some H') :
  LOp P o E H (fun v H'' => v = .int .i64 m ∧ H'' = H') :=
 ⟨nd ho (by intro c h;cases h),fun φ hA Q hQ => by
  obtain ⟨zv,h1,h2,h3⟩ := hel.parts
  obtain ⟨d,i,_,h4,_,h6,h7,h8⟩ := tyF_parts h2
  have e0 : az.map φ = #[.slice (some ⟨b,off,none⟩) n cap,.slice a' m cap'] := by
   apply Array.ext'
   simp [has,hA x _ hx,hA y _ hy]
  unfold execOp;rw [ho];simp only [resolve,K.bind,K.pure,invoke,builtin,Builtin.copy_,e0,hat]
  have a0 : (#[Value.slice (some ⟨b,off,none⟩) n cap,Value.slice a' m cap'] : Array Value)[0]? = some (.slice (some ⟨b,off,none⟩) n cap) := rfl
  have a1 : (#[Value.slice (some ⟨b,off,none⟩) n cap,Value.slice a' m cap'] : Array Value)[1]? = some (.slice a' m cap') := rfl
  simp only [a0,a1]
  rw [K.bind,k_underlying h1]
  simp only [Builtin.lenOf]
  rw [K.bind,K.pure,K.bind,k_sizeOf h4,K.bind,h6]
  have em : Nat.min m n = m := Nat.min_eq_left hmn
  have key : ∀ {R : Array Value → Facts → Prop},R vs.toArray H → K P (Builtin.firstCells sz (Nat.min m n) (.slice a' m cap')) R H := by
   intro R hR
   rw [em]
   exact k_firstCells hr hl hR
  refine key ?_
  simp only
  rw [K.bind]
  obtain ⟨es,hle⟩ := setC_eq hs
  subst es
  refine k_storeCells (T := T) vs 0 l.toArray H H' (by simpa using hle) h1c ?_ ?_
  ·have := foldl_splice vs l off hle
   simp only [Nat.add_zero]
   rw [this]
   exact setF_upd hf hH
  ·rw [em]
   exact hQ _ _ ⟨rfl,rfl⟩⟩
class StI (P : Program) (t : TypeId) : Prop where
 h : P.underlying t = some .string
class ByI (P : Program) (t : TypeId) (e : outParam TypeId) : Prop where
 h : P.underlying t = some (.slice e)
 u : P.underlying e = some (.int .u8)
def cB (b : UInt8) : List Value := [.int .u8 b.toNat]
instance : Enc cB 1 := ⟨fun x => rfl,by decide,by intro x v hv;simp [cB] at hv;subst hv;rfl⟩
def bytesV (s : ByteArray) : List Value := s.data.toList.flatMap cB
theorem l_bytes {s t e : TypeId} {x : Operand} {w : ByteArray} [hs : StI P s] [ht : ByI P t e] (ho : o.op = .convert s t x) (hx : ev E x = some (.string w)) :
  LOp P o E H (fun v H' => ∃ r cap rest T,v = .slice (some ⟨r,0,none⟩) w.size cap ∧ H' = .own r (.cells (List.toArray (bytesV w ++ rest)) e T) :: H) :=
 ⟨nd ho (by intro c h;cases h),fun φ hA Q hQ => by
  unfold execOp;rw [ho];simp only [hA x _ hx,K.bind]
  unfold convert
  rw [K.bind,k_underlying hs.h,K.bind,k_underlying ht.h]
  simp only [K.bind,k_underlying ht.u,Conv.stringToBytes,choose,K]
  intro q hqq
  simp only [K.bind,K.pure,newRow,newObj,K]
  intro r
  simp only [markStringish,K.bind,shape,K,K.pure]
  refine ⟨_,⟨_,List.mem_cons_self ..,rfl⟩,?_⟩
  simp only [freeze,K.bind,K]
  refine ⟨_,_,_,by omega,Upd.head ..,?_⟩
  exact hQ _ _ ⟨r,q,(Array.replicate (q - w.size) (Value.int .u8 0)).toList,_,rfl,by
   have e0 : bytesV w = w.data.toList.map fun b => .int .u8 b.toNat := by
    unfold bytesV
    induction w.data.toList with
    | nil => rfl
    | cons a l ih => rw [List.flatMap_cons,ih];rfl
   rw [e0];congr 3;apply Array.ext';simp⟩⟩
theorem q_strEq {t t' : TypeId} {x y : Operand} {a b : ByteArray} [hs : StI P t] (ho : o.op = .binOp .eql t x y t') (hx : ev E x = some (.string a)) (hy : ev E y = some (.string b)) : QOp P o E H (.bool (a.toList == b.toList)) :=
 ⟨nd ho (by intro c h;cases h),fun φ hA Q hQ => by
  unfold execOp;rw [ho];simp only [hA x _ hx,hA y _ hy,K.bind]
  unfold eqGuard
  simp only [Bool.not_true,Bool.not_false,Bool.false_eq_true,if_false,K.pure]
  simp only [binOp,K.bind]
  exact hQ⟩
theorem q_lenS {az : Array Operand} {ats : Array TypeId} {x : Operand} {t : TypeId} {s : ByteArray} (ho : o.op = .call { callee := .builtin .len,args := az,argTypes := ats }) (has : az.toList = [x]) (hat : ats.toList = [t]) [hs : StI P t] (hx : ev E x = some (.string s)) : QOp P o E H (.int .i64 s.size) :=
 ⟨nd ho (by intro c h;cases h),fun φ hA Q hQ => by
  have e0 : az.map φ = #[.string s] := by
   apply Array.ext'
   simp [has,hA x _ hx]
  have hat' : ats[0]? = some t := by rw [← Array.getElem?_toList,hat];rfl
  unfold execOp;rw [ho];simp only [resolve,K.bind,K.pure,invoke,builtin,Builtin.len_,e0,hat']
  have e1 : (#[Value.string s] : Array Value)[0]? = some (.string s) := rfl
  simp only [e1,K.bind]
  rw [k_underlying hs.h]
  exact hQ⟩
end
end Go.Gx
end
section
namespace Go.Gx
open Go Go.Conc
def S (l : List UInt8) : ByteArray := ⟨⟨l⟩⟩
theorem S_size (l : List UInt8) : (S l).size = l.length := rfl
theorem bytes_ext {a b : ByteArray} (h : a.data.toList = b.data.toList) : a = b := by
 cases a;cases b
 simp only [ByteArray.mk.injEq]
 exact Array.toList_inj.1 h
theorem S_append (a b : List UInt8) : S a ++ S b = S (a ++ b) := by
 apply bytes_ext
 simp [S]
theorem S_extract (l : List UInt8) (a b : Nat) : (S l).extract a b = S ((l.take b).drop a) := by
 apply bytes_ext
 simp [S,List.extract_eq_take_drop,List.drop_take]
theorem toList_loop (l : List UInt8) : ∀ (m i : Nat) (r : List UInt8),l.length - i = m → ByteArray.toList.loop (S l) i r = r.reverse ++ l.drop i := by
 intro m
 induction m with
 | zero =>
  intro i r h
  unfold ByteArray.toList.loop
  rw [if_neg (by rw [S_size];omega),List.drop_eq_nil_of_le (by omega),List.append_nil]
 | succ m ih =>
  intro i r h
  unfold ByteArray.toList.loop
  have hi : i < l.length := by omega
  rw [if_pos (by rw [S_size];exact hi),ih (i + 1) _ (by omega),List.drop_eq_getElem_cons hi]
  have e : (S l).get! i = l[i] := by
   show (S l).data[i]! = _
   simp [S,hi]
  rw [e]
  simp
theorem S_toList (l : List UInt8) : (S l).toList = l := by
 show ByteArray.toList.loop (S l) 0 [] = l
 rw [toList_loop l _ 0 [] rfl]
 simp
theorem S_get (l : List UInt8) (i : Nat) : (S l)[i]? = l[i]? := by
 by_cases h : i < l.length
 ·rw [List.getElem?_eq_getElem h,getElem?_pos (S l) i h];rfl
 ·rw [List.getElem?_eq_none (by omega),getElem?_neg (S l) i h]
section
variable {P : Program} {H : Facts} {E : Env} {o : Oper}
theorem q_cutLH {t : TypeId} {x y z : Operand} {w : List UInt8} {l h : Nat} {kd kd' : IntKind} [hs : StI P t] (ho : o.op = .slice t x (some y) (some z) none) (hx : ev E x = some (.string (S w))) (hy : ev E y = some (.int kd (l : Int))) (hz : ev E z = some (.int kd' (h : Int))) (h1 : l ≤ h) (h2 : h ≤ w.length) :
  QOp P o E H (.string (S ((w.take h).drop l))) := by
 refine ⟨nd ho (by intro c h;cases h),fun φ hA Q hQ => ?_⟩
 unfold execOp;rw [ho];simp only [Option.map_some,Option.map_none,hA x _ hx,Instr.sliceAt,Instr.slice,K.bind,k_underlying hs.h]
 unfold Instr.sliceBounds
 simp only [K.bind,K.pure,Option.isSome_none,Bool.false_eq_true,if_false]
 refine k_bound hA hz (by rw [S_size];exact h2) ?_;refine k_bound hA hy h1 ?_
 rw [S_extract]
 exact hQ
theorem q_cutH {t : TypeId} {x z : Operand} {w : List UInt8} {h : Nat} {kd' : IntKind} [hs : StI P t] (ho : o.op = .slice t x none (some z) none) (hx : ev E x = some (.string (S w))) (hz : ev E z = some (.int kd' (h : Int))) (h2 : h ≤ w.length) :
  QOp P o E H (.string (S (w.take h))) := by
 refine ⟨nd ho (by intro c h;cases h),fun φ hA Q hQ => ?_⟩
 unfold execOp;rw [ho];simp only [Option.map_some,Option.map_none,hA x _ hx,Instr.sliceAt,Instr.slice,K.bind,k_underlying hs.h]
 unfold Instr.sliceBounds
 simp only [K.bind,K.pure,Option.isSome_none,Bool.false_eq_true,if_false]
 refine k_bound hA hz (by rw [S_size];exact h2) ?_
 rw [S_extract,List.drop_zero]
 exact hQ
theorem q_cutL {t : TypeId} {x y : Operand} {w : List UInt8} {l : Nat} {kd : IntKind} [hs : StI P t] (ho : o.op = .slice t x (some y) none none) (hx : ev E x = some (.string (S w))) (hy : ev E y = some (.int kd (l : Int))) (h1 : l ≤ w.length) :
  QOp P o E H (.string (S (w.drop l))) := by
 refine ⟨nd ho (by intro c h;cases h),fun φ hA Q hQ => ?_⟩
 unfold execOp;rw [ho];simp only [Option.map_some,Option.map_none,hA x _ hx,Instr.sliceAt,Instr.slice,K.bind,k_underlying hs.h]
 unfold Instr.sliceBounds
 simp only [K.bind,K.pure,Option.isSome_none,Bool.false_eq_true,if_false]
 refine k_bound hA hy (by rw [S_size];exact h1) ?_
 rw [S_extract,S_size,List.take_length]
 exact hQ
theorem q_cutHN {t : TypeId} {x z : Operand} {w : List UInt8} {h : Nat} {a : Int} {kd' : IntKind} [hs : StI P t] (ho : o.op = .slice t x none (some z) none) (hx : ev E x = some (.string (S w))) (hz : ev E z = some (.int kd' a)) (ha : a = (h : Int)) (h2 : h ≤ w.length) :
  QOp P o E H (.string (S (w.take h))) := by subst ha;exact q_cutH ho hx hz h2
theorem q_cutLN {t : TypeId} {x y : Operand} {w : List UInt8} {l : Nat} {a : Int} {kd : IntKind} [hs : StI P t] (ho : o.op = .slice t x (some y) none none) (hx : ev E x = some (.string (S w))) (hy : ev E y = some (.int kd a)) (ha : a = (l : Int)) (h1 : l ≤ w.length) :
  QOp P o E H (.string (S (w.drop l))) := by subst ha;exact q_cutL ho hx hy h1
theorem q_at {t : TypeId} {ks : IntKind} {x y : Operand} {w : List UInt8} {j : Nat} {b : UInt8} [hs : StI P t] (ho : o.op = .index t x y) (hx : ev E x = some (.string (S w))) (hy : ev E y = some (.int ks (j : Int))) (hb : w[j]? = some b) : QOp P o E H (.int .u8 b.toNat) :=
 q_ixs hs.h ho hx hy (by omega) (by rw [S_get];simpa using hb) rfl
theorem q_atN {t : TypeId} {ks : IntKind} {x y : Operand} {w : List UInt8} {j : Nat} {a : Int} {b : UInt8} [hs : StI P t] (ho : o.op = .index t x y) (hx : ev E x = some (.string (S w))) (hy : ev E y = some (.int ks a)) (ha : a = (j : Int)) (hb : w[j]? = some b) : QOp P o E H (.int .u8 b.toNat) := by
 subst ha;exact q_at ho hx hy hb
theorem q_cat {t t' : TypeId} {x y : Operand} {a b : List UInt8} (ho : o.op = .binOp .add t x y t') (hx : ev E x = some (.string (S a))) (hy : ev E y = some (.string (S b))) (hl : a.length + b.length ≤ 1000000) : QOp P o E H (.string (S (a ++ b))) :=
 ⟨nd ho (by intro c h;cases h),fun φ hA Q hQ => by
  unfold execOp;rw [ho];simp only [hA x _ hx,hA y _ hy,K.bind]
  unfold eqGuard
  simp only [Bool.not_true,Bool.not_false,Bool.false_eq_true,if_false,K.pure]
  simp only [binOp,K.bind,Op.stringOp,S_size]
  have hmax : IntKind.i64.max = 9223372036854775807 := by decide
  have hc : ¬ (((a.length + b.length : Nat) : Int) > IntKind.i64.max) := by rw [hmax];omega
  simp only [if_neg hc,K.pure,S_append]
  exact hQ⟩
theorem q_strEqS {t t' : TypeId} {x y : Operand} {a b : List UInt8} [hs : StI P t] (ho : o.op = .binOp .eql t x y t') (hx : ev E x = some (.string (S a))) (hy : ev E y = some (.string (S b))) : QOp P o E H (.bool (a == b)) := by
 have := q_strEq (P := P) (H := H) ho hx hy
 rwa [S_toList,S_toList] at this
theorem q_strNeS {t t' : TypeId} {x y : Operand} {a b : List UInt8} [hs : StI P t] (ho : o.op = .binOp .neq t x y t') (hx : ev E x = some (.string (S a))) (hy : ev E y = some (.string (S b))) : QOp P o E H (.bool (!(a == b))) :=
 ⟨nd ho (by intro c h;cases h),fun φ hA Q hQ => by
  unfold execOp;rw [ho];simp only [hA x _ hx,hA y _ hy,K.bind]
  unfold eqGuard
  simp only [Bool.not_true,Bool.not_false,Bool.false_eq_true,if_false,K.pure]
  simp only [binOp,K.bind,Op.stringOp,S_toList]
  exact hQ⟩
theorem q_lenSS {az : Array Operand} {ats : Array TypeId} {x : Operand} {t : TypeId} {w : List UInt8} (ho : o.op = .call { callee := .builtin .len,args := az,argTypes := ats }) (has : az.toList = [x]) (hat : ats.toList = [t]) [hs : StI P t] (hx : ev E x = some (.string (S w))) : QOp P o E H (.int .i64 w.length) :=
 q_lenS ho has hat hx
theorem q_nilP {x : Operand} {a : Addr} (ho : o.op = .nilCheck x) (hx : ev E x = some (.pointer (some a))) : QOp P o E H (.pointer (some a)) :=
 ⟨nd ho (by intro c h;cases h),fun φ hA Q hQ => by
  unfold execOp;rw [ho];simp only [hA x _ hx]
  exact hQ⟩
class ExI (P : Program) (g : FuncId) (e : outParam (Array Value → Sem Value)) : Prop where
 h : ∃ fn,P.funcs[g]? = some fn ∧ (fn.name == "runtime.NumGoroutine") = false ∧ fn.body.isNone = true ∧ (Extern.findNext fn).isNone = true ∧ Extern.find fn = some e
theorem l_ext {az : Array Operand} {ats : Array TypeId} {x : Operand} {g : FuncId} {e : Array Value → Sem Value} {vs : List Value} {Post : Value → Facts → Prop} [he : ExI P g e] (ho : o.op = .call { callee := .value x,args := az,argTypes := ats }) (hx : ev E x = some (.func (.func g) #[] #[])) (has : evs E az.toList = some vs)
  (hk : K P (e vs.toArray) Post H) : LOp P o E H Post :=
 ⟨nd ho (by intro c h;cases h),fun φ hA Q hQ => by
  obtain ⟨fn,h1,h2,h3,h4,h5⟩ := he.h
  have e0 : az.map φ = vs.toArray := by
   have := evs_map hA has
   apply Array.ext'
   simpa using this
  unfold execOp;rw [ho]
  simp only [resolve,hA x _ hx,Deferred.ofValue,e0]
  rw [K.bind]
  show K P (invoke _ _) _ H
  simp only [invoke,Array.empty_append,Array.append_empty]
  unfold callFunc
  rw [K.bind]
  show K P program _ H
  simp only [program,K,h1,h2,Bool.false_eq_true,if_false,h3,if_true]
  rw [K.bind]
  simp only [Go.mark,K]
  refine ⟨.inr ⟨_,rfl⟩,?_⟩
  have h4' : Extern.findNext fn = none := by
   cases hf : Extern.findNext fn with
   | none => rfl
   | some _ => rw [hf] at h4;cases h4
  simp only [h4',h5]
  rw [K.bind]
  exact K.mono (fun v H' hv => hQ v H' hv) hk⟩
theorem q_ext {az : Array Operand} {ats : Array TypeId} {x : Operand} {g : FuncId} {e : Array Value → Sem Value} {vs : List Value} {v : Value} [he : ExI P g e] (ho : o.op = .call { callee := .value x,args := az,argTypes := ats }) (hx : ev E x = some (.func (.func g) #[] #[])) (has : evs E az.toList = some vs)
  (hk : ∀ Q : Value → Facts → Prop,Q v H → K P (e vs.toArray) Q H) : QOp P o E H v := by
 have h := l_ext (H := H) (Post := fun v' H' => v' = v ∧ H' = H) ho hx has (hk _ ⟨rfl,rfl⟩)
 exact ⟨h.1,fun φ hA Q hQ => h.2 φ hA Q fun v' H' hv => by obtain ⟨rfl,rfl⟩ := hv;exact hQ⟩
theorem bytes_cells (w : List UInt8) : ((S w).extract 0 w.length).data.map (fun b => Value.int .u8 b.toNat) = (w.flatMap cB).toArray := by
 rw [S_extract,List.drop_zero,List.take_length]
 apply Array.ext'
 induction w with
 | nil => simp [S]
 | cons a l ih => simpa [S,cB] using ih
theorem len_cB (w : List UInt8) : (w.flatMap cB).length = w.length := by
 induction w with
 | nil => rfl
 | cons a l ih => rw [List.flatMap_cons,List.length_append,ih];simp [cB];omega
theorem l_appGS {az : Array Operand} {ats : Array TypeId} {x y : Operand} {t t' e : TypeId} {ag : Bool} {by_ : Nat} {z vs : List Value} {a : Option Addr} {m cap : Nat} {w : List UInt8} [hel : ElI P t e ag 1 by_ z] [hs : StI P t']
  (ho : o.op = .call { callee := .builtin .append,args := az,argTypes := ats }) (has : az.toList = [x,y]) (hat : ats[0]? = some t) (hat' : ats[1]? = some t') (hx : ev E x = some (.slice a m cap)) (hy : ev E y = some (.string (S w)))
  (hr : Rd H a vs) (hl : vs.length = m * 1) (hroom : cap < m + w.length) (hsm : m + w.length ≤ 100000) (hby : by_ ≤ 1000) (hb0 : by_ ≠ 0) :
  LOp P o E H (fun v H' => ∃ r c rest,v = .slice (some ⟨r,0,none⟩) (m + w.length) c ∧ m + w.length ≤ c ∧ rest.length = (c - (m + w.length)) * z.length ∧ H' = .own r (.cells (List.toArray (vs ++ w.flatMap cB ++ rest)) e (0,0)) :: H) :=
 ⟨nd ho (by intro c h;cases h),fun φ hA Q hQ => by
  obtain ⟨zv,h1,h2,h3⟩ := hel.parts
  obtain ⟨d,i,_,h4,_,h6,h7,h8⟩ := tyF_parts h2
  have e0 : az.map φ = #[.slice a m cap,.string (S w)] := by
   apply Array.ext'
   simp [has,hA x _ hx,hA y _ hy]
  unfold execOp;rw [ho];simp only [resolve,K.bind,K.pure,invoke,builtin,Builtin.append_,e0,hat,hat']
  have a0 : (#[Value.slice a m cap,Value.string (S w)] : Array Value)[0]? = some (Value.slice a m cap) := rfl
  have a1 : (#[Value.slice a m cap,Value.string (S w)] : Array Value)[1]? = some (Value.string (S w)) := rfl
  simp only [a0,a1]
  rw [K.bind,k_underlying h1]
  simp only
  rw [K.bind,k_sizeOf h4,K.bind,k_underlying hs.h,K.bind,K.pure]
  simp only [Bool.false_eq_true,if_false,Builtin.lenOf,S_size]
  rw [K.bind,K.pure,if_neg (by omega),K.bind,k_typeInfo h4,if_neg (by rw [h8];intro hh;rcases hh.2 with hh | hh;exact hh;exact hb0 hh),K.bind,k_typeInfo h4]
  have hns := nextslicecap_le hroom hsm
  have hmul : Builtin.nextslicecap (m + w.length) cap * i.bytes ≤ 400000 * 1000 := by rw [h8];exact Nat.mul_le_mul hns hby
  rw [if_neg (by omega),K.bind]
  simp only [choose,K]
  intro q hqq
  have hge : m + w.length ≤ q := by
   rcases hqq with ⟨hf,_⟩ | ⟨_,tt,rfl⟩
   ·simp [Question.forced] at hf
   ·simp only [Question.cut];omega
  rw [K.bind,k_typeInfo h4,K.bind]
  refine k_askRoom ?_
  rw [K.bind,h6]
  refine k_firstCells hr hl ?_
  simp only [Bool.not_false,if_true,Builtin.firstCells]
  rw [K.bind,K.pure,bytes_cells]
  rw [K.bind,k_zeroValue h4 h7,K.bind]
  show K P (newObj _ >>= _) _ _
  rw [K.bind]
  simp only [newObj,K]
  intro r
  refine hQ _ _ ⟨r,q,(Builtin.zeroCells zv.cells (q - (m + w.length))).toList,rfl,hge,?_,?_⟩
  ·simp [Builtin.zeroCells,cellsV_eq h3]
  ·congr 3
   apply Array.ext'
   simp⟩
theorem l_appIS (j : Nat) {az : Array Operand} {ats : Array TypeId} {x y : Operand} {t t' e T : TypeId} {ag : Bool} {by_ : Nat} {z vs rest : List Value} {b m cap : Nat} {w : List UInt8} {H' : Facts} [hel : ElI P t e ag 1 by_ z] [hs : StI P t']
  (ho : o.op = .call { callee := .builtin .append,args := az,argTypes := ats }) (has : az.toList = [x,y]) (hat : ats[0]? = some t) (hat' : ats[1]? = some t') (hx : ev E x = some (.slice (some ⟨b,0,none⟩) m cap)) (hy : ev E y = some (.string (S w)))
  (hf : nthF H j = some (.own b (.cells (List.toArray (vs ++ rest)) T (0,0)))) (hl : vs.length = m * 1) (hc : (vs ++ rest).length = cap * 1) (hroom : m + w.length ≤ cap)
  (hH : setF H j (.own b (.cells (List.toArray (vs ++ w.flatMap cB ++ rest.drop (w.length * 1))) T (0,0))) = some H') :
  LOp P o E H (fun v H'' => v = .slice (some ⟨b,0,none⟩) (m + w.length) cap ∧ H'' = H') :=
 ⟨nd ho (by intro c h;cases h),fun φ hA Q hQ => by
  obtain ⟨zv,h1,h2,h3⟩ := hel.parts
  obtain ⟨d,i,_,h4,_,h6,h7,h8⟩ := tyF_parts h2
  have e0 : az.map φ = #[.slice (some ⟨b,0,none⟩) m cap,.string (S w)] := by
   apply Array.ext'
   simp [has,hA x _ hx,hA y _ hy]
  unfold execOp;rw [ho];simp only [resolve,K.bind,K.pure,invoke,builtin,Builtin.append_,e0,hat,hat']
  have a0 : (#[Value.slice (some ⟨b,0,none⟩) m cap,Value.string (S w)] : Array Value)[0]? = some (Value.slice (some ⟨b,0,none⟩) m cap) := rfl
  have a1 : (#[Value.slice (some ⟨b,0,none⟩) m cap,Value.string (S w)] : Array Value)[1]? = some (Value.string (S w)) := rfl
  simp only [a0,a1]
  rw [K.bind,k_underlying h1]
  simp only
  rw [K.bind,k_sizeOf h4,K.bind,k_underlying hs.h,K.bind,K.pure]
  simp only [Bool.false_eq_true,if_false,Builtin.lenOf,S_size]
  rw [K.bind,K.pure,if_pos hroom,K.bind,h6]
  simp only [Bool.not_false,if_true,Builtin.firstCells]
  rw [K.pure,bytes_cells,add_none,K.bind,Nat.zero_add]
  have hle : m * 1 + (w.flatMap cB).length ≤ (vs ++ rest).length := by
   rw [hc,len_cB];omega
  have es : splice (vs ++ rest) (m * 1) (w.flatMap cB) = vs ++ w.flatMap cB ++ rest.drop (w.length * 1) := by
   rw [← hl,← len_cB w,Nat.mul_one]
   simp [splice,List.drop_append]
  refine k_storeCells (T := T) (w.flatMap cB) 0 (vs ++ rest).toArray H H' (by simpa using hle) (by
   intro v hv
   rw [List.mem_flatMap] at hv
   obtain ⟨b,_,hb⟩ := hv
   simp [cB] at hb;subst hb;rfl) ?_ ?_
  ·have := foldl_splice (w.flatMap cB) (vs ++ rest) (m * 1) hle
   rw [es] at this
   simp only [Nat.add_zero]
   rw [this]
   exact setF_upd hf hH
  ·exact hQ _ _ ⟨rfl,rfl⟩⟩
end
section
variable {P : Program} {main : Bool} {L : Lg P main} {f : FuncId} {ro : Option Nat} {ds : Dz} {cs : List Frame} {n : Nat} {k : List Item} {ops : Array Oper} {i : Nat} {rest : List Nat} {E : Env} {H H₀ sf : Facts} {o : Oper} {d : Nat}
theorem At.appS {az : Array Operand} {ats : Array TypeId} {x y : Operand} {t t' e : TypeId} {ag : Bool} {by_ : Nat} {z : List Value} {v : Value} {xs w : List UInt8} [hel : ElI P t e ag 1 by_ z] [hs : StI P t']
  (ho : ops[i]? = some o) (hop : o.op = .call { callee := .builtin .append,args := az,argTypes := ats }) (hw : wantE ops o E = some true) (hd : o.dst = some d) (hn : Nat.blt d n = true) (has : az.toList = [x,y]) (hats : ats.toList = [t,t'])
  (hx : ev E x = some v) (hy : ev E y = some (.string (S w))) (hz : Nat.beq z.length 1 = true) (hby : Nat.ble by_ 1000 = true) (hb0 : Nat.beq by_ 0 = false)
  (hsl : Sl cB e v xs sf) (hp : (sf ++ H₀).Perm H) (hq : 0 < w.length) (hsm : xs.length + w.length ≤ 100000)
  (h : ∀ v' sf',Sl cB e v' (xs ++ w) sf' → At L f ro ds cs n ((d,v') :: E) (sf' ++ H₀) (.inRegion ops rest :: k)) : At L f ro ds cs n E H (.inRegion ops (i :: rest) :: k) := by
 have hat : ats[0]? = some t := by rw [← Array.getElem?_toList,hats];rfl
 have hat' : ats[1]? = some t' := by rw [← Array.getElem?_toList,hats];rfl
 refine At.weakH ?_ (Sub.of_perm hp)
 have hz' := Nat.eq_of_beq_eq_true hz
 have hby' := Nat.le_of_ble_eq_true hby
 have hb0' : by_ ≠ 0 := fun e => by subst e;cases hb0
 have key : ∀ v' sf',IsSl 1 e v' (xs.flatMap cB ++ w.flatMap cB) (xs.length + w.length) sf' → At L f ro ds cs n ((d,v') :: E) (sf' ++ H₀) (.inRegion ops rest :: k) := fun v' sf' h' => h v' sf' (by
  show IsSl 1 e v' ((xs ++ w).flatMap cB) (xs ++ w).length sf'
  rw [List.flatMap_append,List.length_append];exact h')
 unfold Sl at hsl
 generalize hvs : xs.flatMap cB = vs at hsl key
 generalize hm : xs.length = m at hsl key hsm
 cases hsl with
 | nil =>
  refine At.l ho hw hd hn (l_appGS (vs := []) hop has hat hat' hx hy (.inl rfl) (by simp) (by omega) hsm hby' hb0') ?_
  rintro _ _ ⟨r,c,rs,rfl,hge,hrl,rfl⟩
  exact key _ _ (.own r c (0 + w.length) ([] ++ w.flatMap cB) rs (by rw [List.nil_append,len_cB];omega) (by rw [List.length_append,hrl,hz'];simp only [List.nil_append,len_cB];omega) (by omega))
 | own b cap _ _ rs hl hc hm =>
  by_cases hroom : m + w.length ≤ cap
  ·refine At.l ho hw hd hn (l_appIS 0 hop has hat hat' hx hy rfl hl hc hroom rfl) ?_
   rintro _ _ ⟨rfl,rfl⟩
   refine key _ _ (.own b cap (m + w.length) (vs ++ w.flatMap cB) (rs.drop (w.length * 1)) (by rw [List.length_append,hl,len_cB];omega) ?_ hroom)
   rw [List.length_append] at hc
   simp only [List.length_append,List.length_drop,len_cB]
   omega
  ·refine At.l ho hw hd hn (l_appGS (vs := vs) hop has hat hat' hx hy (.inr ⟨b,0,rfl,cells_own (List.mem_cons_self ..) (by simp)⟩) hl (by omega) hsm hby' hb0') ?_
   rintro _ _ ⟨r,c,rs',rfl,hge,hrl,rfl⟩
   refine At.weakH (key _ _ (.own r c (m + w.length) (vs ++ w.flatMap cB) rs' (by rw [List.length_append,hl,len_cB];omega) ?_ hge)) (Sub.cons _ (Sub.tail _ _))
   rw [List.length_append,hrl,hz',List.length_append,hl,len_cB]
   omega
end
end Go.Gx
end
section
namespace Go.Gx
open Go Go.Conc
section
variable {P : Program} {H : Facts} {E : Env} {o : Oper}
theorem k_loadBytes {b : Nat} {w : List UInt8} : ∀ (m off : Nat) (acc : ByteArray) {vs : List UInt8},vs.length = m → Cells H b off (vs.flatMap cB) → ∀ {Q : ByteArray → Facts → Prop},Q (acc ++ S vs) H → K P (loadBytes ⟨b,off,none⟩ acc m) Q H
 | 0,off,acc,vs,hl,hc,Q,hq => by
  obtain rfl : vs = [] := List.length_eq_zero_iff.1 hl
  unfold loadBytes
  have e : acc ++ S [] = acc := by apply bytes_ext;simp [S]
  rw [e] at hq
  exact hq
 | m + 1,off,acc,vs,hl,hc,Q,hq => by
  cases vs with
  | nil => simp at hl
  | cons x vs =>
   unfold loadBytes
   rw [K.bind]
   refine ⟨.int .u8 x.toNat,rfl,hc 0 _ rfl,?_⟩
   simp only [add_none]
   refine k_loadBytes (w := w) m (off + 1) _ (vs := vs) (by simpa using hl) (fun i v hv => ?_) ?_
   ·have := hc (i + 1) v (by simpa [cB] using hv)
    rwa [show off + (i + 1) = off + 1 + i from by omega] at this
   ·have e : (acc.push (Int.toNat ((x.toNat : Nat) : Int)).toUInt8) ++ S vs = acc ++ S (x :: vs) := by
     apply bytes_ext
     simp [S]
    rw [e];exact hq
class BytI (P : Program) (e : TypeId) : Prop where
 h : P.underlying e = some (.int .u8)
 one : P.cellsOf e = 1
 deep : P.depth ≠ 0
theorem lies_bytes {e : TypeId} [hb : BytI P e] {c off n : Nat} (h : off + n ≤ c) : liesAt P P.depth e (c / P.cellsOf e) off e n = true := by
 obtain ⟨d,hd⟩ := Nat.exists_eq_succ_of_ne_zero hb.deep
 rw [hd]
 unfold liesAt
 have : rowAt P (sameLayout P P.depth · e) P.depth e (c / P.cellsOf e) off n = true := by
  rw [hd]
  unfold rowAt
  rw [hb.one]
  have hs : sameLayout P (d + 1) e e = true := by unfold sameLayout;simp
  simp [hs,h,Nat.mod_one]
 rw [this]
 rfl
class PtrI (P : Program) (t : TypeId) (e : outParam TypeId) : Prop where
 h : P.underlying t = some (.pointer e)
theorem q_sliceData {az : Array Operand} {ats : Array TypeId} {x : Operand} {a : Addr} {n cap : Nat} (ho : o.op = .call { callee := .builtin .unsafeSliceData,args := az,argTypes := ats }) (has : az.toList = [x]) (hx : ev E x = some (.slice (some a) n cap)) (hc : cap ≠ 0) : QOp P o E H (.pointer (some a)) :=
 ⟨nd ho (by intro c h;cases h),fun φ hA Q hQ => by
  have e0 : az.map φ = #[.slice (some a) n cap] := by
   apply Array.ext'
   simp [has,hA x _ hx]
  unfold execOp;rw [ho];simp only [resolve,K.bind,K.pure,invoke,builtin,e0]
  change K P (if cap ≠ 0 then pure (Value.pointer (some a)) else _) _ _
  rw [if_pos hc]
  exact hQ⟩
theorem l_unsafeString {az : Array Operand} {ats : Array TypeId} {x y : Operand} {t e : TypeId} {k : IntKind} {b n : Nat} {w : List UInt8} {rest : List Value} {H' : Facts} [hp : PtrI P t e] [hb : BytI P e] (ho : o.op = .call { callee := .builtin .unsafeString,args := az,argTypes := ats }) (has : az.toList = [x,y]) (hat : ats[0]? = some t)
  (hx : ev E x = some (.pointer (some ⟨b,0,none⟩))) (hy : ev E y = some (.int k (n : Int))) (hn : n = w.length) (h0 : 0 < n) (hbig : n ≤ 1000000)
  (hup : Upd H (.own b (.cells (List.toArray (w.flatMap cB ++ rest)) e (0,0))) (.own b (.cells (List.toArray (w.flatMap cB ++ rest)) e (0,n))) H') : LOp P o E H (fun v H'' => v = .string (S w) ∧ H'' = H') :=
 ⟨nd ho (by intro c h;cases h),fun φ hA Q hQ => by
  subst hn
  have e0 : az.map φ = #[.pointer (some ⟨b,0,none⟩),.int k (w.length : Int)] := by
   apply Array.ext'
   simp [has,hA x _ hx,hA y _ hy]
  unfold execOp;rw [ho];simp only [resolve,K.bind,K.pure,invoke,builtin,e0]
  change K P (Bind.bind (asInt (Value.int k (w.length : Int))) _) _ _
  rw [K.bind]
  simp only [asInt,asIntOf,K.bind,K.pure,hat]
  have hmax : IntKind.i64.max = 9223372036854775807 := by decide
  rw [if_neg (by omega),if_neg (by omega),if_neg (by omega)]
  rw [K.bind]
  unfold elemOf
  rw [K.bind,k_underlying hp.h]
  simp only [K.pure]
  rw [K.bind]
  unfold variablesAt
  rw [K.bind]
  show K P program _ H
  simp only [program,K]
  rw [K.bind]
  simp only [shape,K]
  refine ⟨_,⟨_,hup.mem,rfl⟩,?_⟩
  simp only [K.pure]
  rw [lies_bytes (by rw [List.size_toArray,List.length_append,len_cB];show 0 + Int.toNat ((w.length : Nat) : Int) ≤ _;omega)]
  simp only [if_true]
  rw [K.bind]
  have hc : Cells H b 0 (w.flatMap cB) := by
   refine cells_own hup.mem ?_
   simp
  rw [show Int.toNat ((w.length : Nat) : Int) = w.length from by omega]
  refine k_loadBytes (w := w) w.length 0 _ (vs := w) rfl hc ?_
  rw [K.bind]
  simp only [freeze,K]
  refine ⟨List.toArray (w.flatMap cB ++ rest),e,H',h0,?_,?_⟩
  ·rw [Nat.zero_add];exact hup
  ·have e1 : ByteArray.empty ++ S w = S w := by apply bytes_ext;simp [S]
   rw [e1]
   exact hQ _ _ ⟨rfl,rfl⟩⟩
theorem k_digits : ∀ (n t : Nat) (acc : Array Value),(Extern.BytealgMakeNoZero.digits n t acc).size = acc.size + n
 | 0,t,acc => rfl
 | n + 1,t,acc => by unfold Extern.BytealgMakeNoZero.digits;rw [k_digits n];simp;omega
theorem k_makeNoZero {ps rs : Array TypeId} {t e : TypeId} {n : Nat} (hr : rs[0]? = some t) (hu : P.underlying t = some (.slice e)) (hn : n ≤ 1000000) {Q : Value → Facts → Prop}
  (hq : ∀ r cap (l : List Value),n ≤ cap → l.length = cap → Q (.slice (some ⟨r,0,none⟩) n cap) (.own r (.cells (List.toArray l) e (0,0)) :: H)) : K P (Extern.BytealgMakeNoZero.makeNoZero ps rs #[.int .i64 (n : Int)]) Q H := by
 change K P (match rs[0]? with | some t => _ | _ => _) _ _
 rw [hr]
 change K P (Bind.bind (underlying t) _) _ _
 rw [K.bind,k_underlying hu]
 simp only
 have hb : (decide ((n : Int) < 0) || decide ((n : Int) > 2 ^ 48)) = false := by
  simp;omega
 rw [hb]
 simp only [Bool.false_eq_true,if_false]
 rw [K.bind]
 simp only [choose,K]
 intro c hc
 have hge : n ≤ c := by
  rcases hc with ⟨hf,_⟩ | ⟨_,tt,rfl⟩
  ·simp [Question.forced] at hf
  ·simp only [Question.cut];omega
 rw [K.bind]
 refine k_askRoom ?_
 rw [K.bind]
 simp only [K]
 intro b _
 rw [K.bind]
 simp only [newRow,newObj,K.bind,K,K.pure]
 intro r
 have hsz : (Extern.BytealgMakeNoZero.digits c b #[]).toList.length = c := by rw [Array.length_toList,k_digits];simp
 have := hq r c (Extern.BytealgMakeNoZero.digits c b #[]).toList hge hsz
 simpa using this
def nifF (P : Program) (t : TypeId) : Bool := match P.underlying t with
 | some (.interface _) => false
 | some _ => true
 | none => false
class NifI (P : Program) (t : TypeId) : Prop where
 is : nifF P t = true
theorem NifI.h {P : Program} {t : TypeId} (hi : NifI P t) : ∃ d,P.underlying t = some d ∧ ∀ ms,d ≠ .interface ms := by
 have := hi.is
 unfold nifF at this
 split at this
 ·cases this
 ·rename_i d hn hd
  exact ⟨d,hd,fun ms e => hn ms e⟩
 ·cases this
theorem q_mkIface {t : TypeId} {x : Operand} {v : Value} [hn : NifI P t] (ho : o.op = .makeInterface t x) (hx : ev E x = some v) : QOp P o E H (.iface t v) :=
 ⟨nd ho (by intro c h;cases h),fun φ hA Q hQ => by
  obtain ⟨d,h1,h2⟩ := hn.h
  unfold execOp;rw [ho];simp only [hA x _ hx,Instr.makeInterface]
  rw [K.bind,K.bind,k_underlying h1]
  cases d <;> first | exact hQ | exact absurd rfl (h2 _)⟩
theorem q_taY {t u : TypeId} {x : Operand} {v : Value} [hn : NifI P u] (ho : o.op = .typeAssert x t u true) (hx : ev E x = some (.iface u v)) : QOp P o E H (.tuple #[v,.bool true]) :=
 ⟨nd ho (by intro c h;cases h),fun φ hA Q hQ => by
  obtain ⟨d,h1,h2⟩ := hn.h
  unfold execOp;rw [ho];simp only [hA x _ hx,Instr.typeAssert]
  rw [K.bind,K.bind,k_underlying h1]
  cases d <;> first | (simp only [if_true];exact hQ) | exact absurd rfl (h2 _)⟩
theorem q_taN {t u u' : TypeId} {x : Operand} {v : Value} {ag : Bool} {sz by' : Nat} {zv : Value} [hn : NifI P u] (ho : o.op = .typeAssert x t u true) (hx : ev E x = some (.iface u' v)) (hne : Nat.beq u' u = false) (hz : tyF P u = some (ag,sz,some zv,by')) : QOp P o E H (.tuple #[zv,.bool false]) :=
 ⟨nd ho (by intro c h;cases h),fun φ hA Q hQ => by
  obtain ⟨d,h1,h2⟩ := hn.h
  obtain ⟨d',i,_,h4,_,_,h5,_⟩ := tyF_parts hz
  have hne' : ¬ u' = u := fun e => by subst e;simp at hne
  unfold execOp;rw [ho];simp only [hA x _ hx,Instr.typeAssert]
  rw [K.bind,K.bind,k_underlying h1]
  cases d <;> first | (simp only [if_neg hne',if_true];rw [K.bind,k_zeroValue h4 h5];exact hQ) | exact absurd rfl (h2 _)⟩
def mtF (P : Program) (t : TypeId) (name : String) : Option FuncId :=
 match P.info? t,P.underlying t with
 | some i,some (.struct _) => match i.methods.find? (·.name == name) with
  | some m => if m.path.toList.isEmpty then match m.func with
   | some (f,false) => some f
   | _ => none
   else none
  | none => none
 | _,_ => none
class MtI (P : Program) (t : TypeId) (name : String) (f : outParam FuncId) : Prop where
 is : mtF P t name = some f
 n : P.types.size + Made.depth ≠ 0
theorem MtI.h {P : Program} {t : TypeId} {name : String} {f : FuncId} (hi : MtI P t name f) : ∃ i m d,P.info? t = some i ∧ i.methods.find? (·.name == name) = some m ∧ m.path.toList = [] ∧ m.func = some (f,false) ∧ P.underlying t = some d ∧ ∀ u,d ≠ .pointer u := by
 have := hi.is
 unfold mtF at this
 split at this
 ·rename_i i fs h1 h2
  split at this
  ·rename_i m hm
   split at this
   ·rename_i he
    split at this
    ·rename_i f' hf
     cases this
     exact ⟨i,m,_,h1,hm,by simpa using he,hf,h2,fun u e => by cases e⟩
    ·cases this
   ·cases this
  ·cases this
 ·cases this
theorem k_method {t : TypeId} {name : String} {f : FuncId} {v : Value} [hm : MtI P t name f] {Q : FuncId × Value → Facts → Prop} (hq : Q (f,v) H) : K P (Go.method (P.types.size + Made.depth) t v name) Q H := by
 obtain ⟨i,m,d,h1,h2,h3,h4,h5,h6⟩ := hm.h
 obtain ⟨k,hk⟩ := Nat.exists_eq_succ_of_ne_zero hm.n
 rw [hk]
 unfold Go.method
 rw [K.bind,k_typeInfo h1]
 simp only [h2,h3]
 rw [K.bind]
 simp only [Go.follow,K.pure]
 simp only [h4]
 rw [K.bind]
 unfold Go.receiverAt
 rw [K.bind,k_underlying h5]
 cases d <;> first | exact hq | exact absurd rfl (h6 _)
end
section
variable {P : Program} {main : Bool} {L : Lg P main} {f : FuncId} {ro : Option Nat} {ds : Dz} {cs : List Frame} {n : Nat} {k : List Item} {ops : Array Oper} {i : Nat} {rest : List Nat} {E : Env} {H H₀ sf : Facts} {o : Oper} {d : Nat}
theorem At.inv {x : Operand} {az : Array Operand} {ats : Array TypeId} {t : TypeId} {name : String} {g : FuncId} {v : Value} {vs : List Value} {Post : Value → Facts → Prop} [hm : MtI P t name g]
  (ho : ops[i]? = some o) (hop : o.op = .call { callee := .invoke x name,args := az,argTypes := ats }) (hw : wantE ops o E = some true) (hd : o.dst = some d) (hn : Nat.blt d n = true)
  (hx : ev E x = some (.iface t v)) (has : evs E az.toList = some vs) [hb : HB P g] (hc : Spec L g (#[v] ++ vs.toArray) H Post)
  (h : ∀ v H',Post v H' → At L f ro ds cs n ((d,v) :: E) H' (.inRegion ops rest :: k)) : At L f ro ds cs n E H (.inRegion ops (i :: rest) :: k) := by
 refine At.opG ho hw (by rw [hop];intro c;simp) (by rw [hd];intro t e;cases e;exact blt_lt hn) fun φ hA => ?_
 unfold execOp
 rw [hop]
 simp only
 have e : az.map φ = vs.toArray := by
  have := evs_map hA has
  apply Array.ext'
  simpa using this
 simp only [resolve,hA x _ hx,e]
 rw [K.bind,K.pure]
 show K P (invoke _ _) _ H
 simp only [invoke]
 have e1 : (#[Value.iface t v] ++ vs.toArray)[0]? = some (.iface t v) := by simp
 have e2 : (#[Value.iface t v] ++ vs.toArray).extract 1 (#[Value.iface t v] ++ vs.toArray).size = vs.toArray := by
  apply Array.ext'
  simp
 simp only [e1,e2,callMethod]
 rw [K.bind]
 show K P program _ H
 simp only [program,K]
 rw [K.bind]
 refine k_method ?_;refine K.callFunc hb.h ?_
 intro tmps hs hE
 refine hc _ _ fun v H' hv => ?_
 rw [fr_finish,ho]
 exact at_put (d := o.dst) (by rw [hd];intro t e;cases e;exact blt_lt hn) (by rw [hd];exact h v H' hv) tmps hs hE
def dcall (g : FuncId) (first cap : List Value) : Deferred := { target := .fn (.func g) (List.toArray cap),args := List.toArray first }
theorem At.defer {x : Operand} {az : Array Operand} {ats : Array TypeId} {g : FuncId} {first cap vs : List Value} (ho : ops[i]? = some o) (hop : o.op = .defer { callee := .value x,args := az,argTypes := ats }) (hw : wantE ops o E = some true) (hd : o.dst = none)
  (hx : ev E x = some (.func (.func g) ⟨first⟩ ⟨cap⟩)) (has : evs E az.toList = some vs) (h : At L f none ⟨ds.late,dcall g (first ++ vs) cap :: ds.ds⟩ cs n E H (.inRegion ops rest :: k)) : At L f none ds cs n E H (.inRegion ops (i :: rest) :: k) := by
 intro tmps hs hE
 refine L.same (g' := G (Fr f none ⟨ds.late,dcall g (first ++ vs) cap :: ds.ds⟩ tmps (.inRegion ops rest :: k)) cs) rfl (fun W => ?_) (h tmps hs hE)
 have hfx : (Fr f none ds tmps (.inRegion ops (i :: rest) :: k)).eval x = .func (.func g) ⟨first⟩ ⟨cap⟩ := ev_fr hE _ _ _ _ hx
 have e : az.map (Fr f none ds tmps (.inRegion ops (i :: rest) :: k)).eval = vs.toArray := by
  have := evs_map (φ := (Fr f none ds tmps (.inRegion ops (i :: rest) :: k)).eval) (fun x v hx => ev_fr hE _ _ _ _ hx) has
  apply Array.ext'
  simpa using this
 have h1 : stepG P main (G (Fr f none ds tmps (.inRegion ops (i :: rest) :: k)) cs) W = stepG.apply P true (Fr f none ds tmps (.inRegion ops (i :: rest) :: k)) cs none (execOp (Fr f none ds tmps (.inRegion ops (i :: rest) :: k)).eval o) W := by
  have h0 : stepG P main (G (Fr f none ds tmps (.inRegion ops (i :: rest) :: k)) cs) W = stepG.oper P true (Fr f none ds tmps (.inRegion ops (i :: rest) :: k)) cs none W := by
   simp only [G,stepG,Fr]
   simp only [stepG.exec,ho,Option.map_some,Option.getD_some,wantE_ok hw hE,if_true]
  rw [h0]
  unfold stepG.oper
  have h2 : (Fr f none ds tmps (.inRegion ops (i :: rest) :: k)).oper? = some o := by simp [Frame.oper?,Fr,ho]
  rw [h2]
  simp only
  split
  ·rename_i l c heq _
   simp [Fr] at heq
  ·rfl
 have hr : (execOp (Fr f none ds tmps (.inRegion ops (i :: rest) :: k)).eval o).runT P W #[] = (.ok (.defer (dcall g (first ++ vs) cap)) W,#[]) := by
  unfold execOp
  rw [hop]
  simp only [resolve,hfx,e,Deferred.ofValue]
  have e2 : ((⟨first⟩ : Array Value) ++ vs.toArray) = List.toArray (first ++ vs) := by simp
  rw [e2]
  rfl
 rw [h1]
 unfold stepG.apply
 simp only [if_true,hr,fr_kind]
 simp [GStep.after,G,Frame.finish,Fr,ho,hd,dcall,seen]
end
end Go.Gx
end
section
namespace Go.Gx
open Go Go.Conc
section
variable {P : Program} {main : Bool} {L : Lg P main} {f : FuncId} {ro : Option Nat} {ds : Dz} {c : Frame} {cs : List Frame} {n : Nat} {k : List Item} {ops : Array Oper} {i : Nat} {rest : List Nat} {E : Env} {H H₀ sf : Facts} {o : Oper} {d : Nat}
theorem At.recover {az : Array Operand} {ats : Array TypeId} (hc : c.mode = .returning) (ho : ops[i]? = some o) (hop : o.op = .call { callee := .builtin .recover,args := az,argTypes := ats }) (hw : wantE ops o E = some true) (hd : o.dst = some d) (hn : Nat.blt d n = true)
  (h : At L f none ⟨true,[]⟩ (c :: cs) n ((d,.nilIface) :: E) H (.inRegion ops rest :: k)) : At L f none ⟨true,[]⟩ (c :: cs) n E H (.inRegion ops (i :: rest) :: k) := by
 intro tmps hs hE
 refine L.same (g' := G (Fr f none ⟨true,[]⟩ (tmps.setIfInBounds d .nilIface) (.inRegion ops rest :: k)) (c :: cs)) rfl (fun W => ?_) (h _ (by rw [Array.size_setIfInBounds];exact hs) (Env.ok_put hE (by rw [hs];exact blt_lt hn) _))
 rw [stepG_opF ho (wantE_ok hw hE) (by rw [hop];intro c;simp)]
 have hr : (execOp (Fr f none ⟨true,[]⟩ tmps (.inRegion ops (i :: rest) :: k)).eval o).runT P W #[] = (.ok .recover W,#[]) := by
  unfold execOp
  rw [hop]
  rfl
 unfold stepG.apply
 simp only [if_true,hr,fr_kind]
 have ht : tryRecover (Fr f none ⟨true,[]⟩ tmps (.inRegion ops (i :: rest) :: k)) (c :: cs) = none := by
  unfold tryRecover
  simp [Fr,hc]
 have e : (Fr f none ⟨true,[]⟩ tmps (.inRegion ops (i :: rest) :: k)).roundOf = none := rfl
 simp only [e,ht]
 rw [fr_finish,ho]
 simp [GStep.after,G,hd,putT,seen]
theorem At.lateEnd {fn : Func} {todo : List Item} (hc : c.mode = .returning) (hf : P.funcs[f]? = some fn) (hres : fn.results = #[]) (hs : todo = [] ∨ ∃ k',todo = .code .ret :: k') (h : L.J (G c cs) H) : At L f none ⟨true,[]⟩ (c :: cs) n E H todo := by
 intro tmps hn hE
 refine L.same (g' := G (retMode (Fr f none ⟨true,[]⟩ tmps todo)) (c :: cs)) rfl (fun W => ?_) ?_
 ·rcases hs with rfl | ⟨k',rfl⟩ <;> simp [G,stepG,stepG.exec,Fr,retMode]
 refine L.same (g' := G c cs) rfl (fun W => ?_) h
 have h : (results fn tmps).runT P W #[] = (.ok (.tuple #[]) W,#[]) := by
  unfold results
  rw [hres,Array.mapM_eq_mapM_toList,show (#[] : Array ResultVar).toList = [] from rfl,List.mapM_nil]
  refine PureT.bind (a := #[]) ?_ ?_ W #[]
  ·exact PureT.map (PureT.pure [])
  ·exact PureT.pure _
 simp only [G,stepG,retMode,Fr,unwind,hf,h]
 simp [doReturn,hc,seen_nil,GStep.after,G]
theorem At.retD (j : Nat) {fn fg : Func} {body : Code} {todo : List Item} {r : Nat} {g : FuncId} {first cap : List Value} {H' : Facts} {rs : List ResultVar} {vs : List Value} (hf : P.funcs[f]? = some fn) (hs : todo = [] ∨ ∃ k',todo = .code .ret :: k')
  (hm : nthF H j = some (.own r (.deferred (some [])))) (hH : setF H j (.own r (.deferred none)) = some H')
  (hg : P.funcs[g]? = some fg) (hgb : fg.body = some body) [hB : HB P g] (hgn : (first ++ cap).length ≤ fg.ntmps)
  (hdef : ∀ (c' : Frame) (cs' : List Frame),c'.mode = .returning → L.J (G c' cs') H' → At L g none ⟨true,[]⟩ (c' :: cs') fg.ntmps (envOf 0 (first ++ cap)) H' [.code body])
  (hr : fn.results.toList = rs) (hv : ResVs P E H' rs vs) (h : L.J (G (c.finish (resVal vs)) cs) H') : At L f none ⟨false,[mark r,dcall g first cap]⟩ (c :: cs) n E H todo := by
 intro tmps hn hE
 refine L.same (g' := G (retMode (Fr f none ⟨false,[mark r,dcall g first cap]⟩ tmps todo)) (c :: cs)) rfl (fun W => ?_) ?_
 ·rcases hs with rfl | ⟨k',rfl⟩ <;> simp [G,stepG,stepG.exec,Fr,retMode]
 refine L.closed _ _ rfl fun W hW => ?_
 have hK : K P (Instr.takeDeferred r) (fun ds H'' => ds = [] ∧ H'' = H') H := by
  unfold Instr.takeDeferred
  rw [K.bind]
  refine ⟨_,nthF_mem hm,rfl,?_⟩
  show K P (setObj r (Obj.deferred none) >>= fun _ => Pure.pure []) _ H
  rw [K.bind]
  exact ⟨_,H',rfl,rfl,setF_upd hm hH,rfl,rfl⟩
 obtain ⟨p,W',es,H'',hrr,ht,rfl,rfl⟩ := K.sound hK (Tr.refl hW)
 refine ⟨G (retMode (Fr f none ⟨false,[dcall g first cap]⟩ tmps todo)) (c :: cs),W',seen P f es,H'',?_,⟨ht.holds,ht.os,ht.tape,ht.output,ht.size,ht.keep,ht.mine,ht.seen,fun e he => ht.evs e (mem_seen he)⟩,?_⟩
 ·simp only [G,stepG,retMode,Fr,mark]
  simp only [unwind,hrr]
  simp [GStep.after]
 have henter : Frame.enter P g (List.toArray first ++ List.toArray cap) .deferred = Fr g none ⟨true,[]⟩ (List.toArray (first ++ cap) ++ Array.replicate (fg.ntmps - (List.toArray (first ++ cap)).size) undef) [.code body] := by
  simp [Frame.enter,Fr,hg,hgb]
 refine L.same (g' := G (Fr g none ⟨true,[]⟩ (List.toArray (first ++ cap) ++ Array.replicate (fg.ntmps - (List.toArray (first ++ cap)).size) undef) [.code body]) (retMode (Fr f none d0 tmps todo) :: c :: cs)) rfl (fun W => ?_) ?_
 ·obtain ⟨fn',h1,h2,h3⟩ := hB.h
  rw [hg] at h1
  cases h1
  have hi : (invoke (.fn (.func g) (List.toArray cap)) (List.toArray first)).runT P W #[] = (.ok (.enter g (List.toArray first ++ List.toArray cap)) W,#[]) := by
   have h4 : fg.body.isNone = false := by rw [hgb];rfl
   simp only [invoke,callFunc]
   show (do let p ← program;_ : Sem Next).runT P W #[] = _
   rw [runT_bind]
   simp only [program,Sem.runT,hg,h2,Bool.false_eq_true,if_false,h4]
   rfl
  rw [← henter]
  simp only [G,stepG,retMode,Fr,dcall]
  simp only [unwind,callDeferred,hi]
  simp [GStep.after,seen,G,retMode,Fr]
 refine hdef (retMode (Fr f none d0 tmps todo)) (c :: cs) rfl ?_ _ (by simp at hgn ⊢;omega) ?_
 ·refine L.closed _ _ rfl fun W hW => ?_
  obtain ⟨v,W',es,H₂,hr2,ht2,rfl,rfl⟩ := K.sound (k_results (Q := fun v H₂ => v = resVal vs ∧ H₂ = H'') hE hr hv ⟨rfl,rfl⟩) (Tr.refl hW)
  refine ⟨G (c.finish (resVal vs)) cs,W',seen P f es,_,?_,⟨ht2.holds,ht2.os,ht2.tape,ht2.output,ht2.size,ht2.keep,ht2.mine,ht2.seen,fun e he => ht2.evs e (mem_seen he)⟩,h⟩
  simp only [G,stepG,retMode,Fr]
  simp only [unwind,hf,hr2,doReturn]
  simp [GStep.after]
 ·refine envOf_ok fun j v hj => ?_
  have hlt : j < (List.toArray (first ++ cap)).size := by
   have := (List.getElem?_eq_some_iff.1 hj).1
   simpa using this
  rw [Nat.zero_add,Array.getElem?_append_left hlt]
  rw [← Array.getElem?_toList];exact hj
end
end Go.Gx
end
section
namespace Go.Gx
open Go Go.Conc
def ixN (c : UInt8) : List UInt8 → Nat → Int
 | [],_ => -1
 | b :: w,k => if b = c then (k : Int) else ixN c w (k + 1)
def ixI (w : List UInt8) (c : UInt8) : Int := ixN c w 0
theorem ixN_none {c : UInt8} : ∀ {w : List UInt8} {k : Nat},c ∉ w → ixN c w k = -1
 | [],k,_ => rfl
 | b :: w,k,h => by
  unfold ixN
  rw [if_neg fun e => h (by rw [e];exact List.mem_cons_self ..)]
  exact ixN_none fun hm => h (List.mem_cons_of_mem _ hm)
theorem ixN_some {c : UInt8} : ∀ {a : List UInt8} {r : List UInt8} {k : Nat},c ∉ a → ixN c (a ++ c :: r) k = ((k + a.length : Nat) : Int)
 | [],r,k,_ => by simp [ixN]
 | b :: a,r,k,h => by
  show (if b = c then (k : Int) else ixN c (a ++ c :: r) (k + 1)) = _
  rw [if_neg fun e => h (by rw [e];exact List.mem_cons_self ..),ixN_some fun hm => h (List.mem_cons_of_mem _ hm)]
  simp only [List.length_cons];omega
theorem ixI_none {c : UInt8} {w : List UInt8} (h : c ∉ w) : ixI w c = -1 := ixN_none h
theorem ixI_some {c : UInt8} {a r : List UInt8} (h : c ∉ a) : ixI (a ++ c :: r) c = (a.length : Int) := by rw [ixI,ixN_some h];simp
theorem S_get! (l : List UInt8) (i : Nat) : (S l)[i]! = l[i]! := by
 simp only [getElem!_def,S_get]
section
variable {P : Program} {H : Facts}
theorem byte_toNat (c : UInt8) : (Int.toNat ((c.toNat : Nat) : Int)).toUInt8 = c := by simp
theorem k_indexByte {w : List UInt8} {c : UInt8} {Q : Value → Facts → Prop} (hq : Q (.int .i64 (ixI w c)) H) : K P (Extern.BytealgIndexByte.indexByte #[.string (S w),.int .u8 (c.toNat : Int)]) Q H := by
 change K P (Extern.Bytes.bytesOf (.string (S w)) >>= fun b => Extern.Bytes.asByte (.int .u8 (c.toNat : Int)) >>= _) Q H
 rw [K.bind]
 simp only [Extern.Bytes.bytesOf,K.pure]
 rw [K.bind]
 simp only [Extern.Bytes.asByte,K.pure,byte_toNat]
 cases hf : (List.range (S w).size).find? (fun i => (S w)[i]! == c) with
 | none =>
  have hn := List.find?_range_eq_none.1 hf
  have : c ∉ w := fun hm => by
   obtain ⟨i,hi,e⟩ := List.getElem_of_mem hm
   have := hn i hi
   rw [S_get!] at this
   simp [hi,e] at this
  rw [ixI_none this] at hq
  exact hq
 | some i =>
  obtain ⟨h1,h2,h3⟩ := List.find?_range_eq_some.1 hf
  have hi : i < w.length := List.mem_range.1 h2
  rw [S_get!] at h1
  have hc : w[i] = c := by simpa [hi] using h1
  have hsplit : w = w.take i ++ c :: w.drop (i + 1) := by
   rw [← hc];simp
  have hno : c ∉ w.take i := fun hm => by
   obtain ⟨j,hj,e⟩ := List.getElem_of_mem hm
   have hji : j < i := by simp at hj;omega
   have := h3 j hji
   rw [S_get!] at this
   rw [List.getElem_take] at e
   simp [show j < w.length from by omega,e] at this
  have : ixI w c = (i : Int) := by
   conv => lhs;rw [hsplit]
   rw [ixI_some hno]
   simp;omega
  rw [this] at hq
  exact hq
theorem foldl_bytes {β : Type} (f : β → UInt8 → β) (l : List UInt8) : ∀ (n j : Nat) (b : β),j + n = l.length → (ByteArray.foldlM.loop (m := _root_.Id) (fun x1 x2 => pure (f x1 x2)) (S l) l.length (Nat.le_refl _) n j b).run = (l.drop j).foldl f b := by
 intro n
 induction n with
 | zero =>
  intro j b h
  rw [List.drop_eq_nil_of_le (by omega)]
  simp only [ByteArray.foldlM.loop]
  split <;> rfl
 | succ n ih =>
  intro j b h
  have hj : j < l.length := by omega
  simp only [ByteArray.foldlM.loop]
  rw [dif_pos hj,List.drop_eq_getElem_cons hj]
  exact ih (j + 1) (f b l[j]) (by omega)
theorem k_count {w : List UInt8} {c : UInt8} {Q : Value → Facts → Prop} (hq : Q (.int .i64 (w.count c : Nat)) H) : K P (Extern.BytealgCount.count #[.string (S w),.int .u8 (c.toNat : Int)]) Q H := by
 change K P (Extern.Bytes.bytesOf (.string (S w)) >>= fun b => Extern.Bytes.asByte (.int .u8 (c.toNat : Int)) >>= _) Q H
 rw [K.bind]
 simp only [Extern.Bytes.bytesOf,K.pure]
 rw [K.bind]
 simp only [Extern.Bytes.asByte,K.pure,byte_toNat]
 have key : (S w).foldl (fun n x => if x == c then n + 1 else n) ((0 : Nat) : Int) = ((w.count c : Nat) : Int) := by
  have h1 : (S w).foldl (fun n x => if x == c then n + 1 else n) ((0 : Nat) : Int) = (w.drop 0).foldl (fun n x => if x == c then n + 1 else n) ((0 : Nat) : Int) := by
   unfold ByteArray.foldl ByteArray.foldlM
   rw [dif_pos (Nat.le_refl _)]
   exact foldl_bytes _ w w.length 0 _ (by omega)
  rw [h1,List.drop_zero]
  have : ∀ (l : List UInt8) (k : Int),l.foldl (fun n x => if x == c then n + 1 else n) k = k + ((l.count c : Nat) : Int) := by
   intro l
   induction l with
   | nil => intro k;simp
   | cons a l ih =>
    intro k
    rw [List.foldl_cons,ih,List.count_cons]
    split <;> omega
  rw [this];omega
 rw [key]
 exact hq
end
theorem wrap_u8 {n : Int} (h0 : 0 ≤ n) (h1 : n < 256) : IntKind.wrap .u8 n = n := by
 have e : IntKind.wrap .u8 n = n % 256 := rfl
 rw [e,Int.emod_eq_of_lt h0 h1]
theorem wrap_u32 {n : Int} (h0 : 0 ≤ n) (h1 : n < 4294967296) : IntKind.wrap .u32 n = n := by
 have e : IntKind.wrap .u32 n = n % 4294967296 := rfl
 rw [e,Int.emod_eq_of_lt h0 h1]
section
variable {P : Program} {H : Facts} {E : Env} {o : Oper} {t t' : TypeId} {x y : Operand} {k : IntKind} {a b v : Int}
theorem q_subK (ho : o.op = .binOp .sub t x y t') (hx : ev E x = some (.int k a)) (hy : ev E y = some (.int k b)) (hw : k.wrap (a - b) = v) : QOp P o E H (.int k v) :=
 ⟨nd ho (by intro c h;cases h),fun φ hA Q hQ => by
  subst hw
  unfold execOp;rw [ho];simp only [hA x _ hx,hA y _ hy,eqGuard,binOp,Op.intArith,K.bind,ne_eq,not_true_eq_false,if_false,K.pure]
  exact hQ⟩
theorem q_addK (ho : o.op = .binOp .add t x y t') (hx : ev E x = some (.int k a)) (hy : ev E y = some (.int k b)) (hw : k.wrap (a + b) = v) : QOp P o E H (.int k v) :=
 ⟨nd ho (by intro c h;cases h),fun φ hA Q hQ => by
  subst hw
  unfold execOp;rw [ho];simp only [hA x _ hx,hA y _ hy,eqGuard,binOp,Op.intArith,K.bind,ne_eq,not_true_eq_false,if_false,K.pure]
  exact hQ⟩
theorem q_mulK (ho : o.op = .binOp .mul t x y t') (hx : ev E x = some (.int k a)) (hy : ev E y = some (.int k b)) (hw : k.wrap (a * b) = v) : QOp P o E H (.int k v) :=
 ⟨nd ho (by intro c h;cases h),fun φ hA Q hQ => by
  subst hw
  unfold execOp;rw [ho];simp only [hA x _ hx,hA y _ hy,eqGuard,binOp,Op.intArith,K.bind,ne_eq,not_true_eq_false,if_false,K.pure]
  exact hQ⟩
theorem q_quoK (ho : o.op = .binOp .quo t x y t') (hx : ev E x = some (.int k a)) (hy : ev E y = some (.int k b)) (h0 : 0 ≤ a) (hb : 0 < b) (hw : k.wrap (a / b) = v) : QOp P o E H (.int k v) :=
 ⟨nd ho (by intro c h;cases h),fun φ hA Q hQ => by
  subst hw
  unfold execOp;rw [ho];simp only [hA x _ hx,hA y _ hy,eqGuard,binOp,Op.intDiv,K.bind,ne_eq,not_true_eq_false,if_false,K.pure]
  have hb' : ¬ b = 0 := by omega
  simp only [if_neg hb',K.pure]
  rw [Int.tdiv_eq_ediv_of_nonneg h0]
  exact hQ⟩
theorem q_remK (ho : o.op = .binOp .rem t x y t') (hx : ev E x = some (.int k a)) (hy : ev E y = some (.int k b)) (h0 : 0 ≤ a) (hb : 0 < b) : QOp P o E H (.int k (a % b)) :=
 ⟨nd ho (by intro c h;cases h),fun φ hA Q hQ => by
  unfold execOp;rw [ho];simp only [hA x _ hx,hA y _ hy,eqGuard,binOp,Op.intDiv,K.bind,ne_eq,not_true_eq_false,if_false,K.pure]
  have hb' : ¬ b = 0 := by omega
  simp only [if_neg hb',K.pure]
  rw [Int.tmod_eq_emod_of_nonneg h0]
  exact hQ⟩
end
end Go.Gx
end
section
namespace Go.Gx
open Go Go.Conc
def ifF (P : Program) (t : TypeId) : Bool := match P.underlying t with
 | some (.interface _) => true
 | _ => false
class IfI (P : Program) (t : TypeId) : Prop where
 is : ifF P t = true
theorem IfI.h {P : Program} {t : TypeId} (hi : IfI P t) : ∃ ms,P.underlying t = some (.interface ms) := by
 have := hi.is
 unfold ifF at this
 split at this
 ·exact ⟨_,by assumption⟩
 ·cases this
section
variable {P : Program} {H : Facts} {E : Env} {o : Oper}
theorem q_nilNe {t t' : TypeId} {x : Operand} [hi : IfI P t] (ho : o.op = .binOp .neq t x (.const .nilIface) t') (hx : ev E x = some .nilIface) : QOp P o E H (.bool false) :=
 ⟨nd ho (by intro c h;cases h),fun φ hA Q hQ => by
  obtain ⟨ms,hu⟩ := hi.h
  unfold execOp;rw [ho];simp only [hA x _ hx,hA _ _ (show ev E (.const .nilIface) = some .nilIface from rfl),K.bind]
  unfold eqGuard
  simp only [Bool.not_true,Bool.not_false,Bool.false_eq_true,if_false,K.pure,Bool.or_true,if_true]
  simp only [binOp,K.bind]
  show K P (Op.equalIn (9999 + 1) t .nilIface .nilIface) _ _
  unfold Op.equalIn
  rw [K.bind,k_underlying hu]
  exact hQ⟩
theorem q_nilEq {t t' : TypeId} {x : Operand} [hi : IfI P t] (ho : o.op = .binOp .eql t x (.const .nilIface) t') (hx : ev E x = some .nilIface) : QOp P o E H (.bool true) :=
 ⟨nd ho (by intro c h;cases h),fun φ hA Q hQ => by
  obtain ⟨ms,hu⟩ := hi.h
  unfold execOp;rw [ho];simp only [hA x _ hx,hA _ _ (show ev E (.const .nilIface) = some .nilIface from rfl),K.bind]
  unfold eqGuard
  simp only [Bool.not_true,Bool.not_false,Bool.false_eq_true,if_false,K.pure,Bool.or_true,if_true]
  simp only [binOp,K.bind]
  show K P (Op.equalIn (9999 + 1) t .nilIface .nilIface) _ _
  unfold Op.equalIn
  rw [K.bind,k_underlying hu]
  exact hQ⟩
theorem q_ptrNil {t t' e : TypeId} {x : Operand} {a : Option Addr} [hp : PtrI P t e] (ho : o.op = .binOp .eql t x (.const (.pointer none)) t') (hx : ev E x = some (.pointer a)) : QOp P o E H (.bool a.isNone) :=
 ⟨nd ho (by intro c h;cases h),fun φ hA Q hQ => by
  unfold execOp;rw [ho];simp only [hA x _ hx,hA _ _ (show ev E (.const (.pointer none)) = some (.pointer none) from rfl),K.bind]
  unfold eqGuard
  simp only [Bool.not_true,Bool.not_false,Bool.false_eq_true,if_false,K.pure]
  simp only [binOp,K.bind]
  show K P (Op.equalIn (9999 + 1) t (.pointer a) (.pointer none)) _ _
  unfold Op.equalIn
  rw [K.bind,k_underlying hp.h]
  cases a <;> exact hQ⟩
theorem q_ptrNe {t t' e : TypeId} {x y : Operand} {a : Addr} {ag : Bool} {sz : Nat} {z : List Value} [hp : PtrI P t e] [ht : TyI P e ag sz z] (ho : o.op = .binOp .neq t x y t') (hx : ev E x = some (.pointer (some a))) (hy : ev E y = some (.pointer (some a))) (hz : Nat.beq sz 0 = false) : QOp P o E H (.bool false) :=
 ⟨nd ho (by intro c h;cases h),fun φ hA Q hQ => by
  obtain ⟨zv,by_,e1,_⟩ := ht.h
  obtain ⟨d,i,_,h4,_,h6,_,_⟩ := tyF_parts e1
  unfold execOp;rw [ho];simp only [hA x _ hx,hA y _ hy,K.bind]
  unfold eqGuard
  simp only [Bool.not_true,Bool.not_false,Bool.false_eq_true,if_false,K.pure]
  simp only [binOp,K.bind]
  show K P (Op.equalIn (9999 + 1) t (.pointer (some a)) (.pointer (some a))) _ _
  unfold Op.equalIn
  rw [K.bind,k_underlying hp.h]
  simp only
  rw [K.bind,k_sizeOf h4,if_pos (by rw [h6];intro e;rw [e] at hz;cases hz)]
  unfold sameAddr
  simp only [beq_self_eq_true,if_true]
  exact hQ⟩
class UnI (P : Program) (t : TypeId) : Prop where
 h : P.underlying t = some .unsafePointer
theorem k_seen {a : Addr} {c : Array Value} {T : TypeId} {fr : Nat × Nat} (hm : .own a.block (.cells c T fr) ∈ H) {Q : Addr → Facts → Prop} (hq : Q a H) : K P (Conv.seenAt a) Q H := by
 unfold Conv.seenAt
 rw [K.bind]
 unfold viewAt
 rw [K.bind]
 refine ⟨_,⟨_,hm,rfl⟩,?_⟩
 exact hq
theorem q_toUnsafe {s d e : TypeId} {x : Operand} {b : Nat} {c : Array Value} {T : TypeId} {fr : Nat × Nat} {ag : Bool} {sz : Nat} {z : List Value} [hp : PtrI P s e] [ht : TyI P e ag sz z] [hu : UnI P d] (ho : o.op = .convert s d x) (hx : ev E x = some (.pointer (some ⟨b,0,none⟩))) (hm : .own b (.cells c T fr) ∈ H) (hz : Nat.beq sz 0 = false) (h0 : 0 < c.size) : QOp P o E H (.pointer (some ⟨b,0,none⟩)) :=
 ⟨nd ho (by intro c h;cases h),fun φ hA Q hQ => by
  obtain ⟨zv,by_,e1,_⟩ := ht.h
  obtain ⟨d',i,_,h4,_,h6,_,_⟩ := tyF_parts e1
  unfold execOp;rw [ho];simp only [hA x _ hx,K.bind]
  unfold convert
  rw [K.bind,k_underlying hp.h,K.bind,k_underlying hu.h]
  simp only
  unfold Conv.unsafePointer
  rw [K.bind,k_underlying hp.h,K.bind,k_underlying hu.h]
  simp only
  rw [K.bind]
  refine k_seen hm ?_
  rw [K.bind]
  unfold cellsIn
  rw [K.bind]
  refine ⟨_,⟨_,hm,rfl⟩,?_⟩
  change K P (sizeOf e >>= _) _ H
  rw [K.bind,k_sizeOf h4]
  have h6' : ¬ i.size = 0 := by rw [h6];intro e;rw [e] at hz;cases hz
  have h7 : (decide (i.size = 0) || (decide (0 ≥ c.size) && true)) = false := by
   rw [decide_eq_false h6',decide_eq_false (show ¬ (0 ≥ c.size) by omega)];rfl
  show K P (if (decide (i.size = 0) || (decide (0 ≥ c.size) && true)) = true then _ else _) _ _
  rw [h7]
  exact hQ⟩
theorem q_fromUnsafe {s d e : TypeId} {x : Operand} {b : Nat} {c : Array Value} {T : TypeId} {fr : Nat × Nat} {ag : Bool} {sz : Nat} {z : List Value} [hp : PtrI P d e] [ht : TyI P e ag sz z] [hu : UnI P s] (ho : o.op = .convert s d x) (hx : ev E x = some (.pointer (some ⟨b,0,none⟩))) (hm : .own b (.cells c T fr) ∈ H) (hl : liesAt P P.depth T (c.size / P.cellsOf T) 0 e 1 = true) : QOp P o E H (.pointer (some ⟨b,0,none⟩)) :=
 ⟨nd ho (by intro c h;cases h),fun φ hA Q hQ => by
  obtain ⟨zv,by_,e1,_⟩ := ht.h
  obtain ⟨d',i,_,h4,_,h6,_,_⟩ := tyF_parts e1
  unfold execOp;rw [ho];simp only [hA x _ hx,K.bind]
  unfold convert
  rw [K.bind,k_underlying hu.h,K.bind,k_underlying hp.h]
  simp only
  unfold Conv.unsafePointer
  rw [K.bind,k_underlying hu.h,K.bind,k_underlying hp.h]
  simp only
  rw [K.bind]
  refine k_seen hm ?_
  rw [K.bind,k_sizeOf h4,K.bind]
  unfold variablesAt
  rw [K.bind]
  show K P program _ H
  simp only [program,K]
  rw [K.bind]
  simp only [shape,K]
  refine ⟨_,⟨_,hm,rfl⟩,?_⟩
  simp only [K.pure,hl]
  simp only [Bool.or_true,if_true,or_true]
  exact hQ⟩
theorem k_bytes {w : List UInt8} {Q : ByteArray → Facts → Prop} (hq : Q (S w) H) : K P (forIn (w.flatMap cB).toArray (ByteArray.empty : ByteArray) fun c s => do
   let .int .u8 n := c | stuck "bytesToString: byte expected"
   pure (ForInStep.yield (s.push (UInt8.ofNat n.toNat)))) Q H := by
 rw [List.forIn_toArray]
 have key : ∀ (w : List UInt8) (s : ByteArray),Q (s ++ S w) H → K P (forIn (w.flatMap cB) s fun c s => do
   let .int .u8 n := c | stuck "bytesToString: byte expected"
   pure (ForInStep.yield (s.push (UInt8.ofNat n.toNat)))) Q H := by
  intro w
  induction w with
  | nil =>
   intro s hs
   have e : s ++ S [] = s := by apply bytes_ext;simp [S]
   rw [e] at hs
   exact hs
  | cons x w ih =>
   intro s hs
   rw [List.flatMap_cons]
   show K P (forIn (Value.int .u8 (x.toNat : Int) :: w.flatMap cB) s _) Q H
   rw [List.forIn_cons,K.bind]
   simp only [K.pure]
   refine ih _ ?_
   have e : (s.push (UInt8.ofNat (Int.toNat ((x.toNat : Nat) : Int)))) ++ S w = s ++ S (x :: w) := by
    apply bytes_ext
    simp [S]
   rw [e];exact hs
 refine key w _ ?_
 have e : ByteArray.empty ++ S w = S w := by apply bytes_ext;simp [S]
 rw [e];exact hq
theorem q_bytesStr {s t e : TypeId} {x : Operand} {a : Addr} {n cap : Nat} {w : List UInt8} [hs : ByI P s e] [ht : StI P t] (ho : o.op = .convert s t x) (hx : ev E x = some (.slice (some a) n cap)) (hr : Rd H (some a) (w.flatMap cB)) (hn : w.length = n) (h0 : 0 < n) : QOp P o E H (.string (S w)) :=
 ⟨nd ho (by intro c h;cases h),fun φ hA Q hQ => by
  unfold execOp;rw [ho];simp only [hA x _ hx,K.bind]
  unfold convert
  rw [K.bind,k_underlying hs.h,K.bind,k_underlying ht.h]
  simp only
  rw [K.bind,k_underlying hs.u]
  simp only
  unfold Conv.bytesToString
  simp only
  rw [K.bind]
  obtain ⟨b,off,rfl,hc⟩ : ∃ b off,a = ⟨b,off,none⟩ ∧ Cells H b off (w.flatMap cB) := by
   rcases hr with h | ⟨b,off,h,hc⟩
   ·exfalso
    have := len_cB w
    rw [h] at this
    simp at this;omega
   ·cases h;exact ⟨b,off,rfl,hc⟩
  refine k_loadCells hc (by rw [len_cB,hn]) ?_
  rw [K.bind]
  exact k_bytes hQ⟩
end
end Go.Gx
end
section
namespace Go.Gx
open Go Go.Conc Go.Proofs
variable {main : Bool}
instance : StI Tryz.prog 9 := ⟨by kernel_rfl⟩
theorem fnx156 : (Extern.findNext Tryz.f156).isNone = true := by kernel_rfl
theorem fx156 : Extern.find Tryz.f156 = some Extern.BytealgIndexByte.indexByte := by kernel_rfl
instance : ExI Tryz.prog 156 Extern.BytealgIndexByte.indexByte := ⟨_,Tryz.func156,by kernel_rfl,rfl,fnx156,fx156⟩
theorem fnx183 : (Extern.findNext Tryz.f183).isNone = true := by kernel_rfl
theorem fx183 : Extern.find Tryz.f183 = some Extern.BytealgCount.count := by kernel_rfl
instance : ExI Tryz.prog 183 Extern.BytealgCount.count := ⟨_,Tryz.func183,by kernel_rfl,rfl,fnx183,fx183⟩
theorem s128 (L : Lg Tryz.prog main) (H : Facts) {w : List UInt8} {b : UInt8} : Pure L 128 #[.string (S w),.int .u8 (b.toNat : Int)] H (.int .i64 (ixI w b)) := by
 refine Spec.enter Tryz.func128 rfl (by simp [Tryz.f128]) fun c cs hc => ?_;refine At.seq (At.region ?_);refine Aa Z Z Z Z Z O ?_;refine Ab (At.seq (At.region ?_));(iterate 2 refine Aa Z Z Z Z Z O ?_);refine Ae Z Z Z Z (q_ext (g := 156) Z Z Z fun Q hQ => k_indexByte hQ) ?_;refine Aa Z Z Z Z Z O ?_;refine Ab ?_
 exact At.ret Tryz.func128 (.inr ⟨_,rfl⟩) rfl (.tmp rfl .nil) (wk (hc _ _ (⟨by rfl,rfl⟩)))
theorem s94 (L : Lg Tryz.prog main) (H : Facts) {w : List UInt8} {b : UInt8} : Pure L 94 #[.string (S w),.int .u8 (b.toNat : Int)] H (.int .i64 (ixI w b)) := by
 refine Spec.enter Tryz.func94 rfl (by simp [Tryz.f94]) fun c cs hc => ?_;refine At.seq (At.region ?_);refine Aa Z Z Z Z Z O ?_;refine Ab (At.seq (At.region ?_));(iterate 2 refine Aa Z Z Z Z Z O ?_);refine Ai Z Z Z Z Z Z Z Z (s128 L _) ?_;refine Aa Z Z Z Z Z O ?_;refine Ab ?_
 exact At.ret Tryz.func94 (.inr ⟨_,rfl⟩) rfl (.tmp rfl .nil) (wk (hc _ _ (⟨by rfl,rfl⟩)))
theorem s158 (L : Lg Tryz.prog main) (H : Facts) {w : List UInt8} {b : UInt8} : Pure L 158 #[.string (S w),.string (S [b])] H (.int .i64 ((w.count b : Nat) : Int)) := by
 refine Spec.enter Tryz.func158 rfl (by simp [Tryz.f158]) fun c cs hc => ?_;refine At.seq (At.region ?_);refine Aa Z Z Z Z Z O ?_;refine Ab (At.seq (At.seq (At.region ?_)));refine Aa Z Z Z Z Z O ?_;refine Ae Z Z Z Z (q_lenSS Z Z Z Z) ?_;refine Ad Z Z Z Z Z fun b9 h9 => ?_;refine Ab ?_
 obtain rfl : b9 = false := h9.symm.trans (by kernel_rfl)
 refine At.cond Z ?_;refine At.skip (At.seq (At.seq (At.region ?_)));refine Aa Z Z Z Z Z O ?_;refine Ae Z Z Z Z (q_lenSS Z Z Z Z) ?_;refine Ad Z Z Z Z Z fun b15 h15 => ?_;refine Ab ?_
 obtain rfl : b15 = true := h15.symm.trans (by kernel_rfl)
 refine At.cond Z ?_;refine At.seq (At.region ?_);(iterate 2 refine Aa Z Z Z Z Z O ?_);refine Ae Z Z Z Z (q_at (j := 0) Z Z Z Z) ?_;refine Ae Z Z Z Z (q_ext (g := 183) Z Z Z fun Q hQ => k_count hQ) ?_;refine Aa Z Z Z Z Z O ?_;refine Ab ?_
 exact At.ret Tryz.func158 (.inr ⟨_,rfl⟩) rfl (.tmp rfl .nil) (wk (hc _ _ (⟨by rfl,rfl⟩)))
theorem s184 (L : Lg Tryz.prog main) (H : Facts) {w : List UInt8} {b : UInt8} : Pure L 184 #[.string (S w),.string (S [b])] H (.int .i64 (ixI w b)) := by
 refine Spec.enter Tryz.func184 rfl (by simp [Tryz.f184]) fun c cs hc => ?_;refine At.seq (At.region ?_);refine Aa Z Z Z Z Z O ?_;refine Ab (At.seq (At.region ?_));refine Aa Z Z Z Z Z O ?_;refine Ae Z Z Z Z (q_lenSS Z Z Z Z) ?_;refine Aa Z Z Z Z Z O ?_;refine Ab (At.seq ?_);refine At.block ?_;refine At.seq (At.region ?_);refine Aa Z Z Z Z Z O ?_
 refine Ad Z Z Z Z Z fun b18 h18 => ?_;refine Aa Z Z Z Z Z O ?_
 obtain rfl : b18 = false := h18.symm.trans (by kernel_rfl)
 (iterate 2 refine Aa Z Z Z Z Z O ?_);refine At.qb Z Z Z Z (q_strEqS Z Z Z) fun b22 h22 => ?_;(iterate 2 refine Aa Z Z Z Z Z O ?_);refine Ab ?_
 cases b22
 ·refine At.cond Z ?_
  refine At.seq (At.region ?_);refine Aa Z Z Z Z Z O ?_;refine Ad Z Z Z Z Z fun b26 h26 => ?_;refine Aa Z Z Z Z Z O ?_;refine Ab ?_
  obtain rfl : b26 = true := h26.symm.trans (by kernel_rfl)
  refine At.cond Z ?_;refine At.seq (At.region ?_);(iterate 2 refine Aa Z Z Z Z Z O ?_);refine Ae Z Z Z Z (q_at (j := 0) Z Z Z Z) ?_;refine Ai Z Z Z Z Z Z Z Z (s128 L _) ?_;refine Aa Z Z Z Z Z O ?_;refine Ab ?_
  exact At.ret Tryz.func184 (.inr ⟨_,rfl⟩) rfl (.tmp rfl .nil) (wk (hc _ _ (⟨by rfl,rfl⟩)))
 ·have e : [b] = w := by simpa using h22
  subst e
  have e0 : ixI [b] b = 0 := by simp [ixI,ixN]
  rw [e0] at hc
  refine At.cond Z ?_;refine At.seq (At.region ?_);refine Aa Z Z Z Z Z O ?_;refine Ab ?_
  exact At.ret Tryz.func184 (.inr ⟨_,rfl⟩) rfl (.tmp rfl .nil) (wk (hc _ _ (⟨by rfl,rfl⟩)))
theorem s159 (L : Lg Tryz.prog main) (H : Facts) {w : List UInt8} {b : UInt8} : Pure L 159 #[.string (S w),.string (S [b])] H (.int .i64 (ixI w b)) := by
 refine Spec.enter Tryz.func159 rfl (by simp [Tryz.f159]) fun c cs hc => ?_;refine At.seq (At.region ?_);refine Aa Z Z Z Z Z O ?_;refine Ab (At.seq (At.region ?_));(iterate 2 refine Aa Z Z Z Z Z O ?_);refine Ai Z Z Z Z Z Z Z Z (s184 L _) ?_;refine Aa Z Z Z Z Z O ?_;refine Ab ?_
 exact At.ret Tryz.func159 (.inr ⟨_,rfl⟩) rfl (.tmp rfl .nil) (wk (hc _ _ (⟨by rfl,rfl⟩)))
end Go.Gx
end
section
namespace Go.Gx
open Go Go.Conc Go.Proofs
variable {main : Bool}
theorem last_drop {w : List UInt8} {b : UInt8} (h : 0 < w.length) : (w.drop (w.length - 1) == [b]) = (w.getLast? == some b) := by
 rcases List.eq_nil_or_concat w with rfl | ⟨u,x,rfl⟩
 ·simp at h
 ·have : (u.concat x).drop ((u.concat x).length - 1) = [x] := by simp
  rw [this]
  simp
theorem s134 (L : Lg Tryz.prog main) (H : Facts) {w : List UInt8} {b : UInt8} (hl : w.length ≤ 1000000) : Pure L 134 #[.string (S w),.string (S [b])] H (.bool (w.getLast? == some b)) := by
 refine Spec.enter Tryz.func134 rfl (by simp [Tryz.f134]) fun c cs hc => ?_
 have h1 : [b].length = 1 := rfl
 refine At.seq (At.region ?_);refine Aa Z Z Z Z Z O ?_;refine Ab (At.seq (At.region ?_));refine Aa Z Z Z Z Z O ?_;refine Ae Z Z Z Z (q_lenSS Z Z Z Z) ?_;refine Aa Z Z Z Z Z O ?_;refine Ae Z Z Z Z (q_lenSS Z Z Z Z) ?_;refine Ad Z Z Z Z Z fun b9 h9 => ?_;refine Aa Z Z Z Z Z O ?_
 cases b9
 ·have e : w = [] := by
   have : w.length = 0 := by simp at h9;omega
   exact List.length_eq_zero_iff.1 this
  subst e
  (iterate 9 refine Ar Z Z Z Z ?_);(iterate 2 refine Aa Z Z Z Z Z O ?_);refine Ab ?_
  exact At.ret Tryz.func134 (.inr ⟨_,rfl⟩) rfl (.tmp rfl .nil) (wk (hc _ _ (⟨by rfl,rfl⟩)))
 ·have hp : 0 < w.length := by simp at h9;omega
  (iterate 2 refine Aa Z Z Z Z Z O ?_);refine Ae Z Z Z Z (q_lenSS Z Z Z Z) ?_;refine Aa Z Z Z Z Z O ?_;refine Ae Z Z Z Z (q_lenSS Z Z Z Z) ?_;refine Aa Z Z Z Z Z (by omega) ?_;refine Ae Z Z Z Z (q_cutLN (l := (w.length - 1)) Z Z Z (by omega) (by omega)) ?_;refine Aa Z Z Z Z Z O ?_;refine At.qb Z Z Z Z (q_strEqS Z Z Z) fun b19 h19 => ?_
  (iterate 2 refine Aa Z Z Z Z Z O ?_);refine Ab ?_
  rw [last_drop hp] at h19
  rw [h19] at hc
  exact At.ret Tryz.func134 (.inr ⟨_,rfl⟩) rfl (.tmp rfl .nil) (wk (hc _ _ (⟨by rfl,rfl⟩)))
theorem s100 (L : Lg Tryz.prog main) (H : Facts) {w : List UInt8} {b : UInt8} (hl : w.length ≤ 1000000) : Pure L 100 #[.string (S w),.string (S [b])] H (.string (S (if w.getLast? = some b then w.dropLast else w))) := by
 refine Spec.enter Tryz.func100 rfl (by simp [Tryz.f100]) fun c cs hc => ?_
 have h1 : [b].length = 1 := rfl
 refine At.seq (At.region ?_);refine Aa Z Z Z Z Z O ?_;refine Ab (At.seq (At.seq (At.region ?_)));(iterate 2 refine Aa Z Z Z Z Z O ?_);refine Bc Z Z Z Z Z Z Z Z (s134 L _ bs) fun b7 h7 => ?_;refine Ab ?_
 cases b7
 ·have e : ¬ w.getLast? = some b := by simpa using h7
  rw [if_neg e] at hc
  refine At.cond Z ?_;refine At.skip (At.seq (At.region ?_));(iterate 2 refine Aa Z Z Z Z Z O ?_);refine Ab ?_
  exact At.ret Tryz.func100 (.inr ⟨_,rfl⟩) rfl (.tmp rfl .nil) (wk (hc _ _ (⟨by rfl,rfl⟩)))
 ·have e : w.getLast? = some b := by simpa using h7
  have hp : 0 < w.length := by cases w <;> simp at e ⊢
  rw [if_pos e,List.dropLast_eq_take] at hc
  refine At.cond Z ?_;refine At.seq (At.region ?_);(iterate 2 refine Aa Z Z Z Z Z O ?_);refine Ae Z Z Z Z (q_lenSS Z Z Z Z) ?_;refine Aa Z Z Z Z Z O ?_;refine Ae Z Z Z Z (q_lenSS Z Z Z Z) ?_;refine Aa Z Z Z Z Z (by omega) ?_;refine Ae Z Z Z Z (q_cutHN (h := (w.length - 1)) Z Z Z (by omega) (by omega)) ?_;refine Aa Z Z Z Z Z O ?_;refine Ab ?_
  exact At.ret Tryz.func100 (.inr ⟨_,rfl⟩) rfl (.tmp rfl .nil) (wk (hc _ _ (⟨by rfl,rfl⟩)))
theorem s185 (L : Lg Tryz.prog main) (H : Facts) {w : List UInt8} {b : UInt8} : Pure L 185 #[.string (S w),.string (S [b])] H (.bool (w.head? == some b)) := by
 refine Spec.enter Tryz.func185 rfl (by simp [Tryz.f185]) fun c cs hc => ?_
 have h1 : [b].length = 1 := rfl
 refine At.seq (At.region ?_);refine Aa Z Z Z Z Z O ?_;refine Ab (At.seq (At.region ?_));refine Aa Z Z Z Z Z O ?_;refine Ae Z Z Z Z (q_lenSS Z Z Z Z) ?_;refine Aa Z Z Z Z Z O ?_;refine Ae Z Z Z Z (q_lenSS Z Z Z Z) ?_;refine Ad Z Z Z Z Z fun b9 h9 => ?_;refine Aa Z Z Z Z Z O ?_
 cases b9
 ·have e : w = [] := by
   have : w.length = 0 := by simp at h9;omega
   exact List.length_eq_zero_iff.1 this
  subst e
  (iterate 6 refine Ar Z Z Z Z ?_);(iterate 2 refine Aa Z Z Z Z Z O ?_);refine Ab ?_
  exact At.ret Tryz.func185 (.inr ⟨_,rfl⟩) rfl (.tmp rfl .nil) (wk (hc _ _ (⟨by rfl,rfl⟩)))
 ·have hp : 0 < w.length := by simp at h9;omega
  (iterate 2 refine Aa Z Z Z Z Z O ?_);refine Ae Z Z Z Z (q_lenSS Z Z Z Z) ?_;refine Ae Z Z Z Z (q_cutH (h := ([b].length)) Z Z Z (by assumption)) ?_;refine Aa Z Z Z Z Z O ?_;refine At.qb Z Z Z Z (q_strEqS Z Z Z) fun b16 h16 => ?_;(iterate 2 refine Aa Z Z Z Z Z O ?_);refine Ab ?_
  obtain ⟨x,u,rfl⟩ := List.exists_cons_of_length_pos hp
  rw [show ((x :: u).head? == some b) = b16 from by rw [← h16];simp] at hc
  exact At.ret Tryz.func185 (.inr ⟨_,rfl⟩) rfl (.tmp rfl .nil) (wk (hc _ _ (⟨by rfl,rfl⟩)))
theorem s160 (L : Lg Tryz.prog main) (H : Facts) {w : List UInt8} {b : UInt8} : Pure L 160 #[.string (S w),.string (S [b])] H (.tuple #[.string (S (if w.head? = some b then w.drop 1 else w)),.bool (w.head? == some b)]) := by
 refine Spec.enter Tryz.func160 rfl (by simp [Tryz.f160]) fun c cs hc => ?_
 have h1 : [b].length = 1 := rfl
 refine At.seq (At.region ?_);(iterate 2 refine Aa Z Z Z Z Z O ?_);refine Ab (At.seq (At.seq (At.region ?_)));(iterate 2 refine Aa Z Z Z Z Z O ?_);refine Bc Z Z Z Z Z Z Z Z (s185 L _) fun b8 h8 => ?_;refine Aa Z Z Z Z Z O ?_;refine Ab ?_
 cases b8
 ·have e : ¬ w.head? = some b := by simpa using h8
  rw [if_neg e,h8] at hc
  refine At.cond Z ?_;refine At.seq (At.region ?_);(iterate 3 refine Aa Z Z Z Z Z O ?_);refine Ab ?_
  exact At.ret Tryz.func160 (.inr ⟨_,rfl⟩) rfl (.tmp rfl (.tmp rfl .nil)) (wk (hc _ _ (⟨by rfl,rfl⟩)))
 ·have e : w.head? = some b := by simpa using h8
  have hp : 0 < w.length := by cases w <;> simp at e ⊢
  rw [if_pos e,h8] at hc
  refine At.cond Z ?_;refine At.skip (At.seq (At.region ?_));(iterate 2 refine Aa Z Z Z Z Z O ?_);refine Ae Z Z Z Z (q_lenSS Z Z Z Z) ?_;refine Ae Z Z Z Z (q_cutL (l := ([b].length)) Z Z Z (by assumption)) ?_;(iterate 2 refine Aa Z Z Z Z Z O ?_);refine Ab ?_
  exact At.ret Tryz.func160 (.inr ⟨_,rfl⟩) rfl (.tmp rfl (.tmp rfl .nil)) (wk (hc _ _ (⟨by rfl,rfl⟩)))
theorem s130 (L : Lg Tryz.prog main) (H : Facts) {w : List UInt8} {b : UInt8} : Pure L 130 #[.string (S w),.string (S [b])] H (.tuple #[.string (S (if w.head? = some b then w.drop 1 else w)),.bool (w.head? == some b)]) := by
 refine Spec.enter Tryz.func130 rfl (by simp [Tryz.f130]) fun c cs hc => ?_;refine At.seq (At.region ?_);(iterate 2 refine Aa Z Z Z Z Z O ?_);refine Ab (At.seq (At.region ?_));(iterate 2 refine Aa Z Z Z Z Z O ?_);refine Ai Z Z Z Z Z Z Z Z (s160 L _) ?_;(iterate 4 refine Aa Z Z Z Z Z O ?_);refine Ab ?_
 exact At.ret Tryz.func130 (.inr ⟨_,rfl⟩) rfl (.tmp rfl (.tmp rfl .nil)) (wk (hc _ _ (⟨by rfl,rfl⟩)))
theorem s45 (L : Lg Tryz.prog main) (H : Facts) {w : List UInt8} {b : UInt8} (hl : w.length ≤ 1000000) : Pure L 45 #[.string (S w),.string (S [b])] H (.string (S (if w.getLast? = some b then w.dropLast else w))) := by
 refine Spec.enter Tryz.func45 rfl (by simp [Tryz.f45]) fun c cs hc => ?_;refine At.seq (At.region ?_);refine Aa Z Z Z Z Z O ?_;refine Ab (At.seq (At.region ?_));(iterate 2 refine Aa Z Z Z Z Z O ?_);refine Ai Z Z Z Z Z Z Z Z (s100 L _ bs) ?_;refine Aa Z Z Z Z Z O ?_;refine Ab ?_
 exact At.ret Tryz.func45 (.inr ⟨_,rfl⟩) rfl (.tmp rfl .nil) (wk (hc _ _ (⟨by rfl,rfl⟩)))
end Go.Gx
end
section
namespace Go.Gx
open Go Go.Conc Go.Proofs
variable {main : Bool}
theorem putC_some : ∀ {l vs : List Value},vs.length ≤ l.length → putC l vs = some (vs ++ l.drop vs.length)
 | l,[],_ => by cases l <;> rfl
 | [],v :: vs,h => by simp at h
 | a :: l,v :: vs,h => by
  unfold putC
  rw [putC_some (l := l) (vs := vs) (by simpa using h)]
  simp
theorem setC_some : ∀ {l : List Value} {off : Nat} {vs : List Value},off + vs.length ≤ l.length → setC l off vs = some (splice l off vs)
 | l,0,vs,h => by
  unfold setC
  rw [putC_some (by omega)]
  simp [splice]
 | [],k + 1,vs,h => by simp at h
 | a :: l,k + 1,vs,h => by
  unfold setC
  rw [setC_some (l := l) (off := k) (vs := vs) (by simp at h;omega)]
  simp only [splice,List.take_succ_cons,List.cons_append,Option.some.injEq,List.cons.injEq,true_and]
  rw [show k + 1 + vs.length = (k + vs.length) + 1 from by omega,List.drop_succ_cons]
theorem setC_all {l vs : List Value} (h : vs.length = l.length) : setC l 0 vs = some vs := by
 rw [setC_some (by omega),splice,List.take_zero,Nat.zero_add,List.drop_eq_nil_of_le (by omega)]
 simp
def asC (ch : List UInt8) : List Value := (List.range 256).map fun i => .bool (ch.any fun c => c.toNat == i)
theorem asC_len (ch : List UInt8) : (asC ch).length = 256 := by simp [asC]
theorem asC_get (ch : List UInt8) (c : UInt8) : (asC ch)[c.toNat]? = some (.bool (decide (c ∈ ch))) := by
 have hc : c.toNat < 256 := c.toNat_lt
 unfold asC
 rw [List.getElem?_map,List.getElem?_range hc]
 simp only [Option.map_some,Option.some.injEq,Value.bool.injEq]
 rw [Bool.eq_iff_iff]
 simp only [List.any_eq_true,beq_iff_eq,decide_eq_true_eq]
 constructor
 ·rintro ⟨x,hx,e⟩
  rwa [← UInt8.toNat_inj.1 e]
 ·exact fun h => ⟨c,h,rfl⟩
theorem asC_push (ch : List UInt8) (c : UInt8) : setC (asC ch) c.toNat [.bool true] = some (asC (ch ++ [c])) := by
 have hc : c.toNat < 256 := c.toNat_lt
 rw [setC_some (by rw [asC_len];simp;omega)]
 congr 1
 refine List.ext_getElem? fun i => ?_
 by_cases hi : i < 256
 ·have e1 : (asC (ch ++ [c]))[i]? = some (.bool ((ch ++ [c]).any fun x => x.toNat == i)) := by
   unfold asC;rw [List.getElem?_map,List.getElem?_range hi];rfl
  have e2 : (asC ch)[i]? = some (.bool (ch.any fun x => x.toNat == i)) := by
   unfold asC;rw [List.getElem?_map,List.getElem?_range hi];rfl
  rw [e1]
  unfold splice
  rw [List.append_assoc]
  rcases Nat.lt_trichotomy i c.toNat with h | h | h
  ·rw [List.getElem?_append_left (by rw [List.length_take,asC_len];omega),List.getElem?_take_of_lt h,e2]
   have : (c.toNat == i) = false := by simp;omega
   simp [this]
  ·rw [List.getElem?_append_right (by rw [List.length_take,asC_len];omega),List.length_take,asC_len]
   subst h
   simp [Nat.min_eq_left (Nat.le_of_lt hc)]
  ·rw [List.getElem?_append_right (by rw [List.length_take,asC_len];omega),List.length_take,asC_len,Nat.min_eq_left (by omega)]
   rw [List.getElem?_append_right (by simp;omega),List.getElem?_drop]
   simp only [List.length_singleton]
   rw [show c.toNat + 1 + (i - c.toNat - 1) = i from by omega,e2]
   have : (c.toNat == i) = false := by simp;omega
   simp [this]
 ·rw [List.getElem?_eq_none (l := asC (ch ++ [c])) (by rw [asC_len];omega),List.getElem?_eq_none (by unfold splice;simp [asC_len];omega)]
theorem asC_one (ch : List UInt8) : ∀ v ∈ asC ch,v.oneCell' = true := by
 intro v hv
 simp only [asC,List.mem_map] at hv
 obtain ⟨i,_,rfl⟩ := hv
 rfl
theorem tf240 : tyF Tryz.prog 240 = some (true,256,some (.agg (List.toArray (asC []))),256) := by kernel_rfl
instance : TyI Tryz.prog 240 true 256 (asC []) := ⟨_,_,tf240,rfl⟩
instance : ArI Tryz.prog 240 256 4 false 1 := ⟨by kernel_rfl⟩
theorem s186 (L : Lg Tryz.prog main) (H : Facts) {b : Nat} {ch : List UInt8} {x : UInt8} (hcl : Cells H b 0 (asC ch)) : Pure L 186 #[.pointer (some ⟨b,0,none⟩),.int .u8 (x.toNat : Int)] H (.bool (decide (x ∈ ch))) := by
 refine Spec.enter Tryz.func186 rfl (by simp [Tryz.f186]) fun c cs hc => ?_
 have hx : x.toNat < 256 := x.toNat_lt
 have hv : Cells H b (0 + x.toNat * 1) [.bool (decide (x ∈ ch))] := by
  intro i v hv
  cases i with
  | zero =>
   cases hv
   have := hcl x.toNat _ (asC_get ch x)
   simpa using this
  | succ i => simp at hv
 refine At.seq (At.region ?_);refine Aa Z Z Z Z Z O ?_;refine Ab (At.seq (At.region ?_));(iterate 2 refine Aa Z Z Z Z Z O ?_);refine Ae Z Z Z Z (q_nilP Z Z) ?_;refine Ae Z Z Z Z (q_iaA Z Z Z (by assumption)) ?_;refine Au Z Z Z Z Z Z hv.a Z Z ?_;refine Aa Z Z Z Z Z O ?_;refine Ab ?_
 exact At.ret Tryz.func186 (.inr ⟨_,rfl⟩) rfl (.tmp rfl .nil) (wk (hc _ _ (⟨by rfl,rfl⟩)))
end Go.Gx
end
section
namespace Go.Gx
open Go Go.Conc Go.Proofs
variable {main : Bool}
def trimR (ch : List UInt8) : List UInt8 → List UInt8 := fun w => ((w.reverse).dropWhile (· ∈ ch)).reverse
def trimL (ch : List UInt8) : List UInt8 → List UInt8 := fun w => w.dropWhile (· ∈ ch)
theorem s164 (L : Lg Tryz.prog main) (H : Facts) {b : Nat} {ch w : List UInt8} (hl : w.length ≤ 1000000) (hcl : Cells H b 0 (asC ch)) : Pure L 164 #[.string (S w),.pointer (some ⟨b,0,none⟩)] H (.string (S (trimL ch w))) := by
 refine Spec.enter Tryz.func164 rfl (by simp [Tryz.f164]) fun c cs hc => ?_;refine At.seq (At.region ?_);refine Aa Z Z Z Z Z O ?_;refine Ab (At.seq ?_);refine At.block ?_
 refine Az (X := { u : List UInt8 // u.length ≤ 1000000 ∧ trimL ch u = trimL ch w }) [1,4] (fun x => [(0,.string (S x.1))]) (fun _ => H) (fun x => x.1.length) (⟨w,hl,rfl⟩) rfl ?_ (by repeat (first | exact trivial | refine ⟨rfl,?_⟩)) sb
 rintro ⟨u,hu,e⟩ again
 simp only at again ⊢
 refine At.seq (At.seq (At.region ?_));refine Aa Z Z Z Z Z O ?_;refine Ae Z Z Z Z (q_lenSS Z Z Z Z) ?_;refine Ad Z Z Z Z Z fun b7 h7 => ?_;refine Ab ?_
 cases b7
 ·have e0 : u = [] := by simpa using h7
  subst e0
  rw [← e] at hc
  refine At.cond Z ?_;refine At.exit rfl ?_;refine At.seq (At.region ?_);(iterate 2 refine Aa Z Z Z Z Z O ?_);refine Ab ?_
  exact At.ret Tryz.func164 (.inr ⟨_,rfl⟩) rfl (.tmp rfl .nil) (wk (hc _ _ (⟨by rfl,rfl⟩)))
 ·have hp : 0 < u.length := by simpa [List.length_pos_iff] using h7
  obtain ⟨x,v,rfl⟩ := List.exists_cons_of_length_pos hp
  have h1 : (x :: v).length = v.length + 1 := rfl
  refine At.cond Z ?_;refine At.skip ?_;refine At.block ?_;refine At.seq (At.seq (At.region ?_));(iterate 2 refine Aa Z Z Z Z Z O ?_);refine Ae Z Z Z Z (q_at (j := 0) Z Z Z Z) ?_;refine Bc Z Z Z Z Z Z Z Z (s186 L _ bs) fun b11 h11 => ?_;refine Aa Z Z Z Z Z O ?_;refine Ab ?_
  cases b11
  ·have hx : x ∉ ch := by simpa using h11
   have e1 : trimL ch (x :: v) = x :: v := by simp [trimL,List.dropWhile_cons,hx]
   rw [← e,e1] at hc
   refine At.cond Z ?_;refine At.exit rfl ?_;refine At.seq (At.region ?_);(iterate 2 refine Aa Z Z Z Z Z O ?_);refine Ab ?_
   exact At.ret Tryz.func164 (.inr ⟨_,rfl⟩) rfl (.tmp rfl .nil) (wk (hc _ _ (⟨by rfl,rfl⟩)))
  ·have hx : x ∈ ch := by simpa using h11
   have e1 : trimL ch (x :: v) = trimL ch v := by simp [trimL,List.dropWhile_cons,hx]
   refine At.cond Z ?_;refine At.skip (At.region ?_);refine Aa Z Z Z Z Z O ?_;refine Ae Z Z Z Z (q_cutL (l := 1) Z Z Z (by assumption)) ?_;refine Aa Z Z Z Z Z O ?_;refine Ab ?_;refine At.inBlock ?_
   refine Aq ((again ⟨v,by omega,e1.symm.trans e⟩ (by simp)))
theorem s165 (L : Lg Tryz.prog main) (H : Facts) {b : Nat} {ch w : List UInt8} (hl : w.length ≤ 1000000) (hcl : Cells H b 0 (asC ch)) : Pure L 165 #[.string (S w),.pointer (some ⟨b,0,none⟩)] H (.string (S (trimR ch w))) := by
 refine Spec.enter Tryz.func165 rfl (by simp [Tryz.f165]) fun c cs hc => ?_;refine At.seq (At.region ?_);refine Aa Z Z Z Z Z O ?_;refine Ab (At.seq ?_);refine At.block ?_
 refine Az (X := { u : List UInt8 // u.length ≤ 1000000 ∧ trimR ch u = trimR ch w }) [1,4] (fun x => [(0,.string (S x.1))]) (fun _ => H) (fun x => x.1.length) (⟨w,hl,rfl⟩) rfl ?_ (by repeat (first | exact trivial | refine ⟨rfl,?_⟩)) sb
 rintro ⟨u,hu,e⟩ again
 simp only at again ⊢
 refine At.seq (At.seq (At.region ?_));refine Aa Z Z Z Z Z O ?_;refine Ae Z Z Z Z (q_lenSS Z Z Z Z) ?_;refine Ad Z Z Z Z Z fun b7 h7 => ?_;refine Ab ?_
 cases b7
 ·have e0 : u = [] := by simpa using h7
  subst e0
  rw [← e] at hc
  refine At.cond Z ?_;refine At.exit rfl ?_;refine At.seq (At.region ?_);(iterate 2 refine Aa Z Z Z Z Z O ?_);refine Ab ?_
  exact At.ret Tryz.func165 (.inr ⟨_,rfl⟩) rfl (.tmp rfl .nil) (wk (hc _ _ (⟨by rfl,rfl⟩)))
 ·have hp : 0 < u.length := by simpa [List.length_pos_iff] using h7
  rcases List.eq_nil_or_concat u with rfl | ⟨v,x,rfl⟩
  ·simp at hp
  rw [List.concat_eq_append] at *
  have h1 : (v ++ [x]).length = v.length + 1 := by simp
  have hx0 : (v ++ [x])[v.length]? = some x := by simp
  refine At.cond Z ?_;refine At.skip ?_;refine At.block ?_;refine At.seq (At.seq (At.region ?_));(iterate 3 refine Aa Z Z Z Z Z O ?_);refine Ae Z Z Z Z (q_lenSS Z Z Z Z) ?_;refine Aa Z Z Z Z Z (by omega) ?_;refine Ae Z Z Z Z (q_atN (j := v.length) Z Z Z (by omega) hx0) ?_;refine Bc Z Z Z Z Z Z Z Z (s186 L _ bs) fun b14 h14 => ?_;refine Aa Z Z Z Z Z O ?_;refine Ab ?_
  cases b14
  ·have hx : x ∉ ch := by simpa using h14
   have e1 : trimR ch (v ++ [x]) = v ++ [x] := by simp [trimR,List.dropWhile_cons,hx]
   rw [← e,e1] at hc
   refine At.cond Z ?_;refine At.exit rfl ?_;refine At.seq (At.region ?_);(iterate 2 refine Aa Z Z Z Z Z O ?_);refine Ab ?_
   exact At.ret Tryz.func165 (.inr ⟨_,rfl⟩) rfl (.tmp rfl .nil) (wk (hc _ _ (⟨by rfl,rfl⟩)))
  ·have hx : x ∈ ch := by simpa using h14
   have e1 : trimR ch (v ++ [x]) = trimR ch v := by simp [trimR,List.dropWhile_cons,hx]
   refine At.cond Z ?_;refine At.skip (At.region ?_);(iterate 2 refine Aa Z Z Z Z Z O ?_);refine Ae Z Z Z Z (q_lenSS Z Z Z Z) ?_;refine Aa Z Z Z Z Z (by omega) ?_;refine Ae Z Z Z Z (q_cutHN (h := ((v ++ [x]).length - 1)) Z Z Z (by omega) (by omega)) ?_;refine Aa Z Z Z Z Z O ?_;refine Ab ?_;refine At.inBlock ?_
   rw [show (v ++ [x]).take ((v ++ [x]).length - 1) = v by simp]
   refine Aq ((again ⟨v,by omega,e1.symm.trans e⟩ (by simp)))
theorem cells_all {H : Facts} {b : Nat} {l : List Value} {T : TypeId} {fr : Nat × Nat} (h : .own b (.cells (List.toArray l) T fr) ∈ H) : Cells H b 0 l := cells_own h (by simp)
theorem one_asC (ch : List UInt8) : (asC ch).all (·.oneCell') = true := List.all_eq_true.2 fun v hv => asC_one ch v hv
theorem s163 (L : Lg Tryz.prog main) (H : Facts) {ch : List UInt8} (hl : ch.length ≤ 1000) (h7 : ∀ x ∈ ch,x.toNat < 128) : Pure L 163 #[.string (S ch)] H (.tuple #[.agg (List.toArray (asC ch)),.bool true]) := by
 refine Spec.enter Tryz.func163 rfl (by simp [Tryz.f163]) fun c cs hc => ?_;refine At.seq (At.region ?_);refine Al Z Z Z Z Z fun r2 => ?_;refine Aa Z Z Z Z Z O ?_;refine Ab (At.seq (At.seq (At.region ?_)));refine Aa Z Z Z Z Z O ?_;refine Ab ?_;refine At.block ?_
 generalize hl0 : asC [] = l0
 refine Az (X := { x : Nat × List Value // x.1 ≤ ch.length ∧ x.2 = asC (ch.take x.1) }) [0,2] (fun x => [(4,.int .i64 (x.1.1 : Int))]) (fun x => .own r2 (.cells (List.toArray x.1.2) 240 (0,0)) :: H) (fun x => ch.length - x.1.1) (⟨(0,l0),Nat.zero_le _,hl0.symm⟩) rfl ?_ (by repeat (first | exact trivial | refine ⟨rfl,?_⟩)) sb
 rintro ⟨⟨j,l⟩,hj,hlj⟩ again
 simp only at again hj hlj ⊢
 refine At.seq (At.seq (At.region ?_));(iterate 2 refine Aa Z Z Z Z Z O ?_);refine Ae Z Z Z Z (q_lenSS Z Z Z Z) ?_;refine Ad Z Z Z Z Z fun b9 h9 => ?_;refine Ab ?_
 cases b9
 ·have e0 : j = ch.length := by simp at h9;omega
  subst e0
  rw [List.take_length] at hlj
  refine At.cond Z ?_;refine At.exit rfl ?_;refine At.seq (At.region ?_)
  have hll : l.length = 256 := by rw [hlj,asC_len]
  have hcc : Cells (.own r2 (.cells (List.toArray l) 240 (0,0)) :: H) r2 0 l := cells_all (List.mem_cons_self ..)
  refine Au Z Z Z Z Z Z hcc hll (show mkV true l = some (.agg (List.toArray l)) from rfl) ?_;refine Ag 0 Z Z Z Z Z Z Z (by rw [hll];rfl) (by rw [hlj];exact one_asC _) rfl (setC_all rfl) rfl ?_;refine Aa Z Z Z Z Z O ?_;refine Ab ?_
  exact At.ret Tryz.func163 (.inr ⟨_,rfl⟩) rfl (.cellS rfl tf240 (cells_all (List.mem_cons_self ..)) hll (.tmp rfl .nil)) (wk (hc _ _ ⟨by rw [hlj];rfl,rfl⟩))
 ·have hlt : j < ch.length := by simp at h9;omega
  have hx0 : ch[j]? = some ch[j] := List.getElem?_eq_getElem hlt
  have h7j := h7 _ (List.getElem_mem hlt)
  refine At.cond Z ?_;refine At.skip (At.seq ?_);refine At.block ?_;refine At.seq (At.region ?_);(iterate 2 refine Aa Z Z Z Z Z O ?_);refine Ae Z Z Z Z (q_at (j := (j)) Z Z Z (by assumption)) ?_;refine Aa Z Z Z Z Z O ?_;refine Ab (At.seq (At.seq (At.region ?_)));refine Aa Z Z Z Z Z O ?_;refine Ad Z Z Z Z Z fun b16 h16 => ?_;refine Ab ?_
  cases b16
  ·have hs : setC l (0 + ch[j].toNat * 1) [.bool true] = some (asC (ch.take (j + 1))) := by
    rw [hlj,Nat.zero_add,Nat.mul_one,asC_push,List.take_succ_eq_append_getElem hlt]
   have hk : ch[j].toNat < 256 := by omega
   refine At.cond Z ?_;refine At.skip (At.region ?_);refine Aa Z Z Z Z Z O ?_;refine Ae Z Z Z Z (q_iaA Z Z Z (by assumption)) ?_;refine Ag 0 Z Z Z Z Z Z Z Z Z Z hs rfl ?_;refine Ab ?_;refine At.inBlock ?_;refine At.region ?_;refine Aa Z Z Z Z Z O ?_;refine Aa Z Z Z Z Z (by omega) ?_;refine Aa Z Z Z Z Z O ?_;refine Ab ?_
   refine Aq ((again ⟨(j + 1,asC (ch.take (j + 1))),hlt,rfl⟩ (by simp;omega)))
  ·exfalso;simp at h16;omega
end Go.Gx
end
section
namespace Go.Gx
open Go Go.Conc Go.Proofs
variable {main : Bool}
theorem trimR_len (ch w : List UInt8) : (trimR ch w).length ≤ w.length := by
 have h := (List.dropWhile_sublist (p := (· ∈ ch)) (l := w.reverse)).length_le
 simpa [trimR] using h
theorem s131 (L : Lg Tryz.prog main) (H : Facts) {ch w : List UInt8} (hl : w.length ≤ 1000000) (h1 : 1 < ch.length) (hl2 : ch.length ≤ 1000) (h7 : ∀ x ∈ ch,x.toNat < 128) : Pure L 131 #[.string (S w),.string (S ch)] H (.string (S (trimL ch (trimR ch w)))) := by
 refine Spec.enter Tryz.func131 rfl (by simp [Tryz.f131]) fun c cs hc => ?_
 have hr := trimR_len ch w
 refine At.seq (At.region ?_);refine Aa Z Z Z Z Z O ?_;refine Ab (At.seq (At.seq (At.region ?_)));refine Aa Z Z Z Z Z O ?_;refine At.qb Z Z Z Z (q_strEqS Z Z Z) fun b8 h8 => ?_;refine Aa Z Z Z Z Z O ?_
 cases b8
 ·have hne : (ch == []) = false := by cases ch <;> simp at h1 ⊢
  refine Aa Z Z Z Z Z O ?_;refine At.qb Z Z Z Z (q_strEqS Z Z Z) fun b11 h11 => ?_;refine Aa Z Z Z Z Z O ?_;refine Ab ?_
  cases b11
  ·refine At.cond Z ?_
   refine At.skip (At.seq (At.seq (At.region ?_)));refine Aa Z Z Z Z Z O ?_;refine Ae Z Z Z Z (q_lenSS Z Z Z Z) ?_;refine Ad Z Z Z Z Z fun b16 h16 => ?_;refine Aa Z Z Z Z Z O ?_
   cases b16
   ·have stop163 := trivial
    (iterate 3 refine Ar Z Z Z Z ?_);refine Aa Z Z Z Z Z O ?_;refine Ab ?_;refine At.cond Z ?_;refine At.skip (At.seq (At.seq (At.region ?_)));refine Aa Z Z Z Z Z O ?_
    clear stop163
    refine Ai Z Z Z Z Z Z Z Z (s163 L _ hl2 h7) ?_
    generalize hA : asC ch = A
    have hA1 : A.length = 256 := by rw [← hA,asC_len]
    have hA2 : A.all (·.oneCell') = true := by rw [← hA];exact one_asC _
    (iterate 3 refine Aa Z Z Z Z Z O ?_);refine Al Z Z Z Z Z fun r5 => ?_
    generalize hl0 : asC [] = l0
    have hl1 : l0.length = 256 := by rw [← hl0,asC_len]
    refine Ag 0 Z Z Z Z Z Z Z (by rw [hA1];rfl) hA2 rfl (setC_all (by rw [hA1,hl1])) rfl ?_
    subst hA
    refine Aa Z Z Z Z Z O ?_;refine Ab (At.seq (At.region ?_));refine Aa Z Z Z Z Z O ?_;refine Ab ?_;refine At.cond Z ?_;refine At.seq (At.region ?_);refine Aa Z Z Z Z Z O ?_;refine Ai Z Z Z Z Z Z Z Z (s165 L _ hl (cells_all (List.mem_cons_self ..))) ?_;refine Ai Z Z Z Z Z Z Z Z (s164 L _ (by omega) (cells_all (List.mem_cons_self ..))) ?_;refine Aa Z Z Z Z Z O ?_
    refine Ab ?_
    exact At.ret Tryz.func131 (.inr ⟨_,rfl⟩) rfl (.tmp rfl .nil) (wk (hc _ _ (⟨by rfl,rfl⟩)))
   ·exfalso
    simp at h16;omega
  ·exfalso
   rw [show (ch == ([] : List UInt8)) = false from hne] at h11;cases h11
 ·have e : w = [] := by simpa using h8
  subst e
  (iterate 2 refine Ar Z Z Z Z ?_);refine Aa Z Z Z Z Z O ?_;refine Ab ?_;refine At.cond Z ?_;refine At.seq (At.region ?_);(iterate 2 refine Aa Z Z Z Z Z O ?_);refine Ab ?_
  exact At.ret Tryz.func131 (.inr ⟨_,rfl⟩) rfl (.tmp rfl .nil) (wk (hc _ _ (⟨by rfl,rfl⟩)))
end Go.Gx
end
section
namespace Go.Gx
open Go Go.Conc Go.Proofs
variable {main : Bool}
def dv (n : Int) (d : UInt8) : Int := n * 10 + ((d.toNat : Int) - 48)
def dval (ds : List UInt8) : Int := ds.foldl dv 0
def isDig (d : UInt8) : Prop := 48 ≤ d.toNat ∧ d.toNat ≤ 57
theorem dval_bound : ∀ (ds : List UInt8) (n : Int) (k : Nat),(∀ d ∈ ds,isDig d) → 0 ≤ n → n < 10 ^ k → 0 ≤ ds.foldl dv n ∧ ds.foldl dv n < 10 ^ (k + ds.length)
 | [],n,k,_,h0,h1 => by simpa using ⟨h0,h1⟩
 | d :: ds,n,k,hd,h0,h1 => by
  have hdd := hd d (List.mem_cons_self ..)
  unfold isDig at hdd
  have e : (10 : Int) ^ (k + 1) = 10 ^ k * 10 := by rw [Int.pow_succ]
  have := dval_bound ds (dv n d) (k + 1) (fun x hx => hd x (List.mem_cons_of_mem _ hx)) (by unfold dv;omega) (by unfold dv;rw [e];omega)
  rw [List.foldl_cons]
  rwa [List.length_cons,show k + (ds.length + 1) = k + 1 + ds.length from by omega]
theorem dval_take {ds : List UInt8} {j : Nat} (hj : j < ds.length) : dval (ds.take (j + 1)) = dv (dval (ds.take j)) ds[j] := by
 rw [List.take_succ_eq_append_getElem hj]
 simp only [dval,List.foldl_append,List.foldl_cons,List.foldl_nil]
theorem dval_le {ds : List UInt8} (hd : ∀ d ∈ ds,isDig d) (h9 : ds.length ≤ 9) (j : Nat) : 0 ≤ dval (ds.take j) ∧ dval (ds.take j) < 1000000000 := by
 have h := dval_bound (ds.take j) 0 0 (fun d hm => hd d (List.mem_of_mem_take hm)) (by omega) (by decide)
 refine ⟨h.1,Int.lt_of_lt_of_le h.2 ?_⟩
 have : 0 + (ds.take j).length ≤ 9 := by simp;omega
 have h2 : (10 : Nat) ^ (0 + (ds.take j).length) ≤ 10 ^ 9 := Nat.pow_le_pow_right (by decide) this
 have h3 : ((10 ^ (0 + (ds.take j).length) : Nat) : Int) ≤ ((10 ^ 9 : Nat) : Int) := Int.ofNat_le.2 h2
 simpa using h3
def sgn (neg : Bool) (ds : List UInt8) : List UInt8 := bif neg then 45 :: ds else ds
def sval (neg : Bool) (ds : List UInt8) : Int := bif neg then - dval ds else dval ds
instance : ByI Tryz.prog 75 5 := ⟨by kernel_rfl,by kernel_rfl⟩
set_option maxRecDepth 100000 in
theorem s168 (L : Lg Tryz.prog main) (H : Facts) {neg : Bool} {ds : List UInt8} (h0 : 0 < ds.length) (h9 : ds.length ≤ 9) (hd : ∀ d ∈ ds,isDig d) : Pure L 168 #[.string (S (sgn neg ds))] H (.tuple #[.int .i64 (sval neg ds),.nilIface]) := by
 refine Spec.enter Tryz.func168 rfl (by simp [Tryz.f168]) fun c cs hc => ?_
 obtain ⟨d0,ds1,rfl⟩ := List.exists_cons_of_length_pos h0
 have hd0 := hd d0 (List.mem_cons_self ..)
 unfold isDig at hd0
 have hlen : (d0 :: ds1).length = ds1.length + 1 := rfl
 cases neg
 ·simp only [sgn,sval,cond_false] at hc ⊢
  have h45 : ¬ ((d0.toNat : Int) = 45) := by omega
  have h43 : ¬ ((d0.toNat : Int) = 43) := by omega
  refine At.seq (At.region ?_);(iterate 2 refine Aa Z Z Z Z Z O ?_);refine Ab (At.seq (At.region ?_));refine Aa Z Z Z Z Z O ?_;refine Ae Z Z Z Z (q_lenSS Z Z Z Z) ?_;refine Aa Z Z Z Z Z O ?_;refine Ab (At.seq (At.seq (At.region ?_)));refine Aa Z Z Z Z Z O ?_;(iterate 6 refine Ar Z Z Z Z ?_);(iterate 4 refine Aa Z Z Z Z Z O ?_)
  refine Ad Z Z Z Z Z fun b24 h24 => ?_;refine Aa Z Z Z Z Z O ?_
  obtain rfl : b24 = true := h24.symm.trans (by simp)
  refine Aa Z Z Z Z Z O ?_;refine Ad Z Z Z Z Z fun b27 h27 => ?_;(iterate 3 refine Aa Z Z Z Z Z O ?_);refine Ab ?_
  obtain rfl : b27 = true := h27.symm.trans (decide_eq_true (by omega))
  refine At.cond Z ?_;refine At.seq (At.region ?_);(iterate 2 refine Aa Z Z Z Z Z O ?_);refine Ab (At.seq (At.seq (At.region ?_)));refine Aa Z Z Z Z Z O ?_;refine Ae Z Z Z Z (q_at (j := 0) Z Z Z Z) ?_;refine Ad Z Z Z Z Z fun b34 h34 => ?_;refine Aa Z Z Z Z Z O ?_
  obtain rfl : b34 = false := h34.symm.trans (decide_eq_false (by omega))
  refine Aa Z Z Z Z Z O ?_;refine Ae Z Z Z Z (q_at (j := 0) Z Z Z Z) ?_;refine Ad Z Z Z Z Z fun b38 h38 => ?_;refine Aa Z Z Z Z Z O ?_;refine Ab ?_
  obtain rfl : b38 = false := h38.symm.trans (decide_eq_false (by omega))
  refine At.cond Z ?_;refine At.skip (At.seq (At.region ?_));refine Aa Z Z Z Z Z O ?_;refine Ab (At.seq (At.seq (At.region ?_)));refine Aa Z Z Z Z Z O ?_;refine At.l Z Z Z Z (l_bytes Z Z) ?_
  rintro _ _ ⟨r,cap,rest,fr,rfl,rfl⟩
  refine Ao Z Z Z Z Z Z Z Z ?_;refine Aa Z Z Z Z Z O ?_;refine Ab ?_;refine At.block ?_
  refine Az (X := { j : Nat // j ≤ (d0 :: ds1).length }) [0,5,47,48] (fun x => [(49,.int .i64 (x.1 : Int)),(6,.int .i64 (dval ((d0 :: ds1).take x.1)))]) (fun _ => .own r (.cells (List.toArray (bytesV (S (d0 :: ds1)) ++ rest)) 5 fr) :: H) (fun x => (d0 :: ds1).length - x.1) (⟨0,Nat.zero_le _⟩) rfl ?_ (by repeat (first | exact trivial | refine ⟨rfl,?_⟩)) sb
  rintro ⟨j,hj⟩ again
  simp only at again ⊢
  have hbd := dval_le hd h9 j
  refine At.seq (At.region ?_);refine Ad Z Z Z Z Z fun b50 h50 => ?_;refine Ab (At.seq ?_)
  cases b50
  ·have e : j = (d0 :: ds1).length := by
    have : (S (d0 :: ds1)).size = (d0 :: ds1).length := rfl
    simp only [decide_eq_false_iff_not] at h50;omega
   subst e
   rw [List.take_length] at hbd ⊢
   refine At.cond Z ?_;refine At.exit rfl ?_;refine At.seq (At.seq (At.region ?_));refine Aa Z Z Z Z Z O ?_;refine Ae Z Z Z Z (q_at (j := 0) Z Z Z Z) ?_;refine Ad Z Z Z Z Z fun b66 h66 => ?_;refine Ab ?_
   obtain rfl : b66 = false := h66.symm.trans (decide_eq_false (by omega))
   refine At.cond Z ?_;refine At.skip (At.seq (At.region ?_));(iterate 3 refine Aa Z Z Z Z Z O ?_);refine Ab ?_
   exact At.ret Tryz.func168 (.inr ⟨_,rfl⟩) rfl (.tmp rfl (.tmp rfl .nil)) (wk (hc _ _ (⟨by rfl,rfl⟩)))
  ·have hlt : j < (d0 :: ds1).length := by
    have : (S (d0 :: ds1)).size = (d0 :: ds1).length := rfl
    simp only [decide_eq_true_eq] at h50;omega
   have hr : Rd (.own r (.cells (List.toArray (bytesV (S (d0 :: ds1)) ++ rest)) 5 fr) :: H) (some ⟨r,0,none⟩) ((d0 :: ds1).flatMap cB) := rd_cells (cells_own (List.mem_cons_self ..) (by show (((d0 :: ds1).flatMap cB ++ rest).drop 0).take ((d0 :: ds1).flatMap cB).length = _;rw [List.drop_zero,List.take_left]))
   obtain ⟨b,off,e,hc1⟩ := hr.el (List.getElem?_eq_getElem hlt)
   cases e
   have hdj := hd _ (List.getElem_mem hlt)
   unfold isDig at hdj
   have hbd1 := dval_le hd h9 (j + 1)
   have hst := dval_take hlt
   have hsz : (S (d0 :: ds1)).size = (d0 :: ds1).length := rfl
   rw [hst] at hbd1
   unfold dv at hbd1
   refine At.cond Z ?_;refine At.skip (At.seq ?_);refine At.block ?_;refine At.seq (At.region ?_);refine Ae Z Z Z Z (q_ia Z Z Z (by assumption)) ?_;refine Au Z Z Z Z Z Z hc1.a Z Z ?_;refine Aa Z Z Z Z Z O ?_;refine Ab (At.seq (At.region ?_));refine Aa Z Z Z Z Z O ?_;refine Ae Z Z Z Z (q_subK Z Z Z (wrap_u8 (by omega) (by omega))) ?_;refine Aa Z Z Z Z Z O ?_
   refine Ab (At.seq (At.seq (At.region ?_)));refine Aa Z Z Z Z Z O ?_;refine Ad Z Z Z Z Z fun b56 h56 => ?_;refine Ab ?_
   obtain rfl : b56 = false := h56.symm.trans (decide_eq_false (by omega))
   refine At.cond Z ?_;refine At.skip (At.region ?_);refine Aa Z Z Z Z Z O ?_;refine Aa Z Z Z Z Z (by omega) ?_;refine Aa Z Z Z Z Z O ?_;refine Ae Z Z Z Z (q_conv Z Z Z) ?_
   rw [wrap_in (n := ((d0 :: ds1)[j].toNat : Int) - 48) (by omega)]
   refine Aa Z Z Z Z Z (by omega) ?_;refine Aa Z Z Z Z Z O ?_;refine Ab ?_;refine At.inBlock ?_;refine At.region ?_;refine Aa Z Z Z Z Z (by omega) ?_;refine Aa Z Z Z Z Z O ?_;refine Ab ?_
   rw [show dval ((d0 :: ds1).take j) * 10 + (((d0 :: ds1)[j].toNat : Int) - 48) = dval ((d0 :: ds1).take (j + 1)) from by rw [hst];rfl]
   refine Aq ((again ⟨j + 1,hlt⟩ (by simp only;omega)))
 ·simp only [sgn,sval,cond_true] at hc ⊢
  have hlen2 : (45 :: d0 :: ds1).length = ds1.length + 2 := rfl
  refine At.seq (At.region ?_);(iterate 2 refine Aa Z Z Z Z Z O ?_);refine Ab (At.seq (At.region ?_));refine Aa Z Z Z Z Z O ?_;refine Ae Z Z Z Z (q_lenSS Z Z Z Z) ?_;refine Aa Z Z Z Z Z O ?_;refine Ab (At.seq (At.seq (At.region ?_)));refine Aa Z Z Z Z Z O ?_;(iterate 6 refine Ar Z Z Z Z ?_);(iterate 4 refine Aa Z Z Z Z Z O ?_)
  refine Ad Z Z Z Z Z fun b24 h24 => ?_;refine Aa Z Z Z Z Z O ?_
  obtain rfl : b24 = true := h24.symm.trans (decide_eq_true (by omega))
  refine Aa Z Z Z Z Z O ?_;refine Ad Z Z Z Z Z fun b27 h27 => ?_;(iterate 3 refine Aa Z Z Z Z Z O ?_);refine Ab ?_
  obtain rfl : b27 = true := h27.symm.trans (decide_eq_true (by omega))
  refine At.cond Z ?_;refine At.seq (At.region ?_);(iterate 2 refine Aa Z Z Z Z Z O ?_);refine Ab (At.seq (At.seq (At.region ?_)));refine Aa Z Z Z Z Z O ?_;refine Ae Z Z Z Z (q_at (j := 0) Z Z Z Z) ?_;refine Ad Z Z Z Z Z fun b34 h34 => ?_;refine Aa Z Z Z Z Z O ?_
  obtain rfl : b34 = true := h34.symm.trans (by kernel_rfl)
  (iterate 3 refine Ar Z Z Z Z ?_);refine Aa Z Z Z Z Z O ?_;refine Ab ?_;refine At.cond Z ?_;refine At.seq (At.region ?_);refine Aa Z Z Z Z Z O ?_;refine Ae Z Z Z Z (q_cutL (l := 1) Z Z Z (by omega)) ?_;refine Aa Z Z Z Z Z O ?_;refine Ab (At.seq (At.region ?_));refine Aa Z Z Z Z Z O ?_;refine Ae Z Z Z Z (q_lenSS Z Z Z Z) ?_
  refine Ad Z Z Z Z Z fun b44 h44 => ?_;refine Ab ?_
  obtain rfl : b44 = false := h44.symm.trans (by kernel_rfl)
  refine At.cond Z ?_;refine At.skip (At.seq (At.region ?_));refine Aa Z Z Z Z Z O ?_;refine Ab (At.seq (At.seq (At.region ?_)));refine Aa Z Z Z Z Z O ?_;refine At.l Z Z Z Z (l_bytes (w := S (d0 :: ds1)) Z Z) ?_
  rintro _ _ ⟨r,cap,rest,fr,rfl,rfl⟩
  refine Ao Z Z Z Z Z Z Z Z ?_;refine Aa Z Z Z Z Z O ?_;refine Ab ?_;refine At.block ?_
  refine Az (X := { j : Nat // j ≤ (d0 :: ds1).length }) [0,5,47,48] (fun x => [(49,.int .i64 (x.1 : Int)),(6,.int .i64 (dval ((d0 :: ds1).take x.1)))]) (fun _ => .own r (.cells (List.toArray (bytesV (S (d0 :: ds1)) ++ rest)) 5 fr) :: H) (fun x => (d0 :: ds1).length - x.1) (⟨0,Nat.zero_le _⟩) rfl ?_ (by repeat (first | exact trivial | refine ⟨rfl,?_⟩)) sb
  rintro ⟨j,hj⟩ again
  simp only at again ⊢
  have hbd := dval_le hd h9 j
  refine At.seq (At.region ?_);refine Ad Z Z Z Z Z fun b50 h50 => ?_;refine Ab (At.seq ?_)
  cases b50
  ·have e : j = (d0 :: ds1).length := by
    have : (S (d0 :: ds1)).size = (d0 :: ds1).length := rfl
    simp only [decide_eq_false_iff_not] at h50;omega
   subst e
   rw [List.take_length] at hbd ⊢
   refine At.cond Z ?_;refine At.exit rfl ?_;refine At.seq (At.seq (At.region ?_));refine Aa Z Z Z Z Z O ?_;refine Ae Z Z Z Z (q_at (j := 0) Z Z Z Z) ?_;refine Ad Z Z Z Z Z fun b66 h66 => ?_;refine Ab ?_
   obtain rfl : b66 = true := h66.symm.trans (by kernel_rfl)
   refine At.cond Z ?_;refine At.region ?_;refine Aa Z Z Z Z Z O ?_;refine Aa Z Z Z Z Z (by omega) ?_;refine Aa Z Z Z Z Z O ?_;refine Ab (At.seq (At.region ?_));(iterate 3 refine Aa Z Z Z Z Z O ?_);refine Ab ?_
   exact At.ret Tryz.func168 (.inr ⟨_,rfl⟩) rfl (.tmp rfl (.tmp rfl .nil)) (wk (hc _ _ (⟨by rfl,rfl⟩)))
  ·have hlt : j < (d0 :: ds1).length := by
    have : (S (d0 :: ds1)).size = (d0 :: ds1).length := rfl
    simp only [decide_eq_true_eq] at h50;omega
   have hr : Rd (.own r (.cells (List.toArray (bytesV (S (d0 :: ds1)) ++ rest)) 5 fr) :: H) (some ⟨r,0,none⟩) ((d0 :: ds1).flatMap cB) := rd_cells (cells_own (List.mem_cons_self ..) (by show (((d0 :: ds1).flatMap cB ++ rest).drop 0).take ((d0 :: ds1).flatMap cB).length = _;rw [List.drop_zero,List.take_left]))
   obtain ⟨b,off,e,hc1⟩ := hr.el (List.getElem?_eq_getElem hlt)
   cases e
   have hdj := hd _ (List.getElem_mem hlt)
   unfold isDig at hdj
   have hbd1 := dval_le hd h9 (j + 1)
   have hst := dval_take hlt
   have hsz : (S (d0 :: ds1)).size = (d0 :: ds1).length := rfl
   rw [hst] at hbd1
   unfold dv at hbd1
   refine At.cond Z ?_;refine At.skip (At.seq ?_);refine At.block ?_;refine At.seq (At.region ?_);refine Ae Z Z Z Z (q_ia Z Z Z (by assumption)) ?_;refine Au Z Z Z Z Z Z hc1.a Z Z ?_;refine Aa Z Z Z Z Z O ?_;refine Ab (At.seq (At.region ?_));refine Aa Z Z Z Z Z O ?_;refine Ae Z Z Z Z (q_subK Z Z Z (wrap_u8 (by omega) (by omega))) ?_;refine Aa Z Z Z Z Z O ?_
   refine Ab (At.seq (At.seq (At.region ?_)));refine Aa Z Z Z Z Z O ?_;refine Ad Z Z Z Z Z fun b56 h56 => ?_;refine Ab ?_
   obtain rfl : b56 = false := h56.symm.trans (decide_eq_false (by omega))
   refine At.cond Z ?_;refine At.skip (At.region ?_);refine Aa Z Z Z Z Z O ?_;refine Aa Z Z Z Z Z (by omega) ?_;refine Aa Z Z Z Z Z O ?_;refine Ae Z Z Z Z (q_conv Z Z Z) ?_
   rw [wrap_in (n := ((d0 :: ds1)[j].toNat : Int) - 48) (by omega)]
   refine Aa Z Z Z Z Z (by omega) ?_;refine Aa Z Z Z Z Z O ?_;refine Ab ?_;refine At.inBlock ?_;refine At.region ?_;refine Aa Z Z Z Z Z (by omega) ?_;refine Aa Z Z Z Z Z O ?_;refine Ab ?_
   rw [show dval ((d0 :: ds1).take j) * 10 + (((d0 :: ds1)[j].toNat : Int) - 48) = dval ((d0 :: ds1).take (j + 1)) from by rw [hst];rfl]
   refine Aq ((again ⟨j + 1,hlt⟩ (by simp only;omega)))
instance : IfI Tryz.prog 80 := ⟨by kernel_rfl⟩
theorem s132 (L : Lg Tryz.prog main) (H : Facts) {neg : Bool} {ds : List UInt8} (h0 : 0 < ds.length) (h9 : ds.length ≤ 9) (hd : ∀ d ∈ ds,isDig d) : Pure L 132 #[.string (S (sgn neg ds))] H (.tuple #[.int .i64 (sval neg ds),.nilIface]) := by
 refine Spec.enter Tryz.func132 rfl (by simp [Tryz.f132]) fun c cs hc => ?_;refine At.seq (At.region ?_);(iterate 2 refine Aa Z Z Z Z Z O ?_);refine Ab (At.seq (At.region ?_));refine Aa Z Z Z Z Z O ?_;refine Ai Z Z Z Z Z Z Z Z (s168 L _ bs bs bs) ?_;(iterate 5 refine Aa Z Z Z Z Z O ?_);refine Ab (At.seq (At.seq (At.region ?_)));refine Aa Z Z Z Z Z O ?_
 refine Ae Z Z Z Z (q_nilNe Z Z) ?_;refine Ab ?_;refine At.cond Z ?_;refine At.skip (At.seq (At.region ?_));(iterate 3 refine Aa Z Z Z Z Z O ?_);refine Ab ?_
 exact At.ret Tryz.func132 (.inr ⟨_,rfl⟩) rfl (.tmp rfl (.tmp rfl .nil)) (wk (hc _ _ (⟨by rfl,rfl⟩)))
end Go.Gx
end
section
namespace Go.Gx
open Go Go.Conc Go.Proofs
variable {main : Bool}
theorem s46 (L : Lg Tryz.prog main) (H : Facts) : Pure L 46 #[.bool true] H (.tuple #[]) := by
 refine Spec.enter Tryz.func46 rfl (by simp [Tryz.f46]) fun c cs hc => ?_;refine At.seq (At.region ?_);(iterate 2 refine Aa Z Z Z Z Z O ?_);refine Ab ?_;refine At.cond Z ?_;refine At.skip ?_
 exact At.ret Tryz.func46 (.inl rfl) rfl .nil (wk (hc _ _ ⟨rfl,rfl⟩))
structure NumOk (neg : Bool) (ds : List UInt8) : Prop where
 pos : 0 < ds.length
 len : ds.length ≤ 9
 dig : ∀ d ∈ ds,isDig d
 lead : ds.head? ≠ some 48 ∨ (ds.length = 1 ∧ neg = false)
def digs10 : List UInt8 := [48,49,50,51,52,53,54,55,56,57]
theorem mem_digs {d : UInt8} (h : isDig d) : d ∈ digs10 := by
 unfold isDig at h
 have h3 : d.toNat = 48 ∨ d.toNat = 49 ∨ d.toNat = 50 ∨ d.toNat = 51 ∨ d.toNat = 52 ∨ d.toNat = 53 ∨ d.toNat = 54 ∨ d.toNat = 55 ∨ d.toNat = 56 ∨ d.toNat = 57 := by omega
 have e : d = UInt8.ofNat d.toNat := by simp
 rcases h3 with h | h | h | h | h | h | h | h | h | h <;> (rw [e,h];decide)
theorem dropWhile_all {α : Type} {p : α → Bool} : ∀ {l : List α},(∀ x ∈ l,p x = true) → l.dropWhile p = []
 | [],_ => rfl
 | a :: l,h => by
  rw [List.dropWhile_cons,if_pos (h a (List.mem_cons_self ..))]
  exact dropWhile_all fun x hx => h x (List.mem_cons_of_mem _ hx)
theorem trim_digs {ds : List UInt8} (hd : ∀ d ∈ ds,isDig d) : trimL digs10 (trimR digs10 ds) = [] := by
 have e : trimR digs10 ds = [] := by
  have : (ds.reverse).dropWhile (fun x => decide (x ∈ digs10)) = [] := by
   refine dropWhile_all fun x hx => ?_
   simpa using mem_digs (hd x (by simpa using hx))
  simp [trimR,this]
 rw [e];rfl
theorem cut_sgn {neg : Bool} {ds : List UInt8} (hd : ∀ d ∈ ds,isDig d) (hp : 0 < ds.length) : (if (sgn neg ds).head? = some 45 then (sgn neg ds).drop 1 else sgn neg ds) = ds ∧ ((sgn neg ds).head? == some 45) = neg := by
 cases neg
 ·obtain ⟨d,ds,rfl⟩ := List.exists_cons_of_length_pos hp
  have h := hd d (List.mem_cons_self ..)
  unfold isDig at h
  have hne : d ≠ 45 := by rintro rfl;revert h;decide
  simp [sgn,hne]
 ·simp [sgn]
set_option maxRecDepth 100000 in
theorem s98 (L : Lg Tryz.prog main) (H : Facts) {neg : Bool} {ds : List UInt8} (hn : NumOk neg ds) : Pure L 98 #[.string (S (sgn neg ds))] H (.int .i64 (sval neg ds)) := by
 refine Spec.enter Tryz.func98 rfl (by simp [Tryz.f98]) fun c cs hc => ?_
 have hp := hn.pos
 have hl := hn.len
 obtain ⟨e1,e2⟩ := cut_sgn (neg := neg) hn.dig hp
 have stop130 := trivial
 refine At.seq (At.region ?_);refine Aa Z Z Z Z Z O ?_;refine Ab (At.seq (At.region ?_));refine Aa Z Z Z Z Z O ?_
 clear stop130
 refine Ai Z Z Z Z Z Z Z Z (s130 L _ (w := sgn neg ds) (b := 45)) ?_
 rw [e1,e2]
 have stop131 := trivial
 (iterate 5 refine Aa Z Z Z Z Z O ?_);refine Ab (At.seq (At.region ?_));refine Aa Z Z Z Z Z O ?_;refine Ae Z Z Z Z (q_lenSS Z Z Z Z) ?_;refine Bc Z Z Z Z Z Z Z Z (s115 L _) fun b14 h14 => ?_;refine Aa Z Z Z Z Z O ?_
 obtain rfl : b14 = true := h14.symm.trans (decide_eq_true (by omega))
 refine Aa Z Z Z Z Z O ?_
 clear stop131
 refine Ai Z Z Z Z Z Z Z Z (s131 L _ (w := ds) (ch := digs10) (by omega) (by decide) (by decide) (by decide)) ?_
 rw [trim_digs hn.dig]
 obtain ⟨d0,ds1,rfl⟩ := List.exists_cons_of_length_pos hp
 have hlen : (d0 :: ds1).length = ds1.length + 1 := rfl
 have h0 := hn.dig d0 (List.mem_cons_self ..)
 unfold isDig at h0
 by_cases h48 : d0 = 48
 ·have h1 : (d0 :: ds1).length = 1 ∧ neg = false := by
   rcases hn.lead with h | h
   ·exact absurd (by rw [h48];rfl) h
   ·exact h
  obtain ⟨h1,rfl⟩ := h1
  have h48' : (d0.toNat : Int) = 48 := by rw [h48];rfl
  refine At.qb Z Z Z Z (q_strEqS Z Z Z) fun b18 h18 => ?_;(iterate 2 refine Aa Z Z Z Z Z O ?_)
  obtain rfl : b18 = true := h18.symm.trans (by kernel_rfl)
  refine Aa Z Z Z Z Z O ?_;refine Ae Z Z Z Z (q_at (j := 0) Z Z Z Z) ?_;refine Ad Z Z Z Z Z fun b23 h23 => ?_;refine Aa Z Z Z Z Z O ?_
  obtain rfl : b23 = false := h23.symm.trans (decide_eq_false (by omega))
  refine Aa Z Z Z Z Z O ?_;refine Ae Z Z Z Z (q_lenSS Z Z Z Z) ?_;refine Ad Z Z Z Z Z fun b27 h27 => ?_;refine Aa Z Z Z Z Z O ?_
  obtain rfl : b27 = true := h27.symm.trans (decide_eq_true (by omega))
  (iterate 5 refine Aa Z Z Z Z Z O ?_);refine Ai Z Z Z Z Z Z Z Z (s46 L _) ?_;refine Ab (At.seq (At.region ?_));refine Aa Z Z Z Z Z O ?_;refine Ai Z Z Z Z Z Z Z Z (s132 L _ (by omega) hl hn.dig) ?_;(iterate 5 refine Aa Z Z Z Z Z O ?_);refine Ab (At.seq (At.region ?_));(iterate 2 refine Aa Z Z Z Z Z O ?_);refine Ab ?_
  exact At.ret Tryz.func98 (.inr ⟨_,rfl⟩) rfl (.tmp rfl .nil) (wk (hc _ _ (⟨by rfl,rfl⟩)))
 ·have h48' : ¬ ((d0.toNat : Int) = 48) := fun h => h48 (by
   have : d0.toNat = (48 : UInt8).toNat := by simp;omega
   exact UInt8.toNat_inj.1 this)
  refine At.qb Z Z Z Z (q_strEqS Z Z Z) fun b18 h18 => ?_;(iterate 2 refine Aa Z Z Z Z Z O ?_)
  obtain rfl : b18 = true := h18.symm.trans (by kernel_rfl)
  refine Aa Z Z Z Z Z O ?_;refine Ae Z Z Z Z (q_at (j := 0) Z Z Z Z) ?_;refine Ad Z Z Z Z Z fun b23 h23 => ?_;refine Aa Z Z Z Z Z O ?_
  obtain rfl : b23 = true := h23.symm.trans (decide_eq_true (by omega))
  (iterate 7 refine Ar Z Z Z Z ?_);(iterate 2 refine Aa Z Z Z Z Z O ?_);refine Ai Z Z Z Z Z Z Z Z (s46 L _) ?_;refine Ab (At.seq (At.region ?_));refine Aa Z Z Z Z Z O ?_;refine Ai Z Z Z Z Z Z Z Z (s132 L _ (by omega) hl hn.dig) ?_;(iterate 5 refine Aa Z Z Z Z Z O ?_);refine Ab (At.seq (At.region ?_));(iterate 2 refine Aa Z Z Z Z Z O ?_)
  refine Ab ?_
  exact At.ret Tryz.func98 (.inr ⟨_,rfl⟩) rfl (.tmp rfl .nil) (wk (hc _ _ (⟨by rfl,rfl⟩)))
end Go.Gx
end
section
namespace Go.Gx
open Go Go.Conc Go.Proofs
variable {main : Bool}
theorem s170y (L : Lg Tryz.prog main) (H : Facts) {a r : List UInt8} {b : UInt8} (ha : b ∉ a) (hl : (a ++ b :: r).length ≤ 1000000) : Pure L 170 #[.string (S (a ++ b :: r)),.string (S [b])] H (.tuple #[.string (S a),.string (S r),.bool true]) := by
 refine Spec.enter Tryz.func170 rfl (by simp [Tryz.f170]) fun c cs hc => ?_
 have hlen : (a ++ b :: r).length = a.length + r.length + 1 := by simp;omega
 have h1 : [b].length = 1 := rfl
 have stop184 := trivial
 refine At.seq (At.region ?_);(iterate 3 refine Aa Z Z Z Z Z O ?_);refine Ab (At.seq (At.seq (At.region ?_)));(iterate 2 refine Aa Z Z Z Z Z O ?_)
 clear stop184
 refine Ai Z Z Z Z Z Z Z Z (s184 L _) ?_
 rw [ixI_some ha]
 refine Aa Z Z Z Z Z O ?_;refine Ab (At.seq (At.region ?_));refine Aa Z Z Z Z Z O ?_;refine Ad Z Z Z Z Z fun b12 h12 => ?_;refine Ab ?_
 obtain rfl : b12 = true := h12.symm.trans (by kernel_rfl)
 refine At.cond Z ?_;refine At.seq ?_;refine Aw hmix [] rfl ?_;refine Ac 0 Z Z Z Z Z Z Z O ?_;refine Ac 1 Z Z Z Z Z Z Z O ?_;refine Ak 2 Z Z Z Z Z (q_cutH (h := (a.length)) Z Z Z (by omega)) rfl ?_;refine Ac 3 Z Z Z Z Z Z Z O ?_;refine Ac 4 Z Z Z Z Z Z Z O ?_;refine Ac 5 Z Z Z Z Z Z Z O ?_
 refine Ak 6 Z Z Z Z Z (q_lenSS Z Z Z Z) rfl ?_;refine Ac 7 Z Z Z Z Z Z Z (by omega) ?_;refine Ak 8 Z Z Z Z Z (q_cutL (l := (a.length + 1)) Z Z Z (by omega)) rfl ?_;refine Ac 9 Z Z Z Z Z Z Z O ?_;refine Ac 10 Z Z Z Z Z Z Z O ?_;refine Ac 11 Z Z Z Z Z Z Z O ?_;refine pool_done Z Z ?_;refine Ab ?_
 rw [show (a ++ b :: r).take a.length = a by simp,show (a ++ b :: r).drop (a.length + 1) = r by simp [List.drop_append]]
 exact At.ret Tryz.func170 (.inr ⟨_,rfl⟩) rfl (.tmp rfl (.tmp rfl (.tmp rfl .nil))) (wk (hc _ _ (⟨by rfl,rfl⟩)))
theorem s170n (L : Lg Tryz.prog main) (H : Facts) {w : List UInt8} {b : UInt8} (hw : b ∉ w) : Pure L 170 #[.string (S w),.string (S [b])] H (.tuple #[.string (S w),.string (S []),.bool false]) := by
 refine Spec.enter Tryz.func170 rfl (by simp [Tryz.f170]) fun c cs hc => ?_
 have stop184 := trivial
 refine At.seq (At.region ?_);(iterate 3 refine Aa Z Z Z Z Z O ?_);refine Ab (At.seq (At.seq (At.region ?_)));(iterate 2 refine Aa Z Z Z Z Z O ?_)
 clear stop184
 refine Ai Z Z Z Z Z Z Z Z (s184 L _) ?_
 rw [ixI_none hw]
 refine Aa Z Z Z Z Z O ?_;refine Ab (At.seq (At.region ?_));refine Aa Z Z Z Z Z O ?_;refine Ad Z Z Z Z Z fun b12 h12 => ?_;refine Ab ?_
 obtain rfl : b12 = false := h12.symm.trans (by kernel_rfl)
 refine At.cond Z ?_;refine At.skip (At.seq (At.region ?_));(iterate 4 refine Aa Z Z Z Z Z O ?_);refine Ab ?_
 exact At.ret Tryz.func170 (.inr ⟨_,rfl⟩) rfl (.tmp rfl (.tmp rfl (.tmp rfl .nil))) (wk (hc _ _ (⟨by rfl,rfl⟩)))
theorem s133y (L : Lg Tryz.prog main) (H : Facts) {a r : List UInt8} {b : UInt8} (ha : b ∉ a) (hl : (a ++ b :: r).length ≤ 1000000) : Pure L 133 #[.string (S (a ++ b :: r)),.string (S [b])] H (.tuple #[.string (S a),.string (S r),.bool true]) := by
 refine Spec.enter Tryz.func133 rfl (by simp [Tryz.f133]) fun c cs hc => ?_;refine At.seq (At.region ?_);(iterate 3 refine Aa Z Z Z Z Z O ?_);refine Ab (At.seq (At.region ?_));(iterate 2 refine Aa Z Z Z Z Z O ?_);refine Ai Z Z Z Z Z Z Z Z (s170y L _ ha hl) ?_;(iterate 6 refine Aa Z Z Z Z Z O ?_);refine Ab ?_
 exact At.ret Tryz.func133 (.inr ⟨_,rfl⟩) rfl (.tmp rfl (.tmp rfl (.tmp rfl .nil))) (wk (hc _ _ (⟨by rfl,rfl⟩)))
theorem s133n (L : Lg Tryz.prog main) (H : Facts) {w : List UInt8} {b : UInt8} (hw : b ∉ w) : Pure L 133 #[.string (S w),.string (S [b])] H (.tuple #[.string (S w),.string (S []),.bool false]) := by
 refine Spec.enter Tryz.func133 rfl (by simp [Tryz.f133]) fun c cs hc => ?_;refine At.seq (At.region ?_);(iterate 3 refine Aa Z Z Z Z Z O ?_);refine Ab (At.seq (At.region ?_));(iterate 2 refine Aa Z Z Z Z Z O ?_);refine Ai Z Z Z Z Z Z Z Z (s170n L _ hw) ?_;(iterate 6 refine Aa Z Z Z Z Z O ?_);refine Ab ?_
 exact At.ret Tryz.func133 (.inr ⟨_,rfl⟩) rfl (.tmp rfl (.tmp rfl (.tmp rfl .nil))) (wk (hc _ _ (⟨by rfl,rfl⟩)))
theorem no58 {neg : Bool} {ds : List UInt8} (hd : ∀ d ∈ ds,isDig d) : (58 : UInt8) ∉ sgn neg ds := by
 have h : (58 : UInt8) ∉ ds := fun h => by
  have := hd _ h
  revert this;unfold isDig;decide
 cases neg
 ·exact h
 ·simp [sgn,h]
set_option maxRecDepth 100000 in
theorem s99a (L : Lg Tryz.prog main) (H : Facts) {neg : Bool} {ds : List UInt8} (hn : NumOk neg ds) : Pure L 99 #[.string (S (sgn neg ds))] H (.agg #[.int .i64 (sval neg ds),.int .i64 (sval neg ds)]) := by
 refine Spec.enter Tryz.func99 rfl (by simp [Tryz.f99]) fun c cs hc => ?_;refine At.seq (At.region ?_);refine Al Z Z Z Z Z fun r2 => ?_;refine Ab (At.seq (At.region ?_));refine Aa Z Z Z Z Z O ?_;refine Ai Z Z Z Z Z Z Z Z (s133n L _ (no58 hn.dig)) ?_;(iterate 7 refine Aa Z Z Z Z Z O ?_);refine Ab (At.seq (At.region ?_));refine Aa Z Z Z Z Z O ?_
 refine Ai Z Z Z Z Z Z Z Z (s98 L _ bs) ?_;refine Ae Z Z Z Z (q_build Z Z Z) ?_;refine Al Z Z Z Z Z fun r6 => ?_;refine Ag 0 Z Z Z Z Z Z Z Z Z Z Z Z ?_;refine Ab (At.seq (At.region ?_));refine Ah 0 Z Z Z Z Z Z Z ?_;refine Af 0 Z Z Z Z Z Z Z Z Z ?_;refine Ah 1 Z Z Z Z Z Z Z ?_;refine Ag 0 Z Z Z Z Z Z Z Z Z Z Z Z ?_
 refine Ab (At.seq (At.seq (At.region ?_)));refine Aa Z Z Z Z Z O ?_;refine Ab ?_;refine At.cond Z ?_;refine At.skip (At.seq (At.region ?_));refine Af 0 Z Z Z Z Z Z Z Z Z ?_;refine Ag 1 Z Z Z Z Z Z Z Z Z Z Z Z ?_;refine Ab ?_
 exact At.ret Tryz.func99 (.inr ⟨_,rfl⟩) rfl (.aggJ 1 Z Z Z .nil) (wk (hc _ _ (⟨by rfl,rfl⟩)))
set_option maxRecDepth 100000 in
theorem s99b (L : Lg Tryz.prog main) (H : Facts) {n1 n2 : Bool} {d1 d2 : List UInt8} (h1 : NumOk n1 d1) (h2 : NumOk n2 d2) (hne : ¬ sval n1 d1 = sval n2 d2) : Pure L 99 #[.string (S (sgn n1 d1 ++ 58 :: sgn n2 d2))] H (.agg #[.int .i64 (sval n1 d1),.int .i64 (sval n2 d2)]) := by
 refine Spec.enter Tryz.func99 rfl (by simp [Tryz.f99]) fun c cs hc => ?_;refine At.seq (At.region ?_);refine Al Z Z Z Z Z fun r2 => ?_;refine Ab (At.seq (At.region ?_));refine Aa Z Z Z Z Z O ?_
 have e1 := h1.len
 have e2 := h2.len
 refine Ai Z Z Z Z Z Z Z Z (s133y L _ (no58 h1.dig) (by cases n1 <;> cases n2 <;> simp [sgn] <;> omega)) ?_
 (iterate 7 refine Aa Z Z Z Z Z O ?_);refine Ab (At.seq (At.region ?_));refine Aa Z Z Z Z Z O ?_;refine Ai Z Z Z Z Z Z Z Z (s98 L _ bs) ?_;refine Ae Z Z Z Z (q_build Z Z Z) ?_;refine Al Z Z Z Z Z fun r6 => ?_;refine Ag 0 Z Z Z Z Z Z Z Z Z Z Z Z ?_;refine Ab (At.seq (At.region ?_));refine Ah 0 Z Z Z Z Z Z Z ?_
 refine Af 0 Z Z Z Z Z Z Z Z Z ?_;refine Ah 1 Z Z Z Z Z Z Z ?_;refine Ag 0 Z Z Z Z Z Z Z Z Z Z Z Z ?_;refine Ab (At.seq (At.seq (At.region ?_)));refine Aa Z Z Z Z Z O ?_;refine Ab ?_;refine At.cond Z ?_;refine At.seq (At.region ?_);refine Aa Z Z Z Z Z O ?_;refine Ai Z Z Z Z Z Z Z Z (s98 L _ bs) ?_;refine Ah 1 Z Z Z Z Z Z Z ?_
 refine Ag 0 Z Z Z Z Z Z Z Z Z Z Z Z ?_;refine Ab (At.region ?_);refine Ah 0 Z Z Z Z Z Z Z ?_;refine Af 0 Z Z Z Z Z Z Z Z Z ?_;refine Ah 1 Z Z Z Z Z Z Z ?_;refine Af 0 Z Z Z Z Z Z Z Z Z ?_;refine Ad Z Z Z Z Z fun b27 h27 => ?_
 have e : b27 = true := by rw [← h27];simp [hne]
 subst e
 refine Ai Z Z Z Z Z Z Z Z (s46 L _) ?_;refine Ab (At.seq (At.region ?_));refine Af 0 Z Z Z Z Z Z Z Z Z ?_;refine Ag 1 Z Z Z Z Z Z Z Z Z Z Z Z ?_;refine Ab ?_
 exact At.ret Tryz.func99 (.inr ⟨_,rfl⟩) rfl (.aggJ 1 Z Z Z .nil) (wk (hc _ _ (⟨by rfl,rfl⟩)))
end Go.Gx
end
section
namespace Go.Gx
open Go Go.Conc
section
variable {P : Program} {H : Facts} {E : Env} {o : Oper}
theorem l_makeSlice {t e : TypeId} {ag : Bool} {by_ : Nat} {z : Value} {x y : Operand} {n : Nat} [hel : ElI P t e ag 1 by_ [z]] (ho : o.op = .makeSlice t x y) (hx : ev E x = some (.int .i64 (n : Int))) (hy : ev E y = some (.int .i64 (n : Int))) (hn : n ≤ 100000) (hby : by_ ≤ 1000) :
  LOp P o E H (fun v H' => ∃ r,v = .slice (some ⟨r,0,none⟩) n n ∧ H' = .own r (.cells (List.toArray (List.replicate n z)) e (0,0)) :: H) :=
 ⟨nd ho (by intro c h;cases h),fun φ hA Q hQ => by
  obtain ⟨zv,h1,h2,h3⟩ := hel.parts
  obtain ⟨d,i,_,h4,_,h6,h7,h8⟩ := tyF_parts h2
  have hz : zv.cells = #[z] := cellsV_eq h3
  unfold execOp;rw [ho];simp only [hA x _ hx,hA y _ hy,Instr.makeSlice,K.bind,k_underlying h1,asInt,asIntOf,K.pure]
  rw [k_typeInfo h4,h8]
  have hw : IntKind.wrap .i64 (n : Int) = n := wrap_in (by omega)
  have hmul : by_ * n ≤ 1000 * 100000 := Nat.mul_le_mul hby hn
  have hmul' : (by_ : Int) * (n : Int) = ((by_ * n : Nat) : Int) := by simp
  rw [hw]
  have hb : (decide ((n : Int) < 0) || decide ((by_ : Int) * (n : Int) > 2 ^ 48)) = false := by
   rw [hmul',decide_eq_false (by omega),decide_eq_false (by omega)];rfl
  have hb2 : (decide ((n : Int) < 0) || decide ((n : Int) > (n : Int))) = false := by
   rw [decide_eq_false (by omega),decide_eq_false (by omega)];rfl
  have hc : ((decide ((n : Int) < 0) || decide ((by_ : Int) * (n : Int) > 2 ^ 48)) || decide ((n : Int) < 0) || decide ((n : Int) > (n : Int))) = false := by
   rw [Bool.or_assoc,hb,hb2];rfl
  rw [hc]
  simp only [Bool.false_eq_true,if_false]
  rw [K.bind]
  refine k_askRoom ?_
  rw [K.bind,k_sizeOf h4,h6]
  have hn' : (n : Int).toNat = n := by omega
  rw [hn']
  have fin : ∀ cs : Array Value,cs.toList = List.replicate n z → K P (do let a ← newRow e cs;pure (Value.slice (some a) n n)) (fun a H' => VS Q (Next.value a) H') H := by
   intro cs hcs
   rw [K.bind]
   show K P (newObj _ >>= _) _ _
   rw [K.bind]
   simp only [newObj,K]
   intro r
   refine hQ _ _ ⟨r,rfl,?_⟩
   rw [← hcs]
  by_cases h0 : n * 1 = 0
  ·rw [if_pos h0,K.bind,K.pure]
   refine fin _ ?_
   have : n = 0 := by omega
   subst this
   simp
  ·rw [if_neg h0,K.bind,k_zeroValue h4 h7,K.bind,K.pure,hz]
   refine fin _ ?_
   apply List.ext_getElem
   ·simp
   ·intro i hi1 hi2
    simp [Nat.mod_one]⟩
theorem q_sliceAA {t e : TypeId} {x : Operand} {ag : Bool} {n sz b off : Nat} [har : ArI P t n e ag sz] (ho : o.op = .slice t x none none none) (hx : ev E x = some (.pointer (some ⟨b,off,none⟩))) :
  QOp P o E H (.slice (some ⟨b,off,none⟩) n n) := by
 obtain ⟨zz,by_,e1,e2⟩ := har.parts
 obtain ⟨d,i,_,e4,_,e6,_,_⟩ := tyF_parts e2
 refine ⟨nd ho (by intro c h;cases h),fun φ hA Q hQ => ?_⟩
 unfold execOp;rw [ho];simp only [Option.map_some,Option.map_none,hA x _ hx,Instr.sliceAt,Instr.sureAddr,K.bind,k_underlying e1,K.pure]
 unfold Instr.sliceBounds
 simp only [K.bind,K.pure]
 rw [k_sizeOf e4]
 have e : (if n = 0 then (⟨b,off,none⟩ : Addr) else (⟨b,off,none⟩ : Addr).add (0 * i.size)) = ⟨b,off,none⟩ := by
  rw [add_none];simp
 rw [e]
 have hQ' : VS Q (.value (.slice (some ⟨b,off,none⟩) n n)) H := hQ
 simpa using hQ'
end
end Go.Gx
end
section
namespace Go.Gx
open Go Go.Conc Go.Proofs
variable {main : Bool}
def cS (f : List UInt8) : List Value := [.string (S f)]
instance : Enc cS 1 := ⟨fun x => rfl,by decide,by intro x v hv;simp [cS] at hv;subst hv;rfl⟩
def joinB (b : UInt8) : List (List UInt8) → List UInt8
 | [] => []
 | [f] => f
 | f :: g :: fs => f ++ b :: joinB b (g :: fs)
theorem count_no {b : UInt8} {f : List UInt8} (h : b ∉ f) : f.count b = 0 := List.count_eq_zero.2 h
theorem joinB_count {b : UInt8} : ∀ {fs : List (List UInt8)},(∀ f ∈ fs,b ∉ f) → 0 < fs.length → (joinB b fs).count b + 1 = fs.length
 | [],_,h => by simp at h
 | [f],h,_ => by simp [joinB,count_no (h f (by simp))]
 | f :: g :: fs,h,_ => by
  have := joinB_count (b := b) (fs := g :: fs) (fun x hx => h x (List.mem_cons_of_mem _ hx)) (by simp)
  simp only [joinB,List.count_append,List.count_cons_self,count_no (h f (by simp))]
  simp only [List.length_cons] at this ⊢
  omega
theorem joinB_len {b : UInt8} : ∀ {fs : List (List UInt8)},fs.length ≤ (joinB b fs).length + 1
 | [] => by simp
 | [f] => by simp
 | f :: g :: fs => by
  have := joinB_len (b := b) (fs := g :: fs)
  simp only [joinB,List.length_append,List.length_cons] at this ⊢
  omega
theorem flat_cS (fs : List (List UInt8)) : fs.flatMap cS = fs.map fun f => .string (S f) := by
 induction fs with
 | nil => rfl
 | cons f fs ih => rw [List.flatMap_cons,ih];rfl
theorem setC_mid {A B : List Value} {x v : Value} : setC (A ++ x :: B) A.length [v] = some (A ++ v :: B) := by
 rw [setC_some (by simp)]
 simp [splice,List.drop_append]
theorem flat_len1 (fs : List (List UInt8)) : (fs.flatMap cS).length = fs.length := by rw [flat_cS,List.length_map]
def rowS (fs : List (List UInt8)) (i : Nat) : List Value := (fs.take i).flatMap cS ++ List.replicate (fs.length - i) (.string ⟨⟨[]⟩⟩)
theorem rowS_set {fs : List (List UInt8)} {i : Nat} {f : List UInt8} (hi : i < fs.length) (hf : fs[i]? = some f) : setC (rowS fs i) (0 + i * 1) [.string (S f)] = some (rowS fs (i + 1)) := by
 have e1 : ((fs.take i).flatMap cS).length = i := by rw [flat_len1,List.length_take];omega
 have e2 : rowS fs i = (fs.take i).flatMap cS ++ .string ⟨⟨[]⟩⟩ :: List.replicate (fs.length - (i + 1)) (.string ⟨⟨[]⟩⟩) := by
  unfold rowS
  rw [show fs.length - i = (fs.length - (i + 1)) + 1 from by omega,List.replicate_succ]
 have e3 : rowS fs (i + 1) = (fs.take i).flatMap cS ++ .string (S f) :: List.replicate (fs.length - (i + 1)) (.string ⟨⟨[]⟩⟩) := by
  unfold rowS
  obtain ⟨h,e⟩ := List.getElem?_eq_some_iff.1 hf
  rw [List.take_succ_eq_append_getElem h,e,List.flatMap_append]
  simp [cS]
 rw [e2,e3,show 0 + i * 1 = ((fs.take i).flatMap cS).length from by omega]
 exact setC_mid
theorem rowS_full (fs : List (List UInt8)) : rowS fs fs.length = fs.flatMap cS := by simp [rowS]
theorem joinB_drop {b : UInt8} {fs : List (List UInt8)} {i : Nat} (hi : i + 1 < fs.length) : joinB b (fs.drop i) = fs[i] ++ b :: joinB b (fs.drop (i + 1)) := by
 rw [List.drop_eq_getElem_cons (by omega),List.drop_eq_getElem_cons hi]
 rfl
theorem joinB_last {b : UInt8} {fs : List (List UInt8)} {i : Nat} (hi : i + 1 = fs.length) : joinB b (fs.drop i) = fs[i] := by
 rw [List.drop_eq_getElem_cons (by omega),List.drop_eq_nil_of_le (by omega)]
 rfl
theorem joinB_drop_len {b : UInt8} {fs : List (List UInt8)} : ∀ (i : Nat),i < fs.length → (joinB b (fs.drop i)).length ≤ (joinB b fs).length
 | 0,_ => by simp
 | i + 1,h => by
  have := joinB_drop_len (b := b) (fs := fs) i (by omega)
  rw [joinB_drop h] at this
  simp only [List.length_append,List.length_cons] at this
  omega
theorem slA_all {r n sz : Nat} : slA (some ⟨r,0,none⟩) n 0 sz = some ⟨r,0,none⟩ := by
 unfold slA
 split
 ·rfl
 ·simp [Addr.add]
set_option maxRecDepth 100000 in
theorem s129 (L : Lg Tryz.prog main) (H : Facts) {b : UInt8} {fs : List (List UInt8)} (hf : ∀ f ∈ fs,b ∉ f) (hp : 0 < fs.length) (hl : (joinB b fs).length ≤ 50000) :
  Grows L 129 #[.string (S (joinB b fs)),.string (S [b]),.int .i64 0,.int .i64 (-1)] H (fun v sf => ∃ r,v = .slice (some ⟨r,0,none⟩) fs.length fs.length ∧ sf = [.own r (.cells (List.toArray (fs.flatMap cS)) 9 (0,0))]) := by
 refine Spec.enter Tryz.func129 rfl (by simp [Tryz.f129]) fun c cs hc => ?_
 have h1 : [b].length = 1 := rfl
 have hct := joinB_count hf hp
 have hlen := joinB_len (b := b) (fs := fs)
 have hne : ([b] == ([] : List UInt8)) = false := by simp
 refine At.seq (At.region ?_);refine Aa Z Z Z Z Z O ?_;refine Ab (At.seq (At.seq (At.region ?_)));refine Aa Z Z Z Z Z O ?_;refine Ad Z Z Z Z Z fun b13 h13 => ?_;refine Ab ?_
 obtain rfl : b13 = false := h13.symm.trans (by kernel_rfl)
 refine At.cond Z ?_;refine At.skip (At.seq (At.seq (At.region ?_)));refine Aa Z Z Z Z Z O ?_;refine At.qb Z Z Z Z (q_strEqS Z Z Z) fun b15 h15 => ?_;refine Ab ?_
 obtain rfl : b15 = false := h15.symm.trans (by kernel_rfl)
 refine At.cond Z ?_;refine At.skip (At.seq (At.seq (At.region ?_)));refine Aa Z Z Z Z Z O ?_;refine Ad Z Z Z Z Z fun b20 h20 => ?_;refine Ab ?_
 obtain rfl : b20 = true := h20.symm.trans (by kernel_rfl)
 refine At.cond Z ?_;refine At.region ?_;(iterate 2 refine Aa Z Z Z Z Z O ?_);refine Ai Z Z Z Z Z Z Z Z (s158 L _) ?_;refine Aa Z Z Z Z Z (by omega) ?_;refine Aa Z Z Z Z Z O ?_;refine Ab (At.seq (At.region ?_));(iterate 2 refine Aa Z Z Z Z Z O ?_);refine Ae Z Z Z Z (q_lenSS Z Z Z Z) ?_;refine Aa Z Z Z Z Z (by omega) ?_
 (iterate 2 refine Aa Z Z Z Z Z O ?_);refine Ab (At.seq (At.region ?_));refine Aa Z Z Z Z Z O ?_
 rw [show (if ((joinB b fs).length : Int) + 1 < ((List.count b (joinB b fs) : Nat) : Int) + 1 then ((joinB b fs).length : Int) + 1 else ((List.count b (joinB b fs) : Nat) : Int) + 1) = ((fs.length : Nat) : Int) from by rw [if_neg (by omega)];omega]
 refine At.l Z Z Z Z (l_makeSlice (n := fs.length) Z Z Z (by omega) (by decide)) ?_
 rintro _ _ ⟨r,rfl,rfl⟩
 refine Aa Z Z Z Z Z O ?_;refine Ab (At.seq (At.region ?_));refine Aa Z Z Z Z Z O ?_;refine Aa Z Z Z Z Z (by omega) ?_;refine Aa Z Z Z Z Z O ?_;refine Ab (At.seq (At.region ?_));refine Aa Z Z Z Z Z O ?_;refine Ab (At.seq ?_);refine At.block ?_
 generalize hl0 : List.replicate fs.length (Value.string ⟨⟨[]⟩⟩) = l0
 refine Az (X := { x : Nat × List Value // x.1 < fs.length ∧ x.2 = rowS fs x.1 }) [1,2,3,8,9] (fun x => [(10,.int .i64 (x.1.1 : Int)),(0,.string (S (joinB b (fs.drop x.1.1))))]) (fun x => .own r (.cells (List.toArray x.1.2) 9 (0,0)) :: H) (fun x => fs.length - x.1.1) (⟨(0,l0),hp,by rw [← hl0];simp [rowS]⟩) rfl ?_ (by repeat (first | exact trivial | refine ⟨rfl,?_⟩)) sb
 rintro ⟨⟨i,l⟩,hi,hli⟩ again
 simp only at again hi hli ⊢
 have hdl := joinB_drop_len (b := b) (fs := fs) i hi
 refine At.seq (At.seq (At.region ?_));(iterate 2 refine Aa Z Z Z Z Z O ?_);refine Ad Z Z Z Z Z fun b36 h36 => ?_;refine Ab ?_
 have hs := rowS_set (fs := fs) hi (List.getElem?_eq_getElem hi)
 rw [← hli] at hs
 cases b36
 ·have e : i + 1 = fs.length := by simp at h36;omega
  rw [joinB_last e]
  refine At.cond Z ?_;refine At.exit rfl ?_;refine At.seq (At.region ?_);(iterate 3 refine Aa Z Z Z Z Z O ?_);refine Ae Z Z Z Z (q_ia Z Z Z (by assumption)) ?_;refine Ag 0 Z Z Z Z Z Z Z Z Z Z hs rfl ?_;refine Ab (At.seq (At.region ?_));(iterate 2 refine Aa Z Z Z Z Z O ?_);refine Aa Z Z Z Z Z (by omega) ?_;refine Ae Z Z Z Z (q_sliceH (h := (i + 1)) Z Z Z (by assumption)) ?_
  refine Aa Z Z Z Z Z O ?_;refine Ab ?_
  rw [slA_all,e,rowS_full]
  exact At.ret Tryz.func129 (.inr ⟨_,rfl⟩) rfl (.tmp rfl .nil) (wk (hc _ _ (⟨[_],⟨r,rfl,rfl⟩,rfl⟩)))
 ·have hlt : i + 1 < fs.length := by simp at h36;omega
  have hno : b ∉ fs[i] := hf _ (List.getElem_mem hi)
  rw [joinB_drop hlt] at hdl ⊢
  have hle : (fs[i] ++ b :: joinB b (fs.drop (i + 1))).length = fs[i].length + (joinB b (fs.drop (i + 1))).length + 1 := by simp;omega
  have stop159 := trivial
  refine At.cond Z ?_;refine At.skip ?_;refine At.block ?_;refine At.seq (At.region ?_);(iterate 2 refine Aa Z Z Z Z Z O ?_)
  clear stop159
  refine Ai Z Z Z Z Z Z Z Z (s159 L _) ?_
  rw [ixI_some hno]
  refine Aa Z Z Z Z Z O ?_;refine Ab (At.seq (At.seq (At.region ?_)));refine Aa Z Z Z Z Z O ?_;refine Ad Z Z Z Z Z fun b41 h41 => ?_;refine Ab ?_
  obtain rfl : b41 = false := h41.symm.trans (by kernel_rfl)
  refine At.cond Z ?_;refine At.skip (At.seq (At.region ?_));(iterate 5 refine Aa Z Z Z Z Z O ?_);refine Aa Z Z Z Z Z (by omega) ?_;refine Ae Z Z Z Z (q_cutH (h := (fs[i].length + 0)) Z Z Z (by omega)) ?_;refine Ae Z Z Z Z (q_ia Z Z Z (by assumption)) ?_
  rw [show (fs[i] ++ b :: joinB b (fs.drop (i + 1))).take (fs[i].length + 0) = fs[i] by simp]
  refine Ag 0 Z Z Z Z Z Z Z Z Z Z hs rfl ?_;refine Ab (At.seq (At.region ?_));(iterate 3 refine Aa Z Z Z Z Z O ?_);refine Ae Z Z Z Z (q_lenSS Z Z Z Z) ?_;refine Aa Z Z Z Z Z (by omega) ?_;refine Ae Z Z Z Z (q_cutL (l := (fs[i].length + 1)) Z Z Z (by omega)) ?_;refine Aa Z Z Z Z Z O ?_;refine Ab (At.region ?_);refine Aa Z Z Z Z Z O ?_
  refine Aa Z Z Z Z Z (by omega) ?_;refine Aa Z Z Z Z Z O ?_;refine Ab ?_;refine At.inBlock ?_
  rw [show (fs[i] ++ b :: joinB b (fs.drop (i + 1))).drop (fs[i].length + 1) = joinB b (fs.drop (i + 1)) by simp [List.drop_append]]
  refine Aq ((again ⟨(i + 1,rowS fs (i + 1)),hlt,rfl⟩ (by simp only;omega)))
theorem s95 (L : Lg Tryz.prog main) (H : Facts) {b : UInt8} {fs : List (List UInt8)} (hf : ∀ f ∈ fs,b ∉ f) (hp : 0 < fs.length) (hl : (joinB b fs).length ≤ 50000) :
  Grows L 95 #[.string (S (joinB b fs)),.string (S [b])] H (fun v sf => ∃ r,v = .slice (some ⟨r,0,none⟩) fs.length fs.length ∧ sf = [.own r (.cells (List.toArray (fs.flatMap cS)) 9 (0,0))]) := by
 refine Spec.enter Tryz.func95 rfl (by simp [Tryz.f95]) fun c cs hc => ?_
 have stop129 := trivial
 refine At.seq (At.region ?_);refine Aa Z Z Z Z Z O ?_;refine Ab (At.seq (At.region ?_));(iterate 2 refine Aa Z Z Z Z Z O ?_)
 clear stop129
 refine Ay Z Z Z Z Z Z Z Z (s129 L _ hf hp hl) ?_
 rintro _ _ ⟨_,⟨r,rfl,rfl⟩,rfl⟩
 refine Aa Z Z Z Z Z O ?_;refine Ab ?_
 exact At.ret Tryz.func95 (.inr ⟨_,rfl⟩) rfl (.tmp rfl .nil) (wk (hc _ _ (⟨[_],⟨r,rfl,rfl⟩,rfl⟩)))
def idxS (w : List UInt8) : List (List UInt8) → Nat → Int
 | [],_ => -1
 | f :: fs,k => if w = f then (k : Int) else idxS w fs (k + 1)
set_option maxRecDepth 100000 in
theorem s96 (L : Lg Tryz.prog main) (H : Facts) {a : Option Addr} {n cap : Nat} {w : List UInt8} {fs : List (List UInt8)} (hn : fs.length = n) (hr : Rd H a (fs.flatMap cS)) (hl : fs.length ≤ 100000) : Pure L 96 #[.slice a n cap,.string (S w)] H (.int .i64 (idxS w fs 0)) := by
 subst hn
 refine Spec.enter Tryz.func96 rfl (by simp [Tryz.f96]) fun c cs hc => ?_;refine At.seq (At.region ?_);refine Aa Z Z Z Z Z O ?_;refine Ab (At.seq (At.seq (At.region ?_)));refine Aa Z Z Z Z Z O ?_;refine Ao Z Z Z Z Z Z Z Z ?_;refine Aa Z Z Z Z Z O ?_;refine Ab ?_;refine At.block ?_
 refine Az (X := { j : Nat // j ≤ fs.length ∧ idxS w (fs.drop j) j = idxS w fs 0 }) [0,1,7] (fun x => [(8,.int .i64 (x.1 : Int))]) (fun _ => H) (fun x => fs.length - x.1) (⟨0,Nat.zero_le _,rfl⟩) rfl ?_ (by repeat (first | exact trivial | refine ⟨rfl,?_⟩)) sb
 rintro ⟨j,hj,hd⟩ again
 simp only at again ⊢
 refine At.seq (At.region ?_);refine Ad Z Z Z Z Z fun b9 h9 => ?_;refine Ab (At.seq ?_)
 cases b9
 ·have e : j = fs.length := by simp at h9;omega
  subst e
  rw [List.drop_length] at hd
  rw [← hd] at hc
  refine At.cond Z ?_;refine At.exit rfl ?_;refine At.seq (At.region ?_);refine Aa Z Z Z Z Z O ?_;refine Ab ?_
  exact At.ret Tryz.func96 (.inr ⟨_,rfl⟩) rfl (.tmp rfl .nil) (wk (hc _ _ (⟨by rfl,rfl⟩)))
 ·have hlt : j < fs.length := by simp at h9;omega
  obtain ⟨b,off,rfl,hc1⟩ := hr.el (List.getElem?_eq_getElem hlt)
  rw [List.drop_eq_getElem_cons hlt,idxS] at hd
  refine At.cond Z ?_;refine At.skip (At.seq ?_);refine At.block ?_;refine At.seq (At.region ?_);(iterate 2 refine Aa Z Z Z Z Z O ?_);refine Ab (At.seq (At.region ?_));(iterate 3 refine Aa Z Z Z Z Z O ?_);refine Ae Z Z Z Z (q_ia Z Z Z (by assumption)) ?_;refine Au Z Z Z Z Z Z hc1.a Z Z ?_;refine At.qb Z Z Z Z (q_strEqS Z Z Z) fun b16 h16 => ?_;refine Ab ?_
  cases b16
  ·have e : ¬ w = fs[j] := by simpa using h16
   rw [if_neg e] at hd
   refine At.cond Z ?_;refine At.skip ?_;refine At.inBlock ?_;refine At.region ?_;refine Aa Z Z Z Z Z (by omega) ?_;refine Aa Z Z Z Z Z O ?_;refine Ab ?_
   refine Aq ((again ⟨j + 1,hlt,hd⟩ (by simp only;omega)))
  ·have e : w = fs[j] := by simpa using h16
   rw [if_pos e] at hd
   rw [← hd] at hc
   refine At.cond Z ?_;refine At.seq (At.region ?_);(iterate 2 refine Aa Z Z Z Z Z O ?_);refine Ab ?_
   exact At.ret Tryz.func96 (.inr ⟨_,rfl⟩) rfl (.tmp rfl .nil) (wk (hc _ _ (⟨by rfl,rfl⟩)))
theorem s97 (L : Lg Tryz.prog main) (H : Facts) {a : Option Addr} {n cap : Nat} {w : List UInt8} {fs : List (List UInt8)} (hn : fs.length = n) (hr : Rd H a (fs.flatMap cS)) (hl : fs.length ≤ 100000) : Pure L 97 #[.slice a n cap,.string (S w)] H (.bool (decide (0 ≤ idxS w fs 0))) := by
 refine Spec.enter Tryz.func97 rfl (by simp [Tryz.f97]) fun c cs hc => ?_
 have stop96 := trivial
 refine At.seq (At.region ?_);refine Aa Z Z Z Z Z O ?_;refine Ab (At.seq (At.region ?_));(iterate 2 refine Aa Z Z Z Z Z O ?_)
 clear stop96
 refine Ai Z Z Z Z Z Z Z Z (s96 L _ hn hr hl) ?_;refine Ad Z Z Z Z Z fun b8 h8 => ?_;refine Aa Z Z Z Z Z O ?_;refine Ab ?_
 rw [h8] at hc
 exact At.ret Tryz.func97 (.inr ⟨_,rfl⟩) rfl (.tmp rfl .nil) (wk (hc _ _ (⟨by rfl,rfl⟩)))
end Go.Gx
end
section
namespace Go.Gx
open Go Go.Conc Go.Proofs
variable {main : Bool}
def wordL (k : Nat) : List UInt8 := match k with
 | 0 => [99,97,110,118,97,115]
 | 1 => [112,111,105,110,116]
 | _ => [109,97,114,107]
def wordsC : List Value := [.string (S (wordL 0)),.string (S (wordL 1)),.string (S (wordL 2))]
def fieldsC : List Value := [.int .i64 2,.int .i64 2,.int .i64 3]
structure TabT (H : Facts) : Prop where
 w : Cells H 0 0 wordsC
 f : Cells H 2 0 fieldsC
theorem TabT.a {H H' : Facts} (h : TabT H) (hs : Sub H H' := by repeat (first | exact Sub.refl _ | assumption | exact Sub.pre _ _ | apply Sub.cons | apply Sub.drop | apply Sub.appL | apply Sub.dropL | refine Sub.trans ?_ (by assumption))) : TabT H' := ⟨h.w.a hs,h.f.a hs⟩
instance : NifI Tryz.prog 104 := ⟨by kernel_rfl⟩
instance : NifI Tryz.prog 105 := ⟨by kernel_rfl⟩
instance : NifI Tryz.prog 106 := ⟨by kernel_rfl⟩
theorem idxS_no {w : List UInt8} : ∀ {fs : List (List UInt8)} {k : Nat},w ∉ fs → idxS w fs k = -1
 | [],k,_ => rfl
 | f :: fs,k,h => by
  unfold idxS
  rw [if_neg fun e => h (by rw [e];exact List.mem_cons_self ..)]
  exact idxS_no fun hm => h (List.mem_cons_of_mem _ hm)
set_option maxRecDepth 100000 in
theorem s44p (L : Lg Tryz.prog main) (H : Facts) (ht : TabT H) {n1 n2 : Bool} {d1 d2 : List UInt8} (h1 : NumOk n1 d1) (h2 : NumOk n2 d2) (hf : ∀ f ∈ [wordL 1,sgn n1 d1,sgn n2 d2],(32 : UInt8) ∉ f ∧ f ≠ []) (hl : (joinB 32 [wordL 1,sgn n1 d1,sgn n2 d2]).length ≤ 50000) :
  Pure L 44 #[.string (S (joinB 32 [wordL 1,sgn n1 d1,sgn n2 d2]))] H (.iface 105 (.agg #[.int .i64 (sval n1 d1),.int .i64 (sval n2 d2)])) := by
 refine Spec.enter Tryz.func44 rfl (by simp [Tryz.f44]) fun c cs hc => ?_
 have h3 : [wordL 1,sgn n1 d1,sgn n2 d2].length = 3 := rfl
 have htw := ht.w
 have htf := ht.f
 have stop95 := trivial
 refine At.seq (At.region ?_);refine Aa Z Z Z Z Z O ?_;refine Ab (At.seq (At.region ?_));refine Aa Z Z Z Z Z O ?_
 clear stop95
 refine Ay Z Z Z Z Z Z Z Z (s95 L _ (b := 32) (fs := [wordL 1,sgn n1 d1,sgn n2 d2]) (fun f hm => (hf f hm).1) (by simp) hl) ?_
 rintro _ _ ⟨_,⟨r,rfl,rfl⟩,rfl⟩
 have stop96 := trivial
 refine Aa Z Z Z Z Z O ?_;refine Ab (At.seq ?_);refine Aw hmix [] rfl ?_;refine Ak 0 Z Z Z Z Z (q_sliceAA Z Z) rfl ?_;refine Ac 1 Z Z Z Z Z Z Z O ?_;refine Ak 2 Z Z Z Z Z (q_ia Z Z Z (by dsimp only;omega)) rfl ?_;refine Aj 0 3 Z Z Z Z Z Z Z Z Z Z Z ?_
 refine Ap 4 Z Z Z Z Z Z Z Z Z (fun H_ hs_ => s96 L H_ (fs := [wordL 0,wordL 1,wordL 2]) (w := wordL 1) rfl (rd_cells (htw.a)) (by decide)) ?_
 clear stop96
 rw [show idxS (wordL 1) [wordL 0,wordL 1,wordL 2] 0 = 1 from by decide]
 have stop97 := trivial
 refine Ac 5 Z Z Z Z Z Z Z O ?_;refine pool_done Z Z ?_;refine Ab (At.seq (At.region ?_));refine Aa Z Z Z Z Z O ?_;refine Ad Z Z Z Z Z fun b13 h13 => ?_;refine Aa Z Z Z Z Z O ?_
 obtain rfl : b13 = true := h13.symm.trans (by kernel_rfl)
 refine Aa Z Z Z Z Z O ?_
 clear stop97
 refine Ai Z Z Z Z Z Z Z Z (s97 L _ (w := []) (fs := [wordL 1,sgn n1 d1,sgn n2 d2]) rfl (rd_cells (cells_all (List.mem_cons_self ..))) (by simp)) ?_
 rw [show decide (0 ≤ idxS [] [wordL 1,sgn n1 d1,sgn n2 d2] 0) = false from by rw [idxS_no fun hm => (hf _ hm).2 rfl];rfl]
 (iterate 4 refine Aa Z Z Z Z Z O ?_);refine Ao Z Z Z Z Z Z Z Z ?_;refine Aa Z Z Z Z Z (by omega) ?_;refine Aa Z Z Z Z Z O ?_;refine Ae Z Z Z Z (q_iaA Z Z Z (by dsimp only;omega)) ?_;refine Au Z Z Z Z Z Z (htf.s 1 1 rfl) Z Z ?_;refine Ad Z Z Z Z Z fun b26 h26 => ?_;refine Aa Z Z Z Z Z O ?_
 have e26 : b26 = true := by rw [← h26,h3];rfl
 subst e26
 refine Ai Z Z Z Z Z Z Z Z (s46 L _) ?_;refine Ab (At.seq (At.seq (At.region ?_)));refine Aa Z Z Z Z Z O ?_;refine Ab ?_;refine At.block ?_;refine At.seq (At.region ?_);refine Ad Z Z Z Z Z fun b31 h31 => ?_;refine Aa Z Z Z Z Z O ?_;refine Ab ?_
 obtain rfl : b31 = false := h31.symm.trans (by kernel_rfl)
 refine At.cond Z ?_;refine At.seq (At.region ?_);refine Ad Z Z Z Z Z fun b43 h43 => ?_;refine Aa Z Z Z Z Z O ?_;refine Ab ?_
 obtain rfl : b43 = true := h43.symm.trans (by kernel_rfl)
 refine At.cond Z ?_;refine At.seq ?_;refine Aw hmix [] rfl ?_;refine Ac 0 Z Z Z Z Z Z Z O ?_;refine Ak 1 Z Z Z Z Z (q_ia Z Z Z (by dsimp only;omega)) rfl ?_;refine Aj 0 2 Z Z Z Z Z Z Z Z Z Z Z ?_;refine Ap 3 Z Z Z Z Z Z Z Z Z (fun H hs => s98 L H bs) ?_;refine Ac 4 Z Z Z Z Z Z Z O ?_
 refine Ak 5 Z Z Z Z Z (q_ia Z Z Z (by dsimp only;omega)) rfl ?_;refine Aj 0 6 Z Z Z Z Z Z Z Z Z Z Z ?_;refine Ap 7 Z Z Z Z Z Z Z Z Z (fun H hs => s98 L H bs) ?_;refine Ak 8 Z Z Z Z Z (q_build Z Z Z) rfl ?_;refine Ak 9 Z Z Z Z Z (q_mkIface Z Z) rfl ?_;refine Ac 10 Z Z Z Z Z Z Z O ?_;refine pool_done Z Z ?_;refine Ab ?_
 exact At.ret Tryz.func44 (.inr ⟨_,rfl⟩) rfl (.tmp rfl .nil) (wk (hc _ _ (⟨by rfl,rfl⟩)))
set_option maxRecDepth 100000 in
theorem s44m (L : Lg Tryz.prog main) (H : Facts) (ht : TabT H) {n1 n2 n3 : Bool} {d1 d2 d3 : List UInt8} (h1 : NumOk n1 d1) (h2 : NumOk n2 d2) (h4 : NumOk n3 d3) (hf : ∀ f ∈ [wordL 2,sgn n1 d1,sgn n2 d2,sgn n3 d3],(32 : UInt8) ∉ f ∧ f ≠ []) (hl : (joinB 32 [wordL 2,sgn n1 d1,sgn n2 d2,sgn n3 d3]).length ≤ 50000) :
  Pure L 44 #[.string (S (joinB 32 [wordL 2,sgn n1 d1,sgn n2 d2,sgn n3 d3]))] H (.iface 106 (.agg #[.int .i64 (sval n1 d1),.int .i64 (sval n2 d2),.int .i64 (sval n3 d3)])) := by
 refine Spec.enter Tryz.func44 rfl (by simp [Tryz.f44]) fun c cs hc => ?_
 have h3 : [wordL 2,sgn n1 d1,sgn n2 d2,sgn n3 d3].length = 4 := rfl
 have htw := ht.w
 have htf := ht.f
 have stop95 := trivial
 refine At.seq (At.region ?_);refine Aa Z Z Z Z Z O ?_;refine Ab (At.seq (At.region ?_));refine Aa Z Z Z Z Z O ?_
 clear stop95
 refine Ay Z Z Z Z Z Z Z Z (s95 L _ (b := 32) (fs := [wordL 2,sgn n1 d1,sgn n2 d2,sgn n3 d3]) (fun f hm => (hf f hm).1) (by simp) hl) ?_
 rintro _ _ ⟨_,⟨r,rfl,rfl⟩,rfl⟩
 have stop96 := trivial
 refine Aa Z Z Z Z Z O ?_;refine Ab (At.seq ?_);refine Aw hmix [] rfl ?_;refine Ak 0 Z Z Z Z Z (q_sliceAA Z Z) rfl ?_;refine Ac 1 Z Z Z Z Z Z Z O ?_;refine Ak 2 Z Z Z Z Z (q_ia Z Z Z (by dsimp only;omega)) rfl ?_;refine Aj 0 3 Z Z Z Z Z Z Z Z Z Z Z ?_
 refine Ap 4 Z Z Z Z Z Z Z Z Z (fun H_ hs_ => s96 L H_ (fs := [wordL 0,wordL 1,wordL 2]) (w := wordL 2) rfl (rd_cells (htw.a)) (by decide)) ?_
 clear stop96
 rw [show idxS (wordL 2) [wordL 0,wordL 1,wordL 2] 0 = 2 from by decide]
 have stop97 := trivial
 refine Ac 5 Z Z Z Z Z Z Z O ?_;refine pool_done Z Z ?_;refine Ab (At.seq (At.region ?_));refine Aa Z Z Z Z Z O ?_;refine Ad Z Z Z Z Z fun b13 h13 => ?_;refine Aa Z Z Z Z Z O ?_
 obtain rfl : b13 = true := h13.symm.trans (by kernel_rfl)
 refine Aa Z Z Z Z Z O ?_
 clear stop97
 refine Ai Z Z Z Z Z Z Z Z (s97 L _ (w := []) (fs := [wordL 2,sgn n1 d1,sgn n2 d2,sgn n3 d3]) rfl (rd_cells (cells_all (List.mem_cons_self ..))) (by simp)) ?_
 rw [show decide (0 ≤ idxS [] [wordL 2,sgn n1 d1,sgn n2 d2,sgn n3 d3] 0) = false from by rw [idxS_no fun hm => (hf _ hm).2 rfl];rfl]
 (iterate 4 refine Aa Z Z Z Z Z O ?_);refine Ao Z Z Z Z Z Z Z Z ?_;refine Aa Z Z Z Z Z (by omega) ?_;refine Aa Z Z Z Z Z O ?_;refine Ae Z Z Z Z (q_iaA Z Z Z (by dsimp only;omega)) ?_;refine Au Z Z Z Z Z Z (htf.s 2 1 rfl) Z Z ?_;refine Ad Z Z Z Z Z fun b26 h26 => ?_;refine Aa Z Z Z Z Z O ?_
 have e26 : b26 = true := by rw [← h26,h3];rfl
 subst e26
 refine Ai Z Z Z Z Z Z Z Z (s46 L _) ?_;refine Ab (At.seq (At.seq (At.region ?_)));refine Aa Z Z Z Z Z O ?_;refine Ab ?_;refine At.block ?_;refine At.seq (At.region ?_);refine Ad Z Z Z Z Z fun b31 h31 => ?_;refine Aa Z Z Z Z Z O ?_;refine Ab ?_
 obtain rfl : b31 = false := h31.symm.trans (by kernel_rfl)
 refine At.cond Z ?_;refine At.seq (At.region ?_);refine Ad Z Z Z Z Z fun b43 h43 => ?_;refine Aa Z Z Z Z Z O ?_;refine Ab ?_
 obtain rfl : b43 = false := h43.symm.trans (by kernel_rfl)
 refine At.cond Z ?_;refine At.skip ?_;refine At.inBlock ?_;refine At.seq ?_;refine Aw hmix [] rfl ?_;refine Ac 0 Z Z Z Z Z Z Z O ?_;refine Ak 1 Z Z Z Z Z (q_ia Z Z Z (by dsimp only;omega)) rfl ?_;refine Aj 0 2 Z Z Z Z Z Z Z Z Z Z Z ?_;refine Ap 3 Z Z Z Z Z Z Z Z Z (fun H hs => s98 L H bs) ?_;refine Ac 4 Z Z Z Z Z Z Z O ?_
 refine Ak 5 Z Z Z Z Z (q_ia Z Z Z (by dsimp only;omega)) rfl ?_;refine Aj 0 6 Z Z Z Z Z Z Z Z Z Z Z ?_;refine Ap 7 Z Z Z Z Z Z Z Z Z (fun H hs => s98 L H bs) ?_;refine Ak 8 Z Z Z Z Z (q_build Z Z Z) rfl ?_;refine Ac 9 Z Z Z Z Z Z Z O ?_;refine Ak 10 Z Z Z Z Z (q_ia Z Z Z (by dsimp only;omega)) rfl ?_
 refine Aj 0 11 Z Z Z Z Z Z Z Z Z Z Z ?_;refine Ap 12 Z Z Z Z Z Z Z Z Z (fun H hs => s98 L H bs) ?_;refine Ak 13 Z Z Z Z Z (q_build Z Z Z) rfl ?_;refine Ak 14 Z Z Z Z Z (q_mkIface Z Z) rfl ?_;refine Ac 15 Z Z Z Z Z Z Z O ?_;refine pool_done Z Z ?_;refine Ab ?_
 exact At.ret Tryz.func44 (.inr ⟨_,rfl⟩) rfl (.tmp rfl .nil) (wk (hc _ _ (⟨by rfl,rfl⟩)))
set_option maxRecDepth 100000 in
theorem s44c (L : Lg Tryz.prog main) (H : Facts) (ht : TabT H) {n1 : Bool} {d1 bt : List UInt8} {lo hi : Int} (h1 : NumOk n1 d1) (hb : ∀ H,Pure L 99 #[.string (S bt)] H (.agg #[.int .i64 lo,.int .i64 hi])) (hf : ∀ f ∈ [wordL 0,sgn n1 d1,bt],(32 : UInt8) ∉ f ∧ f ≠ []) (hl : (joinB 32 [wordL 0,sgn n1 d1,bt]).length ≤ 50000) :
  Pure L 44 #[.string (S (joinB 32 [wordL 0,sgn n1 d1,bt]))] H (.iface 104 (.agg #[.int .i64 (sval n1 d1),.int .i64 lo,.int .i64 hi])) := by
 refine Spec.enter Tryz.func44 rfl (by simp [Tryz.f44]) fun c cs hc => ?_
 have h3 : [wordL 0,sgn n1 d1,bt].length = 3 := rfl
 have htw := ht.w
 have htf := ht.f
 have stop95 := trivial
 refine At.seq (At.region ?_);refine Aa Z Z Z Z Z O ?_;refine Ab (At.seq (At.region ?_));refine Aa Z Z Z Z Z O ?_
 clear stop95
 refine Ay Z Z Z Z Z Z Z Z (s95 L _ (b := 32) (fs := [wordL 0,sgn n1 d1,bt]) (fun f hm => (hf f hm).1) (by simp) hl) ?_
 rintro _ _ ⟨_,⟨r,rfl,rfl⟩,rfl⟩
 have stop96 := trivial
 refine Aa Z Z Z Z Z O ?_;refine Ab (At.seq ?_);refine Aw hmix [] rfl ?_;refine Ak 0 Z Z Z Z Z (q_sliceAA Z Z) rfl ?_;refine Ac 1 Z Z Z Z Z Z Z O ?_;refine Ak 2 Z Z Z Z Z (q_ia Z Z Z (by dsimp only;omega)) rfl ?_;refine Aj 0 3 Z Z Z Z Z Z Z Z Z Z Z ?_
 refine Ap 4 Z Z Z Z Z Z Z Z Z (fun H_ hs_ => s96 L H_ (fs := [wordL 0,wordL 1,wordL 2]) (w := wordL 0) rfl (rd_cells (htw.a)) (by decide)) ?_
 clear stop96
 rw [show idxS (wordL 0) [wordL 0,wordL 1,wordL 2] 0 = 0 from by decide]
 have stop97 := trivial
 refine Ac 5 Z Z Z Z Z Z Z O ?_;refine pool_done Z Z ?_;refine Ab (At.seq (At.region ?_));refine Aa Z Z Z Z Z O ?_;refine Ad Z Z Z Z Z fun b13 h13 => ?_;refine Aa Z Z Z Z Z O ?_
 obtain rfl : b13 = true := h13.symm.trans (by kernel_rfl)
 refine Aa Z Z Z Z Z O ?_
 clear stop97
 refine Ai Z Z Z Z Z Z Z Z (s97 L _ (w := []) (fs := [wordL 0,sgn n1 d1,bt]) rfl (rd_cells (cells_all (List.mem_cons_self ..))) (by simp)) ?_
 rw [show decide (0 ≤ idxS [] [wordL 0,sgn n1 d1,bt] 0) = false from by rw [idxS_no fun hm => (hf _ hm).2 rfl];rfl]
 (iterate 4 refine Aa Z Z Z Z Z O ?_);refine Ao Z Z Z Z Z Z Z Z ?_;refine Aa Z Z Z Z Z (by omega) ?_;refine Aa Z Z Z Z Z O ?_;refine Ae Z Z Z Z (q_iaA Z Z Z (by dsimp only;omega)) ?_;refine Au Z Z Z Z Z Z (htf.s 0 1 rfl) Z Z ?_;refine Ad Z Z Z Z Z fun b26 h26 => ?_;refine Aa Z Z Z Z Z O ?_
 have e26 : b26 = true := by rw [← h26,h3];rfl
 subst e26
 refine Ai Z Z Z Z Z Z Z Z (s46 L _) ?_;refine Ab (At.seq (At.seq (At.region ?_)));refine Aa Z Z Z Z Z O ?_;refine Ab ?_;refine At.block ?_;refine At.seq (At.region ?_);refine Ad Z Z Z Z Z fun b31 h31 => ?_;refine Aa Z Z Z Z Z O ?_;refine Ab ?_
 obtain rfl : b31 = true := h31.symm.trans (by kernel_rfl)
 refine At.cond Z ?_;refine At.seq ?_;refine Bd hmix (_) sb ?_;refine Ac 0 Z Z Z Z Z Z Z O ?_;refine Ak 1 Z Z Z Z Z (q_ia Z Z Z (by dsimp only;omega)) rfl ?_;refine Aj 0 2 Z Z Z Z Z Z Z Z Z Z Z ?_;refine Ap 3 Z Z Z Z Z Z Z Z Z (fun H hs => s98 L H bs) ?_;refine Ac 4 Z Z Z Z Z Z Z O ?_
 refine Ak 5 Z Z Z Z Z (q_ia Z Z Z (by dsimp only;omega)) rfl ?_;refine Aj 0 6 Z Z Z Z Z Z Z Z Z Z Z ?_;refine Ap 7 Z Z Z Z Z Z Z Z Z (fun H_ hs_ => hb H_) ?_;refine Ak 8 Z Z Z Z Z (q_build Z Z Z) rfl ?_;refine Ak 9 Z Z Z Z Z (q_mkIface Z Z) rfl ?_;refine Ac 10 Z Z Z Z Z Z Z O ?_;refine pool_done Z Z ?_;refine Ab ?_
 exact At.ret Tryz.func44 (.inr ⟨_,rfl⟩) rfl (.tmp rfl .nil) (wk (hc _ _ (⟨by rfl,rfl⟩)))
end Go.Gx
end
section
namespace Go.Gx
open Go Go.Conc
section
variable {P : Program} {main : Bool}
variable {L : Lg P main} {f : FuncId} {ro : Option Nat} {ds : Dz} {cs : List Frame} {n : Nat} {E : Env} {H lit Hk : Facts} {k : List Item} {ops : Array Oper} {i : Nat} {rest : List Nat} {o : Oper} {d : Nat}
end
end Go.Gx
end
section
namespace Go.Gx
open Go Go.Conc Go.Proofs
variable {main : Bool}
inductive LnOk : List (List UInt8) → Prop
 | nil : LnOk []
 | last {u : List UInt8} (h : (10 : UInt8) ∉ u) (h0 : u ≠ []) : LnOk [u]
 | cons {u : List UInt8} {ls : List (List UInt8)} (h : (10 : UInt8) ∉ u) (hs : LnOk ls) : LnOk ((u ++ [10]) :: ls)
theorem LnOk.drop {ls : List (List UInt8)} (h : LnOk ls) : ∀ j,LnOk (ls.drop j) := by
 induction h with
 | nil => intro j;simp;exact .nil
 | last h h0 =>
  intro j
  cases j with
  | zero => exact .last h h0
  | succ j => simp;exact .nil
 | cons h hs ih =>
  intro j
  cases j with
  | zero => exact .cons h hs
  | succ j => exact ih j
theorem drop_cons {α : Type} {ls : List α} {j : Nat} {x : α} {rest : List α} (h : ls.drop j = x :: rest) : j < ls.length ∧ ls[j]? = some x ∧ ls.drop (j + 1) = rest := by
 have hj : j < ls.length := by
  rcases Nat.lt_or_ge j ls.length with h' | h'
  ·exact h'
  ·rw [List.drop_eq_nil_of_le h'] at h;cases h
 rw [List.drop_eq_getElem_cons hj] at h
 cases h
 exact ⟨hj,List.getElem?_eq_getElem hj,rfl⟩
def strV (l : List UInt8) : Value := .string (S l)
end Go.Gx
end
section
namespace Go.Gx
open Go Go.Conc
section
variable {P : Program} {main : Bool} {L : Lg P main} {f : FuncId} {ro : Option Nat} {ds : Dz} {cs : List Frame} {n : Nat} {k : List Item} {ops : Array Oper} {Hq H : Facts} {R : List Reg} {Ls : List Nat} {Fs : List Flo} {E : Env} {o : Oper} {d : Nat}
theorem reg_inv {i : Nat} {x : Operand} {az : Array Operand} {ats : Array TypeId} {t : TypeId} {name : String} {g : FuncId} {v0 v : Value} {vs : List Value} [hm : MtI P t name g] (ho : ops[i]? = some o) (hw : wantE ops o E = some true) (hop : o.op = .call { callee := .invoke x name,args := az,argTypes := ats }) (hdst : dstOk o.dst n = true)
  (hx : ev E x = some (.iface t v0)) (has : evs E az.toList = some vs) (hb : HasBody P g) (hsp : ∀ H,Sub Hq H → Spec L g (#[v0] ++ vs.toArray) H fun u H' => u = v ∧ H' = H) : Reg.ok L f ro ds cs n ops k Hq ⟨i,o,E,v⟩ := by
 refine ⟨ho,dstOk_lt hdst,fun {H} hs {rest tmps} hn hr h => ?_⟩
 refine step_core (E := E) (Q := fun nx H' => nx = .enter g (#[v0] ++ vs.toArray) ∧ H' = H) ho hn (by unfold noSel;rw [hop]) (by rw [hop];intro c;simp) hr hw (fun φ hA => ?_) ?_ ?_ ?_ ?_ ?_
 ·unfold execOp
  rw [hop]
  simp only
  have e : az.map φ = vs.toArray := by
   have := evs_map hA has
   apply Array.ext'
   simpa using this
  simp only [resolve,hA x _ hx,e]
  rw [K.bind,K.pure]
  show K P (invoke _ _) _ H
  simp only [invoke]
  have e1 : (#[Value.iface t v0] ++ vs.toArray)[0]? = some (.iface t v0) := by simp
  have e2 : (#[Value.iface t v0] ++ vs.toArray).extract 1 (#[Value.iface t v0] ++ vs.toArray).size = vs.toArray := by
   apply Array.ext'
   simp
  simp only [e1,e2,callMethod]
  rw [K.bind]
  show K P program _ H
  simp only [program,K]
  rw [K.bind]
  refine k_method ?_
  exact K.callFunc hb ⟨rfl,rfl⟩
 ·rintro v H' ⟨h,_⟩;cases h
 ·rintro H' ⟨h,_⟩;cases h
 ·rintro g' args' H' ⟨e1,e2⟩
  cases e1
  subst e2
  refine hsp _ hs _ _ fun u H' hu => ?_
  obtain ⟨rfl,rfl⟩ := hu
  rw [fr_finish,ho]
  exact h
 ·rintro l g t x y H' ⟨h,_⟩;cases h
 ·rintro nx H' ⟨h,_⟩;subst h;trivial
theorem Pool.inv (i : Nat) {x : Operand} {az : Array Operand} {ats : Array TypeId} {t : TypeId} {name : String} {g : FuncId} {v0 v : Value} {vs args : List Value} [hm : MtI P t name g] (ho : ops[i]? = some o) (hdst : dstOk o.dst n = true) (hw : wantE ops o E = some true) (hd : o.dst = some d) (hop : o.op = .call { callee := .invoke x name,args := az,argTypes := ats })
  (hx : ev E x = some (.iface t v0)) (has : evs E az.toList = some vs) (hcat : cat3 [v0] vs [] = some args) [hb : HB P g] (hc : checkReg R Ls Fs ops i o = true) (hsp : ∀ H,Sub Hq H → Pure L g (List.toArray args) H v)
  (h : Pool L f ro ds cs n ops k Hq (⟨i,o,E,v⟩ :: R) Ls Fs ((d,v) :: E) H) : Pool L f ro ds cs n ops k Hq R Ls Fs E H :=
 pool_reg (reg_inv ho hw hop hdst hx has hb.h fun H hs => by
  have := cat3_eq hcat
  rw [show (#[v0] ++ vs.toArray) = List.toArray args from by rw [← this];simp];exact hsp H hs) hc (by rw [hd];exact h)
theorem At.invq {i : Nat} {rest : List Nat} {x : Operand} {az : Array Operand} {ats : Array TypeId} {t : TypeId} {name : String} {g : FuncId} {v0 v : Value} {vs args : List Value} [hm : MtI P t name g] (ho : ops[i]? = some o) (hop : o.op = .call { callee := .invoke x name,args := az,argTypes := ats }) (hw : wantE ops o E = some true) (hd : o.dst = some d) (hn : Nat.blt d n = true)
  (hx : ev E x = some (.iface t v0)) (has : evs E az.toList = some vs) (hcat : cat3 [v0] vs [] = some args) [hb : HB P g] (hc : Pure L g (List.toArray args) H v)
  (h : At L f ro ds cs n ((d,v) :: E) H (.inRegion ops rest :: k)) : At L f ro ds cs n E H (.inRegion ops (i :: rest) :: k) :=
 At.inv ho hop hw hd hn hx has (Post := fun u H' => u = v ∧ H' = H) (by
  have := cat3_eq hcat
  rw [show (#[v0] ++ vs.toArray) = List.toArray args from by rw [← this];simp];exact hc) (by rintro _ _ ⟨rfl,rfl⟩;exact h)
end
end Go.Gx
end
section
namespace Go.Gx
open Go Go.Conc Go.Proofs
variable {main : Bool}
theorem types_ne : Tryz.prog.types.size + Made.depth ≠ 0 := by
 have : Made.depth ≠ 0 := by decide
 omega
instance : MtI Tryz.prog 104 "velarium/canvas.kind" 226 := ⟨by kernel_rfl,types_ne⟩
instance : MtI Tryz.prog 105 "velarium/canvas.kind" 227 := ⟨by kernel_rfl,types_ne⟩
instance : MtI Tryz.prog 106 "velarium/canvas.kind" 228 := ⟨by kernel_rfl,types_ne⟩
theorem s226 (L : Lg Tryz.prog main) (H : Facts) {x y z : Value} : Pure L 226 #[.agg #[x,y,z]] H (.int .i64 0) := by
 refine Spec.enter Tryz.func226 rfl (by simp [Tryz.f226]) fun c cs hc => ?_;refine At.seq (At.region ?_);refine An Z Z Z Z Z Z Z fun r1 => ?_;refine Aa Z Z Z Z Z O ?_;refine Ab (At.seq (At.region ?_));refine Aa Z Z Z Z Z O ?_;refine Ab ?_
 exact At.ret Tryz.func226 (.inr ⟨_,rfl⟩) rfl (.tmp rfl .nil) (wk (hc _ _ (⟨by rfl,rfl⟩)))
theorem s227 (L : Lg Tryz.prog main) (H : Facts) {x y : Value} : Pure L 227 #[.agg #[x,y]] H (.int .i64 1) := by
 refine Spec.enter Tryz.func227 rfl (by simp [Tryz.f227]) fun c cs hc => ?_;refine At.seq (At.region ?_);refine An Z Z Z Z Z Z Z fun r1 => ?_;refine Aa Z Z Z Z Z O ?_;refine Ab (At.seq (At.region ?_));refine Aa Z Z Z Z Z O ?_;refine Ab ?_
 exact At.ret Tryz.func227 (.inr ⟨_,rfl⟩) rfl (.tmp rfl .nil) (wk (hc _ _ (⟨by rfl,rfl⟩)))
theorem s228 (L : Lg Tryz.prog main) (H : Facts) {x y z : Value} : Pure L 228 #[.agg #[x,y,z]] H (.int .i64 2) := by
 refine Spec.enter Tryz.func228 rfl (by simp [Tryz.f228]) fun c cs hc => ?_;refine At.seq (At.region ?_);refine An Z Z Z Z Z Z Z fun r1 => ?_;refine Aa Z Z Z Z Z O ?_;refine Ab (At.seq (At.region ?_));refine Aa Z Z Z Z Z O ?_;refine Ab ?_
 exact At.ret Tryz.func228 (.inr ⟨_,rfl⟩) rfl (.tmp rfl .nil) (wk (hc _ _ (⟨by rfl,rfl⟩)))
theorem s43 (L : Lg Tryz.prog main) (H : Facts) {w : List UInt8} : Grows L 43 #[.string (S w)] H (fun v sf => ∃ r,v = .func (.func 93) #[] #[.pointer (some ⟨r,0,none⟩)] ∧ sf = [.own r (.cells #[.string (S w)] 9 (0,0))]) := by
 refine Spec.enter Tryz.func43 rfl (by simp [Tryz.f43]) fun c cs hc => ?_;refine At.seq (At.region ?_);refine An Z Z Z Z Z Z Z fun r1 => ?_;refine Aa Z Z Z Z Z O ?_;refine Ab (At.seq (At.region ?_));(iterate 2 refine Aa Z Z Z Z Z O ?_);refine Ab ?_
 exact At.ret Tryz.func43 (.inr ⟨_,rfl⟩) rfl (.tmp rfl .nil) (wk (hc _ _ (⟨[_],⟨r1,rfl,rfl⟩,rfl⟩)))
end Go.Gx
end
section
namespace Go.Gx
open Go Go.Conc
section
variable {P : Program} {main : Bool} {L : Lg P main} {f : FuncId} {ro : Option Nat} {ds : Dz} {cs : List Frame} {n : Nat} {k : List Item} {ops : Array Oper} {Hq H : Facts} {R : List Reg} {Ls : List Nat} {Fs : List Flo} {E : Env}
theorem At.swp {todo : List Item} {lit s1 s2 X : Facts} (q : Nat) (hH : splitF q H = some (lit,s1 ++ (s2 ++ X))) (h : At L f ro ds cs n E (joinF lit (s2 ++ (s1 ++ X))) todo) : At L f ro ds cs n E H todo := by
 refine h.weakH (Sub.of_perm ?_)
 rw [joinF_eq,splitF_eq hH]
 exact List.Perm.append_left _ (List.perm_append_comm_assoc _ _ _)
end
end Go.Gx
end
