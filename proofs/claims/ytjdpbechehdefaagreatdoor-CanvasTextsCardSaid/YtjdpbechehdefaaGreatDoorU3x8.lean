/-
  CanvasTexts: the logic of the walk, the contracts of the program's functions, the plain law and the card.
-/
import Derived.Test.YtjdpbechehdefaaGreatDoorU3x7
import Derived.SevenTiedAt
import Derived.ChangeMaps5
set_option linter.unusedSimpArgs false
set_option linter.unusedVariables false
section
namespace Go.Gx
open Go Go.Conc Go.Proofs
variable {main : Bool}
inductive LineIs : List UInt8 → LI → Prop
 | c {a t : List UInt8} {x : Int × Int} (ha : NumW a) (ht : BandIs t x) (h1 : (32 : UInt8) ∉ a) (h2 : (32 : UInt8) ∉ t) : LineIs (joinB 32 [wordL 0,a,t]) (.c (numV a) x.1 x.2)
 | p {a b : List UInt8} (ha : NumW a) (hb : NumW b) (h1 : (32 : UInt8) ∉ a) (h2 : (32 : UInt8) ∉ b) : LineIs (joinB 32 [wordL 1,a,b]) (.p (numV a,numV b))
 | m {a b c : List UInt8} (ha : NumW a) (hb : NumW b) (hc : NumW c) (h1 : (32 : UInt8) ∉ a) (h2 : (32 : UInt8) ∉ b) (h3 : (32 : UInt8) ∉ c) : LineIs (joinB 32 [wordL 2,a,b,c]) (.m ((numV a,numV b),numV c))
theorem NumW.ne {w : List UInt8} (h : NumW w) : w ≠ [] := by
 rintro rfl
 have := h.pos
 simp [restN] at this
theorem BandIs.ne {w : List UInt8} {x : Int × Int} (h : BandIs w x) : w ≠ [] := by
 rcases h with ⟨_,hn,_⟩ | ⟨a,r,rfl,_⟩
 ·exact hn.ne
 ·simp
theorem s44w (L : Lg Tryz.prog main) (H : Facts) (ht : TabT H) {w : List UInt8} {it : LI} (h : LineIs w it) (hl : w.length ≤ 50000) : Pure L 44 #[.string (S w)] H (ifV it) := by
 cases h with
 | c ha hb h1 h2 =>
  rename_i a t x
  have hf : ∀ f ∈ [wordL 0,sgn (negN a) (restN a),t],(32 : UInt8) ∉ f ∧ f ≠ [] := by
   rw [sgn_restN]
   intro f hf
   simp only [List.mem_cons,List.not_mem_nil,or_false] at hf
   rcases hf with rfl | rfl | rfl
   ·exact ⟨(fld_word 0).1,(fld_word 0).2.2⟩
   ·exact ⟨h1,ha.ne⟩
   ·exact ⟨h2,hb.ne⟩
  have := s44c L H ht ha (fun H => s99w L H hb) hf (by rw [sgn_restN];exact hl)
  rwa [sgn_restN] at this
 | p ha hb h1 h2 =>
  have := s44p L H ht ha hb (by
   rw [sgn_restN,sgn_restN]
   intro f hf
   simp only [List.mem_cons,List.not_mem_nil,or_false] at hf
   rcases hf with rfl | rfl | rfl
   ·exact ⟨(fld_word 1).1,(fld_word 1).2.2⟩
   ·exact ⟨h1,ha.ne⟩
   ·exact ⟨h2,hb.ne⟩) (by rw [sgn_restN,sgn_restN];exact hl)
  rwa [sgn_restN,sgn_restN] at this
 | m ha hb hc h1 h2 h3 =>
  have := s44m L H ht ha hb hc (by
   rw [sgn_restN,sgn_restN,sgn_restN]
   intro f hf
   simp only [List.mem_cons,List.not_mem_nil,or_false] at hf
   rcases hf with rfl | rfl | rfl | rfl
   ·exact ⟨(fld_word 2).1,(fld_word 2).2.2⟩
   ·exact ⟨h1,ha.ne⟩
   ·exact ⟨h2,hb.ne⟩
   ·exact ⟨h3,hc.ne⟩) (by rw [sgn_restN,sgn_restN,sgn_restN];exact hl)
  rwa [sgn_restN,sgn_restN,sgn_restN] at this
theorem joinB_split {b : UInt8} : ∀ (w : List UInt8),∃ fs,w = joinB b fs ∧ (∀ f ∈ fs,b ∉ f) ∧ 0 < fs.length
 | [] => ⟨[[]],rfl,by simp,by simp⟩
 | x :: w => by
  obtain ⟨fs,rfl,hf,hp⟩ := joinB_split (b := b) w
  obtain ⟨f,fs,rfl⟩ := List.exists_cons_of_length_pos hp
  by_cases e : x = b
  ·subst e
   refine ⟨[] :: f :: fs,rfl,?_,by simp⟩
   intro g hg
   rcases List.mem_cons.1 hg with rfl | hg
   ·simp
   ·exact hf g hg
  ·refine ⟨(x :: f) :: fs,?_,?_,by simp⟩
   ·cases fs with
    | nil => rfl
    | cons g fs => rfl
   ·intro g hg
    rcases List.mem_cons.1 hg with rfl | hg
    ·simp only [List.mem_cons,not_or]
     exact ⟨fun e' => e e'.symm,hf f (List.mem_cons_self ..)⟩
    ·exact hf g (List.mem_cons_of_mem _ hg)
theorem idxS_ge {w : List UInt8} : ∀ {fs : List (List UInt8)} {k : Nat},w ∈ fs → 0 ≤ idxS w fs k
 | f :: fs,k,h => by
  unfold idxS
  split
  ·omega
  ·next hne =>
   rcases List.mem_cons.1 h with rfl | h
   ·exact absurd rfl hne
   ·exact idxS_ge h
theorem idxS_yes {w : List UInt8} {fs : List (List UInt8)} (h : w ∈ fs) : 0 ≤ idxS w fs 0 := idxS_ge h
set_option maxRecDepth 100000 in
set_option maxHeartbeats 1000000 in
theorem b44 (L : Lg Tryz.prog main) (H : Facts) (ht : TabT H) {w : List UInt8} (hl : w.length ≤ 50000) (h : ¬ ∃ it,LineIs w it) : Boom L 44 #[.string (S w)] H refV := by
 refine Boom.enter Tryz.func44 rfl (by simp [Tryz.f44]) fun c cs hp => ?_
 obtain ⟨fs,rfl,hf,hfp⟩ := joinB_split (b := 32) w
 obtain ⟨f0,fs,rfl⟩ := List.exists_cons_of_length_pos hfp
 have htw := ht.w
 have htf := ht.f
 have stop95 := trivial
 refine At.seq (At.region ?_);refine Aa Z Z Z Z Z O ?_;refine Ab (At.seq (At.region ?_));refine Aa Z Z Z Z Z O ?_
 clear stop95
 refine Ay Z Z Z Z Z Z Z Z (s95 L _ (b := 32) (fs := f0 :: fs) hf (by simp) hl) ?_
 rintro _ _ ⟨_,⟨r,rfl,rfl⟩,rfl⟩
 rw [show (f0 :: fs).flatMap cS = .string (S f0) :: fs.flatMap cS from rfl]
 have hcr : Cells ([.own r (.cells (List.toArray (.string (S f0) :: fs.flatMap cS)) 9 (0,0))] ++ H) r (0 + 0 * 1) [.string (S f0)] := cells_own (List.mem_cons_self ..) (by simp)
 have stop96 := trivial
 refine Aa Z Z Z Z Z O ?_;refine Ab (At.seq ?_);refine Aw hmix [] rfl ?_;refine Ak 0 Z Z Z Z Z (q_sliceAA Z Z) rfl ?_;refine Ac 1 Z Z Z Z Z Z Z O ?_;refine Ak 2 Z Z Z Z Z (q_ia Z Z Z (by assumption)) rfl ?_;refine Ax 3 Z Z Z Z Z Z Z hcr.a Z Z Z ?_
 refine Ap 4 Z Z Z Z Z Z Z Z Z (fun H_ hs_ => s96 L H_ (fs := [wordL 0,wordL 1,wordL 2]) (w := f0) rfl (rd_cells (htw.a)) (by decide)) ?_
 clear stop96
 have stop97 := trivial
 have stop46 := trivial
 by_cases hk : f0 ∈ [wordL 0,wordL 1,wordL 2]
 ·have hll : (f0 :: fs).length = fs.length + 1 := rfl
  have hjl := @joinB_len 32 (f0 :: fs)
  simp only [List.mem_cons,List.not_mem_nil,or_false] at hk
  rcases hk with rfl | rfl | rfl
  ·rw [show idxS (wordL 0) [wordL 0,wordL 1,wordL 2] 0 = 0 from by decide]
   refine Ac 5 Z Z Z Z Z Z Z O ?_;refine pool_done Z Z ?_;refine Ab (At.seq (At.region ?_));refine Aa Z Z Z Z Z O ?_;refine Ad Z Z Z Z Z fun b13 h13 => ?_;refine Aa Z Z Z Z Z O ?_
   obtain rfl : b13 = true := h13.symm.trans (by kernel_rfl)
   refine Aa Z Z Z Z Z O ?_
   clear stop97
   refine Ai Z Z Z Z Z Z Z Z (s97 L _ (w := []) (fs := wordL 0 :: fs) rfl (rd_cells (cells_all (List.mem_cons_self ..))) (by rw [hll];omega)) ?_
   have hll' : (wordL 0 :: fs).length = fs.length + 1 := rfl
   by_cases hemp : [] ∈ fs
   ·rw [show decide (0 ≤ idxS [] (wordL 0 :: fs) 0) = true from decide_eq_true (idxS_yes (by simp [hemp]))]
    (iterate 3 refine Aa Z Z Z Z Z O ?_);(iterate 7 refine Ar Z Z Z Z ?_);refine Aa Z Z Z Z Z O ?_
    clear stop46
    refine At.callB Z Z Z Z Z Z Z Z (b46 L _) (wk hp)
   ·rw [show decide (0 ≤ idxS [] (wordL 0 :: fs) 0) = false from by rw [idxS_no fun hm => (List.mem_cons.1 hm).elim (fun e => (fld_word 0).2.2 e.symm) hemp];rfl]
    by_cases hlen : fs.length = 2
    ·obtain ⟨a,t,rfl⟩ : ∃ a t,fs = [a,t] := by
      match fs,hlen with
      | [a,t],_ => exact ⟨a,t,rfl⟩
     (iterate 4 refine Aa Z Z Z Z Z O ?_);refine Ao Z Z Z Z Z Z Z Z ?_;refine Aa Z Z Z Z Z (by omega) ?_;refine Aa Z Z Z Z Z O ?_;refine Ae Z Z Z Z (q_iaA Z Z Z (by assumption)) ?_;refine Au Z Z Z Z Z Z (htf.s 0 1 rfl) Z Z ?_;refine Ad Z Z Z Z Z fun b26 h26 => ?_;refine Aa Z Z Z Z Z O ?_
     clear stop46
     obtain rfl : b26 = true := by rw [← h26];rfl
     refine Ai Z Z Z Z Z Z Z Z (s46 L _) ?_
     have stop98 := trivial
     have stop99 := trivial
     refine Ab (At.seq (At.seq (At.region ?_)));refine Aa Z Z Z Z Z O ?_;refine Ab ?_;refine At.block ?_;refine At.seq (At.region ?_);refine Ad Z Z Z Z Z fun b31 h31 => ?_;refine Aa Z Z Z Z Z O ?_;refine Ab ?_
     obtain rfl : b31 = true := h31.symm.trans (by kernel_rfl)
     refine At.cond Z ?_;refine At.seq ?_;refine Bd hmix (_) sb ?_;refine Ac 0 Z Z Z Z Z Z Z O ?_;refine Ak 1 Z Z Z Z Z (q_ia Z Z Z (by dsimp only;omega)) rfl ?_;refine Aj 0 2 Z Z Z Z Z Z Z Z Z Z Z ?_;refine Ac 4 Z Z Z Z Z Z Z O ?_;refine Ak 5 Z Z Z Z Z (q_ia Z Z Z (by dsimp only;omega)) rfl ?_;refine Aj 0 6 Z Z Z Z Z Z Z Z Z Z Z ?_
     clear stop98 stop99
     have h1 : (32 : UInt8) ∉ a := hf a (by simp)
     have h2 : (32 : UInt8) ∉ t := hf t (by simp)
     have hjj : (joinB 32 [wordL 0,a,t]).length = 6 + 1 + (a.length + 1 + t.length) := by simp [joinB,wordL];omega
     by_cases hb : ∃ x,BandIs t x
     ·obtain ⟨x,hb⟩ := hb
      have ha : ¬ NumW a := fun ha => h ⟨_,.c ha hb h1 h2⟩
      refine Ap 7 Z Z Z Z Z Z Z Z Z (fun H_ hs_ => s99w L H_ hb) ?_;refine Pool.boom [3] 3 Z Z Z Z Z fun l hl => ?_
      obtain rfl : l = 3 := by simpa using hl
      exact loud_b Z Z Z Z Z Z Z Z (fun H' _ => b98 L H' (by omega) ha) (wk hp)
     ·by_cases ha : NumW a
      ·refine Ap 3 Z Z Z Z Z Z Z Z Z (fun H_ hs_ => s98w L H_ ha) ?_
       refine Pool.boom [7] 7 Z Z Z Z Z fun l hl => ?_
       obtain rfl : l = 7 := by simpa using hl
       exact loud_b Z Z Z Z Z Z Z Z (fun H' _ => b99 L H' (by omega) hb) (wk hp)
      ·refine Pool.boom [3,7] 3 Z Z Z Z Z fun l hl => ?_
       simp only [List.mem_cons,List.not_mem_nil,or_false] at hl
       rcases hl with rfl | rfl
       ·exact loud_b Z Z Z Z Z Z Z Z (fun H' _ => b98 L H' (by omega) ha) (wk hp)
       ·exact loud_b Z Z Z Z Z Z Z Z (fun H' _ => b99 L H' (by omega) hb) (wk hp)
    ·refine Aa Z Z Z Z Z O ?_
     (iterate 3 refine Aa Z Z Z Z Z O ?_);refine Ao Z Z Z Z Z Z Z Z ?_;refine Aa Z Z Z Z Z (by omega) ?_;refine Aa Z Z Z Z Z O ?_;refine Ae Z Z Z Z (q_iaA Z Z Z (by dsimp only;omega)) ?_;refine Au Z Z Z Z Z Z (htf.s 0 1 rfl) Z Z ?_;refine Ad Z Z Z Z Z fun b26 h26 => ?_;refine Aa Z Z Z Z Z O ?_
     clear stop46
     obtain rfl : b26 = false := by rw [← h26];exact decide_eq_false (by omega)
     refine At.callB Z Z Z Z Z Z Z Z (b46 L _) (wk hp)
  ·rw [show idxS (wordL 1) [wordL 0,wordL 1,wordL 2] 0 = 1 from by decide]
   refine Ac 5 Z Z Z Z Z Z Z O ?_;refine pool_done Z Z ?_;refine Ab (At.seq (At.region ?_));refine Aa Z Z Z Z Z O ?_;refine Ad Z Z Z Z Z fun b13 h13 => ?_;refine Aa Z Z Z Z Z O ?_
   obtain rfl : b13 = true := h13.symm.trans (by kernel_rfl)
   refine Aa Z Z Z Z Z O ?_
   clear stop97
   refine Ai Z Z Z Z Z Z Z Z (s97 L _ (w := []) (fs := wordL 1 :: fs) rfl (rd_cells (cells_all (List.mem_cons_self ..))) (by rw [hll];omega)) ?_
   have hll' : (wordL 1 :: fs).length = fs.length + 1 := rfl
   by_cases hemp : [] ∈ fs
   ·rw [show decide (0 ≤ idxS [] (wordL 1 :: fs) 0) = true from decide_eq_true (idxS_yes (by simp [hemp]))]
    (iterate 3 refine Aa Z Z Z Z Z O ?_);(iterate 7 refine Ar Z Z Z Z ?_);refine Aa Z Z Z Z Z O ?_
    clear stop46
    refine At.callB Z Z Z Z Z Z Z Z (b46 L _) (wk hp)
   ·rw [show decide (0 ≤ idxS [] (wordL 1 :: fs) 0) = false from by rw [idxS_no fun hm => (List.mem_cons.1 hm).elim (fun e => (fld_word 1).2.2 e.symm) hemp];rfl]
    by_cases hlen : fs.length = 2
    ·obtain ⟨a,t,rfl⟩ : ∃ a t,fs = [a,t] := by
      match fs,hlen with
      | [a,t],_ => exact ⟨a,t,rfl⟩
     (iterate 4 refine Aa Z Z Z Z Z O ?_);refine Ao Z Z Z Z Z Z Z Z ?_;refine Aa Z Z Z Z Z (by omega) ?_;refine Aa Z Z Z Z Z O ?_;refine Ae Z Z Z Z (q_iaA Z Z Z (by dsimp only;omega)) ?_;refine Au Z Z Z Z Z Z (htf.s 1 1 rfl) Z Z ?_;refine Ad Z Z Z Z Z fun b26 h26 => ?_;refine Aa Z Z Z Z Z O ?_
     clear stop46
     obtain rfl : b26 = true := by rw [← h26];rfl
     refine Ai Z Z Z Z Z Z Z Z (s46 L _) ?_
     have stop98 := trivial
     have stop99 := trivial
     refine Ab (At.seq (At.seq (At.region ?_)));refine Aa Z Z Z Z Z O ?_;refine Ab ?_;refine At.block ?_;refine At.seq (At.region ?_);refine Ad Z Z Z Z Z fun b31 h31 => ?_;refine Aa Z Z Z Z Z O ?_;refine Ab ?_
     obtain rfl : b31 = false := h31.symm.trans (by kernel_rfl)
     refine At.cond Z ?_;refine At.seq (At.region ?_);refine Ad Z Z Z Z Z fun b43 h43 => ?_;refine Aa Z Z Z Z Z O ?_;refine Ab ?_
     obtain rfl : b43 = true := h43.symm.trans (by kernel_rfl)
     refine At.cond Z ?_;refine At.seq ?_;refine Aw hmix [] rfl ?_;refine Ac 0 Z Z Z Z Z Z Z O ?_;refine Ak 1 Z Z Z Z Z (q_ia Z Z Z (by dsimp only;omega)) rfl ?_;refine Aj 0 2 Z Z Z Z Z Z Z Z Z Z Z ?_;refine Ac 4 Z Z Z Z Z Z Z O ?_;refine Ak 5 Z Z Z Z Z (q_ia Z Z Z (by dsimp only;omega)) rfl ?_;refine Aj 0 6 Z Z Z Z Z Z Z Z Z Z Z ?_
     clear stop98 stop99
     have h1 : (32 : UInt8) ∉ a := hf a (by simp)
     have h2 : (32 : UInt8) ∉ t := hf t (by simp)
     have hjj : (joinB 32 [wordL 1,a,t]).length = 5 + 1 + (a.length + 1 + t.length) := by simp [joinB,wordL];omega
     by_cases hb : NumW t
     ·have ha : ¬ NumW a := fun ha => h ⟨_,.p ha hb h1 h2⟩
      refine Ap 7 Z Z Z Z Z Z Z Z Z (fun H_ hs_ => s98w L H_ hb) ?_;refine Pool.boom [3] 3 Z Z Z Z Z fun l hl => ?_
      obtain rfl : l = 3 := by simpa using hl
      exact loud_b Z Z Z Z Z Z Z Z (fun H' _ => b98 L H' (by omega) ha) (wk hp)
     ·by_cases ha : NumW a
      ·refine Ap 3 Z Z Z Z Z Z Z Z Z (fun H_ hs_ => s98w L H_ ha) ?_
       refine Pool.boom [7] 7 Z Z Z Z Z fun l hl => ?_
       obtain rfl : l = 7 := by simpa using hl
       exact loud_b Z Z Z Z Z Z Z Z (fun H' _ => b98 L H' (by omega) hb) (wk hp)
      ·refine Pool.boom [3,7] 3 Z Z Z Z Z fun l hl => ?_
       simp only [List.mem_cons,List.not_mem_nil,or_false] at hl
       rcases hl with rfl | rfl
       ·exact loud_b Z Z Z Z Z Z Z Z (fun H' _ => b98 L H' (by omega) ha) (wk hp)
       ·exact loud_b Z Z Z Z Z Z Z Z (fun H' _ => b98 L H' (by omega) hb) (wk hp)
    ·refine Aa Z Z Z Z Z O ?_
     (iterate 3 refine Aa Z Z Z Z Z O ?_);refine Ao Z Z Z Z Z Z Z Z ?_;refine Aa Z Z Z Z Z (by omega) ?_;refine Aa Z Z Z Z Z O ?_;refine Ae Z Z Z Z (q_iaA Z Z Z (by dsimp only;omega)) ?_;refine Au Z Z Z Z Z Z (htf.s 1 1 rfl) Z Z ?_;refine Ad Z Z Z Z Z fun b26 h26 => ?_;refine Aa Z Z Z Z Z O ?_
     clear stop46
     obtain rfl : b26 = false := by rw [← h26];exact decide_eq_false (by omega)
     refine At.callB Z Z Z Z Z Z Z Z (b46 L _) (wk hp)
  ·rw [show idxS (wordL 2) [wordL 0,wordL 1,wordL 2] 0 = 2 from by decide]
   refine Ac 5 Z Z Z Z Z Z Z O ?_;refine pool_done Z Z ?_;refine Ab (At.seq (At.region ?_));refine Aa Z Z Z Z Z O ?_;refine Ad Z Z Z Z Z fun b13 h13 => ?_;refine Aa Z Z Z Z Z O ?_
   obtain rfl : b13 = true := h13.symm.trans (by kernel_rfl)
   refine Aa Z Z Z Z Z O ?_
   clear stop97
   refine Ai Z Z Z Z Z Z Z Z (s97 L _ (w := []) (fs := wordL 2 :: fs) rfl (rd_cells (cells_all (List.mem_cons_self ..))) (by rw [hll];omega)) ?_
   have hll' : (wordL 2 :: fs).length = fs.length + 1 := rfl
   by_cases hemp : [] ∈ fs
   ·rw [show decide (0 ≤ idxS [] (wordL 2 :: fs) 0) = true from decide_eq_true (idxS_yes (by simp [hemp]))]
    (iterate 3 refine Aa Z Z Z Z Z O ?_);(iterate 7 refine Ar Z Z Z Z ?_);refine Aa Z Z Z Z Z O ?_
    clear stop46
    refine At.callB Z Z Z Z Z Z Z Z (b46 L _) (wk hp)
   ·rw [show decide (0 ≤ idxS [] (wordL 2 :: fs) 0) = false from by rw [idxS_no fun hm => (List.mem_cons.1 hm).elim (fun e => (fld_word 2).2.2 e.symm) hemp];rfl]
    by_cases hlen : fs.length = 3
    ·obtain ⟨a,t,u,rfl⟩ : ∃ a t u,fs = [a,t,u] := by
      match fs,hlen with
      | [a,t,u],_ => exact ⟨a,t,u,rfl⟩
     (iterate 4 refine Aa Z Z Z Z Z O ?_);refine Ao Z Z Z Z Z Z Z Z ?_;refine Aa Z Z Z Z Z (by omega) ?_;refine Aa Z Z Z Z Z O ?_;refine Ae Z Z Z Z (q_iaA Z Z Z (by dsimp only;omega)) ?_;refine Au Z Z Z Z Z Z (htf.s 2 1 rfl) Z Z ?_;refine Ad Z Z Z Z Z fun b26 h26 => ?_;refine Aa Z Z Z Z Z O ?_
     clear stop46
     obtain rfl : b26 = true := by rw [← h26];rfl
     refine Ai Z Z Z Z Z Z Z Z (s46 L _) ?_
     have stop98 := trivial
     have stop99 := trivial
     refine Ab (At.seq (At.seq (At.region ?_)));refine Aa Z Z Z Z Z O ?_;refine Ab ?_;refine At.block ?_;refine At.seq (At.region ?_);refine Ad Z Z Z Z Z fun b31 h31 => ?_;refine Aa Z Z Z Z Z O ?_;refine Ab ?_
     obtain rfl : b31 = false := h31.symm.trans (by kernel_rfl)
     refine At.cond Z ?_;refine At.seq (At.region ?_);refine Ad Z Z Z Z Z fun b43 h43 => ?_;refine Aa Z Z Z Z Z O ?_;refine Ab ?_
     obtain rfl : b43 = false := h43.symm.trans (by kernel_rfl)
     refine At.cond Z ?_;refine At.skip ?_;refine At.inBlock ?_;refine At.seq ?_;refine Aw hmix [] rfl ?_;refine Ac 0 Z Z Z Z Z Z Z O ?_;refine Ak 1 Z Z Z Z Z (q_ia Z Z Z (by dsimp only;omega)) rfl ?_;refine Aj 0 2 Z Z Z Z Z Z Z Z Z Z Z ?_;refine Ac 4 Z Z Z Z Z Z Z O ?_;refine Ak 5 Z Z Z Z Z (q_ia Z Z Z (by dsimp only;omega)) rfl ?_
     refine Aj 0 6 Z Z Z Z Z Z Z Z Z Z Z ?_;refine Ac 9 Z Z Z Z Z Z Z O ?_;refine Ak 10 Z Z Z Z Z (q_ia Z Z Z (by dsimp only;omega)) rfl ?_;refine Aj 0 11 Z Z Z Z Z Z Z Z Z Z Z ?_
     clear stop98 stop99
     have h1 : (32 : UInt8) ∉ a := hf a (by simp)
     have h2 : (32 : UInt8) ∉ t := hf t (by simp)
     have h3 : (32 : UInt8) ∉ u := hf u (by simp)
     have hjj : (joinB 32 [wordL 2,a,t,u]).length = 4 + 1 + (a.length + 1 + (t.length + 1 + u.length)) := by simp [joinB,wordL];omega
     by_cases ha : NumW a
     ·refine Ap 3 Z Z Z Z Z Z Z Z Z (fun H_ hs_ => s98w L H_ ha) ?_
      by_cases hb : NumW t
      ·have hc' : ¬ NumW u := fun hc' => h ⟨_,.m ha hb hc' h1 h2 h3⟩
       refine Ap 7 Z Z Z Z Z Z Z Z Z (fun H_ hs_ => s98w L H_ hb) ?_
       have stop98 := trivial
       refine Ak 8 Z Z Z Z Z (q_build Z Z Z) rfl ?_
       clear stop98
       refine Pool.boom [12] 12 Z Z Z Z Z fun l hl => ?_
       obtain rfl : l = 12 := by simpa using hl
       exact loud_b Z Z Z Z Z Z Z Z (fun H' _ => b98 L H' (by omega) hc') (wk hp)
      ·by_cases hu : NumW u
       ·refine Ap 12 Z Z Z Z Z Z Z Z Z (fun H_ hs_ => s98w L H_ hu) ?_
        refine Pool.boom [7] 7 Z Z Z Z Z fun l hl => ?_
        obtain rfl : l = 7 := by simpa using hl
        exact loud_b Z Z Z Z Z Z Z Z (fun H' _ => b98 L H' (by omega) hb) (wk hp)
       ·refine Pool.boom [7,12] 7 Z Z Z Z Z fun l hl => ?_
        simp only [List.mem_cons,List.not_mem_nil,or_false] at hl
        rcases hl with rfl | rfl
        ·exact loud_b Z Z Z Z Z Z Z Z (fun H' _ => b98 L H' (by omega) hb) (wk hp)
        ·exact loud_b Z Z Z Z Z Z Z Z (fun H' _ => b98 L H' (by omega) hu) (wk hp)
     ·by_cases hb : NumW t
      ·refine Ap 7 Z Z Z Z Z Z Z Z Z (fun H_ hs_ => s98w L H_ hb) ?_
       by_cases hu : NumW u
       ·refine Ap 12 Z Z Z Z Z Z Z Z Z (fun H_ hs_ => s98w L H_ hu) ?_
        refine Pool.boom [3] 3 Z Z Z Z Z fun l hl => ?_
        obtain rfl : l = 3 := by simpa using hl
        exact loud_b Z Z Z Z Z Z Z Z (fun H' _ => b98 L H' (by omega) ha) (wk hp)
       ·refine Pool.boom [3,12] 3 Z Z Z Z Z fun l hl => ?_
        simp only [List.mem_cons,List.not_mem_nil,or_false] at hl
        rcases hl with rfl | rfl
        ·exact loud_b Z Z Z Z Z Z Z Z (fun H' _ => b98 L H' (by omega) ha) (wk hp)
        ·exact loud_b Z Z Z Z Z Z Z Z (fun H' _ => b98 L H' (by omega) hu) (wk hp)
      ·by_cases hu : NumW u
       ·refine Ap 12 Z Z Z Z Z Z Z Z Z (fun H_ hs_ => s98w L H_ hu) ?_
        refine Pool.boom [3,7] 3 Z Z Z Z Z fun l hl => ?_
        simp only [List.mem_cons,List.not_mem_nil,or_false] at hl
        rcases hl with rfl | rfl
        ·exact loud_b Z Z Z Z Z Z Z Z (fun H' _ => b98 L H' (by omega) ha) (wk hp)
        ·exact loud_b Z Z Z Z Z Z Z Z (fun H' _ => b98 L H' (by omega) hb) (wk hp)
       ·refine Pool.boom [3,7,12] 3 Z Z Z Z Z fun l hl => ?_
        simp only [List.mem_cons,List.not_mem_nil,or_false] at hl
        rcases hl with rfl | rfl | rfl
        ·exact loud_b Z Z Z Z Z Z Z Z (fun H' _ => b98 L H' (by omega) ha) (wk hp)
        ·exact loud_b Z Z Z Z Z Z Z Z (fun H' _ => b98 L H' (by omega) hb) (wk hp)
        ·exact loud_b Z Z Z Z Z Z Z Z (fun H' _ => b98 L H' (by omega) hu) (wk hp)
    ·refine Aa Z Z Z Z Z O ?_
     (iterate 3 refine Aa Z Z Z Z Z O ?_);refine Ao Z Z Z Z Z Z Z Z ?_;refine Aa Z Z Z Z Z (by omega) ?_;refine Aa Z Z Z Z Z O ?_;refine Ae Z Z Z Z (q_iaA Z Z Z (by dsimp only;omega)) ?_;refine Au Z Z Z Z Z Z (htf.s 2 1 rfl) Z Z ?_;refine Ad Z Z Z Z Z fun b26 h26 => ?_;refine Aa Z Z Z Z Z O ?_
     clear stop46
     obtain rfl : b26 = false := by rw [← h26];exact decide_eq_false (by omega)
     refine At.callB Z Z Z Z Z Z Z Z (b46 L _) (wk hp)
 ·rw [idxS_no hk]
  refine Ac 5 Z Z Z Z Z Z Z O ?_;refine pool_done Z Z ?_;refine Ab (At.seq (At.region ?_));refine Aa Z Z Z Z Z O ?_;refine Ad Z Z Z Z Z fun b13 h13 => ?_;refine Aa Z Z Z Z Z O ?_
  obtain rfl : b13 = false := h13.symm.trans (by kernel_rfl)
  (iterate 3 refine Ar Z Z Z Z ?_);(iterate 2 refine Aa Z Z Z Z Z O ?_);(iterate 7 refine Ar Z Z Z Z ?_);refine Aa Z Z Z Z Z O ?_
  clear stop46
  refine At.callB Z Z Z Z Z Z Z Z (b46 L _) (wk hp)
end Go.Gx
end
section
namespace Go.Gx
open Go Go.Conc Go.Proofs
variable {main : Bool}
set_option maxRecDepth 100000 in
theorem s93p (L : Lg Tryz.prog main) {ls : List (List UInt8)} (hls : LnOk ls) (hlen : ls.flatten.length ≤ 50000) {b : Nat} :
  SeqP L 93 [.pointer (some ⟨b,0,none⟩)] (ls.map strV) [.own b (.cells #[.string (S ls.flatten)] 9 (0,0))] [] := by
 intro ly I D v B hsub hsubD hh Hs hI0
 refine SpecP.enter Tryz.func93 rfl (by simp [Tryz.f93]) fun c cs hc hpn => ?_;refine At.block ?_
 refine Az (X := { x : Nat × Facts // x.1 ≤ ls.length ∧ I x.1 x.2 }) [0,1] (fun _ => []) (fun x => .own b (.cells #[.string (S (ls.drop x.1.1).flatten)] 9 (0,0)) :: x.1.2) (fun x => ls.length - x.1.1) (⟨(0,Hs),Nat.zero_le _,hI0⟩) rfl ?_ (by repeat (first | exact trivial | refine ⟨rfl,?_⟩)) sb
 rintro ⟨⟨j,Hk⟩,hj,hI⟩ again
 simp only at again hj hI ⊢
 have hd := hls.drop j
 have hdl : (ls.drop j).flatten.length ≤ 50000 := by
  have : ls.flatten = (ls.take j).flatten ++ (ls.drop j).flatten := by rw [← List.flatten_append,List.take_append_drop]
  rw [this] at hlen
  simp only [List.length_append] at hlen;omega
 generalize hR : ls.drop j = R at hd hdl ⊢
 cases hd with
 | nil =>
  have e : j = ls.length := by
   have := congrArg List.length hR
   simp at this;omega
  subst e
  refine At.seq (At.seq (At.region ?_));refine Af 0 Z Z Z Z Z Z Z Z Z ?_;refine Ae Z Z Z Z (q_lenSS Z Z Z Z) ?_;refine Ad Z Z Z Z Z fun b7 h7 => ?_;refine Ab ?_
  obtain rfl : b7 = false := h7.symm.trans (by kernel_rfl)
  refine At.cond Z ?_;refine At.exit rfl ?_
  exact At.ret Tryz.func93 (.inl rfl) rfl .nil (wk (hc _ _ (⟨_,Sub.tail _ _,.inl (by rw [List.length_map];exact hI)⟩)))
 | last h h0 =>
  rename_i u
  obtain ⟨hlt,hget,hdr⟩ := drop_cons hR
  have hu : (ls.map strV)[j]? = some (strV u) := by rw [List.getElem?_map,hget];rfl
  have hp : 0 < u.length := List.length_pos_iff.2 h0
  rw [show [u].flatten = u by simp] at hdl ⊢
  have stop94 := trivial
  refine At.seq (At.seq (At.region ?_));refine Af 0 Z Z Z Z Z Z Z Z Z ?_;refine Ae Z Z Z Z (q_lenSS Z Z Z Z) ?_;refine Ad Z Z Z Z Z fun b7 h7 => ?_;refine Ab ?_
  obtain rfl : b7 = true := h7.symm.trans (decide_eq_true (by omega))
  refine At.cond Z ?_;refine At.skip ?_;refine At.block ?_;refine At.seq (At.region ?_);refine Aa Z Z Z Z Z O ?_;refine Ab (At.seq (At.seq (At.region ?_)));refine Af 0 Z Z Z Z Z Z Z Z Z ?_
  clear stop94
  refine Ai Z Z Z Z Z Z Z Z (s94 L _ (w := u) (b := 10)) ?_
  rw [ixI_none h]
  refine Aa Z Z Z Z Z O ?_;refine Ab (At.seq (At.region ?_));refine Aa Z Z Z Z Z O ?_;refine Ad Z Z Z Z Z fun b11 h11 => ?_;refine Ab ?_
  obtain rfl : b11 = false := h11.symm.trans (by kernel_rfl)
  refine At.cond Z ?_;refine At.region ?_;refine Af 0 Z Z Z Z Z Z Z Z Z ?_;refine Aa Z Z Z Z Z O ?_;refine Ag 0 Z Z Z Z Z Z Z Z Z Z Z Z ?_;refine Ab (At.seq (At.region ?_));(iterate 2 refine Aa Z Z Z Z Z O ?_)
  refine At.yieldB 1 Z Z Z Z Z Z Z hh hu hI rfl (fun Hk' H' hB hs => hpn _ ⟨_,hs,hB⟩) (fun Hk hI => ?_) (fun Hk hD => ?_)
  ·refine Aa Z Z Z Z Z O ?_
   refine Ab ?_;refine At.cond Z ?_;refine At.skip ?_;refine At.inBlock ?_
   have ag := again ⟨(j + 1,Hk),hlt,hI⟩ (by simp only;omega)
   simp only [hdr,List.flatten_nil] at ag
   refine Aq (ag)
  ·refine Aa Z Z Z Z Z O ?_
   refine Ab ?_;refine At.cond Z ?_
   exact At.ret Tryz.func93 (.inr ⟨_,rfl⟩) rfl .nil (wk (hc _ _ (⟨_,Sub.tail _ _,.inr ⟨j,by rw [List.length_map];exact hlt,hD⟩⟩)))
 | cons h hs =>
  rename_i u rest
  obtain ⟨hlt,hget,hdr⟩ := drop_cons hR
  have hu : (ls.map strV)[j]? = some (strV (u ++ [10])) := by rw [List.getElem?_map,hget];rfl
  rw [show ((u ++ [10]) :: rest).flatten = u ++ 10 :: rest.flatten by simp] at hdl ⊢
  have hle : (u ++ 10 :: rest.flatten).length = u.length + rest.flatten.length + 1 := by simp;omega
  have stop94 := trivial
  refine At.seq (At.seq (At.region ?_));refine Af 0 Z Z Z Z Z Z Z Z Z ?_;refine Ae Z Z Z Z (q_lenSS Z Z Z Z) ?_;refine Ad Z Z Z Z Z fun b7 h7 => ?_;refine Ab ?_
  obtain rfl : b7 = true := h7.symm.trans (decide_eq_true (by omega))
  refine At.cond Z ?_;refine At.skip ?_;refine At.block ?_;refine At.seq (At.region ?_);refine Aa Z Z Z Z Z O ?_;refine Ab (At.seq (At.seq (At.region ?_)));refine Af 0 Z Z Z Z Z Z Z Z Z ?_
  clear stop94
  refine Ai Z Z Z Z Z Z Z Z (s94 L _ (w := u ++ 10 :: rest.flatten) (b := 10)) ?_
  rw [ixI_some h]
  have stopDraw := trivial
  refine Aa Z Z Z Z Z O ?_;refine Ab (At.seq (At.region ?_));refine Aa Z Z Z Z Z O ?_;refine Ad Z Z Z Z Z fun b11 h11 => ?_;refine Ab ?_
  obtain rfl : b11 = true := h11.symm.trans (by kernel_rfl)
  refine At.cond Z ?_
  clear stopDraw
  refine Bd hmix (_) sb ?_;refine Aj 0 0 Z Z Z Z Z Z Z Z Z Z Z ?_;refine Ac 1 Z Z Z Z Z Z Z O ?_;refine Ac 2 Z Z Z Z Z Z Z (by omega) ?_;refine Ak 3 Z Z Z Z Z (q_cutH (h := (u.length + 1)) Z Z Z (by omega)) rfl ?_;refine Aj 0 4 Z Z Z Z Z Z Z Z Z Z Z ?_;refine Ac 5 Z Z Z Z Z Z Z O ?_;refine Ac 6 Z Z Z Z Z Z Z (by omega) ?_
  refine Ak 7 Z Z Z Z Z (q_cutL (l := (u.length + 1)) Z Z Z (by omega)) rfl ?_;refine Ac 8 Z Z Z Z Z Z Z O ?_;refine pool_lastI 9 Z Z Z Z Z ?_
  rw [show (u ++ 10 :: rest.flatten).take (u.length + 1) = u ++ [10] by simp [List.take_append,List.take_of_length_le (show u.length ≤ u.length + 1 by omega)],show (u ++ 10 :: rest.flatten).drop (u.length + 1) = rest.flatten by simp [List.drop_append]]
  refine Ag 0 Z Z Z Z Z Z Z Z Z Z Z Z ?_;refine Ab (At.seq (At.region ?_));(iterate 2 refine Aa Z Z Z Z Z O ?_)
  refine At.yieldB 1 Z Z Z Z Z Z Z hh hu hI rfl (fun Hk' H' hB hs => hpn _ ⟨_,hs,hB⟩) (fun Hk hI => ?_) (fun Hk hD => ?_)
  ·refine Aa Z Z Z Z Z O ?_
   refine Ab ?_;refine At.cond Z ?_;refine At.skip ?_;refine At.inBlock ?_
   have ag := again ⟨(j + 1,Hk),hlt,hI⟩ (by simp only;omega)
   simp only [hdr] at ag
   refine Aq (ag)
  ·refine Aa Z Z Z Z Z O ?_
   refine Ab ?_;refine At.cond Z ?_
   exact At.ret Tryz.func93 (.inr ⟨_,rfl⟩) rfl .nil (wk (hc _ _ (⟨_,Sub.tail _ _,.inr ⟨j,by rw [List.length_map];exact hlt,hD⟩⟩)))
end Go.Gx
end
section
namespace Go.Gx
open Go Go.Conc
section
variable {P : Program} {main : Bool} {L : Lg P main} {f : FuncId} {ro : Option Nat} {ds : Dz} {cs : List Frame} {n : Nat} {E : Env} {H : Facts} {k : List Item} {ops : Array Oper} {i : Nat} {rest : List Nat} {o : Oper} {d : Nat}
theorem At.callR {x : Operand} {az : Array Operand} {ats : Array TypeId} {g : FuncId} {first cap : List Value} {vs args : List Value} {v : Value} (ho : ops[i]? = some o) (hop : o.op = .call { callee := .value x,args := az,argTypes := ats }) (hw : wantE ops o E = some true) (hd : o.dst = some d) (hn : Nat.blt d n = true)
  (hx : ev E x = some (.func (.func g) ⟨first⟩ ⟨cap⟩)) (has : evs E az.toList = some vs) (hcat : cat3 first vs cap = some args) [hb : HB P g] (hc : Boom L g (List.toArray args) H v)
  (hp : ∀ tmps : Array Value,tmps.size = n → E.ok tmps → L.J (G ((Fr f ro ds tmps (.inRegion ops (i :: rest) :: k)).raise (pe v)) cs) H) : At L f ro ds cs n E H (.inRegion ops (i :: rest) :: k) := by
 refine At.calls ho hop hw hx has fun tmps hs hE => ?_;refine calls_enter hb.h ?_
 rw [show ((⟨first⟩ : Array Value) ++ vs.toArray ++ (⟨cap⟩ : Array Value)) = List.toArray args from by rw [← cat3_eq hcat]]
 exact hc _ _ (fun _ _ h => h.elim) (by rintro _ rfl;exact hp tmps hs hE)
end
theorem q_nilEqI {P : Program} {H : Facts} {E : Env} {o : Oper} {t t' u : TypeId} {v : Value} {x : Operand} [hi : IfI P t] (ho : o.op = .binOp .eql t x (.const .nilIface) t') (hx : ev E x = some (.iface u v)) : QOp P o E H (.bool false) :=
 ⟨nd ho (by intro c h;cases h),fun φ hA Q hQ => by
  obtain ⟨ms,hu⟩ := hi.h
  unfold execOp;rw [ho];simp only [hA x _ hx,hA _ _ (show ev E (.const .nilIface) = some .nilIface from rfl),K.bind]
  unfold eqGuard
  simp only [Bool.not_true,Bool.not_false,Bool.false_eq_true,if_false,K.pure,Bool.or_true,if_true]
  simp only [binOp,K.bind]
  show K P (Op.equalIn (9999 + 1) t (.iface u v) .nilIface) _ _
  unfold Op.equalIn
  rw [K.bind,k_underlying hu]
  exact hQ⟩
theorem Pool.back {P : Program} {main : Bool} {L : Lg P main} {f : FuncId} {ro : Option Nat} {ds : Dz} {cs : List Frame} {n : Nat} {ops : Array Oper} {k : List Item} {Hq : Facts} {R : List Reg} {Ls : List Nat} {Fs : List Flo} {E : Env} {sf X Y : Facts} [hb : Back sf X Y] (h : Pool L f ro ds cs n ops k Hq R Ls Fs E Y)
  (hq : Sub Hq Y := by repeat (first | exact Sub.refl _ | assumption | exact Sub.pre _ _ | apply Sub.cons | apply Sub.drop | apply Sub.appL | apply Sub.dropL)) : Pool L f ro ds cs n ops k Hq R Ls Fs E (sf ++ X) :=
 Pool.weakH h hb.s hq
end Go.Gx
end
section
namespace Go.Gx
open Go Go.Conc Go.Proofs
variable {main : Bool}
def GoodAt (is : List LI) (j : Nat) (it : LI) : Prop := lastK is j ≤ kindI it ∧ (kindI it = 0 ↔ j = 0)
structure Lns (us : List (List UInt8)) (is : List LI) : Prop where
 len : is.length ≤ us.length
 good : ∀ (j : Nat) (u : List UInt8) (it : LI),us[j]? = some u → is[j]? = some it → LineIs u it ∧ GoodAt is j it
 bad : ∀ u : List UInt8,us[is.length]? = some u → ∀ it,LineIs u it → ¬ GoodAt is is.length it
theorem lastK_app {is : List LI} {it : LI} {j : Nat} (h : j ≤ is.length) : lastK (is ++ [it]) j = lastK is j := by
 unfold lastK
 rw [List.take_append_of_le_length h]
theorem lns_pre (us : List (List UInt8)) : ∀ n ≤ us.length,(∃ is : List LI,is.length = n ∧ ∀ (j : Nat) (u : List UInt8) (it : LI),us[j]? = some u → is[j]? = some it → LineIs u it ∧ GoodAt is j it) ∨ ∃ is,Lns us is
 | 0,_ => .inl ⟨[],rfl,by intro j u it _ h;simp at h⟩
 | n + 1,hn => by
  rcases lns_pre us n (by omega) with ⟨is,hl,hg⟩ | h
  ·have hu : us[n]? = some us[n] := List.getElem?_eq_getElem (by omega)
   by_cases h : ∃ it,LineIs us[n] it ∧ GoodAt is n it
   ·obtain ⟨it,h1,h2⟩ := h
    refine .inl ⟨is ++ [it],by simp [hl],fun j u it' hj hi => ?_⟩
    rcases Nat.lt_or_ge j is.length with hlt | hge
    ·rw [List.getElem?_append_left hlt] at hi
     obtain ⟨g1,g2⟩ := hg j u it' hj hi
     exact ⟨g1,by unfold GoodAt at g2 ⊢;rw [lastK_app (by omega)];exact g2⟩
    ·have hj' := (List.getElem?_eq_some_iff.1 hi).1
     simp only [List.length_append,List.length_cons,List.length_nil] at hj'
     obtain rfl : j = is.length := by omega
     rw [List.getElem?_append_right (by omega),Nat.sub_self] at hi
     cases hi
     rw [hl,hu] at hj
     cases hj
     exact ⟨h1,by unfold GoodAt at h2 ⊢;rw [lastK_app (by omega),hl];exact h2⟩
   ·refine .inr ⟨is,by omega,hg,fun u hu' it h1 h2 => ?_⟩
    rw [hl] at hu' h2
    rw [hu] at hu'
    cases hu'
    exact h ⟨it,h1,h2⟩
  ·exact .inr h
theorem lns_ex (us : List (List UInt8)) : ∃ is,Lns us is := by
 rcases lns_pre us us.length (Nat.le_refl _) with ⟨is,hl,hg⟩ | h
 ·refine ⟨is,by omega,hg,fun u hu => ?_⟩
  rw [hl,List.getElem?_eq_none (Nat.le_refl _)] at hu
  cases hu
 ·exact h
theorem ln_len : ∀ {ws : List (List UInt8)},LnOk ws → ws.length ≤ ws.flatten.length := by
 intro ws h
 induction h with
 | nil => simp
 | last h h0 => rename_i u;have := List.length_pos_iff.2 h0;simp;omega
 | cons h hs ih => simp only [List.flatten_cons,List.length_append,List.length_cons,List.length_nil];omega
def parM (m : Nat) (is : List LI) : Bk × Int × Int := if is.length < m then (bk0,(is.length : Int) + 1,3) else if m = 0 then (bk0,0,3) else if bookBar (preB is m) = 0 then (preB is m,0,0) else (bk0,0,bookBar (preB is m))
end Go.Gx
end
section
namespace Go.Gx
open Go Go.Conc Go.Proofs
variable {main : Bool}
def stepSp (b : UInt8) (s : List (List UInt8) × List UInt8) (x : UInt8) : List (List UInt8) × List UInt8 := if x = b then (s.1 ++ [s.2],[]) else (s.1,s.2 ++ [x])
def spl (b : UInt8) (w : List UInt8) : List (List UInt8) × List UInt8 := w.foldl (stepSp b) ([],[])
theorem spl_succ {b : UInt8} {w : List UInt8} {i : Nat} (h : i < w.length) : spl b (w.take (i + 1)) = stepSp b (spl b (w.take i)) w[i] := by
 unfold spl
 rw [List.take_succ_eq_append_getElem h,List.foldl_append]
 rfl
theorem spl_no {b : UInt8} : ∀ {f : List UInt8} (o : List (List UInt8)) (c : List UInt8),b ∉ f → f.foldl (stepSp b) (o,c) = (o,c ++ f)
 | [],o,c,_ => by simp
 | x :: f,o,c,h => by
  have hx : x ≠ b := fun e => h (by rw [e];exact List.mem_cons_self ..)
  rw [List.foldl_cons,show stepSp b (o,c) x = (o,c ++ [x]) from if_neg hx,spl_no o _ fun hm => h (List.mem_cons_of_mem _ hm)]
  simp
theorem spl_join {b : UInt8} : ∀ {fs : List (List UInt8)} (o : List (List UInt8)),(∀ f ∈ fs,b ∉ f) → 0 < fs.length →
  ((joinB b fs).foldl (stepSp b) (o,[])).1 ++ [((joinB b fs).foldl (stepSp b) (o,[])).2] = o ++ fs
 | [],o,_,h => by simp at h
 | [f],o,h,_ => by
  rw [joinB,spl_no _ _ (h f (by simp))]
  simp
 | f :: g :: fs,o,h,_ => by
  have ih := spl_join (b := b) (fs := g :: fs) (o ++ [f]) (fun x hx => h x (List.mem_cons_of_mem _ hx)) (by simp)
  have e : (joinB b (f :: g :: fs)).foldl (stepSp b) (o,[]) = (joinB b (g :: fs)).foldl (stepSp b) (o ++ [f],[]) := by
   rw [joinB,List.foldl_append,spl_no _ _ (h f (by simp)),List.foldl_cons]
   congr 1
   simp [stepSp]
  rw [e,ih]
  simp
theorem spl_all {b : UInt8} {fs : List (List UInt8)} (h : ∀ f ∈ fs,b ∉ f) (hp : 0 < fs.length) : (spl b (joinB b fs)).1 ++ [(spl b (joinB b fs)).2] = fs := spl_join [] h hp
theorem spl_len {b : UInt8} : ∀ {w : List UInt8} {o : List (List UInt8)} {c : List UInt8},(w.foldl (stepSp b) (o,c)).1.length ≤ o.length + w.length
 | [],o,c => by simp
 | x :: w,o,c => by
  rw [List.foldl_cons]
  by_cases e : x = b
  ·rw [show stepSp b (o,c) x = (o ++ [c],[]) from if_pos e]
   have := spl_len (b := b) (w := w) (o := o ++ [c]) (c := [])
   simp only [List.length_append,List.length_cons,List.length_nil] at this ⊢;omega
  ·rw [show stepSp b (o,c) x = (o,c ++ [x]) from if_neg e]
   have := spl_len (b := b) (w := w) (o := o) (c := c ++ [x])
   simp only [List.length_cons] at this ⊢;omega
theorem spl_take {b : UInt8} {w : List UInt8} {i : Nat} : (spl b (w.take i)).1.length ≤ i := by
 have := spl_len (b := b) (w := w.take i) (o := []) (c := [])
 rw [List.length_take] at this
 simp only [List.length_nil] at this
 unfold spl
 omega
def linesOf : List (List UInt8) → List (List UInt8)
 | [] => []
 | [f] => if f = [] then [] else [f]
 | f :: g :: fs => (f ++ [10]) :: linesOf (g :: fs)
def rowsL : List (List UInt8) → List (List UInt8)
 | [] => []
 | [f] => if f = [] then [] else [f]
 | f :: g :: fs => f :: rowsL (g :: fs)
theorem lines_ok : ∀ {fs : List (List UInt8)},(∀ f ∈ fs,(10 : UInt8) ∉ f) → LnOk (linesOf fs) ∧ (linesOf fs).flatten = joinB 10 fs ∧ (linesOf fs).map cutE = rowsL fs
 | [],_ => ⟨.nil,rfl,rfl⟩
 | [f],h => by
  unfold linesOf rowsL
  by_cases e : f = []
  ·rw [if_pos e,e];exact ⟨.nil,rfl,rfl⟩
  ·rw [if_neg e]
   refine ⟨.last (h f (by simp)) e,by simp [joinB],?_⟩
   have : ¬ f.getLast? = some 10 := fun h' => h f (by simp) (List.mem_of_getLast? h')
   simp [cutE,this]
 | f :: g :: fs,h => by
  obtain ⟨h1,h2,h3⟩ := lines_ok (fs := g :: fs) fun x hx => h x (List.mem_cons_of_mem _ hx)
  refine ⟨.cons (h f (by simp)) h1,by simp [linesOf,joinB,h2],?_⟩
  show cutE (f ++ [10]) :: (linesOf (g :: fs)).map cutE = f :: rowsL (g :: fs)
  rw [h3]
  simp [cutE]
theorem rows_eq : ∀ {fs : List (List UInt8)},0 < fs.length → rowsL fs = if fs.getLast? = some [] then fs.dropLast else fs
 | [],h => by simp at h
 | [f],_ => by
  unfold rowsL
  by_cases e : f = [] <;> simp [e]
 | f :: g :: fs,_ => by
  have := rows_eq (fs := g :: fs) (by simp)
  unfold rowsL
  rw [this]
  simp only [List.getLast?_cons_cons]
  split <;> simp
set_option maxRecDepth 100000 in
theorem s101 (L : Lg Tryz.prog main) (H : Facts) {b : UInt8} {fs : List (List UInt8)} (hf : ∀ f ∈ fs,b ∉ f) (hp : 0 < fs.length) (hl : (joinB b fs).length ≤ 50000) :
  Grows L 101 #[.string (S (joinB b fs)),.int .u8 b.toNat] H (fun v sf => Sl cS 9 v fs sf) := by
 refine Spec.enter Tryz.func101 rfl (by simp [Tryz.f101]) fun c cs hc => ?_
 have hall := spl_all hf hp
 generalize joinB b fs = w at hl hall ⊢
 refine At.seq (At.region ?_);refine Aa Z Z Z Z Z O ?_;refine Ab (At.seq (At.region ?_));refine Aa Z Z Z Z Z O ?_;refine Ab (At.seq (At.region ?_));refine Aa Z Z Z Z Z O ?_;refine Ab (At.seq (At.seq (At.region ?_)));refine Aa Z Z Z Z Z O ?_;refine Ab ?_;refine At.block ?_
 refine Az (X := { x : Nat × Nat × Value × Facts // x.1 ≤ w.length ∧ x.2.1 ≤ x.1 ∧ (spl b (w.take x.1)).2 = (w.take x.1).drop x.2.1 ∧ Sl cS 9 x.2.2.1 (spl b (w.take x.1)).1 x.2.2.2 }) [0,1,4] (fun x => [(7,.int .i64 (x.1.1 : Int)),(6,.int .i64 (x.1.2.1 : Int)),(5,x.1.2.2.1)]) (fun x => x.1.2.2.2 ++ H) (fun x => w.length - x.1.1) (⟨(0,0,.slice none 0 0,[]),Nat.zero_le _,Nat.le_refl _,rfl,Sl.nil⟩) rfl ?_ (by repeat (first | exact trivial | refine ⟨rfl,?_⟩)) sb
 rintro ⟨⟨i,q,vo,sfo⟩,hi,ha,hcur,hsl⟩ again
 simp only at again hi ha hcur hsl ⊢
 have hsp := spl_take (b := b) (w := w) (i := i)
 refine At.seq (At.seq (At.region ?_));(iterate 2 refine Aa Z Z Z Z Z O ?_);refine Ae Z Z Z Z (q_lenSS Z Z Z Z) ?_;refine Ad Z Z Z Z Z fun b11 h11 => ?_;refine Ab ?_
 cases b11
 ·have e : i = w.length := by simp at h11;omega
  subst e
  rw [List.take_length] at hcur hsl hsp
  refine At.cond Z ?_;refine At.exit rfl ?_;refine At.seq (At.region ?_);(iterate 3 refine Aa Z Z Z Z Z O ?_);refine Ae Z Z Z Z (q_cutL (l := (q)) Z Z Z (by assumption)) ?_
  (refine At.l Z Z Z Z (l_buildSlice Z Z Z Z Z) ?_;rintro _ _ ⟨r32,rfl,rfl⟩)
  refine At.push (x := (w.drop q)) 0 1 Z Z Z Z Z Z Z Z Z Z Z Z Z Z hsl Z Z Z ?_ fun v sf hs => ?_
  ·omega
  refine Aa Z Z Z Z Z O ?_;refine Ab ?_
  rw [hcur] at hall
  exact At.ret Tryz.func101 (.inr ⟨_,rfl⟩) rfl (.tmp rfl .nil) (wk (hc _ _ (⟨sf,hall ▸ hs,rfl⟩)))
 ·have hlt : i < w.length := by simp at h11;omega
  have hwi : w[i]? = some w[i] := List.getElem?_eq_getElem hlt
  have hst := spl_succ (b := b) hlt
  have hq : q ≤ (w.take i).length := by rw [List.length_take];omega
  refine At.cond Z ?_;refine At.skip (At.seq ?_);refine At.block ?_;refine At.seq (At.region ?_);(iterate 2 refine Aa Z Z Z Z Z O ?_);refine Ae Z Z Z Z (q_at (j := (i)) Z Z Z (by assumption)) ?_;refine Aa Z Z Z Z Z O ?_;refine Ad Z Z Z Z Z fun b18 h18 => ?_;refine Ab ?_
  cases b18
  ·have hne : ¬ w[i] = b := fun e => by rw [e] at h18;simp at h18
   rw [show stepSp b (spl b (w.take i)) w[i] = ((spl b (w.take i)).1,(spl b (w.take i)).2 ++ [w[i]]) from if_neg hne] at hst
   refine At.cond Z ?_;refine At.skip ?_;refine At.inBlock ?_;refine At.region ?_;refine Aa Z Z Z Z Z O ?_;refine Aa Z Z Z Z Z (by omega) ?_;refine Aa Z Z Z Z Z O ?_;refine Ab ?_
   refine Aq ((again ⟨(i + 1,q,vo,sfo),hlt,Nat.le_succ_of_le ha,by rw [hst,hcur,List.take_succ_eq_append_getElem hlt,List.drop_append_of_le_length hq],by rw [hst];exact hsl⟩ (by simp only;omega)))
  ·have he : w[i] = b := by
    have := of_decide_eq_true h18
    exact UInt8.toNat_inj.1 (by omega)
   rw [show stepSp b (spl b (w.take i)) w[i] = ((spl b (w.take i)).1 ++ [(spl b (w.take i)).2],[]) from if_pos he] at hst
   refine At.cond Z ?_;refine At.region ?_;(iterate 4 refine Aa Z Z Z Z Z O ?_);refine Ae Z Z Z Z (q_cutLH (l := (q)) (h := (i)) Z Z Z Z (by assumption) (by assumption)) ?_
   (refine At.l Z Z Z Z (l_buildSlice Z Z Z Z Z) ?_;rintro _ _ ⟨r24,rfl,rfl⟩)
   rw [← hcur]
   refine At.push (x := (spl b (w.take i)).2) 0 1 Z Z Z Z Z Z Z Z Z Z Z Z Z Z hsl Z Z Z ?_ fun v sf hs => ?_
   ·omega
   refine Aa Z Z Z Z Z O ?_;refine Aa Z Z Z Z Z (by omega) ?_;(iterate 2 refine Aa Z Z Z Z Z O ?_);refine Ab ?_;refine At.inBlock ?_;refine At.region ?_;refine Aa Z Z Z Z Z O ?_;refine Aa Z Z Z Z Z (by omega) ?_;refine Aa Z Z Z Z Z O ?_;refine Ab ?_
   refine Aq ((again ⟨(i + 1,i + 1,v,sf),hlt,Nat.le_refl _,by rw [hst];simp [List.drop_of_length_le],by rw [hst];exact hs⟩ (by simp only;omega)))
end Go.Gx
end
section
namespace Go.Gx
open Go Go.Conc Go.Proofs
variable {main : Bool}
theorem slA_z {b off n sz : Nat} : slA (some ⟨b,off,none⟩) n 0 sz = some ⟨b,off,none⟩ := by
 unfold slA
 split
 ·rfl
 ·simp [Addr.add]
set_option maxRecDepth 100000 in
theorem s47 (L : Lg Tryz.prog main) (H : Facts) {fs : List (List UInt8)} (hf : ∀ f ∈ fs,(10 : UInt8) ∉ f) (hp : 0 < fs.length) (hl : (joinB 10 fs).length ≤ 50000) :
  Grows L 47 #[.string (S (joinB 10 fs))] H (fun v sf => ∃ a cap,v = .slice a (rowsL fs).length cap ∧ Rd sf a ((rowsL fs).flatMap cS)) := by
 refine Spec.enter Tryz.func47 rfl (by simp [Tryz.f47]) fun c cs hc => ?_
 have hre := rows_eq hp
 have hfl := joinB_len (b := 10) (fs := fs)
 have stop101 := trivial
 refine At.seq (At.region ?_);refine Aa Z Z Z Z Z O ?_;refine Ab (At.seq (At.region ?_));refine Aa Z Z Z Z Z O ?_
 clear stop101
 refine Ay Z Z Z Z Z Z Z Z (s101 L _ (b := 10) hf hp hl) ?_
 rintro _ _ ⟨sf,hs,rfl⟩
 obtain ⟨a,cap,rfl⟩ := hs.slice
 obtain ⟨_,hr,hcap⟩ := hs.rd
 obtain ⟨init,last,rfl⟩ : ∃ init last,fs = init ++ [last] := ⟨fs.dropLast,fs.getLast (List.length_pos_iff.1 hp),(List.dropLast_concat_getLast _).symm⟩
 have hr' : Rd (sf ++ H) a ((init ++ [last]).flatMap cS) := hr.more (Sub.pre _ _)
 obtain ⟨b,off,rfl,hc1⟩ := hr'.el (j := init.length) (x := last) (by simp)
 rw [show (init ++ [last]).length = init.length + 1 by simp] at hfl hcap ⊢
 refine Aa Z Z Z Z Z O ?_;refine Ab (At.seq (At.seq (At.region ?_)));(iterate 2 refine Aa Z Z Z Z Z O ?_);refine Ao Z Z Z Z Z Z Z Z ?_;refine Aa Z Z Z Z Z (by omega) ?_;refine Ae Z Z Z Z (q_iaN (k := (init.length + 1 - 1)) Z Z Z (by omega) (by omega)) ?_;refine Au Z Z Z Z Z Z hc1.a Z Z ?_;refine At.qb Z Z Z Z (q_strEqS Z Z Z) fun b12 h12 => ?_;refine Ab ?_
 rw [show (((init.length + 1 : Nat) : Int) - 1) = (init.length : Int) from by omega]
 skip
 cases b12
 ·refine At.cond Z ?_
  refine At.skip (At.seq (At.region ?_));(iterate 2 refine Aa Z Z Z Z Z O ?_);refine Ab ?_
  have e : ¬ last = [] := by simpa using h12
  rw [show rowsL (init ++ [last]) = init ++ [last] from by rw [hre,if_neg (by simpa using e)],show (init ++ [last]).length = init.length + 1 by simp] at hc
  exact At.ret Tryz.func47 (.inr ⟨_,rfl⟩) rfl (.tmp rfl .nil) (wk (hc _ _ (⟨sf,⟨_,_,rfl,hr⟩,rfl⟩)))
 ·have e : last = [] := by simpa using h12
  rw [show rowsL (init ++ [last]) = init from by rw [hre,if_pos (by simpa using e)];simp] at hc
  refine At.cond Z ?_;refine At.seq (At.region ?_);(iterate 2 refine Aa Z Z Z Z Z O ?_);refine Ao Z Z Z Z Z Z Z Z ?_;refine Aa Z Z Z Z Z (by omega) ?_
  rw [show (((init.length + 1 : Nat) : Int) - 1) = (init.length : Int) from by omega]
  refine Ae Z Z Z Z (q_sliceH (h := (init.length)) Z Z Z (by omega)) ?_;refine Aa Z Z Z Z Z O ?_;refine Ab ?_
  rw [slA_z]
  have hh := Rd.hd hr init.length
  rw [List.take_left] at hh
  exact At.ret Tryz.func47 (.inr ⟨_,rfl⟩) rfl (.tmp rfl .nil) (wk (hc _ _ (⟨sf,⟨_,_,rfl,hh⟩,rfl⟩)))
set_option maxRecDepth 100000 in
theorem s102 (L : Lg Tryz.prog main) (H : Facts) {f0 : List UInt8} {fs : List (List UInt8)} (hf : ∀ f ∈ f0 :: fs,(32 : UInt8) ∉ f) (hl : (joinB 32 (f0 :: fs)).length ≤ 50000) :
  Grows L 102 #[.string (S (joinB 32 (f0 :: fs)))] H (fun v sf => ([] ∈ f0 :: fs ∧ v = .tuple #[.string (S []),.slice none 0 0,.bool false]) ∨ ([] ∉ f0 :: fs ∧ ∃ a cap,v = .tuple #[.string (S f0),.slice a fs.length cap,.bool true] ∧ Rd sf a (fs.flatMap cS))) := by
 refine Spec.enter Tryz.func102 rfl (by simp [Tryz.f102]) fun c cs hc => ?_
 have hfl := joinB_len (b := 32) (fs := f0 :: fs)
 have stop101 := trivial
 refine At.seq (At.region ?_);(iterate 3 refine Aa Z Z Z Z Z O ?_);refine Ab (At.seq (At.region ?_));refine Aa Z Z Z Z Z O ?_
 clear stop101
 refine Ay Z Z Z Z Z Z Z Z (s101 L _ (b := 32) hf (by simp) hl) ?_
 rintro _ _ ⟨sf,hs,rfl⟩
 obtain ⟨a,cap,rfl⟩ := hs.slice
 obtain ⟨_,hr,hcap⟩ := hs.rd
 have hr' : Rd (sf ++ H) a ((f0 :: fs).flatMap cS) := hr.more (Sub.pre _ _)
 have hll : (f0 :: fs).length = fs.length + 1 := rfl
 obtain ⟨b,off,rfl,hc0⟩ := hr'.el (j := 0) (x := f0) rfl
 refine Aa Z Z Z Z Z O ?_;refine Ab (At.seq (At.seq (At.region ?_)));refine Aa Z Z Z Z Z O ?_;refine Ab ?_;refine At.block ?_
 refine Az (X := { j : Nat // j ≤ (f0 :: fs).length ∧ [] ∉ (f0 :: fs).take j }) [5] (fun x => [(6,.int .i64 (x.1 : Int))]) (fun _ => sf ++ H) (fun x => (f0 :: fs).length - x.1) (⟨0,Nat.zero_le _,by simp⟩) rfl ?_ (by repeat (first | exact trivial | refine ⟨rfl,?_⟩)) sb
 rintro ⟨j,hj,hno⟩ again
 simp only at again hj hno ⊢
 refine At.seq (At.seq (At.region ?_));(iterate 2 refine Aa Z Z Z Z Z O ?_);refine Ao Z Z Z Z Z Z Z Z ?_;refine Ad Z Z Z Z Z fun b12 h12 => ?_;refine Ab ?_
 cases b12
 ·have e : j = (f0 :: fs).length := by simp at h12;omega
  subst e
  rw [List.take_length] at hno
  have h1 := hr.slA hcap (l := 1) (by simp)
  refine At.cond Z ?_;refine At.exit rfl ?_;refine At.seq ?_;refine Aw hmix [] rfl ?_;refine Ac 0 Z Z Z Z Z Z Z O ?_;refine Ak 1 Z Z Z Z Z (q_ia Z Z Z (by dsimp only;omega)) rfl ?_;refine Ax 2 Z Z Z Z Z Z Z hc0.a Z Z Z ?_;refine Ac 3 Z Z Z Z Z Z Z O ?_;refine Ak 4 Z Z Z Z Z (q_sliceL (l := 1) Z Z Z (by omega)) rfl ?_
  refine Ac 5 Z Z Z Z Z Z Z O ?_;refine Ac 6 Z Z Z Z Z Z Z O ?_;refine Ac 7 Z Z Z Z Z Z Z O ?_;refine pool_done Z Z ?_;refine Ab ?_
  exact At.ret Tryz.func102 (.inr ⟨_,rfl⟩) rfl (.tmp rfl (.tmp rfl (.tmp rfl .nil))) (wk (hc _ _ (⟨sf,.inr ⟨hno,_,_,rfl,h1⟩,rfl⟩)))
 ·have hlt : j < (f0 :: fs).length := by simp at h12;simp;omega
  obtain ⟨_,_,e',hc1⟩ := hr'.el (List.getElem?_eq_getElem hlt)
  cases e'
  refine At.cond Z ?_;refine At.skip (At.seq ?_);refine At.block ?_;refine At.seq (At.region ?_);(iterate 2 refine Aa Z Z Z Z Z O ?_);refine Ae Z Z Z Z (q_ia Z Z Z (by assumption)) ?_;refine Au Z Z Z Z Z Z hc1.a Z Z ?_;refine At.qb Z Z Z Z (q_strEqS Z Z Z) fun b19 h19 => ?_;refine Ab ?_
  cases b19
  ·have e : ¬ (f0 :: fs)[j] = [] := by simpa using h19
   refine At.cond Z ?_;refine At.skip ?_;refine At.inBlock ?_;refine At.region ?_;refine Aa Z Z Z Z Z O ?_;refine Aa Z Z Z Z Z (by omega) ?_;refine Aa Z Z Z Z Z O ?_;refine Ab ?_
   refine Aq ((again ⟨j + 1,hlt,by rw [List.take_succ_eq_append_getElem hlt];exact fun hm => (List.mem_append.1 hm).elim hno fun h => e (List.mem_singleton.1 h).symm⟩ (by simp only;omega)))
  ·have e : (f0 :: fs)[j] = [] := by simpa using h19
   refine At.cond Z ?_;refine At.seq (At.region ?_);(iterate 3 refine Aa Z Z Z Z Z O ?_);refine Ab ?_
   exact At.ret Tryz.func102 (.inr ⟨_,rfl⟩) rfl (.tmp rfl (.tmp rfl (.tmp rfl .nil))) (wk (hc _ _ (⟨sf,.inl ⟨by rw [← e];exact List.getElem_mem hlt,rfl⟩,rfl⟩)))
set_option maxRecDepth 100000 in
theorem s103 (L : Lg Tryz.prog main) (H : Facts) {a : Option Addr} {n cap : Nat} {w : List UInt8} {fs : List (List UInt8)} (hn : fs.length = n) (hr : Rd H a (fs.flatMap cS)) (hl : fs.length ≤ 100000) : Pure L 103 #[.slice a n cap,.string (S w)] H (.int .i64 (idxS w fs 0)) := by
 subst hn
 refine Spec.enter Tryz.func103 rfl (by simp [Tryz.f103]) fun c cs hc => ?_;refine At.seq (At.region ?_);refine Aa Z Z Z Z Z O ?_;refine Ab (At.seq (At.seq (At.region ?_)));refine Aa Z Z Z Z Z O ?_;refine Ab ?_;refine At.block ?_
 refine Az (X := { j : Nat // j ≤ fs.length ∧ idxS w (fs.drop j) j = idxS w fs 0 }) [0,1] (fun x => [(5,.int .i64 (x.1 : Int))]) (fun _ => H) (fun x => fs.length - x.1) (⟨0,Nat.zero_le _,rfl⟩) rfl ?_ (by repeat (first | exact trivial | refine ⟨rfl,?_⟩)) sb
 rintro ⟨j,hj,hd⟩ again
 simp only at again ⊢
 refine At.seq (At.seq (At.region ?_));(iterate 2 refine Aa Z Z Z Z Z O ?_);refine Ao Z Z Z Z Z Z Z Z ?_;refine Ad Z Z Z Z Z fun b9 h9 => ?_;refine Ab ?_
 cases b9
 ·have e : j = fs.length := by simp at h9;omega
  subst e
  rw [List.drop_length] at hd
  rw [← hd] at hc
  refine At.cond Z ?_;refine At.exit rfl ?_;refine At.seq (At.region ?_);refine Aa Z Z Z Z Z O ?_;refine Ab ?_
  exact At.ret Tryz.func103 (.inr ⟨_,rfl⟩) rfl (.tmp rfl .nil) (wk (hc _ _ (⟨by rfl,rfl⟩)))
 ·have hlt : j < fs.length := by simp at h9;omega
  obtain ⟨b,off,rfl,hc1⟩ := hr.el (List.getElem?_eq_getElem hlt)
  rw [List.drop_eq_getElem_cons hlt,idxS] at hd
  refine At.cond Z ?_;refine At.skip (At.seq ?_);refine At.block ?_;refine At.seq (At.region ?_);(iterate 2 refine Aa Z Z Z Z Z O ?_);refine Ae Z Z Z Z (q_ia Z Z Z (by assumption)) ?_;refine Au Z Z Z Z Z Z hc1.a Z Z ?_;refine Aa Z Z Z Z Z O ?_;refine At.qb Z Z Z Z (q_strEqS Z Z Z) fun b17 h17 => ?_;refine Ab ?_
  cases b17
  ·have e : ¬ w = fs[j] := fun h => by rw [h] at h17;simp at h17
   rw [if_neg e] at hd
   refine At.cond Z ?_;refine At.skip ?_;refine At.inBlock ?_;refine At.region ?_;refine Aa Z Z Z Z Z O ?_;refine Aa Z Z Z Z Z (by omega) ?_;refine Aa Z Z Z Z Z O ?_;refine Ab ?_
   refine Aq ((again ⟨j + 1,hlt,hd⟩ (by simp only;omega)))
  ·have e : w = fs[j] := Eq.symm (by simpa using h17)
   rw [if_pos e] at hd
   rw [← hd] at hc
   refine At.cond Z ?_;refine At.seq (At.region ?_);(iterate 2 refine Aa Z Z Z Z Z O ?_);refine Ab ?_
   exact At.ret Tryz.func103 (.inr ⟨_,rfl⟩) rfl (.tmp rfl .nil) (wk (hc _ _ (⟨by rfl,rfl⟩)))
end Go.Gx
end
section
namespace Go.Gx
open Go Go.Conc Go.Proofs
variable {main : Bool}
instance {d : UInt8} : Decidable (isDig d) := inferInstanceAs (Decidable (48 ≤ d.toNat ∧ d.toNat ≤ 57))
instance {neg : Bool} {ds : List UInt8} : Decidable (NumOk neg ds) := decidable_of_iff (0 < ds.length ∧ ds.length ≤ 9 ∧ (∀ d ∈ ds,isDig d) ∧ (ds.head? ≠ some 48 ∨ (ds.length = 1 ∧ neg = false))) ⟨fun ⟨a,b,c,d⟩ => ⟨a,b,c,d⟩,fun h => ⟨h.pos,h.len,h.dig,h.lead⟩⟩
instance {w : List UInt8} : Decidable (NumW w) := inferInstanceAs (Decidable (NumOk _ _))
theorem split_uniq {b : UInt8} : ∀ {a a' r r' : List UInt8},b ∉ a → b ∉ a' → a ++ b :: r = a' ++ b :: r' → a = a' ∧ r = r'
 | [],[],r,r',_,_,h => by simpa using h
 | [],y :: a',r,r',_,h',h => by
  simp only [List.nil_append,List.cons_append,List.cons.injEq] at h
  exact absurd (by rw [h.1];exact List.mem_cons_self ..) h'
 | x :: a,[],r,r',hx,_,h => by
  simp only [List.nil_append,List.cons_append,List.cons.injEq] at h
  exact absurd (by rw [← h.1];exact List.mem_cons_self ..) hx
 | x :: a,y :: a',r,r',hx,hy,h => by
  simp only [List.cons_append,List.cons.injEq] at h
  obtain ⟨h1,h2⟩ := split_uniq (fun hm => hx (List.mem_cons_of_mem _ hm)) (fun hm => hy (List.mem_cons_of_mem _ hm)) h.2
  exact ⟨by rw [h.1,h1],h2⟩
theorem NumW.no58 {w : List UInt8} (h : NumW w) : (58 : UInt8) ∉ w := by
 have := Go.Gx.no58 (neg := negN w) (ds := restN w) h.dig
 rwa [sgn_restN] at this
def bandF (fs : List (List UInt8)) : Option (Int × Int) := match fs with
 | [a] => if NumW a then some (numV a,numV a) else none
 | [a,b] => if NumW a ∧ NumW b ∧ numV a ≠ numV b then some (numV a,numV b) else none
 | _ => none
theorem band_is {fs : List (List UInt8)} {x : Int × Int} (hf : ∀ f ∈ fs,(58 : UInt8) ∉ f) (hp : 0 < fs.length) : BandIs (joinB 58 fs) x ↔ bandF fs = some x := by
 match fs,hf,hp with
 | [a],hf,_ =>
  have ha := hf a (by simp)
  simp only [joinB,bandF]
  constructor
  ·rintro (⟨_,hn,rfl⟩ | ⟨a',r,rfl,_⟩)
   ·rw [if_pos hn]
   ·simp at ha
  ·intro h
   split at h
   ·next hn => cases h;exact .inl ⟨ha,hn,rfl⟩
   ·cases h
 | a :: b :: rest,hf,_ =>
  have ha := hf a (by simp)
  have key : ∀ y,BandIs (joinB 58 (a :: b :: rest)) y → NumW a ∧ NumW (joinB 58 (b :: rest)) ∧ numV a ≠ numV (joinB 58 (b :: rest)) ∧ y = (numV a,numV (joinB 58 (b :: rest))) := by
   rintro y (⟨h,_⟩ | ⟨a',r,h,h1,h2,h3,h4,rfl⟩)
   ·exact absurd (by simp [joinB]) h
   ·obtain ⟨rfl,rfl⟩ := split_uniq ha h1 h
    exact ⟨h2,h3,h4,rfl⟩
  cases rest with
  | nil =>
   constructor
   ·intro h
    obtain ⟨h1,h2,h3,rfl⟩ := key x h
    simp only [bandF]
    exact if_pos ⟨h1,h2,h3⟩
   ·intro h
    simp only [bandF] at h
    split at h
    ·next hn => cases h;exact .inr ⟨a,b,rfl,ha,hn.1,hn.2.1,hn.2.2,rfl⟩
    ·cases h
  | cons d rest =>
   constructor
   ·intro h
    have := (key x h).2.1.no58
    exact absurd (by simp [joinB]) this
   ·intro h
    simp only [bandF] at h
    cases h
theorem join_uniq {b : UInt8} : ∀ {fs gs : List (List UInt8)},(∀ f ∈ fs,b ∉ f) → (∀ f ∈ gs,b ∉ f) → 0 < fs.length → 0 < gs.length → joinB b fs = joinB b gs → fs = gs
 | [],_,_,_,h,_,_ => by simp at h
 | _,[],_,_,_,h,_ => by simp at h
 | [f],[g],_,_,_,_,h => by simpa [joinB] using h
 | [f],g :: g' :: gs,hf,_,_,_,h => by
  have := hf f (by simp)
  simp only [joinB] at h
  rw [h] at this
  simp at this
 | f :: f' :: fs,[g],_,hg,_,_,h => by
  have := hg g (by simp)
  simp only [joinB] at h
  rw [← h] at this
  simp at this
 | f :: f' :: fs,g :: g' :: gs,hf,hg,_,_,h => by
  simp only [joinB] at h
  obtain ⟨rfl,h2⟩ := split_uniq (hf f (by simp)) (hg g (by simp)) h
  rw [join_uniq (fs := f' :: fs) (gs := g' :: gs) (fun x hx => hf x (List.mem_cons_of_mem _ hx)) (fun x hx => hg x (List.mem_cons_of_mem _ hx)) (by simp) (by simp) h2]
def LineF (f0 : List UInt8) (fs : List (List UInt8)) (it : LI) : Prop :=
 (∃ a t x,f0 = wordL 0 ∧ fs = [a,t] ∧ NumW a ∧ BandIs t x ∧ it = .c (numV a) x.1 x.2) ∨ (∃ a b,f0 = wordL 1 ∧ fs = [a,b] ∧ NumW a ∧ NumW b ∧ it = .p (numV a,numV b)) ∨
  ∃ a b c,f0 = wordL 2 ∧ fs = [a,b,c] ∧ NumW a ∧ NumW b ∧ NumW c ∧ it = .m ((numV a,numV b),numV c)
theorem word32 (k : Nat) : (32 : UInt8) ∉ wordL k := by
 unfold wordL
 split <;> decide
theorem line_f {f0 : List UInt8} {fs : List (List UInt8)} {it : LI} (hf : ∀ f ∈ f0 :: fs,(32 : UInt8) ∉ f) : LineIs (joinB 32 (f0 :: fs)) it ↔ LineF f0 fs it := by
 constructor
 ·intro h
  generalize hw : joinB 32 (f0 :: fs) = w at h
  cases h with
  | c ha ht h1 h2 =>
   rename_i a t x
   have e := join_uniq (gs := [wordL 0,a,t]) hf (by simp only [List.mem_cons,List.not_mem_nil,or_false];exact fun f h => h.elim (fun e => e ▸ word32 0) fun h => h.elim (fun e => e ▸ h1) fun e => e ▸ h2) (by simp) (by simp) hw
   cases e
   exact .inl ⟨a,t,x,rfl,rfl,ha,ht,rfl⟩
  | p ha hb h1 h2 =>
   rename_i a b
   have e := join_uniq (gs := [wordL 1,a,b]) hf (by simp only [List.mem_cons,List.not_mem_nil,or_false];exact fun f h => h.elim (fun e => e ▸ word32 1) fun h => h.elim (fun e => e ▸ h1) fun e => e ▸ h2) (by simp) (by simp) hw
   cases e
   exact .inr (.inl ⟨a,b,rfl,rfl,ha,hb,rfl⟩)
  | m ha hb hc h1 h2 h3 =>
   rename_i a b c
   have e := join_uniq (gs := [wordL 2,a,b,c]) hf (by simp only [List.mem_cons,List.not_mem_nil,or_false];exact fun f h => h.elim (fun e => e ▸ word32 2) fun h => h.elim (fun e => e ▸ h1) fun h => h.elim (fun e => e ▸ h2) fun e => e ▸ h3) (by simp) (by simp) hw
   cases e
   exact .inr (.inr ⟨a,b,c,rfl,rfl,ha,hb,hc,rfl⟩)
 ·rintro (⟨a,t,x,rfl,rfl,ha,ht,rfl⟩ | ⟨a,b,rfl,rfl,ha,hb,rfl⟩ | ⟨a,b,c,rfl,rfl,ha,hb,hc,rfl⟩)
  ·exact .c ha ht (hf a (by simp)) (hf t (by simp))
  ·exact .p ha hb (hf a (by simp)) (hf b (by simp))
  ·exact .m ha hb hc (hf a (by simp)) (hf b (by simp)) (hf c (by simp))
end Go.Gx
end
section
namespace Go.Gx
open Go Go.Conc Go.Proofs
variable {main : Bool}
set_option maxRecDepth 100000 in
theorem s104 (L : Lg Tryz.prog main) (H : Facts) {w : List UInt8} (hl : w.length ≤ 100000) : Pure L 104 #[.string (S w)] H (.tuple #[.int .i64 (if NumW w then numV w else 0),.bool (decide (NumW w))]) := by
 refine Spec.enter Tryz.func104 rfl (by simp [Tryz.f104]) fun c cs hc => ?_
 have hrl : (restN w).length ≤ 100000 := by
  unfold restN
  split
  ·rw [List.length_drop];omega
  ·exact hl
 cases w with
 | nil =>
  have hno : ¬ NumW [] := fun h => h.ne rfl
  rw [if_neg hno,decide_eq_false hno] at hc
  refine At.seq (At.region ?_);(iterate 2 refine Aa Z Z Z Z Z O ?_);refine Ab (At.seq (At.region ?_));refine Aa Z Z Z Z Z O ?_;refine Ae Z Z Z Z (q_lenSS Z Z Z Z) ?_;refine Ad Z Z Z Z Z fun b9 h9 => ?_;refine Aa Z Z Z Z Z O ?_
  obtain rfl : b9 = false := h9.symm.trans (by kernel_rfl)
  (iterate 3 refine Ar Z Z Z Z ?_);(iterate 2 refine Aa Z Z Z Z Z O ?_);refine Ab (At.seq (At.seq (At.region ?_)));refine Aa Z Z Z Z Z O ?_;refine Ab ?_;refine At.cond Z ?_;refine At.skip (At.seq (At.seq (At.region ?_)));refine Aa Z Z Z Z Z O ?_;refine Ae Z Z Z Z (q_lenSS Z Z Z Z) ?_;refine Bc Z Z Z Z Z Z Z Z (s49 L _) fun b20 h20 => ?_
  (iterate 2 refine Aa Z Z Z Z Z O ?_)
  obtain rfl : b20 = false := h20.symm.trans (by kernel_rfl)
  (iterate 11 refine Ar Z Z Z Z ?_);refine Aa Z Z Z Z Z O ?_;refine Ab ?_;refine At.cond Z ?_;refine At.seq (At.region ?_);(iterate 2 refine Aa Z Z Z Z Z O ?_);refine Ab ?_
  exact At.ret Tryz.func104 (.inr ⟨_,rfl⟩) rfl (.tmp rfl (.tmp rfl .nil)) (wk (hc _ _ (⟨by rfl,rfl⟩)))
 | cons x r =>
  have hlen : (x :: r).length = r.length + 1 := rfl
  refine At.seq (At.region ?_);(iterate 2 refine Aa Z Z Z Z Z O ?_);refine Ab (At.seq (At.region ?_));refine Aa Z Z Z Z Z O ?_;refine Ae Z Z Z Z (q_lenSS Z Z Z Z) ?_;refine Ad Z Z Z Z Z fun b9 h9 => ?_;refine Aa Z Z Z Z Z O ?_
  obtain rfl : b9 = true := h9.symm.trans (by simp)
  refine Aa Z Z Z Z Z O ?_;refine Ae Z Z Z Z (q_at (j := 0) Z Z Z Z) ?_;refine Ad Z Z Z Z Z fun b13 h13 => ?_;(iterate 2 refine Aa Z Z Z Z Z O ?_);refine Ab (At.seq (At.seq (At.region ?_)));refine Aa Z Z Z Z Z O ?_;refine Ab ?_
  have hneg : negN (x :: r) = b13 := by
   rw [← h13]
   unfold negN
   by_cases e : x = 45
   ·subst e;rfl
   ·have e' : ¬ ((x.toNat : Int) = 45) := fun h => e (UInt8.toNat_inj.1 (by simp;omega))
    simp [e,e']
  refine At.cutk (X := Unit) [2,3,4,15] (fun _ => [(0,.string (S (restN (x :: r))))]) (fun _ => H) rfl ?_ fun key => ?_
  ·rintro _
   have hN : NumW (x :: r) ↔ NumOk b13 (restN (x :: r)) := by unfold NumW;rw [hneg]
   have hV : numV (x :: r) = sval b13 (restN (x :: r)) := by unfold numV;rw [hneg]
   rw [hV] at hc
   generalize restN (x :: r) = w at hrl hN hc ⊢
   refine At.seq ?_;refine At.cutk (X := { u : Unit // (1 ≤ w.length ∧ w.length ≤ 9) ∧ (w.head? ≠ some 48 ∨ (w.length = 1 ∧ b13 = false)) }) [0,4] (fun _ => []) (fun _ => H) rfl ?_ fun key => ?_
   ·rintro ⟨_,⟨h1,h9⟩,hlead⟩
    refine At.seq (At.region ?_);refine Aa Z Z Z Z Z O ?_;refine Ab (At.seq (At.seq (At.region ?_)));refine Aa Z Z Z Z Z O ?_;refine Ab ?_;refine At.block ?_
    refine Az (X := { i : Nat // i ≤ w.length ∧ ∀ d ∈ w.take i,isDig d }) [0,4] (fun x => [(6,.int .i64 (x.1 : Int)),(5,.int .i64 (dval (w.take x.1)))]) (fun _ => H) (fun x => w.length - x.1) (⟨0,Nat.zero_le _,by simp⟩) rfl ?_ (by repeat (first | exact trivial | refine ⟨rfl,?_⟩)) sb
    rintro ⟨i,hi,hd⟩ again
    simp only at again ⊢
    have hb := dval_le hd (by rw [List.length_take];omega) i
    rw [List.take_take,Nat.min_self] at hb
    refine At.seq (At.seq (At.region ?_));(iterate 2 refine Aa Z Z Z Z Z O ?_);refine Ae Z Z Z Z (q_lenSS Z Z Z Z) ?_;refine Ad Z Z Z Z Z fun b38 h38 => ?_;refine Ab ?_
    cases b38
    ·have e : i = w.length := by simp at h38;omega
     subst e
     rw [List.take_length] at hd hb ⊢
     have hok := hN.2 ⟨h1,h9,hd,hlead⟩
     rw [if_pos hok,decide_eq_true hok] at hc
     unfold sval at hc
     cases b13
     ·refine At.cond Z ?_
      refine At.exit rfl ?_;refine At.seq (At.seq (At.region ?_));refine Aa Z Z Z Z Z O ?_;refine Ab ?_;refine At.cond Z ?_;refine At.skip (At.seq (At.region ?_));(iterate 3 refine Aa Z Z Z Z Z O ?_);refine Ab ?_
      exact At.ret Tryz.func104 (.inr ⟨_,rfl⟩) rfl (.tmp rfl (.tmp rfl .nil)) (wk (hc _ _ (⟨by rfl,rfl⟩)))
     ·refine At.cond Z ?_
      refine At.exit rfl ?_;refine At.seq (At.seq (At.region ?_));refine Aa Z Z Z Z Z O ?_;refine Ab ?_;refine At.cond Z ?_;refine At.region ?_;refine Aa Z Z Z Z Z O ?_;refine Aa Z Z Z Z Z (by omega) ?_;refine Aa Z Z Z Z Z O ?_;refine Ab (At.seq (At.region ?_));(iterate 3 refine Aa Z Z Z Z Z O ?_);refine Ab ?_
      exact At.ret Tryz.func104 (.inr ⟨_,rfl⟩) rfl (.tmp rfl (.tmp rfl .nil)) (wk (hc _ _ (⟨by rfl,rfl⟩)))
    ·have hlt : i < w.length := by simp at h38;omega
     have hwi : w[i]? = some w[i] := List.getElem?_eq_getElem hlt
     have hu := w[i].toNat_lt
     have w1 : IntKind.wrap .i64 (w[i].toNat : Int) = w[i].toNat := wrap_in (by omega)
     refine At.cond Z ?_;refine At.skip (At.seq ?_);refine At.block ?_;refine At.seq (At.seq (At.region ?_));(iterate 2 refine Aa Z Z Z Z Z O ?_);refine Ae Z Z Z Z (q_at (j := (i)) Z Z Z (by assumption)) ?_;refine Ae Z Z Z Z (q_conv Z Z (by assumption)) ?_;refine Bc Z Z Z Z Z Z Z Z (s49 L _) fun b45 h45 => ?_;refine Aa Z Z Z Z Z O ?_;refine Ab ?_
     cases b45
     ·have hno : ¬ NumW (x :: r) := by
       rw [hN]
       intro h
       have := h.dig _ (List.getElem_mem hlt)
       unfold isDig at this
       simp at h45
       omega
      rw [if_neg hno,decide_eq_false hno] at hc
      refine At.cond Z ?_;refine At.seq (At.region ?_);(iterate 2 refine Aa Z Z Z Z Z O ?_);refine Ab ?_
      exact At.ret Tryz.func104 (.inr ⟨_,rfl⟩) rfl (.tmp rfl (.tmp rfl .nil)) (wk (hc _ _ (⟨by rfl,rfl⟩)))
     ·have hdi : isDig w[i] := by
       simp at h45
       unfold isDig
       omega
      refine At.cond Z ?_;refine At.skip (At.region ?_);refine Aa Z Z Z Z Z O ?_;refine Aa Z Z Z Z Z (by omega) ?_;(iterate 2 refine Aa Z Z Z Z Z O ?_);refine Ae Z Z Z Z (q_at (j := (i)) Z Z Z (by assumption)) ?_;refine Ae Z Z Z Z (q_conv Z Z (by assumption)) ?_;(iterate 2 refine Aa Z Z Z Z Z (by omega) ?_);refine Aa Z Z Z Z Z O ?_;refine Ab ?_;refine At.inBlock ?_
      refine At.region ?_;refine Aa Z Z Z Z Z O ?_;refine Aa Z Z Z Z Z (by omega) ?_;refine Aa Z Z Z Z Z O ?_;refine Ab ?_
      rw [show 10 * dval (w.take i) + (w[i].toNat : Int) - 48 = dval (w.take (i + 1)) from by rw [dval_take hlt];unfold dv;omega]
      refine Aq ((again ⟨i + 1,hlt,by rw [List.take_succ_eq_append_getElem hlt];intro f hf;exact (List.mem_append.1 hf).elim (hd f) fun h => by rw [List.mem_singleton.1 h];exact hdi⟩ (by simp only;omega)))
   ·have bad : ¬ ((1 ≤ w.length ∧ w.length ≤ 9) ∧ (w.head? ≠ some 48 ∨ (w.length = 1 ∧ b13 = false))) → ¬ NumW (x :: r) := fun h hn => h ⟨⟨(hN.1 hn).pos,(hN.1 hn).len⟩,(hN.1 hn).lead⟩
    refine At.seq (At.region ?_);refine Aa Z Z Z Z Z O ?_;refine Ae Z Z Z Z (q_lenSS Z Z Z Z) ?_;refine Bc Z Z Z Z Z Z Z Z (s49 L _) fun b20 h20 => ?_;(iterate 2 refine Aa Z Z Z Z Z O ?_)
    cases b20
    ·have hno := bad fun h => by simp at h20;omega
     rw [if_neg hno,decide_eq_false hno] at hc
     (iterate 11 refine Ar Z Z Z Z ?_);refine Aa Z Z Z Z Z O ?_;refine Ab ?_;refine At.cond Z ?_;refine At.seq (At.region ?_);(iterate 2 refine Aa Z Z Z Z Z O ?_);refine Ab ?_
     exact At.ret Tryz.func104 (.inr ⟨_,rfl⟩) rfl (.tmp rfl (.tmp rfl .nil)) (wk (hc _ _ (⟨by rfl,rfl⟩)))
    ·have h19 : 1 ≤ w.length ∧ w.length ≤ 9 := by simp at h20;omega
     obtain ⟨d0,ds,rfl⟩ := List.exists_cons_of_length_pos (show 0 < w.length by omega)
     refine Aa Z Z Z Z Z O ?_;refine Ae Z Z Z Z (q_at (j := 0) Z Z Z Z) ?_;refine Ad Z Z Z Z Z fun b25 h25 => ?_;refine Aa Z Z Z Z Z O ?_
     cases b25
     ·have hd : (d0 :: ds).head? ≠ some 48 := by
       intro h
       cases h
       simp at h25
      (iterate 6 refine Ar Z Z Z Z ?_);(iterate 2 refine Aa Z Z Z Z Z O ?_);refine Ab ?_;refine At.cond Z ?_;refine At.skip ?_
      refine Aq ((key ⟨(),h19,.inl hd⟩))
     ·have hd : (d0 :: ds).head? = some 48 := by
       have := of_decide_eq_true h25
       have : d0 = 48 := UInt8.toNat_inj.1 (by simp;omega)
       rw [this];rfl
      cases b13
      ·refine Aa Z Z Z Z Z O ?_
       (iterate 2 refine Aa Z Z Z Z Z O ?_);refine Ae Z Z Z Z (q_lenSS Z Z Z Z) ?_;refine Ad Z Z Z Z Z fun b31 h31 => ?_;(iterate 3 refine Aa Z Z Z Z Z O ?_);refine Ab ?_
       cases b31
       ·have h31' : (d0 :: ds).length = 1 := by have := of_decide_eq_false h31;omega
        refine At.cond Z ?_;refine At.skip ?_
        refine Aq ((key ⟨(),h19,.inr ⟨h31',rfl⟩⟩))
       ·have hno := bad fun h => h.2.elim (fun h => h hd) fun h => by have := of_decide_eq_true h31;omega
        rw [if_neg hno,decide_eq_false hno] at hc
        refine At.cond Z ?_;refine At.seq (At.region ?_);(iterate 2 refine Aa Z Z Z Z Z O ?_);refine Ab ?_
        exact At.ret Tryz.func104 (.inr ⟨_,rfl⟩) rfl (.tmp rfl (.tmp rfl .nil)) (wk (hc _ _ (⟨by rfl,rfl⟩)))
      ·have hno := bad fun h => h.2.elim (fun h => h hd) fun h => by cases h.2
       rw [if_neg hno,decide_eq_false hno] at hc
       (iterate 2 refine Aa Z Z Z Z Z O ?_);(iterate 3 refine Ar Z Z Z Z ?_);(iterate 3 refine Aa Z Z Z Z Z O ?_);refine Ab ?_;refine At.cond Z ?_;refine At.seq (At.region ?_);(iterate 2 refine Aa Z Z Z Z Z O ?_);refine Ab ?_
       exact At.ret Tryz.func104 (.inr ⟨_,rfl⟩) rfl (.tmp rfl (.tmp rfl .nil)) (wk (hc _ _ (⟨by rfl,rfl⟩)))
  ·cases b13
   ·have e : restN (x :: r) = x :: r := by
     unfold restN
     rw [if_neg]
     intro h
     unfold negN at hneg
     rw [h] at hneg
     cases hneg
    rw [e] at key
    refine At.cond Z ?_;refine At.skip ?_
    refine Aq ((key ()))
   ·have e : restN (x :: r) = r := by
     unfold restN
     unfold negN at hneg
     rw [if_pos (by simpa using hneg)]
     rfl
    rw [e] at key
    refine At.cond Z ?_;refine At.region ?_;refine Aa Z Z Z Z Z O ?_;refine Ae Z Z Z Z (q_cutL (l := 1) Z Z Z (by omega)) ?_;refine Aa Z Z Z Z Z O ?_;refine Ab ?_
    refine Aq ((key ()))
end Go.Gx
end
section
namespace Go.Gx
open Go Go.Conc Go.Proofs
variable {main : Bool}
theorem s104y (L : Lg Tryz.prog main) (H : Facts) {w : List UInt8} (hl : w.length ≤ 100000) (h : NumW w) : Pure L 104 #[.string (S w)] H (.tuple #[.int .i64 (numV w),.bool true]) := by
 have := s104 L H hl
 rwa [if_pos h,decide_eq_true h] at this
theorem s104n (L : Lg Tryz.prog main) (H : Facts) {w : List UInt8} (hl : w.length ≤ 100000) (h : ¬ NumW w) : Pure L 104 #[.string (S w)] H (.tuple #[.int .i64 0,.bool false]) := by
 have := s104 L H hl
 rwa [if_neg h,decide_eq_false h] at this
set_option maxRecDepth 100000 in
theorem s106 (L : Lg Tryz.prog main) (H : Facts) {a : Option Addr} {n cap : Nat} {fs : List (List UInt8)} (hn : fs.length = n) (hr : Rd H a (fs.flatMap cS)) (hfl : ∀ f ∈ fs,f.length ≤ 100000) (hl : fs.length ≤ 50001) :
  Grows L 106 #[.slice a n cap] H (fun v sf => ((∀ f ∈ fs,NumW f) ∧ ∃ a' cap',v = .tuple #[.slice a' fs.length cap',.bool true] ∧ Rd sf a' ((fs.map numV).flatMap c1)) ∨ ((¬ ∀ f ∈ fs,NumW f) ∧ v = .tuple #[.slice none 0 0,.bool false])) := by
 subst hn
 refine Spec.enter Tryz.func106 rfl (by simp [Tryz.f106]) fun c cs hc => ?_;refine At.seq (At.region ?_);(iterate 2 refine Aa Z Z Z Z Z O ?_);refine Ab (At.seq (At.region ?_));refine Aa Z Z Z Z Z O ?_;refine Ab (At.seq (At.seq (At.region ?_)));refine Aa Z Z Z Z Z O ?_;refine Ab ?_;refine At.block ?_
 refine Az (X := { x : Nat × Value × Facts // x.1 ≤ fs.length ∧ (∀ f ∈ fs.take x.1,NumW f) ∧ Sl c1 3 x.2.1 ((fs.take x.1).map numV) x.2.2 }) [0] (fun x => [(5,.int .i64 (x.1.1 : Int)),(4,x.1.2.1)]) (fun x => x.1.2.2 ++ H) (fun x => fs.length - x.1.1) (⟨(0,.slice none 0 0,[]),Nat.zero_le _,by simp,Sl.nil⟩) rfl ?_ (by repeat (first | exact trivial | refine ⟨rfl,?_⟩)) sb
 rintro ⟨⟨j,vo,sfo⟩,hj,hno,hsl⟩ again
 simp only at again hj hno hsl ⊢
 refine At.seq (At.seq (At.region ?_));(iterate 2 refine Aa Z Z Z Z Z O ?_);refine Ao Z Z Z Z Z Z Z Z ?_;refine Ad Z Z Z Z Z fun b11 h11 => ?_;refine Ab ?_
 cases b11
 ·have e : j = fs.length := by simp at h11;omega
  subst e
  rw [List.take_length] at hno hsl
  obtain ⟨a',cap',rfl⟩ := hsl.slice
  rw [List.length_map] at hsl ⊢
  obtain ⟨_,hr2,_⟩ := hsl.rd
  refine At.cond Z ?_;refine At.exit rfl ?_;refine At.seq (At.region ?_);(iterate 3 refine Aa Z Z Z Z Z O ?_);refine Ab ?_
  exact At.ret Tryz.func106 (.inr ⟨_,rfl⟩) rfl (.tmp rfl (.tmp rfl .nil)) (wk (hc _ _ (⟨sfo,.inl ⟨hno,_,_,rfl,hr2⟩,rfl⟩)))
 ·have hlt : j < fs.length := by simp at h11;omega
  have hr' : Rd (sfo ++ H) a (fs.flatMap cS) := hr.more (Sub.append_left _ _)
  obtain ⟨b,off,rfl,hc1⟩ := hr'.el (List.getElem?_eq_getElem hlt)
  have hfj := hfl _ (List.getElem_mem hlt)
  have htl : ((fs.take j).map numV).length = j := by rw [List.length_map,List.length_take];omega
  have stop104 := trivial
  refine At.cond Z ?_;refine At.skip (At.seq ?_);refine At.block ?_;refine At.seq (At.region ?_);(iterate 2 refine Aa Z Z Z Z Z O ?_);refine Ae Z Z Z Z (q_ia Z Z Z (by assumption)) ?_;refine Au Z Z Z Z Z Z hc1.a Z Z ?_
  clear stop104
  by_cases hN : NumW fs[j]
  ·refine Ai Z Z Z Z Z Z Z Z (s104y L _ hfj hN) ?_
   (iterate 5 refine Aa Z Z Z Z Z O ?_);refine Ab (At.seq (At.seq (At.region ?_)));(iterate 2 refine Aa Z Z Z Z Z O ?_);refine Ab ?_;refine At.cond Z ?_;refine At.skip (At.region ?_);(iterate 2 refine Aa Z Z Z Z Z O ?_)
   (refine At.l Z Z Z Z (l_buildSlice Z Z Z Z Z) ?_;rintro _ _ ⟨r26,rfl,rfl⟩)
   refine At.push (x := (numV fs[j])) 0 1 Z Z Z Z Z Z Z Z Z Z Z Z Z Z hsl Z Z Z ?_ fun v sf hs => ?_
   ·omega
   refine Aa Z Z Z Z Z O ?_;refine Ab ?_;refine At.inBlock ?_;refine At.region ?_;refine Aa Z Z Z Z Z O ?_;refine Aa Z Z Z Z Z (by omega) ?_;refine Aa Z Z Z Z Z O ?_;refine Ab ?_
   refine Aq ((again ⟨(j + 1,v,sf),hlt,by rw [List.take_succ_eq_append_getElem hlt];intro f hf;exact (List.mem_append.1 hf).elim (hno f) fun h => by rw [List.mem_singleton.1 h];exact hN,by rw [List.take_succ_eq_append_getElem hlt,List.map_append];exact hs⟩ (by simp only;omega)))
  ·refine Ai Z Z Z Z Z Z Z Z (s104n L _ hfj hN) ?_
   (iterate 5 refine Aa Z Z Z Z Z O ?_);refine Ab (At.seq (At.seq (At.region ?_)));(iterate 2 refine Aa Z Z Z Z Z O ?_);refine Ab ?_;refine At.cond Z ?_;refine At.seq (At.region ?_);(iterate 2 refine Aa Z Z Z Z Z O ?_);refine Ab ?_
   exact At.ret Tryz.func106 (.inr ⟨_,rfl⟩) rfl (.tmp rfl (.tmp rfl .nil)) (wk (hc _ _ (⟨sfo,.inr ⟨fun h => hN (h _ (List.getElem_mem hlt)),rfl⟩,rfl⟩)))
theorem joinB_el {b : UInt8} {f : List UInt8} : ∀ {fs : List (List UInt8)},f ∈ fs → f.length ≤ (joinB b fs).length
 | [g],h => by rw [List.mem_singleton.1 h];exact Nat.le_refl _
 | g :: g' :: fs,h => by
  simp only [joinB,List.length_append,List.length_cons]
  rcases List.mem_cons.1 h with rfl | h
  ·omega
  ·have := joinB_el (b := b) h
   omega
theorem bandF_all {fs : List (List UInt8)} {x : Int × Int} (h : bandF fs = some x) : ∀ f ∈ fs,NumW f := by
 unfold bandF at h
 split at h
 ·split at h
  ·next hn => simpa using hn
  ·cases h
 ·split at h
  ·next hn => simpa using ⟨hn.1,hn.2.1⟩
  ·cases h
 ·cases h
set_option maxRecDepth 100000 in
theorem s105f (L : Lg Tryz.prog main) (H : Facts) {fs : List (List UInt8)} (hf : ∀ f ∈ fs,(58 : UInt8) ∉ f) (hp : 0 < fs.length) (hl : (joinB 58 fs).length ≤ 50000) :
  Pure L 105 #[.string (S (joinB 58 fs))] H (.tuple #[.agg #[.int .i64 ((bandF fs).getD (0,0)).1,.int .i64 ((bandF fs).getD (0,0)).2],.bool (bandF fs).isSome]) := by
 refine Spec.enter Tryz.func105 rfl (by simp [Tryz.f105]) fun c cs hc => ?_
 have hfl := joinB_len (b := 58) (fs := fs)
 have stop101 := trivial
 refine At.seq (At.region ?_);refine Al Z Z Z Z Z fun r2 => ?_;refine Aa Z Z Z Z Z O ?_;refine Ab (At.seq (At.region ?_));refine Aa Z Z Z Z Z O ?_
 clear stop101
 refine Ay Z Z Z Z Z Z Z Z (s101 L _ (b := 58) hf hp hl) ?_
 rintro _ _ ⟨sf,hs,rfl⟩
 refine At.back ?_
 obtain ⟨a,cap,rfl⟩ := hs.slice
 obtain ⟨_,hr,hcap⟩ := hs.rd
 have stop106 := trivial
 skip
 clear stop106
 refine Ay Z Z Z Z Z Z Z Z (s106 L _ rfl hr.a (fun f h => by have := joinB_el (b := 58) h;omega) (by omega)) ?_
 rintro _ _ ⟨sf2,⟨hall,a',cap',rfl,hr2⟩ | ⟨hno,rfl⟩,rfl⟩
 ·refine At.back ?_
  match fs,hp,hall,hc,hr2 with
  | [x],_,hall,hc,hr2 =>
   have hx := hall x (by simp)
   rw [show bandF [x] = some (numV x,numV x) from if_pos hx] at hc
   obtain ⟨b,off,rfl,hc0⟩ := (hr2.more (Sub.pre sf2 (sf ++ H))).el (j := 0) (x := numV x) rfl
   (iterate 5 refine Aa Z Z Z Z Z O ?_);refine Ab (At.seq (At.seq ?_));refine Aw hmix [] rfl ?_;refine Ac 0 Z Z Z Z Z Z Z O ?_;refine Ac 1 Z Z Z Z Z Z Z O ?_;refine Ac 2 Z Z Z Z Z Z Z O ?_;refine Ac 3 Z Z Z Z Z Z Z O ?_;refine Pool.ln 4 Z Z Z Z Z Z Z Z Z Z ?_;refine Bb 5 Z Z Z Z Z Z Z fun b17 h17 => ?_
   refine Ac 6 Z Z Z Z Z Z Z O ?_;refine Ac 7 Z Z Z Z Z Z Z O ?_
   obtain rfl : b17 = false := h17.symm.trans (by kernel_rfl)
   refine Ac 8 Z Z Z Z Z Z Z O ?_;refine Pool.ln 9 Z Z Z Z Z Z Z Z Z Z ?_;refine Bb 10 Z Z Z Z Z Z Z fun b22 h22 => ?_;refine Ac 11 Z Z Z Z Z Z Z O ?_
   obtain rfl : b22 = false := h22.symm.trans (by kernel_rfl)
   refine Av 12 Z Z Z Z Z Z ?_;refine Av 13 Z Z Z Z Z Z ?_;refine Av 14 Z Z Z Z Z Z ?_;refine Av 15 Z Z Z Z Z Z ?_;refine Av 16 Z Z Z Z Z Z ?_;refine Av 17 Z Z Z Z Z Z ?_;refine Av 18 Z Z Z Z Z Z ?_;refine Ac 19 Z Z Z Z Z Z Z O ?_;refine Ac 20 Z Z Z Z Z Z Z O ?_;refine pool_done Z Z ?_;refine Ab ?_
   refine At.cond Z ?_;refine At.skip (At.seq ?_);refine Aw hmix [0] rfl ?_;refine Ac 0 Z Z Z Z Z Z Z O ?_;refine Ak 1 Z Z Z Z Z (q_ia Z Z Z (by assumption)) rfl ?_;refine Ax 2 Z Z Z Z Z Z Z hc0.a Z Z Z ?_;refine Ac 3 Z Z Z Z Z Z Z O ?_;refine Ac 4 Z Z Z Z Z Z Z O ?_;refine Pool.ln 5 Z Z Z Z Z Z Z Z Z Z ?_
   refine Ac 6 Z Z Z Z Z Z Z (by omega) ?_;refine Ak 7 Z Z Z Z Z (q_ia Z Z Z (by assumption)) rfl ?_;refine Ax 8 Z Z Z Z Z Z Z hc0.a Z Z Z ?_;refine Ak 9 Z Z Z Z Z (q_build Z Z Z) rfl ?_;refine Ba 0 10 Z Z Z Z Z Z Z Z Z Z Z Z Z Z Z Z Z Z sb ?_;refine Ac 11 Z Z Z Z Z Z Z O ?_;refine pool_done Z Z ?_;refine Ab ?_
   exact At.ret Tryz.func105 (.inr ⟨_,rfl⟩) rfl (.aggJ 0 Z Z Z (.tmp rfl .nil)) (wk (hc _ _ (⟨by rfl,rfl⟩)))
  | [x,y],_,hall,hc,hr2 =>
   have hx := hall x (by simp)
   have hy := hall y (by simp)
   obtain ⟨b,off,rfl,hc0⟩ := (hr2.more (Sub.pre sf2 (sf ++ H))).el (j := 0) (x := numV x) rfl
   obtain ⟨_,_,e,hc1⟩ := (hr2.more (Sub.pre sf2 (sf ++ H))).el (j := 1) (x := numV y) rfl
   cases e
   by_cases hne : numV x = numV y
   ·rw [show bandF [x,y] = none from if_neg fun h => h.2.2 hne] at hc
    (iterate 5 refine Aa Z Z Z Z Z O ?_);refine Ab (At.seq (At.seq ?_));refine Aw hmix [] rfl ?_;refine Ac 0 Z Z Z Z Z Z Z O ?_;refine Ac 1 Z Z Z Z Z Z Z O ?_;refine Ac 2 Z Z Z Z Z Z Z O ?_;refine Ac 3 Z Z Z Z Z Z Z O ?_;refine Pool.ln 4 Z Z Z Z Z Z Z Z Z Z ?_;refine Bb 5 Z Z Z Z Z Z Z fun b17 h17 => ?_
    refine Ac 6 Z Z Z Z Z Z Z O ?_;refine Ac 7 Z Z Z Z Z Z Z O ?_
    obtain rfl : b17 = false := h17.symm.trans (by kernel_rfl)
    refine Ac 8 Z Z Z Z Z Z Z O ?_;refine Pool.ln 9 Z Z Z Z Z Z Z Z Z Z ?_;refine Bb 10 Z Z Z Z Z Z Z fun b22 h22 => ?_;refine Ac 11 Z Z Z Z Z Z Z O ?_
    obtain rfl : b22 = true := h22.symm.trans (by kernel_rfl)
    refine Ac 12 Z Z Z Z Z Z Z O ?_;refine Ak 13 Z Z Z Z Z (q_ia Z Z Z (by assumption)) rfl ?_;refine Ax 14 Z Z Z Z Z Z Z hc0.a Z Z Z ?_;refine Ac 15 Z Z Z Z Z Z Z O ?_;refine Ak 16 Z Z Z Z Z (q_ia Z Z Z (by simp)) rfl ?_;refine Ax 17 Z Z Z Z Z Z Z hc1.a Z Z Z ?_;refine Bb 18 Z Z Z Z Z Z Z fun b30 h30 => ?_
    refine Ac 19 Z Z Z Z Z Z Z O ?_;refine Ac 20 Z Z Z Z Z Z Z O ?_;refine pool_done Z Z ?_;refine Ab ?_
    obtain rfl : b30 = true := h30.symm.trans (decide_eq_true (by omega))
    refine At.cond Z ?_;refine At.seq (At.region ?_);refine Ae Z Z Z Z (q_build Z Z Z) ?_;refine Ag 0 Z Z Z Z Z Z Z Z Z Z Z Z ?_;refine Aa Z Z Z Z Z O ?_;refine Ab ?_
    exact At.ret Tryz.func105 (.inr ⟨_,rfl⟩) rfl (.aggJ 0 Z Z Z (.tmp rfl .nil)) (wk (hc _ _ (⟨by rfl,rfl⟩)))
   ·rw [show bandF [x,y] = some (numV x,numV y) from if_pos ⟨hx,hy,hne⟩] at hc
    (iterate 5 refine Aa Z Z Z Z Z O ?_);refine Ab (At.seq (At.seq ?_));refine Aw hmix [] rfl ?_;refine Ac 0 Z Z Z Z Z Z Z O ?_;refine Ac 1 Z Z Z Z Z Z Z O ?_;refine Ac 2 Z Z Z Z Z Z Z O ?_;refine Ac 3 Z Z Z Z Z Z Z O ?_;refine Pool.ln 4 Z Z Z Z Z Z Z Z Z Z ?_;refine Bb 5 Z Z Z Z Z Z Z fun b17 h17 => ?_
    refine Ac 6 Z Z Z Z Z Z Z O ?_;refine Ac 7 Z Z Z Z Z Z Z O ?_
    obtain rfl : b17 = false := h17.symm.trans (by kernel_rfl)
    refine Ac 8 Z Z Z Z Z Z Z O ?_;refine Pool.ln 9 Z Z Z Z Z Z Z Z Z Z ?_;refine Bb 10 Z Z Z Z Z Z Z fun b22 h22 => ?_;refine Ac 11 Z Z Z Z Z Z Z O ?_
    obtain rfl : b22 = true := h22.symm.trans (by kernel_rfl)
    refine Ac 12 Z Z Z Z Z Z Z O ?_;refine Ak 13 Z Z Z Z Z (q_ia Z Z Z (by assumption)) rfl ?_;refine Ax 14 Z Z Z Z Z Z Z hc0.a Z Z Z ?_;refine Ac 15 Z Z Z Z Z Z Z O ?_;refine Ak 16 Z Z Z Z Z (q_ia Z Z Z (by simp)) rfl ?_;refine Ax 17 Z Z Z Z Z Z Z hc1.a Z Z Z ?_;refine Bb 18 Z Z Z Z Z Z Z fun b30 h30 => ?_
    refine Ac 19 Z Z Z Z Z Z Z O ?_;refine Ac 20 Z Z Z Z Z Z Z O ?_;refine pool_done Z Z ?_;refine Ab ?_
    obtain rfl : b30 = false := h30.symm.trans (decide_eq_false (by omega))
    refine At.cond Z ?_;refine At.skip (At.seq ?_);refine Aw hmix [0] rfl ?_;refine Ac 0 Z Z Z Z Z Z Z O ?_;refine Ak 1 Z Z Z Z Z (q_ia Z Z Z (by assumption)) rfl ?_;refine Ax 2 Z Z Z Z Z Z Z hc0.a Z Z Z ?_;refine Ac 3 Z Z Z Z Z Z Z O ?_;refine Ac 4 Z Z Z Z Z Z Z O ?_;refine Pool.ln 5 Z Z Z Z Z Z Z Z Z Z ?_
    refine Ac 6 Z Z Z Z Z Z Z (by omega) ?_;refine Ak 7 Z Z Z Z Z (q_ia Z Z Z (by omega)) rfl ?_;refine Ax 8 Z Z Z Z Z Z Z hc1.a Z Z Z ?_;refine Ak 9 Z Z Z Z Z (q_build Z Z Z) rfl ?_;refine Ba 0 10 Z Z Z Z Z Z Z Z Z Z Z Z Z Z Z Z Z Z sb ?_;refine Ac 11 Z Z Z Z Z Z Z O ?_;refine pool_done Z Z ?_;refine Ab ?_
    exact At.ret Tryz.func105 (.inr ⟨_,rfl⟩) rfl (.aggJ 0 Z Z Z (.tmp rfl .nil)) (wk (hc _ _ (⟨by rfl,rfl⟩)))
  | x :: y :: z :: fs,_,hall,hc,hr2 =>
   have hll : (x :: y :: z :: fs).length = fs.length + 3 := rfl
   rw [show bandF (x :: y :: z :: fs) = none from rfl] at hc
   (iterate 5 refine Aa Z Z Z Z Z O ?_);refine Ab (At.seq (At.seq ?_));refine Aw hmix [] rfl ?_;refine Ac 0 Z Z Z Z Z Z Z O ?_;refine Ac 1 Z Z Z Z Z Z Z O ?_;refine Ac 2 Z Z Z Z Z Z Z O ?_;refine Ac 3 Z Z Z Z Z Z Z O ?_;refine Pool.ln 4 Z Z Z Z Z Z Z Z Z Z ?_;refine Bb 5 Z Z Z Z Z Z Z fun b17 h17 => ?_
   refine Ac 6 Z Z Z Z Z Z Z O ?_;refine Ac 7 Z Z Z Z Z Z Z O ?_
   obtain rfl : b17 = true := h17.symm.trans (decide_eq_true (by omega))
   refine Av 8 Z Z Z Z Z Z ?_;refine Av 9 Z Z Z Z Z Z ?_;refine Av 10 Z Z Z Z Z Z ?_;refine Av 11 Z Z Z Z Z Z ?_;refine Av 12 Z Z Z Z Z Z ?_;refine Av 13 Z Z Z Z Z Z ?_;refine Av 14 Z Z Z Z Z Z ?_;refine Av 15 Z Z Z Z Z Z ?_;refine Av 16 Z Z Z Z Z Z ?_;refine Av 17 Z Z Z Z Z Z ?_;refine Av 18 Z Z Z Z Z Z ?_
   refine Av 19 Z Z Z Z Z Z ?_;refine Ac 20 Z Z Z Z Z Z Z O ?_;refine pool_done Z Z ?_;refine Ab ?_;refine At.cond Z ?_;refine At.seq (At.region ?_);refine Ae Z Z Z Z (q_build Z Z Z) ?_;refine Ag 0 Z Z Z Z Z Z Z Z Z Z Z Z ?_;refine Aa Z Z Z Z Z O ?_;refine Ab ?_
   exact At.ret Tryz.func105 (.inr ⟨_,rfl⟩) rfl (.aggJ 0 Z Z Z (.tmp rfl .nil)) (wk (hc _ _ (⟨by rfl,rfl⟩)))
 ·have e : bandF fs = none := by
   cases h : bandF fs with
   | none => rfl
   | some x => exact absurd (bandF_all h) hno
  rw [e] at hc
  refine At.back ?_;(iterate 5 refine Aa Z Z Z Z Z O ?_);refine Ab (At.seq (At.seq ?_));refine Aw hmix [] rfl ?_;refine Ac 0 Z Z Z Z Z Z Z O ?_;refine Ac 1 Z Z Z Z Z Z Z O ?_;refine Ac 2 Z Z Z Z Z Z Z O ?_;refine Av 3 Z Z Z Z Z Z ?_;refine Av 4 Z Z Z Z Z Z ?_;refine Av 5 Z Z Z Z Z Z ?_
  refine Ac 6 Z Z Z Z Z Z Z O ?_;refine Ac 7 Z Z Z Z Z Z Z O ?_;refine Av 8 Z Z Z Z Z Z ?_;refine Av 9 Z Z Z Z Z Z ?_;refine Av 10 Z Z Z Z Z Z ?_;refine Av 11 Z Z Z Z Z Z ?_;refine Av 12 Z Z Z Z Z Z ?_;refine Av 13 Z Z Z Z Z Z ?_;refine Av 14 Z Z Z Z Z Z ?_;refine Av 15 Z Z Z Z Z Z ?_
  refine Av 16 Z Z Z Z Z Z ?_;refine Av 17 Z Z Z Z Z Z ?_;refine Av 18 Z Z Z Z Z Z ?_;refine Av 19 Z Z Z Z Z Z ?_;refine Ac 20 Z Z Z Z Z Z Z O ?_;refine pool_done Z Z ?_;refine Ab ?_;refine At.cond Z ?_;refine At.seq (At.region ?_);refine Ae Z Z Z Z (q_build Z Z Z) ?_;refine Ag 0 Z Z Z Z Z Z Z Z Z Z Z Z ?_
  refine Aa Z Z Z Z Z O ?_;refine Ab ?_
  exact At.ret Tryz.func105 (.inr ⟨_,rfl⟩) rfl (.aggJ 0 Z Z Z (.tmp rfl .nil)) (wk (hc _ _ (⟨by rfl,rfl⟩)))
theorem s105y (L : Lg Tryz.prog main) (H : Facts) {w : List UInt8} {x : Int × Int} (hl : w.length ≤ 50000) (h : BandIs w x) : Pure L 105 #[.string (S w)] H (.tuple #[.agg #[.int .i64 x.1,.int .i64 x.2],.bool true]) := by
 obtain ⟨fs,rfl,hf,hp⟩ := joinB_split (b := 58) w
 have := s105f L H hf hp hl
 rwa [(band_is hf hp).1 h] at this
theorem s105n (L : Lg Tryz.prog main) (H : Facts) {w : List UInt8} (hl : w.length ≤ 50000) (h : ¬ ∃ x,BandIs w x) : Pure L 105 #[.string (S w)] H (.tuple #[.agg #[.int .i64 0,.int .i64 0],.bool false]) := by
 obtain ⟨fs,rfl,hf,hp⟩ := joinB_split (b := 58) w
 have := s105f L H hf hp hl
 rwa [show bandF fs = none from by
  cases e : bandF fs with
  | none => rfl
  | some x => exact absurd ⟨x,(band_is hf hp).2 e⟩ h] at this
end Go.Gx
end
section
namespace Go.Gx
open Go Go.Conc Go.Proofs
variable {main : Bool}
def StepR (B : Bk) (A : BkA) (it : LI) (A' : BkA) (sf : Facts) : Prop := match it with
 | .c _ _ _ => A' = A
 | .p x => A'.ma = A.ma ∧ A'.mc = A.mc ∧ Rd sf A'.pa ((B.prof ++ [x]).flatMap c2)
 | .m x => A'.pa = A.pa ∧ A'.pc = A.pc ∧ Rd sf A'.ma ((B.marks ++ [x]).flatMap c3)
theorem StepR.book {H sf : Facts} {B : Bk} {A A' : BkA} {it : LI} (hB : BkR H B A) (h : StepR B A it A' sf) : BkR (sf ++ H) (stepB B it) A' := by
 cases it with
 | c n lo hi =>
  obtain rfl : A' = A := h
  exact ⟨hB.p.more (Sub.append_left _ _),hB.m.more (Sub.append_left _ _)⟩
 | p x =>
  obtain ⟨h1,h2,h3⟩ := h
  exact ⟨h3.more (Sub.pre _ _),by rw [h1];exact hB.m.more (Sub.append_left _ _)⟩
 | m x =>
  obtain ⟨h1,h2,h3⟩ := h
  exact ⟨by rw [h1];exact hB.p.more (Sub.append_left _ _),h3.more (Sub.pre _ _)⟩
set_option maxRecDepth 100000 in
set_option maxHeartbeats 4000000 in
theorem s48 (L : Lg Tryz.prog main) (H : Facts) {B : Bk} {A : BkA} (hB : BkR H B A) (hbl : B.prof.length ≤ 50000) (hbm : B.marks.length ≤ 50000) {w : List UInt8} (hl : w.length ≤ 50000) :
  Grows L 48 #[bkV B A,.string (S w)] H (fun v sf => (∃ it A',LineIs w it ∧ v = .tuple #[bkV (stepB B it) A',.int .i64 (kindI it)] ∧ StepR B A it A' sf) ∨ ((¬ ∃ it,LineIs w it) ∧ v = .tuple #[bkV B A,.int .i64 (-1)])) := by
 refine Spec.enter Tryz.func48 rfl (by simp [Tryz.f48]) fun c cs hc => ?_
 obtain ⟨fs,rfl,hf,hfp⟩ := joinB_split (b := 32) w
 obtain ⟨f0,fs,rfl⟩ := List.exists_cons_of_length_pos hfp
 have hiff := fun it => line_f (it := it) hf
 simp only [hiff] at hc
 have hfl := joinB_len (b := 32) (fs := f0 :: fs)
 have hll : (f0 :: fs).length = fs.length + 1 := rfl
 have hel := fun f (hm : f ∈ fs) => joinB_el (b := 32) (f := f) (fs := f0 :: fs) (List.mem_cons_of_mem _ hm)
 have stop102 := trivial
 refine At.seq (At.region ?_);refine An Z Z Z Z Z Z Z fun r2 => ?_;refine Al Z Z Z Z Z fun r4 => ?_;refine Aa Z Z Z Z Z O ?_;refine Ab (At.seq (At.region ?_));refine Aa Z Z Z Z Z O ?_
 clear stop102
 refine Ay Z Z Z Z Z Z Z Z (s102 L _ hf hl) ?_
 rintro _ _ ⟨sf,⟨hemp,rfl⟩ | ⟨hne,a,cap,rfl,hr⟩,rfl⟩
 ·refine At.back ?_
  have hno : ¬ ∃ it,LineF f0 fs it := by
   rintro ⟨it,⟨x,t,y,rfl,rfl,h1,h2,_⟩ | ⟨x,y,rfl,rfl,h1,h2,_⟩ | ⟨x,y,z,rfl,rfl,h1,h2,h3,_⟩⟩
   ·simp only [List.mem_cons,List.not_mem_nil,or_false] at hemp
    rcases hemp with h | h | h
    ·cases h
    ·exact h1.ne h.symm
    ·exact h2.ne h.symm
   ·simp only [List.mem_cons,List.not_mem_nil,or_false] at hemp
    rcases hemp with h | h | h
    ·cases h
    ·exact h1.ne h.symm
    ·exact h2.ne h.symm
   ·simp only [List.mem_cons,List.not_mem_nil,or_false] at hemp
    rcases hemp with h | h | h | h
    ·cases h
    ·exact h1.ne h.symm
    ·exact h2.ne h.symm
    ·exact h3.ne h.symm
  have stop103 := trivial
  (iterate 7 refine Aa Z Z Z Z Z O ?_);refine Ab (At.seq (At.region ?_))
  (refine At.l Z Z Z Z (l_buildSlice Z Z Z Z Z) ?_;rintro _ _ ⟨r22,rfl,rfl⟩)
  refine Aa Z Z Z Z Z O ?_
  clear stop103
  refine Ai Z Z Z Z Z Z Z Z (s103 L _ (fs := [wordL 0,wordL 1,wordL 2]) (w := []) rfl (rd_own 0 Z Z) (by decide)) ?_;refine Aa Z Z Z Z Z O ?_;refine Ab (At.seq (At.seq (At.region ?_)));(iterate 3 refine Aa Z Z Z Z Z O ?_);(iterate 2 refine Ar Z Z Z Z ?_);(iterate 2 refine Aa Z Z Z Z Z O ?_);(iterate 7 refine Ar Z Z Z Z ?_);refine Aa Z Z Z Z Z O ?_
  refine Ab ?_;refine At.cond Z ?_;refine At.seq (At.region ?_);refine Af 2 Z Z Z Z Z Z Z Z Z ?_;refine Ag 1 Z Z Z Z Z Z Z Z Z Z Z Z ?_;refine Aa Z Z Z Z Z O ?_;refine Ab ?_
  exact At.ret Tryz.func48 (.inr ⟨_,rfl⟩) rfl (.aggJ 1 Z Z Z (.tmp rfl .nil)) (wk (hc _ _ (⟨[],.inr ⟨hno,rfl⟩,rfl⟩)))
 refine At.back ?_
 have hr' : Rd (sf ++ H) a (fs.flatMap cS) := hr.more (Sub.pre _ _)
 have stop103 := trivial
 (iterate 7 refine Aa Z Z Z Z Z O ?_);refine Ab (At.seq (At.region ?_))
 (refine At.l Z Z Z Z (l_buildSlice Z Z Z Z Z) ?_;rintro _ _ ⟨r22,rfl,rfl⟩)
 refine Aa Z Z Z Z Z O ?_
 clear stop103
 refine Ai Z Z Z Z Z Z Z Z (s103 L _ (fs := [wordL 0,wordL 1,wordL 2]) (w := f0) rfl (rd_own 0 Z Z) (by decide)) ?_
 by_cases hk : f0 ∈ [wordL 0,wordL 1,wordL 2]
 rotate_left
 ·have hno : ¬ ∃ it,LineF f0 fs it := by
   rintro ⟨it,⟨x,t,y,rfl,rfl,h1,h2,_⟩ | ⟨x,y,rfl,rfl,h1,h2,_⟩ | ⟨x,y,z,rfl,rfl,h1,h2,h3,_⟩⟩ <;> simp at hk
  rw [idxS_no hk]
  refine Aa Z Z Z Z Z O ?_;refine Ab (At.seq (At.seq (At.region ?_)));(iterate 4 refine Aa Z Z Z Z Z O ?_);refine Ad Z Z Z Z Z fun b29 h29 => ?_;(iterate 2 refine Aa Z Z Z Z Z O ?_)
  obtain rfl : b29 = true := h29.symm.trans (by kernel_rfl)
  (iterate 7 refine Ar Z Z Z Z ?_);refine Aa Z Z Z Z Z O ?_;refine Ab ?_;refine At.cond Z ?_;refine At.seq (At.region ?_);refine Af 2 Z Z Z Z Z Z Z Z Z ?_;refine Ag 1 Z Z Z Z Z Z Z Z Z Z Z Z ?_;refine Aa Z Z Z Z Z O ?_;refine Ab ?_
  exact At.ret Tryz.func48 (.inr ⟨_,rfl⟩) rfl (.aggJ 1 Z Z Z (.tmp rfl .nil)) (wk (hc _ _ (⟨[],.inr ⟨hno,rfl⟩,rfl⟩)))
 simp only [List.mem_cons,List.not_mem_nil,or_false] at hk
 rcases hk with rfl | rfl | rfl
 ·rw [show idxS (wordL 0) [wordL 0,wordL 1,wordL 2] 0 = 0 from by decide]
  by_cases hlen : fs.length = 2
  rotate_left
  ·have hno : ¬ ∃ it,LineF (wordL 0) fs it := by
    rintro ⟨it,⟨x,y,z,h,h',_⟩ | ⟨x,y,h,h',_⟩ | ⟨x,y,z,h,h',_⟩⟩
    ·exact hlen (by rw [h'];rfl)
    ·exact absurd h (by decide)
    ·exact absurd h (by decide)
   refine Aa Z Z Z Z Z O ?_;refine Ab (At.seq (At.seq (At.region ?_)));(iterate 4 refine Aa Z Z Z Z Z O ?_);refine Ad Z Z Z Z Z fun b29 h29 => ?_;(iterate 2 refine Aa Z Z Z Z Z O ?_)
   obtain rfl : b29 = false := h29.symm.trans (by kernel_rfl)
   refine Aa Z Z Z Z Z O ?_;refine Ao Z Z Z Z Z Z Z Z ?_
   (refine At.l Z Z Z Z (l_buildSlice Z Z Z Z Z) ?_;rintro _ _ ⟨r34,rfl,rfl⟩)
   refine Aa Z Z Z Z Z O ?_;refine Ae Z Z Z Z (q_ia Z Z Z (by dsimp only;omega)) ?_;refine Af 0 Z Z Z Z Z Z Z Z Z ?_;refine Ad Z Z Z Z Z fun b38 h38 => ?_;refine Aa Z Z Z Z Z O ?_;refine Ab ?_
   obtain rfl : b38 = true := h38.symm.trans (decide_eq_true (by omega))
   refine At.cond Z ?_;refine At.seq (At.region ?_);refine Af 3 Z Z Z Z Z Z Z Z Z ?_;refine Ag 2 Z Z Z Z Z Z Z Z Z Z Z Z ?_;refine Aa Z Z Z Z Z O ?_;refine Ab ?_
   exact At.ret Tryz.func48 (.inr ⟨_,rfl⟩) rfl (.aggJ 2 Z Z Z (.tmp rfl .nil)) (wk (hc _ _ (⟨[],.inr ⟨hno,rfl⟩,rfl⟩)))
  obtain ⟨x,t,rfl⟩ : ∃ x t,fs = [x,t] := by
   match fs,hlen with
   | [x,t],_ => exact ⟨x,t,rfl⟩
  obtain ⟨b,off,rfl,hc0⟩ := hr'.el (j := 0) (x := x) rfl
  obtain ⟨_,_,e,hc1⟩ := hr'.el (j := 1) (x := t) rfl
  cases e
  have hlx := hel x (by simp)
  have hlt := hel t (by simp)
  have stop104 := trivial
  have stop105 := trivial
  refine Aa Z Z Z Z Z O ?_;refine Ab (At.seq (At.seq (At.region ?_)));(iterate 4 refine Aa Z Z Z Z Z O ?_);refine Ad Z Z Z Z Z fun b29 h29 => ?_;(iterate 2 refine Aa Z Z Z Z Z O ?_)
  obtain rfl : b29 = false := h29.symm.trans (by kernel_rfl)
  refine Aa Z Z Z Z Z O ?_;refine Ao Z Z Z Z Z Z Z Z ?_
  (refine At.l Z Z Z Z (l_buildSlice Z Z Z Z Z) ?_;rintro _ _ ⟨r34,rfl,rfl⟩)
  refine Aa Z Z Z Z Z O ?_;refine Ae Z Z Z Z (q_ia Z Z Z (by assumption)) ?_;refine Af 0 Z Z Z Z Z Z Z Z Z ?_;refine Ad Z Z Z Z Z fun b38 h38 => ?_;refine Aa Z Z Z Z Z O ?_;refine Ab ?_
  obtain rfl : b38 = false := h38.symm.trans (by kernel_rfl)
  refine At.cond Z ?_;refine At.skip (At.seq (At.seq (At.region ?_)));refine Aa Z Z Z Z Z O ?_;refine Ad Z Z Z Z Z fun b42 h42 => ?_;refine Ab ?_
  obtain rfl : b42 = true := h42.symm.trans (by kernel_rfl)
  refine At.cond Z ?_;refine At.seq (At.region ?_);refine Aa Z Z Z Z Z O ?_;refine Ae Z Z Z Z (q_ia Z Z Z (by dsimp only;omega)) ?_;refine Au Z Z Z Z Z Z hc0.a Z Z ?_
  by_cases hx : NumW x ∧ ∃ y,BandIs t y
  ·obtain ⟨hx,y,hy⟩ := hx
   refine Ai Z Z Z Z Z Z Z Z (s104y L _ (by omega) hx) ?_;(iterate 5 refine Aa Z Z Z Z Z O ?_);refine Ab (At.seq (At.region ?_));refine Aa Z Z Z Z Z O ?_;refine Ae Z Z Z Z (q_ia Z Z Z (by dsimp only;omega)) ?_;refine Au Z Z Z Z Z Z hc1.a Z Z ?_;refine Ai Z Z Z Z Z Z Z Z (s105y L _ (by omega) hy) ?_
   have stopDraw := trivial
   (iterate 3 refine Aa Z Z Z Z Z O ?_);refine Al Z Z Z Z Z fun r12 => ?_;refine Ag 0 Z Z Z Z Z Z Z Z Z Z Z Z ?_;refine Aa Z Z Z Z Z O ?_;refine Ab (At.seq (At.seq (At.region ?_)));(iterate 6 refine Aa Z Z Z Z Z O ?_);refine Ab ?_;refine At.cond Z ?_;refine At.skip (At.seq ?_)
   clear stopDraw
   refine Aw hmix [4] rfl ?_;refine Ac 0 Z Z Z Z Z Z Z O ?_;refine Aj 0 1 Z Z Z Z Z Z Z Z Z Z Z ?_;refine Am 1 2 Z Z Z Z Z Z Z Z Z ?_;refine Ba 4 3 Z Z Z Z Z Z Z Z Z Z Z Z Z Z Z Z Z Z sb ?_;refine Am 2 4 Z Z Z Z Z Z Z Z Z ?_;refine Ba 4 5 Z Z Z Z Z Z Z Z Z Z Z Z Z Z Z Z Z Z sb ?_;refine pool_done Z Z ?_
   refine Ab (At.seq (At.region ?_));refine Af 4 Z Z Z Z Z Z Z Z Z ?_;refine Aa Z Z Z Z Z O ?_;refine Ag 3 Z Z Z Z Z Z Z Z Z Z Z Z ?_;refine Aa Z Z Z Z Z O ?_;refine Ab ?_
   exact At.ret Tryz.func48 (.inr ⟨_,rfl⟩) rfl (.aggJ 3 Z Z Z (.tmp rfl .nil)) (wk (hc _ _ (⟨[],.inl ⟨_,A,.inl ⟨x,t,y,rfl,rfl,hx,hy,rfl⟩,rfl,rfl⟩,rfl⟩)))
  ·have hno : ¬ ∃ it,LineF (wordL 0) [x,t] it := by
    rintro ⟨it,⟨x,y,z,h,h',h1,h2,_⟩ | ⟨x,y,h,_⟩ | ⟨x,y,z,h,_⟩⟩
    ·cases h'
     exact hx ⟨h1,_,h2⟩
    ·exact absurd h (by decide)
    ·exact absurd h (by decide)
   obtain ⟨v,ba,h104,hba⟩ : ∃ (v : Int) (ba : Bool),(∀ H,Pure L 104 #[.string (S x)] H (.tuple #[.int .i64 v,.bool ba])) ∧ (ba = true → NumW x) := ⟨_,_,fun H => s104 L H (by omega),of_decide_eq_true⟩
   obtain ⟨y,bb,h105,hbb⟩ : ∃ (y : Int × Int) (bb : Bool),(∀ H,Pure L 105 #[.string (S t)] H (.tuple #[.agg #[.int .i64 y.1,.int .i64 y.2],.bool bb])) ∧ (bb = true → ∃ y,BandIs t y) := by
    by_cases h : ∃ y,BandIs t y
    ·obtain ⟨y,hy⟩ := h
     exact ⟨y,true,fun H => s105y L H (by omega) hy,fun _ => ⟨y,hy⟩⟩
    ·exact ⟨(0,0),false,fun H => s105n L H (by omega) h,fun h => by cases h⟩
   refine Ai Z Z Z Z Z Z Z Z (h104 _) ?_;(iterate 5 refine Aa Z Z Z Z Z O ?_);refine Ab (At.seq (At.region ?_));refine Aa Z Z Z Z Z O ?_;refine Ae Z Z Z Z (q_ia Z Z Z (by dsimp only;omega)) ?_;refine Au Z Z Z Z Z Z hc1.a Z Z ?_;refine Ai Z Z Z Z Z Z Z Z (h105 _) ?_;(iterate 3 refine Aa Z Z Z Z Z O ?_);refine Al Z Z Z Z Z fun r12 => ?_
   refine Ag 0 Z Z Z Z Z Z Z Z Z Z Z Z ?_;refine Aa Z Z Z Z Z O ?_;refine Ab (At.seq (At.seq (At.region ?_)));(iterate 3 refine Aa Z Z Z Z Z O ?_)
   cases ba
   ·refine Ar Z Z Z Z ?_
    refine Ar Z Z Z Z ?_;refine Aa Z Z Z Z Z O ?_;refine Ab ?_;refine At.cond Z ?_;refine At.seq (At.region ?_);refine Af 4 Z Z Z Z Z Z Z Z Z ?_;refine Ag 3 Z Z Z Z Z Z Z Z Z Z Z Z ?_;refine Aa Z Z Z Z Z O ?_;refine Ab ?_
    exact At.ret Tryz.func48 (.inr ⟨_,rfl⟩) rfl (.aggJ 3 Z Z Z (.tmp rfl .nil)) (wk (hc _ _ (⟨[],.inr ⟨hno,rfl⟩,rfl⟩)))
   ·cases bb
    ·refine Aa Z Z Z Z Z O ?_
     (iterate 2 refine Aa Z Z Z Z Z O ?_);refine Ab ?_;refine At.cond Z ?_;refine At.seq (At.region ?_);refine Af 4 Z Z Z Z Z Z Z Z Z ?_;refine Ag 3 Z Z Z Z Z Z Z Z Z Z Z Z ?_;refine Aa Z Z Z Z Z O ?_;refine Ab ?_
     exact At.ret Tryz.func48 (.inr ⟨_,rfl⟩) rfl (.aggJ 3 Z Z Z (.tmp rfl .nil)) (wk (hc _ _ (⟨[],.inr ⟨hno,rfl⟩,rfl⟩)))
    ·exact absurd ⟨hba rfl,hbb rfl⟩ hx
 ·rw [show idxS (wordL 1) [wordL 0,wordL 1,wordL 2] 0 = 1 from by decide]
  by_cases hlen : fs.length = 2
  rotate_left
  ·have hno : ¬ ∃ it,LineF (wordL 1) fs it := by
    rintro ⟨it,⟨x,y,z,h,h',_⟩ | ⟨x,y,h,h',_⟩ | ⟨x,y,z,h,h',_⟩⟩
    ·exact absurd h (by decide)
    ·exact hlen (by rw [h'];rfl)
    ·exact absurd h (by decide)
   refine Aa Z Z Z Z Z O ?_;refine Ab (At.seq (At.seq (At.region ?_)));(iterate 4 refine Aa Z Z Z Z Z O ?_);refine Ad Z Z Z Z Z fun b29 h29 => ?_;(iterate 2 refine Aa Z Z Z Z Z O ?_)
   obtain rfl : b29 = false := h29.symm.trans (by kernel_rfl)
   refine Aa Z Z Z Z Z O ?_;refine Ao Z Z Z Z Z Z Z Z ?_
   (refine At.l Z Z Z Z (l_buildSlice Z Z Z Z Z) ?_;rintro _ _ ⟨r34,rfl,rfl⟩)
   refine Aa Z Z Z Z Z O ?_;refine Ae Z Z Z Z (q_ia Z Z Z (by dsimp only;omega)) ?_;refine Af 0 Z Z Z Z Z Z Z Z Z ?_;refine Ad Z Z Z Z Z fun b38 h38 => ?_;refine Aa Z Z Z Z Z O ?_;refine Ab ?_
   obtain rfl : b38 = true := h38.symm.trans (decide_eq_true (by omega))
   refine At.cond Z ?_;refine At.seq (At.region ?_);refine Af 3 Z Z Z Z Z Z Z Z Z ?_;refine Ag 2 Z Z Z Z Z Z Z Z Z Z Z Z ?_;refine Aa Z Z Z Z Z O ?_;refine Ab ?_
   exact At.ret Tryz.func48 (.inr ⟨_,rfl⟩) rfl (.aggJ 2 Z Z Z (.tmp rfl .nil)) (wk (hc _ _ (⟨[],.inr ⟨hno,rfl⟩,rfl⟩)))
  obtain ⟨x,y,rfl⟩ : ∃ x y,fs = [x,y] := by
   match fs,hlen with
   | [x,y],_ => exact ⟨x,y,rfl⟩
  have stop106 := trivial
  refine Aa Z Z Z Z Z O ?_;refine Ab (At.seq (At.seq (At.region ?_)));(iterate 4 refine Aa Z Z Z Z Z O ?_);refine Ad Z Z Z Z Z fun b29 h29 => ?_;(iterate 2 refine Aa Z Z Z Z Z O ?_)
  obtain rfl : b29 = false := h29.symm.trans (by kernel_rfl)
  refine Aa Z Z Z Z Z O ?_;refine Ao Z Z Z Z Z Z Z Z ?_
  (refine At.l Z Z Z Z (l_buildSlice Z Z Z Z Z) ?_;rintro _ _ ⟨r34,rfl,rfl⟩)
  refine Aa Z Z Z Z Z O ?_;refine Ae Z Z Z Z (q_ia Z Z Z (by dsimp only;omega)) ?_;refine Af 0 Z Z Z Z Z Z Z Z Z ?_;refine Ad Z Z Z Z Z fun b38 h38 => ?_;refine Aa Z Z Z Z Z O ?_;refine Ab ?_
  obtain rfl : b38 = false := h38.symm.trans (by kernel_rfl)
  refine At.cond Z ?_;refine At.skip (At.seq (At.seq (At.region ?_)));refine Aa Z Z Z Z Z O ?_;refine Ad Z Z Z Z Z fun b42 h42 => ?_;refine Ab ?_
  obtain rfl : b42 = false := h42.symm.trans (by kernel_rfl)
  refine At.cond Z ?_;refine At.skip (At.seq (At.region ?_));refine Aa Z Z Z Z Z O ?_
  clear stop106
  refine Ay Z Z Z Z Z Z Z Z (s106 L _ rfl hr'.a (fun f h => by have := hel f h;omega) (by simp)) ?_
  rintro _ _ ⟨sf2,⟨hall,a',cap',rfl,hr2⟩ | ⟨hall,rfl⟩,rfl⟩
  ·refine At.back ?_
   have hx := hall x (by simp)
   have hy := hall y (by simp)
   have hr2' : Rd (sf2 ++ (sf ++ H)) a' (([x,y].map numV).flatMap c1) := hr2.more (Sub.pre _ _)
   obtain ⟨b,off,rfl,hc0⟩ := hr2'.el (j := 0) (x := numV x) rfl
   obtain ⟨_,_,e,hc1⟩ := hr2'.el (j := 1) (x := numV y) rfl
   cases e
   have stopDraw := trivial
   (iterate 5 refine Aa Z Z Z Z Z O ?_);refine Ab (At.seq (At.seq (At.region ?_)));(iterate 2 refine Aa Z Z Z Z Z O ?_);refine Ab ?_;refine At.cond Z ?_;refine At.skip (At.seq (At.seq (At.region ?_)));refine Aa Z Z Z Z Z O ?_;refine Ad Z Z Z Z Z fun b79 h79 => ?_;refine Ab ?_
   obtain rfl : b79 = true := h79.symm.trans (by kernel_rfl)
   refine At.cond Z ?_;refine At.seq ?_
   clear stopDraw
   obtain ⟨n,hn⟩ : ∃ n,B.prof.length = n := ⟨_,rfl⟩
   have hHb : Sub H (sf2 ++ (sf ++ H)) := (Sub.append_left _ _).trans (Sub.append_left _ _)
   have hrp : Rd (sf2 ++ (sf ++ H)) A.pa (B.prof.flatMap c2) := hB.p.more hHb
   refine At.weakH (H' := .own r4 (.cells #[.slice none 0 0,.int .i64 0,.int .i64 0,.int .i64 0,.slice none 0 0] 27 (0,0)) :: .own r2 (.cells (List.toArray (bkC B A)) 27 (0,0)) :: (sf2 ++ (sf ++ H))) ?_ (((Sub.refl _).drop _).drop _)
   generalize sf2 ++ (sf ++ H) = Hb at hr2' hc0 hc1 hHb hrp ⊢
   refine At.cutk (X := { u : Option Addr × Nat × Facts // Sl c2 89 (.slice u.1 (B.prof.length + 1) u.2.1) (B.prof ++ [(numV x,numV y)]) u.2.2 }) [2,4,5,9,14] (fun _ => []) (fun u => .own r4 (.cells #[.slice none 0 0,.int .i64 0,.int .i64 0,.int .i64 0,.slice none 0 0] 27 (0,0)) :: .own r2 (.cells #[.slice u.1.1 (B.prof.length + 1) u.1.2.1,.int .i64 B.size,.int .i64 B.lo,.int .i64 B.hi,.slice A.ma B.marks.length A.mc] 27 (0,0)) :: (u.1.2.2 ++ Hb)) rfl ?_ fun key => ?_
   ·rintro ⟨⟨a3,cp,sm⟩,hsm⟩
    simp only at hsm ⊢
    refine At.seq (At.region ?_);refine Af 1 Z Z Z Z Z Z Z Z Z ?_;refine Aa Z Z Z Z Z O ?_;refine Ag 0 Z Z Z Z Z Z Z Z Z Z Z Z ?_;refine Aa Z Z Z Z Z O ?_;refine Ab ?_
    have e : (stepB B (.p (numV x,numV y))).prof.length = B.prof.length + 1 := by simp [stepB]
    have ev : Value.agg #[.slice a3 (B.prof.length + 1) cp,.int .i64 B.size,.int .i64 B.lo,.int .i64 B.hi,.slice A.ma B.marks.length A.mc] = bkV (stepB B (.p (numV x,numV y))) ⟨a3,cp,A.ma,A.mc⟩ := by
     show _ = Value.agg #[.slice a3 (stepB B (.p (numV x,numV y))).prof.length cp,.int .i64 B.size,.int .i64 B.lo,.int .i64 B.hi,.slice A.ma B.marks.length A.mc]
     rw [e]
    exact At.ret Tryz.func48 (.inr ⟨_,rfl⟩) rfl (.aggJ 0 Z Z Z (.tmp rfl .nil)) (wk (hc _ _ (⟨sm,.inl ⟨.p (numV x,numV y),⟨a3,cp,A.ma,A.mc⟩,.inr (.inl ⟨x,y,rfl,rfl,hx,hy,rfl⟩),congrArg (fun z => Value.tuple #[z,.int .i64 1]) ev,rfl,rfl,hsm.rd.2.1⟩,rfl⟩)))
   ·refine Bd hmix (_) sb ?_
    have stopPhase := trivial
    refine Am 0 1 Z Z Z Z Z Z Z Z Z ?_;refine Aj 1 2 Z Z Z Z Z Z Z Z Z Z Z ?_;refine Ac 4 Z Z Z Z Z Z Z O ?_;refine Ak 5 Z Z Z Z Z (q_ia Z Z Z (by dsimp only;omega)) rfl ?_;refine Ax 6 Z Z Z Z Z Z Z hc0.a Z Z Z ?_;refine Ac 7 Z Z Z Z Z Z Z O ?_;refine Ak 8 Z Z Z Z Z (q_ia Z Z Z (by dsimp only;omega)) rfl ?_
    refine Ax 9 Z Z Z Z Z Z Z hc1.a Z Z Z ?_;refine Ak 10 Z Z Z Z Z (q_build Z Z Z) rfl ?_
    refine Pool.two 0 11 Z Z Z Z Z (loud_bs Z Z Z Z Z Z Z Z Z Z (by repeat (first | exact Sub.refl _ | exact Sub.pre _ _ | apply Sub.cons | apply Sub.drop | apply Sub.appL | apply Sub.dropL)) fun r80 => ?_) (loud_bs Z Z Z Z Z Z Z Z Z Z (by repeat (first | exact Sub.refl _ | exact Sub.pre _ _ | apply Sub.cons | apply Sub.drop | apply Sub.appL | apply Sub.dropL)) fun r91 => ?_)
    ·refine Pool.two 3 11 Z Z Z Z Z (loud_app (ops := _) (H₀ := _) Z Z Z Z Z Z Z Z Z Z Z Z Z Z (IsSl.own r80 0 0 [] [] Z Z (by omega)) (List.Perm.refl _) (hrp.more ((((Sub.refl _).drop _).drop _).drop _)) (by rw [flat_len (c := c2),hn]) flat_one (.inr ⟨_,_,_,rfl⟩) (by omega) (by repeat (first | exact Sub.refl _ | exact Sub.pre _ _ | apply Sub.cons | apply Sub.drop | apply Sub.appL | apply Sub.dropL)) fun v sm hsm0 => ?_) (loud_bs Z Z Z Z Z Z Z Z Z Z (by repeat (first | exact Sub.refl _ | exact Sub.pre _ _ | apply Sub.cons | apply Sub.drop | apply Sub.appL | apply Sub.dropL)) fun r91 => ?_)
     ·have hsm : Sl c2 89 v B.prof sm := by unfold Sl;simpa [hn] using hsm0
      refine Pool.bs 11 Z Z Z Z Z Z Z Z Z Z Z Z Z Z Z (by repeat (first | exact Sub.refl _ | exact Sub.pre _ _ | apply Sub.cons | apply Sub.drop | apply Sub.appL | apply Sub.dropL)) fun r91 => ?_
      refine Pool.push (x := (numV x,numV y)) 12 0 1 Z Z Z Z Z Z Z Z Z Z Z Z Z Z Z Z Z Z Z Z Z hsm Z Z Z (by repeat (first | exact Sub.refl _ | exact Sub.pre _ _ | apply Sub.cons | apply Sub.drop | apply Sub.appL | apply Sub.dropL)) (by omega) fun v' sm' hs' => ?_
      obtain ⟨a',cp',rfl⟩ := hs'.slice
      simp only [List.length_append,List.length_cons,List.length_nil,Nat.zero_add] at hs' ⊢
      refine Am 0 13 Z Z Z Z Z Z Z Z Z ?_
      clear stopPhase
      refine Pool.flush 14 (Hq' := Hb) Z Z Z Z Z Z (by repeat (first | exact Sub.refl _ | exact Sub.pre _ _ | apply Sub.cons | apply Sub.drop | apply Sub.appL | apply Sub.dropL)) ?_
      refine Pool.weakH (H' := .own r4 (.cells #[.slice none 0 0,.int .i64 0,.int .i64 0,.int .i64 0,.slice none 0 0] 27 (0,0)) :: .own r2 (.cells (List.toArray (bkC B A)) 27 (0,0)) :: (sm' ++ Hb)) ?_ ((Sub.of_perm (List.perm_append_comm_assoc [_,_] sm' Hb)).drop _) (by repeat (first | exact Sub.refl _ | exact Sub.pre _ _ | apply Sub.cons | apply Sub.drop | apply Sub.appL | apply Sub.dropL))
      refine Ba 1 14 Z Z Z Z Z Z Z Z Z Z Z Z Z Z Z Z Z Z sb ?_;refine pool_done Z Z ?_;refine Ab ?_
      refine Aq ((key ⟨(a',cp',sm'),hs'⟩))
     ·refine Pool.one 3 Z Z Z Z Z (loud_app (ops := _) (H₀ := _) Z Z Z Z Z Z Z Z Z Z Z Z Z Z (IsSl.own r80 0 0 [] [] Z Z (by omega)) (List.Perm.swap _ _ _) (hrp.more (((((Sub.refl _).drop _).drop _).drop _).drop _)) (by rw [flat_len (c := c2),hn]) flat_one (.inr ⟨_,_,_,rfl⟩) (by omega) (by repeat (first | exact Sub.refl _ | exact Sub.pre _ _ | apply Sub.cons | apply Sub.drop | apply Sub.appL | apply Sub.dropL)) fun v sm hsm0 => ?_)
      have hsm : Sl c2 89 v B.prof sm := by unfold Sl;simpa [hn] using hsm0
      refine Pool.weakH ?_ (Sub.of_perm List.perm_middle.symm) (by repeat (first | exact Sub.refl _ | exact Sub.pre _ _ | apply Sub.cons | apply Sub.drop | apply Sub.appL | apply Sub.dropL))
      refine Pool.push (x := (numV x,numV y)) 12 0 1 Z Z Z Z Z Z Z Z Z Z Z Z Z Z Z Z Z Z Z Z Z hsm Z Z Z (by repeat (first | exact Sub.refl _ | exact Sub.pre _ _ | apply Sub.cons | apply Sub.drop | apply Sub.appL | apply Sub.dropL)) (by omega) fun v' sm' hs' => ?_
      obtain ⟨a',cp',rfl⟩ := hs'.slice
      simp only [List.length_append,List.length_cons,List.length_nil,Nat.zero_add] at hs' ⊢
      refine Am 0 13 Z Z Z Z Z Z Z Z Z ?_
      clear stopPhase
      refine Pool.flush 14 (Hq' := Hb) Z Z Z Z Z Z (by repeat (first | exact Sub.refl _ | exact Sub.pre _ _ | apply Sub.cons | apply Sub.drop | apply Sub.appL | apply Sub.dropL)) ?_
      refine Pool.weakH (H' := .own r4 (.cells #[.slice none 0 0,.int .i64 0,.int .i64 0,.int .i64 0,.slice none 0 0] 27 (0,0)) :: .own r2 (.cells (List.toArray (bkC B A)) 27 (0,0)) :: (sm' ++ Hb)) ?_ ((Sub.of_perm (List.perm_append_comm_assoc [_,_] sm' Hb)).drop _) (by repeat (first | exact Sub.refl _ | exact Sub.pre _ _ | apply Sub.cons | apply Sub.drop | apply Sub.appL | apply Sub.dropL))
      refine Ba 1 14 Z Z Z Z Z Z Z Z Z Z Z Z Z Z Z Z Z Z sb ?_;refine pool_done Z Z ?_;refine Ab ?_
      refine Aq ((key ⟨(a',cp',sm'),hs'⟩))
    ·refine Pool.bs 0 Z Z Z Z Z Z Z Z Z Z Z Z Z Z Z (by repeat (first | exact Sub.refl _ | exact Sub.pre _ _ | apply Sub.cons | apply Sub.drop | apply Sub.appL | apply Sub.dropL)) fun r80 => ?_
     refine Pool.one 3 Z Z Z Z Z (loud_app (ops := _) (H₀ := _) Z Z Z Z Z Z Z Z Z Z Z Z Z Z (IsSl.own r80 0 0 [] [] Z Z (by omega)) (List.Perm.refl _) (hrp.more (((((Sub.refl _).drop _).drop _).drop _).drop _)) (by rw [flat_len (c := c2),hn]) flat_one (.inr ⟨_,_,_,rfl⟩) (by omega) (by repeat (first | exact Sub.refl _ | exact Sub.pre _ _ | apply Sub.cons | apply Sub.drop | apply Sub.appL | apply Sub.dropL)) fun v sm hsm0 => ?_)
     have hsm : Sl c2 89 v B.prof sm := by unfold Sl;simpa [hn] using hsm0
     refine Pool.weakH ?_ (Sub.of_perm List.perm_middle.symm) (by repeat (first | exact Sub.refl _ | exact Sub.pre _ _ | apply Sub.cons | apply Sub.drop | apply Sub.appL | apply Sub.dropL))
     refine Pool.push (x := (numV x,numV y)) 12 0 1 Z Z Z Z Z Z Z Z Z Z Z Z Z Z Z Z Z Z Z Z Z hsm Z Z Z (by repeat (first | exact Sub.refl _ | exact Sub.pre _ _ | apply Sub.cons | apply Sub.drop | apply Sub.appL | apply Sub.dropL)) (by omega) fun v' sm' hs' => ?_
     obtain ⟨a',cp',rfl⟩ := hs'.slice
     simp only [List.length_append,List.length_cons,List.length_nil,Nat.zero_add] at hs' ⊢
     refine Am 0 13 Z Z Z Z Z Z Z Z Z ?_
     clear stopPhase
     refine Pool.flush 14 (Hq' := Hb) Z Z Z Z Z Z (by repeat (first | exact Sub.refl _ | exact Sub.pre _ _ | apply Sub.cons | apply Sub.drop | apply Sub.appL | apply Sub.dropL)) ?_
     refine Pool.weakH (H' := .own r4 (.cells #[.slice none 0 0,.int .i64 0,.int .i64 0,.int .i64 0,.slice none 0 0] 27 (0,0)) :: .own r2 (.cells (List.toArray (bkC B A)) 27 (0,0)) :: (sm' ++ Hb)) ?_ ((Sub.of_perm (List.perm_append_comm_assoc [_,_] sm' Hb)).drop _) (by repeat (first | exact Sub.refl _ | exact Sub.pre _ _ | apply Sub.cons | apply Sub.drop | apply Sub.appL | apply Sub.dropL))
     refine Ba 1 14 Z Z Z Z Z Z Z Z Z Z Z Z Z Z Z Z Z Z sb ?_;refine pool_done Z Z ?_;refine Ab ?_
     refine Aq ((key ⟨(a',cp',sm'),hs'⟩))
  ·refine At.back ?_
   have hno : ¬ ∃ it,LineF (wordL 1) [x,y] it := by
    rintro ⟨it,⟨x,y,z,h,_⟩ | ⟨x,y,h,h',h1,h2,_⟩ | ⟨x,y,z,h,_⟩⟩
    ·exact absurd h (by decide)
    ·cases h'
     exact hall (by simpa using ⟨h1,h2⟩)
    ·exact absurd h (by decide)
   (iterate 5 refine Aa Z Z Z Z Z O ?_);refine Ab (At.seq (At.seq (At.region ?_)));(iterate 2 refine Aa Z Z Z Z Z O ?_);refine Ab ?_;refine At.cond Z ?_;refine At.seq (At.region ?_);refine Af 3 Z Z Z Z Z Z Z Z Z ?_;refine Ag 2 Z Z Z Z Z Z Z Z Z Z Z Z ?_;refine Aa Z Z Z Z Z O ?_;refine Ab ?_
   exact At.ret Tryz.func48 (.inr ⟨_,rfl⟩) rfl (.aggJ 2 Z Z Z (.tmp rfl .nil)) (wk (hc _ _ (⟨[],.inr ⟨hno,rfl⟩,rfl⟩)))
 ·rw [show idxS (wordL 2) [wordL 0,wordL 1,wordL 2] 0 = 2 from by decide]
  by_cases hlen : fs.length = 3
  rotate_left
  ·have hno : ¬ ∃ it,LineF (wordL 2) fs it := by
    rintro ⟨it,⟨x,y,z,h,h',_⟩ | ⟨x,y,h,h',_⟩ | ⟨x,y,z,h,h',_⟩⟩
    ·exact absurd h (by decide)
    ·exact absurd h (by decide)
    ·exact hlen (by rw [h'];rfl)
   refine Aa Z Z Z Z Z O ?_;refine Ab (At.seq (At.seq (At.region ?_)));(iterate 4 refine Aa Z Z Z Z Z O ?_);refine Ad Z Z Z Z Z fun b29 h29 => ?_;(iterate 2 refine Aa Z Z Z Z Z O ?_)
   obtain rfl : b29 = false := h29.symm.trans (by kernel_rfl)
   refine Aa Z Z Z Z Z O ?_;refine Ao Z Z Z Z Z Z Z Z ?_
   (refine At.l Z Z Z Z (l_buildSlice Z Z Z Z Z) ?_;rintro _ _ ⟨r34,rfl,rfl⟩)
   refine Aa Z Z Z Z Z O ?_;refine Ae Z Z Z Z (q_ia Z Z Z (by dsimp only;omega)) ?_;refine Af 0 Z Z Z Z Z Z Z Z Z ?_;refine Ad Z Z Z Z Z fun b38 h38 => ?_;refine Aa Z Z Z Z Z O ?_;refine Ab ?_
   obtain rfl : b38 = true := h38.symm.trans (decide_eq_true (by omega))
   refine At.cond Z ?_;refine At.seq (At.region ?_);refine Af 3 Z Z Z Z Z Z Z Z Z ?_;refine Ag 2 Z Z Z Z Z Z Z Z Z Z Z Z ?_;refine Aa Z Z Z Z Z O ?_;refine Ab ?_
   exact At.ret Tryz.func48 (.inr ⟨_,rfl⟩) rfl (.aggJ 2 Z Z Z (.tmp rfl .nil)) (wk (hc _ _ (⟨[],.inr ⟨hno,rfl⟩,rfl⟩)))
  obtain ⟨x,y,z,rfl⟩ : ∃ x y z,fs = [x,y,z] := by
   match fs,hlen with
   | [x,y,z],_ => exact ⟨x,y,z,rfl⟩
  have stop106 := trivial
  refine Aa Z Z Z Z Z O ?_;refine Ab (At.seq (At.seq (At.region ?_)));(iterate 4 refine Aa Z Z Z Z Z O ?_);refine Ad Z Z Z Z Z fun b29 h29 => ?_;(iterate 2 refine Aa Z Z Z Z Z O ?_)
  obtain rfl : b29 = false := h29.symm.trans (by kernel_rfl)
  refine Aa Z Z Z Z Z O ?_;refine Ao Z Z Z Z Z Z Z Z ?_
  (refine At.l Z Z Z Z (l_buildSlice Z Z Z Z Z) ?_;rintro _ _ ⟨r34,rfl,rfl⟩)
  refine Aa Z Z Z Z Z O ?_;refine Ae Z Z Z Z (q_ia Z Z Z (by dsimp only;omega)) ?_;refine Af 0 Z Z Z Z Z Z Z Z Z ?_;refine Ad Z Z Z Z Z fun b38 h38 => ?_;refine Aa Z Z Z Z Z O ?_;refine Ab ?_
  obtain rfl : b38 = false := h38.symm.trans (by kernel_rfl)
  refine At.cond Z ?_;refine At.skip (At.seq (At.seq (At.region ?_)));refine Aa Z Z Z Z Z O ?_;refine Ad Z Z Z Z Z fun b42 h42 => ?_;refine Ab ?_
  obtain rfl : b42 = false := h42.symm.trans (by kernel_rfl)
  refine At.cond Z ?_;refine At.skip (At.seq (At.region ?_));refine Aa Z Z Z Z Z O ?_
  clear stop106
  refine Ay Z Z Z Z Z Z Z Z (s106 L _ rfl hr'.a (fun f h => by have := hel f h;omega) (by simp)) ?_
  rintro _ _ ⟨sf2,⟨hall,a',cap',rfl,hr2⟩ | ⟨hall,rfl⟩,rfl⟩
  ·refine At.back ?_
   have hx := hall x (by simp)
   have hy := hall y (by simp)
   have hz := hall z (by simp)
   have hr2' : Rd (sf2 ++ (sf ++ H)) a' (([x,y,z].map numV).flatMap c1) := hr2.more (Sub.pre _ _)
   obtain ⟨b,off,rfl,hc0⟩ := hr2'.el (j := 0) (x := numV x) rfl
   obtain ⟨_,_,e,hc1⟩ := hr2'.el (j := 1) (x := numV y) rfl
   cases e
   obtain ⟨_,_,e,hc2⟩ := hr2'.el (j := 2) (x := numV z) rfl
   cases e
   have stopDraw := trivial
   (iterate 5 refine Aa Z Z Z Z Z O ?_);refine Ab (At.seq (At.seq (At.region ?_)));(iterate 2 refine Aa Z Z Z Z Z O ?_);refine Ab ?_;refine At.cond Z ?_;refine At.skip (At.seq (At.seq (At.region ?_)));refine Aa Z Z Z Z Z O ?_;refine Ad Z Z Z Z Z fun b79 h79 => ?_;refine Ab ?_
   obtain rfl : b79 = false := h79.symm.trans (by kernel_rfl)
   refine At.cond Z ?_;refine At.skip (At.seq ?_)
   clear stopDraw
   have hHb : Sub H (sf2 ++ (sf ++ H)) := (Sub.append_left _ _).trans (Sub.append_left _ _)
   have hrm : Rd (sf2 ++ (sf ++ H)) A.ma (B.marks.flatMap c3) := hB.m.more hHb
   refine Aw hmix [2] rfl ?_
   have stop31 := trivial
   refine Aj 2 0 Z Z Z Z Z Z Z Z Z Z Z ?_;refine Ac 1 Z Z Z Z Z Z Z O ?_;refine Ak 2 Z Z Z Z Z (q_ia Z Z Z (by dsimp only;omega)) rfl ?_;refine Ax 3 Z Z Z Z Z Z Z hc0.a Z Z Z ?_;refine Ac 4 Z Z Z Z Z Z Z O ?_;refine Ak 5 Z Z Z Z Z (q_ia Z Z Z (by dsimp only;omega)) rfl ?_;refine Ax 6 Z Z Z Z Z Z Z hc1.a Z Z Z ?_
   refine Ak 7 Z Z Z Z Z (q_build Z Z Z) rfl ?_;refine Ac 8 Z Z Z Z Z Z Z O ?_;refine Ak 9 Z Z Z Z Z (q_ia Z Z Z (by dsimp only;omega)) rfl ?_;refine Ax 10 Z Z Z Z Z Z Z hc2.a Z Z Z ?_;refine Ak 11 Z Z Z Z Z (q_build Z Z Z) rfl ?_;refine Ac 13 Z Z Z Z Z Z Z O ?_;refine Ac 15 Z Z Z Z Z Z Z O ?_
   clear stop31
   refine Pool.cl 12 Z Z Z Z Z Z Z Z Z Z Z Z Z Z (fun H_ hs_ => s31 L H_ (B := B) (A := A) (m := ((numV x,numV y),numV z)) (hrm.more (((((Sub.refl _).drop _).drop _).drop _).drop _ |>.trans hs_)) (by omega)) sb ?_
   rintro v sf3 ⟨a3,cp,rfl,hsm⟩
   refine Pool.back ?_;refine Ba 2 14 Z Z Z Z Z Z Z Z Z Z Z Z Z Z Z Z Z Z sb ?_;refine pool_done Z Z ?_;refine Ab ?_
   exact At.ret Tryz.func48 (.inr ⟨_,rfl⟩) rfl (.aggJ 2 Z Z Z (.tmp rfl .nil)) (wk (hc _ _ (⟨sf3,.inl ⟨.m ((numV x,numV y),numV z),⟨A.pa,A.pc,a3,cp⟩,.inr (.inr ⟨x,y,z,rfl,rfl,hx,hy,hz,rfl⟩),rfl,rfl,rfl,hsm.rd.2.1⟩,rfl⟩)))
  ·refine At.back ?_
   have hno : ¬ ∃ it,LineF (wordL 2) [x,y,z] it := by
    rintro ⟨it,⟨x,y,z,h,_⟩ | ⟨x,y,h,_⟩ | ⟨x,y,z,h,h',h1,h2,h3,_⟩⟩
    ·exact absurd h (by decide)
    ·exact absurd h (by decide)
    ·cases h'
     exact hall (by simpa using ⟨h1,h2,h3⟩)
   (iterate 5 refine Aa Z Z Z Z Z O ?_);refine Ab (At.seq (At.seq (At.region ?_)));(iterate 2 refine Aa Z Z Z Z Z O ?_);refine Ab ?_;refine At.cond Z ?_;refine At.seq (At.region ?_);refine Af 3 Z Z Z Z Z Z Z Z Z ?_;refine Ag 2 Z Z Z Z Z Z Z Z Z Z Z Z ?_;refine Aa Z Z Z Z Z O ?_;refine Ab ?_
   exact At.ret Tryz.func48 (.inr ⟨_,rfl⟩) rfl (.aggJ 2 Z Z Z (.tmp rfl .nil)) (wk (hc _ _ (⟨[],.inr ⟨hno,rfl⟩,rfl⟩)))
end Go.Gx
end
section
namespace Go.Gx
open Go Go.Conc Go.Proofs
variable {main : Bool}
theorem lastK_nn {is : List LI} : ∀ j,0 ≤ lastK is j
 | 0 => by simp [lastK]
 | j + 1 => by
  cases h : is[j]? with
  | none =>
   have e : lastK is (j + 1) = lastK is j := by
    unfold lastK
    rw [List.take_of_length_le (by rw [List.getElem?_eq_none_iff] at h;omega),List.take_of_length_le (by rw [List.getElem?_eq_none_iff] at h;omega)]
   rw [e];exact lastK_nn j
  | some it => rw [lastK_succ h];cases it <;> simp [kindI]
theorem rows_sub : ∀ {fs : List (List UInt8)} {f : List UInt8},f ∈ rowsL fs → f ∈ fs
 | [g],f,h => by
  unfold rowsL at h
  split at h
  ·cases h
  ·exact h
 | g :: g' :: fs,f,h => by
  unfold rowsL at h
  rcases List.mem_cons.1 h with rfl | h
  ·exact List.mem_cons_self ..
  ·exact List.mem_cons_of_mem _ (rows_sub h)
theorem rows_len {fs : List (List UInt8)} (hp : 0 < fs.length) : (rowsL fs).length ≤ fs.length := by
 rw [rows_eq hp]
 split
 ·rw [List.length_dropLast];omega
 ·omega
theorem line_uniq {w : List UInt8} {it it' : LI} (h : LineIs w it) (h' : LineIs w it') : it = it' := by
 obtain ⟨fs,rfl,hf,hfp⟩ := joinB_split (b := 32) w
 obtain ⟨f0,fs,rfl⟩ := List.exists_cons_of_length_pos hfp
 rw [line_f hf] at h h'
 have w01 : wordL 0 ≠ wordL 1 := by decide
 have w02 : wordL 0 ≠ wordL 2 := by decide
 have w12 : wordL 1 ≠ wordL 2 := by decide
 rcases h with ⟨a,t,x,rfl,rfl,_,h2,rfl⟩ | ⟨a,b,rfl,rfl,_,_,rfl⟩ | ⟨a,b,d,rfl,rfl,_,_,_,rfl⟩
 ·rcases h' with ⟨a',t',x',_,e,_,h2',rfl⟩ | ⟨a,b,e,_⟩ | ⟨a,b,d,e,_⟩
  ·cases e
   obtain ⟨gs,rfl,hg,hgp⟩ := joinB_split (b := 58) t
   rw [band_is hg hgp] at h2 h2'
   rw [h2] at h2'
   cases h2'
   rfl
  ·exact absurd e w01
  ·exact absurd e w02
 ·rcases h' with ⟨a',t',x',e,_⟩ | ⟨a,b,_,e,_,_,rfl⟩ | ⟨a,b,d,e,_⟩
  ·exact absurd e.symm w01
  ·cases e;rfl
  ·exact absurd e w12
 ·rcases h' with ⟨a',t',x',e,_⟩ | ⟨a,b,e,_⟩ | ⟨a,b,d,_,e,_,_,_,rfl⟩
  ·exact absurd e.symm w02
  ·exact absurd e.symm w12
  ·cases e;rfl
theorem bk0_r {H : Facts} : BkR H bk0 ⟨none,0,none,0⟩ := ⟨.inl rfl,.inl rfl⟩
set_option maxRecDepth 100000 in
set_option maxHeartbeats 4000000 in
theorem s10 (L : Lg Tryz.prog main) (H : Facts) {fs : List (List UInt8)} {is : List LI} (hf : ∀ f ∈ fs,(10 : UInt8) ∉ f) (hp : 0 < fs.length) (hl : (joinB 10 fs).length ≤ 40000) (hL : Lns (rowsL fs) is) :
  Grows L 10 #[.string (S (joinB 10 fs))] H (fun v sf => ∃ A,v = .tuple #[bkV (parM (rowsL fs).length is).1 A,.int .i64 (parM (rowsL fs).length is).2.1,.int .i64 (parM (rowsL fs).length is).2.2] ∧ BkR sf (parM (rowsL fs).length is).1 A) := by
 refine Spec.enter Tryz.func10 rfl (by simp [Tryz.f10]) fun c cs hc => ?_
 have hfl := joinB_len (b := 10) (fs := fs)
 have hrl := rows_len hp
 have hel : ∀ f ∈ rowsL fs,f.length ≤ 50000 := fun f hm => by have := joinB_el (b := 10) (rows_sub hm);omega
 have stop47 := trivial
 refine At.seq (At.region ?_);refine Al Z Z Z Z Z fun r2 => ?_;(iterate 2 refine Aa Z Z Z Z Z O ?_);refine Ab (At.seq (At.seq (At.region ?_)));refine Aa Z Z Z Z Z O ?_;refine Ae Z Z Z Z (q_lenSS Z Z Z Z) ?_;refine Ad Z Z Z Z Z fun b14 h14 => ?_;refine Ab ?_
 obtain rfl : b14 = false := h14.symm.trans (decide_eq_false (by omega))
 refine At.cond Z ?_;refine At.skip (At.seq (At.region ?_));refine Aa Z Z Z Z Z O ?_
 clear stop47
 refine Ay Z Z Z Z Z Z Z Z (s47 L _ hf hp (by omega)) ?_
 rintro _ _ ⟨sf0,⟨a,cap,rfl,hr⟩,rfl⟩
 refine At.back ?_
 have hLl := hL.len
 generalize rowsL fs = us at hc hrl hel hr hL hLl ⊢
 have hr' : Rd (sf0 ++ H) a (us.flatMap cS) := hr.more (Sub.pre _ _)
 refine Aa Z Z Z Z Z O ?_;refine Ab (At.seq (At.seq (At.region ?_)));refine Aa Z Z Z Z Z O ?_;refine Ao Z Z Z Z Z Z Z Z ?_;refine Ad Z Z Z Z Z fun b20 h20 => ?_;refine Ab ?_
 cases b20
 ·have h0 : us.length ≠ 0 := by have := of_decide_eq_false h20;omega
  refine At.cond Z ?_;refine At.skip (At.seq (At.region ?_));refine Al Z Z Z Z Z fun r6 => ?_;refine Ab (At.seq (At.region ?_));refine Aa Z Z Z Z Z O ?_;refine Ab (At.seq (At.seq (At.region ?_)));refine Aa Z Z Z Z Z O ?_;refine Ab ?_;refine At.block ?_
  refine Az (X := { x : Nat × BkA × Facts // x.1 ≤ is.length ∧ BkR x.2.2 (preB is x.1) x.2.1 }) [2,5,6] (fun x => [(8,.int .i64 (x.1.1 : Int)),(7,.int .i64 (lastK is x.1.1))]) (fun x => .own r6 (.cells (List.toArray (bkC (preB is x.1.1) x.1.2.1)) 27 (0,0)) :: .own r2 (.cells (List.toArray (bkC bk0 ⟨none,0,none,0⟩)) 27 (0,0)) :: (x.1.2.2 ++ (sf0 ++ H))) (fun x => us.length - x.1.1) (⟨(0,⟨none,0,none,0⟩,[]),Nat.zero_le _,bk0_r⟩) rfl ?_ (by repeat (first | exact trivial | refine ⟨rfl,?_⟩)) sb
  rintro ⟨⟨j,A,sfj⟩,hj,hB⟩ again
  simp only at again hj hB ⊢
  have hpl := preB_len (is := is) (j := j)
  have hln := lastK_nn (is := is) j
  refine At.seq (At.seq (At.region ?_));(iterate 2 refine Aa Z Z Z Z Z O ?_);refine Ao Z Z Z Z Z Z Z Z ?_;refine Ad Z Z Z Z Z fun b25 h25 => ?_;refine Ab ?_
  cases b25
  ·have e : j = us.length := by have := of_decide_eq_false h25;omega
   have hi : is.length = us.length := by omega
   subst e
   have stop12 := trivial
   refine At.cond Z ?_;refine At.exit rfl ?_;refine At.seq (At.seq (At.region ?_));refine Af 0 Z Z Z Z Z Z Z Z Z ?_
   clear stop12
   have hB' : BkR (sfj ++ (sf0 ++ H)) (preB is us.length) A := ⟨hB.p.more (Sub.pre _ _),hB.m.more (Sub.pre _ _)⟩
   refine Ai Z Z Z Z Z Z Z Z (s12 L _ (B := preB is us.length) (A := A) hB'.a (by omega) (by omega)) ?_
   by_cases hbar : bookBar (preB is us.length) = 0
   ·have ho : parM us.length is = (preB is us.length,0,0) := by unfold parM;rw [if_neg (by omega),if_neg (by omega),if_pos hbar]
    rw [ho] at hc
    rw [hbar]
    refine Aa Z Z Z Z Z O ?_;refine Ab (At.seq (At.region ?_));refine Aa Z Z Z Z Z O ?_;refine Ad Z Z Z Z Z fun b55 h55 => ?_;refine Ab ?_
    obtain rfl : b55 = false := h55.symm.trans (by kernel_rfl)
    refine At.cond Z ?_;refine At.skip (At.seq (At.region ?_));refine Af 0 Z Z Z Z Z Z Z Z Z ?_;refine Ag 1 Z Z Z Z Z Z Z Z Z Z Z Z ?_;(iterate 2 refine Aa Z Z Z Z Z O ?_);refine Ab ?_
    exact At.ret Tryz.func10 (.inr ⟨_,rfl⟩) rfl (.aggJ 1 Z Z Z (.tmp rfl (.tmp rfl .nil))) (wk (hc _ _ (⟨sfj,⟨A,rfl,hB⟩,rfl⟩)))
   ·have ho : parM us.length is = (bk0,0,bookBar (preB is us.length)) := by unfold parM;rw [if_neg (by omega),if_neg (by omega),if_neg hbar]
    rw [ho] at hc
    refine Aa Z Z Z Z Z O ?_;refine Ab (At.seq (At.region ?_));refine Aa Z Z Z Z Z O ?_;refine Ad Z Z Z Z Z fun b55 h55 => ?_;refine Ab ?_
    obtain rfl : b55 = true := h55.symm.trans (decide_eq_true (by omega))
    refine At.cond Z ?_;refine At.seq (At.region ?_);refine Ae Z Z Z Z (q_build Z Z Z) ?_;refine Aa Z Z Z Z Z O ?_;refine Ag 1 Z Z Z Z Z Z Z Z Z Z Z Z ?_;(iterate 2 refine Aa Z Z Z Z Z O ?_);refine Ab ?_
    exact At.ret Tryz.func10 (.inr ⟨_,rfl⟩) rfl (.aggJ 1 Z Z Z (.tmp rfl (.tmp rfl .nil))) (wk (hc _ _ (⟨[],⟨⟨none,0,none,0⟩,rfl,bk0_r⟩,rfl⟩)))
  ·have hlt : j < us.length := by have := of_decide_eq_true h25;omega
   have hr2 : Rd (sfj ++ (sf0 ++ H)) a (us.flatMap cS) := hr'.more (Sub.append_left _ _)
   obtain ⟨b,off,rfl,hc1⟩ := hr2.el (List.getElem?_eq_getElem hlt)
   have hwl := hel _ (List.getElem_mem hlt)
   have hB' : BkR (sfj ++ (sf0 ++ H)) (preB is j) A := ⟨hB.p.more (Sub.pre _ _),hB.m.more (Sub.pre _ _)⟩
   have stop48 := trivial
   have stopDraw := trivial
   refine At.cond Z ?_;refine At.skip (At.seq ?_);refine At.block ?_;refine At.seq ?_
   clear stopDraw
   refine Bd hmix (_) sb ?_;refine Aj 0 0 Z Z Z Z Z Z Z Z Z Z Z ?_;refine Ac 1 Z Z Z Z Z Z Z O ?_;refine Ac 2 Z Z Z Z Z Z Z O ?_;refine Ak 3 Z Z Z Z Z (q_ia Z Z Z (by assumption)) rfl ?_;refine Ax 4 Z Z Z Z Z Z Z hc1.a Z Z Z ?_;refine Pool.fl 9 Z Z Z Z Z Z Z Z Z Z ?_
   refine Pool.cl 5 Z Z Z Z Z Z Z Z Z Z Z Z Z Z (fun H_ hs_ => s48 L H_ hB'.a (by omega) (by omega) hwl) sb ?_
   rintro v sf3 (⟨it,A',hit,rfl,hst⟩ | ⟨hno,rfl⟩)
   ·refine Pool.back ?_
    have hu : us[j]? = some us[j] := List.getElem?_eq_getElem hlt
    by_cases hg : GoodAt is j it
    ·have hj2 : j < is.length := by
      rcases Nat.lt_or_eq_of_le hj with h | rfl
      ·exact h
      ·exact absurd hg (hL.bad _ hu it hit)
     have hi : is[j]? = some it := by
      have h := List.getElem?_eq_getElem hj2
      rw [h,line_uniq (hL.good j _ _ hu h).1 hit]
     have e : decide (kindI it = 0) = decide ((j : Int) = 0) := decide_eq_decide.2 ⟨fun h => by have := hg.2.1 h;omega,fun h => hg.2.2 (by omega)⟩
     obtain ⟨hg1,_⟩ := hg
     have ag := again ⟨(j + 1,A',sf3 ++ sfj),hj2,by rw [preB_succ hi];exact hst.book hB⟩ (by simp only;omega)
     simp only [List.append_assoc,preB_succ hi,lastK_succ hi] at ag
     refine Ac 6 Z Z Z Z Z Z Z O ?_;refine Ac 7 Z Z Z Z Z Z Z O ?_;refine Ac 8 Z Z Z Z Z Z Z O ?_;refine Ac 11 Z Z Z Z Z Z Z O ?_;refine pool_take Z Z Z fun rf9 => ?_;refine Ba 0 10 Z Z Z Z Z Z Z Z Z Z Z Z Z Z Z Z Z Z sb ?_;refine pool_done Z Z ?_;refine Ab (At.seq (At.seq (At.region ?_)))
     (iterate 2 refine Aa Z Z Z Z Z O ?_);refine Ad Z Z Z Z Z fun b39 h39 => ?_;refine Aa Z Z Z Z Z O ?_
     obtain rfl : b39 = false := h39.symm.trans (decide_eq_false (by omega))
     refine Aa Z Z Z Z Z O ?_;refine Ad Z Z Z Z Z fun b42 h42 => ?_;refine Aa Z Z Z Z Z O ?_;refine Ad Z Z Z Z Z fun b44 h44 => ?_;refine At.qb Z Z Z Z (q_neqB Z Z Z) fun b45 h45 => ?_;refine Aa Z Z Z Z Z O ?_;refine Ab ?_
     obtain rfl : b45 = false := by rw [← h45,← h42,← h44,e];simp
     refine At.cond Z ?_;refine At.skip (At.region ?_);refine Af 0 Z Z Z Z Z Z Z Z Z ?_;refine Aa Z Z Z Z Z O ?_;refine Ag 1 Z Z Z Z Z Z Z Z Z Z Z Z ?_;refine Aa Z Z Z Z Z O ?_;refine Ab ?_;refine At.inBlock ?_;refine At.region ?_;refine Aa Z Z Z Z Z O ?_;refine Aa Z Z Z Z Z (by omega) ?_;refine Aa Z Z Z Z Z O ?_;refine Ab ?_
     refine Aq (ag)
    ·have hj2 : j = is.length := by
      rcases Nat.lt_or_eq_of_le hj with h | h
      ·have h' := List.getElem?_eq_getElem h
       obtain ⟨g1,g2⟩ := hL.good j _ _ hu h'
       rw [line_uniq g1 hit] at g2
       exact absurd g2 hg
      ·exact h
     have ho : parM us.length is = (bk0,(j : Int) + 1,3) := by unfold parM;rw [if_pos (by omega),hj2]
     rw [ho] at hc
     by_cases hg1 : lastK is j ≤ kindI it
     ·have e : ¬ decide (kindI it = 0) = decide ((j : Int) = 0) := fun h => hg ⟨hg1,by have := decide_eq_decide.1 h;omega⟩
      refine Ac 6 Z Z Z Z Z Z Z O ?_;refine Ac 7 Z Z Z Z Z Z Z O ?_;refine Ac 8 Z Z Z Z Z Z Z O ?_;refine Ac 11 Z Z Z Z Z Z Z O ?_;refine pool_take Z Z Z fun rf9 => ?_;refine Ba 0 10 Z Z Z Z Z Z Z Z Z Z Z Z Z Z Z Z Z Z sb ?_;refine pool_done Z Z ?_;refine Ab (At.seq (At.seq (At.region ?_)))
      (iterate 2 refine Aa Z Z Z Z Z O ?_);refine Ad Z Z Z Z Z fun b39 h39 => ?_;refine Aa Z Z Z Z Z O ?_
      obtain rfl : b39 = false := h39.symm.trans (decide_eq_false (by omega))
      refine Aa Z Z Z Z Z O ?_;refine Ad Z Z Z Z Z fun b42 h42 => ?_;refine Aa Z Z Z Z Z O ?_;refine Ad Z Z Z Z Z fun b44 h44 => ?_;refine At.qb Z Z Z Z (q_neqB Z Z Z) fun b45 h45 => ?_;refine Aa Z Z Z Z Z O ?_;refine Ab ?_
      obtain rfl : b45 = true := by rw [← h45,← h42,← h44,decide_eq_false e];rfl
      refine At.cond Z ?_;refine At.seq (At.region ?_);refine Ae Z Z Z Z (q_build Z Z Z) ?_;refine Aa Z Z Z Z Z O ?_;refine Aa Z Z Z Z Z (by omega) ?_;refine Ag 2 Z Z Z Z Z Z Z Z Z Z Z Z ?_;(iterate 2 refine Aa Z Z Z Z Z O ?_);refine Ab ?_
      exact At.ret Tryz.func10 (.inr ⟨_,rfl⟩) rfl (.aggJ 2 Z Z Z (.tmp rfl (.tmp rfl .nil))) (wk (hc _ _ (⟨[],⟨⟨none,0,none,0⟩,rfl,bk0_r⟩,rfl⟩)))
     ·refine Ac 6 Z Z Z Z Z Z Z O ?_
      refine Ac 7 Z Z Z Z Z Z Z O ?_;refine Ac 8 Z Z Z Z Z Z Z O ?_;refine Ac 11 Z Z Z Z Z Z Z O ?_;refine pool_take Z Z Z fun rf9 => ?_;refine Ba 0 10 Z Z Z Z Z Z Z Z Z Z Z Z Z Z Z Z Z Z sb ?_;refine pool_done Z Z ?_;refine Ab (At.seq (At.seq (At.region ?_)));(iterate 2 refine Aa Z Z Z Z Z O ?_);refine Ad Z Z Z Z Z fun b39 h39 => ?_
      refine Aa Z Z Z Z Z O ?_
      obtain rfl : b39 = true := h39.symm.trans (decide_eq_true (by omega))
      (iterate 5 refine Ar Z Z Z Z ?_);refine Aa Z Z Z Z Z O ?_;refine Ab ?_;refine At.cond Z ?_;refine At.seq (At.region ?_);refine Ae Z Z Z Z (q_build Z Z Z) ?_;refine Aa Z Z Z Z Z O ?_;refine Aa Z Z Z Z Z (by omega) ?_;refine Ag 2 Z Z Z Z Z Z Z Z Z Z Z Z ?_;(iterate 2 refine Aa Z Z Z Z Z O ?_);refine Ab ?_
      exact At.ret Tryz.func10 (.inr ⟨_,rfl⟩) rfl (.aggJ 2 Z Z Z (.tmp rfl (.tmp rfl .nil))) (wk (hc _ _ (⟨[],⟨⟨none,0,none,0⟩,rfl,bk0_r⟩,rfl⟩)))
   ·refine Pool.back ?_
    have hj2 : j = is.length := by
     rcases Nat.lt_or_eq_of_le hj with h | h
     ·exact absurd ⟨_,(hL.good j _ _ (List.getElem?_eq_getElem hlt) (List.getElem?_eq_getElem h)).1⟩ hno
     ·exact h
    have ho : parM us.length is = (bk0,(j : Int) + 1,3) := by unfold parM;rw [if_pos (by omega),hj2]
    rw [ho] at hc
    refine Ac 6 Z Z Z Z Z Z Z O ?_;refine Ac 7 Z Z Z Z Z Z Z O ?_;refine Ac 8 Z Z Z Z Z Z Z O ?_;refine Ac 11 Z Z Z Z Z Z Z O ?_;refine pool_take Z Z Z fun rf9 => ?_;refine Ba 0 10 Z Z Z Z Z Z Z Z Z Z Z Z Z Z Z Z Z Z sb ?_;refine pool_done Z Z ?_;refine Ab (At.seq (At.seq (At.region ?_)))
    (iterate 2 refine Aa Z Z Z Z Z O ?_);refine Ad Z Z Z Z Z fun b39 h39 => ?_;refine Aa Z Z Z Z Z O ?_
    obtain rfl : b39 = true := h39.symm.trans (decide_eq_true (by omega))
    (iterate 5 refine Ar Z Z Z Z ?_);refine Aa Z Z Z Z Z O ?_;refine Ab ?_;refine At.cond Z ?_;refine At.seq (At.region ?_);refine Ae Z Z Z Z (q_build Z Z Z) ?_;refine Aa Z Z Z Z Z O ?_;refine Aa Z Z Z Z Z (by omega) ?_;refine Ag 2 Z Z Z Z Z Z Z Z Z Z Z Z ?_;(iterate 2 refine Aa Z Z Z Z Z O ?_);refine Ab ?_
    exact At.ret Tryz.func10 (.inr ⟨_,rfl⟩) rfl (.aggJ 2 Z Z Z (.tmp rfl (.tmp rfl .nil))) (wk (hc _ _ (⟨[],⟨⟨none,0,none,0⟩,rfl,bk0_r⟩,rfl⟩)))
 ·have h0 : us.length = 0 := by have := of_decide_eq_true h20;omega
  have ho : parM us.length is = (bk0,0,3) := by unfold parM;rw [if_neg (by omega),if_pos h0]
  rw [ho] at hc
  refine At.cond Z ?_;refine At.seq (At.region ?_);refine Ae Z Z Z Z (q_build Z Z Z) ?_;refine Ag 0 Z Z Z Z Z Z Z Z Z Z Z Z ?_;(iterate 2 refine Aa Z Z Z Z Z O ?_);refine Ab ?_
  exact At.ret Tryz.func10 (.inr ⟨_,rfl⟩) rfl (.aggJ 0 Z Z Z (.tmp rfl (.tmp rfl .nil))) (wk (hc _ _ (⟨[],⟨⟨none,0,none,0⟩,rfl,bk0_r⟩,rfl⟩)))
end Go.Gx
end
section
namespace Go.Gx
open Go Go.Conc Go.Proofs
variable {main : Bool}
instance : IfI Tryz.prog 20 := ⟨by kernel_rfl⟩
set_option maxRecDepth 100000 in
set_option maxHeartbeats 4000000 in
theorem s9p (L : Lg Tryz.prog main) (H : Facts) {ws : List (List UInt8)} {is : List LI} (hls : LnOk ws) (hlen : ws.flatten.length ≤ 40000) (hL : Lns (ws.map cutE) is) (hg : Cells H 1 0 chkC) (ht : TabT H) :
  Grows L 9 #[.string (S ws.flatten)] H (fun v sf => ∃ A,v = .tuple #[bkV (parM ws.length is).1 A,.int .i64 (parM ws.length is).2.1,.int .i64 (parM ws.length is).2.2] ∧ BkO (parM ws.length is).1 A sf) := by
 refine Spec.enter Tryz.func9 rfl (by simp [Tryz.f9]) fun c cs hc => ?_
 have hwl := ln_len hls
 have hil : is.length ≤ ws.length := by have := hL.len;rwa [List.length_map] at this
 have hcatch : ∀ (E : Env) (nn : Nat) (tmps : Array Value) (todo : List Item) (r r2 r3 r4 : Nat) (n : Int) (B : Bk) (A : BkA),tmps.size = nn → E.ok tmps → look E 2 = some (.pointer (some ⟨r2,0,none⟩)) → look E 3 = some (.pointer (some ⟨r3,0,none⟩)) → look E 4 = some (.pointer (some ⟨r4,0,none⟩)) → parM ws.length is = (bk0,n,3) →
   L.J (G ((Fr 9 none ⟨false,[mark r,dcall 42 [] [.pointer (some ⟨r2,0,none⟩),.pointer (some ⟨r4,0,none⟩)]]⟩ tmps todo).raise (pe refV)) (c :: cs)) (.own r (.deferred (some [])) :: .own r4 (.cells #[.int .i64 0] 30 (0,0)) :: .own r3 (.cells #[.int .i64 n] 3 (0,0)) :: .own r2 (.cells (List.toArray (bkC B A)) 27 (0,0)) :: H) := by
  intro E nn tmps todo r r2 r3 r4 n B A hn hE h2 h3 h4 ho
  refine catchD 0 (rs := [.cell 2 27,.cell 3 3,.cell 4 30]) (vs := [bkV bk0 ⟨none,0,none,0⟩,.int .i64 n,.int .i64 3]) (Q := fun H₂ => H₂ = .own r (.deferred none) :: .own r4 (.cells #[.int .i64 3] 30 (0,0)) :: .own r3 (.cells #[.int .i64 n] 3 (0,0)) :: .own r2 (.cells (List.toArray (bkC bk0 ⟨none,0,none,0⟩)) 27 (0,0)) :: H) hn hE Tryz.func9 Z Z Tryz.func42 (by simp [Tryz.f42];rfl) (by simp [Tryz.f42]) (fun c' cs' hc' hJ => ?_) (by simp [Tryz.f9]) ?_
  ·refine At.seq ?_
   refine At.region ?_;refine At.recoverP hc' Z Z Z Z Z ?_;refine Ab ?_;refine At.block ?_;refine At.seq (At.region ?_);refine Ae Z Z Z Z (q_nilEqI Z Z) ?_;refine Ab ?_;refine At.cond Z ?_;refine At.seq (At.region ?_);refine Ae Z Z Z Z (q_taY Z Z) ?_;(iterate 2 refine Aa Z Z Z Z Z O ?_);refine Ab ?_;refine At.cond Z ?_;refine At.seq (At.region ?_);refine Al Z Z Z Z Z fun r3 => ?_
   refine Ag 0 Z Z Z Z Z Z Z Z Z Z Z Z ?_;refine Ab (At.region ?_);refine Ae Z Z Z Z (q_build Z Z Z) ?_;refine Ag 4 Z Z Z Z Z Z Z Z Z Z Z Z ?_;refine Ag 2 Z Z Z Z Z Z Z Z Z Z Z Z ?_;refine Ab ?_;refine At.inBlock ?_
   refine At.lateEndP rfl Tryz.func42 (by simp [Tryz.f42]) (.inl rfl) (wk (hJ _ rfl))
  ·rintro _ rfl
   refine ⟨ResVs.aggJ 3 h2 Z Z (ResVs.oneJ 2 h3 Z Z (ResVs.oneJ 1 h4 Z Z .nil)),?_⟩
   have hc' := hc
   rw [ho] at hc'
   exact wk (hc' _ _ ⟨[],⟨⟨none,0,none,0⟩,rfl,⟨[],[],rfl,Sl.nil,Sl.nil⟩⟩,rfl⟩)
 refine At.seq (At.region ?_);refine Al Z Z Z Z Z fun r2 => ?_;refine Al Z Z Z Z Z fun r3 => ?_;refine Al Z Z Z Z Z fun r4 => ?_;refine Ab (At.seq (At.seq (At.region ?_)));refine Aa Z Z Z Z Z O ?_;refine Ae Z Z Z Z (q_lenSS Z Z Z Z) ?_;refine Ad Z Z Z Z Z fun b14 h14 => ?_;refine Ab ?_
 obtain rfl : b14 = false := h14.symm.trans (decide_eq_false (by omega))
 refine At.cond Z ?_;refine At.skip (At.seq (At.region ?_));refine Aa Z Z Z Z Z O ?_;refine At.defer Z Z Z Z Z Z ?_
 have stop43 := trivial
 refine Ab (At.seq (At.region ?_));refine Al Z Z Z Z Z fun r5 => ?_;refine Ag 0 Z Z Z Z Z Z Z Z Z Z Z Z ?_;refine Ab (At.seq (At.seq (At.region ?_)));refine Aa Z Z Z Z Z O ?_
 clear stop43
 refine Ay Z Z Z Z Z Z Z Z (s43 L _ (w := ws.flatten)) ?_
 rintro _ _ ⟨_,⟨r6,rfl,rfl⟩,rfl⟩
 refine Ab ?_;refine At.block ?_
 refine At.rngB (v := refV) (C0 := [.own r6 (.cells #[.string (S ws.flatten)] 9 (0,0))]) (H1 := .own r5 (.cells #[.int .i64 0] 3 (0,0)) :: .own r4 (.cells #[.int .i64 0] 30 (0,0)) :: .own r3 (.cells #[.int .i64 0] 3 (0,0)) :: .own r2 (.cells (List.toArray (bkC bk0 ⟨none,0,none,0⟩)) 27 (0,0)) :: H) Z Z (List.Perm.refl _) (s93p L hls (by omega))
  (fun k Hk => k ≤ is.length ∧ ∃ A sp sm,Hk = .own r5 (.cells #[.int .i64 (lastK is k)] 3 (0,0)) :: .own r4 (.cells #[.int .i64 0] 30 (0,0)) :: .own r3 (.cells #[.int .i64 (k : Int)] 3 (0,0)) :: .own r2 (.cells (List.toArray (bkC (preB is k) A)) 27 (0,0)) :: (sm ++ (sp ++ H)) ∧ Sl c2 89 (.slice A.pa (preB is k).prof.length A.pc) (preB is k).prof sp ∧ Sl c3 72 (.slice A.ma (preB is k).marks.length A.mc) (preB is k).marks sm)
  (fun _ _ _ => False) (fun Hk => is.length < ws.length ∧ ∃ B A,Hk = .own r4 (.cells #[.int .i64 0] 30 (0,0)) :: .own r3 (.cells #[.int .i64 ((is.length : Int) + 1)] 3 (0,0)) :: .own r2 (.cells (List.toArray (bkC B A)) 27 (0,0)) :: H) (fun _ _ _ => ⟨_,List.Perm.refl _⟩) (fun _ _ _ h => h.elim) ?_ ?_ ?_ (fun _ _ _ _ _ _ _ h => h.elim) ?_
 ·exact ⟨Nat.zero_le _,⟨none,0,none,0⟩,[],[],rfl,Sl.nil,Sl.nil⟩
 ·rintro tmps l r j u _ R c cs' hu ⟨hjl,A,sp,sm,rfl,hsp,hsm⟩ hgo _ hbd
  rw [List.getElem?_map] at hu
  obtain ⟨w,hw,rfl⟩ := Option.map_eq_some_iff.1 hu
  have hlt := (List.getElem?_eq_some_iff.1 hw).1
  have hpl := preB_len (is := is) (j := j)
  have hwc : (ws.map cutE)[j]? = some (cutE w) := by rw [List.getElem?_map,hw];rfl
  have hw4 : w.length ≤ 40000 := by
   obtain ⟨h1,h2⟩ := List.getElem?_eq_some_iff.1 hw
   have e : ws = ws.take j ++ w :: ws.drop (j + 1) := by rw [← h2,← List.drop_eq_getElem_cons h1,List.take_append_drop]
   rw [e] at hlen
   simp only [List.flatten_append,List.flatten_cons,List.length_append] at hlen;omega
  have hcl : (cutE w).length ≤ 50000 := by
   unfold cutE
   split
   ·rw [List.length_dropLast];omega
   ·omega
  simp only [List.cons_append,List.append_assoc]
  have stop45 := trivial
  refine At.region ?_;refine Aa Z Z Z Z Z O ?_;refine Ab ?_;refine At.beginRound 0 Z Z Z ?_;refine At.block ?_;refine At.seq (At.region ?_);refine Af 4 Z Z Z Z Z Z Z Z Z ?_;refine Aa Z Z Z Z Z (by omega) ?_;refine Ag 4 Z Z Z Z Z Z Z Z Z Z Z Z ?_;refine Ab (At.seq (At.region ?_));refine Aa Z Z Z Z Z O ?_
  clear stop45
  refine Ai Z Z Z Z Z Z Z Z (s45 L _ (w := w) (b := 10) (by omega)) ?_
  rw [show (if w.getLast? = some 10 then w.dropLast else w) = cutE w from rfl]
  rcases Nat.lt_or_eq_of_le hjl with hj2 | rfl
  ·have hit : is[j]? = some is[j] := List.getElem?_eq_getElem hj2
   obtain ⟨hL1,hor⟩ := hL.good j _ _ hwc hit
   have hP := preB_succ hit
   have hK := lastK_succ hit
   generalize is[j] = it at hor hL1 hP hK
   refine Ai Z Z Z Z Z Z Z Z (s44w L _ ht.a hL1 hcl) ?_
   cases it with
   | c n lo hi =>
    obtain ⟨ho1,ho2⟩ := hor
    change lastK is j ≤ 0 at ho1
    have ej : j = 0 := ho2.1 rfl
    simp only [ifV]
    have stop46 := trivial
    refine Aa Z Z Z Z Z O ?_;refine Ab (At.seq ?_);refine Aw hmix [] rfl ?_;refine Ac 0 Z Z Z Z Z Z Z O ?_;refine Pool.inv 1 Z Z Z Z Z Z Z Z Z (fun H hs => s226 L H) ?_;refine Aj 2 2 Z Z Z Z Z Z Z Z Z Z Z ?_;refine Bb 3 Z Z Z Z Z Z Z fun b28 h28 => ?_;refine Ac 4 Z Z Z Z Z Z Z O ?_
    obtain rfl : b28 = true := h28.symm.trans (decide_eq_true (by omega))
    refine Ac 5 Z Z Z Z Z Z Z O ?_;refine Pool.inv 6 Z Z Z Z Z Z Z Z Z (fun H hs => s226 L H) ?_;refine Bb 7 Z Z Z Z Z Z Z fun b32 h32 => ?_;refine Aj 4 8 Z Z Z Z Z Z Z Z Z Z Z ?_;refine Bb 9 Z Z Z Z Z Z Z fun b34 h34 => ?_;refine Pool.qb 10 Z Z Z Z Z (q_eqlB Z Z Z) rfl fun b35 h35 => ?_;refine Ac 11 Z Z Z Z Z Z Z O ?_
    clear stop46
    obtain rfl : b35 = true := by rw [← h35,← h34,← h32];first | (simp;done) | (simp;omega)
    refine Ap 12 Z Z Z Z Z Z Z Z Z (fun H_ hs_ => s46 L H_) ?_
    have stopDraw := trivial
    refine pool_done Z Z ?_;refine Ab (At.seq (At.region ?_));refine Aa Z Z Z Z Z O ?_;refine At.invq Z Z Z Z Z Z Z Z (s226 L _) ?_;refine Ag 2 Z Z Z Z Z Z Z Z Z Z Z Z ?_;refine Ab (At.seq (At.region ?_));refine Aa Z Z Z Z Z O ?_;refine Ab ?_;refine At.block ?_;refine At.seq (At.region ?_);refine Ae Z Z Z Z (q_taY Z Z) ?_
    (iterate 2 refine Aa Z Z Z Z Z O ?_);refine Ab ?_;refine At.cond Z ?_;refine At.seq (At.region ?_);refine Al Z Z Z Z Z fun r8 => ?_;refine Ag 0 Z Z Z Z Z Z Z Z Z Z Z Z ?_;refine Ab ?_
    clear stopDraw
    refine Aw hmix [6] rfl ?_;refine Am 0 0 Z Z Z Z Z Z Z Z Z ?_;refine Aj 0 1 Z Z Z Z Z Z Z Z Z Z Z ?_;refine Am 1 2 Z Z Z Z Z Z Z Z Z ?_;refine Aj 0 3 Z Z Z Z Z Z Z Z Z Z Z ?_;refine Am 1 4 Z Z Z Z Z Z Z Z Z ?_;refine Ba 6 5 Z Z Z Z Z Z Z Z Z Z Z Z Z Z Z Z Z Z sb ?_;refine Am 2 6 Z Z Z Z Z Z Z Z Z ?_
    refine Ba 6 7 Z Z Z Z Z Z Z Z Z Z Z Z Z Z Z Z Z Z sb ?_;refine pool_done Z Z ?_;refine Ab ?_;(iterate 2 refine At.inBlock ?_)
    have hg := hgo (.own r5 (.cells #[.int .i64 0] 3 (0,0)) :: .own r4 (.cells #[.int .i64 0] 30 (0,0)) :: .own r3 (.cells #[.int .i64 ((j : Int) + 1)] 3 (0,0)) :: .own r2 (.cells (List.toArray (bkC (stepB (preB is j) (.c n lo hi)) A)) 27 (0,0)) :: (sm ++ (sp ++ H))) ⟨hj2,A,sp,sm,by rw [hP,hK];rfl,by rw [hP];exact hsp,by rw [hP];exact hsm⟩
    simp only [List.cons_append,List.append_assoc] at hg
    exact At.endRound 1 (.inl ⟨rfl,rfl⟩) Z Z Z (wk hg)
   | p x =>
    obtain ⟨ho1,ho2⟩ := hor
    change lastK is j ≤ 1 at ho1
    have ej : j ≠ 0 := fun e => by have := ho2.2 e;simp [kindI] at this
    simp only [ifV]
    have stop46 := trivial
    refine Aa Z Z Z Z Z O ?_;refine Ab (At.seq ?_);refine Aw hmix [] rfl ?_;refine Ac 0 Z Z Z Z Z Z Z O ?_;refine Pool.inv 1 Z Z Z Z Z Z Z Z Z (fun H hs => s227 L H) ?_;refine Aj 2 2 Z Z Z Z Z Z Z Z Z Z Z ?_;refine Bb 3 Z Z Z Z Z Z Z fun b28 h28 => ?_;refine Ac 4 Z Z Z Z Z Z Z O ?_
    obtain rfl : b28 = true := h28.symm.trans (decide_eq_true (by omega))
    refine Ac 5 Z Z Z Z Z Z Z O ?_;refine Pool.inv 6 Z Z Z Z Z Z Z Z Z (fun H hs => s227 L H) ?_;refine Bb 7 Z Z Z Z Z Z Z fun b32 h32 => ?_;refine Aj 4 8 Z Z Z Z Z Z Z Z Z Z Z ?_;refine Bb 9 Z Z Z Z Z Z Z fun b34 h34 => ?_;refine Pool.qb 10 Z Z Z Z Z (q_eqlB Z Z Z) rfl fun b35 h35 => ?_;refine Ac 11 Z Z Z Z Z Z Z O ?_
    clear stop46
    obtain rfl : b35 = true := by rw [← h35,← h34,← h32];first | (simp;done) | (simp;omega)
    refine Ap 12 Z Z Z Z Z Z Z Z Z (fun H_ hs_ => s46 L H_) ?_;refine pool_done Z Z ?_;refine Ab (At.seq (At.region ?_));refine Aa Z Z Z Z Z O ?_;refine At.invq Z Z Z Z Z Z Z Z (s227 L _) ?_;refine Ag 2 Z Z Z Z Z Z Z Z Z Z Z Z ?_;refine Ab (At.seq (At.region ?_));refine Aa Z Z Z Z Z O ?_;refine Ab ?_;refine At.block ?_;refine At.seq (At.region ?_)
    refine Ae Z Z Z Z (q_taN Z Z Z tf104) ?_;(iterate 2 refine Aa Z Z Z Z Z O ?_);refine Ab ?_;refine At.cond Z ?_;refine At.seq (At.region ?_);refine Ae Z Z Z Z (q_taY Z Z) ?_;(iterate 2 refine Aa Z Z Z Z Z O ?_);refine Ab ?_;refine At.cond Z ?_;refine At.seq (At.region ?_);refine Al Z Z Z Z Z fun r9 => ?_;refine Ag 0 Z Z Z Z Z Z Z Z Z Z Z Z ?_
    refine Ab (At.region ?_);refine Ah 0 Z Z Z Z Z Z Z ?_;refine Af 6 Z Z Z Z Z Z Z Z Z ?_;refine Af 0 Z Z Z Z Z Z Z Z Z ?_
    (refine At.l Z Z Z Z (l_buildSlice Z Z Z Z Z) ?_;rintro _ _ ⟨r56,rfl,rfl⟩)
    refine At.swp 8 rfl ?_;refine At.push (x := x) 0 8 Z Z Z Z Z Z Z Z Z Z Z Z Z Z hsp Z Z Z ?_ fun v sf hs => ?_
    ·omega
    ·obtain ⟨a2,cap2,rfl⟩ := hs.slice
     refine At.swp 8 rfl ?_;refine Ah 0 Z Z Z Z Z Z Z ?_;refine Ag 7 Z Z Z Z Z Z Z Z Z Z Z Z ?_;refine Ab ?_;(iterate 2 refine At.inBlock ?_)
     have hg := hgo (.own r5 (.cells #[.int .i64 1] 3 (0,0)) :: .own r4 (.cells #[.int .i64 0] 30 (0,0)) :: .own r3 (.cells #[.int .i64 ((j : Int) + 1)] 3 (0,0)) :: .own r2 (.cells (List.toArray (bkC (stepB (preB is j) (.p x)) ⟨a2,cap2,A.ma,A.mc⟩)) 27 (0,0)) :: (sm ++ (sf ++ H))) ⟨hj2,⟨a2,cap2,A.ma,A.mc⟩,sf,sm,by rw [hP,hK];rfl,by rw [hP];exact hs,by rw [hP];exact hsm⟩
     simp only [List.cons_append,List.append_assoc] at hg
     exact At.endRound 2 (.inl ⟨rfl,rfl⟩) Z Z Z (wk hg)
   | m x =>
    obtain ⟨ho1,ho2⟩ := hor
    change lastK is j ≤ 2 at ho1
    have ej : j ≠ 0 := fun e => by have := ho2.2 e;simp [kindI] at this
    simp only [ifV]
    have stop46 := trivial
    refine Aa Z Z Z Z Z O ?_;refine Ab (At.seq ?_);refine Aw hmix [] rfl ?_;refine Ac 0 Z Z Z Z Z Z Z O ?_;refine Pool.inv 1 Z Z Z Z Z Z Z Z Z (fun H hs => s228 L H) ?_;refine Aj 2 2 Z Z Z Z Z Z Z Z Z Z Z ?_;refine Bb 3 Z Z Z Z Z Z Z fun b28 h28 => ?_;refine Ac 4 Z Z Z Z Z Z Z O ?_
    obtain rfl : b28 = true := h28.symm.trans (decide_eq_true (by omega))
    refine Ac 5 Z Z Z Z Z Z Z O ?_;refine Pool.inv 6 Z Z Z Z Z Z Z Z Z (fun H hs => s228 L H) ?_;refine Bb 7 Z Z Z Z Z Z Z fun b32 h32 => ?_;refine Aj 4 8 Z Z Z Z Z Z Z Z Z Z Z ?_;refine Bb 9 Z Z Z Z Z Z Z fun b34 h34 => ?_;refine Pool.qb 10 Z Z Z Z Z (q_eqlB Z Z Z) rfl fun b35 h35 => ?_;refine Ac 11 Z Z Z Z Z Z Z O ?_
    clear stop46
    obtain rfl : b35 = true := by rw [← h35,← h34,← h32];first | (simp;done) | (simp;omega)
    refine Ap 12 Z Z Z Z Z Z Z Z Z (fun H_ hs_ => s46 L H_) ?_;refine pool_done Z Z ?_;refine Ab (At.seq (At.region ?_));refine Aa Z Z Z Z Z O ?_;refine At.invq Z Z Z Z Z Z Z Z (s228 L _) ?_;refine Ag 2 Z Z Z Z Z Z Z Z Z Z Z Z ?_;refine Ab (At.seq (At.region ?_));refine Aa Z Z Z Z Z O ?_;refine Ab ?_;refine At.block ?_;refine At.seq (At.region ?_)
    refine Ae Z Z Z Z (q_taN Z Z Z tf104) ?_;(iterate 2 refine Aa Z Z Z Z Z O ?_);refine Ab ?_;refine At.cond Z ?_;refine At.seq (At.region ?_);refine Ae Z Z Z Z (q_taN Z Z Z tf105) ?_;(iterate 2 refine Aa Z Z Z Z Z O ?_);refine Ab ?_;refine At.cond Z ?_;refine At.seq (At.region ?_);refine Ae Z Z Z Z (q_taY Z Z) ?_;(iterate 2 refine Aa Z Z Z Z Z O ?_)
    refine Ab ?_;refine At.cond Z ?_;refine At.seq (At.region ?_);refine Al Z Z Z Z Z fun r10 => ?_;refine Ag 0 Z Z Z Z Z Z Z Z Z Z Z Z ?_;refine Ab (At.region ?_);refine Ah 4 Z Z Z Z Z Z Z ?_;refine Af 6 Z Z Z Z Z Z Z Z Z ?_;refine Af 0 Z Z Z Z Z Z Z Z Z ?_
    (refine At.l Z Z Z Z (l_buildSlice Z Z Z Z Z) ?_;rintro _ _ ⟨r65,rfl,rfl⟩)
    refine At.push (x := x) 0 8 Z Z Z Z Z Z Z Z Z Z Z Z Z Z hsm Z Z Z ?_ fun v sf hs => ?_
    ·omega
    ·obtain ⟨a2,cap2,rfl⟩ := hs.slice
     refine Ah 4 Z Z Z Z Z Z Z ?_;refine Ag 7 Z Z Z Z Z Z Z Z Z Z Z Z ?_;refine Ab ?_;(iterate 2 refine At.inBlock ?_)
     have hg := hgo (.own r5 (.cells #[.int .i64 2] 3 (0,0)) :: .own r4 (.cells #[.int .i64 0] 30 (0,0)) :: .own r3 (.cells #[.int .i64 ((j : Int) + 1)] 3 (0,0)) :: .own r2 (.cells (List.toArray (bkC (stepB (preB is j) (.m x)) ⟨A.pa,A.pc,a2,cap2⟩)) 27 (0,0)) :: (sf ++ (sp ++ H))) ⟨hj2,⟨A.pa,A.pc,a2,cap2⟩,sp,sf,by rw [hP,hK];rfl,by rw [hP];exact hsp,by rw [hP];exact hs⟩
     simp only [List.cons_append,List.append_assoc] at hg
     exact At.endRound 2 (.inl ⟨rfl,rfl⟩) Z Z Z (wk hg)
  ·have hb := hbd _ ⟨hlt,preB is is.length,A,rfl⟩
   simp only [List.cons_append,List.append_assoc] at hb
   by_cases hex : ∃ it,LineIs (cutE w) it
   ·obtain ⟨it,hit⟩ := hex
    have hno := hL.bad _ hwc it hit
    refine Ai Z Z Z Z Z Z Z Z (s44w L _ ht.a hit hcl) ?_
    cases it with
    | c n lo hi =>
     have hno' : ¬ (lastK is is.length ≤ 0 ∧ is.length = 0) := fun h => hno ⟨h.1,fun _ => h.2,fun _ => rfl⟩
     simp only [ifV]
     by_cases ho1 : lastK is is.length ≤ 0
     ·have stop46 := trivial
      refine Aa Z Z Z Z Z O ?_;refine Ab (At.seq ?_);refine Aw hmix [] rfl ?_;refine Ac 0 Z Z Z Z Z Z Z O ?_;refine Pool.inv 1 Z Z Z Z Z Z Z Z Z (fun H hs => s226 L H) ?_;refine Aj 2 2 Z Z Z Z Z Z Z Z Z Z Z ?_;refine Bb 3 Z Z Z Z Z Z Z fun b28 h28 => ?_;refine Ac 4 Z Z Z Z Z Z Z O ?_
      obtain rfl : b28 = true := h28.symm.trans (decide_eq_true (by omega))
      refine Ac 5 Z Z Z Z Z Z Z O ?_;refine Pool.inv 6 Z Z Z Z Z Z Z Z Z (fun H hs => s226 L H) ?_;refine Bb 7 Z Z Z Z Z Z Z fun b32 h32 => ?_;refine Aj 4 8 Z Z Z Z Z Z Z Z Z Z Z ?_;refine Bb 9 Z Z Z Z Z Z Z fun b34 h34 => ?_;refine Pool.qb 10 Z Z Z Z Z (q_eqlB Z Z Z) rfl fun b35 h35 => ?_;refine Ac 11 Z Z Z Z Z Z Z O ?_
      clear stop46
      obtain rfl : b35 = false := by rw [← h35,← h34,← h32];first | (simp;done) | (simp;omega)
      refine Pool.boom [12] 12 Z Z Z Z Z fun l hl => ?_
      obtain rfl : l = 12 := by simpa using hl
      exact loud_b Z Z Z Z Z Z Z Z (fun H' _ => b46 L H') (wk hb)
     ·have stop46 := trivial
      refine Aa Z Z Z Z Z O ?_;refine Ab (At.seq ?_);refine Aw hmix [] rfl ?_;refine Ac 0 Z Z Z Z Z Z Z O ?_;refine Pool.inv 1 Z Z Z Z Z Z Z Z Z (fun H hs => s226 L H) ?_;refine Aj 2 2 Z Z Z Z Z Z Z Z Z Z Z ?_;refine Bb 3 Z Z Z Z Z Z Z fun b28 h28 => ?_;refine Ac 4 Z Z Z Z Z Z Z O ?_
      obtain rfl : b28 = false := h28.symm.trans (decide_eq_false (by omega))
      refine Av 5 Z Z Z Z Z Z ?_;refine Av 6 Z Z Z Z Z Z ?_;refine Av 7 Z Z Z Z Z Z ?_;refine Av 8 Z Z Z Z Z Z ?_;refine Av 9 Z Z Z Z Z Z ?_;refine Av 10 Z Z Z Z Z Z ?_;refine Ac 11 Z Z Z Z Z Z Z O ?_
      clear stop46
      refine Pool.boom [12] 12 Z Z Z Z Z fun l hl => ?_
      obtain rfl : l = 12 := by simpa using hl
      exact loud_b Z Z Z Z Z Z Z Z (fun H' _ => b46 L H') (wk hb)
    | p x =>
     have hno' : ¬ (lastK is is.length ≤ 1 ∧ is.length ≠ 0) := fun h => hno ⟨h.1,fun e => by simp [kindI] at e,fun e => absurd e h.2⟩
     simp only [ifV]
     by_cases ho1 : lastK is is.length ≤ 1
     ·have stop46 := trivial
      refine Aa Z Z Z Z Z O ?_;refine Ab (At.seq ?_);refine Aw hmix [] rfl ?_;refine Ac 0 Z Z Z Z Z Z Z O ?_;refine Pool.inv 1 Z Z Z Z Z Z Z Z Z (fun H hs => s227 L H) ?_;refine Aj 2 2 Z Z Z Z Z Z Z Z Z Z Z ?_;refine Bb 3 Z Z Z Z Z Z Z fun b28 h28 => ?_;refine Ac 4 Z Z Z Z Z Z Z O ?_
      obtain rfl : b28 = true := h28.symm.trans (decide_eq_true (by omega))
      refine Ac 5 Z Z Z Z Z Z Z O ?_;refine Pool.inv 6 Z Z Z Z Z Z Z Z Z (fun H hs => s227 L H) ?_;refine Bb 7 Z Z Z Z Z Z Z fun b32 h32 => ?_;refine Aj 4 8 Z Z Z Z Z Z Z Z Z Z Z ?_;refine Bb 9 Z Z Z Z Z Z Z fun b34 h34 => ?_;refine Pool.qb 10 Z Z Z Z Z (q_eqlB Z Z Z) rfl fun b35 h35 => ?_;refine Ac 11 Z Z Z Z Z Z Z O ?_
      clear stop46
      obtain rfl : b35 = false := by rw [← h35,← h34,← h32];first | (simp;done) | (simp;omega)
      refine Pool.boom [12] 12 Z Z Z Z Z fun l hl => ?_
      obtain rfl : l = 12 := by simpa using hl
      exact loud_b Z Z Z Z Z Z Z Z (fun H' _ => b46 L H') (wk hb)
     ·have stop46 := trivial
      refine Aa Z Z Z Z Z O ?_;refine Ab (At.seq ?_);refine Aw hmix [] rfl ?_;refine Ac 0 Z Z Z Z Z Z Z O ?_;refine Pool.inv 1 Z Z Z Z Z Z Z Z Z (fun H hs => s227 L H) ?_;refine Aj 2 2 Z Z Z Z Z Z Z Z Z Z Z ?_;refine Bb 3 Z Z Z Z Z Z Z fun b28 h28 => ?_;refine Ac 4 Z Z Z Z Z Z Z O ?_
      obtain rfl : b28 = false := h28.symm.trans (decide_eq_false (by omega))
      refine Av 5 Z Z Z Z Z Z ?_;refine Av 6 Z Z Z Z Z Z ?_;refine Av 7 Z Z Z Z Z Z ?_;refine Av 8 Z Z Z Z Z Z ?_;refine Av 9 Z Z Z Z Z Z ?_;refine Av 10 Z Z Z Z Z Z ?_;refine Ac 11 Z Z Z Z Z Z Z O ?_
      clear stop46
      refine Pool.boom [12] 12 Z Z Z Z Z fun l hl => ?_
      obtain rfl : l = 12 := by simpa using hl
      exact loud_b Z Z Z Z Z Z Z Z (fun H' _ => b46 L H') (wk hb)
    | m x =>
     have hno' : ¬ (lastK is is.length ≤ 2 ∧ is.length ≠ 0) := fun h => hno ⟨h.1,fun e => by simp [kindI] at e,fun e => absurd e h.2⟩
     simp only [ifV]
     by_cases ho1 : lastK is is.length ≤ 2
     ·have stop46 := trivial
      refine Aa Z Z Z Z Z O ?_;refine Ab (At.seq ?_);refine Aw hmix [] rfl ?_;refine Ac 0 Z Z Z Z Z Z Z O ?_;refine Pool.inv 1 Z Z Z Z Z Z Z Z Z (fun H hs => s228 L H) ?_;refine Aj 2 2 Z Z Z Z Z Z Z Z Z Z Z ?_;refine Bb 3 Z Z Z Z Z Z Z fun b28 h28 => ?_;refine Ac 4 Z Z Z Z Z Z Z O ?_
      obtain rfl : b28 = true := h28.symm.trans (decide_eq_true (by omega))
      refine Ac 5 Z Z Z Z Z Z Z O ?_;refine Pool.inv 6 Z Z Z Z Z Z Z Z Z (fun H hs => s228 L H) ?_;refine Bb 7 Z Z Z Z Z Z Z fun b32 h32 => ?_;refine Aj 4 8 Z Z Z Z Z Z Z Z Z Z Z ?_;refine Bb 9 Z Z Z Z Z Z Z fun b34 h34 => ?_;refine Pool.qb 10 Z Z Z Z Z (q_eqlB Z Z Z) rfl fun b35 h35 => ?_;refine Ac 11 Z Z Z Z Z Z Z O ?_
      clear stop46
      obtain rfl : b35 = false := by rw [← h35,← h34,← h32];first | (simp;done) | (simp;omega)
      refine Pool.boom [12] 12 Z Z Z Z Z fun l hl => ?_
      obtain rfl : l = 12 := by simpa using hl
      exact loud_b Z Z Z Z Z Z Z Z (fun H' _ => b46 L H') (wk hb)
     ·have stop46 := trivial
      refine Aa Z Z Z Z Z O ?_;refine Ab (At.seq ?_);refine Aw hmix [] rfl ?_;refine Ac 0 Z Z Z Z Z Z Z O ?_;refine Pool.inv 1 Z Z Z Z Z Z Z Z Z (fun H hs => s228 L H) ?_;refine Aj 2 2 Z Z Z Z Z Z Z Z Z Z Z ?_;refine Bb 3 Z Z Z Z Z Z Z fun b28 h28 => ?_;refine Ac 4 Z Z Z Z Z Z Z O ?_
      obtain rfl : b28 = false := h28.symm.trans (decide_eq_false (by omega))
      refine Av 5 Z Z Z Z Z Z ?_;refine Av 6 Z Z Z Z Z Z ?_;refine Av 7 Z Z Z Z Z Z ?_;refine Av 8 Z Z Z Z Z Z ?_;refine Av 9 Z Z Z Z Z Z ?_;refine Av 10 Z Z Z Z Z Z ?_;refine Ac 11 Z Z Z Z Z Z Z O ?_
      clear stop46
      refine Pool.boom [12] 12 Z Z Z Z Z fun l hl => ?_
      obtain rfl : l = 12 := by simpa using hl
      exact loud_b Z Z Z Z Z Z Z Z (fun H' _ => b46 L H') (wk hb)
   ·refine At.callB Z Z Z Z Z Z Z Z (b44 L _ ht.a hcl hex) (wk hb)
 ·rintro tmps l r _ ⟨hk,A,sp,sm,rfl,hsp,hsm⟩
  rw [List.length_map] at hk hsp hsm ⊢
  have hie : is.length = ws.length := by omega
  have hpl := preB_len (is := is) (j := ws.length)
  by_cases h0 : ws.length = 0
  ·have ho : parM ws.length is = (bk0,(ws.length : Int),3) := by unfold parM;rw [if_neg (by omega),if_pos h0,h0];rfl
   have stop46 := trivial
   refine At.inBlock ?_;refine At.seq (At.region ?_);refine Af 4 Z Z Z Z Z Z Z Z Z ?_;refine Ad Z Z Z Z Z fun b69 h69 => ?_
   clear stop46
   obtain rfl : b69 = false := by rw [← h69];exact decide_eq_false (by omega)
   refine At.callR Z Z Z Z Z Z Z Z (b46 L _) fun tmps' hn' hE' => ?_
   exact wk (hcatch _ _ tmps' _ r r2 r3 r4 _ (preB is ws.length) A hn' hE' Z Z Z ho)
  have hnn : 0 < ws.length := by omega
  have stop46 := trivial
  refine At.inBlock ?_;refine At.seq (At.region ?_);refine Af 4 Z Z Z Z Z Z Z Z Z ?_;refine Ad Z Z Z Z Z fun b69 h69 => ?_
  clear stop46
  obtain rfl : b69 = true := by rw [← h69];simp;omega
  refine Ai Z Z Z Z Z Z Z Z (s46 L _) ?_
  have stop32 := trivial
  refine Ab (At.seq (At.seq (At.region ?_)));refine Af 5 Z Z Z Z Z Z Z Z Z ?_
  clear stop32
  have hsp' := hsp.rd.2.1
  have hsm' := hsm.rd.2.1
  refine Ai Z Z Z Z Z Z Z Z (s32 L _ (B := preB is ws.length) (A := A) hg.a ⟨hsp'.a,hsm'.a⟩ (by omega) (by omega)) ?_
  by_cases hbar : bookBar (preB is ws.length) = 0
  ·have ho : parM ws.length is = (preB is ws.length,0,0) := by unfold parM;rw [if_neg (by omega),if_neg (by omega),if_pos hbar]
   rw [ho] at hc
   rw [hbar]
   refine Aa Z Z Z Z Z O ?_;refine Ab (At.seq (At.region ?_));refine Aa Z Z Z Z Z O ?_;refine Ad Z Z Z Z Z fun b74 h74 => ?_;refine Ab ?_
   obtain rfl : b74 = false := h74.symm.trans (by kernel_rfl)
   refine At.cond Z ?_;refine At.skip (At.seq (At.region ?_));refine Af 5 Z Z Z Z Z Z Z Z Z ?_;refine Ag 5 Z Z Z Z Z Z Z Z Z Z Z Z ?_;refine Ag 4 Z Z Z Z Z Z Z Z Z Z Z Z ?_;refine Ag 3 Z Z Z Z Z Z Z Z Z Z Z Z ?_;refine Ab ?_
   refine At.retD 1 (rs := [.cell 2 27,.cell 3 3,.cell 4 30]) (vs := [bkV (preB is ws.length) A,.int .i64 0,.int .i64 0]) Tryz.func9 (.inr ⟨_,rfl⟩) Z Z Tryz.func42 (by simp [Tryz.f42];rfl) (by simp [Tryz.f42]) (fun c' cs' hc' hJ => ?_) (by simp [Tryz.f9]) (ResVs.aggJ 5 Z Z Z (ResVs.oneJ 4 Z Z Z (ResVs.oneJ 3 Z Z Z .nil))) ?_
   ·refine At.seq ?_
    refine At.region ?_;refine At.recover hc' Z Z Z Z Z ?_;refine Ab ?_;refine At.block ?_;refine At.seq (At.region ?_);refine Ae Z Z Z Z (q_nilEq Z Z) ?_;refine Ab ?_;refine At.cond Z ?_;refine At.region ?_;refine Aa Z Z Z Z Z O ?_;refine Ab ?_;refine At.inBlock ?_
    refine At.lateEnd hc' Tryz.func42 (by simp [Tryz.f42]) (.inl rfl) hJ
   ·refine L.weak _ _ _ ?_ (hc _ _ ⟨sm ++ sp,⟨A,rfl,sp,sm,rfl,hsp,hsm⟩,rfl⟩)
    rw [List.append_assoc]
    exact ((((((Sub.refl _).drop _).drop _).drop _).drop _).drop _).drop _
  ·have ho : parM ws.length is = (bk0,0,bookBar (preB is ws.length)) := by unfold parM;rw [if_neg (by omega),if_neg (by omega),if_neg hbar]
   rw [ho] at hc
   refine Aa Z Z Z Z Z O ?_;refine Ab (At.seq (At.region ?_));refine Aa Z Z Z Z Z O ?_;refine Ad Z Z Z Z Z fun b74 h74 => ?_;refine Ab ?_
   obtain rfl : b74 = true := h74.symm.trans (decide_eq_true (by omega))
   refine At.cond Z ?_;refine At.seq (At.region ?_);refine Ae Z Z Z Z (q_build Z Z Z) ?_;refine Aa Z Z Z Z Z O ?_;refine Ag 5 Z Z Z Z Z Z Z Z Z Z Z Z ?_;refine Ag 4 Z Z Z Z Z Z Z Z Z Z Z Z ?_;refine Ag 3 Z Z Z Z Z Z Z Z Z Z Z Z ?_;refine Ab ?_
   refine At.retD 1 (rs := [.cell 2 27,.cell 3 3,.cell 4 30]) (vs := [bkV bk0 ⟨none,0,none,0⟩,.int .i64 0,.int .i64 (bookBar (preB is ws.length))]) Tryz.func9 (.inr ⟨_,rfl⟩) Z Z Tryz.func42 (by simp [Tryz.f42];rfl) (by simp [Tryz.f42]) (fun c' cs' hc' hJ => ?_) (by simp [Tryz.f9]) (ResVs.aggJ 5 Z Z Z (ResVs.oneJ 4 Z Z Z (ResVs.oneJ 3 Z Z Z .nil))) ?_
   ·refine At.seq ?_
    refine At.region ?_;refine At.recover hc' Z Z Z Z Z ?_;refine Ab ?_;refine At.block ?_;refine At.seq (At.region ?_);refine Ae Z Z Z Z (q_nilEq Z Z) ?_;refine Ab ?_;refine At.cond Z ?_;refine At.region ?_;refine Aa Z Z Z Z Z O ?_;refine Ab ?_;refine At.inBlock ?_
    refine At.lateEnd hc' Tryz.func42 (by simp [Tryz.f42]) (.inl rfl) hJ
   ·exact wk (hc _ _ ⟨[],⟨⟨none,0,none,0⟩,rfl,⟨[],[],rfl,Sl.nil,Sl.nil⟩⟩,rfl⟩)
 ·rintro tmps todo r _ hn hE ⟨hlt,B,A,rfl⟩
  exact hcatch _ _ tmps todo r r2 r3 r4 _ B A hn hE Z Z Z (by unfold parM;rw [if_pos hlt])
end Go.Gx
end
section
namespace Go.Gx
open Go Go.Conc Go.Proofs
set_option maxRecDepth 100000 in
theorem s7z {main : Bool} (L : Lg Tryz.prog main) (H : Facts) (hg : Cells H 1 0 chkC) {B : Bk} {A : BkA} (hB : BkR H B A) (hl : B.prof.length ≤ 100000) (hm : B.marks.length ≤ 100000) (hz : bookBar B ≠ 0) : Pure L 7 #[bkV B A] H (.tuple #[.string (S []),.int .i64 (bookBar B)]) := by
 refine Spec.enter Tryz.func7 rfl (by simp [Tryz.f7]) fun c cs hc => ?_
 have stop32 := trivial
 refine At.seq (At.region ?_);refine An Z Z Z Z Z Z Z fun r1 => ?_;(iterate 2 refine Aa Z Z Z Z Z O ?_);refine Ab (At.seq (At.seq (At.region ?_)));refine Af 0 Z Z Z Z Z Z Z Z Z ?_
 clear stop32
 refine Ai Z Z Z Z Z Z Z Z (s32 L _ (B := B) (A := A) hg.a hB.a hl hm) ?_;refine Aa Z Z Z Z Z O ?_;refine Ab (At.seq (At.region ?_));refine Aa Z Z Z Z Z O ?_;refine Ad Z Z Z Z Z fun b15 h15 => ?_;refine Ab ?_
 obtain rfl : b15 = true := h15.symm.trans (decide_eq_true (by omega))
 refine At.cond Z ?_;refine At.seq (At.region ?_);(iterate 3 refine Aa Z Z Z Z Z O ?_);refine Ab ?_
 exact At.ret Tryz.func7 (.inr ⟨_,rfl⟩) rfl (.tmp rfl (.tmp rfl .nil)) (wk (hc _ _ (⟨by rfl,rfl⟩)))
end Go.Gx
end
section
namespace Go.Gx
open Go Go.Conc Go.Proofs
variable {main : Bool}
theorem parM_len {m : Nat} {is : List LI} : (parM m is).1.prof.length ≤ m ∧ (parM m is).1.marks.length ≤ m := by
 have h0 : bk0.prof.length ≤ m ∧ bk0.marks.length ≤ m := ⟨by simp [bk0],by simp [bk0]⟩
 unfold parM
 split
 ·exact h0
 split
 ·exact h0
 split
 ·exact preB_len
 ·exact h0
set_option maxRecDepth 100000 in
set_option maxHeartbeats 1000000 in
theorem law3 {Post : Value → World → Prop} {W₀ : World} {H Hg : Facts} (hG : Glo H Hg) (ht : TabT H) (hten : Cells H 4 0 tenC) {B : Bk} {A : BkA} (hBk : BkR H B A) {w : List UInt8} :
  LawAt (mainLg Tryz.prog Post W₀ [] []) 3 #[bkV B A,.string (S w)] H (.bool true) := by
 refine LawAt.enter Tryz.func3 rfl (by simp [Tryz.f3]) fun cs hLB => ?_
 generalize hL : mainLg Tryz.prog Post W₀ [] [] = L at hLB ⊢
 have stop6 := trivial
 refine At.seq (At.region ?_);refine An Z Z Z Z Z Z Z fun r2 => ?_;refine Aa Z Z Z Z Z O ?_;refine Ab (At.seq (At.seq (At.region ?_)));refine Af 0 Z Z Z Z Z Z Z Z Z ?_;refine Bc Z Z Z Z Z Z Z Z (s5 L _) fun b14 h14 => ?_;refine Aa Z Z Z Z Z O ?_
 cases b14
 rotate_left
 ·refine Ar Z Z Z Z ?_
  (iterate 2 refine Ar Z Z Z Z ?_);refine Aa Z Z Z Z Z O ?_;refine Ab ?_;refine At.cond Z ?_;refine At.seq (At.region ?_)
  clear stop6
  subst hL
  refine Ai Z Z Z Z Z Z Z Z (s6 hG.a) ?_;refine Aa Z Z Z Z Z O ?_;refine Ab ?_
  exact hLB Tryz.func3 (.inr ⟨_,rfl⟩) rfl (.tmp rfl .nil) (⟨by rfl,rfl⟩)
 have hl : B.prof.length ≤ 20 ∧ B.marks.length ≤ 20 := by simp at h14;omega
 refine Aa Z Z Z Z Z O ?_;refine Ae Z Z Z Z (q_lenSS Z Z Z Z) ?_;refine Ad Z Z Z Z Z fun b18 h18 => ?_;refine Aa Z Z Z Z Z O ?_;refine Ab ?_
 cases b18
 rotate_left
 ·refine At.cond Z ?_
  refine At.seq (At.region ?_)
  clear stop6
  subst hL
  refine Ai Z Z Z Z Z Z Z Z (s6 hG.a) ?_;refine Aa Z Z Z Z Z O ?_;refine Ab ?_
  exact hLB Tryz.func3 (.inr ⟨_,rfl⟩) rfl (.tmp rfl .nil) (⟨by rfl,rfl⟩)
 have hw : w.length ≤ 2000 := by have := of_decide_eq_false h18;omega
 have hg : Cells H 1 0 chkC := hG.g.a hG.sub
 obtain ⟨t,bar,h7,h8⟩ : ∃ (t : List UInt8) (bar : Int),(∀ H',Sub H H' → Pure L 7 #[bkV B A] H' (.tuple #[.string (S t),.int .i64 bar])) ∧ ∀ H',Sub H H' → Pure L 8 #[bkV B A] H' (.tuple #[.string (S t),.int .i64 bar]) := by
  by_cases hz : bookBar B = 0
  ·exact ⟨_,_,fun H' hs => s7 L H' (hg.a hs) (ht.a hs) (hten.a hs) (hBk.a hs) hz,fun H' hs => s8 L H' (hBk.a hs) hz⟩
  ·exact ⟨_,_,fun H' hs => s7z L H' (hg.a hs) (hBk.a hs) (by omega) (by omega) hz,fun H' hs => s8z L H' (hBk.a hs) (by omega) (by omega) hz⟩
 obtain ⟨fs,rfl,hf,hp⟩ := joinB_split (b := 10) w
 obtain ⟨k1,k2,k3⟩ := lines_ok hf
 obtain ⟨is,hLn⟩ := lns_ex (rowsL fs)
 have hrl := rows_len hp
 have hfl := joinB_len (b := 10) (fs := fs)
 have hlen : (linesOf fs).length = (rowsL fs).length := by rw [← k3,List.length_map]
 have h9 := fun (H' : Facts) (h1 : Cells H' 1 0 chkC) (h2 : TabT H') => s9p L H' (ws := linesOf fs) (is := is) k1 (by rw [k2];omega) (by rw [k3];exact hLn) h1 h2
 rw [k2,hlen] at h9
 have hpl := parM_len (m := (rowsL fs).length) (is := is)
 have hsm : ∀ X : Bk,sameM X X = true := fun X => decide_eq_true ⟨rfl,⟨rfl,rfl⟩,rfl,rfl⟩
 have h10 := fun (H' : Facts) => s10 L H' (is := is) hf hp (by omega) hLn
 generalize parM (rowsL fs).length is = Q at h9 h10 hpl
 have stop7 := trivial
 refine At.cond Z ?_;refine At.skip (At.seq (At.region ?_));refine Af 0 Z Z Z Z Z Z Z Z Z ?_
 clear stop7
 refine Ai Z Z Z Z Z Z Z Z (h7 _ ((Sub.refl _).drop _)) ?_
 have stop8 := trivial
 (iterate 5 refine Aa Z Z Z Z Z O ?_);refine Ab (At.seq (At.region ?_));refine Af 0 Z Z Z Z Z Z Z Z Z ?_
 clear stop8
 refine Ai Z Z Z Z Z Z Z Z (h8 _ ((Sub.refl _).drop _)) ?_
 have stop9 := trivial
 (iterate 5 refine Aa Z Z Z Z Z O ?_);refine Ab (At.seq (At.seq (At.region ?_)));(iterate 2 refine Aa Z Z Z Z Z O ?_);refine At.qb Z Z Z Z (q_strNeS Z Z Z) fun b33 h33 => ?_;refine Aa Z Z Z Z Z O ?_
 obtain rfl : b33 = false := h33.symm.trans (by simp)
 (iterate 2 refine Aa Z Z Z Z Z O ?_);refine Ad Z Z Z Z Z fun b37 h37 => ?_;refine Aa Z Z Z Z Z O ?_;refine Ab ?_
 obtain rfl : b37 = false := h37.symm.trans (by simp)
 refine At.cond Z ?_;refine At.skip (At.seq (At.region ?_));refine Aa Z Z Z Z Z O ?_
 clear stop9
 refine Ay Z Z Z Z Z Z Z Z (h9 _ hg.a ht.a) ?_
 rintro _ _ ⟨sf1,⟨A1,rfl,hO1⟩,rfl⟩
 refine At.back ?_
 have hr1 := hO1.r
 have stop10 := trivial
 (iterate 4 refine Aa Z Z Z Z Z O ?_);refine Al Z Z Z Z Z fun r9 => ?_;refine Ag 0 Z Z Z Z Z Z Z Z Z Z Z Z ?_;(iterate 2 refine Aa Z Z Z Z Z O ?_);refine Ab (At.seq (At.region ?_));refine Aa Z Z Z Z Z O ?_
 clear stop10
 refine Ay Z Z Z Z Z Z Z Z (h10 _) ?_
 rintro _ _ ⟨sf2,⟨A2,rfl,hr2⟩,rfl⟩
 refine At.back ?_
 have stop11 := trivial
 (iterate 4 refine Aa Z Z Z Z Z O ?_);refine Al Z Z Z Z Z fun r11 => ?_;refine Ag 0 Z Z Z Z Z Z Z Z Z Z Z Z ?_;(iterate 2 refine Aa Z Z Z Z Z O ?_);refine Ab (At.seq (At.region ?_));refine Af 1 Z Z Z Z Z Z Z Z Z ?_;refine Af 0 Z Z Z Z Z Z Z Z Z ?_
 clear stop11
 refine Ai Z Z Z Z Z Z Z Z (s11 L _ (B := Q.1) (C := Q.1) hr1.a hr2.a (by omega) (by omega)) ?_
 rw [hsm]
 (iterate 3 refine Aa Z Z Z Z Z O ?_);refine Ad Z Z Z Z Z fun b57 h57 => ?_;(iterate 2 refine Aa Z Z Z Z Z O ?_)
 obtain rfl : b57 = true := h57.symm.trans (by simp)
 (iterate 2 refine Aa Z Z Z Z Z O ?_);refine Ad Z Z Z Z Z fun b62 h62 => ?_;(iterate 2 refine Aa Z Z Z Z Z O ?_)
 obtain rfl : b62 = true := h62.symm.trans (by simp)
 clear stop6
 subst hL
 refine Ai Z Z Z Z Z Z Z Z (s6 hG.a) ?_;(iterate 2 refine Aa Z Z Z Z Z O ?_);refine Ab ?_
 exact hLB Tryz.func3 (.inr ⟨_,rfl⟩) rfl (.tmp rfl .nil) (⟨by rfl,rfl⟩)
end Go.Gx
end
section
namespace Go.Gx
open Go Go.Conc Go.Proofs Go.ChangeShapes Go.RowKit YtjdpbechehdefaaGreatDoor
set_option maxRecDepth 100000
theorem ip3 : Tryz.prog.inPlace 3 = ["internal/abi.NoEscape", "internal/bytealg.MakeNoZero", "internal/bytealg.IndexByteString", "internal/bytealg.CountString", "internal/bytealg.IndexString"] := by kernel_rfl
theorem uf3 : Tryz.prog.unfollowed 3 = true := by kernel_rfl
theorem rc3 : Tryz.prog.recurses 3 = true := by kernel_rfl
theorem vn3 : Tryz.prog.varsNamed 3 = ["velarium/canvas.checks", "velarium/canvas.words", "internal/strconv.uint64pow10", "math/bits.deBruijn32tab", "math/bits.deBruijn64tab", "velarium/canvas.fields", "unicode/utf8.first", "unicode/utf8.acceptRanges", "internal/bytealg.MaxLen", "strconv.ErrSyntax", "strconv.ErrRange"] := by kernel_rfl
theorem closed3 : joinedFacts Tryz.prog 3 Tryz.f3 Rows.canvasTextsSpec Rows.canvasTextsRow = true := by
 unfold joinedFacts
 rewrite [ip3,uf3,rc3,vn3,enter1,lf1,make1]
 kernel_rfl
theorem fnm3 : Tryz.prog.funcNamed "velarium/velariumlaw02.CanvasTexts" = some 3 := by kernel_rfl
theorem inst3 : Tryz.f3.isInstance Tryz.prog Rows.canvasTextsRow.origin Rows.canvasTextsRow.targs := of_decide_eq_true (by kernel_rfl)
theorem wrap3 : Tryz.f3.isWrapper Tryz.prog Rows.canvasTextsRow.wrapper Rows.canvasTextsRow.mainSum := by unfold Func.isWrapper;first | (rw [if_pos (by decide +kernel)];kernel_rfl) | (rw [if_neg (by decide +kernel)];exact ⟨rfl,rfl⟩)
theorem goes3 : Tryz.prog.goes 3 = true := by kernel_rfl
theorem wbt3 : Rows.canvasTextsRow.wfByText (OpenSpec.ofChange Rows.canvasTextsSpec) = true := by kernel_rfl
theorem wants3 : (Tryz.f3.params.toList.all fun t => !Tryz.prog.wantsStandIn t) = true := by kernel_rfl
theorem lifted3 (os : Os) (started : os.Started) (H : Type) (enc : TypeId × Value → H) :
  ReturnsInLeavingWide {} Tryz.checked os 3 .any (fun w args => (Rows.canvasTextsSpec.pre enc Tryz.prog Tryz.f3 [] false w args ∧ laidMetH Tryz.prog laid1 w) ∧ sizedMet enc Tryz.prog Tryz.f3 (OpenSpec.ofChange Rows.canvasTextsSpec) false w args) (Rows.canvasTextsSpec.post enc Tryz.prog Tryz.f3 false true false false) := by
 refine law_lift Tryz.func3 (by kernel_rfl) Z Z (by kernel_rfl) os started H enc #[.agg #[.slice none 0 0,.int .i64 0,.int .i64 0,.int .i64 0,.slice none 0 0],.string ⟨⟨[]⟩⟩]
  (World.shaped_of_RefB (by kernel_rfl) (by kernel_rfl)) (by kernel_rfl) (by kernel_rfl) (by kernel_rfl) ?_
 intro W base args ds ps hval hA
 rw [Tryz.params3] at hval hA
 obtain ⟨v0,vs0,d0,ds0,p0,q0,e0,rfl,rfl,h0,hA⟩ := trodAll_cons hA
 obtain ⟨v1,vs1,d1,ds1,p1,q1,rfl,rfl,rfl,h1,hA⟩ := trodAll_cons hA
 obtain ⟨rfl,rfl,rfl⟩ := trodAll_nil hA
 obtain rfl : args = #[v0,v1] := Array.toList_inj.1 e0
 obtain ⟨B0,A0,Hs0,rfl,hsh0,hb0⟩ := open_book (hval 0 27 _ rfl rfl) h0
 obtain ⟨⟨⟨t1⟩⟩,rfl,rfl,rfl,_⟩ := Go.ChangeMaps.open_string Tryz.underlying9 (hval 1 9 _ rfl rfl) h1
 exact ⟨rfl,Hs0,hsh0,fun Post => law3 hsh0.glo gF_tab gF_ten (hb0.a (Sub.append_left _ _))⟩
theorem said3 : Rows.CanvasTextsSaid :=
 OpenClaim.holds_of_wide_leaving 3 Tryz.f3 Z Z Z Z Z Z Z ⟨rfl,rfl,rfl,rfl,rfl⟩ Z Z Z Z Z fnm3 Tryz.func3 closed3 inst3 wrap3
  (fun os started H enc _ => lifted3 os started H enc)
theorem card3 : Rows.CanvasTextsCardSaid :=
 ⟨Claim7.tied_new_at .later [.data,.data,.data,.data,.sentinel,.sentinel,.funcs,.widerDeep,.data,.pinned] true (Claim7.new_of_sixth said3 (true, "6f5fab8f146c3b006fcff913dd8a76894c1ddc88f30dac22ecc6b1ceefdab24b") true rfl ⟨rfl,rfl⟩ mi1 rfl
  (fun f fn hf hfn => by
   obtain rfl : f = 3 := Option.some.inj (hf.symm.trans fnm3)
   obtain rfl : fn = Tryz.f3 := Option.some.inj (hfn.symm.trans Tryz.func3)
   exact ⟨looks1.symm,wants_of wants3⟩)) wbt3,(fun _ h => by cases h),canvasTexts_row_tie,(fun h => by cases h),goes_of fnm3 goes3⟩
end Go.Gx
namespace Go.Proofs.YtjdpbechehdefaaGreatDoor
theorem canvasTexts_card : Rows.CanvasTextsCardSaid := Go.Gx.card3
#print axioms canvasTexts_card
end Go.Proofs.YtjdpbechehdefaaGreatDoor
end
