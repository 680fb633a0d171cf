/-
  CanvasTexts: the logic of the walk, the contracts of the program's functions, the plain law and the card.
-/
import Derived.Test.YtjdpbechehdefaaGreatDoorU3x4
import Derived.KernelRfl
set_option linter.unusedSimpArgs false
set_option linter.unusedVariables false
section
namespace Go.Gx
open Go Go.Conc Go.Proofs
theorem Pure.grows {P : Program} {main : Bool} {L : Lg P main} {g : FuncId} {args : Array Value} {H : Facts} {v : Value} (h : Pure L g args H v) : Grows L g args H (fun u sf => u = v ∧ sf = []) :=
 Spec.mono h fun u H' ⟨e,e'⟩ => ⟨[],⟨e,rfl⟩,by rw [e'];rfl⟩
def fallsM (B : Bk) (s : R2) (row : Int) : Int := wordM (statesM B).length (((rowsOf B s).count row : Nat) : Int)
set_option maxRecDepth 100000 in
set_option maxHeartbeats 4000000 in
theorem s26 {Post : Value → World → Prop} {W₀ : World} {H Hs : Facts} {B : Bk} {A : BkA} {s : R2} {row : Int} (hO : OpS H Hs B A) :
  Pure (mainLg Tryz.prog Post W₀ [] []) 26 #[bkV B A,rV s,.int .i64 row] H (.tuple #[.int .i64 (if knownBar B [slopeBar s.1 s.2,hBar row] ≠ 0 then 0 else fallsM B s row),.int .i64 (knownBar B [slopeBar s.1 s.2,hBar row])]) := by
 refine Spec.enter Tryz.func26 rfl (by simp [Tryz.f26]) fun c cs hc => ?_
 generalize hL : mainLg Tryz.prog Post W₀ [] [] = L at hc ⊢
 have hOp := hO.opn
 generalize hk : knownBar B [slopeBar s.1 s.2,hBar row] = r at hc
 by_cases hr : r = 0
 ·subst hr
  obtain ⟨hz,hf,h0⟩ := knownBar_pos hk
  simp only [ne_eq,not_true_eq_false,if_false] at hc
  have hsl := slOk_of s (by
   rw [firstBar2] at hf
   by_cases h : slopeBar s.1 s.2 = 0
   ·exact h
   ·rw [if_pos h] at hf;exact hf)
  have hl3 := rowsOf_len hz s
  refine At.seq (At.region ?_);refine An Z Z Z Z Z Z Z fun r3 => ?_;refine An Z Z Z Z Z Z Z fun r4 => ?_;(iterate 2 refine Aa Z Z Z Z Z O ?_);refine Ab (At.seq (At.region ?_));refine Af 0 Z Z Z Z Z Z Z Z Z ?_;refine Aa Z Z Z Z Z O ?_;refine Ae Z Z Z Z (q_build Z Z Z) ?_;refine Al Z Z Z Z Z fun r8 => ?_
  refine Ag 0 Z Z Z Z Z Z Z Z Z Z Z Z ?_;refine Ab (At.seq (At.region ?_));refine Af 2 Z Z Z Z Z Z Z Z Z ?_;refine Af 0 Z Z Z Z Z Z Z Z Z ?_;refine Aa Z Z Z Z Z O ?_;refine Af 0 Z Z Z Z Z Z Z Z Z ?_;refine Aa Z Z Z Z Z O ?_
  (refine At.l Z Z Z Z (l_buildSlice Z Z Z Z Z) ?_;rintro _ _ ⟨r20,rfl,rfl⟩)
  refine Ay Z Z Z Z Z Z Z Z (s74z L _ (fs := [_,_]) hOp.a hz hf (by omega) rfl (rd_own 0 Z Z) (bars_lookSR L s row _) (by simp)) ?_
  rintro _ _ ⟨sf,⟨a,cap,rfl,hst⟩,rfl⟩
  obtain ⟨b,cap',rest,e1,rfl⟩ := hst.pos h0
  cases e1
  refine At.share ?_;(iterate 3 refine Aa Z Z Z Z Z O ?_);refine Al Z Z Z Z Z fun r9 => ?_;refine Ag 0 Z Z Z Z Z Z Z Z Z Z Z Z ?_;refine Aa Z Z Z Z Z O ?_;refine Ab (At.seq (At.seq (At.region ?_)));refine Aa Z Z Z Z Z O ?_;refine Ad Z Z Z Z Z fun b25 h25 => ?_;refine Ab ?_
  have e : b25 = false := by rw [← h25];rfl
  subst e
  refine At.cond Z ?_;refine At.skip (At.seq ?_);refine Bd hmix (_) sb ?_;refine Aj 0 0 Z Z Z Z Z Z Z Z Z Z Z ?_;refine Aj 0 1 Z Z Z Z Z Z Z Z Z Z Z ?_;refine Aj 4 2 Z Z Z Z Z Z Z Z Z Z Z ?_;refine Ac 4 Z Z Z Z Z Z Z O ?_
  subst hL
  refine Pool.cl 3 Z Z Z Z Z Z Z Z Z Z Z Z Z Z (fun H_ hs_ => s75 (H := H_) (hO.kn (rest := rest) hz h0 ((((((Sub.refl _).drop _).drop _).drop _).drop _).cons _ |>.drop _ |>.trans hs_)) rfl hsl) sb ?_
  intro v sl (hsl2 : Sl c1 3 v (rowsOf B s) sl)
  obtain ⟨a2,cap2,rfl⟩ := hsl2.slice
  obtain ⟨_,hrl,_⟩ := hsl2.rd
  generalize hL : mainLg Tryz.prog Post W₀ [] [] = L at hc ⊢
  have stop79 := trivial
  refine Ac 8 Z Z Z Z Z Z Z O ?_
  clear stop79
  refine Pool.cl 5 Z Z Z Z Z Z Z Z Z Z Z Z Z Z (fun H_ hs_ => (s79 L H_ (xs := rowsOf B s) rfl (hrl.more ((Sub.pre _ _).trans hs_)) (by omega)).grows) sb ?_
  rintro _ _ ⟨rfl,rfl⟩
  refine Ap 6 Z Z Z Z Z Z Z Z Z (fun H hs => s78 L H) ?_;refine Ac 7 Z Z Z Z Z Z Z O ?_;refine pool_done Z Z ?_;refine Ab ?_
  exact At.ret Tryz.func26 (.inr ⟨_,rfl⟩) rfl (.tmp rfl (.tmp rfl .nil)) (wk (hc _ _ (⟨rfl,rfl⟩)))
 ·simp only [if_pos hr] at hc
  refine At.seq (At.region ?_);refine An Z Z Z Z Z Z Z fun r3 => ?_;refine An Z Z Z Z Z Z Z fun r4 => ?_;(iterate 2 refine Aa Z Z Z Z Z O ?_);refine Ab (At.seq (At.region ?_));refine Af 0 Z Z Z Z Z Z Z Z Z ?_;refine Aa Z Z Z Z Z O ?_;refine Ae Z Z Z Z (q_build Z Z Z) ?_;refine Al Z Z Z Z Z fun r8 => ?_
  refine Ag 0 Z Z Z Z Z Z Z Z Z Z Z Z ?_;refine Ab (At.seq (At.region ?_));refine Af 2 Z Z Z Z Z Z Z Z Z ?_;refine Af 0 Z Z Z Z Z Z Z Z Z ?_;refine Aa Z Z Z Z Z O ?_;refine Af 0 Z Z Z Z Z Z Z Z Z ?_;refine Aa Z Z Z Z Z O ?_
  (refine At.l Z Z Z Z (l_buildSlice Z Z Z Z Z) ?_;rintro _ _ ⟨r20,rfl,rfl⟩)
  refine Ai Z Z Z Z Z Z Z Z (s74n L _ (fs := [_,_]) hOp.a (by rw [hk];exact hr) rfl (rd_own 0 Z Z) (bars_lookSR L s row _) (by simp)) ?_
  rw [hk]
  (iterate 3 refine Aa Z Z Z Z Z O ?_);refine Al Z Z Z Z Z fun r9 => ?_;refine Ag 0 Z Z Z Z Z Z Z Z Z Z Z Z ?_;refine Aa Z Z Z Z Z O ?_;refine Ab (At.seq (At.seq (At.region ?_)));refine Aa Z Z Z Z Z O ?_;refine Ad Z Z Z Z Z fun b25 h25 => ?_;refine Ab ?_
  have e : b25 = true := by rw [← h25];simpa using hr
  subst e
  refine At.cond Z ?_;refine At.seq (At.region ?_);(iterate 3 refine Aa Z Z Z Z Z O ?_);refine Ab ?_
  exact At.ret Tryz.func26 (.inr ⟨_,rfl⟩) rfl (.tmp rfl (.tmp rfl .nil)) (wk (hc _ _ (⟨rfl,rfl⟩)))
end Go.Gx
end
section
namespace Go.Gx
open Go Go.Conc Go.Proofs
variable {main : Bool}
def slsBar : List R2 → Int
 | [] => 0
 | s :: ss => if slopeBar s.1 s.2 ≠ 0 then slopeBar s.1 s.2 else slsBar ss
def looksBar (ss : List R2) : Int := if ¬ (1 ≤ ss.length ∧ ss.length ≤ 6) then 2 else slsBar ss
set_option maxRecDepth 100000 in
set_option maxHeartbeats 4000000 in
theorem s80 (L : Lg Tryz.prog main) (H : Facts) {a : Option Addr} {n cap : Nat} {ss : List R2} {e r x y f0 f1 f2 t0 t1 t2 : Value} (hn : ss.length = n) (hr : Rd H a (ss.flatMap c2)) (hl : ss.length ≤ 1000) :
  Pure L 80 #[.agg (List.toArray (lookC e r x y (.slice a n cap) f0 f1 f2 t0 t1 t2))] H (.int .i64 (looksBar ss)) := by
 subst hn
 refine Spec.enter Tryz.func80 rfl (by simp [Tryz.f80]) fun c cs hc => ?_;refine At.seq (At.region ?_);refine An Z Z Z Z Z Z Z fun r1 => ?_;refine Aa Z Z Z Z Z O ?_;refine Ab (At.seq (At.seq (At.region ?_)));refine Ah 4 Z Z Z Z Z Z Z ?_;refine Af 0 Z Z Z Z Z Z Z Z Z ?_;refine Ao Z Z Z Z Z Z Z Z ?_;refine Bc Z Z Z Z Z Z Z Z (s115 L _) fun b9 h9 => ?_
 refine Aa Z Z Z Z Z O ?_;refine Ab ?_
 cases b9
 ·refine At.cond Z ?_
  refine At.seq (At.region ?_);refine Aa Z Z Z Z Z O ?_;refine Ab ?_
  exact At.ret Tryz.func80 (.inr ⟨_,rfl⟩) rfl (.tmp rfl .nil) (wk (hc _ _ (⟨by simp_all [resVal,looksBar];try omega,rfl⟩)))
 have hlb : looksBar ss = slsBar ss := by simp at h9;unfold looksBar;rw [if_neg (by omega)]
 rw [hlb] at hc
 refine At.cond Z ?_;refine At.skip (At.seq (At.seq (At.region ?_)));refine Ah 4 Z Z Z Z Z Z Z ?_;refine Af 0 Z Z Z Z Z Z Z Z Z ?_;refine Ao Z Z Z Z Z Z Z Z ?_;refine Aa Z Z Z Z Z O ?_;refine Ab ?_;refine At.block ?_
 refine Az (X := { j : Nat // j ≤ ss.length ∧ slsBar (ss.drop j) = slsBar ss }) [12,13] (fun x => [(14,.int .i64 (x.1 : Int))]) (fun _ => .own r1 (.cells (List.toArray (lookC e r x y (.slice a ss.length cap) f0 f1 f2 t0 t1 t2)) 115 (0,0)) :: H) (fun x => ss.length - x.1) (⟨0,Nat.zero_le _,rfl⟩) rfl ?_ (by repeat (first | exact trivial | refine ⟨rfl,?_⟩)) sb
 rintro ⟨j,hj,hd⟩ again
 simp only at again ⊢
 refine At.seq (At.region ?_);refine Ad Z Z Z Z Z fun b15 h15 => ?_;refine Ab (At.seq ?_)
 cases b15
 ·have e : j = ss.length := by simp at h15;omega
  subst e
  rw [List.drop_length] at hd
  refine At.cond Z ?_;refine At.exit rfl ?_;refine At.seq (At.region ?_);refine Aa Z Z Z Z Z O ?_;refine Ab ?_
  exact At.ret Tryz.func80 (.inr ⟨_,rfl⟩) rfl (.tmp rfl .nil) (wk (hc _ _ (⟨by rw [← hd];rfl,rfl⟩)))
 ·have hlt : j < ss.length := by simp at h15;omega
  obtain ⟨b,off,rfl,hc1⟩ := hr.el (List.getElem?_eq_getElem hlt)
  rw [List.drop_eq_getElem_cons hlt,slsBar] at hd
  refine At.cond Z ?_;refine At.skip (At.seq ?_);refine At.block ?_;refine At.seq (At.region ?_);refine Ae Z Z Z Z (q_ia Z Z Z (by assumption)) ?_;refine Au Z Z Z Z Z Z hc1.a Z Z ?_;refine Al Z Z Z Z Z fun r4 => ?_;refine Ag 0 Z Z Z Z Z Z Z Z Z Z Z Z ?_;refine Ab (At.seq (At.region ?_));refine Af 0 Z Z Z Z Z Z Z Z Z ?_;refine Ai Z Z Z Z Z Z Z Z (s110 L _) ?_
  refine Aa Z Z Z Z Z O ?_;refine Ab (At.seq (At.region ?_));refine Aa Z Z Z Z Z O ?_;refine Ad Z Z Z Z Z fun b21 h21 => ?_;refine Ab ?_
  cases b21
  ·have e0 : slopeBar ss[j].1 ss[j].2 = 0 := by simpa using h21
   rw [if_neg (by simpa using e0)] at hd
   refine At.cond Z ?_;refine At.skip ?_;refine At.inBlock ?_;refine At.region ?_;refine Aa Z Z Z Z Z (by omega) ?_;refine Aa Z Z Z Z Z O ?_;refine Ab ?_
   refine Aq ((again ⟨j + 1,hlt,hd⟩ (by simp;omega)))
  ·have e0 : slopeBar ss[j].1 ss[j].2 ≠ 0 := by simpa using h21
   rw [if_pos e0] at hd
   refine At.cond Z ?_;refine At.seq (At.region ?_);(iterate 2 refine Aa Z Z Z Z Z O ?_);refine Ab ?_
   exact At.ret Tryz.func80 (.inr ⟨_,rfl⟩) rfl (.tmp rfl .nil) (wk (hc _ _ (⟨by rw [← hd];rfl,rfl⟩)))
def minO (xs : List Int) : Int := xs.foldl (fun m x => if x < m then x else m) (xs.headD 0)
def maxO (xs : List Int) : Int := xs.foldl (fun m x => if x > m then x else m) (xs.headD 0)
set_option maxRecDepth 100000 in
theorem s82 (L : Lg Tryz.prog main) (H : Facts) {a : Option Addr} {n cap : Nat} {xs : List Int} (hn : xs.length = n) (hr : Rd H a (xs.flatMap c1)) (h0 : 0 < xs.length) (hl : xs.length ≤ 100000) : Pure L 82 #[.slice a n cap] H (.int .i64 (minO xs)) := by
 subst hn
 refine Spec.enter Tryz.func82 rfl (by simp [Tryz.f82]) fun c cs hc => ?_;refine At.seq (At.region ?_);refine Aa Z Z Z Z Z O ?_;refine Ab (At.seq (At.seq (At.region ?_)));refine Aa Z Z Z Z Z O ?_;refine Ao Z Z Z Z Z Z Z Z ?_;refine Ad Z Z Z Z Z fun b7 h7 => ?_;refine Ab ?_
 have e : b7 = false := by rw [← h7];simp;omega
 subst e
 obtain ⟨b,off,rfl,hc0⟩ := hr.el (List.getElem?_eq_getElem h0)
 have hh : xs.headD 0 = xs[0] := by
  rw [List.headD_eq_head?_getD,List.head?_eq_getElem?,List.getElem?_eq_getElem h0];rfl
 refine At.cond Z ?_;refine At.skip (At.seq (At.region ?_));refine Aa Z Z Z Z Z O ?_;refine Ae Z Z Z Z (q_ia Z Z Z (by assumption)) ?_;refine Au Z Z Z Z Z Z hc0.a Z Z ?_;refine Aa Z Z Z Z Z O ?_;refine Ab (At.seq (At.seq (At.region ?_)));refine Aa Z Z Z Z Z O ?_;refine Ab ?_;refine At.block ?_
 refine Az (X := { x : Nat × Int // 1 ≤ x.1 ∧ x.1 ≤ xs.length ∧ x.2 = (xs.take x.1).foldl (fun m x => if x < m then x else m) (xs.headD 0) }) [0,2] (fun x => [(4,.int .i64 (x.1.1 : Int)),(3,.int .i64 x.1.2)]) (fun _ => H) (fun x => xs.length - x.1.1) (⟨(1,xs[0]),Nat.le_refl _,h0,by rw [List.take_succ_eq_append_getElem h0,hh];simp⟩) rfl ?_ (by repeat (first | exact trivial | refine ⟨rfl,?_⟩)) sb
 rintro ⟨⟨j,m⟩,hj1,hj,hm⟩ again
 simp only at again hj hm hj1 ⊢
 refine At.seq (At.seq (At.region ?_));(iterate 2 refine Aa Z Z Z Z Z O ?_);refine Ao Z Z Z Z Z Z Z Z ?_;refine Ad Z Z Z Z Z fun b15 h15 => ?_;refine Ab ?_
 cases b15
 ·have e : j = xs.length := by simp at h15;omega
  subst e
  rw [List.take_length] at hm
  subst hm
  refine At.cond Z ?_;refine At.exit rfl ?_;refine At.seq (At.region ?_);(iterate 2 refine Aa Z Z Z Z Z O ?_);refine Ab ?_
  exact At.ret Tryz.func82 (.inr ⟨_,rfl⟩) rfl (.tmp rfl .nil) (wk (hc _ _ (⟨by rfl,rfl⟩)))
 ·have hlt : j < xs.length := by simp at h15;omega
  obtain ⟨b',off',e',hc1⟩ := hr.el (List.getElem?_eq_getElem hlt)
  cases e'
  have et : xs.take (j + 1) = xs.take j ++ [xs[j]] := by rw [List.take_succ_eq_append_getElem hlt]
  refine At.cond Z ?_;refine At.skip (At.seq ?_);refine At.block ?_;refine At.region ?_;(iterate 3 refine Aa Z Z Z Z Z O ?_);refine Ae Z Z Z Z (q_ia Z Z Z (by assumption)) ?_;refine Au Z Z Z Z Z Z hc1.a Z Z ?_;(iterate 2 refine Aa Z Z Z Z Z O ?_);refine Ab ?_;refine At.inBlock ?_;refine At.region ?_;refine Aa Z Z Z Z Z O ?_;refine Aa Z Z Z Z Z (by omega) ?_
  refine Aa Z Z Z Z Z O ?_;refine Ab ?_
  refine Aq ((again ⟨(j + 1,if xs[j] < m then xs[j] else m),by omega,hlt,by rw [et,List.foldl_append,← hm];rfl⟩ (by simp;omega)))
set_option maxRecDepth 100000 in
theorem s83 (L : Lg Tryz.prog main) (H : Facts) {a : Option Addr} {n cap : Nat} {xs : List Int} (hn : xs.length = n) (hr : Rd H a (xs.flatMap c1)) (h0 : 0 < xs.length) (hl : xs.length ≤ 100000) : Pure L 83 #[.slice a n cap] H (.int .i64 (maxO xs)) := by
 subst hn
 refine Spec.enter Tryz.func83 rfl (by simp [Tryz.f83]) fun c cs hc => ?_;refine At.seq (At.region ?_);refine Aa Z Z Z Z Z O ?_;refine Ab (At.seq (At.seq (At.region ?_)));refine Aa Z Z Z Z Z O ?_;refine Ao Z Z Z Z Z Z Z Z ?_;refine Ad Z Z Z Z Z fun b7 h7 => ?_;refine Ab ?_
 have e : b7 = false := by rw [← h7];simp;omega
 subst e
 obtain ⟨b,off,rfl,hc0⟩ := hr.el (List.getElem?_eq_getElem h0)
 have hh : xs.headD 0 = xs[0] := by
  rw [List.headD_eq_head?_getD,List.head?_eq_getElem?,List.getElem?_eq_getElem h0];rfl
 refine At.cond Z ?_;refine At.skip (At.seq (At.region ?_));refine Aa Z Z Z Z Z O ?_;refine Ae Z Z Z Z (q_ia Z Z Z (by assumption)) ?_;refine Au Z Z Z Z Z Z hc0.a Z Z ?_;refine Aa Z Z Z Z Z O ?_;refine Ab (At.seq (At.seq (At.region ?_)));refine Aa Z Z Z Z Z O ?_;refine Ab ?_;refine At.block ?_
 refine Az (X := { x : Nat × Int // 1 ≤ x.1 ∧ x.1 ≤ xs.length ∧ x.2 = (xs.take x.1).foldl (fun m x => if x > m then x else m) (xs.headD 0) }) [0,2] (fun x => [(4,.int .i64 (x.1.1 : Int)),(3,.int .i64 x.1.2)]) (fun _ => H) (fun x => xs.length - x.1.1) (⟨(1,xs[0]),Nat.le_refl _,h0,by rw [List.take_succ_eq_append_getElem h0,hh];simp⟩) rfl ?_ (by repeat (first | exact trivial | refine ⟨rfl,?_⟩)) sb
 rintro ⟨⟨j,m⟩,hj1,hj,hm⟩ again
 simp only at again hj hm hj1 ⊢
 refine At.seq (At.seq (At.region ?_));(iterate 2 refine Aa Z Z Z Z Z O ?_);refine Ao Z Z Z Z Z Z Z Z ?_;refine Ad Z Z Z Z Z fun b15 h15 => ?_;refine Ab ?_
 cases b15
 ·have e : j = xs.length := by simp at h15;omega
  subst e
  rw [List.take_length] at hm
  subst hm
  refine At.cond Z ?_;refine At.exit rfl ?_;refine At.seq (At.region ?_);(iterate 2 refine Aa Z Z Z Z Z O ?_);refine Ab ?_
  exact At.ret Tryz.func83 (.inr ⟨_,rfl⟩) rfl (.tmp rfl .nil) (wk (hc _ _ (⟨by rfl,rfl⟩)))
 ·have hlt : j < xs.length := by simp at h15;omega
  obtain ⟨b',off',e',hc1⟩ := hr.el (List.getElem?_eq_getElem hlt)
  cases e'
  have et : xs.take (j + 1) = xs.take j ++ [xs[j]] := by rw [List.take_succ_eq_append_getElem hlt]
  refine At.cond Z ?_;refine At.skip (At.seq ?_);refine At.block ?_;refine At.region ?_;(iterate 3 refine Aa Z Z Z Z Z O ?_);refine Ae Z Z Z Z (q_ia Z Z Z (by assumption)) ?_;refine Au Z Z Z Z Z Z hc1.a Z Z ?_;(iterate 2 refine Aa Z Z Z Z Z O ?_);refine Ab ?_;refine At.inBlock ?_;refine At.region ?_;refine Aa Z Z Z Z Z O ?_;refine Aa Z Z Z Z Z (by omega) ?_
  refine Aa Z Z Z Z Z O ?_;refine Ab ?_
  refine Aq ((again ⟨(j + 1,if xs[j] > m then xs[j] else m),by omega,hlt,by rw [et,List.foldl_append,← hm];rfl⟩ (by simp;omega)))
theorem minO_spec {xs : List Int} (h0 : 0 < xs.length) : minO xs ∈ xs ∧ ∀ y ∈ xs,minO xs ≤ y := by
 have key : ∀ (l : List Int) (m : Int),(l.foldl (fun m x => if x < m then x else m) m ∈ m :: l) ∧ l.foldl (fun m x => if x < m then x else m) m ≤ m ∧ ∀ y ∈ l,l.foldl (fun m x => if x < m then x else m) m ≤ y := by
  intro l
  induction l with
  | nil => intro m;simp
  | cons x l ih =>
   intro m
   obtain ⟨h1,h2,h3⟩ := ih (if x < m then x else m)
   rw [List.foldl_cons]
   refine ⟨?_,?_,?_⟩
   ·rcases List.mem_cons.1 h1 with h | h
    ·rw [h];split <;> simp
    ·exact List.mem_cons_of_mem _ (List.mem_cons_of_mem _ h)
   ·refine Int.le_trans h2 ?_
    split <;> omega
   ·intro y hy
    rcases List.mem_cons.1 hy with rfl | hy
    ·refine Int.le_trans h2 ?_
     split <;> omega
    ·exact h3 y hy
 obtain ⟨h1,h2,h3⟩ := key xs (xs.headD 0)
 cases xs with
 | nil => simp at h0
 | cons x l =>
  refine ⟨?_,h3⟩
  rcases List.mem_cons.1 h1 with h | h
  ·unfold minO;rw [h];simp
  ·exact h
theorem maxO_spec {xs : List Int} (h0 : 0 < xs.length) : maxO xs ∈ xs ∧ ∀ y ∈ xs,y ≤ maxO xs := by
 have key : ∀ (l : List Int) (m : Int),(l.foldl (fun m x => if x > m then x else m) m ∈ m :: l) ∧ m ≤ l.foldl (fun m x => if x > m then x else m) m ∧ ∀ y ∈ l,y ≤ l.foldl (fun m x => if x > m then x else m) m := by
  intro l
  induction l with
  | nil => intro m;simp
  | cons x l ih =>
   intro m
   obtain ⟨h1,h2,h3⟩ := ih (if x > m then x else m)
   rw [List.foldl_cons]
   refine ⟨?_,?_,?_⟩
   ·rcases List.mem_cons.1 h1 with h | h
    ·rw [h];split <;> simp
    ·exact List.mem_cons_of_mem _ (List.mem_cons_of_mem _ h)
   ·refine Int.le_trans ?_ h2
    split <;> omega
   ·intro y hy
    rcases List.mem_cons.1 hy with rfl | hy
    ·refine Int.le_trans ?_ h2
     split <;> omega
    ·exact h3 y hy
 obtain ⟨h1,h2,h3⟩ := key xs (xs.headD 0)
 cases xs with
 | nil => simp at h0
 | cons x l =>
  refine ⟨?_,h3⟩
  rcases List.mem_cons.1 h1 with h | h
  ·unfold maxO;rw [h];simp
  ·exact h
theorem minO_eq {xs ys : List Int} (h0 : 0 < xs.length) (h : ∀ x,x ∈ xs ↔ x ∈ ys) : minO xs = minO ys := by
 have h1 : 0 < ys.length := List.length_pos_of_mem ((h _).1 (minO_spec h0).1)
 have a := (minO_spec h0).2 _ ((h _).2 (minO_spec h1).1)
 have b := (minO_spec h1).2 _ ((h _).1 (minO_spec h0).1)
 omega
theorem maxO_eq {xs ys : List Int} (h0 : 0 < xs.length) (h : ∀ x,x ∈ xs ↔ x ∈ ys) : maxO xs = maxO ys := by
 have h1 : 0 < ys.length := List.length_pos_of_mem ((h _).1 (maxO_spec h0).1)
 have a := (maxO_spec h0).2 _ ((h _).2 (maxO_spec h1).1)
 have b := (maxO_spec h1).2 _ ((h _).1 (maxO_spec h0).1)
 omega
end Go.Gx
end
section
namespace Go.Gx
open Go Go.Conc Go.Proofs
def lookL (a : Option Addr) (n cap : Nat) : List Value := lookC z0 z0 z0 z0 (.slice a n cap) z0 z0 z0 z0 z0 z0
def sevF (l : List Value) : Value := .func (.func 80) (List.toArray [.agg (List.toArray l)]) #[]
set_option maxRecDepth 100000 in
theorem spec_sev {main : Bool} (L : Lg Tryz.prog main) (H : Facts) {a : Option Addr} {n cap : Nat} {ss : List R2} (hn : ss.length = n) (hr : Rd H a (ss.flatMap c2)) (hl : ss.length ≤ 1000) : SpecV L (sevF (lookL a n cap)) #[] H (fun v H'' => v = .int .i64 (looksBar ss) ∧ H'' = H) := SpecV.ofL (args := []) (cap := []) rfl (s80 L H hn hr hl)
set_option maxRecDepth 100000 in
theorem bars_lookL {main : Bool} (L : Lg Tryz.prog main) (H : Facts) {a : Option Addr} {n cap : Nat} {ss : List R2} (hn : ss.length = n) (hr : Rd H a (ss.flatMap c2)) (hl : ss.length ≤ 1000) : Bars L H [sevF (lookL a n cap)] [looksBar ss] :=
 .cons (fun H' hs => spec_sev L H' hn (hr.more hs) hl) .nil
theorem slsBar0 {ss : List R2} (h : slsBar ss = 0) : ∀ s ∈ ss,slopeBar s.1 s.2 = 0 := by
 induction ss with
 | nil => intro s hs;cases hs
 | cons q ss ih =>
  intro s hs
  unfold slsBar at h
  by_cases hq : slopeBar q.1 q.2 = 0
  ·rw [if_neg (by simpa using hq)] at h
   rcases List.mem_cons.1 hs with rfl | hs
   ·exact hq
   ·exact ih h s hs
  ·rw [if_pos hq] at h;exact absurd h hq
theorem looks0 {ss : List R2} (h : looksBar ss = 0) : 1 ≤ ss.length ∧ ss.length ≤ 6 ∧ ∀ s ∈ ss,slopeBar s.1 s.2 = 0 := by
 unfold looksBar at h
 split at h
 ·omega
 ·exact ⟨by omega,by omega,slsBar0 h⟩
theorem s81k {Post : Value → World → Prop} {W₀ : World} {H Hs : Facts} {B : Bk} {A : BkA} {a a2 : Option Addr} {cap n cap2 m : Nat} {is : List Int} {ss : List R2} (hK : Kn H Hs B A a is) (hn : is.length = n) (hS : Rd H a2 (ss.flatMap c2)) (hm : ss.length = m) (hml : ss.length ≤ 1000) (hok : ∀ s ∈ ss,SlOk s) :
  Grows (mainLg Tryz.prog Post W₀ [] []) 81 #[knV B A a n cap,.slice a2 m cap2] H (fun v sf => ∃ r ks,v = .map (some r) ∧ sf = [.own r (mapO (fallG B is) ks)] ∧ (∀ k,k ∈ ks ↔ ∃ s ∈ ss,k = keyS s) ∧ ks.Nodup) :=
 s81 hK.sub hK.sh hK.r hK.hz hK.R hn hK.l3 hK.eye hS hm hml hok
theorem nodup_sub_len {α : Type} [DecidableEq α] : ∀ {ks l : List α},ks.Nodup → (∀ x ∈ ks,x ∈ l) → ks.length ≤ l.length
 | [],_,_,_ => Nat.zero_le _
 | k :: ks,l,hn,hs => by
  obtain ⟨h1,h2⟩ := List.nodup_cons.1 hn
  have hk : k ∈ l := hs k (List.mem_cons_self ..)
  have := nodup_sub_len (ks := ks) (l := l.erase k) h2 fun x hx => (List.mem_erase_of_ne (fun e => h1 (by rw [← e];exact hx))).2 (hs x (List.mem_cons_of_mem _ hx))
  rw [List.length_erase_of_mem hk] at this
  have := List.length_pos_of_mem hk
  simp only [List.length_cons]
  omega
def allRows (B : Bk) (ss : List R2) : List Int := ss.flatMap (rowsOf B)
def needsM (B : Bk) (ss : List R2) : (Int × Int) × Int :=
 if knownBar B [looksBar ss] ≠ 0 then ((0,0),knownBar B [looksBar ss])
 else if minO (allRows B ss) = -1 then ((0,0),8) else ((minO (allRows B ss),maxO (allRows B ss)),0)
def rowsK (B : Bk) (k : List Int) : List Int := rowsOf B (k.headD 0,k.getD 1 0)
def seenRows (B : Bk) (ks : List (List Int)) (seen : Array Nat) : List Int := seen.toList.flatMap fun i => rowsK B (ks.getD i [])
theorem seenRows_push {B : Bk} {ks : List (List Int)} {seen : Array Nat} {i : Nat} {k : List Int} (h : ks[i]? = some k) : seenRows B ks (seen.push i) = seenRows B ks seen ++ rowsK B k := by
 unfold seenRows
 rw [Array.toList_push,List.flatMap_append]
 simp [List.getD_eq_getElem?_getD,h]
def leftM (n : Nat) (seen : Array Nat) : Nat := (List.range n).countP fun i => !seen.contains i
theorem leftM_push {n i : Nat} {seen : Array Nat} (hi : i < n) (hs : i ∉ seen) : leftM n (seen.push i) < leftM n seen := by
 unfold leftM
 have key : ∀ (l : List Nat),i ∈ l → l.countP (fun j => !(seen.push i).contains j) < l.countP fun j => !seen.contains j := by
  intro l
  induction l with
  | nil => intro h;cases h
  | cons x l ih =>
   intro h
   have hle : ∀ l : List Nat,l.countP (fun j => !(seen.push i).contains j) ≤ l.countP fun j => !seen.contains j := by
    intro l
    refine List.countP_mono_left fun x _ hx => ?_
    simp at hx ⊢
    exact hx.1
   rw [List.countP_cons,List.countP_cons]
   rcases List.mem_cons.1 h with rfl | h
   ·have := hle l
    have e1 : (!(seen.push i).contains i) = false := by simp
    have e2 : (!seen.contains i) = true := by simpa using hs
    rw [e1,e2];simp only [Bool.false_eq_true,if_false,if_true];omega
   ·have := ih h
    have hx : (if (!(seen.push i).contains x) = true then 1 else 0) ≤ (if (!seen.contains x) = true then 1 else 0) := by
     have := hle [x]
     simpa [List.countP_cons] using this
    omega
 exact key _ (List.mem_range.2 hi)
theorem rowsK_len {B : Bk} (hz : bookBar B = 0) (k : List Int) : (rowsK B k).length = (statesM B).length := by simp [rowsK,rowsOf]
theorem seenRows_len {B : Bk} (hz : bookBar B = 0) (ks : List (List Int)) (seen : Array Nat) : (seenRows B ks seen).length = seen.size * (statesM B).length := by
 unfold seenRows
 rw [List.length_flatMap]
 simp only [rowsK_len hz,List.map_const',List.sum_replicate_nat,Array.length_toList]
theorem fallG_rows {B : Bk} {k : List Int} {x0 x1 x2 : Int} (h : fallI B (statesM B) (k.headD 0,k.getD 1 0) = [x0,x1,x2]) (hl : (statesM B).length ≤ 3) : rowsK B k = [x0,x1,x2].take (statesM B).length := by
 rw [← h]
 unfold fallI rowsK rowsOf
 rw [List.take_left' (by simp)]
set_option maxRecDepth 100000 in
set_option maxHeartbeats 4000000 in
theorem s27 {Post : Value → World → Prop} {W₀ : World} {H Hs : Facts} {B : Bk} {A : BkA} {a2 : Option Addr} {n cap2 : Nat} {ss : List R2} (hO : OpS H Hs B A) (hn : ss.length = n) (hS : Rd H a2 (ss.flatMap c2)) (hl : ss.length ≤ 1000) :
  Pure (mainLg Tryz.prog Post W₀ [] []) 27 #[bkV B A,.slice a2 n cap2] H (.tuple #[.agg (List.toArray (c2 (needsM B ss).1)),.int .i64 (needsM B ss).2]) := by
 subst hn
 refine Spec.enter Tryz.func27 rfl (by simp [Tryz.f27]) fun c cs hc => ?_
 generalize hL : mainLg Tryz.prog Post W₀ [] [] = L at hc ⊢
 have hOp := hO.opn
 unfold needsM at hc
 generalize hk : knownBar B [looksBar ss] = r at hc
 by_cases hr : r = 0
 ·subst hr
  obtain ⟨hz,hf,h0⟩ := knownBar_pos hk
  simp only [ne_eq,not_true_eq_false,if_false] at hc
  obtain ⟨hs1,hs6,hsl0⟩ := looks0 (by simpa [firstBar1] using hf)
  have hok : ∀ s ∈ ss,SlOk s := fun s hs => slOk_of s (hsl0 s hs)
  have hl3 := statesM_len hz
  refine At.seq (At.region ?_);refine An Z Z Z Z Z Z Z fun r2 => ?_;refine Al Z Z Z Z Z fun r4 => ?_;refine Aa Z Z Z Z Z O ?_;refine Ab (At.seq (At.region ?_));refine Af 1 Z Z Z Z Z Z Z Z Z ?_;refine Aa Z Z Z Z Z O ?_;refine Ae Z Z Z Z (q_build Z Z Z) ?_;refine Aa Z Z Z Z Z O ?_
  (refine At.l Z Z Z Z (l_buildSlice Z Z Z Z Z) ?_;rintro _ _ ⟨r17,rfl,rfl⟩)
  refine Ay Z Z Z Z Z Z Z Z (s74z L _ (fs := [_]) hOp.a hz hf (by omega) rfl (rd_own 0 Z Z) (bars_lookL L _ rfl hS.a hl) (by simp)) ?_
  rintro _ _ ⟨sf,⟨a,cap,rfl,hst⟩,rfl⟩
  obtain ⟨b,cap',rest,e1,rfl⟩ := hst.pos h0
  cases e1
  refine At.share ?_;(iterate 3 refine Aa Z Z Z Z Z O ?_);refine Al Z Z Z Z Z fun r6 => ?_;refine Ag 0 Z Z Z Z Z Z Z Z Z Z Z Z ?_;refine Aa Z Z Z Z Z O ?_;refine Ab (At.seq (At.seq (At.region ?_)));refine Aa Z Z Z Z Z O ?_;refine Ad Z Z Z Z Z fun b22 h22 => ?_;refine Ab ?_
  have e : b22 = false := by rw [← h22];rfl
  subst e
  refine At.cond Z ?_;refine At.skip (At.seq (At.region ?_));refine Aa Z Z Z Z Z O ?_;refine Ab (At.seq (At.seq (At.region ?_)));refine Af 0 Z Z Z Z Z Z Z Z Z ?_;refine Aa Z Z Z Z Z O ?_
  subst hL
  refine Ay Z Z Z Z Z Z Z Z (s81k (hO.kn (rest := rest) hz h0 (((((Sub.refl _).drop _).drop _).drop _).cons _ |>.drop _)) rfl hS.a rfl hl hok) ?_
  rintro _ _ ⟨_,⟨rm,ks,rfl,rfl,hks⟩,rfl⟩
  generalize hL : mainLg Tryz.prog Post W₀ [] [] = L at hc ⊢
  refine At.l Z Z Z Z (l_range Z Z (List.mem_cons_self ..)) ?_
  rintro _ _ ⟨q,rfl,rfl⟩
  refine Ab ?_;refine At.block ?_
  have hdl := nodup_sub_len hks.2 (l := ss.map keyS) (fun k hk => by
   obtain ⟨s,hs,rfl⟩ := (hks.1 k).1 hk
   exact List.mem_map_of_mem hs)
  rw [List.length_map] at hdl
  refine At.weakH (H' := .own q (.mapIter (some rm) ks.length #[] ks.length) :: .own rm (mapO (fallG B (statesM B)) ks) :: .own r6 (.cells (List.toArray (knC B A (some ⟨b,0,none⟩) (statesM B).length cap)) 145 (0,0)) :: .own r4 (.cells #[.int .i64 0,.int .i64 0] 24 (0,0)) :: H) ?_ ((((((Sub.refl H).drop _).cons _).drop _).drop _).cons _ |>.cons _ |>.cons _)
  refine Az (X := { x : Array Nat × Value × Facts // (∀ i ∈ x.1,i < ks.length) ∧ x.1.toList.Nodup ∧ Sl c1 3 x.2.1 (seenRows B ks x.1) x.2.2 }) [4,5,6,28] (fun x => [(8,x.1.2.1)]) (fun x => .own q (.mapIter (some rm) ks.length x.1.1 ks.length) :: .own rm (mapO (fallG B (statesM B)) ks) :: .own r6 (.cells (List.toArray (knC B A (some ⟨b,0,none⟩) (statesM B).length cap)) 145 (0,0)) :: .own r4 (.cells #[.int .i64 0,.int .i64 0] 24 (0,0)) :: (x.1.2.2 ++ H)) (fun x => leftM ks.length x.1.1) (⟨(#[],.slice none 0 0,[]),by simp,List.nodup_nil,Sl.nil⟩) rfl ?_ (by repeat (first | exact trivial | refine ⟨rfl,?_⟩)) sb
  rintro ⟨⟨seen,v,sf⟩,hin,hnd,hsl⟩ again
  simp only at again hin hnd hsl ⊢
  have hsz : seen.size ≤ ks.length := by
   have := nodup_sub_len hnd (l := List.range ks.length) (fun i hi => List.mem_range.2 (hin i (by simpa using hi)))
   simpa using this
  have hsl2 := seenRows_len hz ks seen
  have hmul : seen.size * (statesM B).length ≤ 6 * 3 := Nat.mul_le_mul (by omega) hl3
  refine At.seq (At.region ?_)
  refine At.nextM 0 Z Z Z Z Z Z Z (List.mem_cons_of_mem _ (List.mem_cons_self ..)) (fun _ => rfl) (fun e y hy hns => ?_) (fun hall => ?_)
  ·have helt : e < ks.length := (List.getElem?_eq_some_iff.1 hy).1
   obtain ⟨x0,x1,x2,hx⟩ := fallI_three (B := B) (is := statesM B) (s := (y.headD 0,y.getD 1 0)) hl3
   have hg : fallG B (statesM B) y = .agg (List.toArray (ints [x0,x1,x2])) := by unfold fallG;rw [hx]
   have hrk := fallG_rows hx hl3
   have hrl := rowsK_len hz y
   refine Aa Z Z Z Z Z O ?_;refine Ab (At.seq ?_);refine At.cond Z ?_;refine At.skip ?_;refine At.block ?_;refine At.seq (At.region ?_);refine Ae Z Z Z Z (q_entry (seen := seen) Z Z (List.mem_cons_of_mem _ (List.mem_cons_self ..)) (List.mem_cons_self ..) hy) ?_
   rw [hg]
   refine Aa Z Z Z Z Z O ?_;refine Al Z Z Z Z Z fun r10 => ?_;refine Ag 0 Z Z Z Z Z Z Z Z Z Z Z Z ?_;refine Ab (At.region ?_);refine Aa Z Z Z Z Z O ?_;refine Ah 5 Z Z Z Z Z Z Z ?_;refine Af 3 Z Z Z Z Z Z Z Z Z ?_;refine Ao Z Z Z Z Z Z Z Z ?_;refine Ae Z Z Z Z (q_sliceAH (h := ((statesM B).length)) Z Z Z (by assumption)) ?_
   have hcl : ((ints [x0,x1,x2]).drop 0).take ((rowsK B y).flatMap c1).length = (rowsK B y).flatMap c1 := by
    rw [flat_c1,hrk,List.drop_zero]
    simp [ints,List.map_take]
   refine At.app Z Z Z Z Z Z Z Z Z Z Z Z (show IsSl 1 3 v ((seenRows B ks seen).flatMap c1) (seenRows B ks seen).length sf from hsl) (List.perm_append_comm_assoc sf [_,_,_,_,_] H) (.inr ⟨r10,0,rfl,cells_own (c := List.toArray (ints [x0,x1,x2])) (T := 156) (fr := (0,0)) (List.mem_cons_self ..) hcl⟩) (by rw [flat_c1];simp [ints,hrl]) (by rw [flat_c1];simp [ints,Value.oneCell']) h0 (by omega) fun v' sf' hs' => ?_
   have hs2 : Sl c1 3 v' (seenRows B ks (seen.push e)) sf' := by
    rw [seenRows_push hy]
    unfold Sl
    rw [List.flatMap_append,List.length_append,hrl]
    exact hs'
   refine At.rot 5 rfl ?_;refine Aa Z Z Z Z Z O ?_;refine Ab ?_;refine At.inBlock ?_
   refine Aq ((again ⟨(seen.push e,v',sf'),(by intro i hi;rcases Array.mem_push.1 hi with h | rfl;exact hin i h;exact helt),(by rw [Array.toList_push,List.nodup_append];exact ⟨hnd,by simp,by intro x hx y hy e';simp at hy;subst hy;subst e';exact hns (by simpa using hx)⟩),hs2⟩ (leftM_push helt hns)))
  ·obtain ⟨a3,cap3,rfl⟩ := hsl.slice
   obtain ⟨_,hrd,_⟩ := hsl.rd
   have hmem : ∀ x,x ∈ seenRows B ks seen ↔ x ∈ allRows B ss := by
    intro x
    unfold seenRows allRows
    simp only [List.mem_flatMap]
    constructor
    ·rintro ⟨i,hi,hx⟩
     have hlt := hin i (by simpa using hi)
     obtain ⟨s,hs,e⟩ := (hks.1 ks[i]).1 (List.getElem_mem hlt)
     refine ⟨s,hs,?_⟩
     have e2 : ks.getD i [] = keyS s := by rw [← e,List.getD_eq_getElem?_getD,List.getElem?_eq_getElem hlt];rfl
     rw [e2] at hx
     exact hx
    ·rintro ⟨s,hs,hx⟩
     obtain ⟨i,hi⟩ := List.getElem?_of_mem ((hks.1 (keyS s)).2 ⟨s,hs,rfl⟩)
     have hlt := (List.getElem?_eq_some_iff.1 hi).1
     refine ⟨i,by simpa using hall i hlt,?_⟩
     have e2 : ks.getD i [] = keyS s := by rw [List.getD_eq_getElem?_getD,hi];rfl
     rw [e2]
     exact hx
   have hp : 0 < (seenRows B ks seen).length := by
    have : 0 < (allRows B ss).length := by
     obtain ⟨s,hs⟩ : ∃ s,s ∈ ss := List.exists_mem_of_length_pos (by omega)
     obtain ⟨r,hr⟩ : ∃ r,r ∈ rowsOf B s := List.exists_mem_of_length_pos (by simpa [rowsOf] using h0)
     exact List.length_pos_of_mem (List.mem_flatMap.2 ⟨s,hs,hr⟩)
    obtain ⟨x,hx⟩ := List.exists_mem_of_length_pos this
    exact List.length_pos_of_mem ((hmem x).2 hx)
   rw [← minO_eq hp hmem,← maxO_eq hp hmem] at hc
   have stop82 := trivial
   have stop83 := trivial
   refine Aa Z Z Z Z Z O ?_;refine Ab (At.seq ?_);refine At.cond Z ?_;refine At.exit rfl ?_;refine At.seq (At.region ?_);refine Aa Z Z Z Z Z O ?_
   clear stop82
   refine Ai Z Z Z Z Z Z Z Z (s82 L _ (xs := seenRows B ks seen) rfl hrd.a hp (by omega)) ?_;refine Aa Z Z Z Z Z O ?_
   clear stop83
   refine Ai Z Z Z Z Z Z Z Z (s83 L _ (xs := seenRows B ks seen) rfl hrd.a hp (by omega)) ?_;refine Ae Z Z Z Z (q_build Z Z Z) ?_;refine Al Z Z Z Z Z fun r11 => ?_;refine Ag 0 Z Z Z Z Z Z Z Z Z Z Z Z ?_;refine Ab (At.seq (At.seq (At.region ?_)));refine Ah 0 Z Z Z Z Z Z Z ?_;refine Af 0 Z Z Z Z Z Z Z Z Z ?_;refine Ad Z Z Z Z Z fun b46 h46 => ?_
   refine Ab ?_
   cases b46
   ·have e : ¬ minO (seenRows B ks seen) = -1 := by simpa using h46
    simp only [if_neg e] at hc
    refine At.cond Z ?_;refine At.skip (At.seq (At.region ?_));refine Af 0 Z Z Z Z Z Z Z Z Z ?_;refine Ag 4 Z Z Z Z Z Z Z Z Z Z Z Z ?_;refine Aa Z Z Z Z Z O ?_;refine Ab ?_
    exact At.ret Tryz.func27 (.inr ⟨_,rfl⟩) rfl (.aggJ 4 Z Z Z (.tmp rfl .nil)) (wk (hc _ _ (⟨rfl,rfl⟩)))
   ·have e : minO (seenRows B ks seen) = -1 := by simpa using h46
    simp only [if_pos e] at hc
    refine At.cond Z ?_;refine At.seq (At.region ?_);refine Ae Z Z Z Z (q_build Z Z Z) ?_;refine Ag 4 Z Z Z Z Z Z Z Z Z Z Z Z ?_;refine Aa Z Z Z Z Z O ?_;refine Ab ?_
    exact At.ret Tryz.func27 (.inr ⟨_,rfl⟩) rfl (.aggJ 4 Z Z Z (.tmp rfl .nil)) (wk (hc _ _ (⟨rfl,rfl⟩)))
 ·simp only [ne_eq,hr,not_false_eq_true,if_true] at hc
  refine At.seq (At.region ?_);refine An Z Z Z Z Z Z Z fun r2 => ?_;refine Al Z Z Z Z Z fun r4 => ?_;refine Aa Z Z Z Z Z O ?_;refine Ab (At.seq (At.region ?_));refine Af 1 Z Z Z Z Z Z Z Z Z ?_;refine Aa Z Z Z Z Z O ?_;refine Ae Z Z Z Z (q_build Z Z Z) ?_;refine Aa Z Z Z Z Z O ?_
  (refine At.l Z Z Z Z (l_buildSlice Z Z Z Z Z) ?_;rintro _ _ ⟨r17,rfl,rfl⟩)
  refine Ai Z Z Z Z Z Z Z Z (s74n L _ (fs := [_]) hOp.a (by rw [hk];exact hr) rfl (rd_own 0 Z Z) (bars_lookL L _ rfl hS.a hl) (by simp)) ?_
  rw [hk]
  (iterate 3 refine Aa Z Z Z Z Z O ?_);refine Al Z Z Z Z Z fun r6 => ?_;refine Ag 0 Z Z Z Z Z Z Z Z Z Z Z Z ?_;refine Aa Z Z Z Z Z O ?_;refine Ab (At.seq (At.seq (At.region ?_)));refine Aa Z Z Z Z Z O ?_;refine Ad Z Z Z Z Z fun b22 h22 => ?_;refine Ab ?_
  have e : b22 = true := by rw [← h22];simpa using hr
  subst e
  refine At.cond Z ?_;refine At.seq (At.region ?_);refine Ae Z Z Z Z (q_build Z Z Z) ?_;refine Aa Z Z Z Z Z O ?_;refine Ag 2 Z Z Z Z Z Z Z Z Z Z Z Z ?_;refine Aa Z Z Z Z Z O ?_;refine Ab ?_
  exact At.ret Tryz.func27 (.inr ⟨_,rfl⟩) rfl (.aggJ 2 Z Z Z (.tmp rfl .nil)) (wk (hc _ _ (⟨rfl,rfl⟩)))
end Go.Gx
end
section
namespace Go.Gx
open Go Go.Conc Go.Proofs
def mostM (rows : List Int) (xs : List Int) : Int := xs.foldl (fun m x => if ((rows.count x : Nat) : Int) > m then ((rows.count x : Nat) : Int) else m) 0
def leaveM (B : Bk) (s : R2) : Int := mostM (rowsOf B s) (rowsOf B s)
def askStep (B : Bk) (ss : List R2) (wl : Int × Int) (i : Nat) : Int × Int := if leaveM B (ss.getD i (0,0)) < wl.2 then ((i : Int),leaveM B (ss.getD i (0,0))) else wl
def askTo (B : Bk) (ss : List R2) (n : Nat) : Int × Int := (List.range n).foldl (askStep B ss) (-1,((statesM B).length : Int))
def askM (B : Bk) (ss : List R2) : (Int × Int) × Int := if knownBar B [looksBar ss] ≠ 0 then ((0,0),knownBar B [looksBar ss]) else (askTo B ss ss.length,0)
theorem askTo_succ {B : Bk} {ss : List R2} {n : Nat} : askTo B ss (n + 1) = askStep B ss (askTo B ss n) n := by
 unfold askTo
 rw [List.range_succ,List.foldl_append];rfl
theorem askTo_le {B : Bk} {ss : List R2} : ∀ n,(askTo B ss n).2 ≤ ((statesM B).length : Int)
 | 0 => Int.le_refl _
 | n + 1 => by
  have := askTo_le (B := B) (ss := ss) n
  rw [askTo_succ]
  unfold askStep
  split
  ·show leaveM B _ ≤ _;omega
  ·exact this
theorem mostM_le {rows xs : List Int} {n : Nat} (h : rows.length ≤ n) : 0 ≤ mostM rows xs ∧ mostM rows xs ≤ n := by
 have key : ∀ (l : List Int) (m : Int),0 ≤ m → m ≤ n → 0 ≤ l.foldl (fun m x => if ((rows.count x : Nat) : Int) > m then ((rows.count x : Nat) : Int) else m) m ∧ l.foldl (fun m x => if ((rows.count x : Nat) : Int) > m then ((rows.count x : Nat) : Int) else m) m ≤ n := by
  intro l
  induction l with
  | nil => intro m h0 h1;exact ⟨h0,h1⟩
  | cons x l ih =>
   intro m h0 h1
   rw [List.foldl_cons]
   have hc : rows.count x ≤ n := Nat.le_trans List.count_le_length h
   exact ih _ (by split <;> omega) (by split <;> omega)
 exact key xs 0 (Int.le_refl _) (by omega)
theorem mostM_take {rows : List Int} {j : Nat} (h : j < rows.length) (xs : List Int := rows) : mostM rows (rows.take (j + 1)) = if ((rows.count rows[j] : Nat) : Int) > mostM rows (rows.take j) then ((rows.count rows[j] : Nat) : Int) else mostM rows (rows.take j) := by
 unfold mostM
 rw [List.take_succ_eq_append_getElem h,List.foldl_append]
 rfl
theorem mostM_same {rows : List Int} (x : Int) (h : ∀ y ∈ rows,y = x) (h0 : 0 < rows.length) : mostM rows rows = rows.length := by
 have hr : rows = List.replicate rows.length x := List.eq_replicate_iff.2 ⟨rfl,h⟩
 have hc : ∀ y ∈ rows,rows.count y = rows.length := by
  intro y hy
  rw [h y hy,hr]
  simp
 have key : ∀ (l : List Int) (m : Int),(∀ y ∈ l,rows.count y = rows.length) → m ≤ rows.length → 0 < l.length → l.foldl (fun m x => if ((rows.count x : Nat) : Int) > m then ((rows.count x : Nat) : Int) else m) m = rows.length := by
  intro l
  induction l with
  | nil => intro m _ _ h;simp at h
  | cons y l ih =>
   intro m hl hm _
   rw [List.foldl_cons,hl y (List.mem_cons_self ..)]
   have e : (if ((rows.length : Nat) : Int) > m then ((rows.length : Nat) : Int) else m) = rows.length := by split <;> omega
   rw [e]
   cases l with
   | nil => rfl
   | cons z l => exact ih _ (fun y hy => hl y (List.mem_cons_of_mem _ hy)) (Int.le_refl _) (by simp)
 exact key rows 0 hc (by omega) h0
set_option maxRecDepth 100000 in
set_option maxHeartbeats 4000000 in
theorem s28 {Post : Value → World → Prop} {W₀ : World} {H Hs : Facts} {B : Bk} {A : BkA} {a2 : Option Addr} {n cap2 : Nat} {ss : List R2} (hO : OpS H Hs B A) (hn : ss.length = n) (hS : Rd H a2 (ss.flatMap c2)) (hl : ss.length ≤ 1000) :
  Pure (mainLg Tryz.prog Post W₀ [] []) 28 #[bkV B A,.slice a2 n cap2] H (.tuple #[.int .i64 (askM B ss).1.1,.int .i64 (askM B ss).1.2,.int .i64 (askM B ss).2]) := by
 subst hn
 refine Spec.enter Tryz.func28 rfl (by simp [Tryz.f28]) fun c cs hc => ?_
 generalize hL : mainLg Tryz.prog Post W₀ [] [] = L at hc ⊢
 have hOp := hO.opn
 unfold askM at hc
 generalize hk : knownBar B [looksBar ss] = r at hc
 by_cases hr : r = 0
 ·subst hr
  obtain ⟨hz,hf,h0⟩ := knownBar_pos hk
  simp only [ne_eq,not_true_eq_false,if_false] at hc
  obtain ⟨hs1,hs6,hsl0⟩ := looks0 (by simpa [firstBar1] using hf)
  have hok : ∀ s ∈ ss,SlOk s := fun s hs => slOk_of s (hsl0 s hs)
  have hl3 := statesM_len hz
  refine At.seq (At.region ?_);refine An Z Z Z Z Z Z Z fun r2 => ?_;(iterate 3 refine Aa Z Z Z Z Z O ?_);refine Ab (At.seq (At.region ?_));refine Af 0 Z Z Z Z Z Z Z Z Z ?_;refine Aa Z Z Z Z Z O ?_;refine Ae Z Z Z Z (q_build Z Z Z) ?_;refine Aa Z Z Z Z Z O ?_
  (refine At.l Z Z Z Z (l_buildSlice Z Z Z Z Z) ?_;rintro _ _ ⟨r21,rfl,rfl⟩)
  refine Ay Z Z Z Z Z Z Z Z (s74z L _ (fs := [_]) hOp.a hz hf (by omega) rfl (rd_own 0 Z Z) (bars_lookL L _ rfl hS.a hl) (by simp)) ?_
  rintro _ _ ⟨sf,⟨a,cap,rfl,hst⟩,rfl⟩
  obtain ⟨b,cap',rest,e1,rfl⟩ := hst.pos h0
  cases e1
  refine At.share ?_;(iterate 3 refine Aa Z Z Z Z Z O ?_);refine Al Z Z Z Z Z fun r7 => ?_;refine Ag 0 Z Z Z Z Z Z Z Z Z Z Z Z ?_;refine Aa Z Z Z Z Z O ?_;refine Ab (At.seq (At.seq (At.region ?_)));refine Aa Z Z Z Z Z O ?_;refine Ad Z Z Z Z Z fun b26 h26 => ?_;refine Ab ?_
  have e : b26 = false := by rw [← h26];rfl
  subst e
  refine At.cond Z ?_;refine At.skip (At.seq ?_);refine Aw hmix [] rfl ?_;refine Am 5 0 Z Z Z Z Z Z Z Z Z ?_;refine Aj 0 1 Z Z Z Z Z Z Z Z Z Z Z ?_;refine Pool.ln 2 Z Z Z Z Z Z Z Z Z Z ?_;refine Ac 3 Z Z Z Z Z Z Z O ?_;refine Ac 4 Z Z Z Z Z Z Z O ?_;refine pool_done Z Z ?_;refine Ab (At.seq (At.region ?_))
  refine Af 0 Z Z Z Z Z Z Z Z Z ?_;refine Aa Z Z Z Z Z O ?_
  subst hL
  refine Ay Z Z Z Z Z Z Z Z (s81k (hO.kn (rest := rest) hz h0 ((((Sub.refl _).drop _).drop _).cons _ |>.drop _)) rfl hS.a rfl hl hok) ?_
  rintro _ _ ⟨_,⟨rm,ks,rfl,rfl,hks⟩,rfl⟩
  generalize hL : mainLg Tryz.prog Post W₀ [] [] = L at hc ⊢
  refine Aa Z Z Z Z Z O ?_;refine Ab (At.seq (At.region ?_));refine Al Z Z Z Z Z fun r9 => ?_;refine Ab (At.seq (At.seq (At.region ?_)));refine Aa Z Z Z Z Z O ?_;refine Ao Z Z Z Z Z Z Z Z ?_;refine Aa Z Z Z Z Z O ?_;refine Ab ?_;refine At.block ?_
  refine At.weakH (H' := .own r9 (.cells #[.int .i64 0,.int .i64 0,.int .i64 0] 156 (0,0)) :: .own rm (mapO (fallG B (statesM B)) ks) :: .own r7 (.cells (List.toArray (knC B A (some ⟨b,0,none⟩) (statesM B).length cap)) 145 (0,0)) :: H) ?_ ((((Sub.refl H).drop _).drop _).drop _ |>.cons _ |>.cons _ |>.cons _)
  refine Az (X := { x : Nat × Int × Int // x.1 ≤ ss.length ∧ x.2 = askTo B ss x.1 }) [6,7,8,9,34,35] (fun x => [(36,.int .i64 (x.1.1 : Int)),(4,.int .i64 x.1.2.1),(5,.int .i64 x.1.2.2)]) (fun _ => .own r9 (.cells #[.int .i64 0,.int .i64 0,.int .i64 0] 156 (0,0)) :: .own rm (mapO (fallG B (statesM B)) ks) :: .own r7 (.cells (List.toArray (knC B A (some ⟨b,0,none⟩) (statesM B).length cap)) 145 (0,0)) :: H) (fun x => ss.length - x.1.1) (⟨(0,-1,(statesM B).length),Nat.zero_le _,rfl⟩) rfl ?_ (by repeat (first | exact trivial | refine ⟨rfl,?_⟩)) sb
  rintro ⟨⟨j,w,lf⟩,hj,hwl⟩ again
  simp only at again hj hwl ⊢
  have hle := askTo_le (B := B) (ss := ss) j
  rw [← hwl] at hle
  refine At.seq (At.region ?_);refine Ad Z Z Z Z Z fun b37 h37 => ?_;refine Ab (At.seq ?_)
  cases b37
  ·have e : j = ss.length := by simp at h37;omega
   subst e
   rw [← hwl] at hc
   refine At.cond Z ?_;refine At.exit rfl ?_;refine At.seq (At.region ?_);(iterate 5 refine Aa Z Z Z Z Z O ?_);refine Ab ?_
   exact At.ret Tryz.func28 (.inr ⟨_,rfl⟩) rfl (.tmp rfl (.tmp rfl (.tmp rfl .nil))) (wk (hc _ _ (⟨rfl,rfl⟩)))
  ·have hlt : j < ss.length := by simp at h37;omega
   obtain ⟨b',off',rfl,hc1⟩ := hS.el (List.getElem?_eq_getElem hlt)
   have hgd : ss.getD j (0,0) = ss[j] := by rw [List.getD_eq_getElem?_getD,List.getElem?_eq_getElem hlt];rfl
   have hst : askTo B ss (j + 1) = if leaveM B ss[j] < lf then ((j : Int),leaveM B ss[j]) else (w,lf) := by
    rw [askTo_succ,← hwl];unfold askStep;rw [hgd]
   obtain ⟨x0,x1,x2,hx⟩ := fallI_three (B := B) (is := statesM B) (s := ss[j]) hl3
   have hg : fallG B (statesM B) (keyS ss[j]) = .agg (List.toArray (ints [x0,x1,x2])) := by unfold fallG keyS;simp only [List.headD_cons,List.getD_cons_succ,List.getD_cons_zero];rw [hx]
   have hrk : rowsOf B ss[j] = [x0,x1,x2].take (statesM B).length := by
    rw [← hx];unfold fallI rowsOf;rw [List.take_left' (by simp)]
   have hrl : (rowsOf B ss[j]).length = (statesM B).length := by simp [rowsOf]
   have hk2 : ∀ x ∈ ks,x.length = 2 := fun x hx => by obtain ⟨_,_,rfl⟩ := (hks.1 x).1 hx;rfl
   have hkm : keyS ss[j] ∈ ks := (hks.1 _).2 ⟨_,List.getElem_mem hlt,rfl⟩
   refine At.cond Z ?_;refine At.skip (At.seq ?_);refine At.block ?_;refine At.seq (At.region ?_);refine Aa Z Z Z Z Z O ?_;refine Ae Z Z Z Z (q_ia Z Z Z (by assumption)) ?_;refine Au Z Z Z Z Z Z hc1.a Z Z ?_;refine Al Z Z Z Z Z fun r11 => ?_;refine Aa Z Z Z Z Z O ?_;refine Ag 0 Z Z Z Z Z Z Z Z Z Z Z Z ?_;refine Ab (At.seq (At.region ?_))
   refine Aa Z Z Z Z Z O ?_;refine Af 0 Z Z Z Z Z Z Z Z Z ?_;refine Ae Z Z Z Z (q_lookup (g := fallG B (statesM B)) (ks := ks) (k := keyS ss[j]) Z Z Z tf156 Z Z hk2 (List.mem_cons_of_mem _ (List.mem_cons_of_mem _ (List.mem_cons_self ..)))) ?_
   rw [if_pos hkm,hg]
   refine Al Z Z Z Z Z fun r12 => ?_;refine Ag 0 Z Z Z Z Z Z Z Z Z Z Z Z ?_;refine Ab (At.seq (At.seq (At.region ?_)));refine Af 0 Z Z Z Z Z Z Z Z Z ?_;refine Af 2 Z Z Z Z Z Z Z Z Z ?_;refine At.qb Z Z Z Z (q_eqS Z Z Z Z Z Z Z Z) fun b46 h46 => ?_;refine Aa Z Z Z Z Z O ?_
   have hcl : ((ints [x0,x1,x2]).drop 0).take ((rowsOf B ss[j]).flatMap c1).length = (rowsOf B ss[j]).flatMap c1 := by
    rw [flat_c1,hrk,List.drop_zero]
    simp [ints,List.map_take]
   have hR : Rd (.own r12 (.cells (List.toArray (ints [x0,x1,x2])) 156 (0,0)) :: .own r11 (.cells #[.int .i64 ss[j].1,.int .i64 ss[j].2] 40 (0,0)) :: .own r9 (.cells #[.int .i64 0,.int .i64 0,.int .i64 0] 156 (0,0)) :: .own rm (mapO (fallG B (statesM B)) ks) :: .own r7 (.cells (List.toArray (knC B A (some ⟨b,0,none⟩) (statesM B).length cap)) 145 (0,0)) :: H) (some ⟨r12,0,none⟩) ((rowsOf B ss[j]).flatMap c1) :=
    .inr ⟨r12,0,rfl,cells_own (c := List.toArray (ints [x0,x1,x2])) (T := 156) (fr := (0,0)) (List.mem_cons_self ..) hcl⟩
   cases b46
   ·refine Ar Z Z Z Z ?_
    (iterate 2 refine Ar Z Z Z Z ?_);refine Aa Z Z Z Z Z O ?_;refine Ab ?_;refine At.cond Z ?_;refine At.skip (At.seq (At.region ?_));refine Aa Z Z Z Z Z O ?_;refine Ab (At.seq (At.seq (At.region ?_)));refine Ah 5 Z Z Z Z Z Z Z ?_;refine Af 4 Z Z Z Z Z Z Z Z Z ?_;refine Ao Z Z Z Z Z Z Z Z ?_
    refine Ae Z Z Z Z (q_sliceAH (h := ((statesM B).length)) Z Z Z (by assumption)) ?_;refine Ao Z Z Z Z Z Z Z Z ?_;refine Aa Z Z Z Z Z O ?_;refine Ab ?_;refine At.block ?_
    refine Az (X := { x : Nat × Int // x.1 ≤ (rowsOf B ss[j]).length ∧ x.2 = mostM (rowsOf B ss[j]) ((rowsOf B ss[j]).take x.1) }) [4,5,6,7,8,9,10,11,12,34,35,36,37,38,39,40,41,42,43,44,45,46,47,48,49,50,51,52,53,54,55,56] (fun x => [(57,.int .i64 (x.1.1 : Int)),(13,.int .i64 x.1.2)]) (fun _ => .own r12 (.cells (List.toArray (ints [x0,x1,x2])) 156 (0,0)) :: .own r11 (.cells #[.int .i64 ss[j].1,.int .i64 ss[j].2] 40 (0,0)) :: .own r9 (.cells #[.int .i64 0,.int .i64 0,.int .i64 0] 156 (0,0)) :: .own rm (mapO (fallG B (statesM B)) ks) :: .own r7 (.cells (List.toArray (knC B A (some ⟨b,0,none⟩) (statesM B).length cap)) 145 (0,0)) :: H) (fun x => (rowsOf B ss[j]).length - x.1.1) (⟨(0,0),Nat.zero_le _,rfl⟩) rfl ?_ (by repeat (first | exact trivial | refine ⟨rfl,?_⟩)) sb
    rintro ⟨⟨i,m⟩,hi,hm⟩ again2
    simp only at again2 hi hm ⊢
    have hmb := mostM_le (rows := rowsOf B ss[j]) (xs := (rowsOf B ss[j]).take i) (n := 3) (by omega)
    refine At.seq (At.region ?_);refine Ad Z Z Z Z Z fun b58 h58 => ?_;refine Ab (At.seq ?_)
    cases b58
    ·have e : i = (rowsOf B ss[j]).length := by simp at h58;omega
     subst e
     rw [List.take_length] at hm
     change m = leaveM B ss[j] at hm
     refine At.cond Z ?_;refine At.exit rfl ?_;refine At.seq (At.region ?_);(iterate 2 refine Aa Z Z Z Z Z O ?_);refine Ad Z Z Z Z Z fun b72 h72 => ?_;refine Ab ?_
     cases b72
     ·rw [← hm,if_neg (by simpa using h72)] at hst
      refine At.cond Z ?_;refine At.skip ?_;refine At.inBlock ?_;refine At.region ?_;refine Aa Z Z Z Z Z (by omega) ?_;refine Aa Z Z Z Z Z O ?_;refine Ab ?_
      refine Aq ((again ⟨(j + 1,w,lf),hlt,hst.symm⟩ (by simp;omega)))
     ·rw [← hm,if_pos (by simpa using h72)] at hst
      refine At.cond Z ?_;refine At.region ?_;(iterate 4 refine Aa Z Z Z Z Z O ?_);refine Ab ?_;refine At.inBlock ?_;refine At.region ?_;refine Aa Z Z Z Z Z (by omega) ?_;refine Aa Z Z Z Z Z O ?_;refine Ab ?_
      refine Aq ((again ⟨(j + 1,j,m),hlt,hst.symm⟩ (by simp;omega)))
    ·have hlt2 : i < (rowsOf B ss[j]).length := by simp at h58;omega
     obtain ⟨b2,off2,e2,hc2⟩ := hR.el (List.getElem?_eq_getElem hlt2)
     cases e2
     have hm2 := mostM_take hlt2
     rw [← hm] at hm2
     have stop79 := trivial
     refine At.cond Z ?_;refine At.skip (At.seq ?_);refine At.block ?_;refine At.seq (At.region ?_);refine Ae Z Z Z Z (q_ia Z Z Z (by omega)) ?_;refine Au Z Z Z Z Z Z hc2.a Z Z ?_;refine Aa Z Z Z Z Z O ?_;refine Ab (At.region ?_);refine Aa Z Z Z Z Z O ?_;refine Ah 5 Z Z Z Z Z Z Z ?_;refine Af 4 Z Z Z Z Z Z Z Z Z ?_;refine Ao Z Z Z Z Z Z Z Z ?_
     refine Ae Z Z Z Z (q_sliceAH (h := ((statesM B).length)) Z Z Z (by assumption)) ?_;refine Aa Z Z Z Z Z O ?_
     clear stop79
     refine Ai Z Z Z Z Z Z Z Z (s79 L _ (xs := rowsOf B ss[j]) hrl hR (by omega)) ?_;(iterate 2 refine Aa Z Z Z Z Z O ?_);refine Ab ?_;refine At.inBlock ?_;refine At.region ?_;refine Aa Z Z Z Z Z (by omega) ?_;refine Aa Z Z Z Z Z O ?_;refine Ab ?_
     refine Aq ((again2 ⟨(i + 1,_),hlt2,hm2.symm⟩ (by simp;omega)))
   ·simp only [List.cons.injEq,and_true,decide_eq_true_eq] at h46
    obtain ⟨rfl,rfl,rfl⟩ := h46
    refine Ae Z Z Z Z (q_iaA Z Z Z (by dsimp only;omega)) ?_;refine Af 0 Z Z Z Z Z Z Z Z Z ?_;refine Ad Z Z Z Z Z fun b50 h50 => ?_;refine Aa Z Z Z Z Z O ?_;refine Ab ?_
    have e : b50 = true := by rw [← h50];rfl
    subst e
    have hall : ∀ y ∈ rowsOf B ss[j],y = 0 := by
     intro y hy
     rw [hrk] at hy
     have := List.mem_of_mem_take hy
     simpa using this
    have hms : leaveM B ss[j] = (statesM B).length := by
     unfold leaveM
     rw [mostM_same 0 hall (by omega),hrl]
    rw [hms,if_neg (by simp only at hle;omega)] at hst
    refine At.cond Z ?_;refine At.exit rfl ?_;refine At.region ?_;refine Aa Z Z Z Z Z (by omega) ?_;refine Aa Z Z Z Z Z O ?_;refine Ab ?_
    refine Aq ((again ⟨(j + 1,w,lf),hlt,hst.symm⟩ (by simp;omega)))
 ·simp only [ne_eq,hr,not_false_eq_true,if_true] at hc
  refine At.seq (At.region ?_);refine An Z Z Z Z Z Z Z fun r2 => ?_;(iterate 3 refine Aa Z Z Z Z Z O ?_);refine Ab (At.seq (At.region ?_));refine Af 0 Z Z Z Z Z Z Z Z Z ?_;refine Aa Z Z Z Z Z O ?_;refine Ae Z Z Z Z (q_build Z Z Z) ?_;refine Aa Z Z Z Z Z O ?_
  (refine At.l Z Z Z Z (l_buildSlice Z Z Z Z Z) ?_;rintro _ _ ⟨r21,rfl,rfl⟩)
  refine Ai Z Z Z Z Z Z Z Z (s74n L _ (fs := [_]) hOp.a (by rw [hk];exact hr) rfl (rd_own 0 Z Z) (bars_lookL L _ rfl hS.a hl) (by simp)) ?_
  rw [hk]
  (iterate 3 refine Aa Z Z Z Z Z O ?_);refine Al Z Z Z Z Z fun r7 => ?_;refine Ag 0 Z Z Z Z Z Z Z Z Z Z Z Z ?_;refine Aa Z Z Z Z Z O ?_;refine Ab (At.seq (At.seq (At.region ?_)));refine Aa Z Z Z Z Z O ?_;refine Ad Z Z Z Z Z fun b26 h26 => ?_;refine Ab ?_
  have e : b26 = true := by rw [← h26];simpa using hr
  subst e
  refine At.cond Z ?_;refine At.seq (At.region ?_);(iterate 4 refine Aa Z Z Z Z Z O ?_);refine Ab ?_
  exact At.ret Tryz.func28 (.inr ⟨_,rfl⟩) rfl (.tmp rfl (.tmp rfl (.tmp rfl .nil))) (wk (hc _ _ (⟨rfl,rfl⟩)))
end Go.Gx
end
section
namespace Go.Gx
open Go Go.Conc Go.Proofs
variable {main : Bool}
theorem Rd.none {α : Type} {c : α → List Value} {sz : Nat} [he : Enc c sz] {H : Facts} {xs : List α} (h : Rd H none (xs.flatMap c)) : xs = [] := by
 rcases h with h | ⟨_,_,h,_⟩
 ·cases xs with
  | nil => rfl
  | cons x xs =>
   have := congrArg List.length h
   rw [flat_len (c := c)] at this
   simp only [List.length_cons,List.length_nil] at this
   have hp := Nat.mul_pos (show 0 < xs.length + 1 by omega) he.pos
   omega
 ·cases h
set_option maxRecDepth 100000 in
theorem s84 (L : Lg Tryz.prog main) (H : Facts) {a : Option Addr} {xs : List (R2 × Int)} {n cap : Nat} (hn : xs.length = n) (hr : Rd H a (xs.flatMap c3)) (hs : xs.length ≤ 1000) :
  Grows L 84 #[.slice a n cap] H (fun v sf => Sl c3 72 v xs sf) := by
 subst hn
 refine Spec.enter Tryz.func84 rfl (by simp [Tryz.f84]) fun c cs hc => ?_
 cases a with
 | none =>
  obtain rfl := hr.none
  refine At.seq (At.region ?_);refine Aa Z Z Z Z Z O ?_;refine Ab (At.seq (At.seq (At.region ?_)));refine Aa Z Z Z Z Z O ?_;refine At.qb Z Z Z Z (q_isNil Z Z) fun b4 h4 => ?_;refine Ab ?_
  have e : b4 = true := by rw [← h4];rfl
  subst e
  refine At.cond Z ?_;refine At.seq (At.region ?_);refine Aa Z Z Z Z Z O ?_;refine Ab ?_
  exact At.ret Tryz.func84 (.inr ⟨_,rfl⟩) rfl (.tmp rfl .nil) (wk (hc _ _ (⟨[],Sl.nil,rfl⟩)))
 | some p =>
  refine At.seq (At.region ?_);refine Aa Z Z Z Z Z O ?_;refine Ab (At.seq (At.seq (At.region ?_)));refine Aa Z Z Z Z Z O ?_;refine At.qb Z Z Z Z (q_isNil Z Z) fun b4 h4 => ?_;refine Ab ?_
  have e : b4 = false := by rw [← h4];rfl
  subst e
  refine At.cond Z ?_;refine At.skip (At.seq (At.region ?_))
  (refine At.l Z Z Z Z (l_buildSlice Z Z Z Z Z) ?_;rintro _ _ ⟨r5,rfl,rfl⟩)
  refine Aa Z Z Z Z Z O ?_
  rcases Nat.eq_zero_or_pos xs.length with h0 | h0
  ·obtain rfl := List.eq_nil_of_length_eq_zero h0
   refine At.l Z Z Z Z (l_appI 0 (t := 25) (t' := 25) (vs := []) (rest := []) (ws := []) Z Z Z Z Z Z Z Z Z (.inl rfl) rfl (by simp) (by omega) rfl) ?_
   rintro _ _ ⟨rfl,rfl⟩
   refine Aa Z Z Z Z Z O ?_;refine Ab ?_
   exact At.ret Tryz.func84 (.inr ⟨_,rfl⟩) rfl (.tmp rfl .nil) (wk (hc _ _ (⟨[_],IsSl.own r5 0 0 [] [] Z Z (by omega),rfl⟩)))
  ·refine At.appE Z Z Z Z Z Z Z Z Z Z Z Z Z hr rfl h0 (by omega) fun v sf hv => ?_
   refine Aa Z Z Z Z Z O ?_;refine Ab ?_
   exact At.ret Tryz.func84 (.inr ⟨_,rfl⟩) rfl (.tmp rfl .nil) (wk (hc _ _ (⟨sf,hv,rfl⟩)))
set_option maxRecDepth 100000 in
theorem s123 (L : Lg Tryz.prog main) (H : Facts) {a : Option Addr} {xs : List R2} {n cap : Nat} (hn : xs.length = n) (hr : Rd H a (xs.flatMap c2)) (hs : xs.length ≤ 1000) :
  Grows L 123 #[.slice a n cap] H (fun v sf => Sl c2 89 v xs sf) := by
 subst hn
 refine Spec.enter Tryz.func123 rfl (by simp [Tryz.f123]) fun c cs hc => ?_
 cases a with
 | none =>
  obtain rfl := hr.none
  refine At.seq (At.region ?_);refine Aa Z Z Z Z Z O ?_;refine Ab (At.seq (At.seq (At.region ?_)));refine Aa Z Z Z Z Z O ?_;refine At.qb Z Z Z Z (q_isNil Z Z) fun b4 h4 => ?_;refine Ab ?_
  have e : b4 = true := by rw [← h4];rfl
  subst e
  refine At.cond Z ?_;refine At.seq (At.region ?_);refine Aa Z Z Z Z Z O ?_;refine Ab ?_
  exact At.ret Tryz.func123 (.inr ⟨_,rfl⟩) rfl (.tmp rfl .nil) (wk (hc _ _ (⟨[],Sl.nil,rfl⟩)))
 | some p =>
  refine At.seq (At.region ?_);refine Aa Z Z Z Z Z O ?_;refine Ab (At.seq (At.seq (At.region ?_)));refine Aa Z Z Z Z Z O ?_;refine At.qb Z Z Z Z (q_isNil Z Z) fun b4 h4 => ?_;refine Ab ?_
  have e : b4 = false := by rw [← h4];rfl
  subst e
  refine At.cond Z ?_;refine At.skip (At.seq (At.region ?_))
  (refine At.l Z Z Z Z (l_buildSlice Z Z Z Z Z) ?_;rintro _ _ ⟨r5,rfl,rfl⟩)
  refine Aa Z Z Z Z Z O ?_
  rcases Nat.eq_zero_or_pos xs.length with h0 | h0
  ·obtain rfl := List.eq_nil_of_length_eq_zero h0
   refine At.l Z Z Z Z (l_appI 0 (t := 22) (t' := 22) (vs := []) (rest := []) (ws := []) Z Z Z Z Z Z Z Z Z (.inl rfl) rfl (by simp) (by omega) rfl) ?_
   rintro _ _ ⟨rfl,rfl⟩
   refine Aa Z Z Z Z Z O ?_;refine Ab ?_
   exact At.ret Tryz.func123 (.inr ⟨_,rfl⟩) rfl (.tmp rfl .nil) (wk (hc _ _ (⟨[_],IsSl.own r5 0 0 [] [] Z Z (by omega),rfl⟩)))
  ·refine At.appE Z Z Z Z Z Z Z Z Z Z Z Z Z hr rfl h0 (by omega) fun v sf hv => ?_
   refine Aa Z Z Z Z Z O ?_;refine Ab ?_
   exact At.ret Tryz.func123 (.inr ⟨_,rfl⟩) rfl (.tmp rfl .nil) (wk (hc _ _ (⟨sf,hv,rfl⟩)))
def BkO (B : Bk) (A : BkA) (sf : Facts) : Prop := ∃ sp sm,sf = sm ++ sp ∧ Sl c2 89 (.slice A.pa B.prof.length A.pc) B.prof sp ∧ Sl c3 72 (.slice A.ma B.marks.length A.mc) B.marks sm
theorem BkO.r {B : Bk} {A : BkA} {sf : Facts} (h : BkO B A sf) : BkR sf B A := by
 obtain ⟨sp,sm,rfl,h1,h2⟩ := h
 obtain ⟨_,r1,_⟩ := h1.rd
 obtain ⟨_,r2,_⟩ := h2.rd
 exact ⟨r1.a,r2.a⟩
set_option maxRecDepth 100000 in
set_option maxHeartbeats 4000000 in
theorem s85 (L : Lg Tryz.prog main) (H : Facts) {B : Bk} {A : BkA} (hO : Opn H B A) :
  Grows L 85 #[bkV B A] H (fun v sf => (knownBar B [] ≠ 0 → v = .tuple #[bkZ,.int .i64 (knownBar B [])]) ∧ (knownBar B [] = 0 → ∃ A',v = .tuple #[bkV B A',.int .i64 0] ∧ BkO B A' sf)) := by
 refine Spec.enter Tryz.func85 rfl (by simp [Tryz.f85]) fun c cs hc => ?_
 generalize hk : knownBar B [] = r at hc
 by_cases hr : r = 0
 ·subst hr
  obtain ⟨hz,hf,h0⟩ := knownBar_pos hk
  have hb := bounds_of_bar hz
  have hB := hO.r
  have hrp := hB.p
  have hrm := hB.m
  refine At.seq (At.region ?_);refine An Z Z Z Z Z Z Z fun r1 => ?_;refine Al Z Z Z Z Z fun r2 => ?_;refine Aa Z Z Z Z Z O ?_;refine Ab (At.seq (At.seq (At.region ?_)));refine Af 1 Z Z Z Z Z Z Z Z Z ?_;refine Ay Z Z Z Z Z Z Z Z (s74z L _ (fs := []) (rs := []) hO.a hz rfl (by omega) rfl (.inl rfl) Bars.nil (by simp)) ?_
  rintro _ _ ⟨sf,⟨a,cap,rfl,hst⟩,rfl⟩
  (iterate 3 refine Aa Z Z Z Z Z O ?_);refine Al Z Z Z Z Z fun r4 => ?_;refine Ag 0 Z Z Z Z Z Z Z Z Z Z Z Z ?_;refine Aa Z Z Z Z Z O ?_;refine Ab (At.seq (At.region ?_));refine Aa Z Z Z Z Z O ?_;refine Ad Z Z Z Z Z fun b12 h12 => ?_;refine Ab ?_
  have e : b12 = false := by rw [← h12];rfl
  subst e
  refine At.cond Z ?_;refine At.skip (At.seq ?_)
  refine At.weakH (H' := .own r2 (.cells #[.slice none 0 0,.int .i64 0,.int .i64 0,.int .i64 0,.slice none 0 0] 27 (0,0)) :: .own r1 (.cells (List.toArray (bkC B A)) 27 (0,0)) :: H) ?_ (((Sub.refl _).dropL _).drop _)
  refine Bd hmix (_) sb ?_
  have stopPhase := trivial
  refine Am 0 0 Z Z Z Z Z Z Z Z Z ?_;refine Aj 1 1 Z Z Z Z Z Z Z Z Z Z Z ?_;refine Am 4 3 Z Z Z Z Z Z Z Z Z ?_;refine Aj 1 4 Z Z Z Z Z Z Z Z Z Z Z ?_;refine Pool.cl 2 Z Z Z Z Z Z Z Z Z Z Z Z Z Z (fun H_ hs_ => s123 L H_ (xs := B.prof) rfl (hrp.more ((((Sub.refl _).drop _).drop _).trans hs_)) (by omega)) sb ?_
  intro vp sp hsp
  obtain ⟨ap,cp,rfl⟩ := hsp.slice
  refine Am 0 6 Z Z Z Z Z Z Z Z Z ?_;refine Pool.cl 5 Z Z Z Z Z Z Z Z Z Z Z Z Z Z (fun H_ hs_ => s84 L H_ (xs := B.marks) rfl (hrm.more (((((Sub.refl _).drop _).drop _).dropL _).trans hs_)) (by omega)) sb ?_
  intro vm sm hsm
  obtain ⟨am,cm,rfl⟩ := hsm.slice
  skip
  clear stopPhase
  refine Pool.flush 7 (Hq' := H) Z Z Z Z Z Z (((((Sub.refl _).drop _).drop _).dropL _).dropL _) ?_
  refine Pool.weakH (H' := .own r2 (.cells #[.slice none 0 0,.int .i64 0,.int .i64 0,.int .i64 0,.slice none 0 0] 27 (0,0)) :: .own r1 (.cells (List.toArray (bkC B A)) 27 (0,0)) :: (sm ++ (sp ++ H))) ?_ (Sub.of_perm ?_) ((((Sub.refl _).dropL _).dropL _).drop _ |>.drop _)
  rotate_left
  ·exact ((List.perm_append_comm_assoc [_,_] sm (sp ++ H)).trans ((List.perm_append_comm_assoc [_,_] sp H).append_left sm))
  refine Ba 1 7 Z Z Z Z Z Z Z Z Z Z Z Z Z Z Z Z Z Z sb ?_;refine Am 4 8 Z Z Z Z Z Z Z Z Z ?_;refine Ba 1 9 Z Z Z Z Z Z Z Z Z Z Z Z Z Z Z Z Z Z sb ?_;refine pool_done Z Z ?_;refine Ab (At.seq (At.region ?_));refine Af 1 Z Z Z Z Z Z Z Z Z ?_;refine Ag 0 Z Z Z Z Z Z Z Z Z Z Z Z ?_;refine Aa Z Z Z Z Z O ?_
  refine Ab ?_
  exact At.ret Tryz.func85 (.inr ⟨_,rfl⟩) rfl (.aggJ 0 Z Z Z (.tmp rfl .nil)) (wk (hc _ _ (⟨sm ++ sp,⟨fun h => absurd rfl h,fun _ => ⟨⟨ap,cp,am,cm⟩,rfl,sp,sm,rfl,hsp,hsm⟩⟩,(List.append_assoc _ _ _).symm⟩)))
 ·refine At.seq ?_
  refine At.region ?_;refine An Z Z Z Z Z Z Z fun r1 => ?_;refine Al Z Z Z Z Z fun r2 => ?_;refine Aa Z Z Z Z Z O ?_;refine Ab (At.seq (At.seq (At.region ?_)));refine Af 1 Z Z Z Z Z Z Z Z Z ?_;refine Ai Z Z Z Z Z Z Z Z (s74n L _ (fs := []) (rs := []) hO.a (by rw [hk];exact hr) rfl (.inl rfl) Bars.nil (by simp)) ?_
  rw [hk]
  (iterate 3 refine Aa Z Z Z Z Z O ?_);refine Al Z Z Z Z Z fun r4 => ?_;refine Ag 0 Z Z Z Z Z Z Z Z Z Z Z Z ?_;refine Aa Z Z Z Z Z O ?_;refine Ab (At.seq (At.region ?_));refine Aa Z Z Z Z Z O ?_;refine Ad Z Z Z Z Z fun b12 h12 => ?_;refine Ab ?_
  have e : b12 = true := by rw [← h12];simpa using hr
  subst e
  refine At.cond Z ?_;refine At.seq (At.region ?_);refine Ae Z Z Z Z (q_build Z Z Z) ?_;refine Aa Z Z Z Z Z O ?_;refine Ag 1 Z Z Z Z Z Z Z Z Z Z Z Z ?_;refine Aa Z Z Z Z Z O ?_;refine Ab ?_
  exact At.ret Tryz.func85 (.inr ⟨_,rfl⟩) rfl (.aggJ 1 Z Z Z (.tmp rfl .nil)) (wk (hc _ _ (⟨[],⟨fun _ => rfl,fun h => absurd h hr⟩,rfl⟩)))
end Go.Gx
end
section
namespace Go.Gx
open Go Go.Conc Go.Proofs
variable {main : Bool}
def markedM (B : Bk) (m : R2 × Int) : Bk := { B with marks := B.marks ++ [m] }
def markBarM (B : Bk) (m : R2 × Int) : Int := if bookBar B ≠ 0 then bookBar B else knownBar (markedM B m) []
set_option maxRecDepth 100000 in
set_option maxHeartbeats 4000000 in
theorem s29 (L : Lg Tryz.prog main) (H : Facts) {B : Bk} {A : BkA} {m : R2 × Int} (hO : Opn H B A) :
  Grows L 29 #[bkV B A,mV m] H (fun v sf => (markBarM B m ≠ 0 → v = .tuple #[bkZ,.int .i64 (markBarM B m)]) ∧ (markBarM B m = 0 → ∃ A',v = .tuple #[bkV (markedM B m) A',.int .i64 0] ∧ BkO (markedM B m) A' sf)) := by
 refine Spec.enter Tryz.func29 rfl (by simp [Tryz.f29]) fun c cs hc => ?_
 unfold markBarM at hc
 have hg := hO.g
 have hB := hO.r
 have hlp := hO.lp
 have hlm := hO.lm
 by_cases hz : bookBar B = 0
 ·simp only [hz,ne_eq,not_true_eq_false,if_false] at hc
  have hrm := hB.m
  have hb := bounds_of_bar hz
  refine At.seq (At.region ?_);refine An Z Z Z Z Z Z Z fun r2 => ?_;refine An Z Z Z Z Z Z Z fun r3 => ?_;refine Al Z Z Z Z Z fun r4 => ?_;refine Aa Z Z Z Z Z O ?_;refine Ab (At.seq (At.seq (At.region ?_)));refine Af 2 Z Z Z Z Z Z Z Z Z ?_;refine Ai Z Z Z Z Z Z Z Z (s32 L _ bs bs bs bs) ?_;refine Aa Z Z Z Z Z O ?_;refine Ab (At.seq (At.region ?_))
  refine Aa Z Z Z Z Z O ?_;refine Ad Z Z Z Z Z fun b10 h10 => ?_;refine Ab ?_
  have e : b10 = false := by rw [← h10];simp [hz]
  subst e
  refine At.cond Z ?_;refine At.skip (At.seq ?_)
  refine At.cutk (X := { x : Option Addr × Nat × Facts // Sl c3 72 (.slice x.1 (B.marks.length + 1) x.2.1) (B.marks ++ [m]) x.2.2 }) [2,3,4,5] (fun _ => []) (fun x => .own r4 (.cells #[.slice none 0 0,.int .i64 0,.int .i64 0,.int .i64 0,.slice none 0 0] 27 (0,0)) :: .own r2 (.cells #[.slice A.pa B.prof.length A.pc,.int .i64 B.size,.int .i64 B.lo,.int .i64 B.hi,.slice x.1.1 (B.marks.length + 1) x.1.2.1] 27 (0,0)) :: (x.1.2.2 ++ H)) rfl ?_ fun key => ?_
  ·rintro ⟨⟨a,cp,sm⟩,hsm⟩
   simp only at hsm ⊢
   have e : (markedM B m).marks.length = B.marks.length + 1 := by simp [markedM]
   rw [← e]
   refine At.weakH (H' := .own r4 (.cells #[.slice none 0 0,.int .i64 0,.int .i64 0,.int .i64 0,.slice none 0 0] 27 (0,0)) :: .own r2 (.cells (List.toArray (bkC (markedM B m) ⟨A.pa,A.pc,a,cp⟩)) 27 (0,0)) :: (sm ++ H)) ?_ (Sub.refl _)
   have hsm2 : Sl c3 72 (.slice a (markedM B m).marks.length cp) (markedM B m).marks sm := by
    rw [e];exact hsm
   obtain ⟨_,hrd,_⟩ := hsm2.rd
   have hO2 : Opn (.own r4 (.cells #[.slice none 0 0,.int .i64 0,.int .i64 0,.int .i64 0,.slice none 0 0] 27 (0,0)) :: .own r2 (.cells (List.toArray (bkC (markedM B m) ⟨A.pa,A.pc,a,cp⟩)) 27 (0,0)) :: (sm ++ H)) (markedM B m) ⟨A.pa,A.pc,a,cp⟩ := ⟨hg.a,⟨hB.p.a,hrd.a⟩,hlp,by simp [markedM];omega⟩
   refine At.seq (At.region ?_);refine Af 1 Z Z Z Z Z Z Z Z Z ?_;refine Ay Z Z Z Z Z Z Z Z (s85 L _ hO2) ?_
   rintro _ _ ⟨sf,⟨h1,h2⟩,rfl⟩
   by_cases hr : knownBar (markedM B m) [] = 0
   ·obtain ⟨A',rfl,hbo⟩ := h2 hr
    refine At.weakH (H' := .own r4 (.cells #[.slice none 0 0,.int .i64 0,.int .i64 0,.int .i64 0,.slice none 0 0] 27 (0,0)) :: (sf ++ H)) ?_ (((((Sub.refl H).dropL sm).drop _).appL sf |>.cons _).trans (Sub.of_perm List.perm_middle.symm))
    (iterate 2 refine Aa Z Z Z Z Z O ?_);refine Ag 0 Z Z Z Z Z Z Z Z Z Z Z Z ?_;refine Aa Z Z Z Z Z O ?_;refine Ab ?_
    exact At.ret Tryz.func29 (.inr ⟨_,rfl⟩) rfl (.aggJ 0 Z Z Z (.tmp rfl .nil)) (wk (hc _ _ (⟨sf,⟨fun h => absurd hr h,fun _ => ⟨A',rfl,hbo⟩⟩,rfl⟩)))
   ·obtain rfl := h1 hr
    refine At.weakH (H' := .own r4 (.cells #[.slice none 0 0,.int .i64 0,.int .i64 0,.int .i64 0,.slice none 0 0] 27 (0,0)) :: H) ?_ (((((Sub.refl H).dropL sm).drop _).cons _).dropL sf)
    (iterate 2 refine Aa Z Z Z Z Z O ?_);refine Ag 0 Z Z Z Z Z Z Z Z Z Z Z Z ?_;refine Aa Z Z Z Z Z O ?_;refine Ab ?_
    exact At.ret Tryz.func29 (.inr ⟨_,rfl⟩) rfl (.aggJ 0 Z Z Z (.tmp rfl .nil)) (wk (hc _ _ (⟨[],⟨fun h => rfl,fun h => absurd h hr⟩,rfl⟩)))
  ·refine Bd hmix (_) sb ?_
   have stopPhase := trivial
   refine Am 4 0 Z Z Z Z Z Z Z Z Z ?_;refine Aj 2 1 Z Z Z Z Z Z Z Z Z Z Z ?_;refine Aj 1 3 Z Z Z Z Z Z Z Z Z Z Z ?_
   refine Pool.two 2 4 Z Z Z Z Z (loud_gr Z Z Z Z Z Z Z Z Z (fun H_ hs_ => s84 L H_ (xs := B.marks) rfl (hrm.more ((((Sub.refl _).drop _).drop _).drop _ |>.trans hs_)) (by omega)) (Sub.refl _) fun v sm hsm => ?_) (loud_bs Z Z Z Z Z Z Z Z Z Z (Sub.refl _) fun r17 => ?_)
   ·refine Pool.bs 4 Z Z Z Z Z Z Z Z Z Z Z Z Z Z Z sb fun r17 => ?_
    refine Pool.push (x := m) 5 0 1 Z Z Z Z Z Z Z Z Z Z Z Z Z Z Z Z Z Z Z Z Z hsm Z Z Z ((Sub.refl _).drop _) (by omega) fun v' sm' hs' => ?_
    obtain ⟨a',cp',rfl⟩ := hs'.slice
    simp only [List.length_append,List.length_cons,List.length_nil,Nat.zero_add] at hs' ⊢
    refine Am 4 6 Z Z Z Z Z Z Z Z Z ?_
    clear stopPhase
    refine Pool.flush 7 (Hq' := H) Z Z Z Z Z Z (((((Sub.refl _).drop _).drop _).drop _).dropL _ |>.drop _) ?_
    refine Pool.weakH (H' := .own r4 (.cells #[.slice none 0 0,.int .i64 0,.int .i64 0,.int .i64 0,.slice none 0 0] 27 (0,0)) :: .own r2 (.cells (List.toArray (bkC B A)) 27 (0,0)) :: (sm' ++ H)) ?_ (((Sub.of_perm (List.perm_append_comm_assoc [_,_] sm' H)).trans ((((Sub.refl _).cons _ |>.drop _).cons _).appL sm')).drop _) (((Sub.refl _).dropL _).drop _ |>.drop _)
    refine Ba 1 7 Z Z Z Z Z Z Z Z Z Z Z Z Z Z Z Z Z Z sb ?_;refine pool_done Z Z ?_;refine Ab ?_
    refine Aq ((key ⟨(a',cp',sm'),hs'⟩))
   ·skip
    refine Pool.cl 2 Z Z Z Z Z Z Z Z Z Z Z Z Z Z (fun H_ hs_ => s84 L H_ (xs := B.marks) rfl (hrm.more (((((Sub.refl _).drop _).drop _).drop _).drop _ |>.trans hs_)) (by omega)) sb ?_
    intro v sm hsm
    refine Pool.weakH (H' := .own r17 (.cells (List.toArray (c3 m)) 72 (0,0)) :: (sm ++ (.own r4 (.cells #[.slice none 0 0,.int .i64 0,.int .i64 0,.int .i64 0,.slice none 0 0] 27 (0,0)) :: .own r3 (.cells (List.toArray (c3 m)) 72 (0,0)) :: .own r2 (.cells (List.toArray (bkC B A)) 27 (0,0)) :: H))) ?_ (Sub.of_perm List.perm_middle.symm) (((Sub.refl _).dropL _).drop _)
    skip
    refine Pool.push (x := m) 5 0 1 Z Z Z Z Z Z Z Z Z Z Z Z Z Z Z Z Z Z Z Z Z hsm Z Z Z ((Sub.refl _).drop _) (by omega) fun v' sm' hs' => ?_
    obtain ⟨a',cp',rfl⟩ := hs'.slice
    simp only [List.length_append,List.length_cons,List.length_nil,Nat.zero_add] at hs' ⊢
    refine Am 4 6 Z Z Z Z Z Z Z Z Z ?_
    clear stopPhase
    refine Pool.flush 7 (Hq' := H) Z Z Z Z Z Z (((((Sub.refl _).drop _).drop _).drop _).dropL _ |>.drop _) ?_
    refine Pool.weakH (H' := .own r4 (.cells #[.slice none 0 0,.int .i64 0,.int .i64 0,.int .i64 0,.slice none 0 0] 27 (0,0)) :: .own r2 (.cells (List.toArray (bkC B A)) 27 (0,0)) :: (sm' ++ H)) ?_ (((Sub.of_perm (List.perm_append_comm_assoc [_,_] sm' H)).trans ((((Sub.refl _).cons _ |>.drop _).cons _).appL sm')).drop _) (((Sub.refl _).dropL _).drop _ |>.drop _)
    refine Ba 1 7 Z Z Z Z Z Z Z Z Z Z Z Z Z Z Z Z Z Z sb ?_;refine pool_done Z Z ?_;refine Ab ?_
    refine Aq ((key ⟨(a',cp',sm'),hs'⟩))
 ·simp only [if_pos hz] at hc
  refine At.seq (At.region ?_);refine An Z Z Z Z Z Z Z fun r2 => ?_;refine An Z Z Z Z Z Z Z fun r3 => ?_;refine Al Z Z Z Z Z fun r4 => ?_;refine Aa Z Z Z Z Z O ?_;refine Ab (At.seq (At.seq (At.region ?_)));refine Af 2 Z Z Z Z Z Z Z Z Z ?_;refine Ai Z Z Z Z Z Z Z Z (s32 L _ bs bs bs bs) ?_;refine Aa Z Z Z Z Z O ?_;refine Ab (At.seq (At.region ?_))
  refine Aa Z Z Z Z Z O ?_;refine Ad Z Z Z Z Z fun b10 h10 => ?_;refine Ab ?_
  have e : b10 = true := by rw [← h10];simpa using hz
  subst e
  refine At.cond Z ?_;refine At.seq (At.region ?_);refine Ae Z Z Z Z (q_build Z Z Z) ?_;refine Aa Z Z Z Z Z O ?_;refine Ag 0 Z Z Z Z Z Z Z Z Z Z Z Z ?_;refine Aa Z Z Z Z Z O ?_;refine Ab ?_
  exact At.ret Tryz.func29 (.inr ⟨_,rfl⟩) rfl (.aggJ 0 Z Z Z (.tmp rfl .nil)) (wk (hc _ _ (⟨[],⟨fun _ => rfl,fun h => absurd h hz⟩,rfl⟩)))
end Go.Gx
end
section
namespace Go.Gx
open Go Go.Conc Go.Proofs
variable {main : Bool}
def sightF (l : List Value) : Value := .func (.func 62) (List.toArray [.agg (List.toArray l)]) #[]
set_option maxRecDepth 100000 in
theorem spec_sights (L : Lg Tryz.prog main) (H : Facts) {f t : Int × R2} {e r a b s : Value} : SpecV L (sightF (lookC e r a b s (.int .i64 f.1) (.int .i64 f.2.1) (.int .i64 f.2.2) (.int .i64 t.1) (.int .i64 t.2.1) (.int .i64 t.2.2))) #[] H (fun v H'' => v = .int .i64 (sightsBar f t) ∧ H'' = H) := SpecV.ofL (args := []) (cap := []) rfl (s62 L H)
set_option maxRecDepth 100000 in
theorem bars_look2 (L : Lg Tryz.prog main) (H : Facts) (eye : Int) (f t : Int × R2) : Bars L H [eyedF (look2 eye f t),sightF (look2 eye f t)] [hBar eye,sightsBar f t] :=
 .cons (fun H' _ => spec_eyed L H') (.cons (fun H' _ => spec_sights L H') .nil)
theorem sights0 {f t : Int × R2} (h : sightsBar f t = 0) : SightOk f ∧ SightOk t ∧ f.1 < t.1 ∧ slopeBar f.2.1 f.2.2 = 0 ∧ slopeBar t.2.1 t.2.2 = 0 := by
 unfold sightsBar at h
 by_cases e1 : slopeBar f.2.1 f.2.2 = 0
 ·rw [if_neg (by simpa using e1)] at h
  by_cases e2 : slopeBar t.2.1 t.2.2 = 0
  ·rw [if_neg (by simpa using e2)] at h
   split at h
   ·omega
   split at h
   ·omega
   have a1 := slOk_of_bar e1
   have a2 := slOk_of_bar e2
   unfold SightOk
   refine ⟨by omega,by omega,by omega,e1,e2⟩
  ·rw [if_pos e2] at h;exact absurd h e2
 ·rw [if_pos e1] at h;exact absurd h e1
def thingM (B : Bk) (eye : Int) (f t : Int × R2) : List R2 × Int :=
 if lookBar B [hBar eye,sightsBar f t] ≠ 0 then ([],lookBar B [hBar eye,sightsBar f t])
 else match thingTo B eye f t ((t.1 - f.1).toNat + 1) with
  | none => ([],8)
  | some l => (l,0)
theorem look20 {B : Bk} {a b : Int} (h : lookBar B [a,b] = 0) : bookBar B = 0 ∧ a = 0 ∧ b = 0 := by
 by_cases hz : bookBar B = 0
 ·rw [lookBar1 hz,firstBar2] at h
  by_cases ha : a = 0
  ·rw [if_neg (by simpa using ha)] at h;exact ⟨hz,ha,h⟩
  ·rw [if_pos ha] at h;exact absurd h ha
 ·rw [lookBarN hz] at h;exact absurd h hz
set_option maxRecDepth 100000 in
set_option maxHeartbeats 4000000 in
theorem s19 (L : Lg Tryz.prog main) (H : Facts) {B : Bk} {A : BkA} {eye : Int} {f t : Int × R2} (hO : Opn H B A) :
  Grows L 19 #[bkV B A,.int .i64 eye,.agg (List.toArray (cI3 f)),.agg (List.toArray (cI3 t))] H (fun v sf => ∃ a cap,v = .tuple #[.slice a (thingM B eye f t).1.length cap,.int .i64 (thingM B eye f t).2] ∧ Sl c2 40 (.slice a (thingM B eye f t).1.length cap) (thingM B eye f t).1 sf) := by
 refine Spec.enter Tryz.func19 rfl (by simp [Tryz.f19]) fun c cs hc => ?_
 unfold thingM at hc
 generalize hr : lookBar B [hBar eye,sightsBar f t] = r at hc
 by_cases h0 : r = 0
 ·subst h0
  obtain ⟨hz,he,hs⟩ := look20 hr
  obtain ⟨hf,ht,hlt,_,_⟩ := sights0 hs
  have he' := eyeOk_of he
  have hB := hO.r
  simp only [ne_eq,not_true_eq_false,if_false] at hc
  refine At.seq (At.region ?_);refine An Z Z Z Z Z Z Z fun r4 => ?_;refine An Z Z Z Z Z Z Z fun r6 => ?_;refine An Z Z Z Z Z Z Z fun r7 => ?_;(iterate 2 refine Aa Z Z Z Z Z O ?_);refine Ab (At.seq (At.region ?_));refine Aa Z Z Z Z Z O ?_;refine Af 1 Z Z Z Z Z Z Z Z Z ?_;refine Af 0 Z Z Z Z Z Z Z Z Z ?_;refine Ae Z Z Z Z (q_build Z Z Z) ?_
  refine Al Z Z Z Z Z fun r10 => ?_;refine Ag 0 Z Z Z Z Z Z Z Z Z Z Z Z ?_;refine Ab (At.seq (At.region ?_));refine Af 3 Z Z Z Z Z Z Z Z Z ?_;refine Af 0 Z Z Z Z Z Z Z Z Z ?_;refine Aa Z Z Z Z Z O ?_;refine Af 0 Z Z Z Z Z Z Z Z Z ?_;refine Aa Z Z Z Z Z O ?_
  (refine At.l Z Z Z Z (l_buildSlice Z Z Z Z Z) ?_;rintro _ _ ⟨r25,rfl,rfl⟩)
  refine Ai Z Z Z Z Z Z Z Z (s53z L _ (fs := [_,_]) hO.a hz rfl (rd_own 0 Z Z) (bars_look2 L _ eye f t) (by simp)) ?_
  have e0 : firstBar [hBar eye,sightsBar f t] = 0 := by simp [firstBar,he,hs]
  rw [e0]
  (iterate 3 refine Aa Z Z Z Z Z O ?_);refine Al Z Z Z Z Z fun r11 => ?_;refine Ag 0 Z Z Z Z Z Z Z Z Z Z Z Z ?_;refine Aa Z Z Z Z Z O ?_;refine Ab (At.seq (At.seq (At.region ?_)));refine Aa Z Z Z Z Z O ?_;refine Ad Z Z Z Z Z fun b30 h30 => ?_;refine Ab ?_
  have e : b30 = false := by rw [← h30];rfl
  subst e
  refine At.cond Z ?_;refine At.skip (At.seq (At.region ?_));refine Af 0 Z Z Z Z Z Z Z Z Z ?_;refine Aa Z Z Z Z Z O ?_;refine Af 4 Z Z Z Z Z Z Z Z Z ?_;refine Af 3 Z Z Z Z Z Z Z Z Z ?_;refine Ay Z Z Z Z Z Z Z Z (s63 L _ (st := (t.1 - f.1).toNat) hB.a hz he' hf ht (by omega) (by omega)) ?_
  rintro _ _ ⟨sf,⟨a,cap,rfl,hsl⟩,rfl⟩
  cases hth : thingTo B eye f t ((t.1 - f.1).toNat + 1) with
  | none =>
   simp only [hth] at hc
   (iterate 5 refine Aa Z Z Z Z Z O ?_);refine Ab (At.seq (At.seq (At.region ?_)));(iterate 2 refine Aa Z Z Z Z Z O ?_);refine Ab ?_;refine At.cond Z ?_;refine At.seq (At.region ?_);(iterate 2 refine Aa Z Z Z Z Z O ?_);refine Ab ?_
   exact At.ret Tryz.func19 (.inr ⟨_,rfl⟩) rfl (.tmp rfl (.tmp rfl .nil)) (wk (hc _ _ (⟨[],⟨none,0,rfl,Sl.nil⟩,rfl⟩)))
  | some l =>
   simp only [hth] at hc
   rw [hth] at hsl
   (iterate 5 refine Aa Z Z Z Z Z O ?_);refine Ab (At.seq (At.seq (At.region ?_)));(iterate 2 refine Aa Z Z Z Z Z O ?_);refine Ab ?_;refine At.cond Z ?_;refine At.skip (At.seq (At.region ?_));(iterate 3 refine Aa Z Z Z Z Z O ?_);refine Ab ?_
   exact At.ret Tryz.func19 (.inr ⟨_,rfl⟩) rfl (.tmp rfl (.tmp rfl .nil)) (wk (hc _ _ (⟨sf,⟨a,cap,rfl,hsl⟩,rfl⟩)))
 ·simp only [if_pos (show r ≠ 0 from h0)] at hc
  by_cases hz : bookBar B = 0
  ·rw [lookBar1 hz] at hr
   refine At.seq (At.region ?_);refine An Z Z Z Z Z Z Z fun r4 => ?_;refine An Z Z Z Z Z Z Z fun r6 => ?_;refine An Z Z Z Z Z Z Z fun r7 => ?_;(iterate 2 refine Aa Z Z Z Z Z O ?_);refine Ab (At.seq (At.region ?_));refine Aa Z Z Z Z Z O ?_;refine Af 1 Z Z Z Z Z Z Z Z Z ?_;refine Af 0 Z Z Z Z Z Z Z Z Z ?_;refine Ae Z Z Z Z (q_build Z Z Z) ?_
   refine Al Z Z Z Z Z fun r10 => ?_;refine Ag 0 Z Z Z Z Z Z Z Z Z Z Z Z ?_;refine Ab (At.seq (At.region ?_));refine Af 3 Z Z Z Z Z Z Z Z Z ?_;refine Af 0 Z Z Z Z Z Z Z Z Z ?_;refine Aa Z Z Z Z Z O ?_;refine Af 0 Z Z Z Z Z Z Z Z Z ?_;refine Aa Z Z Z Z Z O ?_
   (refine At.l Z Z Z Z (l_buildSlice Z Z Z Z Z) ?_;rintro _ _ ⟨r25,rfl,rfl⟩)
   refine Ai Z Z Z Z Z Z Z Z (s53z L _ (fs := [_,_]) hO.a hz rfl (rd_own 0 Z Z) (bars_look2 L _ eye f t) (by simp)) ?_
   rw [hr]
   (iterate 3 refine Aa Z Z Z Z Z O ?_);refine Al Z Z Z Z Z fun r11 => ?_;refine Ag 0 Z Z Z Z Z Z Z Z Z Z Z Z ?_;refine Aa Z Z Z Z Z O ?_;refine Ab (At.seq (At.seq (At.region ?_)));refine Aa Z Z Z Z Z O ?_;refine Ad Z Z Z Z Z fun b30 h30 => ?_;refine Ab ?_
   have e : b30 = true := by rw [← h30];simpa using h0
   subst e
   refine At.cond Z ?_;refine At.seq (At.region ?_);(iterate 3 refine Aa Z Z Z Z Z O ?_);refine Ab ?_
   exact At.ret Tryz.func19 (.inr ⟨_,rfl⟩) rfl (.tmp rfl (.tmp rfl .nil)) (wk (hc _ _ (⟨[],⟨none,0,rfl,Sl.nil⟩,rfl⟩)))
  ·rw [lookBarN hz] at hr
   refine At.seq (At.region ?_);refine An Z Z Z Z Z Z Z fun r4 => ?_;refine An Z Z Z Z Z Z Z fun r6 => ?_;refine An Z Z Z Z Z Z Z fun r7 => ?_;(iterate 2 refine Aa Z Z Z Z Z O ?_);refine Ab (At.seq (At.region ?_));refine Aa Z Z Z Z Z O ?_;refine Af 1 Z Z Z Z Z Z Z Z Z ?_;refine Af 0 Z Z Z Z Z Z Z Z Z ?_;refine Ae Z Z Z Z (q_build Z Z Z) ?_
   refine Al Z Z Z Z Z fun r10 => ?_;refine Ag 0 Z Z Z Z Z Z Z Z Z Z Z Z ?_;refine Ab (At.seq (At.region ?_));refine Af 3 Z Z Z Z Z Z Z Z Z ?_;refine Af 0 Z Z Z Z Z Z Z Z Z ?_;refine Aa Z Z Z Z Z O ?_;refine Af 0 Z Z Z Z Z Z Z Z Z ?_;refine Aa Z Z Z Z Z O ?_
   (refine At.l Z Z Z Z (l_buildSlice Z Z Z Z Z) ?_;rintro _ _ ⟨r25,rfl,rfl⟩)
   refine Ai Z Z Z Z Z Z Z Z (s53n L _ hO.a hz) ?_
   rw [hr]
   (iterate 3 refine Aa Z Z Z Z Z O ?_);refine Al Z Z Z Z Z fun r11 => ?_;refine Ag 0 Z Z Z Z Z Z Z Z Z Z Z Z ?_;refine Aa Z Z Z Z Z O ?_;refine Ab (At.seq (At.seq (At.region ?_)));refine Aa Z Z Z Z Z O ?_;refine Ad Z Z Z Z Z fun b30 h30 => ?_;refine Ab ?_
   have e : b30 = true := by rw [← h30];simpa using h0
   subst e
   refine At.cond Z ?_;refine At.seq (At.region ?_);(iterate 3 refine Aa Z Z Z Z Z O ?_);refine Ab ?_
   exact At.ret Tryz.func19 (.inr ⟨_,rfl⟩) rfl (.tmp rfl (.tmp rfl .nil)) (wk (hc _ _ (⟨[],⟨none,0,rfl,Sl.nil⟩,rfl⟩)))
end Go.Gx
end
section
namespace Go.Gx
open Go Go.Conc Go.Proofs
variable {main : Bool}
def absM (n : Int) : Int := if -n > n then -n else n
def bendLess (a b : Int × R2) : Bool := lessW (absM b.2.1,b.2.2) (absM a.2.1,a.2.2)
def bdV (x : Int × R2) : Value := .agg (List.toArray (cI3 x))
set_option maxRecDepth 100000 in
set_option maxHeartbeats 1000000 in
theorem s67 (L : Lg Tryz.prog main) (H : Facts) {a b : Int × R2} (ha : InI (-a.2.1)) (hb : InI (-b.2.1)) : Pure L 67 #[bdV a,bdV b] H (.bool (bendLess a b)) := by
 refine Spec.enter Tryz.func67 rfl (by simp [Tryz.f67]) fun c cs hc => ?_;refine At.seq (At.region ?_);refine An Z Z Z Z Z Z Z fun r2 => ?_;refine An Z Z Z Z Z Z Z fun r3 => ?_;refine Aa Z Z Z Z Z O ?_;refine Ab (At.seq ?_);refine Aw hmix [] rfl ?_;refine Am 1 0 Z Z Z Z Z Z Z Z Z ?_;refine Am 1 1 Z Z Z Z Z Z Z Z Z ?_
 refine Aj 0 2 Z Z Z Z Z Z Z Z Z Z Z ?_;refine Ap 3 Z Z Z Z Z Z Z Z Z (fun H hs => s68 L H bs) ?_;refine Am 1 4 Z Z Z Z Z Z Z Z Z ?_;refine Am 2 5 Z Z Z Z Z Z Z Z Z ?_;refine Aj 0 6 Z Z Z Z Z Z Z Z Z Z Z ?_;refine Ak 7 Z Z Z Z Z (q_build Z Z Z) rfl ?_;refine Am 1 8 Z Z Z Z Z Z Z Z Z ?_
 refine Am 1 9 Z Z Z Z Z Z Z Z Z ?_;refine Aj 1 10 Z Z Z Z Z Z Z Z Z Z Z ?_;refine Ap 11 Z Z Z Z Z Z Z Z Z (fun H hs => s68 L H bs) ?_;refine Am 1 12 Z Z Z Z Z Z Z Z Z ?_;refine Am 2 13 Z Z Z Z Z Z Z Z Z ?_;refine Aj 1 14 Z Z Z Z Z Z Z Z Z Z Z ?_;refine Ak 15 Z Z Z Z Z (q_build Z Z Z) rfl ?_
 refine Pool.cqb 16 Z Z Z Z Z Z Z Z Z (fun H hs => s60 L H) fun b21 h21 => ?_;refine Ac 17 Z Z Z Z Z Z Z O ?_;refine pool_done Z Z ?_;refine Ab ?_
 exact At.ret Tryz.func67 (.inr ⟨_,rfl⟩) rfl (.tmp rfl .nil) (wk (hc _ _ (⟨by simp_all [resVal,bendLess,absM],rfl⟩)))
set_option maxRecDepth 100000 in
set_option maxHeartbeats 1000000 in
theorem s66 (L : Lg Tryz.prog main) (H : Facts) {fv : Value} {better : Int × R2 → Int × R2 → Bool} {one : Int × R2} {a : Option Addr} {l : List (Int × R2)} {n cap : Nat} (hn : l.length = n)
  (hb : ∀ H x y,x ∈ l → y ∈ one :: l → SpecV L fv #[bdV x,bdV y] H (fun v H' => v = .bool (better x y) ∧ H' = H)) (hr : Rd H a (l.flatMap cI3)) (hl : l.length ≤ 100000) :
  Pure L 66 #[fv,bdV one,.slice a n cap] H (bdV (bestM better one l)) := by
 subst hn
 refine Spec.enter Tryz.func66 rfl (by simp [Tryz.f66]) fun c cs hc => ?_;refine At.seq (At.region ?_);refine An Z Z Z Z Z Z Z fun r4 => ?_;refine Al Z Z Z Z Z fun r6 => ?_;refine Ab (At.seq (At.seq (At.region ?_)));refine Aa Z Z Z Z Z O ?_;refine Ao Z Z Z Z Z Z Z Z ?_;refine Aa Z Z Z Z Z O ?_;refine Ab ?_;refine At.block ?_
 refine Az (X := { j : Nat // j ≤ l.length }) [0,4,6,9,10] (fun x => [(11,.int .i64 (x.1 : Int))]) (fun x => .own r6 (.cells #[.int .i64 0,.int .i64 0,.int .i64 0] 136 (0,0)) :: .own r4 (.cells (List.toArray (cI3 (bestM better one (l.take x.1)))) 136 (0,0)) :: H) (fun x => l.length - x.1) (⟨0,Nat.zero_le _⟩) rfl ?_ (by repeat (first | exact trivial | refine ⟨rfl,?_⟩)) sb
 rintro ⟨j,hj⟩ again
 simp only at again ⊢
 refine At.seq (At.region ?_);refine Ad Z Z Z Z Z fun b12 h12 => ?_;refine Ab (At.seq ?_)
 cases b12
 ·have e : j = l.length := by simp at h12;omega
  subst e
  rw [List.take_length]
  refine At.cond Z ?_;refine At.exit rfl ?_;refine At.seq (At.region ?_);refine Af 1 Z Z Z Z Z Z Z Z Z ?_;refine Ag 0 Z Z Z Z Z Z Z Z Z Z Z Z ?_;refine Ab ?_
  exact At.ret Tryz.func66 (.inr ⟨_,rfl⟩) rfl (.aggJ 0 Z Z Z .nil) (wk (hc _ _ (⟨by rfl,rfl⟩)))
 ·have hlt : j < l.length := by simp at h12;omega
  obtain ⟨b,off,rfl,hc1⟩ := hr.el (List.getElem?_eq_getElem hlt)
  have et := bestM_snoc better one (l.take j) l[j]
  rw [← List.take_succ_eq_append_getElem hlt] at et
  have hm : bestM better one (l.take j) ∈ one :: l := by
   rcases List.mem_cons.1 (bestM_mem better one (l.take j)) with h | h
   ·rw [h];exact List.mem_cons_self ..
   ·exact List.mem_cons_of_mem _ (List.mem_of_mem_take h)
  refine At.cond Z ?_;refine At.skip (At.seq ?_);refine At.block ?_;refine At.seq (At.region ?_);refine Ae Z Z Z Z (q_ia Z Z Z (by assumption)) ?_;refine Au Z Z Z Z Z Z hc1.a Z Z ?_;refine Al Z Z Z Z Z fun r8 => ?_;refine Ag 0 Z Z Z Z Z Z Z Z Z Z Z Z ?_;refine Ab (At.seq (At.region ?_));refine Aa Z Z Z Z Z O ?_;refine Af 0 Z Z Z Z Z Z Z Z Z ?_
  refine Af 2 Z Z Z Z Z Z Z Z Z ?_;refine At.cv Z Z Z Z Z Z ((hb _ l[j] (bestM better one (l.take j)) (List.getElem_mem hlt) hm)) ?_
  rintro _ _ ⟨rfl,rfl⟩
  cases hbb : better l[j] (bestM better one (l.take j))
  ·rw [hbb,if_neg (by simp)] at et
   refine Ab ?_;refine At.cond Z ?_;refine At.skip ?_;refine At.inBlock ?_;refine At.region ?_;refine Aa Z Z Z Z Z (by omega) ?_;refine Aa Z Z Z Z Z O ?_;refine Ab ?_
   have ag := again ⟨j + 1,hlt⟩ (by simp;omega)
   simp only [et] at ag
   refine Aq (ag)
  ·rw [hbb,if_pos rfl] at et
   refine Ab ?_;refine At.cond Z ?_;refine At.region ?_;refine Af 0 Z Z Z Z Z Z Z Z Z ?_;refine Ag 2 Z Z Z Z Z Z Z Z Z Z Z Z ?_;refine Ab ?_;refine At.inBlock ?_;refine At.region ?_;refine Aa Z Z Z Z Z (by omega) ?_;refine Aa Z Z Z Z Z O ?_;refine Ab ?_
   have ag := again ⟨j + 1,hlt⟩ (by simp;omega)
   simp only [et] at ag
   refine Aq (ag)
structure EndOk (h : R2) : Prop where
 n : h.1.natAbs ≤ 540000
 d : 1 ≤ h.2 ∧ h.2 ≤ 3000
theorem offL_sub (p q : R2) (eye : Int) (s : R2) : offL p eye s - offL q eye s = (p.2 - q.2) * s.2 - s.1 * (p.1 - q.1) := by
 unfold offL
 rw [Int.sub_mul,Int.sub_mul,Int.sub_mul,Int.mul_sub]
 omega
theorem crossM_end {p q : R2} {eye : Int} {s : R2} (hp : PtOk p) (hq : PtOk q) (he : EyeOk eye) (h1 : s.1.natAbs ≤ 20) (h2 : 1 ≤ s.2 ∧ s.2 ≤ 20) : ∀ x ∈ crossM p q eye s,EndOk x.2 := by
 unfold PtOk at hp hq
 unfold EyeOk at he
 have e1 := mul_bd (a := p.2 - eye) (b := s.2) (A := 90) (B := 20) (by omega) (by omega)
 have e2 := mul_bd (a := s.1) (b := p.1) (A := 20) (B := 60) (by omega) (by omega)
 have o1 : (offL p eye s).natAbs ≤ 3000 := by unfold offL;omega
 have e3 := mul_bd (a := p.2 - q.2) (b := s.2) (A := 90) (B := 20) (by omega) (by omega)
 have e4 := mul_bd (a := s.1) (b := p.1 - q.1) (A := 20) (B := 59) (by omega) (by omega)
 have hdd : (offL p eye s - offL q eye s).natAbs ≤ 3000 := by rw [offL_sub];omega
 intro x hx
 unfold crossM at hx
 split at hx
 ·cases hx
 split at hx
 ·simp only [List.mem_cons,List.not_mem_nil,or_false] at hx
  rcases hx with rfl | rfl <;> exact ⟨by dsimp only;omega,by dsimp only;omega⟩
 rename_i h0
 split at hx
 ·rename_i hc
  simp only [List.mem_cons,List.not_mem_nil,or_false] at hx
  subst hx
  have hd : offL p eye s - offL q eye s ≠ 0 := by omega
  have a3 := mul_bd (a := p.2) (b := offL p eye s - offL q eye s) (A := 90) (B := 3000) (by omega) hdd
  have a4 := mul_bd (a := q.2 - p.2) (b := offL p eye s) (A := 90) (B := 3000) (by omega) o1
  have n1 := lowN_le (n := p.2 * (offL p eye s - offL q eye s) + (q.2 - p.2) * offL p eye s) (d := offL p eye s - offL q eye s)
  have d1 := lowD_le (n := p.2 * (offL p eye s - offL q eye s) + (q.2 - p.2) * offL p eye s) (d := offL p eye s - offL q eye s)
  have d2 := lowD_pos (n := p.2 * (offL p eye s - offL q eye s) + (q.2 - p.2) * offL p eye s) hd
  have n2 := Int.natAbs_add_le (p.2 * (offL p eye s - offL q eye s)) ((q.2 - p.2) * offL p eye s)
  exact ⟨by show (lowN _ _).natAbs ≤ _;omega,by show 1 ≤ lowD _ _ ∧ lowD _ _ ≤ _;omega⟩
 ·cases hx
theorem meetM_end {ps : List R2} {eye : Int} {s : R2} (hp : ∀ p ∈ ps,PtOk p) (he : EyeOk eye) (h1 : s.1.natAbs ≤ 20) (h2 : 1 ≤ s.2 ∧ s.2 ≤ 20) {x : Spot} (hx : meetM ps eye s = some x) : EndOk x.2 := by
 have hall : ∀ y ∈ piecesM ps eye s,EndOk y.2 := by
  intro y hy
  unfold piecesM at hy
  obtain ⟨⟨p,q⟩,hpq,hy⟩ := List.mem_flatMap.1 hy
  exact crossM_end (hp _ (List.of_mem_zip hpq).1) (hp _ (List.mem_of_mem_tail (List.of_mem_zip hpq).2)) he h1 h2 y hy
 unfold meetM at hx
 split at hx
 ·cases hx
 ·rename_i y l e
  cases hx
  rw [e] at hall
  exact hall _ (bestM_mem _ _ _)
end Go.Gx
end
section
namespace Go.Gx
open Go Go.Conc Go.Proofs
variable {main : Bool}
theorem low_scale {n d c : Int} (hc : 0 < c) : low (n * c) (d * c) = low n d := by
 have hg : ((Int.gcd (n * c) (d * c) : Nat) : Int) = (Int.gcd n d : Int) * c := by
  rw [Int.gcd_mul_right]
  push_cast
  rw [Int.natAbs_of_nonneg (by omega)]
 have hs : (d * c < 0) ↔ d < 0 := by
  constructor
  ·intro h
   by_cases hd : d < 0
   ·exact hd
   ·have := Int.mul_nonneg (show 0 ≤ d by omega) (show 0 ≤ c by omega);omega
  ·intro h;exact Int.mul_neg_of_neg_of_pos h hc
 unfold low lowN lowD
 rw [hg]
 by_cases hd : d < 0
 ·simp only [if_pos (hs.2 hd),if_pos hd]
  rw [← Int.neg_mul,← Int.neg_mul,Int.mul_tdiv_mul_of_pos_left _ _ hc,Int.mul_tdiv_mul_of_pos_left _ _ hc]
 ·simp only [if_neg (fun h => hd (hs.1 h)),if_neg hd]
  rw [Int.mul_tdiv_mul_of_pos_left _ _ hc,Int.mul_tdiv_mul_of_pos_left _ _ hc]
theorem low_self {s : R2} (h : slopeBar s.1 s.2 = 0) : low s.1 s.2 = s := by
 unfold slopeBar at h
 split at h
 ·omega
 split at h
 ·omega
 rename_i h1 h2
 unfold low
 have h2 : lowN s.1 s.2 = s.1 ∧ lowD s.1 s.2 = s.2 := by
  constructor
  ·by_cases e : lowN s.1 s.2 = s.1
   ·exact e
   ·exact absurd (.inl e) h2
  ·by_cases e : lowD s.1 s.2 = s.2
   ·exact e
   ·exact absurd (.inr e) h2
 rw [h2.1,h2.2]
theorem evenly_first {a z : R2} {n : Int} (ha : slopeBar a.1 a.2 = 0) (hz : 0 < z.2) (hn : 0 < n) : evenlyM a z 0 n = a := by
 unfold evenlyM
 have e1 : a.1 * z.2 * (n - 0) + z.1 * a.2 * 0 = a.1 * (z.2 * n) := by rw [Int.mul_zero,Int.add_zero,Int.sub_zero,Int.mul_assoc]
 have e2 : a.2 * z.2 * n = a.2 * (z.2 * n) := Int.mul_assoc ..
 rw [e1,e2,low_scale (Int.mul_pos hz hn),low_self ha]
theorem evenly_last {a z : R2} {n : Int} (hz : slopeBar z.1 z.2 = 0) (ha : 0 < a.2) (hn : 0 < n) : evenlyM a z n n = z := by
 unfold evenlyM
 have e1 : a.1 * z.2 * (n - n) + z.1 * a.2 * n = z.1 * (a.2 * n) := by rw [Int.sub_self,Int.mul_zero,Int.zero_add,Int.mul_assoc]
 have e2 : a.2 * z.2 * n = z.2 * (a.2 * n) := by rw [Int.mul_comm a.2 z.2];exact Int.mul_assoc ..
 rw [e1,e2,low_scale (Int.mul_pos ha hn),low_self hz]
theorem thingTo_get {B : Bk} {eye : Int} {f t : Int × R2} : ∀ {n : Nat} {l : List R2},thingTo B eye f t n = some l → ∀ k,k < n → ∃ x,thingAt B eye f t k = some x ∧ l[k]? = some x.2
 | 0,l,_,k,hk => by omega
 | n + 1,l,h,k,hk => by
  unfold thingTo at h
  split at h
  ·rename_i l' x e1 e2
   cases h
   have hlen := thingTo_len e1
   by_cases e : k = n
   ·subst e
    exact ⟨x,e2,by rw [List.getElem?_append_right (by omega),hlen];simp⟩
   ·obtain ⟨y,hy,hg⟩ := thingTo_get e1 k (by omega)
    exact ⟨y,hy,by rw [List.getElem?_append_left (by omega)];exact hg⟩
  ·cases h
def bendAt (f : Int × R2) (l : List R2) (k : Nat) : Int × R2 := (f.1 + k,minusM (l.getD k (0,0)) (evenlyM (l.getD 0 (0,0)) (l.getD (l.length - 1) (0,0)) k ((l.length - 1 : Nat) : Int)))
def bendsTo (f : Int × R2) (l : List R2) (n : Nat) : List (Int × R2) := (List.range n).map (bendAt f l)
theorem bendsTo_succ {f : Int × R2} {l : List R2} {n : Nat} : bendsTo f l (n + 1) = bendsTo f l n ++ [bendAt f l n] := by
 unfold bendsTo;rw [List.range_succ,List.map_append];rfl
theorem bendsTo_len {f : Int × R2} {l : List R2} {n : Nat} : (bendsTo f l n).length = n := by simp [bendsTo]
def bendM (B : Bk) (eye : Int) (f t : Int × R2) : (Int × R2) × Int :=
 if (thingM B eye f t).2 ≠ 0 then ((0,(0,0)),(thingM B eye f t).2)
 else (bestM bendLess (bendAt f (thingM B eye f t).1 0) ((bendsTo f (thingM B eye f t).1 (thingM B eye f t).1.length).drop 1),0)
structure BendsOk (l : List R2) : Prop where
 len : 2 ≤ l.length ∧ l.length ≤ 13
 a : EndOk (l.getD 0 (0,0))
 z : EndOk (l.getD (l.length - 1) (0,0))
 m : ∀ k,k < l.length → HighOk (l.getD k (0,0))
theorem bends_ok {B : Bk} {eye : Int} {f t : Int × R2} (h : (thingM B eye f t).2 = 0) : BendsOk (thingM B eye f t).1 := by
 unfold thingM at h ⊢
 by_cases hr : lookBar B [hBar eye,sightsBar f t] = 0
 ·rw [if_neg (by simpa using hr)] at h ⊢
  obtain ⟨hz,he,hs⟩ := look20 hr
  obtain ⟨hf,ht,hlt,hsf,hst⟩ := sights0 hs
  have he' := eyeOk_of he
  have hp := (profOk_of hz).2
  generalize hth : thingTo B eye f t ((t.1 - f.1).toNat + 1) = o at h ⊢
  cases o with
  | none => simp at h
  | some l =>
   have hlen := thingTo_len hth
   have hget := thingTo_get hth
   have hst12 : 1 ≤ (t.1 - f.1).toNat ∧ (t.1 - f.1).toNat ≤ 12 ∧ t.1 - f.1 = ((t.1 - f.1).toNat : Int) := by unfold SightOk at hf ht;omega
   have hd : ∀ k x,l[k]? = some x → l.getD k (0,0) = x := fun k x hx => by rw [List.getD_eq_getElem?_getD,hx];rfl
   have hf' : f.2.1.natAbs ≤ 20 ∧ 1 ≤ f.2.2 ∧ f.2.2 ≤ 20 := by unfold SightOk at hf;omega
   have ht' : t.2.1.natAbs ≤ 20 ∧ 1 ≤ t.2.2 ∧ t.2.2 ≤ 20 := by unfold SightOk at ht;omega
   show BendsOk l
   refine ⟨by omega,?_,?_,?_⟩
   ·obtain ⟨x,hx,hg⟩ := hget 0 (by omega)
    rw [hd 0 _ hg]
    unfold thingAt at hx
    rw [show ((0 : Nat) : Int) = 0 from rfl,evenly_first hsf (by omega) (by omega)] at hx
    exact meetM_end hp he' hf'.1 hf'.2 hx
   ·obtain ⟨x,hx,hg⟩ := hget (l.length - 1) (by omega)
    rw [hd _ _ hg]
    unfold thingAt at hx
    rw [show ((l.length - 1 : Nat) : Int) = t.1 - f.1 from by omega,evenly_last hst (by omega) (by omega)] at hx
    exact meetM_end hp he' ht'.1 ht'.2 hx
   ·intro k hk
    obtain ⟨x,hx,hg⟩ := hget k (by omega)
    rw [hd _ _ hg]
    exact highOk_of (meetM_ok hp he' (evenlyM_sl hf ht (by omega) (by omega)) hx)
 ·rw [if_pos hr] at h
  exact absurd h hr
theorem thing0 {B : Bk} {eye : Int} {f t : Int × R2} (h : (thingM B eye f t).2 = 0) : SightOk f ∧ SightOk t := by
 unfold thingM at h
 by_cases hr : lookBar B [hBar eye,sightsBar f t] = 0
 ·obtain ⟨hz,he,hs⟩ := look20 hr
  obtain ⟨hf,ht,_⟩ := sights0 hs
  exact ⟨hf,ht⟩
 ·rw [if_pos hr] at h
  exact absurd h hr
theorem bend_bd {l : List R2} (h : BendsOk l) {k : Nat} (hk : k < l.length) {a z m : R2} (ea : a = l.getD 0 (0,0)) (ez : z = l.getD (l.length - 1) (0,0)) (em : m = l.getD k (0,0)) {e : R2} (ee : e = evenlyM a z k ((l.length - 1 : Nat) : Int)) :
  1 ≤ e.2 ∧ (m.1 * e.2).natAbs ≤ 500000000 * 108000000 ∧ (e.1 * m.2).natAbs ≤ 38880000000 * 3000000 ∧ (m.2 * e.2).natAbs ≤ 3000000 * 108000000 ∧ m.2 * e.2 ≠ 0 := by
 obtain ⟨hl,ha,hz,hm⟩ := h
 rw [← ea] at ha
 rw [← ez] at hz
 have hm := hm k hk
 rw [← em] at hm
 obtain ⟨a1,a2⟩ := ha
 obtain ⟨z1,z2⟩ := hz
 obtain ⟨m1,m2⟩ := hm
 generalize hn : ((l.length - 1 : Nat) : Int) = n at ee
 have hkn : 0 ≤ (k : Int) ∧ (k : Int) ≤ n ∧ 1 ≤ n ∧ n ≤ 12 := by omega
 generalize (k : Int) = k' at ee hkn
 clear hn ea ez em hk hl
 have b1 := mul_bd (a := a.1) (b := z.2) (A := 540000) (B := 3000) a1 (by omega)
 have b2 := mul_bd (a := a.1 * z.2) (b := n - k') (A := 540000 * 3000) (B := 12) b1 (by omega)
 have b3 := mul_bd (a := z.1) (b := a.2) (A := 540000) (B := 3000) z1 (by omega)
 have b4 := mul_bd (a := z.1 * a.2) (b := k') (A := 540000 * 3000) (B := 12) b3 (by omega)
 have b5 := mul_bd (a := a.2) (b := z.2) (A := 3000) (B := 3000) (by omega) (by omega)
 have b6 := mul_bd (a := a.2 * z.2) (b := n) (A := 3000 * 3000) (B := 12) b5 (by omega)
 have h0 : a.2 * z.2 * n ≠ 0 := Int.mul_ne_zero (Int.mul_ne_zero (by omega) (by omega)) (by omega)
 have d1 := lowD_le (n := a.1 * z.2 * (n - k') + z.1 * a.2 * k') (d := a.2 * z.2 * n)
 have d2 := lowD_pos (n := a.1 * z.2 * (n - k') + z.1 * a.2 * k') h0
 have n1 := lowN_le (n := a.1 * z.2 * (n - k') + z.1 * a.2 * k') (d := a.2 * z.2 * n)
 have n2 := Int.natAbs_add_le (a.1 * z.2 * (n - k')) (z.1 * a.2 * k')
 have e1 : e.1.natAbs ≤ 38880000000 := by rw [ee];show (lowN _ _).natAbs ≤ _;omega
 have e2 : 1 ≤ e.2 ∧ e.2 ≤ 108000000 := by rw [ee];show 1 ≤ lowD _ _ ∧ lowD _ _ ≤ _;omega
 exact ⟨e2.1,mul_bd m1 (by omega),mul_bd e1 (by omega),mul_bd (by omega) (by omega),Int.mul_ne_zero (by omega) (by omega)⟩
theorem bendAt_in {f : Int × R2} {l : List R2} (h : BendsOk l) {k : Nat} (hk : k < l.length) : InI (-(bendAt f l k).2.1) := by
 have hb := bend_bd h hk Z Z Z rfl
 have n1 := lowN_le (n := (l.getD k (0,0)).1 * (evenlyM (l.getD 0 (0,0)) (l.getD (l.length - 1) (0,0)) k ((l.length - 1 : Nat) : Int)).2 - (evenlyM (l.getD 0 (0,0)) (l.getD (l.length - 1) (0,0)) k ((l.length - 1 : Nat) : Int)).1 * (l.getD k (0,0)).2) (d := (l.getD k (0,0)).2 * (evenlyM (l.getD 0 (0,0)) (l.getD (l.length - 1) (0,0)) k ((l.length - 1 : Nat) : Int)).2)
 show InI (-(lowN _ _))
 unfold InI
 omega
set_option maxRecDepth 100000 in
set_option maxHeartbeats 4000000 in
theorem s20 (L : Lg Tryz.prog main) (H : Facts) {B : Bk} {A : BkA} {eye : Int} {f t : Int × R2} (hO : Opn H B A) :
  Pure L 20 #[bkV B A,.int .i64 eye,.agg (List.toArray (cI3 f)),.agg (List.toArray (cI3 t))] H (.tuple #[.int .i64 (bendM B eye f t).1.1,rV (bendM B eye f t).1.2,.int .i64 (bendM B eye f t).2]) := by
 refine Spec.enter Tryz.func20 rfl (by simp [Tryz.f20]) fun c cs hc => ?_
 unfold bendM at hc
 refine At.seq (At.region ?_);refine An Z Z Z Z Z Z Z fun r4 => ?_;refine An Z Z Z Z Z Z Z fun r6 => ?_;refine An Z Z Z Z Z Z Z fun r7 => ?_;refine Aa Z Z Z Z Z O ?_;refine Al Z Z Z Z Z fun r9 => ?_;refine Aa Z Z Z Z Z O ?_;refine Ab (At.seq (At.region ?_));refine Af 3 Z Z Z Z Z Z Z Z Z ?_;refine Aa Z Z Z Z Z O ?_
 refine Af 2 Z Z Z Z Z Z Z Z Z ?_;refine Af 1 Z Z Z Z Z Z Z Z Z ?_;refine Ay Z Z Z Z Z Z Z Z (s19 L _ (B := B) (A := A) (eye := eye) (f := f) (t := t) hO.a) ?_
 rintro _ _ ⟨sf,⟨a,cap,rfl,hsl⟩,rfl⟩
 by_cases hb : (thingM B eye f t).2 = 0
 ·have hok := bends_ok hb
  simp only [if_neg (show ¬ (thingM B eye f t).2 ≠ 0 from by simpa using hb)] at hc
  rw [hb]
  generalize hl : (thingM B eye f t).1 = l at hsl hok hc
  obtain ⟨hlen,ha,hz,hm⟩ := id hok
  obtain ⟨_,hrl,_⟩ := hsl.rd
  (iterate 5 refine Aa Z Z Z Z Z O ?_);refine Ab (At.seq (At.seq (At.region ?_)));refine Aa Z Z Z Z Z O ?_;refine Ad Z Z Z Z Z fun b26 h26 => ?_;refine Ab ?_
  have e : b26 = false := by rw [← h26];rfl
  subst e
  refine At.rot 4 rfl ?_
  refine At.weakH (H' := .own r9 (.cells #[.int .i64 0,.int .i64 0] 40 (0,0)) :: .own r6 (.cells (List.toArray (cI3 f)) 50 (0,0)) :: (sf ++ H)) ?_ ((((Sub.refl (sf ++ H)).drop _).cons _).drop _ |>.cons _)
  have en : (l.length : Int) - 1 = ((l.length - 1 : Nat) : Int) := by omega
  have hf1 := (thing0 hb).1
  refine At.cond Z ?_;refine At.skip (At.seq (At.region ?_));refine Aa Z Z Z Z Z O ?_;refine Ab (At.seq (At.region ?_));refine Aa Z Z Z Z Z O ?_;refine Ao Z Z Z Z Z Z Z Z ?_;refine Aa Z Z Z Z Z (by omega) ?_;refine Aa Z Z Z Z Z O ?_;refine Ab (At.seq (At.seq (At.region ?_)));refine Aa Z Z Z Z Z O ?_;refine Ao Z Z Z Z Z Z Z Z ?_
  refine Aa Z Z Z Z Z O ?_;refine Ab ?_;refine At.block ?_
  rw [en]
  refine Az (X := { x : Nat × Value × Facts // x.1 ≤ l.length ∧ Sl cI3 136 x.2.1 (bendsTo f l x.1) x.2.2 }) [6,8,9,10,11,13,32,33] (fun x => [(34,.int .i64 (x.1.1 : Int)),(12,x.1.2.1)]) (fun x => .own r9 (.cells #[.int .i64 0,.int .i64 0] 40 (0,0)) :: .own r6 (.cells (List.toArray (cI3 f)) 50 (0,0)) :: (x.1.2.2 ++ (sf ++ H))) (fun x => l.length - x.1.1) (⟨(0,.slice none 0 0,[]),Nat.zero_le _,Sl.nil⟩) rfl ?_ (by repeat (first | exact trivial | refine ⟨rfl,?_⟩)) sb
  rintro ⟨⟨j,v,sl⟩,hj,hsb⟩ again
  simp only at again hj hsb ⊢
  refine At.seq (At.region ?_);refine Ad Z Z Z Z Z fun b35 h35 => ?_;refine Ab (At.seq ?_)
  cases b35
  ·have e : j = l.length := by simp at h35;omega
   subst e
   obtain ⟨ab,cb,rfl⟩ := hsb.slice
   have hbl := bendsTo_len (f := f) (l := l) (n := l.length)
   obtain ⟨_,hrb,hcb⟩ := hsb.rd
   have h0 : 0 < (bendsTo f l l.length).length := by omega
   obtain ⟨b0,off0,rfl,hc0⟩ := hrb.el (List.getElem?_eq_getElem h0)
   have hr1 := hrb.slA (cap := cb) (l := 1) hcb (by omega)
   have hb0 : (bendsTo f l l.length)[0] = bendAt f l 0 := by simp [bendsTo]
   rw [hb0] at hc0
   have hin : ∀ x,x ∈ bendsTo f l l.length → InI (-x.2.1) := by
    intro x hx
    unfold bendsTo at hx
    obtain ⟨k,hk,rfl⟩ := List.mem_map.1 hx
    exact bendAt_in hok (List.mem_range.1 hk)
   have h0m : bendAt f l 0 ∈ bendsTo f l l.length := by rw [← hb0];exact List.getElem_mem h0
   have h109 := fun H_ hr_ => s66 L H_ (fv := .func (.func 67) #[] #[]) (better := bendLess) (one := bendAt f l 0) (l := (bendsTo f l l.length).drop 1) (a := slA (some ⟨b0,off0,none⟩) cb 1 3) (n := (bendsTo f l l.length).length - 1) (cap := cb - 1) (by rw [List.length_drop]) (fun H x y hx hy => SpecV.of HB.h (s67 L H (hin x (List.mem_of_mem_drop hx)) (hin y (by
    rcases List.mem_cons.1 hy with rfl | hy
    ·exact h0m
    ·exact List.mem_of_mem_drop hy)))) hr_ (by rw [List.length_drop];omega)
   have stop66 := trivial
   refine At.cond Z ?_;refine At.exit rfl ?_;refine At.seq ?_;refine Aw hmix [] rfl ?_;refine Ac 0 Z Z Z Z Z Z Z O ?_;refine Ak 1 Z Z Z Z Z (q_ia Z Z Z (by assumption)) rfl ?_;refine Ax 2 Z Z Z Z Z Z Z hc0.a Z Z Z ?_;refine Ac 3 Z Z Z Z Z Z Z O ?_;refine Ak 4 Z Z Z Z Z (q_sliceL (l := 1) Z Z Z (by assumption)) rfl ?_
   refine Pool.fl 6 Z Z Z Z Z Z Z Z Z Z ?_
   clear stop66
   refine Ap 5 Z Z Z Z Z Z Z Z Z (fun H_ hs_ => h109 H_ hr1.a) ?_;refine pool_take Z Z Z fun rf6 => ?_;refine Ba 0 7 Z Z Z Z Z Z Z Z Z Z Z Z Z Z Z Z Z Z sb ?_;refine pool_done Z Z ?_;refine Ab (At.seq ?_);refine Aw hmix [1] rfl ?_;refine Am 0 0 Z Z Z Z Z Z Z Z Z ?_;refine Aj 0 1 Z Z Z Z Z Z Z Z Z Z Z ?_
   refine Am 1 2 Z Z Z Z Z Z Z Z Z ?_;refine Aj 0 3 Z Z Z Z Z Z Z Z Z Z Z ?_;refine Ac 4 Z Z Z Z Z Z Z O ?_;refine Ba 1 5 Z Z Z Z Z Z Z Z Z Z Z Z Z Z Z Z Z Z sb ?_;refine Ac 6 Z Z Z Z Z Z Z O ?_;refine pool_done Z Z ?_;refine Ab ?_
   exact At.ret Tryz.func20 (.inr ⟨_,rfl⟩) rfl (.tmp rfl (.aggJ 1 Z Z Z (.tmp rfl .nil))) (wk (hc _ _ (⟨rfl,rfl⟩)))
  ·have hlt : j < l.length := by simp at h35;omega
   obtain ⟨b,off,rfl,hc0⟩ := hrl.el (List.getElem?_eq_getElem (show 0 < l.length by omega))
   obtain ⟨b',off',e1,hcz⟩ := hrl.el (List.getElem?_eq_getElem (show l.length - 1 < l.length by omega))
   cases e1
   obtain ⟨b',off',e1,hcj⟩ := hrl.el (List.getElem?_eq_getElem hlt)
   cases e1
   have g0 : l.getD 0 (0,0) = l[0] := by rw [List.getD_eq_getElem?_getD,List.getElem?_eq_getElem (by omega)];rfl
   have gz : l.getD (l.length - 1) (0,0) = l[l.length - 1] := by rw [List.getD_eq_getElem?_getD,List.getElem?_eq_getElem (by omega)];rfl
   have gj : l.getD j (0,0) = l[j] := by rw [List.getD_eq_getElem?_getD,List.getElem?_eq_getElem hlt];rfl
   have hbj : bendAt f l j = (f.1 + j,minusM l[j] (evenlyM l[0] l[l.length - 1] j ((l.length - 1 : Nat) : Int))) := by unfold bendAt;rw [g0,gz,gj]
   obtain ⟨d1,d2,d3,d4,d5⟩ := bend_bd hok hlt g0.symm gz.symm gj.symm rfl
   rw [g0] at ha
   rw [gz] at hz
   obtain ⟨a1,a2⟩ := ha
   obtain ⟨z1,z2⟩ := hz
   have q1 : InI (f.1 + j) := by unfold SightOk at hf1;unfold InI;omega
   have stop65 := trivial
   have stop64 := trivial
   have stopDraw := trivial
   refine At.cond Z ?_;refine At.skip (At.seq ?_);refine At.block ?_;refine At.seq (At.region ?_);refine Aa Z Z Z Z Z O ?_;refine Ae Z Z Z Z (q_ia Z Z Z (by assumption)) ?_;refine Au Z Z Z Z Z Z hcj.a Z Z ?_;refine Al Z Z Z Z Z fun r15 => ?_;refine Aa Z Z Z Z Z O ?_;refine Ag 0 Z Z Z Z Z Z Z Z Z Z Z Z ?_;refine Ab ?_
   clear stopDraw
   refine At.drawS hmix 3 rfl ?_;refine Ac 0 Z Z Z Z Z Z Z O ?_;refine Am 0 1 Z Z Z Z Z Z Z Z Z ?_;refine Aj 2 2 Z Z Z Z Z Z Z Z Z Z Z ?_;refine Ac 3 Z Z Z Z Z Z Z O ?_;refine Ac 4 Z Z Z Z Z Z Z (by assumption) ?_;refine Aj 0 5 Z Z Z Z Z Z Z Z Z Z Z ?_;refine Ac 6 Z Z Z Z Z Z Z O ?_
   refine Ak 7 Z Z Z Z Z (q_ia Z Z Z (by dsimp only;omega)) rfl ?_;refine Ax 8 Z Z Z Z Z Z Z hc0.a Z Z Z ?_;refine Ac 9 Z Z Z Z Z Z Z O ?_;refine Ac 10 Z Z Z Z Z Z Z O ?_;refine Ak 11 Z Z Z Z Z (q_ia Z Z Z (by omega)) rfl ?_;refine Ax 12 Z Z Z Z Z Z Z hcz.a Z Z Z ?_;refine Ac 13 Z Z Z Z Z Z Z O ?_
   refine Ac 14 Z Z Z Z Z Z Z O ?_
   clear stop65
   have h108 := fun H_ => s65 L H_ (a := l[0]) (z := l[l.length - 1]) (k := (j : Int)) (n := ((l.length - 1 : Nat) : Int)) (by omega) a2 (by omega) z2 (by omega) (by omega)
   refine Ap 15 Z Z Z Z Z Z Z Z Z (fun H_ hs_ => h108 H_) ?_
   generalize hev : evenlyM l[0] l[l.length - 1] j ((l.length - 1 : Nat) : Int) = ev at d1 d2 d3 d4 d5 hbj
   skip
   clear stop64
   have h107 := fun H_ => s64 L H_ (an := l[j].1) (ad := l[j].2) (bn := ev.1) (bd := ev.2) (by unfold InI;omega) (by unfold InI;omega) (by unfold Mid;omega) (by unfold Mid;omega) d5
   refine Ap 16 Z Z Z Z Z Z Z Z Z (fun H_ hs_ => h107 H_) ?_;refine Ak 17 Z Z Z Z Z (q_build Z Z Z) rfl ?_;refine Pool.bs 18 Z Z Z Z Z Z Z Z Z Z Z Z Z Z Z sb fun r57 => ?_
   have hbm : (bendsTo f l j).length < 100000 := by rw [bendsTo_len];omega
   refine Pool.push (x := bendAt f l j) 19 0 4 Z Z Z Z Z Z Z Z Z Z Z Z Z Z Z Z Z Z Z Z Z hsb Z Z (by rw [hbj];rfl) ((((Sub.refl _).cons _).cons _ |>.cons _).drop _) hbm fun v' sl' hs' => ?_
   rw [← bendsTo_succ] at hs'
   refine Ac 20 Z Z Z Z Z Z Z O ?_;refine pool_done Z Z ?_;refine Ab ?_;refine At.inBlock ?_;refine At.region ?_;refine Aa Z Z Z Z Z (by omega) ?_;refine Aa Z Z Z Z Z O ?_;refine Ab ?_
   refine Aq ((again ⟨(j + 1,v',sl'),hlt,hs'⟩ (by simp;omega)))
 ·simp only [if_pos hb] at hc
  refine At.rot 4 rfl ?_;(iterate 5 refine Aa Z Z Z Z Z O ?_);refine Ab (At.seq (At.seq (At.region ?_)));refine Aa Z Z Z Z Z O ?_;refine Ad Z Z Z Z Z fun b26 h26 => ?_;refine Ab ?_
  have e : b26 = true := by rw [← h26];simpa using hb
  subst e
  refine At.cond Z ?_;refine At.seq (At.region ?_);refine Ae Z Z Z Z (q_build Z Z Z) ?_;(iterate 2 refine Aa Z Z Z Z Z O ?_);refine Ag 0 Z Z Z Z Z Z Z Z Z Z Z Z ?_;refine Aa Z Z Z Z Z O ?_;refine Ab ?_
  exact At.ret Tryz.func20 (.inr ⟨_,rfl⟩) rfl (.tmp rfl (.aggJ 0 Z Z Z (.tmp rfl .nil))) (wk (hc _ _ (⟨rfl,rfl⟩)))
end Go.Gx
end
section
namespace Go.Gx
open Go Go.Conc Go.Proofs
variable {main : Bool}
def cmpI (x y : Int) : Int := if x < y then -1 else if x > y then 1 else 0
theorem s124 (L : Lg Tryz.prog main) (H : Facts) {x y : Int} : Pure L 124 #[.int .i64 x,.int .i64 y] H (.int .i64 (cmpI x y)) := by
 refine Spec.enter Tryz.func124 rfl (by simp [Tryz.f124]) fun c cs hc => ?_;refine At.seq (At.region ?_);refine Aa Z Z Z Z Z O ?_;refine Ab (At.seq (At.region ?_));refine Aa Z Z Z Z Z O ?_;refine Bc Z Z Z Z Z Z Z Z (s150 L _) fun b8 h8 => ?_;refine Aa Z Z Z Z Z O ?_;refine Ab (At.seq (At.region ?_));refine Aa Z Z Z Z Z O ?_
 refine Bc Z Z Z Z Z Z Z Z (s150 L _) fun b10 h10 => ?_;refine Aa Z Z Z Z Z O ?_;refine Ab (At.seq (At.seq (At.region ?_)));refine Aa Z Z Z Z Z O ?_;refine Ab ?_
 have e : b8 = false := by rw [← h8]
 subst e
 refine At.cond Z ?_;refine At.skip (At.seq (At.seq (At.region ?_)));refine Aa Z Z Z Z Z O ?_;refine Ab ?_
 have e : b10 = false := by rw [← h10]
 subst e
 refine At.cond Z ?_;refine At.skip (At.seq (At.seq (At.region ?_)));(iterate 2 refine Aa Z Z Z Z Z O ?_);refine Ad Z Z Z Z Z fun b16 h16 => ?_;refine Ab ?_
 cases b16
 ·refine At.cond Z ?_
  refine At.skip (At.seq (At.seq (At.region ?_)));(iterate 2 refine Aa Z Z Z Z Z O ?_);refine Ad Z Z Z Z Z fun b19 h19 => ?_;refine Ab ?_
  cases b19
  ·refine At.cond Z ?_
   refine At.skip (At.seq (At.region ?_));refine Aa Z Z Z Z Z O ?_;refine Ab ?_
   exact At.ret Tryz.func124 (.inr ⟨_,rfl⟩) rfl (.tmp rfl .nil) (wk (hc _ _ (⟨by simp_all [resVal,cmpI];try omega,rfl⟩)))
  ·refine At.cond Z ?_
   refine At.seq (At.region ?_);refine Aa Z Z Z Z Z O ?_;refine Ab ?_
   exact At.ret Tryz.func124 (.inr ⟨_,rfl⟩) rfl (.tmp rfl .nil) (wk (hc _ _ (⟨by simp_all [resVal,cmpI];try omega,rfl⟩)))
 ·refine At.cond Z ?_
  refine At.seq (At.region ?_);refine Aa Z Z Z Z Z O ?_;refine Ab ?_
  exact At.ret Tryz.func124 (.inr ⟨_,rfl⟩) rfl (.tmp rfl .nil) (wk (hc _ _ (⟨by simp_all [resVal,cmpI],rfl⟩)))
def cmpL : List Int → List Int → Int
 | [],[] => 0
 | [],_ :: _ => -1
 | _ :: _,[] => 1
 | x :: xs,y :: ys => if cmpI x y ≠ 0 then cmpI x y else cmpL xs ys
set_option maxRecDepth 100000 in
set_option maxHeartbeats 1000000 in
theorem s89 (L : Lg Tryz.prog main) (H : Facts) {a a' : Option Addr} {n n' cap cap' : Nat} {xs ys : List Int} (hn : xs.length = n) (hn' : ys.length = n') (hr : Rd H a (xs.flatMap c1)) (hr' : Rd H a' (ys.flatMap c1)) (hl : xs.length ≤ 1000) (hl' : ys.length ≤ 1000) :
  Pure L 89 #[.slice a n cap,.slice a' n' cap'] H (.int .i64 (cmpL xs ys)) := by
 subst hn hn'
 refine Spec.enter Tryz.func89 rfl (by simp [Tryz.f89]) fun c cs hc => ?_;refine At.seq (At.region ?_);refine Aa Z Z Z Z Z O ?_;refine Ab (At.seq (At.seq (At.region ?_)));refine Aa Z Z Z Z Z O ?_;refine Ao Z Z Z Z Z Z Z Z ?_;refine Aa Z Z Z Z Z O ?_;refine Ab ?_;refine At.block ?_
 refine Az (X := { j : Nat // j ≤ xs.length ∧ j ≤ ys.length ∧ cmpL (xs.drop j) (ys.drop j) = cmpL xs ys }) [0,1,9,10] (fun x => [(11,.int .i64 (x.1 : Int))]) (fun _ => H) (fun x => xs.length - x.1) (⟨0,Nat.zero_le _,Nat.zero_le _,rfl⟩) rfl ?_ (by repeat (first | exact trivial | refine ⟨rfl,?_⟩)) sb
 rintro ⟨j,hj,hj',hd⟩ again
 simp only at again ⊢
 refine At.seq (At.region ?_);refine Ad Z Z Z Z Z fun b12 h12 => ?_;refine Ab (At.seq ?_)
 cases b12
 ·have e : j = xs.length := by simp at h12;omega
  subst e
  rw [List.drop_length] at hd
  refine At.cond Z ?_;refine At.exit rfl ?_;refine At.seq (At.seq (At.region ?_));refine Aa Z Z Z Z Z O ?_;refine Ao Z Z Z Z Z Z Z Z ?_;refine Aa Z Z Z Z Z O ?_;refine Ao Z Z Z Z Z Z Z Z ?_;refine Ad Z Z Z Z Z fun b35 h35 => ?_;refine Ab ?_
  cases b35
  ·have e : xs.length = ys.length := by simp at h35;omega
   rw [e,List.drop_length] at hd
   refine At.cond Z ?_;refine At.skip (At.seq (At.region ?_));refine Aa Z Z Z Z Z O ?_;refine Ab ?_
   exact At.ret Tryz.func89 (.inr ⟨_,rfl⟩) rfl (.tmp rfl .nil) (wk (hc _ _ (⟨by rw [← hd];rfl,rfl⟩)))
  ·have e : xs.length < ys.length := by simpa using h35
   rw [List.drop_eq_getElem_cons e] at hd
   refine At.cond Z ?_;refine At.seq (At.region ?_);refine Aa Z Z Z Z Z O ?_;refine Ab ?_
   exact At.ret Tryz.func89 (.inr ⟨_,rfl⟩) rfl (.tmp rfl .nil) (wk (hc _ _ (⟨by rw [← hd];rfl,rfl⟩)))
 ·have hlt : j < xs.length := by simp at h12;omega
  obtain ⟨b,off,rfl,hc1⟩ := hr.el (List.getElem?_eq_getElem hlt)
  rw [List.drop_eq_getElem_cons hlt] at hd
  refine At.cond Z ?_;refine At.skip (At.seq ?_);refine At.block ?_;refine At.seq (At.region ?_);refine Aa Z Z Z Z Z O ?_;refine Ae Z Z Z Z (q_ia Z Z Z (by assumption)) ?_;refine Au Z Z Z Z Z Z hc1.a Z Z ?_;(iterate 2 refine Aa Z Z Z Z Z O ?_);refine Ab (At.seq (At.seq (At.region ?_)));(iterate 2 refine Aa Z Z Z Z Z O ?_);refine Ao Z Z Z Z Z Z Z Z ?_
  refine Ad Z Z Z Z Z fun b19 h19 => ?_;refine Ab ?_
  cases b19
  ·have hlt' : j < ys.length := by simp at h19;omega
   obtain ⟨b',off',rfl,hc2⟩ := hr'.el (List.getElem?_eq_getElem hlt')
   rw [List.drop_eq_getElem_cons hlt',cmpL] at hd
   refine At.cond Z ?_;refine At.skip (At.seq (At.region ?_));(iterate 2 refine Aa Z Z Z Z Z O ?_);refine Ae Z Z Z Z (q_ia Z Z Z (by assumption)) ?_;refine Au Z Z Z Z Z Z hc2.a Z Z ?_;refine Aa Z Z Z Z Z O ?_;refine Ab (At.seq (At.region ?_));(iterate 2 refine Aa Z Z Z Z Z O ?_);refine Ai Z Z Z Z Z Z Z Z (s124 L _) ?_;refine Aa Z Z Z Z Z O ?_
   refine Ab (At.seq (At.region ?_));refine Aa Z Z Z Z Z O ?_;refine Ad Z Z Z Z Z fun b28 h28 => ?_;refine Ab ?_
   cases b28
   ·rw [if_neg (by simpa using h28)] at hd
    refine At.cond Z ?_;refine At.skip ?_;refine At.inBlock ?_;refine At.region ?_;refine Aa Z Z Z Z Z (by omega) ?_;refine Aa Z Z Z Z Z O ?_;refine Ab ?_
    refine Aq ((again ⟨j + 1,hlt,hlt',hd⟩ (by simp;omega)))
   ·rw [if_pos (by simpa using h28)] at hd
    refine At.cond Z ?_;refine At.seq (At.region ?_);(iterate 2 refine Aa Z Z Z Z Z O ?_);refine Ab ?_
    exact At.ret Tryz.func89 (.inr ⟨_,rfl⟩) rfl (.tmp rfl .nil) (wk (hc _ _ (⟨by rw [← hd];rfl,rfl⟩)))
  ·have e : j = ys.length := by simp at h19;omega
   subst e
   rw [List.drop_length] at hd
   refine At.cond Z ?_;refine At.seq (At.region ?_);refine Aa Z Z Z Z Z O ?_;refine Ab ?_
   exact At.ret Tryz.func89 (.inr ⟨_,rfl⟩) rfl (.tmp rfl .nil) (wk (hc _ _ (⟨by rw [← hd];rfl,rfl⟩)))
def smallerM (xs ys : List Int) : Bool := decide (xs.length < ys.length ∨ (xs.length = ys.length ∧ cmpL xs ys < 0))
set_option maxRecDepth 100000 in
set_option maxHeartbeats 1000000 in
theorem s88 (L : Lg Tryz.prog main) (H : Facts) {a a' : Option Addr} {n n' cap cap' : Nat} {xs ys : List Int} (hn : xs.length = n) (hn' : ys.length = n') (hr : Rd H a (xs.flatMap c1)) (hr' : Rd H a' (ys.flatMap c1)) (hl : xs.length ≤ 1000) (hl' : ys.length ≤ 1000) :
  Pure L 88 #[.slice a n cap,.slice a' n' cap'] H (.bool (smallerM xs ys)) := by
 subst hn hn'
 refine Spec.enter Tryz.func88 rfl (by simp [Tryz.f88]) fun c cs hc => ?_
 have stop89 := trivial
 refine At.seq (At.region ?_);refine Aa Z Z Z Z Z O ?_;refine Ab (At.seq (At.region ?_));refine Aa Z Z Z Z Z O ?_;refine Ao Z Z Z Z Z Z Z Z ?_;refine Aa Z Z Z Z Z O ?_;refine Ao Z Z Z Z Z Z Z Z ?_;refine Ad Z Z Z Z Z fun b9 h9 => ?_;refine Aa Z Z Z Z Z O ?_
 cases b9
 ·refine Aa Z Z Z Z Z O ?_
  refine Ao Z Z Z Z Z Z Z Z ?_;refine Aa Z Z Z Z Z O ?_;refine Ao Z Z Z Z Z Z Z Z ?_;refine Ad Z Z Z Z Z fun b15 h15 => ?_;refine Aa Z Z Z Z Z O ?_
  cases b15
  ·refine Ar Z Z Z Z ?_
   (iterate 3 refine Ar Z Z Z Z ?_);(iterate 3 refine Aa Z Z Z Z Z O ?_);refine Ab ?_
   exact At.ret Tryz.func88 (.inr ⟨_,rfl⟩) rfl (.tmp rfl .nil) (wk (hc _ _ (⟨by simp_all [resVal,smallerM];try omega,rfl⟩)))
  ·refine Aa Z Z Z Z Z O ?_
   refine Aa Z Z Z Z Z O ?_
   clear stop89
   refine Ai Z Z Z Z Z Z Z Z (s89 L _ Z Z hr hr' hl hl') ?_
   have a1 : xs.length = ys.length := by simp at h15;omega
   have a2 : smallerM xs ys = decide (cmpL xs ys < 0) := by simp [smallerM,a1]
   refine Ad Z Z Z Z Z fun b20 h20 => ?_;(iterate 3 refine Aa Z Z Z Z Z O ?_);refine Ab ?_
   exact At.ret Tryz.func88 (.inr ⟨_,rfl⟩) rfl (.tmp rfl .nil) (wk (hc _ _ (⟨by rw [a2,h20];rfl,rfl⟩)))
 ·refine Ar Z Z Z Z ?_
  (iterate 10 refine Ar Z Z Z Z ?_);(iterate 2 refine Aa Z Z Z Z Z O ?_);refine Ab ?_
  exact At.ret Tryz.func88 (.inr ⟨_,rfl⟩) rfl (.tmp rfl .nil) (wk (hc _ _ (⟨by simp_all [resVal,smallerM],rfl⟩)))
structure LE where
 a : Option Addr
 cap : Nat
 xs : List Int
def LE.v (e : LE) : Value := .slice e.a e.xs.length e.cap
def cL (e : LE) : List Value := [.slice e.a e.xs.length e.cap]
instance : Enc cL 1 := ⟨fun _ => rfl,by omega,fun x v hv => by simp [cL] at hv;subst hv;rfl⟩
set_option maxRecDepth 100000 in
set_option maxHeartbeats 1000000 in
theorem s87 (L : Lg Tryz.prog main) (H : Facts) {fv : Value} {better : LE → LE → Bool} {one : LE} {a : Option Addr} {l : List LE} {n cap : Nat} (hn : l.length = n)
  (hb : ∀ H' x y,Sub H H' → x ∈ l → y ∈ one :: l → SpecV L fv #[x.v,y.v] H' (fun v H'' => v = .bool (better x y) ∧ H'' = H')) (hr : Rd H a (l.flatMap cL)) (hl : l.length ≤ 100000) :
  Pure L 87 #[fv,one.v,.slice a n cap] H (bestM better one l).v := by
 subst hn
 refine Spec.enter Tryz.func87 rfl (by simp [Tryz.f87]) fun c cs hc => ?_;refine At.seq (At.region ?_);refine Aa Z Z Z Z Z O ?_;refine Ab (At.seq (At.seq (At.region ?_)));refine Aa Z Z Z Z Z O ?_;refine Ao Z Z Z Z Z Z Z Z ?_;refine Aa Z Z Z Z Z O ?_;refine Ab ?_;refine At.block ?_
 refine Az (X := { j : Nat // j ≤ l.length }) [0,6,9,10] (fun x => [(11,.int .i64 (x.1 : Int)),(1,(bestM better one (l.take x.1)).v)]) (fun x => H) (fun x => l.length - x.1) (⟨0,Nat.zero_le _⟩) rfl ?_ (by repeat (first | exact trivial | refine ⟨rfl,?_⟩)) sb
 rintro ⟨j,hj⟩ again
 simp only at again ⊢
 refine At.seq (At.region ?_);refine Ad Z Z Z Z Z fun b12 h12 => ?_;refine Ab (At.seq ?_)
 cases b12
 ·have e : j = l.length := by simp at h12;omega
  subst e
  rw [List.take_length]
  refine At.cond Z ?_;refine At.exit rfl ?_;refine At.seq (At.region ?_);(iterate 2 refine Aa Z Z Z Z Z O ?_);refine Ab ?_
  exact At.ret Tryz.func87 (.inr ⟨_,rfl⟩) rfl (.tmp rfl .nil) (wk (hc _ _ (⟨by rfl,rfl⟩)))
 ·have hlt : j < l.length := by simp at h12;omega
  obtain ⟨b,off,rfl,hc1⟩ := hr.el (List.getElem?_eq_getElem hlt)
  have et := bestM_snoc better one (l.take j) l[j]
  rw [← List.take_succ_eq_append_getElem hlt] at et
  have hm : bestM better one (l.take j) ∈ one :: l := by
   rcases List.mem_cons.1 (bestM_mem better one (l.take j)) with h | h
   ·rw [h];exact List.mem_cons_self ..
   ·exact List.mem_cons_of_mem _ (List.mem_of_mem_take h)
  refine At.cond Z ?_;refine At.skip (At.seq ?_);refine At.block ?_;refine At.seq (At.region ?_);refine Ae Z Z Z Z (q_ia Z Z Z (by assumption)) ?_;refine Au Z Z Z Z Z Z hc1.a Z Z ?_;refine Aa Z Z Z Z Z O ?_;refine Ab (At.seq (At.region ?_));(iterate 3 refine Aa Z Z Z Z Z O ?_);refine At.cv Z Z Z Z Z Z ((hb _ l[j] (bestM better one (l.take j)) (Sub.refl _) (List.getElem_mem hlt) hm)) ?_
  rintro _ _ ⟨rfl,rfl⟩
  cases hbb : better l[j] (bestM better one (l.take j))
  ·rw [hbb,if_neg (by simp)] at et
   refine Ab ?_;refine At.cond Z ?_;refine At.skip ?_;refine At.inBlock ?_;refine At.region ?_;refine Aa Z Z Z Z Z (by omega) ?_;refine Aa Z Z Z Z Z O ?_;refine Ab ?_
   have ag := again ⟨j + 1,hlt⟩ (by simp;omega)
   simp only [et] at ag
   refine Aq (ag)
  ·rw [hbb,if_pos rfl] at et
   refine Ab ?_;refine At.cond Z ?_;refine At.region ?_;(iterate 2 refine Aa Z Z Z Z Z O ?_);refine Ab ?_;refine At.inBlock ?_;refine At.region ?_;refine Aa Z Z Z Z Z (by omega) ?_;refine Aa Z Z Z Z Z O ?_;refine Ab ?_
   have ag := again ⟨j + 1,hlt⟩ (by simp;omega)
   simp only [et] at ag
   refine Aq (ag)
end Go.Gx
end
section
namespace Go.Gx
open Go Go.Conc Go.Proofs
variable {main : Bool}
def bitM (mask i : Nat) : Bool := decide (mask / 2 ^ i % 2 = 1)
def idxTo (mask : Nat) : Nat → List Int
 | 0 => []
 | i + 1 => idxTo mask i ++ (if bitM mask i then [(i : Int)] else [])
def mksTo (B : Bk) (mask : Nat) : Nat → List (R2 × Int)
 | 0 => []
 | i + 1 => mksTo B mask i ++ (if bitM mask i then [B.marks.getD i ((0,0),0)] else [])
def subM (B : Bk) (mask : Nat) : Bk := { B with marks := mksTo B mask B.marks.length }
def oddTo (B : Bk) : Nat → List (List Int)
 | 0 => []
 | j + 1 => oddTo B j ++ (if (statesM (subM B j)).length = 0 then [idxTo j B.marks.length] else [])
def clashL (B : Bk) : List Int := if (statesM B).length = 0 then bestM smallerM ((oddTo B (2 ^ B.marks.length)).headD []) ((oddTo B (2 ^ B.marks.length)).drop 1) else []
def clashM (B : Bk) : List Int × Int := if bookBar B ≠ 0 then ([],bookBar B) else (clashL B,0)
theorem idxTo_len (mask : Nat) : ∀ i,(idxTo mask i).length ≤ i
 | 0 => Nat.le_refl _
 | i + 1 => by
  have := idxTo_len mask i
  unfold idxTo
  rw [List.length_append]
  split <;> simp <;> omega
theorem mksTo_len (B : Bk) (mask : Nat) : ∀ i,(mksTo B mask i).length ≤ i
 | 0 => Nat.le_refl _
 | i + 1 => by
  have := mksTo_len B mask i
  unfold mksTo
  rw [List.length_append]
  split <;> simp <;> omega
theorem oddTo_len (B : Bk) : ∀ i,(oddTo B i).length ≤ i
 | 0 => Nat.le_refl _
 | i + 1 => by
  have := oddTo_len B i
  unfold oddTo
  rw [List.length_append]
  split <;> simp <;> omega
theorem oddTo_xs (B : Bk) : ∀ i,∀ l ∈ oddTo B i,l.length ≤ B.marks.length
 | 0,l,h => by cases h
 | i + 1,l,h => by
  unfold oddTo at h
  rcases List.mem_append.1 h with h | h
  ·exact oddTo_xs B i l h
  ·split at h
   ·obtain rfl : l = _ := by simpa using h
    exact idxTo_len _ _
   ·cases h
theorem mksTo_mem (B : Bk) (mask : Nat) : ∀ i,i ≤ B.marks.length → ∀ m ∈ mksTo B mask i,m ∈ B.marks
 | 0,_,m,h => by cases h
 | i + 1,hi,m,h => by
  unfold mksTo at h
  rcases List.mem_append.1 h with h | h
  ·exact mksTo_mem B mask i (by omega) m h
  ·split at h
   ·rw [List.mem_singleton] at h
    subst h
    rw [List.getD_eq_getElem?_getD,List.getElem?_eq_getElem (by omega)]
    exact List.getElem_mem _
   ·cases h
theorem marksBar_of {ms : List (R2 × Int)} (h : ∀ m ∈ ms,markBar m = 0) : marksBar ms = 0 := by
 induction ms with
 | nil => rfl
 | cons m ms ih =>
  unfold marksBar
  rw [if_neg (by simpa using h m (List.mem_cons_self ..))]
  exact ih fun x hx => h x (List.mem_cons_of_mem _ hx)
theorem bookBar_marks {B : Bk} (h : bookBar B = 0) {ms : List (R2 × Int)} (hl : ms.length ≤ 4) (hm : ∀ m ∈ ms,markBar m = 0) : bookBar { B with marks := ms } = 0 := by
 have h0 := h
 unfold bookBar at h
 have hp : profBar B.prof = 0 := by
  by_cases e : profBar B.prof = 0
  ·exact e
  ·rw [if_pos e] at h;exact h
 rw [if_neg (by simp [hp])] at h
 have hs : sizeBar B = 0 := by
  by_cases e : sizeBar B = 0
  ·exact e
  ·rw [if_pos e] at h;exact h
 have hs' : sizeBar { B with marks := ms } = 0 := hs
 unfold bookBar
 simp only [hp,hs']
 rw [if_neg (by simp),if_neg (by simp)]
 unfold mksBar
 rw [if_neg (by omega)]
 exact marksBar_of hm
theorem bookBar_sub {B : Bk} (h : bookBar B = 0) (mask : Nat) : bookBar (subM B mask) = 0 := by
 have hb := bounds_of_bar h
 refine bookBar_marks h (Nat.le_trans (mksTo_len B mask _) (by omega)) fun m hm => ?_
 exact hb.2.2.2.2.2.2.2.2.2.2 m (mksTo_mem B mask _ (Nat.le_refl _) m hm)
theorem bit_all {n i : Nat} (h : i < n) : bitM (2 ^ n - 1) i = true := by
 unfold bitM
 rw [decide_eq_true_eq]
 have h1 := Nat.testBit_two_pow_sub_one n i
 rw [Nat.testBit_eq_decide_div_mod_eq] at h1
 simpa [h] using h1
theorem mksTo_all (B : Bk) : ∀ i,i ≤ B.marks.length → mksTo B (2 ^ B.marks.length - 1) i = B.marks.take i
 | 0,_ => by simp [mksTo]
 | i + 1,h => by
  unfold mksTo
  rw [mksTo_all B i (by omega),bit_all (by omega),if_pos rfl,List.getD_eq_getElem?_getD,List.getElem?_eq_getElem (by omega),List.take_succ_eq_append_getElem (by omega)]
  rfl
theorem sub_all (B : Bk) : subM B (2 ^ B.marks.length - 1) = B := by
 unfold subM
 rw [mksTo_all B _ (Nat.le_refl _),List.take_length]
theorem odd_pos {B : Bk} (h : (statesM B).length = 0) : 0 < (oddTo B (2 ^ B.marks.length)).length := by
 have hp : 0 < 2 ^ B.marks.length := Nat.two_pow_pos _
 obtain ⟨k,hk⟩ : ∃ k,2 ^ B.marks.length = k + 1 := ⟨2 ^ B.marks.length - 1,by omega⟩
 have hs := sub_all B
 rw [show 2 ^ B.marks.length - 1 = k from by omega] at hs
 rw [hk]
 unfold oddTo
 rw [hs,if_pos h]
 simp
theorem bestM_map {α β : Type} (f : α → β) (better : α → α → Bool) (better' : β → β → Bool) (h : ∀ x y,better x y = better' (f x) (f y)) : ∀ (one : α) (l : List α),f (bestM better one l) = bestM better' (f one) (l.map f)
 | one,[] => rfl
 | one,x :: l => by
  show f (bestM better (if better x one then x else one) l) = bestM better' (if better' (f x) (f one) then f x else f one) (l.map f)
  rw [bestM_map f better better' h,← h]
  congr 1
  split <;> rfl
set_option maxRecDepth 100000 in
set_option maxHeartbeats 1000000 in
theorem s30c (L : Lg Tryz.prog main) (H : Facts) {B : Bk} {A : BkA} (hO : Opn H B A) :
  Grows L 30 #[bkV B A] H (fun v sf => ∃ a cap,v = .tuple #[.slice a (clashM B).1.length cap,.int .i64 (clashM B).2] ∧ Rd sf a ((clashM B).1.flatMap c1) ∧ (clashM B).1.length ≤ cap) := by
 refine Spec.enter Tryz.func30 rfl (by simp [Tryz.f30]) fun c cs hc => ?_
 unfold clashM clashL at hc
 by_cases hz : bookBar B = 0
 ·simp only [if_neg (show ¬ bookBar B ≠ 0 from by simpa using hz)] at hc
  have hB := hO.r
  have hrm := hB.m
  have hb := bounds_of_bar hz
  have hm4 := hb.2.2.2.2.2.2.2.2.2.1
  refine At.seq (At.region ?_);refine An Z Z Z Z Z Z Z fun r1 => ?_;(iterate 2 refine Aa Z Z Z Z Z O ?_);refine Ab (At.seq (At.region ?_));refine Af 0 Z Z Z Z Z Z Z Z Z ?_;refine Ai Z Z Z Z Z Z Z Z (s53z L _ (fs := []) (rs := []) hO.a hz rfl (.inl rfl) Bars.nil (by simp)) ?_;(iterate 3 refine Aa Z Z Z Z Z O ?_);refine Al Z Z Z Z Z fun r4 => ?_
  refine Ag 0 Z Z Z Z Z Z Z Z Z Z Z Z ?_;refine Aa Z Z Z Z Z O ?_;refine Ab (At.seq (At.seq (At.region ?_)));refine Aa Z Z Z Z Z O ?_;refine Ad Z Z Z Z Z fun b18 h18 => ?_;refine Ab ?_
  have e : b18 = false := by rw [← h18];rfl
  subst e
  refine At.cond Z ?_;refine At.skip (At.seq (At.seq (At.region ?_)));refine Af 0 Z Z Z Z Z Z Z Z Z ?_;refine Bc Z Z Z Z Z Z Z Z (s86 L _ bs bs) fun b21 h21 => ?_;refine Ab ?_
  cases b21
  ·have h0 : (statesM B).length = 0 := by simp at h21;simpa using h21
   simp only [if_pos h0] at hc
   obtain ⟨N,hNe⟩ : ∃ N : Nat,N = 2 ^ B.marks.length := ⟨_,rfl⟩
   have hN : N ≤ 16 := by rw [hNe];exact Nat.pow_le_pow_right (by omega) (show B.marks.length ≤ 4 by omega)
   have e2 : (1 : Int) * 2 ^ B.marks.length = (N : Int) := by rw [hNe];simp
   have hop := odd_pos h0
   rw [← hNe] at hc hop
   refine At.cond Z ?_;refine At.skip (At.seq (At.region ?_));refine Aa Z Z Z Z Z O ?_;refine Ab (At.seq (At.seq (At.region ?_)));refine Ah 4 Z Z Z Z Z Z Z ?_;refine Af 1 Z Z Z Z Z Z Z Z Z ?_;refine Ao Z Z Z Z Z Z Z Z ?_;refine Ae Z Z Z Z (q_shl (i := B.marks.length) Z Z Z (by omega) (by rw [e2];unfold InI;omega)) ?_
   rw [e2]
   refine Aa Z Z Z Z Z O ?_;refine Ab ?_;refine At.block ?_
   have hR0 : BkR (.own r4 (.cells (List.toArray (bkC B A)) 117 (0,0)) :: .own r1 (.cells (List.toArray (bkC B A)) 27 (0,0)) :: H) B A := hB.a
   refine Az (X := { x : Nat × Value × List LE × Facts × Facts // x.1 ≤ N ∧ Sl cL 46 x.2.1 x.2.2.1 x.2.2.2.1 ∧ x.2.2.1.map LE.xs = oddTo B x.1 ∧ ∀ e ∈ x.2.2.1,Rd x.2.2.2.2 e.a (e.xs.flatMap c1) ∧ e.xs.length ≤ e.cap }) [1,2,3,4,25] (fun x => [(26,.int .i64 (x.1.1 : Int)),(6,x.1.2.1)]) (fun x => .own r4 (.cells (List.toArray (bkC B A)) 117 (0,0)) :: .own r1 (.cells (List.toArray (bkC B A)) 27 (0,0)) :: (x.1.2.2.2.1 ++ (x.1.2.2.2.2 ++ H))) (fun x => N - x.1.1) (⟨(0,.slice none 0 0,[],[],[]),Nat.zero_le _,Sl.nil,rfl,by simp⟩) rfl ?_ (by repeat (first | exact trivial | refine ⟨rfl,?_⟩)) sb
   rintro ⟨⟨j,vo,es,sfo,sfl⟩,hj,hso,hes,hrd⟩ again
   simp only at again hj hso hes hrd ⊢
   refine At.seq (At.region ?_);refine Ad Z Z Z Z Z fun b27 h27 => ?_;refine Ab (At.seq ?_)
   cases b27
   ·have e : j = N := by simp at h27;omega
    subst e
    obtain ⟨ao,co,rfl⟩ := hso.slice
    obtain ⟨_,hro,hco⟩ := hso.rd
    have hel : es.length = (oddTo B j).length := by rw [← hes,List.length_map]
    have hole := oddTo_len B j
    have hxl : ∀ e ∈ es,e.xs.length ≤ 1000 := by
     intro e he
     have := oddTo_xs B j e.xs (by rw [← hes];exact List.mem_map_of_mem he)
     omega
    have h0e : 0 < es.length := by omega
    obtain ⟨b0,off0,rfl,hc0⟩ := hro.el (List.getElem?_eq_getElem h0e)
    have hr1 := hro.slA (cap := co) (l := 1) hco (by omega)
    have hm0 : es[0] ∈ es := List.getElem_mem h0e
    have hmm : ∀ y,y ∈ es[0] :: es.drop 1 → y ∈ es := by
     intro y hy
     rcases List.mem_cons.1 hy with rfl | hy
     ·exact hm0
     ·exact List.mem_of_mem_drop hy
    have hbx : bestM smallerM ((oddTo B j).headD []) ((oddTo B j).drop 1) = (bestM (fun x y : LE => smallerM x.xs y.xs) es[0] (es.drop 1)).xs := by
     rw [bestM_map LE.xs _ smallerM (fun _ _ => rfl),← hes,List.map_drop]
     congr 1
     rw [List.headD_eq_head?_getD,List.head?_map,List.head?_eq_getElem?,List.getElem?_eq_getElem h0e]
     rfl
    simp only [hbx] at hc
    have hbm := hmm _ (bestM_mem (fun x y : LE => smallerM x.xs y.xs) es[0] (es.drop 1))
    have h129 := fun H_ hr_ (hs_ : Sub sfl H_) => s87 L H_ (fv := .func (.func 88) #[] #[]) (better := fun x y => smallerM x.xs y.xs) (one := es[0]) (l := es.drop 1) (a := slA (some ⟨b0,off0,none⟩) co 1 1) (n := es.length - 1) (cap := co - 1) (by rw [List.length_drop]) (fun H' x y hs hx hy => SpecV.of HB.h (s88 L H' Z Z ((hrd x (List.mem_of_mem_drop hx)).1.more (hs_.trans hs)) ((hrd y (hmm y hy)).1.more (hs_.trans hs)) (hxl x (List.mem_of_mem_drop hx)) (hxl y (hmm y hy)))) hr_ (by rw [List.length_drop];omega)
    have stop87 := trivial
    refine At.cond Z ?_;refine At.exit rfl ?_;refine At.seq ?_;refine Aw hmix [] rfl ?_;refine Ac 0 Z Z Z Z Z Z Z O ?_;refine Ak 1 Z Z Z Z Z (q_ia Z Z Z (by assumption)) rfl ?_;refine Ax 2 Z Z Z Z Z Z Z hc0.a Z Z Z ?_;refine Ac 3 Z Z Z Z Z Z Z O ?_;refine Ak 4 Z Z Z Z Z (q_sliceL (l := 1) Z Z Z (by assumption)) rfl ?_;refine Ac 7 Z Z Z Z Z Z Z O ?_
    clear stop87
    refine Ap 5 Z Z Z Z Z Z Z Z Z (fun H_ hs_ => h129 H_ hr1.a (((((Sub.pre sfl H).trans (Sub.append_left sfo _)).trans (Sub.tail _ _)).trans (Sub.tail _ _)).trans hs_)) ?_;refine Ac 6 Z Z Z Z Z Z Z O ?_;refine pool_done Z Z ?_;refine Ab ?_
    exact At.ret Tryz.func30 (.inr ⟨_,rfl⟩) rfl (.tmp rfl (.tmp rfl .nil)) (wk (hc _ _ (⟨sfl,⟨(bestM (fun x y : LE => smallerM x.xs y.xs) es[0] (es.drop 1)).a,(bestM (fun x y : LE => smallerM x.xs y.xs) es[0] (es.drop 1)).cap,rfl,(hrd _ hbm).1,(hrd _ hbm).2⟩,rfl⟩)))
   ·have hlt : j < N := by simp at h27;omega
    have hol : es.length ≤ j := by
     have := congrArg List.length hes
     rw [List.length_map] at this
     rw [this];exact oddTo_len B j
    refine At.cond Z ?_;refine At.skip (At.seq ?_);refine At.block ?_;refine At.seq (At.region ?_);(iterate 2 refine Aa Z Z Z Z Z O ?_);refine Ab (At.seq (At.region ?_));refine Aa Z Z Z Z Z O ?_;refine Ab (At.seq (At.region ?_));refine Af 0 Z Z Z Z Z Z Z Z Z ?_;refine Al Z Z Z Z Z fun r9 => ?_;refine Ag 0 Z Z Z Z Z Z Z Z Z Z Z Z ?_
    refine Ab (At.seq (At.region ?_));refine Ah 0 Z Z Z Z Z Z Z ?_;refine Ah 4 Z Z Z Z Z Z Z ?_;refine Ag 0 Z Z Z Z Z Z Z Z Z Z Z Z ?_;refine Ab (At.seq (At.seq (At.region ?_)));refine Ah 4 Z Z Z Z Z Z Z ?_;refine Af 2 Z Z Z Z Z Z Z Z Z ?_;refine Ao Z Z Z Z Z Z Z Z ?_;refine Aa Z Z Z Z Z O ?_;refine Ab ?_;refine At.block ?_
    refine Az (X := { x : Nat × Value × Facts × Option Addr × Nat × Facts // x.1 ≤ B.marks.length ∧ Sl c1 3 x.2.1 (idxTo j x.1) x.2.2.1 ∧ Sl c3 72 (.slice x.2.2.2.1 (mksTo B j x.1).length x.2.2.2.2.1) (mksTo B j x.1) x.2.2.2.2.2 }) [1,2,3,4,6,7,9,25,26,27,28,29,30,31,32,33,34] (fun x => [(35,.int .i64 (x.1.1 : Int)),(8,x.1.2.1)]) (fun x => .own r9 (.cells #[.slice A.pa B.prof.length A.pc,.int .i64 B.size,.int .i64 B.lo,.int .i64 B.hi,.slice x.1.2.2.2.1 (mksTo B j x.1.1).length x.1.2.2.2.2.1] 117 (0,0)) :: .own r4 (.cells (List.toArray (bkC B A)) 117 (0,0)) :: .own r1 (.cells (List.toArray (bkC B A)) 27 (0,0)) :: (x.1.2.2.1 ++ (x.1.2.2.2.2.2 ++ (sfo ++ (sfl ++ H))))) (fun x => B.marks.length - x.1.1) (⟨(0,.slice none 0 0,[],none,0,[]),Nat.zero_le _,Sl.nil,Sl.nil⟩) rfl ?_ (by repeat (first | exact trivial | refine ⟨rfl,?_⟩)) sb
    rintro ⟨⟨i,vl,sl,am,cm,sm⟩,hi,hsl,hsm⟩ again2
    simp only at again2 hi hsl hsm ⊢
    refine At.seq (At.region ?_);refine Ad Z Z Z Z Z fun b36 h36 => ?_;refine Ab (At.seq ?_)
    cases b36
    ·have e : i = B.marks.length := by simp at h36;omega
     subst e
     have hzs := bookBar_sub hz j
     have hsm2 : Sl c3 72 (.slice am (subM B j).marks.length cm) (subM B j).marks sm := hsm
     obtain ⟨_,hrm2,_⟩ := hsm2.rd
     refine At.weakH (H' := .own r9 (.cells (List.toArray (bkC (subM B j) ⟨A.pa,A.pc,am,cm⟩)) 117 (0,0)) :: .own r4 (.cells (List.toArray (bkC B A)) 117 (0,0)) :: .own r1 (.cells (List.toArray (bkC B A)) 27 (0,0)) :: (sl ++ (sm ++ (sfo ++ (sfl ++ H))))) ?_ (Sub.refl _)
     have hB2 : BkR (.own r9 (.cells (List.toArray (bkC (subM B j) ⟨A.pa,A.pc,am,cm⟩)) 117 (0,0)) :: .own r4 (.cells (List.toArray (bkC B A)) 117 (0,0)) :: .own r1 (.cells (List.toArray (bkC B A)) 27 (0,0)) :: (sl ++ (sm ++ (sfo ++ (sfl ++ H))))) (subM B j) ⟨A.pa,A.pc,am,cm⟩ := ⟨hB.p.a,hrm2.a⟩
     have stop86 := trivial
     refine At.cond Z ?_;refine At.exit rfl ?_;refine At.seq (At.region ?_);refine Af 0 Z Z Z Z Z Z Z Z Z ?_
     clear stop86
     refine Ai Z Z Z Z Z Z Z Z (s86 L _ hB2 hzs) ?_
     obtain ⟨al,cl,rfl⟩ := hsl.slice
     obtain ⟨_,hrl,hcl⟩ := hsl.rd
     by_cases h0j : (statesM (subM B j)).length = 0
     ·have eod : oddTo B (j + 1) = oddTo B j ++ [idxTo j B.marks.length] := by
       show oddTo B j ++ (if _ then _ else _) = _
       rw [if_pos h0j]
      rw [show decide (0 < (statesM (subM B j)).length) = false from by simp [h0j]]
      refine Aa Z Z Z Z Z O ?_;refine Ab ?_;refine At.cond Z ?_;refine At.region ?_;(iterate 2 refine Aa Z Z Z Z Z O ?_)
      (refine At.l Z Z Z Z (l_buildSlice Z Z Z Z Z) ?_;rintro _ _ ⟨r63,rfl,rfl⟩)
      refine At.weakH ?_ ((((((Sub.of_perm (List.perm_append_comm_assoc sfo sl (sfl ++ H))).trans (((Sub.refl _).dropL sm).appL sl)).cons _).cons _).drop _).cons _)
      refine At.push (x := (⟨al,cl,idxTo j B.marks.length⟩ : LE)) 0 3 Z Z Z Z Z Z Z Z Z Z Z Z Z Z hso Z Z Z ?_ fun v sf hs => ?_
      ·omega
      ·refine Aa Z Z Z Z Z O ?_
       refine Ab ?_;refine At.inBlock ?_;refine At.region ?_;refine Aa Z Z Z Z Z (by omega) ?_;refine Aa Z Z Z Z Z O ?_;refine Ab ?_
       have ag := again ⟨(j + 1,v,es ++ [⟨al,cl,idxTo j B.marks.length⟩],sf,sl ++ sfl),hlt,hs,(by rw [List.map_append,hes,eod];rfl),(by
        intro e he
        rcases List.mem_append.1 he with h | h
        ·exact ⟨(hrd e h).1.more (Sub.append_left _ _),(hrd e h).2⟩
        ·obtain rfl : e = _ := by simpa using h
         exact ⟨hrl.more (Sub.pre _ _),hcl⟩)⟩ (by simp;omega)
       simp only [List.append_assoc] at ag
       refine Aq (ag)
     ·have eod : oddTo B (j + 1) = oddTo B j := by
       show oddTo B j ++ (if _ then _ else _) = _
       rw [if_neg h0j];simp
      rw [show decide (0 < (statesM (subM B j)).length) = true from by simp;omega]
      refine Aa Z Z Z Z Z O ?_;refine Ab ?_;refine At.cond Z ?_;refine At.skip ?_;refine At.inBlock ?_;refine At.region ?_;refine Aa Z Z Z Z Z (by omega) ?_;refine Aa Z Z Z Z Z O ?_;refine Ab ?_
      refine Aq ((again ⟨(j + 1,vo,es,sfo,sfl),hlt,hso,by rw [eod];exact hes,hrd⟩ (by simp;omega)))
    ·have hlti : i < B.marks.length := by simp at h36;omega
     obtain ⟨bm,offm,em,hcm⟩ := hrm.el (List.getElem?_eq_getElem hlti)
     have hgd : B.marks.getD i ((0,0),0) = B.marks[i] := by rw [List.getD_eq_getElem?_getD,List.getElem?_eq_getElem hlti];rfl
     have hml : (mksTo B j i).length < 100000 := by have := mksTo_len B j i;omega
     have hil : (idxTo j i).length < 100000 := by have := idxTo_len j i;omega
     refine At.cond Z ?_;refine At.skip (At.seq ?_);refine At.block ?_;refine At.seq (At.region ?_);refine Aa Z Z Z Z Z O ?_;refine Ae Z Z Z Z (q_iaQ (k := (i)) Z Z Z (by assumption) rfl (by assumption)) ?_;refine Au Z Z Z Z Z Z hcm.a Z Z ?_;refine Al Z Z Z Z Z fun r11 => ?_;refine Aa Z Z Z Z Z O ?_;refine Ag 0 Z Z Z Z Z Z Z Z Z Z Z Z ?_;refine Ab (At.seq (At.region ?_))
     (iterate 2 refine Aa Z Z Z Z Z O ?_);refine Ae Z Z Z Z (q_shr (m := j) (i := i) Z Z Z (by show i ≤ 64;omega)) ?_;refine Ae Z Z Z Z (q_and1 Z Z Z) ?_;refine Ad Z Z Z Z Z fun b44 h44 => ?_;refine Ab ?_
     have hbit : bitM j i = b44 := by
      rw [← h44];unfold bitM
      exact decide_eq_decide.2 (by omega)
     cases b44
     ·have eix : idxTo j (i + 1) = idxTo j i := by show idxTo j i ++ (if bitM j i then _ else _) = _;rw [hbit];simp
      have emk : mksTo B j (i + 1) = mksTo B j i := by show mksTo B j i ++ (if bitM j i then _ else _) = _;rw [hbit];simp
      refine At.cond Z ?_;refine At.skip ?_;refine At.inBlock ?_;refine At.region ?_;refine Aa Z Z Z Z Z (by omega) ?_;refine Aa Z Z Z Z Z O ?_;refine Ab ?_
      have ag := again2 ⟨(i + 1,vl,sl,am,cm,sm),hlti,by rw [eix];exact hsl,by rw [emk];exact hsm⟩ (by simp;omega)
      simp only [emk] at ag
      refine Aq (ag)
     ·have eix : idxTo j (i + 1) = idxTo j i ++ [(i : Int)] := by show idxTo j i ++ (if bitM j i then _ else _) = _;rw [hbit];rfl
      have emk : mksTo B j (i + 1) = mksTo B j i ++ [B.marks[i]] := by show mksTo B j i ++ (if bitM j i then _ else _) = _;rw [hbit,hgd];rfl
      have stopDraw := trivial
      refine At.cond Z ?_
      clear stopDraw
      refine At.cutk (X := { x : Value × Facts × Option Addr × Nat × Facts // Sl c1 3 x.1 (idxTo j (i + 1)) x.2.1 ∧ Sl c3 72 (.slice x.2.2.1 (mksTo B j (i + 1)).length x.2.2.2.1) (mksTo B j (i + 1)) x.2.2.2.2 }) [1,2,3,4,6,7,9,10,11,25,26,27,28,29,30,31,32,33,34,35,36,37,38,39,40,41,42,43,44] (fun x => [(8,x.1.1)]) (fun x => .own r9 (.cells #[.slice A.pa B.prof.length A.pc,.int .i64 B.size,.int .i64 B.lo,.int .i64 B.hi,.slice x.1.2.2.1 (mksTo B j (i + 1)).length x.1.2.2.2.1] 117 (0,0)) :: .own r4 (.cells (List.toArray (bkC B A)) 117 (0,0)) :: .own r1 (.cells (List.toArray (bkC B A)) 27 (0,0)) :: (x.1.2.1 ++ (x.1.2.2.2.2 ++ (sfo ++ (sfl ++ H))))) rfl ?_ fun key => ?_
      ·rintro ⟨⟨vl,sl,am,cm,sm⟩,hsl,hsm⟩
       simp only at hsl hsm ⊢
       refine At.inBlock ?_;refine At.region ?_;refine Aa Z Z Z Z Z (by omega) ?_;refine Aa Z Z Z Z Z O ?_;refine Ab ?_
       refine Aq ((again2 ⟨(i + 1,vl,sl,am,cm,sm),hlti,hsl,hsm⟩ (by simp;omega)))
      ·rw [emk] at key
       rw [eix] at key
       refine Bd hmix _ (((((((Sub.refl H).dropL sfl).dropL sfo).dropL sm).dropL sl).drop _ |>.drop _).cons _ |>.cons _) ?_
       have stopPhase := trivial
       have stopI11 := trivial
       refine Ac 0 Z Z Z Z Z Z Z O ?_;refine Ac 1 Z Z Z Z Z Z Z O ?_;refine Am 0 4 Z Z Z Z Z Z Z Z Z ?_;refine Am 4 5 Z Z Z Z Z Z Z Z Z ?_;refine Aj 1 6 Z Z Z Z Z Z Z Z Z Z Z ?_;refine Aj 0 7 Z Z Z Z Z Z Z Z Z Z Z ?_
       refine Pool.two 2 8 Z Z Z Z Z (loud_bs Z Z Z Z Z Z Z Z Z Z (by repeat (first | exact Sub.refl _ | exact Sub.pre _ _ | apply Sub.cons | apply Sub.drop | apply Sub.appL | apply Sub.dropL)) fun r47 => ?_) (loud_bs Z Z Z Z Z Z Z Z Z Z (by repeat (first | exact Sub.refl _ | exact Sub.pre _ _ | apply Sub.cons | apply Sub.drop | apply Sub.appL | apply Sub.dropL)) fun r53 => ?_)
       ·refine Pool.two 3 8 Z Z Z Z Z (loud_push 0 5 Z Z Z Z Z Z Z Z Z Z Z Z Z Z Z Z hsl Z Z Z (by repeat (first | exact Sub.refl _ | exact Sub.pre _ _ | apply Sub.cons | apply Sub.drop | apply Sub.appL | apply Sub.dropL)) hil fun vl' sl' hs1 => ?_) (loud_bs Z Z Z Z Z Z Z Z Z Z (by repeat (first | exact Sub.refl _ | exact Sub.pre _ _ | apply Sub.cons | apply Sub.drop | apply Sub.appL | apply Sub.dropL)) fun r53 => ?_)
        ·refine Pool.bs 8 Z Z Z Z Z Z Z Z Z Z Z Z Z Z Z (by repeat (first | exact Sub.refl _ | exact Sub.pre _ _ | apply Sub.cons | apply Sub.drop | apply Sub.appL | apply Sub.dropL)) fun r53 => ?_
         refine Pool.weakH ?_ ((((((Sub.of_perm (List.perm_append_comm_assoc sm sl' (sfo ++ (sfl ++ H)))).cons _).cons _).cons _).cons _).cons _ |>.cons _) (by repeat (first | exact Sub.refl _ | exact Sub.pre _ _ | apply Sub.cons | apply Sub.drop | apply Sub.appL | apply Sub.dropL))
         refine Pool.push (x := B.marks[i]) 9 0 6 Z Z Z Z Z Z Z Z Z Z Z Z Z Z Z Z Z Z Z Z Z hsm Z Z Z (by repeat (first | exact Sub.refl _ | exact Sub.pre _ _ | apply Sub.cons | apply Sub.drop | apply Sub.appL | apply Sub.dropL)) hml fun vm' sm' hs2 => ?_
         obtain ⟨am',cm',rfl⟩ := hs2.slice
         refine Ac 10 Z Z Z Z Z Z Z O ?_
         clear stopPhase stopI11
         refine Pool.flush 11 (Hq' := H) Z Z Z Z Z Z (by repeat (first | exact Sub.refl _ | exact Sub.pre _ _ | apply Sub.cons | apply Sub.drop | apply Sub.appL | apply Sub.dropL)) ?_
         refine Pool.weakH ?_ ((((((Sub.of_perm (List.perm_append_comm_assoc sl' sm' (sfo ++ (sfl ++ H)))).cons _).cons _).cons _).drop _).drop _ |>.drop _) (by repeat (first | exact Sub.refl _ | exact Sub.pre _ _ | apply Sub.cons | apply Sub.drop | apply Sub.appL | apply Sub.dropL))
         refine Am 0 11 Z Z Z Z Z Z Z Z Z ?_;refine Am 4 12 Z Z Z Z Z Z Z Z Z ?_;refine Ba 0 13 Z Z Z Z Z Z Z Z Z Z Z Z Z Z Z Z Z Z sb ?_;refine pool_done Z Z ?_;refine Ab ?_
         refine Aq ((key ⟨(vl',sl',am',cm',sm'),hs1,hs2⟩))
        ·refine Pool.push (x := (i : Int)) 3 1 6 Z Z Z Z Z Z Z Z Z Z Z Z Z Z Z Z Z Z Z Z Z hsl Z Z Z (by repeat (first | exact Sub.refl _ | exact Sub.pre _ _ | apply Sub.cons | apply Sub.drop | apply Sub.appL | apply Sub.dropL)) hil fun vl' sl' hs1 => ?_
         refine Pool.weakH ?_ ((((((Sub.of_perm (List.perm_append_comm_assoc sm sl' (sfo ++ (sfl ++ H)))).cons _).cons _).cons _).cons _).cons _ |>.cons _) (by repeat (first | exact Sub.refl _ | exact Sub.pre _ _ | apply Sub.cons | apply Sub.drop | apply Sub.appL | apply Sub.dropL))
         refine Pool.push (x := B.marks[i]) 9 0 6 Z Z Z Z Z Z Z Z Z Z Z Z Z Z Z Z Z Z Z Z Z hsm Z Z Z (by repeat (first | exact Sub.refl _ | exact Sub.pre _ _ | apply Sub.cons | apply Sub.drop | apply Sub.appL | apply Sub.dropL)) hml fun vm' sm' hs2 => ?_
         obtain ⟨am',cm',rfl⟩ := hs2.slice
         refine Ac 10 Z Z Z Z Z Z Z O ?_
         clear stopPhase stopI11
         refine Pool.flush 11 (Hq' := H) Z Z Z Z Z Z (by repeat (first | exact Sub.refl _ | exact Sub.pre _ _ | apply Sub.cons | apply Sub.drop | apply Sub.appL | apply Sub.dropL)) ?_
         refine Pool.weakH ?_ ((((((Sub.of_perm (List.perm_append_comm_assoc sl' sm' (sfo ++ (sfl ++ H)))).cons _).cons _).cons _).drop _).drop _ |>.drop _) (by repeat (first | exact Sub.refl _ | exact Sub.pre _ _ | apply Sub.cons | apply Sub.drop | apply Sub.appL | apply Sub.dropL))
         refine Am 0 11 Z Z Z Z Z Z Z Z Z ?_;refine Am 4 12 Z Z Z Z Z Z Z Z Z ?_;refine Ba 0 13 Z Z Z Z Z Z Z Z Z Z Z Z Z Z Z Z Z Z sb ?_;refine pool_done Z Z ?_;refine Ab ?_
         refine Aq ((key ⟨(vl',sl',am',cm',sm'),hs1,hs2⟩))
       ·refine Pool.bs 2 Z Z Z Z Z Z Z Z Z Z Z Z Z Z Z (by repeat (first | exact Sub.refl _ | exact Sub.pre _ _ | apply Sub.cons | apply Sub.drop | apply Sub.appL | apply Sub.dropL)) fun r47 => ?_
        refine Pool.push (x := (i : Int)) 3 0 6 Z Z Z Z Z Z Z Z Z Z Z Z Z Z Z Z Z Z Z Z Z hsl Z Z Z (by repeat (first | exact Sub.refl _ | exact Sub.pre _ _ | apply Sub.cons | apply Sub.drop | apply Sub.appL | apply Sub.dropL)) hil fun vl' sl' hs1 => ?_
        refine Pool.weakH ?_ ((((((Sub.of_perm (List.perm_append_comm_assoc sm sl' (sfo ++ (sfl ++ H)))).cons _).cons _).cons _).cons _).cons _ |>.cons _) (by repeat (first | exact Sub.refl _ | exact Sub.pre _ _ | apply Sub.cons | apply Sub.drop | apply Sub.appL | apply Sub.dropL))
        refine Pool.push (x := B.marks[i]) 9 1 6 Z Z Z Z Z Z Z Z Z Z Z Z Z Z Z Z Z Z Z Z Z hsm Z Z Z (by repeat (first | exact Sub.refl _ | exact Sub.pre _ _ | apply Sub.cons | apply Sub.drop | apply Sub.appL | apply Sub.dropL)) hml fun vm' sm' hs2 => ?_
        obtain ⟨am',cm',rfl⟩ := hs2.slice
        refine Ac 10 Z Z Z Z Z Z Z O ?_
        clear stopPhase stopI11
        refine Pool.flush 11 (Hq' := H) Z Z Z Z Z Z (by repeat (first | exact Sub.refl _ | exact Sub.pre _ _ | apply Sub.cons | apply Sub.drop | apply Sub.appL | apply Sub.dropL)) ?_
        refine Pool.weakH ?_ ((((((Sub.of_perm (List.perm_append_comm_assoc sl' sm' (sfo ++ (sfl ++ H)))).cons _).cons _).cons _).drop _).drop _ |>.drop _) (by repeat (first | exact Sub.refl _ | exact Sub.pre _ _ | apply Sub.cons | apply Sub.drop | apply Sub.appL | apply Sub.dropL))
        refine Am 0 11 Z Z Z Z Z Z Z Z Z ?_;refine Am 4 12 Z Z Z Z Z Z Z Z Z ?_;refine Ba 0 13 Z Z Z Z Z Z Z Z Z Z Z Z Z Z Z Z Z Z sb ?_;refine pool_done Z Z ?_;refine Ab ?_
        refine Aq ((key ⟨(vl',sl',am',cm',sm'),hs1,hs2⟩))
  ·have h0 : ¬ (statesM B).length = 0 := by simp at h21;omega
   simp only [if_neg h0] at hc
   refine At.cond Z ?_;refine At.seq (At.region ?_);(iterate 2 refine Aa Z Z Z Z Z O ?_);refine Ab ?_
   exact At.ret Tryz.func30 (.inr ⟨_,rfl⟩) rfl (.tmp rfl (.tmp rfl .nil)) (wk (hc _ _ (⟨[],⟨none,0,rfl,.inl rfl,Nat.le_refl _⟩,rfl⟩)))
 ·simp only [if_pos hz] at hc
  refine At.seq (At.region ?_);refine An Z Z Z Z Z Z Z fun r1 => ?_;(iterate 2 refine Aa Z Z Z Z Z O ?_);refine Ab (At.seq (At.region ?_));refine Af 0 Z Z Z Z Z Z Z Z Z ?_;refine Ai Z Z Z Z Z Z Z Z (s53n L _ hO.a hz) ?_;(iterate 3 refine Aa Z Z Z Z Z O ?_);refine Al Z Z Z Z Z fun r4 => ?_;refine Ag 0 Z Z Z Z Z Z Z Z Z Z Z Z ?_
  refine Aa Z Z Z Z Z O ?_;refine Ab (At.seq (At.seq (At.region ?_)));refine Aa Z Z Z Z Z O ?_;refine Ad Z Z Z Z Z fun b18 h18 => ?_;refine Ab ?_
  have e : b18 = true := by rw [← h18];simpa using hz
  subst e
  refine At.cond Z ?_;refine At.seq (At.region ?_);(iterate 3 refine Aa Z Z Z Z Z O ?_);refine Ab ?_
  exact At.ret Tryz.func30 (.inr ⟨_,rfl⟩) rfl (.tmp rfl (.tmp rfl .nil)) (wk (hc _ _ (⟨[],⟨none,0,rfl,.inl rfl,Nat.le_refl _⟩,rfl⟩)))
theorem s30 (L : Lg Tryz.prog main) (H : Facts) {B : Bk} {A : BkA} (hO : Opn H B A) :
  Grows L 30 #[bkV B A] H (fun v sf => ∃ a cap,v = .tuple #[.slice a (clashM B).1.length cap,.int .i64 (clashM B).2] ∧ Rd sf a ((clashM B).1.flatMap c1)) :=
 (s30c L H hO).mono fun _ _ ⟨sf,⟨a,cap,h1,h2,_⟩,h3⟩ => ⟨sf,⟨a,cap,h1,h2⟩,h3⟩
end Go.Gx
end
section
namespace Go.Gx
open Go Go.Conc Go.Proofs
variable {main : Bool}
theorem ext_drop {α : Type} {xs ys : List α} {j : Nat} (hl : xs.length = ys.length) (hj : j < xs.length) (hj' : j < ys.length) : xs.drop j = ys.drop j ↔ xs[j] = ys[j] ∧ xs.drop (j + 1) = ys.drop (j + 1) := by
 rw [List.drop_eq_getElem_cons hj,List.drop_eq_getElem_cons hj',List.cons.injEq]
set_option maxRecDepth 100000 in
set_option maxHeartbeats 1000000 in
theorem s73 (L : Lg Tryz.prog main) (H : Facts) {a a' : Option Addr} {n n' cap cap' : Nat} {xs ys : List Int} (hn : xs.length = n) (hn' : ys.length = n') (hr : Rd H a (xs.flatMap c1)) (hr' : Rd H a' (ys.flatMap c1)) (hl : xs.length ≤ 100000) :
  Pure L 73 #[.slice a n cap,.slice a' n' cap'] H (.bool (decide (xs = ys))) := by
 subst hn hn'
 refine Spec.enter Tryz.func73 rfl (by simp [Tryz.f73]) fun c cs hc => ?_;refine At.seq (At.region ?_);refine Aa Z Z Z Z Z O ?_;refine Ab (At.seq (At.seq (At.region ?_)));refine Aa Z Z Z Z Z O ?_;refine Ao Z Z Z Z Z Z Z Z ?_;refine Aa Z Z Z Z Z O ?_;refine Ao Z Z Z Z Z Z Z Z ?_;refine Ad Z Z Z Z Z fun b10 h10 => ?_;refine Ab ?_
 cases b10
 ·have e : xs.length = ys.length := by simp at h10;omega
  refine At.cond Z ?_;refine At.skip (At.seq (At.seq (At.region ?_)));refine Aa Z Z Z Z Z O ?_;refine Ab ?_;refine At.block ?_
  refine Az (X := { j : Nat // j ≤ xs.length ∧ (xs = ys ↔ xs.drop j = ys.drop j) }) [0,1] (fun x => [(5,.int .i64 (x.1 : Int))]) (fun _ => H) (fun x => xs.length - x.1) (⟨0,Nat.zero_le _,Iff.rfl⟩) rfl ?_ (by repeat (first | exact trivial | refine ⟨rfl,?_⟩)) sb
  rintro ⟨j,hj,hd⟩ again
  simp only at again ⊢
  refine At.seq (At.seq (At.region ?_));(iterate 2 refine Aa Z Z Z Z Z O ?_);refine Ao Z Z Z Z Z Z Z Z ?_;refine Ad Z Z Z Z Z fun b14 h14 => ?_;refine Ab ?_
  cases b14
  ·have e1 : j = xs.length := by simp at h14;omega
   have e2 : xs = ys := hd.2 (by rw [List.drop_of_length_le (by omega),List.drop_of_length_le (by omega)])
   refine At.cond Z ?_;refine At.exit rfl ?_;refine At.seq (At.region ?_);refine Aa Z Z Z Z Z O ?_;refine Ab ?_
   exact At.ret Tryz.func73 (.inr ⟨_,rfl⟩) rfl (.tmp rfl .nil) (wk (hc _ _ (⟨by simp [resVal,e2],rfl⟩)))
  ·have hlt : j < xs.length := by simp at h14;omega
   have hlt' : j < ys.length := by omega
   obtain ⟨b,off,rfl,hc1⟩ := hr.el (List.getElem?_eq_getElem hlt)
   obtain ⟨b',off',rfl,hc2⟩ := hr'.el (List.getElem?_eq_getElem hlt')
   have hx := ext_drop e hlt hlt'
   refine At.cond Z ?_;refine At.skip (At.seq ?_);refine At.block ?_;refine At.seq ?_;refine Aw hmix [] rfl ?_;refine Ac 0 Z Z Z Z Z Z Z O ?_;refine Ac 1 Z Z Z Z Z Z Z O ?_;refine Ak 2 Z Z Z Z Z (q_ia Z Z Z (by assumption)) rfl ?_;refine Ax 3 Z Z Z Z Z Z Z hc1.a Z Z Z ?_;refine Ac 4 Z Z Z Z Z Z Z O ?_;refine Ac 5 Z Z Z Z Z Z Z O ?_
   refine Ak 6 Z Z Z Z Z (q_ia Z Z Z (by assumption)) rfl ?_;refine Ax 7 Z Z Z Z Z Z Z hc2.a Z Z Z ?_;refine Bb 8 Z Z Z Z Z Z Z fun b25 h25 => ?_;refine pool_done Z Z ?_;refine Ab ?_
   cases b25
   ·have e3 : xs[j] = ys[j] := by simpa using h25
    refine At.cond Z ?_;refine At.skip ?_;refine At.inBlock ?_;refine At.region ?_;refine Aa Z Z Z Z Z O ?_;refine Aa Z Z Z Z Z (by omega) ?_;refine Aa Z Z Z Z Z O ?_;refine Ab ?_
    refine Aq ((again ⟨j + 1,hlt,by rw [hd,hx];simp [e3]⟩ (by simp;omega)))
   ·have e3 : ¬ xs[j] = ys[j] := by simpa using h25
    have e4 : ¬ xs = ys := by rw [hd,hx];simp [e3]
    refine At.cond Z ?_;refine At.seq (At.region ?_);refine Aa Z Z Z Z Z O ?_;refine Ab ?_
    exact At.ret Tryz.func73 (.inr ⟨_,rfl⟩) rfl (.tmp rfl .nil) (wk (hc _ _ (⟨by simp [resVal,e4],rfl⟩)))
 ·have e : ¬ xs = ys := by rintro rfl;simp at h10
  refine At.cond Z ?_;refine At.seq (At.region ?_);refine Aa Z Z Z Z Z O ?_;refine Ab ?_
  exact At.ret Tryz.func73 (.inr ⟨_,rfl⟩) rfl (.tmp rfl .nil) (wk (hc _ _ (⟨by simp [resVal,e],rfl⟩)))
set_option maxRecDepth 100000 in
set_option maxHeartbeats 1000000 in
theorem s24 (L : Lg Tryz.prog main) (H : Facts) {a a' : Option Addr} {n n' cap cap' : Nat} {xs ys : List R2} (hn : xs.length = n) (hn' : ys.length = n') (hr : Rd H a (xs.flatMap c2)) (hr' : Rd H a' (ys.flatMap c2)) (hl : xs.length ≤ 100000) :
  Pure L 24 #[.slice a n cap,.slice a' n' cap'] H (.bool (decide (xs = ys))) := by
 subst hn hn'
 refine Spec.enter Tryz.func24 rfl (by simp [Tryz.f24]) fun c cs hc => ?_;refine At.seq (At.region ?_);refine Aa Z Z Z Z Z O ?_;refine Ab (At.seq (At.seq (At.region ?_)));refine Aa Z Z Z Z Z O ?_;refine Ao Z Z Z Z Z Z Z Z ?_;refine Aa Z Z Z Z Z O ?_;refine Ao Z Z Z Z Z Z Z Z ?_;refine Ad Z Z Z Z Z fun b10 h10 => ?_;refine Ab ?_
 cases b10
 ·have e : xs.length = ys.length := by simp at h10;omega
  refine At.cond Z ?_;refine At.skip (At.seq (At.seq (At.region ?_)));refine Aa Z Z Z Z Z O ?_;refine Ab ?_;refine At.block ?_
  refine Az (X := { j : Nat // j ≤ xs.length ∧ (xs = ys ↔ xs.drop j = ys.drop j) }) [0,1] (fun x => [(5,.int .i64 (x.1 : Int))]) (fun _ => H) (fun x => xs.length - x.1) (⟨0,Nat.zero_le _,Iff.rfl⟩) rfl ?_ (by repeat (first | exact trivial | refine ⟨rfl,?_⟩)) sb
  rintro ⟨j,hj,hd⟩ again
  simp only at again ⊢
  refine At.seq (At.seq (At.region ?_));(iterate 2 refine Aa Z Z Z Z Z O ?_);refine Ao Z Z Z Z Z Z Z Z ?_;refine Ad Z Z Z Z Z fun b14 h14 => ?_;refine Ab ?_
  cases b14
  ·have e1 : j = xs.length := by simp at h14;omega
   have e2 : xs = ys := hd.2 (by rw [List.drop_of_length_le (by omega),List.drop_of_length_le (by omega)])
   refine At.cond Z ?_;refine At.exit rfl ?_;refine At.seq (At.region ?_);refine Aa Z Z Z Z Z O ?_;refine Ab ?_
   exact At.ret Tryz.func24 (.inr ⟨_,rfl⟩) rfl (.tmp rfl .nil) (wk (hc _ _ (⟨by simp [resVal,e2],rfl⟩)))
  ·have hlt : j < xs.length := by simp at h14;omega
   have hlt' : j < ys.length := by omega
   obtain ⟨b,off,rfl,hc1⟩ := hr.el (List.getElem?_eq_getElem hlt)
   obtain ⟨b',off',rfl,hc2⟩ := hr'.el (List.getElem?_eq_getElem hlt')
   have hx := ext_drop e hlt hlt'
   refine At.cond Z ?_;refine At.skip (At.seq ?_);refine At.block ?_;refine At.seq ?_;refine Aw hmix [] rfl ?_;refine Ac 0 Z Z Z Z Z Z Z O ?_;refine Ac 1 Z Z Z Z Z Z Z O ?_;refine Ak 2 Z Z Z Z Z (q_ia Z Z Z (by assumption)) rfl ?_;refine Ax 3 Z Z Z Z Z Z Z hc1.a Z Z Z ?_;refine Ac 4 Z Z Z Z Z Z Z O ?_;refine Ac 5 Z Z Z Z Z Z Z O ?_
   refine Ak 6 Z Z Z Z Z (q_ia Z Z Z (by assumption)) rfl ?_;refine Ax 7 Z Z Z Z Z Z Z hc2.a Z Z Z ?_;refine Pool.qb 8 Z Z Z Z Z (q_neqS Z Z Z Z Z Z Z Z) rfl fun b25 h25 => ?_;refine pool_done Z Z ?_;refine Ab ?_
   have hb : b25 = !decide (xs[j] = ys[j]) := by
    rw [← h25]
    congr 1
    refine decide_eq_decide.2 ⟨fun h => ?_,fun h => by rw [h]⟩
    simp only [List.cons.injEq,and_true] at h
    exact Prod.ext h.1 h.2
   cases b25
   ·have e3 : xs[j] = ys[j] := by simpa using hb
    refine At.cond Z ?_;refine At.skip ?_;refine At.inBlock ?_;refine At.region ?_;refine Aa Z Z Z Z Z O ?_;refine Aa Z Z Z Z Z (by omega) ?_;refine Aa Z Z Z Z Z O ?_;refine Ab ?_
    refine Aq ((again ⟨j + 1,hlt,by rw [hd,hx];simp [e3]⟩ (by simp;omega)))
   ·have e3 : ¬ xs[j] = ys[j] := by simpa using hb
    have e4 : ¬ xs = ys := by rw [hd,hx];simp [e3]
    refine At.cond Z ?_;refine At.seq (At.region ?_);refine Aa Z Z Z Z Z O ?_;refine Ab ?_
    exact At.ret Tryz.func24 (.inr ⟨_,rfl⟩) rfl (.tmp rfl .nil) (wk (hc _ _ (⟨by simp [resVal,e4],rfl⟩)))
 ·have e : ¬ xs = ys := by rintro rfl;simp at h10
  refine At.cond Z ?_;refine At.seq (At.region ?_);refine Aa Z Z Z Z Z O ?_;refine Ab ?_
  exact At.ret Tryz.func24 (.inr ⟨_,rfl⟩) rfl (.tmp rfl .nil) (wk (hc _ _ (⟨by simp [resVal,e],rfl⟩)))
theorem s23 (L : Lg Tryz.prog main) (H : Facts) {a a' : Option Addr} {n n' cap cap' : Nat} {xs ys : List Int} (hn : xs.length = n) (hn' : ys.length = n') (hr : Rd H a (xs.flatMap c1)) (hr' : Rd H a' (ys.flatMap c1)) (hl : xs.length ≤ 100000) :
  Pure L 23 #[.slice a n cap,.slice a' n' cap'] H (.bool (decide (xs = ys))) := by
 refine Spec.enter Tryz.func23 rfl (by simp [Tryz.f23]) fun c cs hc => ?_
 have stop73 := trivial
 refine At.seq (At.region ?_);refine Aa Z Z Z Z Z O ?_;refine Ab (At.seq (At.region ?_));(iterate 2 refine Aa Z Z Z Z Z O ?_)
 clear stop73
 refine Ai Z Z Z Z Z Z Z Z (s73 L _ hn hn' hr hr' hl) ?_;refine Aa Z Z Z Z Z O ?_;refine Ab ?_
 exact At.ret Tryz.func23 (.inr ⟨_,rfl⟩) rfl (.tmp rfl .nil) (wk (hc _ _ (⟨by rfl,rfl⟩)))
def exC : Bk := ⟨[(20,0),(16,12),(16,24),(20,36)],6,14,16,[]⟩
def exV : Bk := ⟨[(10,0),(5,10),(10,20)],5,0,0,[]⟩
def exA (r : Nat) (n : Nat) : BkA := ⟨some ⟨r,0,none⟩,n,none,0⟩
set_option maxRecDepth 100000 in
theorem s13 (L : Lg Tryz.prog main) (H : Facts) : Grows L 13 #[] H (fun v sf => ∃ r,v = bkV exC (exA r 4) ∧ sf = [.own r (.cells (List.toArray (exC.prof.flatMap c2)) 89 (0,0))]) := by
 refine Spec.enter Tryz.func13 rfl (by simp [Tryz.f13]) fun c cs hc => ?_;refine At.seq (At.region ?_);refine Al Z Z Z Z Z fun r0 => ?_;refine Ab (At.seq (At.region ?_));(iterate 4 refine Ae Z Z Z Z (q_build Z Z Z) ?_)
 (refine At.l Z Z Z Z (l_buildSlice Z Z Z Z Z) ?_;rintro _ _ ⟨r5,rfl,rfl⟩)
 (iterate 2 refine Ae Z Z Z Z (q_build Z Z Z) ?_);refine Ag 1 Z Z Z Z Z Z Z Z Z Z Z Z ?_;refine Ab ?_
 exact At.ret Tryz.func13 (.inr ⟨_,rfl⟩) rfl (.aggJ 1 Z Z Z .nil) (wk (hc _ _ (⟨[_],⟨r5,rfl,rfl⟩,rfl⟩)))
set_option maxRecDepth 100000 in
theorem s18 (L : Lg Tryz.prog main) (H : Facts) : Grows L 18 #[] H (fun v sf => ∃ r,v = bkV exV (exA r 3) ∧ sf = [.own r (.cells (List.toArray (exV.prof.flatMap c2)) 89 (0,0))]) := by
 refine Spec.enter Tryz.func18 rfl (by simp [Tryz.f18]) fun c cs hc => ?_;refine At.seq (At.region ?_);refine Al Z Z Z Z Z fun r0 => ?_;refine Ab (At.seq (At.region ?_));(iterate 3 refine Ae Z Z Z Z (q_build Z Z Z) ?_)
 (refine At.l Z Z Z Z (l_buildSlice Z Z Z Z Z) ?_;rintro _ _ ⟨r4,rfl,rfl⟩)
 refine Ae Z Z Z Z (q_build Z Z Z) ?_;refine Ag 1 Z Z Z Z Z Z Z Z Z Z Z Z ?_;refine Ab ?_
 exact At.ret Tryz.func18 (.inr ⟨_,rfl⟩) rfl (.aggJ 1 Z Z Z .nil) (wk (hc _ _ (⟨[_],⟨r4,rfl,rfl⟩,rfl⟩)))
end Go.Gx
end
section
namespace Go.Gx
open Go Go.Conc Go.Proofs
variable {main : Bool}
set_option maxRecDepth 100000 in
set_option maxHeartbeats 1000000 in
theorem s31 (L : Lg Tryz.prog main) (H : Facts) {B : Bk} {A : BkA} {m : R2 × Int} (hrm : Rd H A.ma (B.marks.flatMap c3)) (hl : B.marks.length ≤ 50000) :
  Grows L 31 #[bkV B A,mV m] H (fun v sf => ∃ a cap,v = bkV (markedM B m) ⟨A.pa,A.pc,a,cap⟩ ∧ Sl c3 72 (.slice a (B.marks.length + 1) cap) (B.marks ++ [m]) sf) := by
 refine Spec.enter Tryz.func31 rfl (by simp [Tryz.f31]) fun c cs hc => ?_
 obtain ⟨n,hn⟩ : ∃ n,B.marks.length = n := ⟨_,rfl⟩
 have stopDraw := trivial
 refine At.seq (At.region ?_);refine An Z Z Z Z Z Z Z fun r2 => ?_;refine An Z Z Z Z Z Z Z fun r3 => ?_;refine Al Z Z Z Z Z fun r4 => ?_;refine Ab (At.seq ?_)
 clear stopDraw
 refine At.cutk (X := { x : Option Addr × Nat × Facts // Sl c3 72 (.slice x.1 (B.marks.length + 1) x.2.1) (B.marks ++ [m]) x.2.2 }) [2,3,4] (fun _ => []) (fun x => .own r4 (.cells #[.slice none 0 0,.int .i64 0,.int .i64 0,.int .i64 0,.slice none 0 0] 27 (0,0)) :: .own r2 (.cells #[.slice A.pa B.prof.length A.pc,.int .i64 B.size,.int .i64 B.lo,.int .i64 B.hi,.slice x.1.1 (B.marks.length + 1) x.1.2.1] 27 (0,0)) :: (x.1.2.2 ++ H)) rfl ?_ fun key => ?_
 ·rintro ⟨⟨a,cp,sm⟩,hsm⟩
  simp only at hsm ⊢
  refine At.seq (At.region ?_);refine Af 1 Z Z Z Z Z Z Z Z Z ?_;refine Ag 0 Z Z Z Z Z Z Z Z Z Z Z Z ?_;refine Ab ?_
  have e : (markedM B m).marks.length = B.marks.length + 1 := by simp [markedM]
  have ev : Value.agg #[.slice A.pa B.prof.length A.pc,.int .i64 B.size,.int .i64 B.lo,.int .i64 B.hi,.slice a (B.marks.length + 1) cp] = bkV (markedM B m) ⟨A.pa,A.pc,a,cp⟩ := by
   show _ = Value.agg #[.slice A.pa (markedM B m).prof.length A.pc,.int .i64 (markedM B m).size,.int .i64 (markedM B m).lo,.int .i64 (markedM B m).hi,.slice a (markedM B m).marks.length cp]
   rw [e];rfl
  exact At.ret Tryz.func31 (.inr ⟨_,rfl⟩) rfl (.aggJ 0 Z Z Z .nil) (wk (hc _ _ (⟨sm,⟨a,cp,ev,hsm⟩,rfl⟩)))
 ·refine Bd hmix (_) sb ?_
  have stopPhase := trivial
  refine Am 4 1 Z Z Z Z Z Z Z Z Z ?_;refine Aj 2 2 Z Z Z Z Z Z Z Z Z Z Z ?_;refine Aj 1 4 Z Z Z Z Z Z Z Z Z Z Z ?_
  refine Pool.two 0 5 Z Z Z Z Z (loud_bs Z Z Z Z Z Z Z Z Z Z (by repeat (first | exact Sub.refl _ | exact Sub.pre _ _ | apply Sub.cons | apply Sub.drop | apply Sub.appL | apply Sub.dropL)) fun r5 => ?_) (loud_bs Z Z Z Z Z Z Z Z Z Z (by repeat (first | exact Sub.refl _ | exact Sub.pre _ _ | apply Sub.cons | apply Sub.drop | apply Sub.appL | apply Sub.dropL)) fun r10 => ?_)
  ·refine Pool.two 3 5 Z Z Z Z Z (loud_app (ops := _) (H₀ := _) Z Z Z Z Z Z Z Z Z Z Z Z Z Z (IsSl.own r5 0 0 [] [] Z Z (by omega)) (List.Perm.refl _) (hrm.more ((((Sub.refl _).drop _).drop _).drop _ |>.drop _)) (by rw [flat_len (c := c3),hn]) flat_one (.inr ⟨_,_,_,rfl⟩) (by omega) (by repeat (first | exact Sub.refl _ | exact Sub.pre _ _ | apply Sub.cons | apply Sub.drop | apply Sub.appL | apply Sub.dropL)) fun v sm hsm0 => ?_) (loud_bs Z Z Z Z Z Z Z Z Z Z (by repeat (first | exact Sub.refl _ | exact Sub.pre _ _ | apply Sub.cons | apply Sub.drop | apply Sub.appL | apply Sub.dropL)) fun r10 => ?_)
   ·have hsm : Sl c3 72 v B.marks sm := by unfold Sl;simpa [hn] using hsm0
    refine Pool.bs 5 Z Z Z Z Z Z Z Z Z Z Z Z Z Z Z (by repeat (first | exact Sub.refl _ | exact Sub.pre _ _ | apply Sub.cons | apply Sub.drop | apply Sub.appL | apply Sub.dropL)) fun r10 => ?_
    refine Pool.push (x := m) 6 0 1 Z Z Z Z Z Z Z Z Z Z Z Z Z Z Z Z Z Z Z Z Z hsm Z Z Z (by repeat (first | exact Sub.refl _ | exact Sub.pre _ _ | apply Sub.cons | apply Sub.drop | apply Sub.appL | apply Sub.dropL)) (by omega) fun v' sm' hs' => ?_
    obtain ⟨a',cp',rfl⟩ := hs'.slice
    simp only [List.length_append,List.length_cons,List.length_nil,Nat.zero_add] at hs' ⊢
    refine Am 4 7 Z Z Z Z Z Z Z Z Z ?_
    clear stopPhase
    refine Pool.flush 8 (Hq' := H) Z Z Z Z Z Z (by repeat (first | exact Sub.refl _ | exact Sub.pre _ _ | apply Sub.cons | apply Sub.drop | apply Sub.appL | apply Sub.dropL)) ?_
    refine Pool.weakH (H' := .own r4 (.cells #[.slice none 0 0,.int .i64 0,.int .i64 0,.int .i64 0,.slice none 0 0] 27 (0,0)) :: .own r2 (.cells (List.toArray (bkC B A)) 27 (0,0)) :: (sm' ++ H)) ?_ (((Sub.of_perm (List.perm_append_comm_assoc [_,_] sm' H)).trans ((((Sub.refl _).cons _ |>.drop _).cons _).appL sm')).drop _) (by repeat (first | exact Sub.refl _ | exact Sub.pre _ _ | apply Sub.cons | apply Sub.drop | apply Sub.appL | apply Sub.dropL))
    refine Ba 1 8 Z Z Z Z Z Z Z Z Z Z Z Z Z Z Z Z Z Z sb ?_;refine pool_done Z Z ?_;refine Ab ?_
    refine Aq ((key ⟨(a',cp',sm'),hs'⟩))
   ·refine Pool.one 3 Z Z Z Z Z (loud_app (ops := _) (H₀ := _) Z Z Z Z Z Z Z Z Z Z Z Z Z Z (IsSl.own r5 0 0 [] [] Z Z (by omega)) (List.Perm.swap _ _ _) (hrm.more (((((Sub.refl _).drop _).drop _).drop _).drop _ |>.drop _)) (by rw [flat_len (c := c3),hn]) flat_one (.inr ⟨_,_,_,rfl⟩) (by omega) (by repeat (first | exact Sub.refl _ | exact Sub.pre _ _ | apply Sub.cons | apply Sub.drop | apply Sub.appL | apply Sub.dropL)) fun v sm hsm0 => ?_)
    have hsm : Sl c3 72 v B.marks sm := by unfold Sl;simpa [hn] using hsm0
    refine Pool.weakH ?_ (Sub.of_perm List.perm_middle.symm) (by repeat (first | exact Sub.refl _ | exact Sub.pre _ _ | apply Sub.cons | apply Sub.drop | apply Sub.appL | apply Sub.dropL))
    refine Pool.push (x := m) 6 0 1 Z Z Z Z Z Z Z Z Z Z Z Z Z Z Z Z Z Z Z Z Z hsm Z Z Z (by repeat (first | exact Sub.refl _ | exact Sub.pre _ _ | apply Sub.cons | apply Sub.drop | apply Sub.appL | apply Sub.dropL)) (by omega) fun v' sm' hs' => ?_
    obtain ⟨a',cp',rfl⟩ := hs'.slice
    simp only [List.length_append,List.length_cons,List.length_nil,Nat.zero_add] at hs' ⊢
    refine Am 4 7 Z Z Z Z Z Z Z Z Z ?_
    clear stopPhase
    refine Pool.flush 8 (Hq' := H) Z Z Z Z Z Z (by repeat (first | exact Sub.refl _ | exact Sub.pre _ _ | apply Sub.cons | apply Sub.drop | apply Sub.appL | apply Sub.dropL)) ?_
    refine Pool.weakH (H' := .own r4 (.cells #[.slice none 0 0,.int .i64 0,.int .i64 0,.int .i64 0,.slice none 0 0] 27 (0,0)) :: .own r2 (.cells (List.toArray (bkC B A)) 27 (0,0)) :: (sm' ++ H)) ?_ (((Sub.of_perm (List.perm_append_comm_assoc [_,_] sm' H)).trans ((((Sub.refl _).cons _ |>.drop _).cons _).appL sm')).drop _) (by repeat (first | exact Sub.refl _ | exact Sub.pre _ _ | apply Sub.cons | apply Sub.drop | apply Sub.appL | apply Sub.dropL))
    refine Ba 1 8 Z Z Z Z Z Z Z Z Z Z Z Z Z Z Z Z Z Z sb ?_;refine pool_done Z Z ?_;refine Ab ?_
    refine Aq ((key ⟨(a',cp',sm'),hs'⟩))
  ·refine Pool.bs 0 Z Z Z Z Z Z Z Z Z Z Z Z Z Z Z (by repeat (first | exact Sub.refl _ | exact Sub.pre _ _ | apply Sub.cons | apply Sub.drop | apply Sub.appL | apply Sub.dropL)) fun r5 => ?_
   refine Pool.one 3 Z Z Z Z Z (loud_app (ops := _) (H₀ := _) Z Z Z Z Z Z Z Z Z Z Z Z Z Z (IsSl.own r5 0 0 [] [] Z Z (by omega)) (List.Perm.refl _) (hrm.more (((((Sub.refl _).drop _).drop _).drop _).drop _ |>.drop _)) (by rw [flat_len (c := c3),hn]) flat_one (.inr ⟨_,_,_,rfl⟩) (by omega) (by repeat (first | exact Sub.refl _ | exact Sub.pre _ _ | apply Sub.cons | apply Sub.drop | apply Sub.appL | apply Sub.dropL)) fun v sm hsm0 => ?_)
   have hsm : Sl c3 72 v B.marks sm := by unfold Sl;simpa [hn] using hsm0
   refine Pool.weakH ?_ (Sub.of_perm List.perm_middle.symm) (by repeat (first | exact Sub.refl _ | exact Sub.pre _ _ | apply Sub.cons | apply Sub.drop | apply Sub.appL | apply Sub.dropL))
   refine Pool.push (x := m) 6 0 1 Z Z Z Z Z Z Z Z Z Z Z Z Z Z Z Z Z Z Z Z Z hsm Z Z Z (by repeat (first | exact Sub.refl _ | exact Sub.pre _ _ | apply Sub.cons | apply Sub.drop | apply Sub.appL | apply Sub.dropL)) (by omega) fun v' sm' hs' => ?_
   obtain ⟨a',cp',rfl⟩ := hs'.slice
   simp only [List.length_append,List.length_cons,List.length_nil,Nat.zero_add] at hs' ⊢
   refine Am 4 7 Z Z Z Z Z Z Z Z Z ?_
   clear stopPhase
   refine Pool.flush 8 (Hq' := H) Z Z Z Z Z Z (by repeat (first | exact Sub.refl _ | exact Sub.pre _ _ | apply Sub.cons | apply Sub.drop | apply Sub.appL | apply Sub.dropL)) ?_
   refine Pool.weakH (H' := .own r4 (.cells #[.slice none 0 0,.int .i64 0,.int .i64 0,.int .i64 0,.slice none 0 0] 27 (0,0)) :: .own r2 (.cells (List.toArray (bkC B A)) 27 (0,0)) :: (sm' ++ H)) ?_ (((Sub.of_perm (List.perm_append_comm_assoc [_,_] sm' H)).trans ((((Sub.refl _).cons _ |>.drop _).cons _).appL sm')).drop _) (by repeat (first | exact Sub.refl _ | exact Sub.pre _ _ | apply Sub.cons | apply Sub.drop | apply Sub.appL | apply Sub.dropL))
   refine Ba 1 8 Z Z Z Z Z Z Z Z Z Z Z Z Z Z Z Z Z Z sb ?_;refine pool_done Z Z ?_;refine Ab ?_
   refine Aq ((key ⟨(a',cp',sm'),hs'⟩))
end Go.Gx
end
section
namespace Go.Gx
open Go Go.Conc Go.Proofs
variable {main : Bool}
theorem Pure.eq {P : Program} {L : Lg P main} {g : FuncId} {args : Array Value} {H : Facts} {v w : Value} (h : Pure L g args H v) (e : v = w) : Pure L g args H w := e ▸ h
section
variable (L : Lg Tryz.prog main) (H : Facts) {A : BkA}
theorem x25a (hO : Opn H exC A) : Pure L 14 #[bkV exC A,.int .i64 14,rV (-1,2)] H (.tuple #[rV (92,5),rV (24,5),.bool true,.int .i64 0]) := (s14 L H hO).eq (by kernel_rfl)
theorem x25b (hO : Opn H exC A) : Pure L 14 #[bkV exC A,.int .i64 14,rV (2,1)] H (.tuple #[rV (0,0),rV (0,0),.bool false,.int .i64 0]) := (s14 L H hO).eq (by kernel_rfl)
theorem x27a (hO : Opn H exC A) : Pure L 16 #[bkV exC A,.int .i64 15,rV (1,1)] H (.tuple #[.int .i64 5,rV (3,4),.bool true,.int .i64 0]) := (s16 L H hO).eq (by kernel_rfl)
theorem x27b (hO : Opn H exC A) : Pure L 16 #[bkV exC A,.int .i64 16,rV (1,2)] H (.tuple #[.int .i64 4,rV (0,1),.bool true,.int .i64 0]) := (s16 L H hO).eq (by kernel_rfl)
theorem e29a : (if lookBar exV [hBar 0] ≠ 0 then [] else hiddenTo exV 0 exV.prof.length) = [2] ∧ lookBar exV [hBar 0] = 0 := ⟨by kernel_rfl,by kernel_rfl⟩
theorem e29b : (if lookBar exV [hBar 10] ≠ 0 then [] else hiddenTo exV 10 exV.prof.length) = [] ∧ lookBar exV [hBar 10] = 0 := ⟨by kernel_rfl,by kernel_rfl⟩
theorem x29a (hO : Opn H exV A) : Grows L 17 #[bkV exV A,.int .i64 0] H (fun v sf => ∃ a cap,v = .tuple #[.slice a 1 cap,.int .i64 0] ∧ Sl c1 3 (.slice a 1 cap) [2] sf) := by
 have h := s17 L H hO (eye := 0)
 rw [e29a.1,e29a.2] at h
 exact h
theorem x29b (hO : Opn H exV A) : Grows L 17 #[bkV exV A,.int .i64 10] H (fun v sf => ∃ a cap,v = .tuple #[.slice a 0 cap,.int .i64 0] ∧ Sl c1 3 (.slice a 0 cap) [] sf) := by
 have h := s17 L H hO (eye := 10)
 rw [e29b.1,e29b.2] at h
 exact h
def exF : Int × R2 := (0,(0,1))
def exT : Int × R2 := (4,(1,1))
def exTh : List R2 := [(14,1),(18,1),(22,1),(80,3),(33,1)]
theorem e32 : thingM exC 14 exF exT = (exTh,0) := by kernel_rfl
theorem x32 (hO : Opn H exC A) : Grows L 19 #[bkV exC A,.int .i64 14,.agg (List.toArray (cI3 exF)),.agg (List.toArray (cI3 exT))] H (fun v sf => ∃ a cap,v = .tuple #[.slice a 5 cap,.int .i64 0] ∧ Sl c2 40 (.slice a 5 cap) exTh sf) := by
 have h := s19 L H hO (eye := 14) (f := exF) (t := exT)
 rw [e32] at h
 exact h
theorem e34 : bendM exC 14 exF exT = ((3,(-19,12)),0) := by kernel_rfl
theorem x34 (hO : Opn H exC A) : Pure L 20 #[bkV exC A,.int .i64 14,.agg (List.toArray (cI3 exF)),.agg (List.toArray (cI3 exT))] H (.tuple #[.int .i64 3,rV (-19,12),.int .i64 0]) := by
 have h := s20 L H hO (eye := 14) (f := exF) (t := exT)
 rw [e34] at h
 exact h
theorem e36 : (if lookBar exC [slopeBar 0 1,hBar 2] ≠ 0 then [] else keepsM exC (0,1) 2 91) = [12,13,14,15,16,17] ∧ lookBar exC [slopeBar 0 1,hBar 2] = 0 := ⟨by kernel_rfl,by kernel_rfl⟩
theorem x36 (hO : Opn H exC A) : Grows L 21 #[bkV exC A,rV (0,1),.int .i64 2] H (fun v sf => ∃ a cap,v = .tuple #[.slice a 6 cap,.int .i64 0] ∧ Sl c1 3 (.slice a 6 cap) [12,13,14,15,16,17] sf) := by
 have h := s21 L H hO (s := (0,1)) (row := 2)
 rw [e36.1,e36.2] at h
 exact h
theorem e51 : (if bookBar exC ≠ 0 then [] else statesM exC) = [14,15,16] ∧ bookBar exC = 0 := ⟨by kernel_rfl,by kernel_rfl⟩
theorem x51 (hO : Opn H exC A) : Grows L 22 #[bkV exC A] H (fun v sf => ∃ a cap,v = .tuple #[.slice a 3 cap,.int .i64 0] ∧ Sl c1 3 (.slice a 3 cap) [14,15,16] sf) := by
 have h := s22 L H hO
 rw [e51.1,e51.2] at h
 exact h
def exM1 : Bk := markedM exC ((1,2),3)
theorem e51b : (if bookBar exM1 ≠ 0 then [] else statesM exM1) = [14,15] ∧ bookBar exM1 = 0 := ⟨by kernel_rfl,by kernel_rfl⟩
theorem x51b (hO : Opn H exM1 A) : Grows L 22 #[bkV exM1 A] H (fun v sf => ∃ a cap,v = .tuple #[.slice a 2 cap,.int .i64 0] ∧ Sl c1 3 (.slice a 2 cap) [14,15] sf) := by
 have h := s22 L H hO
 rw [e51b.1,e51b.2] at h
 exact h
theorem e65a : markBarM exC ((1,2),3) = 0 := by kernel_rfl
theorem x65a (hO : Opn H exC A) : Grows L 29 #[bkV exC A,mV ((1,2),3)] H (fun v sf => ∃ A',v = .tuple #[bkV exM1 A',.int .i64 0] ∧ BkO exM1 A' sf) := by
 refine Spec.mono (s29 L H hO) ?_
 rintro v H' ⟨sf,⟨_,h⟩,rfl⟩
 exact ⟨sf,h e65a,rfl⟩
theorem e65b : markBarM exC ((1,2),2) = 9 := by kernel_rfl
theorem x65b (hO : Opn H exC A) : Grows L 29 #[bkV exC A,mV ((1,2),2)] H (fun v sf => v = .tuple #[bkZ,.int .i64 9]) := by
 refine Spec.mono (s29 L H hO) ?_
 rintro v H' ⟨sf,⟨h,_⟩,rfl⟩
 have e := e65b
 rw [e] at h
 exact ⟨sf,h (by omega),rfl⟩
def exM3 : Bk := markedM (markedM (markedM exC ((0,1),2)) ((1,2),3)) ((1,1),6)
theorem e59 : clashM exM3 = ([1,2],0) := by kernel_rfl
theorem x59 (hO : Opn H exM3 A) : Grows L 30 #[bkV exM3 A] H (fun v sf => ∃ a cap,v = .tuple #[.slice a 2 cap,.int .i64 0] ∧ Rd sf a (([1,2] : List Int).flatMap c1)) := by
 have h := s30 L H hO
 rw [e59] at h
 exact h
end
section
variable {Post : Value → World → Prop} {W₀ : World} {H Hs : Facts} {A : BkA}
theorem e52a : knownBar exC [slopeBar 1 2] = 0 ∧ rowsM exC (1,2) = [3,4] ∧ wordM (statesM exC).length (((rowsOf exC (1,2)).count (-1) : Nat) : Int) = 2 := ⟨by kernel_rfl,by kernel_rfl,by kernel_rfl⟩
theorem x52a (hO : OpS H Hs exC A) : Grows (mainLg Tryz.prog Post W₀ [] []) 25 #[bkV exC A,rV (1,2)] H (fun v sf => ∃ a cap,v = .tuple #[.slice a 2 cap,.int .i64 2,.int .i64 0] ∧ Sl c1 3 (.slice a 2 cap) [3,4] sf) := by
 have h := s25 (Post := Post) (W₀ := W₀) (s := (1,2)) hO
 obtain ⟨h1,h2,h3⟩ := e52a
 simp only [h1,h2,h3] at h
 exact h
theorem e52b : knownBar exC [slopeBar 2 1] = 0 ∧ rowsM exC (2,1) = [] ∧ wordM (statesM exC).length (((rowsOf exC (2,1)).count (-1) : Nat) : Int) = 1 := ⟨by kernel_rfl,by kernel_rfl,by kernel_rfl⟩
theorem x52b (hO : OpS H Hs exC A) : Grows (mainLg Tryz.prog Post W₀ [] []) 25 #[bkV exC A,rV (2,1)] H (fun v sf => ∃ a cap,v = .tuple #[.slice a 0 cap,.int .i64 1,.int .i64 0] ∧ Sl c1 3 (.slice a 0 cap) [] sf) := by
 have h := s25 (Post := Post) (W₀ := W₀) (s := (2,1)) hO
 obtain ⟨h1,h2,h3⟩ := e52b
 simp only [h1,h2,h3] at h
 exact h
theorem x66 (hO : OpS H Hs exC A) : Pure (mainLg Tryz.prog Post W₀ [] []) 26 #[bkV exC A,rV (1,2),.int .i64 3] H (.tuple #[.int .i64 0,.int .i64 0]) :=
 (s26 (Post := Post) (W₀ := W₀) (s := (1,2)) (row := 3) hO).eq (by kernel_rfl)
theorem x58 {a : Option Addr} (hO : OpS H Hs exC A) (hr : Rd H a (([(0,1),(1,2)] : List R2).flatMap c2)) : Pure (mainLg Tryz.prog Post W₀ [] []) 27 #[bkV exC A,.slice a 2 2] H (.tuple #[.agg (List.toArray (c2 (2,4))),.int .i64 0]) :=
 (s27 (Post := Post) (W₀ := W₀) (ss := [(0,1),(1,2)]) hO rfl hr (by decide)).eq (by kernel_rfl)
theorem x63 {a : Option Addr} (hO : OpS H Hs exC A) (hr : Rd H a (([(0,1),(1,2),(1,1)] : List R2).flatMap c2)) : Pure (mainLg Tryz.prog Post W₀ [] []) 28 #[bkV exC A,.slice a 3 3] H (.tuple #[.int .i64 1,.int .i64 2,.int .i64 0]) :=
 (s28 (Post := Post) (W₀ := W₀) (ss := [(0,1),(1,2),(1,1)]) hO rfl hr (by decide)).eq (by kernel_rfl)
end
end Go.Gx
end
