/-
  CanvasTexts: the logic of the walk, the contracts of the program's functions, the plain law and the card.
-/
import Derived.Test.YtjdpbechehdefaaGreatDoorU3x3
set_option linter.unusedSimpArgs false
set_option linter.unusedVariables false
section
namespace Go.Gx
open Go Go.Conc Go.Proofs
variable {main : Bool}
def chkC : List Value := [.func (.func 233) #[] #[],.func (.func 234) #[] #[],.func (.func 236) #[] #[]]
set_option maxRecDepth 100000 in
set_option maxHeartbeats 4000000 in
theorem s32 (L : Lg Tryz.prog main) (H : Facts) {B : Bk} {A : BkA} (hg : Cells H 1 0 chkC) (hB : BkR H B A) (hl : B.prof.length ≤ 100000) (hm : B.marks.length ≤ 100000) : Pure L 32 #[bkV B A] H (.int .i64 (bookBar B)) := by
 refine Spec.enter Tryz.func32 rfl (by simp [Tryz.f32]) fun c cs hc => ?_;refine At.seq (At.region ?_);refine An Z Z Z Z Z Z Z fun r1 => ?_;refine Aa Z Z Z Z Z O ?_;refine Ab (At.seq (At.seq (At.region ?_)));refine Au Z Z Z Z Z Z hg.a Z Z ?_;refine Aa Z Z Z Z Z O ?_;refine Ab ?_;refine At.block ?_
 refine Az (X := { j : Nat // j ≤ 3 ∧ (1 ≤ j → profBar B.prof = 0) ∧ (2 ≤ j → sizeBar B = 0) ∧ (3 ≤ j → mksBar B.marks = 0) }) [1,6] (fun x => [(7,.int .i64 (x.1 : Int))]) (fun _ => .own r1 (.cells (List.toArray (bkC B A)) 27 (0,0)) :: H) (fun x => 3 - x.1) (⟨0,by omega,by omega,by omega,by omega⟩) rfl ?_ (by repeat (first | exact trivial | refine ⟨rfl,?_⟩)) sb
 rintro ⟨j,hj,h1,h2,h3⟩ again
 simp only at again ⊢
 match j,hj with
 | 0,_ =>
  refine At.seq (At.region ?_);refine Ad Z Z Z Z Z fun b8 h8 => ?_;refine Ab (At.seq ?_)
  have hb : b8 = true := by rw [← h8];rfl
  subst hb
  refine At.cond Z ?_;refine At.skip (At.seq ?_);refine At.block ?_;refine At.seq (At.region ?_);refine Ae Z Z Z Z (q_index (j := (0)) Z Z Z (by decide) Z Z) ?_;refine Al Z Z Z Z Z fun r4 => ?_;refine Ag 0 Z Z Z Z Z Z Z Z Z Z Z Z ?_;refine Ab (At.seq (At.region ?_));refine Ah 0 Z Z Z Z Z Z Z ?_;refine Af 0 Z Z Z Z Z Z Z Z Z ?_;refine Af 1 Z Z Z Z Z Z Z Z Z ?_
  refine Ae Z Z Z Z (q_build Z Z Z) ?_;refine Ai Z Z Z Z Z Z Z Z (s233 L _ (by first | assumption | omega | exact Rd.a (by assumption) | exact Cells.a (by assumption) | exact BkR.a (by assumption) | exact Bars.a (by assumption) | exact Opn.a (by assumption)) (by first | assumption | omega | exact Rd.a (by assumption) | exact Cells.a (by assumption) | exact BkR.a (by assumption) | exact Bars.a (by assumption) | exact Opn.a (by assumption))) ?_
  refine Aa Z Z Z Z Z O ?_;refine Ab (At.seq (At.region ?_));refine Aa Z Z Z Z Z O ?_;refine Ad Z Z Z Z Z fun b16 h16 => ?_;refine Ab ?_
  cases b16
  ·have e : profBar B.prof = 0 := by simpa using h16
   refine At.cond Z ?_;refine At.skip ?_;refine At.inBlock ?_;refine At.region ?_;refine Aa Z Z Z Z Z (by omega) ?_;refine Aa Z Z Z Z Z O ?_;refine Ab ?_
   refine Aq ((again ⟨0 + 1,by omega,fun _ => e,by omega,by omega⟩ (by simp)))
  ·have e : profBar B.prof ≠ 0 := by simpa using h16
   refine At.cond Z ?_;refine At.seq (At.region ?_);(iterate 2 refine Aa Z Z Z Z Z O ?_);refine Ab ?_
   exact At.ret Tryz.func32 (.inr ⟨_,rfl⟩) rfl (.tmp rfl .nil) (wk (hc _ _ (⟨by simp only [bookBar,if_pos e];rfl,rfl⟩)))
 | 1,_ =>
  have e1 := h1 (by omega)
  refine At.seq (At.region ?_);refine Ad Z Z Z Z Z fun b8 h8 => ?_;refine Ab (At.seq ?_)
  have hb : b8 = true := by rw [← h8];rfl
  subst hb
  refine At.cond Z ?_;refine At.skip (At.seq ?_);refine At.block ?_;refine At.seq (At.region ?_);refine Ae Z Z Z Z (q_index (j := (1)) Z Z Z (by decide) Z Z) ?_;refine Al Z Z Z Z Z fun r4 => ?_;refine Ag 0 Z Z Z Z Z Z Z Z Z Z Z Z ?_;refine Ab (At.seq (At.region ?_));refine Ah 0 Z Z Z Z Z Z Z ?_;refine Af 0 Z Z Z Z Z Z Z Z Z ?_;refine Af 1 Z Z Z Z Z Z Z Z Z ?_
  refine Ae Z Z Z Z (q_build Z Z Z) ?_;refine Ai Z Z Z Z Z Z Z Z (s234 L _) ?_;refine Aa Z Z Z Z Z O ?_;refine Ab (At.seq (At.region ?_));refine Aa Z Z Z Z Z O ?_;refine Ad Z Z Z Z Z fun b16 h16 => ?_;refine Ab ?_
  cases b16
  ·have e : sizeBar B = 0 := by simpa using h16
   refine At.cond Z ?_;refine At.skip ?_;refine At.inBlock ?_;refine At.region ?_;refine Aa Z Z Z Z Z (by omega) ?_;refine Aa Z Z Z Z Z O ?_;refine Ab ?_
   refine Aq ((again ⟨1 + 1,by omega,fun _ => e1,fun _ => e,by omega⟩ (by simp)))
  ·have e : sizeBar B ≠ 0 := by simpa using h16
   refine At.cond Z ?_;refine At.seq (At.region ?_);(iterate 2 refine Aa Z Z Z Z Z O ?_);refine Ab ?_
   exact At.ret Tryz.func32 (.inr ⟨_,rfl⟩) rfl (.tmp rfl .nil) (wk (hc _ _ (⟨by simp only [bookBar,e1,if_pos e];rfl,rfl⟩)))
 | 2,_ =>
  have e1 := h1 (by omega)
  have e2 := h2 (by omega)
  refine At.seq (At.region ?_);refine Ad Z Z Z Z Z fun b8 h8 => ?_;refine Ab (At.seq ?_)
  have hb : b8 = true := by rw [← h8];rfl
  subst hb
  refine At.cond Z ?_;refine At.skip (At.seq ?_);refine At.block ?_;refine At.seq (At.region ?_);refine Ae Z Z Z Z (q_index (j := (2)) Z Z Z (by decide) Z Z) ?_;refine Al Z Z Z Z Z fun r4 => ?_;refine Ag 0 Z Z Z Z Z Z Z Z Z Z Z Z ?_;refine Ab (At.seq (At.region ?_));refine Ah 0 Z Z Z Z Z Z Z ?_;refine Af 0 Z Z Z Z Z Z Z Z Z ?_;refine Af 1 Z Z Z Z Z Z Z Z Z ?_
  refine Ae Z Z Z Z (q_build Z Z Z) ?_;refine Ai Z Z Z Z Z Z Z Z (s236 L _ (by first | assumption | omega | exact Rd.a (by assumption) | exact Cells.a (by assumption) | exact BkR.a (by assumption) | exact Bars.a (by assumption) | exact Opn.a (by assumption)) (by first | assumption | omega | exact Rd.a (by assumption) | exact Cells.a (by assumption) | exact BkR.a (by assumption) | exact Bars.a (by assumption) | exact Opn.a (by assumption))) ?_
  refine Aa Z Z Z Z Z O ?_;refine Ab (At.seq (At.region ?_));refine Aa Z Z Z Z Z O ?_;refine Ad Z Z Z Z Z fun b16 h16 => ?_;refine Ab ?_
  cases b16
  ·have e : mksBar B.marks = 0 := by simpa using h16
   refine At.cond Z ?_;refine At.skip ?_;refine At.inBlock ?_;refine At.region ?_;refine Aa Z Z Z Z Z (by omega) ?_;refine Aa Z Z Z Z Z O ?_;refine Ab ?_
   refine Aq ((again ⟨2 + 1,by omega,fun _ => e1,fun _ => e2,fun _ => e⟩ (by simp)))
  ·have e : mksBar B.marks ≠ 0 := by simpa using h16
   refine At.cond Z ?_;refine At.seq (At.region ?_);(iterate 2 refine Aa Z Z Z Z Z O ?_);refine Ab ?_
   exact At.ret Tryz.func32 (.inr ⟨_,rfl⟩) rfl (.tmp rfl .nil) (wk (hc _ _ (⟨by simp only [bookBar,e1,e2];rfl,rfl⟩)))
 | 3,_ =>
  have e1 := h1 (by omega)
  have e2 := h2 (by omega)
  have e3 := h3 (by omega)
  refine At.seq (At.region ?_);refine Ad Z Z Z Z Z fun b8 h8 => ?_;refine Ab (At.seq ?_)
  have hb : b8 = false := by rw [← h8];rfl
  subst hb
  refine At.cond Z ?_;refine At.exit rfl ?_;refine At.seq (At.region ?_);refine Aa Z Z Z Z Z O ?_;refine Ab ?_
  exact At.ret Tryz.func32 (.inr ⟨_,rfl⟩) rfl (.tmp rfl .nil) (wk (hc _ _ (⟨by simp only [bookBar,e1,e2,e3];rfl,rfl⟩)))
end Go.Gx
end
section
namespace Go.Gx
open Go Go.Conc Go.Proofs
variable {main : Bool}
structure Opn (H : Facts) (B : Bk) (A : BkA) : Prop where
 g : Cells H 1 0 chkC
 r : BkR H B A
 lp : B.prof.length ≤ 100000
 lm : B.marks.length ≤ 100000
theorem Opn.a {H H' : Facts} {B : Bk} {A : BkA} (h : Opn H B A) (hs : Sub H H' := by repeat (first | exact Sub.refl _ | assumption | exact Sub.pre _ _ | apply Sub.cons | apply Sub.drop | apply Sub.appL | apply Sub.dropL | refine Sub.trans ?_ (by assumption))) : Opn H' B A := ⟨h.g.a hs,h.r.a hs,h.lp,h.lm⟩
theorem bs {p : Prop} (h : p := by first | assumption | omega | exact Rd.a (by assumption) | exact Cells.a (by assumption) | exact BkR.a (by assumption) | exact Bars.a (by assumption) | exact Opn.a (by assumption)) : p := h
def bkZ : Value := .agg #[.slice none 0 0,.int .i64 0,.int .i64 0,.int .i64 0,.slice none 0 0]
set_option maxRecDepth 100000 in
set_option maxHeartbeats 4000000 in
theorem s53z (L : Lg Tryz.prog main) (H : Facts) {B : Bk} {A : BkA} {a : Option Addr} {n cap : Nat} {fs : List Value} {rs : List Int} (hO : Opn H B A) (hz : bookBar B = 0) (hn : fs.length = n) (hr : Rd H a fs) (hb : Bars L H fs rs) (hl : fs.length ≤ 1000) :
  Pure L 53 #[bkV B A,.slice a n cap] H (.tuple #[bkV B A,.int .i64 (firstBar rs)]) := by
 refine Spec.enter Tryz.func53 rfl (by simp [Tryz.f53]) fun c cs hc => ?_
 have hg := hO.g
 have hB := hO.r
 have h1 := hO.lp
 have h2 := hO.lm
 refine At.seq (At.region ?_);refine An Z Z Z Z Z Z Z fun r2 => ?_;refine Al Z Z Z Z Z fun r4 => ?_;refine Aa Z Z Z Z Z O ?_;refine Ab (At.seq (At.seq (At.region ?_)));refine Af 1 Z Z Z Z Z Z Z Z Z ?_;refine Ai Z Z Z Z Z Z Z Z (s32 L _ bs bs bs bs) ?_;refine Aa Z Z Z Z Z O ?_;refine Ab (At.seq (At.region ?_));refine Aa Z Z Z Z Z O ?_
 refine Ad Z Z Z Z Z fun b10 h10 => ?_;refine Ab ?_
 have e : b10 = false := by rw [← h10];simp [hz]
 subst e
 refine At.cond Z ?_;refine At.skip (At.seq ?_);refine Aw hmix [0] rfl ?_;refine Aj 0 0 Z Z Z Z Z Z Z Z Z Z Z ?_;refine Ak 1 Z Z Z Z Z (q_build Z Z Z) rfl ?_;refine Ac 2 Z Z Z Z Z Z Z O ?_;refine Ap 3 Z Z Z Z Z Z Z Z Z (fun H hs => s108 L H bs bs bs bs) ?_;refine Ba 0 4 Z Z Z Z Z Z Z Z Z Z Z Z Z Z Z Z Z Z sb ?_
 refine Ac 5 Z Z Z Z Z Z Z O ?_;refine pool_done Z Z ?_;refine Ab ?_
 exact At.ret Tryz.func53 (.inr ⟨_,rfl⟩) rfl (.aggJ 0 Z Z Z (.tmp rfl .nil)) (wk (hc _ _ (⟨by rfl,rfl⟩)))
set_option maxRecDepth 100000 in
set_option maxHeartbeats 4000000 in
theorem s53n (L : Lg Tryz.prog main) (H : Facts) {B : Bk} {A : BkA} {v : Value} (hO : Opn H B A) (hz : bookBar B ≠ 0) :
  Pure L 53 #[bkV B A,v] H (.tuple #[bkZ,.int .i64 (bookBar B)]) := by
 refine Spec.enter Tryz.func53 rfl (by simp [Tryz.f53]) fun c cs hc => ?_
 have hg := hO.g
 have hB := hO.r
 have h1 := hO.lp
 have h2 := hO.lm
 refine At.seq (At.region ?_);refine An Z Z Z Z Z Z Z fun r2 => ?_;refine Al Z Z Z Z Z fun r4 => ?_;refine Aa Z Z Z Z Z O ?_;refine Ab (At.seq (At.seq (At.region ?_)));refine Af 1 Z Z Z Z Z Z Z Z Z ?_;refine Ai Z Z Z Z Z Z Z Z (s32 L _ bs bs bs bs) ?_;refine Aa Z Z Z Z Z O ?_;refine Ab (At.seq (At.region ?_));refine Aa Z Z Z Z Z O ?_
 refine Ad Z Z Z Z Z fun b10 h10 => ?_;refine Ab ?_
 have e : b10 = true := by rw [← h10];simp [hz]
 subst e
 refine At.cond Z ?_;refine At.seq (At.region ?_);refine Ae Z Z Z Z (q_build Z Z Z) ?_;refine Aa Z Z Z Z Z O ?_;refine Ag 0 Z Z Z Z Z Z Z Z Z Z Z Z ?_;refine Aa Z Z Z Z Z O ?_;refine Ab ?_
 exact At.ret Tryz.func53 (.inr ⟨_,rfl⟩) rfl (.aggJ 0 Z Z Z (.tmp rfl .nil)) (wk (hc _ _ (⟨by rfl,rfl⟩)))
def lookBar (B : Bk) (rs : List Int) : Int := if bookBar B ≠ 0 then bookBar B else firstBar rs
set_option maxRecDepth 100000 in
theorem spec_eyed (L : Lg Tryz.prog main) (H : Facts) {n : Int} {r a b s f0 f1 f2 t0 t1 t2 : Value} : SpecV L (.func (.func 54) (List.toArray [.agg (List.toArray (lookC (.int .i64 n) r a b s f0 f1 f2 t0 t1 t2))]) #[]) #[] H (fun v H'' => v = .int .i64 (hBar n) ∧ H'' = H) := SpecV.ofL (args := []) (cap := []) rfl (s54 L H)
set_option maxRecDepth 100000 in
theorem spec_slop (L : Lg Tryz.prog main) (H : Facts) {n d : Int} {e r s f0 f1 f2 t0 t1 t2 : Value} : SpecV L (.func (.func 55) (List.toArray [.agg (List.toArray (lookC e r (.int .i64 n) (.int .i64 d) s f0 f1 f2 t0 t1 t2))]) #[]) #[] H (fun v H'' => v = .int .i64 (slopeBar n d) ∧ H'' = H) := SpecV.ofL (args := []) (cap := []) rfl (s55 L H)
set_option maxRecDepth 100000 in
theorem spec_inR (L : Lg Tryz.prog main) (H : Facts) {n : Int} {e a b s f0 f1 f2 t0 t1 t2 : Value} : SpecV L (.func (.func 69) (List.toArray [.agg (List.toArray (lookC e (.int .i64 n) a b s f0 f1 f2 t0 t1 t2))]) #[]) #[] H (fun v H'' => v = .int .i64 (hBar n) ∧ H'' = H) := SpecV.ofL (args := []) (cap := []) rfl (s69 L H)
def lookES (eye : Int) (s : R2) : List Value := lookC (.int .i64 eye) z0 (.int .i64 s.1) (.int .i64 s.2) zl z0 z0 z0 z0 z0 z0
def eyedF (l : List Value) : Value := .func (.func 54) (List.toArray [.agg (List.toArray l)]) #[]
def slopF (l : List Value) : Value := .func (.func 55) (List.toArray [.agg (List.toArray l)]) #[]
def inRF (l : List Value) : Value := .func (.func 69) (List.toArray [.agg (List.toArray l)]) #[]
set_option maxRecDepth 100000 in
theorem bars_look (L : Lg Tryz.prog main) (eye : Int) (s : R2) (H : Facts) : Bars L H [eyedF (lookES eye s),slopF (lookES eye s)] [hBar eye,slopeBar s.1 s.2] :=
 .cons (fun H' _ => spec_eyed L H') (.cons (fun H' _ => spec_slop L H') .nil)
theorem bounds_of_bar {B : Bk} (h : bookBar B = 0) : 2 ≤ B.prof.length ∧ B.prof.length ≤ 5 ∧ (∀ p ∈ B.prof,PtOk p) ∧ 1 ≤ B.size ∧ B.size ≤ 30 ∧ 0 ≤ B.lo ∧ B.lo ≤ B.hi ∧ B.hi ≤ 90 ∧ B.hi - B.lo < 3 ∧ B.marks.length ≤ 4 ∧ ∀ m ∈ B.marks,markBar m = 0 := by
 unfold bookBar at h
 have hp : profBar B.prof = 0 := by
  by_cases e : profBar B.prof = 0
  ·exact e
  ·rw [if_pos e] at h;exact h
 rw [if_neg (by simp [hp])] at h
 have hs : sizeBar B = 0 := by
  by_cases e : sizeBar B = 0
  ·exact e
  ·rw [if_pos e] at h;exact h
 rw [if_neg (by simp [hs])] at h
 unfold profBar at hp
 split at hp
 ·omega
 rename_i hlen
 have hpts : ∀ (ps : List R2) (pr : Option Int),ptsBar pr ps = 0 → ∀ p ∈ ps,PtOk p := by
  intro ps
  induction ps with
  | nil => intro _ _ p hp;cases hp
  | cons q ps ih =>
   intro pr hq p hp
   rw [ptsBar_cons] at hq
   by_cases hin : ¬ (1 ≤ q.1 ∧ q.1 ≤ 60) ∨ ¬ (0 ≤ q.2 ∧ q.2 ≤ 90)
   ·rw [if_pos hin] at hq;omega
   rw [if_neg hin] at hq
   have hq' : ptsBar (some q.2) ps = 0 := by
    cases pr with
    | none => rwa [if_neg (by simp)] at hq
    | some h' =>
     by_cases hbb : q.2 ≤ h'
     ·rw [if_pos (by simpa using hbb)] at hq;omega
     ·rwa [if_neg (by simpa using hbb)] at hq
   rcases List.mem_cons.1 hp with rfl | hp
   ·unfold PtOk;omega
   ·exact ih _ hq' p hp
 unfold sizeBar at hs
 split at hs
 ·omega
 rename_i hsz
 unfold mksBar at h
 split at h
 ·omega
 rename_i hml
 have hmk : ∀ (ms : List (R2 × Int)),marksBar ms = 0 → ∀ m ∈ ms,markBar m = 0 := by
  intro ms
  induction ms with
  | nil => intro _ m hm;cases hm
  | cons q ms ih =>
   intro hq m hm
   rw [marksBar] at hq
   split at hq
   ·rename_i hne;exact absurd hq hne
   rename_i he
   rcases List.mem_cons.1 hm with rfl | hm
   ·simpa using he
   ·exact ih hq m hm
 exact ⟨by omega,by omega,hpts _ _ hp,by omega,by omega,by omega,by omega,by omega,by omega,by omega,hmk _ h⟩
end Go.Gx
end
section
namespace Go.Gx
open Go Go.Conc Go.Proofs
variable {main : Bool}
def rV (x : R2) : Value := .agg (List.toArray (c2 x))
theorem slOk_of_bar {s : R2} (h : slopeBar s.1 s.2 = 0) : -20 ≤ s.1 ∧ s.1 ≤ 20 ∧ 1 ≤ s.2 ∧ s.2 ≤ 20 := by
 unfold slopeBar at h
 split at h
 ·omega
 ·omega
theorem slOk_of (s : R2) (h : slopeBar s.1 s.2 = 0) : SlOk s := by
 have := slOk_of_bar h
 unfold SlOk;omega
theorem eyeOk_of {n : Int} (h : hBar n = 0) : EyeOk n := by
 unfold hBar at h
 unfold EyeOk
 split at h
 ·assumption
 ·omega
theorem profOk_of {B : Bk} (h : bookBar B = 0) : ProfOk B.prof := ⟨by have := bounds_of_bar h;omega,(bounds_of_bar h).2.2.1⟩
theorem opn_of {B : Bk} (h : bookBar B = 0) : 1 ≤ B.prof.length := by have := bounds_of_bar h;omega
theorem lookBar0 {B : Bk} {a b : Int} (h : bookBar B = 0) : lookBar B [a,b] = if a ≠ 0 then a else b := by
 unfold lookBar
 rw [if_neg (by simp [h])]
 unfold firstBar firstBar firstBar
 by_cases e : b = 0 <;> simp [e]
set_option maxRecDepth 100000 in
set_option maxHeartbeats 4000000 in
theorem s14 (L : Lg Tryz.prog main) (H : Facts) {B : Bk} {A : BkA} {eye : Int} {s : R2} (hO : Opn H B A) :
  Pure L 14 #[bkV B A,.int .i64 eye,rV s] H (if lookBar B [hBar eye,slopeBar s.1 s.2] ≠ 0 then .tuple #[rV (0,0),rV (0,0),.bool false,.int .i64 (lookBar B [hBar eye,slopeBar s.1 s.2])]
   else .tuple #[rV ((meetM B.prof eye s).getD ((0,0),(0,0))).1,rV ((meetM B.prof eye s).getD ((0,0),(0,0))).2,.bool (meetM B.prof eye s).isSome,.int .i64 0]) := by
 refine Spec.enter Tryz.func14 rfl (by simp [Tryz.f14]) fun c cs hc => ?_
 by_cases hz : bookBar B = 0
 ·refine At.seq ?_
  refine At.region ?_;refine An Z Z Z Z Z Z Z fun r3 => ?_;refine An Z Z Z Z Z Z Z fun r5 => ?_;refine Al Z Z Z Z Z fun r6 => ?_;refine Al Z Z Z Z Z fun r7 => ?_;(iterate 2 refine Aa Z Z Z Z Z O ?_);refine Ab (At.seq (At.region ?_));refine Aa Z Z Z Z Z O ?_;refine Af 2 Z Z Z Z Z Z Z Z Z ?_;refine Ae Z Z Z Z (q_build Z Z Z) ?_
  refine Al Z Z Z Z Z fun r10 => ?_;refine Ag 0 Z Z Z Z Z Z Z Z Z Z Z Z ?_;refine Ab (At.seq (At.region ?_));refine Af 4 Z Z Z Z Z Z Z Z Z ?_;refine Af 0 Z Z Z Z Z Z Z Z Z ?_;refine Aa Z Z Z Z Z O ?_;refine Af 0 Z Z Z Z Z Z Z Z Z ?_;refine Aa Z Z Z Z Z O ?_
  (refine At.l Z Z Z Z (l_buildSlice Z Z Z Z Z) ?_;rintro _ _ ⟨r22,rfl,rfl⟩)
  refine Ai Z Z Z Z Z Z Z Z (s53z L _ (fs := [_,_]) hO.a hz rfl (rd_own 0 Z Z) (bars_look L eye s _) (by simp)) ?_
  by_cases he : hBar eye = 0
  ·by_cases hs : slopeBar s.1 s.2 = 0
   ·have e0 : firstBar [hBar eye,slopeBar s.1 s.2] = 0 := by simp [firstBar,he,hs]
    rw [e0]
    have e1 : lookBar B [hBar eye,slopeBar s.1 s.2] = 0 := by rw [lookBar0 hz];simp [he,hs]
    rw [e1,if_neg (by simp)] at hc
    (iterate 3 refine Aa Z Z Z Z Z O ?_);refine Al Z Z Z Z Z fun r11 => ?_;refine Ag 0 Z Z Z Z Z Z Z Z Z Z Z Z ?_;refine Aa Z Z Z Z Z O ?_;refine Ab (At.seq (At.seq (At.region ?_)));refine Aa Z Z Z Z Z O ?_;refine Ad Z Z Z Z Z fun b27 h27 => ?_;refine Ab ?_
    have e : b27 = false := by rw [← h27];rfl
    subst e
    have hB := hO.r
    have hp := profOk_of hz
    have h1 := opn_of hz
    have he' := eyeOk_of he
    have hs' := slOk_of s hs
    refine At.cond Z ?_;refine At.skip (At.seq (At.region ?_));refine Af 0 Z Z Z Z Z Z Z Z Z ?_;refine Aa Z Z Z Z Z O ?_;refine Af 5 Z Z Z Z Z Z Z Z Z ?_;refine Ai Z Z Z Z Z Z Z Z (s56 L _ bs bs bs bs bs) ?_;(iterate 3 refine Aa Z Z Z Z Z O ?_);refine Al Z Z Z Z Z fun r12 => ?_;refine Ag 0 Z Z Z Z Z Z Z Z Z Z Z Z ?_
    refine Aa Z Z Z Z Z O ?_;refine Ab (At.seq ?_);refine Aw hmix [5,4] rfl ?_;refine Am 0 0 Z Z Z Z Z Z Z Z Z ?_;refine Aj 0 1 Z Z Z Z Z Z Z Z Z Z Z ?_;refine Am 2 2 Z Z Z Z Z Z Z Z Z ?_;refine Aj 0 3 Z Z Z Z Z Z Z Z Z Z Z ?_;refine Ac 4 Z Z Z Z Z Z Z O ?_
    refine Ba 5 5 Z Z Z Z Z Z Z Z Z Z Z Z Z Z Z Z Z Z sb ?_;refine Ba 4 6 Z Z Z Z Z Z Z Z Z Z Z Z Z Z Z Z Z Z sb ?_;refine Ac 7 Z Z Z Z Z Z Z O ?_;refine Ac 8 Z Z Z Z Z Z Z O ?_;refine pool_done Z Z ?_;refine Ab ?_
    exact At.ret Tryz.func14 (.inr ⟨_,rfl⟩) rfl (.aggJ 5 Z Z Z (.aggJ 4 Z Z Z (.tmp rfl (.tmp rfl .nil)))) (wk (hc _ _ (⟨by rfl,rfl⟩)))
   ·have e0 : firstBar [hBar eye,slopeBar s.1 s.2] = slopeBar s.1 s.2 := by simp [firstBar,he,hs]
    rw [e0]
    have e1 : lookBar B [hBar eye,slopeBar s.1 s.2] = slopeBar s.1 s.2 := by rw [lookBar0 hz];simp [he]
    rw [e1,if_pos hs] at hc
    (iterate 3 refine Aa Z Z Z Z Z O ?_);refine Al Z Z Z Z Z fun r11 => ?_;refine Ag 0 Z Z Z Z Z Z Z Z Z Z Z Z ?_;refine Aa Z Z Z Z Z O ?_;refine Ab (At.seq (At.seq (At.region ?_)));refine Aa Z Z Z Z Z O ?_;refine Ad Z Z Z Z Z fun b27 h27 => ?_;refine Ab ?_
    have e : b27 = true := by rw [← h27];simpa using hs
    subst e
    refine At.cond Z ?_;refine At.seq (At.region ?_);(iterate 2 refine Ae Z Z Z Z (q_build Z Z Z) ?_);refine Aa Z Z Z Z Z O ?_;refine Ag 4 Z Z Z Z Z Z Z Z Z Z Z Z ?_;refine Ag 3 Z Z Z Z Z Z Z Z Z Z Z Z ?_;(iterate 2 refine Aa Z Z Z Z Z O ?_);refine Ab ?_
    exact At.ret Tryz.func14 (.inr ⟨_,rfl⟩) rfl (.aggJ 4 Z Z Z (.aggJ 3 Z Z Z (.tmp rfl (.tmp rfl .nil)))) (wk (hc _ _ (⟨by rfl,rfl⟩)))
  ·have e0 : firstBar [hBar eye,slopeBar s.1 s.2] = hBar eye := by simp [firstBar,he]
   rw [e0]
   have e1 : lookBar B [hBar eye,slopeBar s.1 s.2] = hBar eye := by rw [lookBar0 hz];simp [he]
   rw [e1,if_pos he] at hc
   (iterate 3 refine Aa Z Z Z Z Z O ?_);refine Al Z Z Z Z Z fun r11 => ?_;refine Ag 0 Z Z Z Z Z Z Z Z Z Z Z Z ?_;refine Aa Z Z Z Z Z O ?_;refine Ab (At.seq (At.seq (At.region ?_)));refine Aa Z Z Z Z Z O ?_;refine Ad Z Z Z Z Z fun b27 h27 => ?_;refine Ab ?_
   have e : b27 = true := by rw [← h27];simpa using he
   subst e
   refine At.cond Z ?_;refine At.seq (At.region ?_);(iterate 2 refine Ae Z Z Z Z (q_build Z Z Z) ?_);refine Aa Z Z Z Z Z O ?_;refine Ag 4 Z Z Z Z Z Z Z Z Z Z Z Z ?_;refine Ag 3 Z Z Z Z Z Z Z Z Z Z Z Z ?_;(iterate 2 refine Aa Z Z Z Z Z O ?_);refine Ab ?_
   exact At.ret Tryz.func14 (.inr ⟨_,rfl⟩) rfl (.aggJ 4 Z Z Z (.aggJ 3 Z Z Z (.tmp rfl (.tmp rfl .nil)))) (wk (hc _ _ (⟨by rfl,rfl⟩)))
 ·have e0 : lookBar B [hBar eye,slopeBar s.1 s.2] = bookBar B := by unfold lookBar;rw [if_pos hz]
  rw [e0,if_pos hz] at hc
  refine At.seq (At.region ?_);refine An Z Z Z Z Z Z Z fun r3 => ?_;refine An Z Z Z Z Z Z Z fun r5 => ?_;refine Al Z Z Z Z Z fun r6 => ?_;refine Al Z Z Z Z Z fun r7 => ?_;(iterate 2 refine Aa Z Z Z Z Z O ?_);refine Ab (At.seq (At.region ?_));refine Aa Z Z Z Z Z O ?_;refine Af 2 Z Z Z Z Z Z Z Z Z ?_;refine Ae Z Z Z Z (q_build Z Z Z) ?_
  refine Al Z Z Z Z Z fun r10 => ?_;refine Ag 0 Z Z Z Z Z Z Z Z Z Z Z Z ?_;refine Ab (At.seq (At.region ?_));refine Af 4 Z Z Z Z Z Z Z Z Z ?_;refine Af 0 Z Z Z Z Z Z Z Z Z ?_;refine Aa Z Z Z Z Z O ?_;refine Af 0 Z Z Z Z Z Z Z Z Z ?_;refine Aa Z Z Z Z Z O ?_
  (refine At.l Z Z Z Z (l_buildSlice Z Z Z Z Z) ?_;rintro _ _ ⟨r22,rfl,rfl⟩)
  refine Ai Z Z Z Z Z Z Z Z (s53n L _ hO.a hz) ?_;(iterate 3 refine Aa Z Z Z Z Z O ?_);refine Al Z Z Z Z Z fun r11 => ?_;refine Ag 0 Z Z Z Z Z Z Z Z Z Z Z Z ?_;refine Aa Z Z Z Z Z O ?_;refine Ab (At.seq (At.seq (At.region ?_)));refine Aa Z Z Z Z Z O ?_;refine Ad Z Z Z Z Z fun b27 h27 => ?_;refine Ab ?_
  have e : b27 = true := by rw [← h27];simpa using hz
  subst e
  refine At.cond Z ?_;refine At.seq (At.region ?_);(iterate 2 refine Ae Z Z Z Z (q_build Z Z Z) ?_);refine Aa Z Z Z Z Z O ?_;refine Ag 4 Z Z Z Z Z Z Z Z Z Z Z Z ?_;refine Ag 3 Z Z Z Z Z Z Z Z Z Z Z Z ?_;(iterate 2 refine Aa Z Z Z Z Z O ?_);refine Ab ?_
  exact At.ret Tryz.func14 (.inr ⟨_,rfl⟩) rfl (.aggJ 4 Z Z Z (.aggJ 3 Z Z Z (.tmp rfl (.tmp rfl .nil)))) (wk (hc _ _ (⟨by rfl,rfl⟩)))
end Go.Gx
end
section
namespace Go.Gx
open Go Go.Conc Go.Proofs
variable {main : Bool}
theorem lowN_le {n d : Int} : (lowN n d).natAbs ≤ n.natAbs := by
 unfold lowN
 rw [Int.natAbs_tdiv]
 refine Nat.le_trans (Nat.div_le_self _ _) ?_
 split <;> omega
theorem lowD_le {n d : Int} : (lowD n d).natAbs ≤ d.natAbs := by
 unfold lowD
 rw [Int.natAbs_tdiv]
 refine Nat.le_trans (Nat.div_le_self _ _) ?_
 split <;> omega
theorem lowD_pos {n d : Int} (hd : d ≠ 0) : 1 ≤ lowD n d := by
 unfold lowD
 have hg : 0 < Int.gcd n d := Int.gcd_pos_of_ne_zero_right n hd
 have hdv : (Int.gcd n d) ∣ d.natAbs := Int.gcd_dvd_natAbs_right n d
 have hle := Nat.le_of_dvd (by omega) hdv
 have e : ((if d < 0 then -d else d).tdiv (Int.gcd n d) : Int) = ((d.natAbs / Int.gcd n d : Nat) : Int) := by
  have : (if d < 0 then -d else d) = (d.natAbs : Int) := by split <;> omega
  rw [this]
  rfl
 rw [e]
 have := Nat.div_pos hle hg
 omega
theorem den_ok {n d : Int} (hd : d ≠ 0) (h : d.natAbs ≤ 3000000) : 1 ≤ lowD n d ∧ lowD n d ≤ 3000000 := by
 have h1 := lowD_le (n := n) (d := d)
 have h2 := lowD_pos (n := n) hd
 omega
structure SpotOk (x : Spot) : Prop where
 f1 : x.1.1.natAbs ≤ 500000000
 f2 : 1 ≤ x.1.2 ∧ x.1.2 ≤ 3000000
 h1 : x.2.1.natAbs ≤ 500000000
 h2 : 1 ≤ x.2.2 ∧ x.2.2 ≤ 3000000
theorem crossM_ok {p q : R2} {eye : Int} {s : R2} (hp : PtOk p) (hq : PtOk q) (he : EyeOk eye) (hs : SlOk s) : ∀ x ∈ crossM p q eye s,SpotOk x := by
 have o1 := offL_bd hp he hs
 have o2 := offL_bd hq he hs
 unfold PtOk at hp hq
 intro x hx
 unfold crossM at hx
 split at hx
 ·cases hx
 split at hx
 ·simp only [List.mem_cons,List.not_mem_nil,or_false] at hx
  rcases hx with rfl | rfl <;> exact ⟨by dsimp only;omega,by dsimp only;omega,by dsimp only;omega,by dsimp only;omega⟩
 rename_i h0
 split at hx
 ·rename_i hc
  simp only [List.mem_cons,List.not_mem_nil,or_false] at hx
  subst hx
  have hd : offL p eye s - offL q eye s ≠ 0 := by omega
  have hdd : (offL p eye s - offL q eye s).natAbs ≤ 3000000 := by omega
  have a1 := mul_bd (a := p.1) (b := offL p eye s - offL q eye s) (A := 60) (B := 3000000) (by omega) hdd
  have a2 := mul_bd (a := q.1 - p.1) (b := offL p eye s) (A := 60) (B := 1500000) (by omega) (by omega)
  have a3 := mul_bd (a := p.2) (b := offL p eye s - offL q eye s) (A := 90) (B := 3000000) (by omega) hdd
  have a4 := mul_bd (a := q.2 - p.2) (b := offL p eye s) (A := 90) (B := 1500000) (by omega) (by omega)
  exact ⟨Nat.le_trans lowN_le (Nat.le_trans (Int.natAbs_add_le _ _) (Nat.le_trans (Nat.add_le_add a1 a2) (by decide))),den_ok hd hdd,
   Nat.le_trans lowN_le (Nat.le_trans (Int.natAbs_add_le _ _) (Nat.le_trans (Nat.add_le_add a3 a4) (by decide))),den_ok hd hdd⟩
 ·cases hx
theorem bestM_mem {α : Type} (better : α → α → Bool) : ∀ (one : α) (l : List α),bestM better one l ∈ one :: l
 | one,[] => List.mem_cons_self ..
 | one,x :: l => by
  have := bestM_mem better (if better x one then x else one) l
  show bestM better (if better x one then x else one) l ∈ _
  rcases List.mem_cons.1 this with h | h
  ·rw [h];split <;> simp
  ·exact List.mem_cons_of_mem _ (List.mem_cons_of_mem _ h)
theorem meetM_ok {ps : List R2} {eye : Int} {s : R2} (hp : ∀ p ∈ ps,PtOk p) (he : EyeOk eye) (hs : SlOk s) {x : Spot} (hx : meetM ps eye s = some x) : SpotOk x := by
 have hall : ∀ y ∈ piecesM ps eye s,SpotOk y := by
  intro y hy
  unfold piecesM at hy
  obtain ⟨⟨p,q⟩,hpq,hy⟩ := List.mem_flatMap.1 hy
  exact crossM_ok (hp _ (List.of_mem_zip hpq).1) (hp _ (List.mem_of_mem_tail (List.of_mem_zip hpq).2)) he hs y hy
 unfold meetM at hx
 split at hx
 ·cases hx
 ·rename_i y l e
  cases hx
  rw [e] at hall
  exact hall _ (bestM_mem _ _ _)
structure HighOk (h : R2) : Prop where
 n : h.1.natAbs ≤ 500000000
 d : 1 ≤ h.2 ∧ h.2 ≤ 3000000
def footM (B : Bk) : Int := (B.prof.headD (0,0)).2
def squareM (B : Bk) (h : R2) : Int × R2 := ((h.1 - footM B * h.2).tdiv (B.size * h.2),low ((h.1 - footM B * h.2).tmod (B.size * h.2)) (B.size * h.2))
def rowM (B : Bk) (eye : Int) (s : R2) : Int :=
 match meetM B.prof eye s with
 | none => -1
 | some x => (squareM B x.2).1
theorem rowM_none {B : Bk} {eye : Int} {s : R2} (h : meetM B.prof eye s = none) : rowM B eye s = -1 := by unfold rowM;rw [h]
theorem rowM_some {B : Bk} {eye : Int} {s : R2} {x : Spot} (h : meetM B.prof eye s = some x) : rowM B eye s = (squareM B x.2).1 := by unfold rowM;rw [h]
theorem s57 (L : Lg Tryz.prog main) (H : Facts) {B : Bk} {A : BkA} {h : R2} (hB : BkR H B A) (hz : bookBar B = 0) (hh : HighOk h) : Pure L 57 #[bkV B A,rV h] H (.tuple #[.int .i64 (squareM B h).1,rV (squareM B h).2]) := by
 have hb := bounds_of_bar hz
 have h0 : 0 < B.prof.length := by omega
 obtain ⟨b,off,e,hc⟩ := hB.p.el (List.getElem?_eq_getElem h0)
 obtain ⟨pa,pc,ma,mc⟩ := A
 simp only at e
 subst e
 have hp := hb.2.2.1 _ (List.getElem_mem h0)
 obtain ⟨hn,hd1,hd2⟩ := hh
 have ef : footM B = B.prof[0].2 := by
  unfold footM
  rw [List.headD_eq_head?_getD,List.head?_eq_getElem?,List.getElem?_eq_getElem h0]
  rfl
 unfold PtOk at hp
 have m1 := mul_bd (a := B.size) (b := h.2) (A := 30) (B := 3000000) (by omega) (by omega)
 have m2 := mul_bd (a := B.prof[0].2) (b := h.2) (A := 90) (B := 3000000) (by omega) (by omega)
 have m3 : B.size * h.2 ≠ 0 := Int.mul_ne_zero (by omega) (by omega)
 have := r96 L H (n := B.prof.length) (cap := pc) (m := B.marks.length) (mc := mc) (ma := ma) (size := B.size) (lo := B.lo) (hi := B.hi) (hn := h.1) (hd := h.2) (h0 := B.prof[0].2) h0 (cells_sub hc 1 1 rfl) (by omega) (by omega) (by omega) m3
 unfold squareM
 rw [ef]
 exact this
theorem highOk_of {x : Spot} (h : SpotOk x) : HighOk x.2 := ⟨h.h1,h.h2⟩
set_option maxRecDepth 100000 in
set_option maxHeartbeats 4000000 in
theorem s70 (L : Lg Tryz.prog main) (H : Facts) {B : Bk} {A : BkA} {eye : Int} {s : R2} (hB : BkR H B A) (hz : bookBar B = 0) (he : EyeOk eye) (hs : SlOk s) : Pure L 70 #[bkV B A,.int .i64 eye,rV s] H (.int .i64 (rowM B eye s)) := by
 refine Spec.enter Tryz.func70 rfl (by simp [Tryz.f70]) fun c cs hc => ?_
 have hp := profOk_of hz
 have h1 := opn_of hz
 refine At.seq (At.region ?_);refine An Z Z Z Z Z Z Z fun r3 => ?_;refine An Z Z Z Z Z Z Z fun r5 => ?_;refine Aa Z Z Z Z Z O ?_;refine Ab (At.seq (At.region ?_));refine Af 1 Z Z Z Z Z Z Z Z Z ?_;refine Aa Z Z Z Z Z O ?_;refine Af 0 Z Z Z Z Z Z Z Z Z ?_;refine Ai Z Z Z Z Z Z Z Z (s56 L _ bs bs bs bs bs) ?_
 (iterate 3 refine Aa Z Z Z Z Z O ?_);refine Al Z Z Z Z Z fun r7 => ?_;refine Ag 0 Z Z Z Z Z Z Z Z Z Z Z Z ?_;refine Aa Z Z Z Z Z O ?_;refine Ab (At.seq (At.seq (At.region ?_)));(iterate 2 refine Aa Z Z Z Z Z O ?_);refine Ab ?_
 cases hm : meetM B.prof eye s with
 | none =>
  rw [rowM_none hm] at hc
  refine At.cond Z ?_;refine At.seq (At.region ?_);refine Aa Z Z Z Z Z O ?_;refine Ab ?_
  exact At.ret Tryz.func70 (.inr ⟨_,rfl⟩) rfl (.tmp rfl .nil) (wk (hc _ _ (⟨by rfl,rfl⟩)))
 | some x =>
  have hx := highOk_of (meetM_ok hp.2 he hs hm)
  rw [rowM_some hm] at hc
  refine At.cond Z ?_;refine At.skip (At.seq (At.region ?_));refine Af 2 Z Z Z Z Z Z Z Z Z ?_;refine Ah 2 Z Z Z Z Z Z Z ?_;refine Af 0 Z Z Z Z Z Z Z Z Z ?_;refine Ai Z Z Z Z Z Z Z Z (s57 L _ bs bs bs) ?_;(iterate 3 refine Aa Z Z Z Z Z O ?_);refine Al Z Z Z Z Z fun r10 => ?_;refine Aa Z Z Z Z Z O ?_;refine Ag 0 Z Z Z Z Z Z Z Z Z Z Z Z ?_
  refine Ab (At.seq (At.region ?_));(iterate 2 refine Aa Z Z Z Z Z O ?_);refine Ab ?_
  exact At.ret Tryz.func70 (.inr ⟨_,rfl⟩) rfl (.tmp rfl .nil) (wk (hc _ _ (⟨by rfl,rfl⟩)))
end Go.Gx
end
section
namespace Go.Gx
open Go Go.Conc Go.Proofs
variable {main : Bool}
def SightOk (f : Int × R2) : Prop := 0 ≤ f.1 ∧ f.1 ≤ 12 ∧ -20 ≤ f.2.1 ∧ f.2.1 ≤ 20 ∧ 1 ≤ f.2.2 ∧ f.2.2 ≤ 20
theorem s65 (L : Lg Tryz.prog main) (H : Facts) {a z : R2} {k n : Int} (ha : a.1.natAbs ≤ 500000000) (ha2 : 1 ≤ a.2 ∧ a.2 ≤ 3000) (hz : z.1.natAbs ≤ 500000000) (hz2 : 1 ≤ z.2 ∧ z.2 ≤ 3000) (hk : 0 ≤ k ∧ k ≤ n) (hn : 1 ≤ n ∧ n ≤ 12) :
  Pure L 65 #[rV a,rV z,.int .i64 k,.int .i64 n] H (rV (evenlyM a z k n)) := by
 refine Spec.enter Tryz.func65 rfl (by simp [Tryz.f65]) fun c cs hc => ?_
 have m1 := mul_bd (a := a.1) (b := z.2) (A := 500000000) (B := 3000) (by omega) (by omega)
 have m2 := mul_bd (a := a.1 * z.2) (b := n - k) (A := 1500000000000) (B := 12) (by omega) (by omega)
 have m3 := mul_bd (a := z.1) (b := a.2) (A := 500000000) (B := 3000) (by omega) (by omega)
 have m4 := mul_bd (a := z.1 * a.2) (b := k) (A := 1500000000000) (B := 12) (by omega) (by omega)
 have m5 := mul_bd (a := a.2) (b := z.2) (A := 3000) (B := 3000) (by omega) (by omega)
 have m6 := mul_bd (a := a.2 * z.2) (b := n) (A := 9000000) (B := 12) (by omega) (by omega)
 have h0 : a.2 * z.2 * n ≠ 0 := Int.mul_ne_zero (Int.mul_ne_zero (by omega) (by omega)) (by omega)
 refine At.seq (At.region ?_);refine An Z Z Z Z Z Z Z fun r4 => ?_;refine An Z Z Z Z Z Z Z fun r5 => ?_;refine Al Z Z Z Z Z fun r8 => ?_;refine Ab (At.seq (At.region ?_));refine Ah 0 Z Z Z Z Z Z Z ?_;refine Af 2 Z Z Z Z Z Z Z Z Z ?_;refine Ah 1 Z Z Z Z Z Z Z ?_;refine Af 1 Z Z Z Z Z Z Z Z Z ?_;refine Aa Z Z Z Z Z (by omega) ?_
 (iterate 2 refine Aa Z Z Z Z Z O ?_);(iterate 2 refine Aa Z Z Z Z Z (by omega) ?_);refine Ah 0 Z Z Z Z Z Z Z ?_;refine Af 1 Z Z Z Z Z Z Z Z Z ?_;refine Ah 1 Z Z Z Z Z Z Z ?_;refine Af 2 Z Z Z Z Z Z Z Z Z ?_;refine Aa Z Z Z Z Z (by omega) ?_;refine Aa Z Z Z Z Z O ?_;(iterate 2 refine Aa Z Z Z Z Z (by omega) ?_)
 refine Ah 1 Z Z Z Z Z Z Z ?_;refine Af 2 Z Z Z Z Z Z Z Z Z ?_;refine Ah 1 Z Z Z Z Z Z Z ?_;refine Af 1 Z Z Z Z Z Z Z Z Z ?_;refine Aa Z Z Z Z Z (by omega) ?_;refine Aa Z Z Z Z Z O ?_;refine Aa Z Z Z Z Z (by omega) ?_;refine Ai Z Z Z Z Z Z Z Z (s58 L _ bs bs bs) ?_;refine Ag 0 Z Z Z Z Z Z Z Z Z Z Z Z ?_;refine Ab ?_
 exact At.ret Tryz.func65 (.inr ⟨_,rfl⟩) rfl (.aggJ 0 Z Z Z .nil) (wk (hc _ _ (⟨by rfl,rfl⟩)))
def thingAt (B : Bk) (eye : Int) (f t : Int × R2) (k : Nat) : Option Spot := meetM B.prof eye (evenlyM f.2 t.2 k (t.1 - f.1))
def thingTo (B : Bk) (eye : Int) (f t : Int × R2) : Nat → Option (List R2)
 | 0 => some []
 | n + 1 =>
  match thingTo B eye f t n,thingAt B eye f t n with
  | some l,some x => some (l ++ [x.2])
  | _,_ => none
theorem thingTo_len {B : Bk} {eye : Int} {f t : Int × R2} : ∀ {n : Nat} {l : List R2},thingTo B eye f t n = some l → l.length = n
 | 0,l,h => by cases h;rfl
 | n + 1,l,h => by
  unfold thingTo at h
  split at h
  ·rename_i l' x e _
   cases h
   rw [List.length_append,thingTo_len e];rfl
  ·cases h
theorem thingTo_none {B : Bk} {eye : Int} {f t : Int × R2} {n : Nat} (h : thingAt B eye f t n = none) : ∀ {m : Nat},n < m → thingTo B eye f t m = none
 | 0,hm => by omega
 | m + 1,hm => by
  unfold thingTo
  by_cases e : n = m
  ·subst e;rw [h];cases thingTo B eye f t n <;> rfl
  ·rw [thingTo_none h (show n < m by omega)]
theorem thingTo_some {B : Bk} {eye : Int} {f t : Int × R2} {n : Nat} {l : List R2} {x : Spot} (h : thingTo B eye f t n = some l) (hx : thingAt B eye f t n = some x) : thingTo B eye f t (n + 1) = some (l ++ [x.2]) := by
 unfold thingTo;rw [h,hx]
theorem evenlyM_sl {f t : Int × R2} (hf : SightOk f) (ht : SightOk t) {k n : Int} (hk : 0 ≤ k ∧ k ≤ n) (hn : 1 ≤ n ∧ n ≤ 12) : SlOk (evenlyM f.2 t.2 k n) := by
 unfold SightOk at hf ht
 have m1 := mul_bd (a := f.2.1) (b := t.2.2) (A := 20) (B := 20) (by omega) (by omega)
 have m2 := mul_bd (a := f.2.1 * t.2.2) (b := n - k) (A := 400) (B := 12) (by omega) (by omega)
 have m3 := mul_bd (a := t.2.1) (b := f.2.2) (A := 20) (B := 20) (by omega) (by omega)
 have m4 := mul_bd (a := t.2.1 * f.2.2) (b := k) (A := 400) (B := 12) (by omega) (by omega)
 have m5 := mul_bd (a := f.2.2) (b := t.2.2) (A := 20) (B := 20) (by omega) (by omega)
 have m6 := mul_bd (a := f.2.2 * t.2.2) (b := n) (A := 400) (B := 12) (by omega) (by omega)
 have h0 : f.2.2 * t.2.2 * n ≠ 0 := Int.mul_ne_zero (Int.mul_ne_zero (by omega) (by omega)) (by omega)
 have d := lowD_le (n := f.2.1 * t.2.2 * (n - k) + t.2.1 * f.2.2 * k) (d := f.2.2 * t.2.2 * n)
 have p := lowD_pos (n := f.2.1 * t.2.2 * (n - k) + t.2.1 * f.2.2 * k) h0
 have nn := lowN_le (n := f.2.1 * t.2.2 * (n - k) + t.2.1 * f.2.2 * k) (d := f.2.2 * t.2.2 * n)
 have n2 := Nat.le_trans nn (Nat.le_trans (Int.natAbs_add_le _ _) (Nat.add_le_add m2 m4))
 unfold SlOk evenlyM low
 dsimp only
 clear m1 m2 m3 m4 m5 nn hf ht hk hn h0
 omega
def keepsM (B : Bk) (s : R2) (row : Int) (n : Nat) : List Int := ((List.range n).map fun (k : Nat) => (k : Int)).filter fun k => decide (rowM B k s = row)
theorem keepsM_succ (B : Bk) (s : R2) (row : Int) (n : Nat) : keepsM B s row (n + 1) = keepsM B s row n ++ (if rowM B n s = row then [(n : Int)] else []) := by
 unfold keepsM
 rw [List.range_succ,List.map_append,List.filter_append]
 congr 1
 by_cases h : rowM B n s = row <;> simp [h]
def lookSR (s : R2) (row : Int) : List Value := lookC z0 (.int .i64 row) (.int .i64 s.1) (.int .i64 s.2) zl z0 z0 z0 z0 z0 z0
set_option maxRecDepth 100000 in
theorem bars_lookSR (L : Lg Tryz.prog main) (s : R2) (row : Int) (H : Facts) : Bars L H [slopF (lookSR s row),inRF (lookSR s row)] [slopeBar s.1 s.2,hBar row] :=
 .cons (fun H' _ => spec_slop L H') (.cons (fun H' _ => spec_inR L H') .nil)
theorem lookBar1 {B : Bk} {rs : List Int} (h : bookBar B = 0) : lookBar B rs = firstBar rs := by
 unfold lookBar
 rw [if_neg (by simp [h])]
theorem lookBarN {B : Bk} {rs : List Int} (h : bookBar B ≠ 0) : lookBar B rs = bookBar B := by
 unfold lookBar
 rw [if_pos h]
theorem firstBar2 {a b : Int} : firstBar [a,b] = if a ≠ 0 then a else b := by
 unfold firstBar firstBar firstBar
 by_cases e : b = 0 <;> simp [e]
set_option maxRecDepth 100000 in
set_option maxHeartbeats 4000000 in
theorem s21 (L : Lg Tryz.prog main) (H : Facts) {B : Bk} {A : BkA} {s : R2} {row : Int} (hO : Opn H B A) :
  Grows L 21 #[bkV B A,rV s,.int .i64 row] H (fun v sf => ∃ a cap,v = .tuple #[.slice a (if lookBar B [slopeBar s.1 s.2,hBar row] ≠ 0 then [] else keepsM B s row 91).length cap,.int .i64 (lookBar B [slopeBar s.1 s.2,hBar row])] ∧
   Sl c1 3 (.slice a (if lookBar B [slopeBar s.1 s.2,hBar row] ≠ 0 then [] else keepsM B s row 91).length cap) (if lookBar B [slopeBar s.1 s.2,hBar row] ≠ 0 then [] else keepsM B s row 91) sf) := by
 refine Spec.enter Tryz.func21 rfl (by simp [Tryz.f21]) fun c cs hc => ?_
 by_cases hz : bookBar B = 0
 ·rw [lookBar1 hz] at hc
  generalize hr : firstBar [slopeBar s.1 s.2,hBar row] = r at hc
  refine At.seq (At.region ?_);refine An Z Z Z Z Z Z Z fun r3 => ?_;refine An Z Z Z Z Z Z Z fun r4 => ?_;(iterate 2 refine Aa Z Z Z Z Z O ?_);refine Ab (At.seq (At.region ?_));refine Af 0 Z Z Z Z Z Z Z Z Z ?_;refine Aa Z Z Z Z Z O ?_;refine Ae Z Z Z Z (q_build Z Z Z) ?_;refine Al Z Z Z Z Z fun r8 => ?_
  refine Ag 0 Z Z Z Z Z Z Z Z Z Z Z Z ?_;refine Ab (At.seq (At.region ?_));refine Af 2 Z Z Z Z Z Z Z Z Z ?_;refine Af 0 Z Z Z Z Z Z Z Z Z ?_;refine Aa Z Z Z Z Z O ?_;refine Af 0 Z Z Z Z Z Z Z Z Z ?_;refine Aa Z Z Z Z Z O ?_
  (refine At.l Z Z Z Z (l_buildSlice Z Z Z Z Z) ?_;rintro _ _ ⟨r22,rfl,rfl⟩)
  refine Ai Z Z Z Z Z Z Z Z (s53z L _ (fs := [_,_]) hO.a hz rfl (rd_own 0 Z Z) (bars_lookSR L s row _) (by simp)) ?_
  rw [hr]
  (iterate 3 refine Aa Z Z Z Z Z O ?_);refine Al Z Z Z Z Z fun r9 => ?_;refine Ag 0 Z Z Z Z Z Z Z Z Z Z Z Z ?_;refine Aa Z Z Z Z Z O ?_;refine Ab (At.seq (At.seq (At.region ?_)));refine Aa Z Z Z Z Z O ?_;refine Ad Z Z Z Z Z fun b27 h27 => ?_;refine Ab ?_
  cases b27
  ·have e : r = 0 := by simpa using h27
   subst e
   rw [firstBar2] at hr
   have hs : slopeBar s.1 s.2 = 0 := by
    by_cases hs : slopeBar s.1 s.2 = 0
    ·exact hs
    ·rw [if_pos hs] at hr;exact hr
   have hs' := slOk_of s hs
   have hB := hO.r
   simp only [ne_eq,not_true_eq_false,if_false] at hc
   refine At.cond Z ?_;refine At.skip (At.seq (At.region ?_));refine Aa Z Z Z Z Z O ?_;refine Ab (At.seq (At.seq (At.region ?_)));refine Aa Z Z Z Z Z O ?_;refine Ab ?_;refine At.block ?_
   refine Az (X := { x : Nat × Value × Facts // x.1 ≤ 91 ∧ Sl c1 3 x.2.1 (keepsM B s row x.1) x.2.2 }) [2,4,6,7,9] (fun x => [(29,.int .i64 (x.1.1 : Int)),(11,x.1.2.1)]) (fun x => .own r9 (.cells (List.toArray (bkC B A)) 117 (0,0)) :: .own r4 (.cells (List.toArray (c2 s)) 40 (0,0)) :: (x.1.2.2 ++ H)) (fun x => 91 - x.1.1) (⟨(0,.slice none 0 0,[]),by simp,Sl.nil⟩) rfl ?_ (by repeat (first | exact trivial | refine ⟨rfl,?_⟩)) sb
   rintro ⟨⟨j,v,sf⟩,hj,hsl⟩ again
   simp only at again hj hsl ⊢
   have hsucc := keepsM_succ B s row j
   refine At.seq (At.region ?_);refine Ad Z Z Z Z Z fun b30 h30 => ?_;refine Ab (At.seq ?_)
   cases b30
   ·have e : j = 91 := by simp at h30;omega
    subst e
    obtain ⟨a,cap,rfl⟩ := hsl.slice
    refine At.cond Z ?_;refine At.exit rfl ?_;refine At.seq (At.region ?_);(iterate 3 refine Aa Z Z Z Z Z O ?_);refine Ab ?_
    exact At.ret Tryz.func21 (.inr ⟨_,rfl⟩) rfl (.tmp rfl (.tmp rfl .nil)) (wk (hc _ _ (⟨sf,⟨a,cap,rfl,hsl⟩,rfl⟩)))
   ·have hlt : j < 91 := by simp at h30;omega
    have he : EyeOk (j : Int) := by unfold EyeOk;omega
    refine At.cond Z ?_;refine At.skip (At.seq ?_);refine At.block ?_;refine At.seq (At.region ?_);(iterate 2 refine Aa Z Z Z Z Z O ?_);refine Ab (At.seq (At.region ?_));refine Af 0 Z Z Z Z Z Z Z Z Z ?_;refine Aa Z Z Z Z Z O ?_;refine Af 1 Z Z Z Z Z Z Z Z Z ?_;refine Ai Z Z Z Z Z Z Z Z (s70 L _ bs bs bs bs) ?_;refine Aa Z Z Z Z Z O ?_
    refine Ad Z Z Z Z Z fun b37 h37 => ?_;refine Ab ?_
    cases b37
    ·rw [if_neg (by simpa using h37),List.append_nil] at hsucc
     refine At.cond Z ?_;refine At.skip ?_;refine At.inBlock ?_;refine At.region ?_;refine Aa Z Z Z Z Z (by omega) ?_;refine Aa Z Z Z Z Z O ?_;refine Ab ?_
     refine Aq ((again ⟨(j + 1,v,sf),hlt,by rw [hsucc];exact hsl⟩ (by simp;omega)))
    ·rw [if_pos (by simpa using h37)] at hsucc
     refine At.cond Z ?_;refine At.region ?_;(iterate 2 refine Aa Z Z Z Z Z O ?_)
     (refine At.l Z Z Z Z (l_buildSlice Z Z Z Z Z) ?_;rintro _ _ ⟨r40,rfl,rfl⟩)
     refine At.push (x := (j : Int)) 0 3 Z Z Z Z Z Z Z Z Z Z Z Z Z Z hsl Z Z Z ?_ fun v sf hs => ?_
     ·unfold keepsM
      refine Nat.lt_of_le_of_lt (List.length_filter_le _ _) ?_
      simp;omega
     ·rw [← hsucc] at hs
      refine Aa Z Z Z Z Z O ?_;refine Ab ?_;refine At.inBlock ?_;refine At.region ?_;refine Aa Z Z Z Z Z (by omega) ?_;refine Aa Z Z Z Z Z O ?_;refine Ab ?_
      refine Aq ((again ⟨(j + 1,v,sf),hlt,hs⟩ (by simp;omega)))
  ·have e : r ≠ 0 := by simpa using h27
   simp only [if_pos e] at hc
   refine At.cond Z ?_;refine At.seq (At.region ?_);(iterate 3 refine Aa Z Z Z Z Z O ?_);refine Ab ?_
   exact At.ret Tryz.func21 (.inr ⟨_,rfl⟩) rfl (.tmp rfl (.tmp rfl .nil)) (wk (hc _ _ (⟨[],⟨none,0,rfl,Sl.nil⟩,rfl⟩)))
 ·rw [lookBarN hz] at hc
  simp only [if_pos hz] at hc
  refine At.seq (At.region ?_);refine An Z Z Z Z Z Z Z fun r3 => ?_;refine An Z Z Z Z Z Z Z fun r4 => ?_;(iterate 2 refine Aa Z Z Z Z Z O ?_);refine Ab (At.seq (At.region ?_));refine Af 0 Z Z Z Z Z Z Z Z Z ?_;refine Aa Z Z Z Z Z O ?_;refine Ae Z Z Z Z (q_build Z Z Z) ?_;refine Al Z Z Z Z Z fun r8 => ?_
  refine Ag 0 Z Z Z Z Z Z Z Z Z Z Z Z ?_;refine Ab (At.seq (At.region ?_));refine Af 2 Z Z Z Z Z Z Z Z Z ?_;refine Af 0 Z Z Z Z Z Z Z Z Z ?_;refine Aa Z Z Z Z Z O ?_;refine Af 0 Z Z Z Z Z Z Z Z Z ?_;refine Aa Z Z Z Z Z O ?_
  (refine At.l Z Z Z Z (l_buildSlice Z Z Z Z Z) ?_;rintro _ _ ⟨r22,rfl,rfl⟩)
  refine Ai Z Z Z Z Z Z Z Z (s53n L _ hO.a hz) ?_;(iterate 3 refine Aa Z Z Z Z Z O ?_);refine Al Z Z Z Z Z fun r9 => ?_;refine Ag 0 Z Z Z Z Z Z Z Z Z Z Z Z ?_;refine Aa Z Z Z Z Z O ?_;refine Ab (At.seq (At.seq (At.region ?_)));refine Aa Z Z Z Z Z O ?_;refine Ad Z Z Z Z Z fun b27 h27 => ?_;refine Ab ?_
  have e : b27 = true := by rw [← h27];simpa using hz
  subst e
  refine At.cond Z ?_;refine At.seq (At.region ?_);(iterate 3 refine Aa Z Z Z Z Z O ?_);refine Ab ?_
  exact At.ret Tryz.func21 (.inr ⟨_,rfl⟩) rfl (.tmp rfl (.tmp rfl .nil)) (wk (hc _ _ (⟨[],⟨none,0,rfl,Sl.nil⟩,rfl⟩)))
set_option maxRecDepth 100000 in
set_option maxHeartbeats 4000000 in
theorem s63 (L : Lg Tryz.prog main) (H : Facts) {B : Bk} {A : BkA} {eye : Int} {f t : Int × R2} {st : Nat} (hB : BkR H B A) (hz : bookBar B = 0) (he : EyeOk eye) (hf : SightOk f) (ht : SightOk t) (hst : t.1 - f.1 = (st : Int)) (h1 : 1 ≤ st) :
  Grows L 63 #[bkV B A,.int .i64 eye,.agg (List.toArray (cI3 f)),.agg (List.toArray (cI3 t))] H (fun v sf => ∃ a cap,v = .tuple #[.slice a ((thingTo B eye f t (st + 1)).getD []).length cap,.bool (thingTo B eye f t (st + 1)).isSome] ∧
   Sl c2 40 (.slice a ((thingTo B eye f t (st + 1)).getD []).length cap) ((thingTo B eye f t (st + 1)).getD []) sf) := by
 refine Spec.enter Tryz.func63 rfl (by simp [Tryz.f63]) fun c cs hc => ?_
 have hp := profOk_of hz
 have hp1 := opn_of hz
 have hst12 : st ≤ 12 := by unfold SightOk at hf ht;omega
 have q1 : InI (t.1 - f.1) := by omega
 have q2 : InI (t.1 - f.1 + 1) := by omega
 have f1 : f.2.1.natAbs ≤ 500000000 := by unfold SightOk at hf;omega
 have f2 : 1 ≤ f.2.2 ∧ f.2.2 ≤ 3000 := by unfold SightOk at hf;omega
 have t1 : t.2.1.natAbs ≤ 500000000 := by unfold SightOk at ht;omega
 have t2 : 1 ≤ t.2.2 ∧ t.2.2 ≤ 3000 := by unfold SightOk at ht;omega
 have hn : 1 ≤ t.1 - f.1 ∧ t.1 - f.1 ≤ 12 := by omega
 refine At.seq (At.region ?_);refine An Z Z Z Z Z Z Z fun r4 => ?_;refine An Z Z Z Z Z Z Z fun r6 => ?_;refine An Z Z Z Z Z Z Z fun r7 => ?_;(iterate 2 refine Aa Z Z Z Z Z O ?_);refine Ab (At.seq (At.region ?_));refine Aa Z Z Z Z Z O ?_;refine Ab (At.seq (At.region ?_));refine Ah 0 Z Z Z Z Z Z Z ?_;refine Af 0 Z Z Z Z Z Z Z Z Z ?_
 refine Ah 0 Z Z Z Z Z Z Z ?_;refine Af 1 Z Z Z Z Z Z Z Z Z ?_;refine Aa Z Z Z Z Z (by assumption) ?_;refine Aa Z Z Z Z Z O ?_;refine Ab (At.seq (At.seq (At.region ?_)));refine Aa Z Z Z Z Z O ?_;refine Aa Z Z Z Z Z (by assumption) ?_;refine Aa Z Z Z Z Z O ?_;refine Ab ?_;refine At.block ?_
 refine Az (X := { x : Nat × Value × Facts × List R2 // x.1 ≤ st + 1 ∧ thingTo B eye f t x.1 = some x.2.2.2 ∧ Sl c2 40 x.2.1 x.2.2.2 x.2.2.1 }) [1,4,6,7,11,21] (fun x => [(22,.int .i64 (x.1.1 : Int)),(10,x.1.2.1)]) (fun x => .own r7 (.cells (List.toArray (cI3 t)) 50 (0,0)) :: .own r6 (.cells (List.toArray (cI3 f)) 50 (0,0)) :: .own r4 (.cells (List.toArray (bkC B A)) 117 (0,0)) :: (x.1.2.2.1 ++ H)) (fun x => st + 1 - x.1.1) (⟨(0,.slice none 0 0,[],[]),by simp,rfl,Sl.nil⟩) rfl ?_ (by repeat (first | exact trivial | refine ⟨rfl,?_⟩)) sb
 rintro ⟨⟨j,v,sf,l⟩,hj,hth,hsl⟩ again
 simp only at again hj hth hsl ⊢
 have hlen := thingTo_len hth
 refine At.seq (At.region ?_);refine Ad Z Z Z Z Z fun b23 h23 => ?_;refine Ab (At.seq ?_)
 cases b23
 ·have e : j = st + 1 := by simp at h23;omega
  subst e
  rw [hth] at hc
  obtain ⟨a,cap,rfl⟩ := hsl.slice
  refine At.cond Z ?_;refine At.exit rfl ?_;refine At.seq (At.region ?_);(iterate 3 refine Aa Z Z Z Z Z O ?_);refine Ab ?_
  exact At.ret Tryz.func63 (.inr ⟨_,rfl⟩) rfl (.tmp rfl (.tmp rfl .nil)) (wk (hc _ _ (⟨sf,⟨a,cap,rfl,hsl⟩,rfl⟩)))
 ·have hlt : j < st + 1 := by simp at h23;omega
  have hk : 0 ≤ (j : Int) ∧ (j : Int) ≤ t.1 - f.1 := by omega
  have hsl' := evenlyM_sl hf ht hk hn
  refine At.cond Z ?_;refine At.skip (At.seq ?_);refine At.block ?_;refine At.seq (At.region ?_);(iterate 2 refine Aa Z Z Z Z Z O ?_);refine Ab (At.seq ?_);refine Aw hmix [] rfl ?_;refine Aj 2 0 Z Z Z Z Z Z Z Z Z Z Z ?_;refine Ac 1 Z Z Z Z Z Z Z O ?_;refine Am 1 2 Z Z Z Z Z Z Z Z Z ?_;refine Aj 1 3 Z Z Z Z Z Z Z Z Z Z Z ?_
  refine Am 1 4 Z Z Z Z Z Z Z Z Z ?_;refine Aj 0 5 Z Z Z Z Z Z Z Z Z Z Z ?_;refine Ac 6 Z Z Z Z Z Z Z O ?_;refine Ac 7 Z Z Z Z Z Z Z O ?_;refine Ap 8 Z Z Z Z Z Z Z Z Z (fun H hs => s65 L H bs bs bs bs bs bs) ?_;refine Ap 9 Z Z Z Z Z Z Z Z Z (fun H hs => s56 L H bs bs bs bs bs) ?_;refine Ac 10 Z Z Z Z Z Z Z O ?_
  refine Ac 11 Z Z Z Z Z Z Z O ?_;refine Ac 12 Z Z Z Z Z Z Z O ?_;refine Pool.al 13 Z Z Z Z Z Z Z Z Z Z Z sb fun r13 => ?_;refine Ba 0 14 Z Z Z Z Z Z Z Z Z Z Z Z Z Z Z Z Z Z sb ?_;refine Ac 15 Z Z Z Z Z Z Z O ?_;refine pool_done Z Z ?_;refine Ab (At.seq (At.seq (At.region ?_)));(iterate 2 refine Aa Z Z Z Z Z O ?_)
  refine Ab ?_
  cases hx : meetM B.prof eye (evenlyM f.2 t.2 (j : Int) (t.1 - f.1)) with
  | none =>
   rw [thingTo_none hx hlt] at hc
   refine At.cond Z ?_;refine At.seq (At.region ?_);(iterate 2 refine Aa Z Z Z Z Z O ?_);refine Ab ?_
   exact At.ret Tryz.func63 (.inr ⟨_,rfl⟩) rfl (.tmp rfl (.tmp rfl .nil)) (wk (hc _ _ (⟨[],⟨none,0,rfl,Sl.nil⟩,rfl⟩)))
  | some x =>
   have hth' := thingTo_some hth hx
   refine At.cond Z ?_;refine At.skip (At.region ?_);refine Aa Z Z Z Z Z O ?_;refine Ah 2 Z Z Z Z Z Z Z ?_;refine Af 0 Z Z Z Z Z Z Z Z Z ?_
   (refine At.l Z Z Z Z (l_buildSlice Z Z Z Z Z) ?_;rintro _ _ ⟨r43,rfl,rfl⟩)
   refine At.push (x := x.2) 0 5 Z Z Z Z Z Z Z Z Z Z Z Z Z Z hsl Z Z Z ?_ fun v sf hs => ?_
   ·omega
   ·refine Aa Z Z Z Z Z O ?_
    refine Ab ?_;refine At.inBlock ?_;refine At.region ?_;refine Aa Z Z Z Z Z (by omega) ?_;refine Aa Z Z Z Z Z O ?_;refine Ab ?_
    refine Aq ((again ⟨(j + 1,v,sf,l ++ [x.2]),hlt,hth',hs⟩ (by simp;omega)))
def look2 (eye : Int) (f t : Int × R2) : List Value := lookC (.int .i64 eye) z0 z0 z0 zl (.int .i64 f.1) (.int .i64 f.2.1) (.int .i64 f.2.2) (.int .i64 t.1) (.int .i64 t.2.1) (.int .i64 t.2.2)
def sightsBar (f t : Int × R2) : Int :=
 if slopeBar f.2.1 f.2.2 ≠ 0 then slopeBar f.2.1 f.2.2
 else if slopeBar t.2.1 t.2.2 ≠ 0 then slopeBar t.2.1 t.2.2
 else if ¬ (0 ≤ f.1 ∧ f.1 ≤ 12) ∨ ¬ (0 ≤ t.1 ∧ t.1 ≤ 12) then 1
 else if t.1 ≤ f.1 then 7 else 0
set_option maxRecDepth 100000 in
set_option maxHeartbeats 4000000 in
theorem s62 (L : Lg Tryz.prog main) (H : Facts) {f t : Int × R2} {e r a b s : Value} : Pure L 62 #[.agg (List.toArray (lookC e r a b s (.int .i64 f.1) (.int .i64 f.2.1) (.int .i64 f.2.2) (.int .i64 t.1) (.int .i64 t.2.1) (.int .i64 t.2.2)))] H (.int .i64 (sightsBar f t)) := by
 refine Spec.enter Tryz.func62 rfl (by simp [Tryz.f62]) fun c cs hc => ?_;refine At.seq (At.region ?_);refine An Z Z Z Z Z Z Z fun r1 => ?_;refine Aa Z Z Z Z Z O ?_;refine Ab (At.seq (At.seq (At.region ?_)));refine Ah 5 Z Z Z Z Z Z Z ?_;refine Ah 6 Z Z Z Z Z Z Z ?_;refine Af 0 Z Z Z Z Z Z Z Z Z ?_;refine Ae Z Z Z Z (q_build Z Z Z) ?_;refine Aa Z Z Z Z Z O ?_
 refine Ah 8 Z Z Z Z Z Z Z ?_;refine Ah 9 Z Z Z Z Z Z Z ?_;refine Af 0 Z Z Z Z Z Z Z Z Z ?_;refine Ae Z Z Z Z (q_build Z Z Z) ?_;refine Aa Z Z Z Z Z O ?_
 (refine At.l Z Z Z Z (l_buildSlice Z Z Z Z Z) ?_;rintro _ _ ⟨r14,rfl,rfl⟩)
 refine Ai Z Z Z Z Z Z Z Z (s108 L _ (fs := [_,_]) rfl (rd_own 0 Z Z) (bars_two0 L f.2.1 f.2.2 t.2.1 t.2.2 _) (by simp)) ?_
 rw [firstBar2]
 refine Aa Z Z Z Z Z O ?_;refine Ab (At.seq (At.region ?_));refine Aa Z Z Z Z Z O ?_;refine Ad Z Z Z Z Z fun b17 h17 => ?_;refine Ab ?_
 by_cases e1 : slopeBar f.2.1 f.2.2 = 0
 ·by_cases e2 : slopeBar t.2.1 t.2.2 = 0
  ·have e : b17 = false := by rw [← h17];simp [e1,e2]
   subst e
   refine At.cond Z ?_;refine At.skip (At.seq ?_);refine At.block ?_;refine At.seq (At.seq (At.region ?_));(iterate 2 refine Ah 5 Z Z Z Z Z Z Z ?_);refine Af 1 Z Z Z Z Z Z Z Z Z ?_;refine Bc Z Z Z Z Z Z Z Z (s115 L _) fun b23 h23 => ?_;(iterate 2 refine Aa Z Z Z Z Z O ?_);refine Ab ?_
   cases b23
   ·refine At.cond Z ?_
    refine At.skip ?_;refine At.cond Z ?_;refine At.seq (At.region ?_);refine Aa Z Z Z Z Z O ?_;refine Ab ?_
    exact At.ret Tryz.func62 (.inr ⟨_,rfl⟩) rfl (.tmp rfl .nil) (wk (hc _ _ (⟨by simp_all [resVal,sightsBar];try omega,rfl⟩)))
   ·refine At.cond Z ?_
    refine At.region ?_;(iterate 2 refine Ah 8 Z Z Z Z Z Z Z ?_);refine Af 1 Z Z Z Z Z Z Z Z Z ?_;refine Bc Z Z Z Z Z Z Z Z (s115 L _) fun b28 h28 => ?_;(iterate 2 refine Aa Z Z Z Z Z O ?_);refine Ab ?_
    cases b28
    ·refine At.cond Z ?_
     refine At.seq (At.region ?_);refine Aa Z Z Z Z Z O ?_;refine Ab ?_
     exact At.ret Tryz.func62 (.inr ⟨_,rfl⟩) rfl (.tmp rfl .nil) (wk (hc _ _ (⟨by simp_all [resVal,sightsBar];try omega,rfl⟩)))
    ·refine At.cond Z ?_
     refine At.seq (At.region ?_);(iterate 2 refine Ah 8 Z Z Z Z Z Z Z ?_);refine Af 1 Z Z Z Z Z Z Z Z Z ?_;(iterate 2 refine Ah 5 Z Z Z Z Z Z Z ?_);refine Af 1 Z Z Z Z Z Z Z Z Z ?_;refine Ad Z Z Z Z Z fun b37 h37 => ?_;refine Aa Z Z Z Z Z O ?_;refine Ab ?_
     cases b37
     ·refine At.cond Z ?_
      refine At.skip ?_;refine At.inBlock ?_;refine At.seq (At.region ?_);refine Aa Z Z Z Z Z O ?_;refine Ab ?_
      exact At.ret Tryz.func62 (.inr ⟨_,rfl⟩) rfl (.tmp rfl .nil) (wk (hc _ _ (⟨by simp_all [resVal,sightsBar];try omega,rfl⟩)))
     ·refine At.cond Z ?_
      refine At.seq (At.region ?_);refine Aa Z Z Z Z Z O ?_;refine Ab ?_
      exact At.ret Tryz.func62 (.inr ⟨_,rfl⟩) rfl (.tmp rfl .nil) (wk (hc _ _ (⟨by simp_all [resVal,sightsBar];try omega,rfl⟩)))
  ·have e : b17 = true := by rw [← h17];simp [e1,e2]
   subst e
   refine At.cond Z ?_;refine At.seq (At.region ?_);(iterate 2 refine Aa Z Z Z Z Z O ?_);refine Ab ?_
   exact At.ret Tryz.func62 (.inr ⟨_,rfl⟩) rfl (.tmp rfl .nil) (wk (hc _ _ (⟨by simp_all [resVal,sightsBar],rfl⟩)))
 ·have e : b17 = true := by rw [← h17];simp [e1]
  subst e
  refine At.cond Z ?_;refine At.seq (At.region ?_);(iterate 2 refine Aa Z Z Z Z Z O ?_);refine Ab ?_
  exact At.ret Tryz.func62 (.inr ⟨_,rfl⟩) rfl (.tmp rfl .nil) (wk (hc _ _ (⟨by simp_all [resVal,sightsBar],rfl⟩)))
end Go.Gx
end
section
namespace Go.Gx
open Go Go.Conc Go.Proofs
variable {main : Bool}
def sqV (B : Bk) (eye : Int) (s : R2) : Value :=
 match meetM B.prof eye s with
 | none => .tuple #[.int .i64 0,rV (0,0),.bool false,.int .i64 0]
 | some x => .tuple #[.int .i64 (squareM B x.2).1,rV (squareM B x.2).2,.bool true,.int .i64 0]
theorem sqV_none {B : Bk} {eye : Int} {s : R2} (h : meetM B.prof eye s = none) : sqV B eye s = .tuple #[.int .i64 0,rV (0,0),.bool false,.int .i64 0] := by unfold sqV;rw [h]
theorem sqV_some {B : Bk} {eye : Int} {s : R2} {x : Spot} (h : meetM B.prof eye s = some x) : sqV B eye s = .tuple #[.int .i64 (squareM B x.2).1,rV (squareM B x.2).2,.bool true,.int .i64 0] := by unfold sqV;rw [h]
set_option maxRecDepth 100000 in
set_option maxHeartbeats 4000000 in
theorem s16 (L : Lg Tryz.prog main) (H : Facts) {B : Bk} {A : BkA} {eye : Int} {s : R2} (hO : Opn H B A) :
  Pure L 16 #[bkV B A,.int .i64 eye,rV s] H (if lookBar B [hBar eye,slopeBar s.1 s.2] ≠ 0 then .tuple #[.int .i64 0,rV (0,0),.bool false,.int .i64 (lookBar B [hBar eye,slopeBar s.1 s.2])] else sqV B eye s) := by
 refine Spec.enter Tryz.func16 rfl (by simp [Tryz.f16]) fun c cs hc => ?_
 by_cases hz : bookBar B = 0
 ·rw [lookBar1 hz] at hc
  generalize hr : firstBar [hBar eye,slopeBar s.1 s.2] = r at hc
  refine At.seq (At.region ?_);refine An Z Z Z Z Z Z Z fun r3 => ?_;refine An Z Z Z Z Z Z Z fun r5 => ?_;refine Aa Z Z Z Z Z O ?_;refine Al Z Z Z Z Z fun r7 => ?_;(iterate 2 refine Aa Z Z Z Z Z O ?_);refine Ab (At.seq (At.region ?_));refine Aa Z Z Z Z Z O ?_;refine Af 1 Z Z Z Z Z Z Z Z Z ?_;refine Ae Z Z Z Z (q_build Z Z Z) ?_
  refine Al Z Z Z Z Z fun r10 => ?_;refine Ag 0 Z Z Z Z Z Z Z Z Z Z Z Z ?_;refine Ab (At.seq (At.region ?_));refine Af 3 Z Z Z Z Z Z Z Z Z ?_;refine Af 0 Z Z Z Z Z Z Z Z Z ?_;refine Aa Z Z Z Z Z O ?_;refine Af 0 Z Z Z Z Z Z Z Z Z ?_;refine Aa Z Z Z Z Z O ?_
  (refine At.l Z Z Z Z (l_buildSlice Z Z Z Z Z) ?_;rintro _ _ ⟨r22,rfl,rfl⟩)
  refine Ai Z Z Z Z Z Z Z Z (s53z L _ (fs := [_,_]) hO.a hz rfl (rd_own 0 Z Z) (bars_look L eye s _) (by simp)) ?_
  rw [hr]
  (iterate 3 refine Aa Z Z Z Z Z O ?_);refine Al Z Z Z Z Z fun r11 => ?_;refine Ag 0 Z Z Z Z Z Z Z Z Z Z Z Z ?_;refine Aa Z Z Z Z Z O ?_;refine Ab (At.seq (At.seq (At.region ?_)));refine Aa Z Z Z Z Z O ?_;refine Ad Z Z Z Z Z fun b27 h27 => ?_;refine Ab ?_
  cases b27
  ·have e : r = 0 := by simpa using h27
   subst e
   rw [firstBar2] at hr
   have he : hBar eye = 0 := by
    by_cases he : hBar eye = 0
    ·exact he
    ·rw [if_pos he] at hr;exact hr
   rw [he,if_neg (by simp)] at hr
   have hs' := slOk_of s hr
   have he' := eyeOk_of he
   have hB := hO.r
   have hp := profOk_of hz
   have h1 := opn_of hz
   simp only [ne_eq,not_true_eq_false,if_false] at hc
   refine At.cond Z ?_;refine At.skip (At.seq (At.region ?_));refine Af 0 Z Z Z Z Z Z Z Z Z ?_;refine Aa Z Z Z Z Z O ?_;refine Af 4 Z Z Z Z Z Z Z Z Z ?_;refine Ai Z Z Z Z Z Z Z Z (s56 L _ bs bs bs bs bs) ?_;(iterate 3 refine Aa Z Z Z Z Z O ?_);refine Al Z Z Z Z Z fun r12 => ?_;refine Ag 0 Z Z Z Z Z Z Z Z Z Z Z Z ?_
   refine Aa Z Z Z Z Z O ?_;refine Ab (At.seq (At.seq (At.region ?_)));(iterate 2 refine Aa Z Z Z Z Z O ?_);refine Ab ?_
   cases hm : meetM B.prof eye s with
   | none =>
    rw [sqV_none hm] at hc
    refine At.cond Z ?_;refine At.seq (At.region ?_);refine Ae Z Z Z Z (q_build Z Z Z) ?_;refine Aa Z Z Z Z Z O ?_;refine Ag 4 Z Z Z Z Z Z Z Z Z Z Z Z ?_;(iterate 2 refine Aa Z Z Z Z Z O ?_);refine Ab ?_
    exact At.ret Tryz.func16 (.inr ⟨_,rfl⟩) rfl (.tmp rfl (.aggJ 4 Z Z Z (.tmp rfl (.tmp rfl .nil)))) (wk (hc _ _ (⟨by rfl,rfl⟩)))
   | some x =>
    rw [sqV_some hm] at hc
    have hx := highOk_of (meetM_ok hp.2 he' hs' hm)
    refine At.cond Z ?_;refine At.skip (At.seq (At.region ?_));refine Af 1 Z Z Z Z Z Z Z Z Z ?_;refine Ah 2 Z Z Z Z Z Z Z ?_;refine Af 0 Z Z Z Z Z Z Z Z Z ?_;refine Ai Z Z Z Z Z Z Z Z (s57 L _ bs bs bs) ?_;(iterate 4 refine Aa Z Z Z Z Z O ?_);refine Ag 4 Z Z Z Z Z Z Z Z Z Z Z Z ?_;refine Ab (At.seq ?_);refine Aw hmix [4] rfl ?_
    refine Ac 0 Z Z Z Z Z Z Z O ?_;refine Ac 2 Z Z Z Z Z Z Z O ?_;refine Pool.ldl 4 1 Z Z Z Z Z Z Z Z Z Z Z Z Z Z Z sb ?_;refine Ba 4 3 Z Z Z Z Z Z Z Z Z Z Z Z Z Z Z Z Z Z sb ?_;refine Ac 4 Z Z Z Z Z Z Z O ?_;refine Ac 5 Z Z Z Z Z Z Z O ?_;refine pool_done Z Z ?_;refine Ab ?_
    exact At.ret Tryz.func16 (.inr ⟨_,rfl⟩) rfl (.tmp rfl (.aggJ 4 Z Z Z (.tmp rfl (.tmp rfl .nil)))) (wk (hc _ _ (⟨by rfl,rfl⟩)))
  ·have e : r ≠ 0 := by simpa using h27
   simp only [if_pos e] at hc
   refine At.cond Z ?_;refine At.seq (At.region ?_);refine Ae Z Z Z Z (q_build Z Z Z) ?_;(iterate 2 refine Aa Z Z Z Z Z O ?_);refine Ag 3 Z Z Z Z Z Z Z Z Z Z Z Z ?_;(iterate 2 refine Aa Z Z Z Z Z O ?_);refine Ab ?_
   exact At.ret Tryz.func16 (.inr ⟨_,rfl⟩) rfl (.tmp rfl (.aggJ 3 Z Z Z (.tmp rfl (.tmp rfl .nil)))) (wk (hc _ _ (⟨by rfl,rfl⟩)))
 ·rw [lookBarN hz] at hc
  simp only [if_pos hz] at hc
  refine At.seq (At.region ?_);refine An Z Z Z Z Z Z Z fun r3 => ?_;refine An Z Z Z Z Z Z Z fun r5 => ?_;refine Aa Z Z Z Z Z O ?_;refine Al Z Z Z Z Z fun r7 => ?_;(iterate 2 refine Aa Z Z Z Z Z O ?_);refine Ab (At.seq (At.region ?_));refine Aa Z Z Z Z Z O ?_;refine Af 1 Z Z Z Z Z Z Z Z Z ?_;refine Ae Z Z Z Z (q_build Z Z Z) ?_
  refine Al Z Z Z Z Z fun r10 => ?_;refine Ag 0 Z Z Z Z Z Z Z Z Z Z Z Z ?_;refine Ab (At.seq (At.region ?_));refine Af 3 Z Z Z Z Z Z Z Z Z ?_;refine Af 0 Z Z Z Z Z Z Z Z Z ?_;refine Aa Z Z Z Z Z O ?_;refine Af 0 Z Z Z Z Z Z Z Z Z ?_;refine Aa Z Z Z Z Z O ?_
  (refine At.l Z Z Z Z (l_buildSlice Z Z Z Z Z) ?_;rintro _ _ ⟨r22,rfl,rfl⟩)
  refine Ai Z Z Z Z Z Z Z Z (s53n L _ hO.a hz) ?_;(iterate 3 refine Aa Z Z Z Z Z O ?_);refine Al Z Z Z Z Z fun r11 => ?_;refine Ag 0 Z Z Z Z Z Z Z Z Z Z Z Z ?_;refine Aa Z Z Z Z Z O ?_;refine Ab (At.seq (At.seq (At.region ?_)));refine Aa Z Z Z Z Z O ?_;refine Ad Z Z Z Z Z fun b27 h27 => ?_;refine Ab ?_
  have e : b27 = true := by rw [← h27];simpa using hz
  subst e
  refine At.cond Z ?_;refine At.seq (At.region ?_);refine Ae Z Z Z Z (q_build Z Z Z) ?_;(iterate 2 refine Aa Z Z Z Z Z O ?_);refine Ag 3 Z Z Z Z Z Z Z Z Z Z Z Z ?_;(iterate 2 refine Aa Z Z Z Z Z O ?_);refine Ab ?_
  exact At.ret Tryz.func16 (.inr ⟨_,rfl⟩) rfl (.tmp rfl (.aggJ 3 Z Z Z (.tmp rfl (.tmp rfl .nil)))) (wk (hc _ _ (⟨by rfl,rfl⟩)))
def lookE (eye : Int) : List Value := lookC (.int .i64 eye) z0 z0 z0 zl z0 z0 z0 z0 z0 z0
set_option maxRecDepth 100000 in
theorem bars_lookE (L : Lg Tryz.prog main) (eye : Int) (H : Facts) : Bars L H [eyedF (lookE eye)] [hBar eye] :=
 .cons (fun H' _ => spec_eyed L H') .nil
theorem firstBar1 {a : Int} : firstBar [a] = a := by
 unfold firstBar firstBar
 by_cases e : a = 0 <;> simp [e]
def toPt (B : Bk) (eye : Int) (p : R2) : Spot := (meetM B.prof eye (low (p.2 - eye) p.1)).getD ((0,0),(0,0))
def hidAt (B : Bk) (eye : Int) (p : R2) : Bool := !(decide (toPt B eye p = ((p.1,1),(p.2,1))) || !lessW (toPt B eye p).1 (p.1,1))
def hiddenTo (B : Bk) (eye : Int) : Nat → List Int
 | 0 => []
 | n + 1 => hiddenTo B eye n ++ (if hidAt B eye (B.prof.getD n (0,0)) then [(n : Int)] else [])
theorem hiddenTo_len (B : Bk) (eye : Int) : ∀ n,(hiddenTo B eye n).length ≤ n
 | 0 => Nat.le_refl _
 | n + 1 => by
  have := hiddenTo_len B eye n
  unfold hiddenTo
  rw [List.length_append]
  split <;> simp <;> omega
theorem low_pt {p : R2} {eye : Int} (hp : PtOk p) (he : EyeOk eye) : SlOk (low (p.2 - eye) p.1) := by
 unfold PtOk at hp
 unfold EyeOk at he
 have h0 : p.1 ≠ 0 := by omega
 have d := lowD_le (n := p.2 - eye) (d := p.1)
 have q := lowD_pos (n := p.2 - eye) h0
 have nn := lowN_le (n := p.2 - eye) (d := p.1)
 unfold SlOk low
 dsimp only
 omega
end Go.Gx
end
section
namespace Go.Gx
open Go Go.Conc Go.Proofs
variable {main : Bool}
set_option maxRecDepth 100000 in
set_option maxHeartbeats 1000000 in
theorem s17 (L : Lg Tryz.prog main) (H : Facts) {B : Bk} {A : BkA} {eye : Int} (hO : Opn H B A) :
  Grows L 17 #[bkV B A,.int .i64 eye] H (fun v sf => ∃ a cap,v = .tuple #[.slice a (if lookBar B [hBar eye] ≠ 0 then [] else hiddenTo B eye B.prof.length).length cap,.int .i64 (lookBar B [hBar eye])] ∧
   Sl c1 3 (.slice a (if lookBar B [hBar eye] ≠ 0 then [] else hiddenTo B eye B.prof.length).length cap) (if lookBar B [hBar eye] ≠ 0 then [] else hiddenTo B eye B.prof.length) sf) := by
 refine Spec.enter Tryz.func17 rfl (by simp [Tryz.f17]) fun c cs hc => ?_
 by_cases hz : bookBar B = 0
 ·rw [lookBar1 hz,firstBar1] at hc
  refine At.seq (At.region ?_);refine An Z Z Z Z Z Z Z fun r2 => ?_;(iterate 2 refine Aa Z Z Z Z Z O ?_);refine Ab ?_;refine At.scope ?_;refine At.seq (At.region ?_);refine Af 0 Z Z Z Z Z Z Z Z Z ?_;refine Aa Z Z Z Z Z O ?_;refine Ae Z Z Z Z (q_build Z Z Z) ?_;refine Aa Z Z Z Z Z O ?_
  (refine At.l Z Z Z Z (l_buildSlice Z Z Z Z Z) ?_;rintro _ _ ⟨r19,rfl,rfl⟩)
  refine Ai Z Z Z Z Z Z Z Z (s53z L _ (fs := [_]) hO.a hz rfl (rd_own 0 Z Z) (bars_lookE L eye _) (by simp)) ?_
  rw [firstBar1]
  (iterate 3 refine Aa Z Z Z Z Z O ?_);refine Al Z Z Z Z Z fun r6 => ?_;refine Ag 0 Z Z Z Z Z Z Z Z Z Z Z Z ?_;refine Aa Z Z Z Z Z O ?_;refine Ab (At.seq (At.seq (At.region ?_)));refine Aa Z Z Z Z Z O ?_;refine Ad Z Z Z Z Z fun b24 h24 => ?_;refine Ab ?_
  by_cases he : hBar eye = 0
  ·have e : b24 = false := by rw [← h24];simp [he]
   subst e
   have he' := eyeOk_of he
   rw [he] at hc ⊢
   have hB := hO.r
   have hp := profOk_of hz
   have h1 := opn_of hz
   simp only [ne_eq,not_true_eq_false,if_false] at hc
   refine At.cond Z ?_;refine At.skip (At.seq (At.region ?_));refine Aa Z Z Z Z Z O ?_;refine Ab (At.seq ?_);refine At.label ?_;refine At.seq (At.seq (At.region ?_));refine Ah 0 Z Z Z Z Z Z Z ?_;refine Af 2 Z Z Z Z Z Z Z Z Z ?_;refine Ao Z Z Z Z Z Z Z Z ?_;refine Aa Z Z Z Z Z O ?_;refine Ab ?_;refine At.block ?_
   refine Az (X := { x : Nat × Value × Facts // x.1 ≤ B.prof.length ∧ Sl c1 3 x.2.1 (hiddenTo B eye x.1) x.2.2 }) [1,2,4,5,6,7,14,15,16,17,18,19,20,21,22,23,24,26,27,28] (fun x => [(29,.int .i64 (x.1.1 : Int)),(8,x.1.2.1)]) (fun x => .own r6 (.cells (List.toArray (bkC B A)) 117 (0,0)) :: .own r2 (.cells (List.toArray (bkC B A)) 27 (0,0)) :: (x.1.2.2 ++ H)) (fun x => B.prof.length - x.1.1) (⟨(0,.slice none 0 0,[]),by simp,Sl.nil⟩) rfl ?_ (by repeat (first | exact trivial | refine ⟨rfl,?_⟩)) sb
   rintro ⟨⟨j,v,sf⟩,hj,hsl⟩ again
   simp only at again hj hsl ⊢
   have hlen := hiddenTo_len B eye j
   refine At.seq (At.region ?_);refine Ad Z Z Z Z Z fun b30 h30 => ?_;refine Ab (At.seq ?_)
   cases b30
   ·have e : j = B.prof.length := by simp at h30;omega
    subst e
    obtain ⟨a,cap,rfl⟩ := hsl.slice
    refine At.cond Z ?_;refine At.exit rfl ?_;refine At.seq (At.region ?_);(iterate 3 refine Aa Z Z Z Z Z O ?_);refine Ab ?_
    exact At.ret Tryz.func17 (.inr ⟨_,rfl⟩) rfl (.tmp rfl (.tmp rfl .nil)) (wk (hc _ _ (⟨sf,⟨a,cap,rfl,hsl⟩,rfl⟩)))
   ·have hlt : j < B.prof.length := by simp at h30;omega
    obtain ⟨b,off,e,hcj⟩ := hB.p.el (List.getElem?_eq_getElem hlt)
    have hpj := hp.2 _ (List.getElem_mem hlt)
    have hsl' := low_pt hpj he'
    have hl20 := hp.1
    have hgd : B.prof.getD j (0,0) = B.prof[j] := by rw [List.getD_eq_getElem?_getD,List.getElem?_eq_getElem hlt];rfl
    have hsucc : hiddenTo B eye (j + 1) = hiddenTo B eye j ++ (if hidAt B eye B.prof[j] then [(j : Int)] else []) := by rw [← hgd];rfl
    have g1 : B.prof[j].1 ≠ 0 := by unfold PtOk at hpj;omega
    have g2 : Mid (B.prof[j].2 - eye) := by unfold PtOk at hpj;unfold EyeOk at he';omega
    have g3 : Mid B.prof[j].1 := by unfold PtOk at hpj;omega
    have g4 : InI (B.prof[j].2 - eye) := by unfold PtOk at hpj;unfold EyeOk at he';omega
    have stop56 := trivial
    refine At.cond Z ?_;refine At.skip (At.seq ?_);refine At.block ?_;refine At.seq (At.region ?_);refine Aa Z Z Z Z Z O ?_;refine Ae Z Z Z Z (q_iaQ (k := (j)) Z Z Z (by assumption) rfl (by assumption)) ?_;refine Au Z Z Z Z Z Z hcj.a Z Z ?_;refine Al Z Z Z Z Z fun r10 => ?_;refine Aa Z Z Z Z Z O ?_;refine Ag 0 Z Z Z Z Z Z Z Z Z Z Z Z ?_;refine Ab (At.seq (At.region ?_))
    refine Ah 1 Z Z Z Z Z Z Z ?_;refine Af 0 Z Z Z Z Z Z Z Z Z ?_;refine Aa Z Z Z Z Z O ?_;refine Aa Z Z Z Z Z (by assumption) ?_;refine Ah 0 Z Z Z Z Z Z Z ?_;refine Af 0 Z Z Z Z Z Z Z Z Z ?_;refine Ai Z Z Z Z Z Z Z Z (s58 L _ bs bs bs) ?_;refine Al Z Z Z Z Z fun r11 => ?_;refine Ag 0 Z Z Z Z Z Z Z Z Z Z Z Z ?_
    refine Ab (At.seq (At.seq (At.region ?_)));refine Af 2 Z Z Z Z Z Z Z Z Z ?_;refine Aa Z Z Z Z Z O ?_;refine Af 0 Z Z Z Z Z Z Z Z Z ?_
    clear stop56
    refine Ai Z Z Z Z Z Z Z Z (s56 L _ (s := low (B.prof[j].2 - eye) B.prof[j].1) bs bs bs bs bs) ?_
    have htp : toPt B eye B.prof[j] = (meetM B.prof eye (low (B.prof[j].2 - eye) B.prof[j].1)).getD ((0,0),(0,0)) := rfl
    rw [← htp]
    (iterate 3 refine Aa Z Z Z Z Z O ?_);refine Al Z Z Z Z Z fun r12 => ?_;refine Ag 0 Z Z Z Z Z Z Z Z Z Z Z Z ?_;refine Aa Z Z Z Z Z O ?_;refine Ab (At.seq ?_);refine Aw hmix [] rfl ?_;refine Aj 0 0 Z Z Z Z Z Z Z Z Z Z Z ?_;refine Aj 2 1 Z Z Z Z Z Z Z Z Z Z Z ?_;refine Ap 2 Z Z Z Z Z Z Z Z Z (fun H hs => s59 L H) ?_
    refine Pool.qb 3 Z Z Z Z Z (q_eqS Z Z Z Z Z Z Z Z) rfl fun b51 h51 => ?_;refine Ac 4 Z Z Z Z Z Z Z O ?_
    have he51 : b51 = decide (toPt B eye B.prof[j] = ((B.prof[j].1,1),(B.prof[j].2,1))) := by
     rw [← h51]
     refine decide_eq_decide.2 ⟨fun h => ?_,fun h => ?_⟩
     ·simp only [List.cons.injEq,and_true] at h
      exact Prod.ext (Prod.ext h.1 h.2.1) (Prod.ext h.2.2.1 h.2.2.2)
     ·rw [h]
    cases b51
    ·refine Am 0 5 Z Z Z Z Z Z Z Z Z ?_
     refine Aj 0 6 Z Z Z Z Z Z Z Z Z Z Z ?_;refine Am 0 7 Z Z Z Z Z Z Z Z Z ?_;refine Aj 2 8 Z Z Z Z Z Z Z Z Z Z Z ?_;refine Ap 9 Z Z Z Z Z Z Z Z Z (fun H hs => s61 L H) ?_;refine Pool.cqb 10 Z Z Z Z Z Z Z Z Z (fun H hs => s60 L H) fun b58 h58 => ?_;refine Ac 11 Z Z Z Z Z Z Z O ?_;refine Ac 12 Z Z Z Z Z Z Z O ?_
     refine pool_done Z Z ?_;refine Ab ?_
     have hh : hidAt B eye B.prof[j] = b58 := by
      unfold hidAt
      rw [← he51,← h58]
      simp
     rw [hh] at hsucc
     cases b58
     ·rw [if_neg (by simp),List.append_nil] at hsucc
      refine At.cond Z ?_;refine At.exit rfl ?_;refine At.region ?_;refine Aa Z Z Z Z Z (by omega) ?_;refine Aa Z Z Z Z Z O ?_;refine Ab ?_
      refine Aq ((again ⟨(j + 1,v,sf),hlt,by rw [hsucc];exact hsl⟩ (by simp;omega)))
     ·rw [if_pos rfl] at hsucc
      refine At.cond Z ?_;refine At.skip (At.region ?_);(iterate 2 refine Aa Z Z Z Z Z O ?_)
      (refine At.l Z Z Z Z (l_buildSlice Z Z Z Z Z) ?_;rintro _ _ ⟨r63,rfl,rfl⟩)
      refine At.push (x := (j : Int)) 0 6 Z Z Z Z Z Z Z Z Z Z Z Z Z Z hsl Z Z Z ?_ fun v sf hs => ?_
      ·omega
      ·rw [← hsucc] at hs
       refine Aa Z Z Z Z Z O ?_;refine Ab ?_;refine At.inBlock ?_;refine At.region ?_;refine Aa Z Z Z Z Z (by omega) ?_;refine Aa Z Z Z Z Z O ?_;refine Ab ?_
       refine Aq ((again ⟨(j + 1,v,sf),hlt,hs⟩ (by simp;omega)))
    ·have hh : hidAt B eye B.prof[j] = false := by
      unfold hidAt
      rw [← he51]
      rfl
     rw [hh,if_neg (by simp),List.append_nil] at hsucc
     refine Av 5 Z Z Z Z Z Z ?_;refine Av 6 Z Z Z Z Z Z ?_;refine Av 7 Z Z Z Z Z Z ?_;refine Av 8 Z Z Z Z Z Z ?_;refine Av 9 Z Z Z Z Z Z ?_;refine Av 10 Z Z Z Z Z Z ?_;refine Av 11 Z Z Z Z Z Z ?_;refine Ac 12 Z Z Z Z Z Z Z O ?_;refine pool_done Z Z ?_;refine Ab ?_;refine At.cond Z ?_;refine At.exit rfl ?_;refine At.region ?_
     refine Aa Z Z Z Z Z (by omega) ?_;refine Aa Z Z Z Z Z O ?_;refine Ab ?_
     refine Aq ((again ⟨(j + 1,v,sf),hlt,by rw [hsucc];exact hsl⟩ (by simp;omega)))
  ·have e : b24 = true := by rw [← h24];simpa using he
   subst e
   simp only [if_pos he] at hc
   refine At.cond Z ?_;refine At.seq (At.region ?_);(iterate 3 refine Aa Z Z Z Z Z O ?_);refine Ab ?_
   exact At.ret Tryz.func17 (.inr ⟨_,rfl⟩) rfl (.tmp rfl (.tmp rfl .nil)) (wk (hc _ _ (⟨[],⟨none,0,rfl,Sl.nil⟩,rfl⟩)))
 ·rw [lookBarN hz] at hc
  simp only [if_pos hz] at hc
  refine At.seq (At.region ?_);refine An Z Z Z Z Z Z Z fun r2 => ?_;(iterate 2 refine Aa Z Z Z Z Z O ?_);refine Ab ?_;refine At.scope ?_;refine At.seq (At.region ?_);refine Af 0 Z Z Z Z Z Z Z Z Z ?_;refine Aa Z Z Z Z Z O ?_;refine Ae Z Z Z Z (q_build Z Z Z) ?_;refine Aa Z Z Z Z Z O ?_
  (refine At.l Z Z Z Z (l_buildSlice Z Z Z Z Z) ?_;rintro _ _ ⟨r19,rfl,rfl⟩)
  refine Ai Z Z Z Z Z Z Z Z (s53n L _ hO.a hz) ?_;(iterate 3 refine Aa Z Z Z Z Z O ?_);refine Al Z Z Z Z Z fun r6 => ?_;refine Ag 0 Z Z Z Z Z Z Z Z Z Z Z Z ?_;refine Aa Z Z Z Z Z O ?_;refine Ab (At.seq (At.seq (At.region ?_)));refine Aa Z Z Z Z Z O ?_;refine Ad Z Z Z Z Z fun b24 h24 => ?_;refine Ab ?_
  have e : b24 = true := by rw [← h24];simpa using hz
  subst e
  refine At.cond Z ?_;refine At.seq (At.region ?_);(iterate 3 refine Aa Z Z Z Z Z O ?_);refine Ab ?_
  exact At.ret Tryz.func17 (.inr ⟨_,rfl⟩) rfl (.tmp rfl (.tmp rfl .nil)) (wk (hc _ _ (⟨[],⟨none,0,rfl,Sl.nil⟩,rfl⟩)))
end Go.Gx
end
section
namespace Go.Gx
open Go Go.Conc Go.Proofs
variable {main : Bool}
def mV (m : R2 × Int) : Value := .agg (List.toArray (c3 m))
def idxR {α : Type} (p : α → Bool) : List α → Nat → Int
 | [],_ => -1
 | m :: ms,k => if p m then (k : Int) else idxR p ms (k + 1)
theorem idxR_any {α : Type} (p : α → Bool) : ∀ (ms : List α) (k : Nat),(0 ≤ idxR p ms k) ↔ ms.any p = true
 | [],k => by simp [idxR]
 | m :: ms,k => by
  unfold idxR
  cases h : p m
  ·simp only [Bool.false_eq_true,if_false,List.any_cons,h,Bool.false_or]
   exact idxR_any p ms (k + 1)
  ·simp [h]
set_option maxRecDepth 100000 in
set_option maxHeartbeats 4000000 in
theorem s171 (L : Lg Tryz.prog main) (H : Facts) {fv : Value} {a : Option Addr} {n cap : Nat} {ms : List (R2 × Int)} {p : R2 × Int → Bool} (hn : ms.length = n) (hr : Rd H a (ms.flatMap c3)) (hl : ms.length ≤ 100000)
  (hf : ∀ m ∈ ms,∀ H',Sub H H' → SpecV L fv #[mV m] H' (fun v H'' => v = .bool (p m) ∧ H'' = H')) : Pure L 171 #[.slice a n cap,fv] H (.int .i64 (idxR p ms 0)) := by
 subst hn
 refine Spec.enter Tryz.func171 rfl (by simp [Tryz.f171]) fun c cs hc => ?_;refine At.seq (At.region ?_);refine Aa Z Z Z Z Z O ?_;refine Ab (At.seq (At.seq (At.region ?_)));refine Aa Z Z Z Z Z O ?_;refine Ao Z Z Z Z Z Z Z Z ?_;refine Aa Z Z Z Z Z O ?_;refine Ab ?_;refine At.block ?_
 refine Az (X := { j : Nat // j ≤ ms.length ∧ idxR p (ms.drop j) j = idxR p ms 0 }) [0,1,7] (fun x => [(8,.int .i64 (x.1 : Int))]) (fun _ => H) (fun x => ms.length - x.1) (⟨0,Nat.zero_le _,rfl⟩) rfl ?_ (by repeat (first | exact trivial | refine ⟨rfl,?_⟩)) sb
 rintro ⟨j,hj,hd⟩ again
 simp only at again ⊢
 refine At.seq (At.region ?_);refine Ad Z Z Z Z Z fun b9 h9 => ?_;refine Ab (At.seq ?_)
 cases b9
 ·have e : j = ms.length := by simp at h9;omega
  subst e
  rw [List.drop_length] at hd
  refine At.cond Z ?_;refine At.exit rfl ?_;refine At.seq (At.region ?_);refine Aa Z Z Z Z Z O ?_;refine Ab ?_
  exact At.ret Tryz.func171 (.inr ⟨_,rfl⟩) rfl (.tmp rfl .nil) (wk (hc _ _ (⟨by rw [← hd];rfl,rfl⟩)))
 ·have hlt : j < ms.length := by simp at h9;omega
  obtain ⟨b,off,rfl,hc1⟩ := hr.el (List.getElem?_eq_getElem hlt)
  rw [List.drop_eq_getElem_cons hlt,idxR] at hd
  refine At.cond Z ?_;refine At.skip (At.seq ?_);refine At.block ?_;refine At.seq (At.region ?_);(iterate 2 refine Aa Z Z Z Z Z O ?_);refine Ab (At.seq (At.region ?_));(iterate 3 refine Aa Z Z Z Z Z O ?_);refine Ae Z Z Z Z (q_ia Z Z Z (by assumption)) ?_;refine Au Z Z Z Z Z Z hc1.a Z Z ?_;refine At.cv Z Z Z Z Z Z ((hf ms[j] (List.getElem_mem hlt) H (Sub.refl _))) ?_
  rintro _ _ ⟨rfl,rfl⟩
  cases hb : p ms[j]
  ·rw [hb,if_neg (by simp)] at hd
   refine Ab ?_;refine At.cond Z ?_;refine At.skip ?_;refine At.inBlock ?_;refine At.region ?_;refine Aa Z Z Z Z Z (by omega) ?_;refine Aa Z Z Z Z Z O ?_;refine Ab ?_
   refine Aq ((again ⟨j + 1,hlt,hd⟩ (by simp;omega)))
  ·rw [hb,if_pos rfl] at hd
   refine Ab ?_;refine At.cond Z ?_;refine At.seq (At.region ?_);(iterate 2 refine Aa Z Z Z Z Z O ?_);refine Ab ?_
   exact At.ret Tryz.func171 (.inr ⟨_,rfl⟩) rfl (.tmp rfl .nil) (wk (hc _ _ (⟨by rw [← hd];rfl,rfl⟩)))
theorem s137 (L : Lg Tryz.prog main) (H : Facts) {fv : Value} {a : Option Addr} {n cap : Nat} {ms : List (R2 × Int)} {p : R2 × Int → Bool} (hn : ms.length = n) (hr : Rd H a (ms.flatMap c3)) (hl : ms.length ≤ 100000)
  (hf : ∀ m ∈ ms,∀ H',Sub H H' → SpecV L fv #[mV m] H' (fun v H'' => v = .bool (p m) ∧ H'' = H')) : Pure L 137 #[.slice a n cap,fv] H (.bool (ms.any p)) := by
 refine Spec.enter Tryz.func137 rfl (by simp [Tryz.f137]) fun c cs hc => ?_
 have stop171 := trivial
 refine At.seq (At.region ?_);refine Aa Z Z Z Z Z O ?_;refine Ab (At.seq (At.region ?_));(iterate 2 refine Aa Z Z Z Z Z O ?_)
 clear stop171
 refine Ai Z Z Z Z Z Z Z Z (s171 L _ hn hr hl hf) ?_;refine Ad Z Z Z Z Z fun b8 h8 => ?_;refine Aa Z Z Z Z Z O ?_;refine Ab ?_
 have e : b8 = ms.any p := by
  rw [← h8]
  rw [Bool.eq_iff_iff,decide_eq_true_eq]
  exact idxR_any p ms 0
 exact At.ret Tryz.func137 (.inr ⟨_,rfl⟩) rfl (.tmp rfl .nil) (wk (hc _ _ (⟨by rw [e];rfl,rfl⟩)))
set_option maxRecDepth 100000 in
set_option maxHeartbeats 4000000 in
theorem s138 (L : Lg Tryz.prog main) (H : Facts) {B : Bk} {A : BkA} {eye : Int} {b1 b2 : Nat} {m : R2 × Int} (hB : BkR H B A) (hz : bookBar B = 0) (he : EyeOk eye) (hm : SlOk m.1) (k1 : Cells H b1 0 (bkC B A)) (k2 : Cells H b2 0 (c1 eye)) :
  SpecV L (.func (.func 138) #[] #[.pointer (some ⟨b1,0,none⟩),.pointer (some ⟨b2,0,none⟩)]) #[mV m] H (fun v H'' => v = .bool (!decide (rowM B eye m.1 = m.2)) ∧ H'' = H) := by
 refine SpecV.ofL (first := []) (args := [mV m]) (cap := [.pointer (some ⟨b1,0,none⟩),.pointer (some ⟨b2,0,none⟩)]) rfl ?_;refine Spec.enter Tryz.func138 rfl (by simp [Tryz.f138]) fun c cs hc => ?_;refine At.seq (At.region ?_);refine An Z Z Z Z Z Z Z fun r3 => ?_;refine Aa Z Z Z Z Z O ?_;refine Ab (At.seq ?_);refine Aw hmix [] rfl ?_;refine Ax 0 Z Z Z Z Z Z Z k1.a Z Z Z ?_
 refine Ax 1 Z Z Z Z Z Z Z k2.a Z Z Z ?_;refine Am 0 2 Z Z Z Z Z Z Z Z Z ?_;refine Aj 0 3 Z Z Z Z Z Z Z Z Z Z Z ?_;refine Ap 4 Z Z Z Z Z Z Z Z Z (fun H hs => s70 L H bs bs bs bs) ?_;refine Am 2 5 Z Z Z Z Z Z Z Z Z ?_;refine Aj 0 6 Z Z Z Z Z Z Z Z Z Z Z ?_;refine Bb 7 Z Z Z Z Z Z Z fun b12 h12 => ?_
 refine Ac 8 Z Z Z Z Z Z Z O ?_;refine pool_done Z Z ?_;refine Ab ?_
 exact At.ret Tryz.func138 (.inr ⟨_,rfl⟩) rfl (.tmp rfl .nil) (wk (hc _ _ (⟨by simp_all [resVal],rfl⟩)))
theorem cells_in {H : Facts} {b : Nat} {l : List Value} {T : TypeId} {fr : Nat × Nat} (h : Fact.own b (.cells (List.toArray l) T fr) ∈ H) : Cells H b 0 l := cells_own h (by simp)
def rightM (B : Bk) (eye : Int) : Bool := B.marks.all fun m => decide (rowM B eye m.1 = m.2)
theorem slOk_mark {B : Bk} (hz : bookBar B = 0) {m : R2 × Int} (hm : m ∈ B.marks) : SlOk m.1 := by
 have h := (bounds_of_bar hz).2.2.2.2.2.2.2.2.2.2 m hm
 unfold markBar at h
 by_cases e : slopeBar m.1.1 m.1.2 = 0
 ·exact slOk_of _ e
 ·rw [if_pos e] at h;exact absurd h e
set_option maxRecDepth 100000 in
set_option maxHeartbeats 4000000 in
theorem s118 (L : Lg Tryz.prog main) (H : Facts) {B : Bk} {A : BkA} {eye : Int} (hB : BkR H B A) (hz : bookBar B = 0) (he : EyeOk eye) : Pure L 118 #[bkV B A,.int .i64 eye] H (.bool (rightM B eye)) := by
 refine Spec.enter Tryz.func118 rfl (by simp [Tryz.f118]) fun c cs hc => ?_
 have hm := (bounds_of_bar hz).2.2.2.2.2.2.2.2.2.1
 have stop137 := trivial
 refine At.seq (At.region ?_);refine An Z Z Z Z Z Z Z fun r2 => ?_;refine An Z Z Z Z Z Z Z fun r3 => ?_;refine Aa Z Z Z Z Z O ?_;refine Ab (At.seq (At.region ?_));refine Ah 0 Z Z Z Z Z Z Z ?_;refine Ah 4 Z Z Z Z Z Z Z ?_;refine Af 1 Z Z Z Z Z Z Z Z Z ?_;refine Aa Z Z Z Z Z O ?_
 clear stop137
 refine Ai Z Z Z Z Z Z Z Z (s137 L _ (p := fun m => !decide (rowM B eye m.1 = m.2)) rfl hB.m.a (by omega) (fun m hm H' hs => s138 L H' hB.a hz he (slOk_mark hz hm) (cells_in (l := bkC B A) (T := 117) (fr := (0,0)) (hs.mem (List.mem_cons_of_mem _ (List.mem_cons_self ..)))) (cells_in (l := c1 eye) (T := 3) (fr := (0,0)) (hs.mem (List.mem_cons_self ..))))) ?_
 have e : (B.marks.any fun m => !decide (rowM B eye m.1 = m.2)) = !rightM B eye := by
  unfold rightM
  rw [List.any_eq_not_all_not]
  simp
 rw [e]
 (iterate 2 refine Aa Z Z Z Z Z O ?_);refine Ab ?_
 exact At.ret Tryz.func118 (.inr ⟨_,rfl⟩) rfl (.tmp rfl .nil) (wk (hc _ _ (⟨by simp [resVal],rfl⟩)))
end Go.Gx
end
section
namespace Go.Gx
open Go Go.Conc Go.Proofs
variable {main : Bool}
def bandL (lo hi : Int) : List Int := (List.range (hi - lo + 1).toNat).map fun (k : Nat) => lo + k
theorem bandL_len (lo hi : Int) : (bandL lo hi).length = (hi - lo + 1).toNat := by simp [bandL]
theorem bandL_get {lo hi : Int} {k : Nat} (h : k < (bandL lo hi).length) : (bandL lo hi)[k]? = some (lo + k) := by
 rw [bandL_len] at h
 simp [bandL,h]
def statesM (B : Bk) : List Int := (bandL B.lo B.hi).filter (rightM B)
set_option maxRecDepth 100000 in
set_option maxHeartbeats 4000000 in
theorem s136 (L : Lg Tryz.prog main) (H0 : Facts) {lo hi : Int} {b : Nat} (k1 : Cells H0 b 0 (c2 (lo,hi))) (hr : -1000 ≤ lo ∧ lo ≤ 1000 ∧ -1000 ≤ hi ∧ hi ≤ 1000) :
  SeqOk L (.func (.func 136) #[] #[.pointer (some ⟨b,0,none⟩)]) ((bandL lo hi).map iV) H0 := by
 intro ly I D hsub hsubD hh Hs hI0
 refine SpecV.ofL (first := []) (args := [.func (.yield ly) #[] #[]]) (cap := [.pointer (some ⟨b,0,none⟩)]) rfl (Spec.enter Tryz.func136 rfl (by simp [Tryz.f136]) fun c cs hc => ?_)
 have hs0 := hsub 0 Hs hI0
 have hlen := bandL_len lo hi
 refine At.seq (At.region ?_);refine Ah 0 Z Z Z Z Z Z Z ?_;refine Au Z Z Z Z Z Z (k1.s 0 1 rfl) Z Z ?_;refine Aa Z Z Z Z Z O ?_;refine Ab ?_;refine At.block ?_
 refine Az (X := { x : Nat × Int × Facts // x.2.1 = lo + (x.1 : Int) ∧ x.1 ≤ (bandL lo hi).length ∧ I x.1 x.2.2 }) [0,1] (fun x => [(3,.int .i64 x.1.2.1)]) (fun x => x.1.2.2) (fun x => (bandL lo hi).length - x.1.1) (⟨(0,lo,Hs),by simp,by simp,hI0⟩) rfl ?_ (by repeat (first | exact trivial | refine ⟨rfl,?_⟩)) sb
 rintro ⟨⟨k,n,Hk⟩,hn,hk,hI⟩ again
 simp only at again hn hk hI ⊢
 have hs1 := hsub k Hk hI
 refine At.seq (At.seq (At.region ?_));refine Aa Z Z Z Z Z O ?_;refine Ah 1 Z Z Z Z Z Z Z ?_;refine Au Z Z Z Z Z Z (k1.s 1 1 rfl) Z Z ?_;refine Ad Z Z Z Z Z fun b9 h9 => ?_;refine Ab ?_
 cases b9
 ·have hgt : ¬ n ≤ hi := by simpa using h9
  have e : k = (bandL lo hi).length := by omega
  subst e
  refine At.cond Z ?_;refine At.exit rfl ?_
  exact At.ret Tryz.func136 (.inl rfl) rfl .nil (wk (hc _ _ (⟨_,Sub.refl _,.inl (by rw [List.length_map];exact hI)⟩)))
 ·have hle : n ≤ hi := by simpa using h9
  have hlt : k < (bandL lo hi).length := by omega
  have hu : ((bandL lo hi).map iV)[k]? = some (.int .i64 n) := by
   rw [List.getElem?_map,bandL_get hlt,hn];rfl
  refine At.cond Z ?_;refine At.skip (At.seq ?_);refine At.block ?_;refine At.seq (At.region ?_);(iterate 2 refine Aa Z Z Z Z Z O ?_)
  refine At.yield 0 Z Z Z Z Z Z Z hh hu hI rfl (fun Hk hI => ?_) (fun Hk hD => ?_)
  ·refine Aa Z Z Z Z Z O ?_
   refine Ab ?_;refine At.cond Z ?_;refine At.skip ?_;refine At.inBlock ?_;refine At.region ?_;refine Aa Z Z Z Z Z O ?_;refine Aa Z Z Z Z Z (by omega) ?_;refine Aa Z Z Z Z Z O ?_;refine Ab ?_
   refine Aq ((again ⟨(k + 1,n + 1,Hk),by show n + 1 = lo + ((k + 1 : Nat) : Int);omega,hlt,hI⟩ (by simp;omega)))
  ·refine Aa Z Z Z Z Z O ?_
   refine Ab ?_;refine At.cond Z ?_
   exact At.ret Tryz.func136 (.inr ⟨_,rfl⟩) rfl .nil (wk (hc _ _ (⟨_,Sub.refl _,.inr ⟨k,by rw [List.length_map];exact hlt,hD⟩⟩)))
set_option maxRecDepth 100000 in
theorem s117 (L : Lg Tryz.prog main) (H : Facts) {lo hi : Int} (hr : -1000 ≤ lo ∧ lo ≤ 1000 ∧ -1000 ≤ hi ∧ hi ≤ 1000) :
  Grows L 117 #[.agg (List.toArray (c2 (lo,hi)))] H (fun v sf => SeqOk L v ((bandL lo hi).map iV) sf) := by
 refine Spec.enter Tryz.func117 rfl (by simp [Tryz.f117]) fun c cs hc => ?_;refine At.seq (At.region ?_);refine An Z Z Z Z Z Z Z fun r1 => ?_;refine Aa Z Z Z Z Z O ?_;refine Ab (At.seq (At.region ?_));(iterate 2 refine Aa Z Z Z Z Z O ?_);refine Ab ?_
 exact At.ret Tryz.func117 (.inr ⟨_,rfl⟩) rfl (.tmp rfl .nil) (wk (hc _ _ (⟨[.own r1 (.cells (List.toArray (c2 (lo,hi))) 24 (0,0))],s136 L _ (cells_in (l := c2 (lo,hi)) (T := 24) (fr := (0,0)) (List.mem_cons_self ..)) hr,rfl⟩)))
theorem filter_nth {α : Type} {p : α → Bool} {l : List α} {j : Nat} {x : α} (hx : l[j]? = some x) (hp : p x = true) : (l.filter p)[((l.take j).filter p).length]? = some x := by
 obtain ⟨hlt,e⟩ := List.getElem?_eq_some_iff.1 hx
 have hl : l = l.take j ++ (x :: l.drop (j + 1)) := by
  rw [← e,← List.drop_eq_getElem_cons hlt,List.take_append_drop]
 conv => lhs;rw [show l.filter p = (l.take j).filter p ++ (x :: l.drop (j + 1)).filter p from by rw [← List.filter_append,← hl]]
 rw [List.getElem?_append_right (Nat.le_refl _),Nat.sub_self,List.filter_cons_of_pos hp]
 rfl
theorem filter_take_succ {α : Type} {p : α → Bool} {l : List α} {j : Nat} {x : α} (hx : l[j]? = some x) : ((l.take (j + 1)).filter p).length = ((l.take j).filter p).length + (if p x then 1 else 0) := by
 obtain ⟨hlt,e⟩ := List.getElem?_eq_some_iff.1 hx
 rw [List.take_succ_eq_append_getElem hlt,e,List.filter_append,List.length_append]
 cases h : p x <;> simp [h]
end Go.Gx
end
section
namespace Go.Gx
open Go Go.Conc Go.Proofs
variable {main : Bool}
theorem perm_mid2 (X sf R K : Facts) : ((sf ++ (X ++ K)) ++ R).Perm (X ++ ((sf ++ R) ++ K)) := by
 have h1 : ((sf ++ (X ++ K)) ++ R).Perm ((X ++ K) ++ (sf ++ R)) := (perm_mid (X ++ K) sf R).symm
 have h2 : ((X ++ K) ++ (sf ++ R)).Perm (X ++ ((sf ++ R) ++ K)) := by rw [List.append_assoc];exact List.perm_append_comm.append_left X
 exact h1.trans h2
def stH (B : Bk) (A : BkA) (ly r2 r3 : Nat) : Facts := [.own r3 (.cells #[.func (.yield ly) #[] #[]] 113 (0,0)),.own r2 (.cells (List.toArray (bkC B A)) 117 (0,0))]
set_option maxRecDepth 100000 in
set_option maxHeartbeats 4000000 in
theorem s72 (L : Lg Tryz.prog main) (H0 : Facts) {B : Bk} {A : BkA} (hB : BkR H0 B A) (hz : bookBar B = 0) :
  SeqOk L (.func (.func 72) #[bkV B A] #[]) ((statesM B).map iV) H0 := by
 intro ly I D hsub hsubD hh Hs hI0
 refine SpecV.ofL (first := [bkV B A]) (args := [.func (.yield ly) #[] #[]]) (cap := []) rfl (Spec.enter Tryz.func72 rfl (by simp [Tryz.f72]) fun c cs hc => ?_)
 have hb := bounds_of_bar hz
 refine At.seq (At.region ?_);refine An Z Z Z Z Z Z Z fun r2 => ?_;refine An Z Z Z Z Z Z Z fun r3 => ?_;refine Ab (At.seq (At.region ?_));refine Ah 0 Z Z Z Z Z Z Z ?_;refine Ah 2 Z Z Z Z Z Z Z ?_;refine Af 1 Z Z Z Z Z Z Z Z Z ?_;refine Ay Z Z Z Z Z Z Z Z (s117 L _ (lo := B.lo) (hi := B.hi) (by omega)) ?_
 rintro fv _ ⟨sf,hseq,rfl⟩
 refine Ab ?_;refine At.block ?_
 refine At.rng (is := (bandL B.lo B.hi).map iV) (H0 := sf) Z Z hseq (fun k Hk => ∃ Hs',Hk = sf ++ (stH B A ly r2 r3 ++ Hs') ∧ I (((bandL B.lo B.hi).take k).filter (rightM B)).length Hs')
  (fun _ jp Hk => jp = .ret ∧ ∃ Hs' q,q < (statesM B).length ∧ Hk = sf ++ (stH B A ly r2 r3 ++ Hs') ∧ D q Hs') ?_ ?_ ?_ ?_ ?_ ?_
 ·rintro k _ ⟨Hs',rfl,_⟩
  exact Sub.pre _ _
 ·rintro k jp _ ⟨_,Hs',q,_,rfl,_⟩
  exact Sub.pre _ _
 ·exact ⟨Hs,rfl,hI0⟩
 ·rintro tmps l r j u _ R c cs' hu ⟨Hs',rfl,hI⟩ hgo hstop
  rw [List.getElem?_map] at hu
  obtain ⟨x,hx,rfl⟩ := Option.map_eq_some_iff.1 hu
  have hlt := (List.getElem?_eq_some_iff.1 hx).1
  have hxv := bandL_get hlt
  rw [hx] at hxv
  have hxr : EyeOk x := by
   rw [bandL_len] at hlt
   simp at hxv
   unfold EyeOk;omega
  have hsI := hsub _ _ hI
  have hcount := filter_take_succ (p := rightM B) hx
  refine At.weakH (H' := .own l (.loop (lrec 72 tmps 9 _ _ r .ready none)) :: .own r (.deferred (some [])) :: ((stH B A ly r2 r3 ++ Hs') ++ (sf ++ R))) ?_ (Sub.of_perm (List.Perm.cons _ (List.Perm.cons _ (perm_mid _ _ _))))
  have hsI2 : Sub H0 (Hs' ++ (sf ++ R)) := Sub.appR _ hsI
  unfold stH at hgo hstop ⊢
  refine At.region ?_;refine Aa Z Z Z Z Z O ?_;refine Ab ?_;refine At.beginRound 0 Z Z Z ?_;refine At.block ?_;refine At.seq (At.region ?_);refine Af 3 Z Z Z Z Z Z Z Z Z ?_;refine Aa Z Z Z Z Z O ?_;refine Bc Z Z Z Z Z Z Z Z (s118 L _ bs bs bs) fun b12 h12 => ?_;refine Aa Z Z Z Z Z O ?_
  cases b12
  ·have hg := hgo _ ⟨Hs',rfl,by rw [hcount,h12];simpa using hI⟩
   (iterate 4 refine Ar Z Z Z Z ?_);refine Aa Z Z Z Z Z O ?_;refine Ab ?_;refine At.cond Z ?_;refine At.skip ?_;refine At.inBlock ?_
   exact At.endRound 0 (.inl ⟨rfl,rfl⟩) Z Z Z (L.weak _ _ _ (Sub.of_perm (List.Perm.cons _ (List.Perm.cons _ (perm_mid _ sf R).symm))) hg)
  ·have hu2 : ((statesM B).map iV)[(((bandL B.lo B.hi).take j).filter (rightM B)).length]? = some (.int .i64 x) := by
    rw [List.getElem?_map,show (statesM B)[(((bandL B.lo B.hi).take j).filter (rightM B)).length]? = some x from filter_nth hx h12];rfl
   refine Af 2 Z Z Z Z Z Z Z Z Z ?_;refine Aa Z Z Z Z Z O ?_
   refine At.yieldP (_ :: _ :: _ :: _ :: (sf ++ R)) Z Z Z Z Z Z Z hh hu2 hI (List.Perm.cons _ (List.Perm.cons _ (List.Perm.cons _ (List.Perm.cons _ List.perm_append_comm)))) (fun Hk hI => ?_) (fun Hk hD => ?_)
   ·have hg := hgo _ ⟨Hk,rfl,by rw [hcount,h12];simpa using hI⟩
    (iterate 2 refine Aa Z Z Z Z Z O ?_);refine Ab ?_;refine At.cond Z ?_;refine At.skip ?_;refine At.inBlock ?_
    exact At.endRound 0 (.inl ⟨rfl,rfl⟩) Z Z Z (L.weak _ _ _ (Sub.of_perm (List.Perm.cons _ (List.Perm.cons _ (perm_mid2 [_,_] sf R Hk)))) hg)
   ·have hg := hstop .ret _ ⟨rfl,Hk,_,(by have := (List.getElem?_eq_some_iff.1 hu2).1;rwa [List.length_map] at this),rfl,hD⟩
    (iterate 2 refine Aa Z Z Z Z Z O ?_);refine Ab ?_;refine At.cond Z ?_
    exact At.endRound 0 (.inr (.inl ⟨_,rfl,rfl⟩)) Z Z Z (L.weak _ _ _ (Sub.of_perm (List.Perm.cons _ (List.Perm.cons _ (perm_mid2 [_,_] sf R Hk)))) hg)
 ·rintro tmps l r _ ⟨Hs',rfl,hI⟩
  have e : (((bandL B.lo B.hi).take ((bandL B.lo B.hi).map iV).length).filter (rightM B)).length = ((statesM B).map iV).length := by
   rw [List.length_map,List.take_length,List.length_map];rfl
  rw [e] at hI
  refine At.inBlock ?_
  exact At.retC 1 Tryz.func72 (.inl rfl) Z Z Z .nil (wk (hc _ _ (⟨Hs',Sub.refl _,.inl hI⟩)))
 ·rintro tmps l r q jp _ hq ⟨rfl,Hs',q',hq',rfl,hD⟩
  skip
  exact At.retC 1 Tryz.func72 (.inr ⟨_,rfl⟩) Z Z Z .nil (wk (hc _ _ (⟨Hs',Sub.refl _,.inr ⟨q',by rw [List.length_map];exact hq',hD⟩⟩)))
end Go.Gx
end
section
namespace Go.Gx
open Go Go.Conc Go.Proofs
variable {main : Bool}
theorem statesM_len {B : Bk} (hz : bookBar B = 0) : (statesM B).length ≤ 3 := by
 have hb := bounds_of_bar hz
 unfold statesM
 refine Nat.le_trans (List.length_filter_le _ _) ?_
 rw [bandL_len];omega
set_option maxRecDepth 100000 in
set_option maxHeartbeats 4000000 in
theorem s86 (L : Lg Tryz.prog main) (H : Facts) {B : Bk} {A : BkA} (hB : BkR H B A) (hz : bookBar B = 0) : Pure L 86 #[bkV B A] H (.bool (decide (0 < (statesM B).length))) := by
 refine Spec.enter Tryz.func86 rfl (by simp [Tryz.f86]) fun c cs hc => ?_;refine At.seq (At.region ?_);refine An Z Z Z Z Z Z Z fun r1 => ?_;refine Al Z Z Z Z Z fun r2 => ?_;refine Ab (At.seq (At.seq (At.region ?_)));refine Af 1 Z Z Z Z Z Z Z Z Z ?_;refine Aa Z Z Z Z Z O ?_;refine Ab ?_;refine At.block ?_
 refine At.rng (is := (statesM B).map iV) (H0 := H) Z Z (s72 L H hB hz) (fun k Hk => k = 0 ∧ Hk = .own r2 (.cells #[.bool false] 4 (0,0)) :: .own r1 (.cells (List.toArray (bkC B A)) 117 (0,0)) :: H)
  (fun _ jp Hk => jp = .ret ∧ Hk = .own r2 (.cells #[.bool true] 4 (0,0)) :: .own r1 (.cells (List.toArray (bkC B A)) 117 (0,0)) :: H) ?_ ?_ ?_ ?_ ?_ ?_
 ·rintro k _ ⟨_,rfl⟩
  exact ((Sub.refl _).drop _).drop _
 ·rintro k jp _ ⟨_,rfl⟩
  exact ((Sub.refl _).drop _).drop _
 ·exact ⟨rfl,rfl⟩
 ·rintro tmps l r j u _ R c cs' hu ⟨rfl,rfl⟩ hgo hstop
  refine At.skip ?_;refine At.beginRound 0 Z Z Z ?_;refine At.block ?_;refine At.seq (At.region ?_);refine Ag 2 Z Z Z Z Z Z Z Z Z Z Z Z ?_;refine Ab ?_
  exact At.endRound 0 (.inr (.inl ⟨_,rfl,rfl⟩)) Z Z Z (hstop .ret _ ⟨rfl,rfl⟩)
 ·rintro tmps l r _ ⟨e,rfl⟩
  rw [List.length_map] at e
  rw [e] at hc
  refine At.inBlock ?_;refine At.seq (At.region ?_);refine Ag 2 Z Z Z Z Z Z Z Z Z Z Z Z ?_;refine Ab ?_
  exact At.retC 1 Tryz.func86 (.inr ⟨_,rfl⟩) Z Z Z (.oneJ 2 Z Z Z .nil) (wk (hc _ _ (⟨rfl,rfl⟩)))
 ·rintro tmps l r q jp _ hq ⟨rfl,rfl⟩
  rw [List.length_map] at hq
  have e : decide (0 < (statesM B).length) = true := by simp;omega
  rw [e] at hc
  skip
  exact At.retC 1 Tryz.func86 (.inr ⟨_,rfl⟩) Z Z Z (.oneJ 2 Z Z Z .nil) (wk (hc _ _ (⟨rfl,rfl⟩)))
set_option maxRecDepth 100000 in
set_option maxHeartbeats 4000000 in
set_option maxRecDepth 100000 in
set_option maxHeartbeats 4000000 in
theorem s22 (L : Lg Tryz.prog main) (H : Facts) {B : Bk} {A : BkA} (hO : Opn H B A) :
  Grows L 22 #[bkV B A] H (fun v sf => ∃ a cap,v = .tuple #[.slice a (if bookBar B ≠ 0 then [] else statesM B).length cap,.int .i64 (bookBar B)] ∧
   Sl c1 3 (.slice a (if bookBar B ≠ 0 then [] else statesM B).length cap) (if bookBar B ≠ 0 then [] else statesM B) sf) := by
 refine Spec.enter Tryz.func22 rfl (by simp [Tryz.f22]) fun c cs hc => ?_
 by_cases hz : bookBar B = 0
 ·simp only [hz,ne_eq,not_true_eq_false,if_false] at hc
  have hB := hO.r
  have hl := statesM_len hz
  refine At.seq (At.region ?_);refine An Z Z Z Z Z Z Z fun r1 => ?_;(iterate 2 refine Aa Z Z Z Z Z O ?_);refine Ab (At.seq (At.region ?_));refine Af 0 Z Z Z Z Z Z Z Z Z ?_;refine Ai Z Z Z Z Z Z Z Z (s53z L _ (fs := []) (rs := []) hO.a hz rfl (.inl rfl) Bars.nil (by simp)) ?_;(iterate 3 refine Aa Z Z Z Z Z O ?_);refine Al Z Z Z Z Z fun r4 => ?_
  refine Ag 0 Z Z Z Z Z Z Z Z Z Z Z Z ?_;refine Aa Z Z Z Z Z O ?_;refine Ab (At.seq (At.seq (At.region ?_)));refine Aa Z Z Z Z Z O ?_;refine Ad Z Z Z Z Z fun b12 h12 => ?_;refine Ab ?_
  have e : b12 = false := by rw [← h12];rfl
  subst e
  refine At.cond Z ?_;refine At.skip (At.seq (At.region ?_));refine Af 0 Z Z Z Z Z Z Z Z Z ?_;refine Aa Z Z Z Z Z O ?_;refine Ay Z Z Z Z Z Z Z Z (s71 L (is := statesM B) (s72 L _ hB.a hz) (Sub.refl _) (by omega)) ?_
  rintro _ _ ⟨sf,hs,rfl⟩
  obtain ⟨a,cap,rfl⟩ := hs.slice
  (iterate 2 refine Aa Z Z Z Z Z O ?_);refine Ab ?_
  exact At.ret Tryz.func22 (.inr ⟨_,rfl⟩) rfl (.tmp rfl (.tmp rfl .nil)) (wk (hc _ _ (⟨sf,⟨a,cap,rfl,hs⟩,rfl⟩)))
 ·simp only [if_pos hz] at hc
  refine At.seq (At.region ?_);refine An Z Z Z Z Z Z Z fun r1 => ?_;(iterate 2 refine Aa Z Z Z Z Z O ?_);refine Ab (At.seq (At.region ?_));refine Af 0 Z Z Z Z Z Z Z Z Z ?_;refine Ai Z Z Z Z Z Z Z Z (s53n L _ hO.a hz) ?_;(iterate 3 refine Aa Z Z Z Z Z O ?_);refine Al Z Z Z Z Z fun r4 => ?_;refine Ag 0 Z Z Z Z Z Z Z Z Z Z Z Z ?_
  refine Aa Z Z Z Z Z O ?_;refine Ab (At.seq (At.seq (At.region ?_)));refine Aa Z Z Z Z Z O ?_;refine Ad Z Z Z Z Z fun b12 h12 => ?_;refine Ab ?_
  have e : b12 = true := by rw [← h12];simpa using hz
  subst e
  refine At.cond Z ?_;refine At.seq (At.region ?_);(iterate 3 refine Aa Z Z Z Z Z O ?_);refine Ab ?_
  exact At.ret Tryz.func22 (.inr ⟨_,rfl⟩) rfl (.tmp rfl (.tmp rfl .nil)) (wk (hc _ _ (⟨[],⟨none,0,rfl,Sl.nil⟩,rfl⟩)))
end Go.Gx
end
section
namespace Go.Gx
open Go Go.Conc Go.Proofs
variable {main : Bool}
theorem s79 (L : Lg Tryz.prog main) (H : Facts) {a : Option Addr} {xs : List Int} {n cap : Nat} {y : Int} (hn : xs.length = n) (hr : Rd H a (xs.flatMap c1)) (hs : xs.length ≤ 100000) : Pure L 79 #[.slice a n cap,.int .i64 y] H (.int .i64 ((xs.count y : Nat) : Int)) := by
 subst hn
 refine Spec.enter Tryz.func79 rfl (by simp [Tryz.f79]) fun c cs hc => ?_;refine At.seq (At.region ?_);refine Aa Z Z Z Z Z O ?_;refine Ab (At.seq (At.region ?_));refine Aa Z Z Z Z Z O ?_;refine Ab (At.seq (At.seq (At.region ?_)));refine Aa Z Z Z Z Z O ?_;refine Ao Z Z Z Z Z Z Z Z ?_;refine Aa Z Z Z Z Z O ?_;refine Ab ?_;refine At.block ?_
 refine Az (X := { x : Nat × Int // x.1 ≤ xs.length ∧ x.2 = ((xs.take x.1).count y : Nat) }) [1,4,8,9] (fun x => [(10,.int .i64 (x.1.1 : Int)),(5,.int .i64 x.1.2)]) (fun _ => H) (fun x => xs.length - x.1.1) (⟨(0,0),by simp,by simp⟩) rfl ?_ (by repeat (first | exact trivial | refine ⟨rfl,?_⟩)) sb
 rintro ⟨⟨j,m⟩,hj,hm⟩ again
 simp only at again hj hm ⊢
 have hcl : (xs.take j).count y ≤ j := Nat.le_trans List.count_le_length (by simp;omega)
 refine At.seq (At.region ?_);refine Ad Z Z Z Z Z fun b11 h11 => ?_;refine Ab (At.seq ?_)
 cases b11
 ·have e : j = xs.length := by simp at h11;omega
  subst e
  rw [List.take_length] at hm
  subst hm
  refine At.cond Z ?_;refine At.exit rfl ?_;refine At.seq (At.region ?_);(iterate 2 refine Aa Z Z Z Z Z O ?_);refine Ab ?_
  exact At.ret Tryz.func79 (.inr ⟨_,rfl⟩) rfl (.tmp rfl .nil) (wk (hc _ _ (⟨by rfl,rfl⟩)))
 ·have hlt : j < xs.length := by simp at h11;omega
  obtain ⟨b,off,rfl,hc1⟩ := hr.el (List.getElem?_eq_getElem hlt)
  have et : xs.take (j + 1) = xs.take j ++ [xs[j]] := by rw [List.take_succ_eq_append_getElem hlt]
  refine At.cond Z ?_;refine At.skip (At.seq ?_);refine At.block ?_;refine At.seq (At.region ?_);refine Ae Z Z Z Z (q_ia Z Z Z (by assumption)) ?_;refine Au Z Z Z Z Z Z hc1.a Z Z ?_;refine Aa Z Z Z Z Z O ?_;refine Ab (At.seq (At.region ?_));(iterate 2 refine Aa Z Z Z Z Z O ?_);refine Ad Z Z Z Z Z fun b16 h16 => ?_;refine Ab ?_
  cases b16
  ·have hne : xs[j] ≠ y := by simpa using h16
   refine At.cond Z ?_;refine At.skip ?_;refine At.inBlock ?_;refine At.region ?_;refine Aa Z Z Z Z Z (by omega) ?_;refine Aa Z Z Z Z Z O ?_;refine Ab ?_
   refine Aq ((again ⟨(j + 1,m),hlt,by rw [et,List.count_append,List.count_singleton,if_neg (by simpa using hne)];exact hm⟩ (by simp;omega)))
  ·have heq : xs[j] = y := by simpa using h16
   refine At.cond Z ?_;refine At.region ?_;refine Aa Z Z Z Z Z O ?_;refine Aa Z Z Z Z Z (by omega) ?_;refine Aa Z Z Z Z Z O ?_;refine Ab ?_;refine At.inBlock ?_;refine At.region ?_;refine Aa Z Z Z Z Z (by omega) ?_;refine Aa Z Z Z Z Z O ?_;refine Ab ?_
   refine Aq ((again ⟨(j + 1,m + 1),hlt,by rw [et,List.count_append,List.count_singleton,if_pos (by simpa using heq)];show m + 1 = _;omega⟩ (by simp;omega)))
def knC (B : Bk) (A : BkA) (a : Option Addr) (n cap : Nat) : List Value := bkC B A ++ [.slice a n cap]
def knV (B : Bk) (A : BkA) (a : Option Addr) (n cap : Nat) : Value := .agg (List.toArray (knC B A a n cap))
def wordM (n many : Int) : Int := if many = n then 1 else if many = 0 then 2 else 0
set_option maxRecDepth 100000 in
theorem s78 (L : Lg Tryz.prog main) (H : Facts) {B : Bk} {A : BkA} {a : Option Addr} {n cap : Nat} {many : Int} : Pure L 78 #[knV B A a n cap,.int .i64 many] H (.int .i64 (wordM n many)) := by
 refine Spec.enter Tryz.func78 rfl (by simp [Tryz.f78]) fun c cs hc => ?_;refine At.seq (At.region ?_);refine An Z Z Z Z Z Z Z fun r2 => ?_;refine Aa Z Z Z Z Z O ?_;refine Ab (At.seq (At.seq (At.region ?_)));refine Aa Z Z Z Z Z O ?_;refine Ab ?_;refine At.block ?_;refine At.seq (At.region ?_);refine Ah 5 Z Z Z Z Z Z Z ?_;refine Af 0 Z Z Z Z Z Z Z Z Z ?_
 refine Ao Z Z Z Z Z Z Z Z ?_;refine Ad Z Z Z Z Z fun b10 h10 => ?_;refine Aa Z Z Z Z Z O ?_;refine Ab ?_
 cases b10
 ·refine At.cond Z ?_
  refine At.seq (At.region ?_);refine Ad Z Z Z Z Z fun b12 h12 => ?_;refine Aa Z Z Z Z Z O ?_;refine Ab ?_
  cases b12
  ·refine At.cond Z ?_
   refine At.skip ?_;refine At.inBlock ?_;refine At.seq (At.region ?_);refine Aa Z Z Z Z Z O ?_;refine Ab ?_
   exact At.ret Tryz.func78 (.inr ⟨_,rfl⟩) rfl (.tmp rfl .nil) (wk (hc _ _ (⟨by simp_all [resVal,wordM],rfl⟩)))
  ·refine At.cond Z ?_
   refine At.seq (At.region ?_);refine Aa Z Z Z Z Z O ?_;refine Ab ?_
   exact At.ret Tryz.func78 (.inr ⟨_,rfl⟩) rfl (.tmp rfl .nil) (wk (hc _ _ (⟨by simp_all [resVal,wordM],rfl⟩)))
 ·refine At.cond Z ?_
  refine At.seq (At.region ?_);refine Aa Z Z Z Z Z O ?_;refine Ab ?_
  exact At.ret Tryz.func78 (.inr ⟨_,rfl⟩) rfl (.tmp rfl .nil) (wk (hc _ _ (⟨by simp_all [resVal,wordM],rfl⟩)))
def zeroK : List Value := [.slice none 0 0,.int .i64 0,.int .i64 0,.int .i64 0,.slice none 0 0,.slice none 0 0]
def knownBar (B : Bk) (rs : List Int) : Int := if lookBar B rs ≠ 0 then lookBar B rs else if (statesM B).length = 0 then 9 else 0
set_option maxRecDepth 100000 in
set_option maxHeartbeats 4000000 in
theorem s74z (L : Lg Tryz.prog main) (H : Facts) {B : Bk} {A : BkA} {a : Option Addr} {n cap : Nat} {fs : List Value} {rs : List Int} (hO : Opn H B A) (hz : bookBar B = 0) (hf : firstBar rs = 0) (hne : (statesM B).length ≠ 0) (hn : fs.length = n) (hr : Rd H a fs) (hb : Bars L H fs rs) (hl : fs.length ≤ 1000) :
  Grows L 74 #[bkV B A,.slice a n cap] H (fun v sf => ∃ a' cap',v = .tuple #[knV B A a' (statesM B).length cap',.int .i64 0] ∧ Sl c1 3 (.slice a' (statesM B).length cap') (statesM B) sf) := by
 refine Spec.enter Tryz.func74 rfl (by simp [Tryz.f74]) fun c cs hc => ?_
 have hB := hO.r
 have hl3 := statesM_len hz
 refine At.seq (At.region ?_);refine An Z Z Z Z Z Z Z fun r2 => ?_;refine Al Z Z Z Z Z fun r4 => ?_;refine Aa Z Z Z Z Z O ?_;refine Ab (At.seq (At.region ?_));refine Af 1 Z Z Z Z Z Z Z Z Z ?_;refine Aa Z Z Z Z Z O ?_;refine Ai Z Z Z Z Z Z Z Z (s53z L _ hO.a hz hn hr.a hb.a hl) ?_
 rw [hf]
 (iterate 3 refine Aa Z Z Z Z Z O ?_);refine Al Z Z Z Z Z fun r6 => ?_;refine Ag 0 Z Z Z Z Z Z Z Z Z Z Z Z ?_;refine Aa Z Z Z Z Z O ?_;refine Ab (At.seq (At.seq (At.region ?_)));refine Aa Z Z Z Z Z O ?_;refine Ad Z Z Z Z Z fun b16 h16 => ?_;refine Ab ?_
 have e : b16 = false := by rw [← h16];rfl
 subst e
 refine At.cond Z ?_;refine At.skip (At.seq ?_);refine Bd hmix (_) sb ?_;refine Aj 0 0 Z Z Z Z Z Z Z Z Z Z Z ?_;refine Aj 0 1 Z Z Z Z Z Z Z Z Z Z Z ?_;refine Ac 2 Z Z Z Z Z Z Z O ?_;refine Pool.fl 5 Z Z Z Z Z Z Z Z Z Z ?_;refine Pool.cl 3 Z Z Z Z Z Z Z Z Z Z Z Z Z Z (fun H_ hs_ => s71 L (is := statesM B) (s72 L H_ hB.a hz) (Sub.refl _) (by omega)) sb ?_
 intro v sf hs
 obtain ⟨a',cap',rfl⟩ := hs.slice
 refine Ak 4 Z Z Z Z Z (q_build Z Z Z) rfl ?_;refine pool_take Z Z Z fun rf5 => ?_;refine Ba 0 6 Z Z Z Z Z Z Z Z Z Z Z Z Z Z Z Z Z Z sb ?_;refine pool_done Z Z ?_;refine Ab (At.seq (At.seq (At.region ?_)));refine Ah 5 Z Z Z Z Z Z Z ?_;refine Af 0 Z Z Z Z Z Z Z Z Z ?_;refine Ao Z Z Z Z Z Z Z Z ?_;refine Ad Z Z Z Z Z fun b27 h27 => ?_
 refine Ab ?_
 have e2 : b27 = false := by rw [← h27];simpa using hne
 subst e2
 refine At.rot2 1 3 Z Z ?_;refine At.cond Z ?_;refine At.skip (At.seq (At.region ?_));refine Af 0 Z Z Z Z Z Z Z Z Z ?_;refine Ag 2 Z Z Z Z Z Z Z Z Z Z Z Z ?_;refine Aa Z Z Z Z Z O ?_;refine Ab ?_
 exact At.ret Tryz.func74 (.inr ⟨_,rfl⟩) rfl (.aggJ 2 Z Z Z (.tmp rfl .nil)) (wk (hc _ _ (⟨sf,⟨a',cap',rfl,hs⟩,rfl⟩)))
set_option maxRecDepth 100000 in
set_option maxHeartbeats 4000000 in
theorem s74n (L : Lg Tryz.prog main) (H : Facts) {B : Bk} {A : BkA} {a : Option Addr} {n cap : Nat} {fs : List Value} {rs : List Int} (hO : Opn H B A) (hk : knownBar B rs ≠ 0) (hn : fs.length = n) (hr : Rd H a fs) (hb : Bars L H fs rs) (hl : fs.length ≤ 1000) :
  Pure L 74 #[bkV B A,.slice a n cap] H (.tuple #[.agg (List.toArray zeroK),.int .i64 (knownBar B rs)]) := by
 refine Spec.enter Tryz.func74 rfl (by simp [Tryz.f74]) fun c cs hc => ?_
 have hB := hO.r
 unfold knownBar at hk hc
 by_cases hz : bookBar B = 0
 ·rw [lookBar1 hz] at hk hc
  have hl3 := statesM_len hz
  refine At.seq (At.region ?_);refine An Z Z Z Z Z Z Z fun r2 => ?_;refine Al Z Z Z Z Z fun r4 => ?_;refine Aa Z Z Z Z Z O ?_;refine Ab (At.seq (At.region ?_));refine Af 1 Z Z Z Z Z Z Z Z Z ?_;refine Aa Z Z Z Z Z O ?_;refine Ai Z Z Z Z Z Z Z Z (s53z L _ hO.a hz hn hr.a hb.a hl) ?_;(iterate 3 refine Aa Z Z Z Z Z O ?_)
  refine Al Z Z Z Z Z fun r6 => ?_;refine Ag 0 Z Z Z Z Z Z Z Z Z Z Z Z ?_;refine Aa Z Z Z Z Z O ?_;refine Ab (At.seq (At.seq (At.region ?_)));refine Aa Z Z Z Z Z O ?_;refine Ad Z Z Z Z Z fun b16 h16 => ?_;refine Ab ?_
  cases b16
  ·have e : firstBar rs = 0 := by simpa using h16
   rw [if_neg (by simpa using e)] at hk hc
   have hne : (statesM B).length = 0 := by
    by_cases h : (statesM B).length = 0
    ·exact h
    ·rw [if_neg h] at hk;exact absurd rfl hk
   rw [if_pos hne] at hc
   refine At.cond Z ?_;refine At.skip (At.seq ?_);refine Bd hmix (_) sb ?_;refine Aj 0 0 Z Z Z Z Z Z Z Z Z Z Z ?_;refine Aj 0 1 Z Z Z Z Z Z Z Z Z Z Z ?_;refine Ac 2 Z Z Z Z Z Z Z O ?_;refine Pool.fl 5 Z Z Z Z Z Z Z Z Z Z ?_;refine Pool.cl 3 Z Z Z Z Z Z Z Z Z Z Z Z Z Z (fun H_ hs_ => s71 L (is := statesM B) (s72 L H_ hB.a hz) (Sub.refl _) (by omega)) sb ?_
   intro v sf hs
   obtain ⟨a',cap',rfl⟩ := hs.slice
   refine Ak 4 Z Z Z Z Z (q_build Z Z Z) rfl ?_;refine pool_take Z Z Z fun rf5 => ?_;refine Ba 0 6 Z Z Z Z Z Z Z Z Z Z Z Z Z Z Z Z Z Z sb ?_;refine pool_done Z Z ?_;refine Ab (At.seq (At.seq (At.region ?_)));refine Ah 5 Z Z Z Z Z Z Z ?_;refine Af 0 Z Z Z Z Z Z Z Z Z ?_;refine Ao Z Z Z Z Z Z Z Z ?_;refine Ad Z Z Z Z Z fun b27 h27 => ?_
   refine Ab ?_
   have e2 : b27 = true := by rw [← h27];simpa using hne
   subst e2
   refine At.rot2 1 3 Z Z ?_;refine At.cond Z ?_;refine At.seq (At.region ?_);refine Ae Z Z Z Z (q_build Z Z Z) ?_;refine Ag 2 Z Z Z Z Z Z Z Z Z Z Z Z ?_;refine Aa Z Z Z Z Z O ?_;refine Ab ?_
   exact At.ret Tryz.func74 (.inr ⟨_,rfl⟩) rfl (.aggJ 2 Z Z Z (.tmp rfl .nil)) (wk (hc _ _ (⟨rfl,rfl⟩)))
  ·have e : firstBar rs ≠ 0 := by simpa using h16
   rw [if_pos e] at hc
   refine At.cond Z ?_;refine At.seq (At.region ?_);refine Ae Z Z Z Z (q_build Z Z Z) ?_;refine Aa Z Z Z Z Z O ?_;refine Ag 1 Z Z Z Z Z Z Z Z Z Z Z Z ?_;refine Aa Z Z Z Z Z O ?_;refine Ab ?_
   exact At.ret Tryz.func74 (.inr ⟨_,rfl⟩) rfl (.aggJ 1 Z Z Z (.tmp rfl .nil)) (wk (hc _ _ (⟨by rfl,rfl⟩)))
 ·rw [lookBarN hz,if_pos hz] at hc
  refine At.seq (At.region ?_);refine An Z Z Z Z Z Z Z fun r2 => ?_;refine Al Z Z Z Z Z fun r4 => ?_;refine Aa Z Z Z Z Z O ?_;refine Ab (At.seq (At.region ?_));refine Af 1 Z Z Z Z Z Z Z Z Z ?_;refine Aa Z Z Z Z Z O ?_;refine Ai Z Z Z Z Z Z Z Z (s53n L _ hO.a hz) ?_;(iterate 3 refine Aa Z Z Z Z Z O ?_);refine Al Z Z Z Z Z fun r6 => ?_
  refine Ag 0 Z Z Z Z Z Z Z Z Z Z Z Z ?_;refine Aa Z Z Z Z Z O ?_;refine Ab (At.seq (At.seq (At.region ?_)));refine Aa Z Z Z Z Z O ?_;refine Ad Z Z Z Z Z fun b16 h16 => ?_;refine Ab ?_
  have e : b16 = true := by rw [← h16];simpa using hz
  subst e
  refine At.cond Z ?_;refine At.seq (At.region ?_);refine Ae Z Z Z Z (q_build Z Z Z) ?_;refine Aa Z Z Z Z Z O ?_;refine Ag 1 Z Z Z Z Z Z Z Z Z Z Z Z ?_;refine Aa Z Z Z Z Z O ?_;refine Ab ?_
  exact At.ret Tryz.func74 (.inr ⟨_,rfl⟩) rfl (.aggJ 1 Z Z Z (.tmp rfl .nil)) (wk (hc _ _ (⟨by rfl,rfl⟩)))
end Go.Gx
end
section
namespace Go.Gx
open Go Go.Conc Go.Proofs
variable {main : Bool}
instance : MpI Tryz.prog 153 40 156 := ⟨by kernel_rfl⟩
instance : ChI Tryz.prog 200 := ⟨by kernel_rfl⟩
instance : ChI Tryz.prog 201 := ⟨by kernel_rfl⟩
def fallI (B : Bk) (is : List Int) (s : R2) : List Int := is.map (fun e => rowM B e s) ++ List.replicate (3 - is.length) 0
def foundV (B : Bk) (is : List Int) (s : R2) : Value := .agg (List.toArray (ints ([s.1,s.2] ++ fallI B is s)))
def ptrV (r : Nat) : Value := .pointer (some ⟨r,0,none⟩)
set_option maxRecDepth 100000 in
set_option maxHeartbeats 4000000 in
theorem run161 {H : Facts} {B : Bk} {A : BkA} {a : Option Addr} {cap n : Nat} {is : List Int} {s : R2} (hB : BkR H B A) (hz : bookBar B = 0) (hR : Rd H a (is.flatMap c1)) (hn : is.length = n) (hl : is.length ≤ 3) (he : ∀ i ∈ is,EyeOk i) (hs : SlOk s)
  {rk rs rc rd c d : Nat} (hk : Cells H rk 0 (knC B A a n cap)) (hsl : Cells H rs 0 [.int .i64 s.1,.int .i64 s.2]) (hc : Cells H rc 0 [.chan (some c)]) (hd : Cells H rd 0 [.chan (some d)]) :
  ∃ T,RunS Tryz.prog T (born Tryz.prog { target := .fn (.func 122) #[ptrV rk,ptrV rs,ptrV rc,ptrV rd],args := #[] }) H [(c,foundV B is s),(d,.bool true)] := by
 subst hn
 refine run_born Tryz.func122 Z Z (by simp [Tryz.f122]) ?_
 generalize hL : runLg Tryz.prog c (foundV B is s) [(d,.bool true)] = L
 refine At.seq (At.region ?_);refine Al Z Z Z Z Z fun r4 => ?_;refine Ab (At.seq (At.seq (At.region ?_)));refine Ah 5 Z Z Z Z Z Z Z ?_;refine Au Z Z Z Z Z Z (hk.s 5 1 rfl) Z Z ?_;refine Ao Z Z Z Z Z Z Z Z ?_;refine Aa Z Z Z Z Z O ?_;refine Ab ?_;refine At.block ?_
 refine Az (X := { x : Nat × Int × Int × Int // x.1 ≤ is.length ∧ fallI B (is.take x.1) s = [x.2.1,x.2.2.1,x.2.2.2] }) [0,1,2,3,4,8,9] (fun x => [(10,.int .i64 (x.1.1 : Int))]) (fun x => .own r4 (.cells (List.toArray [.int .i64 x.1.2.1,.int .i64 x.1.2.2.1,.int .i64 x.1.2.2.2]) 156 (0,0)) :: H) (fun x => is.length - x.1.1) (⟨(0,0,0,0),by simp,by simp [fallI]⟩) rfl ?_ (by repeat (first | exact trivial | refine ⟨rfl,?_⟩)) sb
 rintro ⟨⟨j,x,y,z⟩,hj,hx⟩ again
 simp only at again hj hx ⊢
 refine At.seq (At.region ?_);refine Ad Z Z Z Z Z fun b11 h11 => ?_;refine Ab (At.seq ?_)
 cases b11
 ·have e : j = is.length := by simp at h11;omega
  subst e
  rw [List.take_length] at hx
  refine At.cond Z ?_;refine At.exit rfl ?_;refine At.seq (At.region ?_);refine Au Z Z Z Z Z Z hc.a Z Z ?_;refine Au Z Z Z Z Z Z hsl.a Z Z ?_;refine Af 0 Z Z Z Z Z Z Z Z Z ?_;refine Ae Z Z Z Z (q_build Z Z Z) ?_
  have hv : foundV B is s = .agg (List.toArray [.int .i64 s.1,.int .i64 s.2,.int .i64 x,.int .i64 y,.int .i64 z]) := by
   unfold foundV;rw [hx];rfl
  rw [hv] at hL
  subst hL
  refine At.send Z Z Z Z Z Z ?_
  generalize hL : runLg Tryz.prog d (.bool true) [] = L
  refine Ab (At.region ?_);refine Au Z Z Z Z Z Z hd.a Z Z ?_
  subst hL
  refine At.sendLast Z Z Z Z Z Z fun tmps => ?_;refine leave_regionEnd ?_
  exact leave_end Tryz.func122 rfl (.inl rfl)
 ·have hlt : j < is.length := by simp at h11;omega
  obtain ⟨b,off,rfl,hc1⟩ := hR.el (List.getElem?_eq_getElem hlt)
  have hei := he _ (List.getElem_mem hlt)
  have hj3 : j = 0 ∨ j = 1 ∨ j = 2 := by omega
  have key : fallI B (is.take (j + 1)) s = (fallI B (is.take j) s).set j (rowM B is[j] s) := by
   unfold fallI
   rw [List.take_succ_eq_append_getElem hlt,List.map_append,List.set_append_right _ _ (by simp;omega)]
   simp only [List.length_append,List.length_take,List.length_cons,List.length_nil,List.length_map,List.map_cons,List.map_nil,Nat.min_eq_left hj]
   rw [show 3 - j = (3 - (j + (0 + 1))) + 1 from by omega,List.replicate_succ]
   simp
  rw [hx] at key
  rcases hj3 with rfl | rfl | rfl
  ·refine At.cond Z ?_
   refine At.skip (At.seq ?_);refine At.block ?_;refine At.seq (At.region ?_);refine Aa Z Z Z Z Z O ?_;refine Ae Z Z Z Z (q_ia Z Z Z (by assumption)) ?_;refine Au Z Z Z Z Z Z hc1.a Z Z ?_;(iterate 2 refine Aa Z Z Z Z Z O ?_);refine Ab (At.region ?_);refine Aa Z Z Z Z Z O ?_;refine Ah 0 Z Z Z Z Z Z Z ?_;refine Au Z Z Z Z Z Z (hk.s 0 5 rfl) Z Z ?_
   refine Aa Z Z Z Z Z O ?_;refine Au Z Z Z Z Z Z hsl.a Z Z ?_;refine Ai Z Z Z Z Z Z Z Z (s70 L _ bs bs bs bs) ?_;refine Ae Z Z Z Z (q_iaA Z Z Z (by omega)) ?_;refine Ag 0 Z Z Z Z Z Z Z Z Z Z Z Z ?_;refine Ab ?_;refine At.inBlock ?_;refine At.region ?_;refine Aa Z Z Z Z Z (by omega) ?_;refine Aa Z Z Z Z Z O ?_;refine Ab ?_
   refine Aq ((again ⟨(1,rowM B is[0] s,y,z),hlt,key⟩ (by simp;omega)))
  ·refine At.cond Z ?_
   refine At.skip (At.seq ?_);refine At.block ?_;refine At.seq (At.region ?_);refine Aa Z Z Z Z Z O ?_;refine Ae Z Z Z Z (q_ia Z Z Z (by assumption)) ?_;refine Au Z Z Z Z Z Z hc1.a Z Z ?_;(iterate 2 refine Aa Z Z Z Z Z O ?_);refine Ab (At.region ?_);refine Aa Z Z Z Z Z O ?_;refine Ah 0 Z Z Z Z Z Z Z ?_;refine Au Z Z Z Z Z Z (hk.s 0 5 rfl) Z Z ?_
   refine Aa Z Z Z Z Z O ?_;refine Au Z Z Z Z Z Z hsl.a Z Z ?_;refine Ai Z Z Z Z Z Z Z Z (s70 L _ bs bs bs bs) ?_;refine Ae Z Z Z Z (q_iaA Z Z Z (by omega)) ?_;refine Ag 0 Z Z Z Z Z Z Z Z Z Z Z Z ?_;refine Ab ?_;refine At.inBlock ?_;refine At.region ?_;refine Aa Z Z Z Z Z (by omega) ?_;refine Aa Z Z Z Z Z O ?_;refine Ab ?_
   refine Aq ((again ⟨(2,x,rowM B is[1] s,z),hlt,key⟩ (by simp;omega)))
  ·refine At.cond Z ?_
   refine At.skip (At.seq ?_);refine At.block ?_;refine At.seq (At.region ?_);refine Aa Z Z Z Z Z O ?_;refine Ae Z Z Z Z (q_ia Z Z Z (by assumption)) ?_;refine Au Z Z Z Z Z Z hc1.a Z Z ?_;(iterate 2 refine Aa Z Z Z Z Z O ?_);refine Ab (At.region ?_);refine Aa Z Z Z Z Z O ?_;refine Ah 0 Z Z Z Z Z Z Z ?_;refine Au Z Z Z Z Z Z (hk.s 0 5 rfl) Z Z ?_
   refine Aa Z Z Z Z Z O ?_;refine Au Z Z Z Z Z Z hsl.a Z Z ?_;refine Ai Z Z Z Z Z Z Z Z (s70 L _ bs bs bs bs) ?_;refine Ae Z Z Z Z (q_iaA Z Z Z (by omega)) ?_;refine Ag 0 Z Z Z Z Z Z Z Z Z Z Z Z ?_;refine Ab ?_;refine At.inBlock ?_;refine At.region ?_;refine Aa Z Z Z Z Z (by omega) ?_;refine Aa Z Z Z Z Z O ?_;refine Ab ?_
   refine Aq ((again ⟨(3,x,y,rowM B is[2] s),hlt,key⟩ (by simp;omega)))
end Go.Gx
end
section
namespace Go.Gx
open Go Go.Conc Go.Proofs
def keyS (s : R2) : List Int := [s.1,s.2]
def fallG (B : Bk) (is : List Int) (k : List Int) : Value := .agg (List.toArray (ints (fallI B is (k.headD 0,k.getD 1 0))))
def scr (B : Bk) (is : List Int) (c d : Nat) (s : R2) : Script := [(c,foundV B is s),(d,.bool true)]
theorem fallI_three {B : Bk} {is : List Int} {s : R2} (hl : is.length ≤ 3) : ∃ x y z,fallI B is s = [x,y,z] := by
 have h : (fallI B is s).length = 3 := by unfold fallI;simp;omega
 generalize fallI B is s = l at h
 match l,h with
 | [x,y,z],_ => exact ⟨x,y,z,rfl⟩
structure Val (B : Bk) (is : List Int) (c d : Nat) (ss : List R2) (Γ : List Script) (ks : List (List Int)) : Prop where
 len : Γ.length = ss.length
 st : ∀ (j : Nat) (s : R2),ss[j]? = some s → Γ[j]? = some (scr B is c d s) ∨ ((Γ[j]? = some ([(d,Value.bool true)] : Script) ∨ Γ[j]? = some ([] : Script)) ∧ keyS s ∈ ks)
 nd : ks.Nodup
 ks : ∀ k ∈ ks,∃ s ∈ ss,k = keyS s
def leftN (Γ : List Script) : Nat := Γ.countP fun s => !s.isEmpty
def workN (Γ : List Script) : Nat := (Γ.map List.length).sum
theorem val0 {B : Bk} {is : List Int} {c d : Nat} {ss : List R2} : Val B is c d ss (ss.map (scr B is c d)) [] :=
 ⟨by simp,fun j s h => .inl (by rw [List.getElem?_map,h];rfl),List.nodup_nil,by simp⟩
theorem left0 {B : Bk} {is : List Int} {c d : Nat} {ss : List R2} : leftN (ss.map (scr B is c d)) = ss.length := by
 unfold leftN
 rw [List.countP_map,List.countP_eq_length.2]
 intro a _
 rfl
theorem workN_set {p : Nat × Value} {r : Script} : ∀ {Γ : List Script} {j : Nat},Γ[j]? = some (p :: r) → workN (Γ.set j r) < workN Γ
 | [],j,h => by simp at h
 | s :: Γ,0,h => by
  simp only [List.getElem?_cons_zero,Option.some.injEq] at h
  subst h
  simp [workN]
 | s :: Γ,j + 1,h => by
  have := workN_set (Γ := Γ) (j := j) (by simpa using h)
  simp only [workN,List.set_cons_succ,List.map_cons,List.sum_cons] at this ⊢
  omega
theorem leftN_set {p : Nat × Value} {r : Script} : ∀ {Γ : List Script} {j : Nat},Γ[j]? = some (p :: r) → leftN (Γ.set j r) = leftN Γ - (if r = [] then 1 else 0) ∧ 0 < leftN Γ
 | [],j,h => by simp at h
 | s :: Γ,0,h => by
  simp only [List.getElem?_cons_zero,Option.some.injEq] at h
  subst h
  cases r <;> simp [leftN]
 | s :: Γ,j + 1,h => by
  obtain ⟨h1,h2⟩ := leftN_set (Γ := Γ) (j := j) (by simpa using h)
  simp only [leftN,List.set_cons_succ,List.countP_cons] at h1 h2 ⊢
  rw [h1]
  refine ⟨?_,by omega⟩
  split <;> split <;> omega
theorem leftN_zero {Γ : List Script} (h : leftN Γ = 0) : ∀ s ∈ Γ,s = [] := by
 intro s hs
 have := List.countP_eq_zero.1 h s hs
 simpa using this
theorem leftN_pos {Γ : List Script} (h : 0 < leftN Γ) : ∃ s ∈ Γ,s ≠ [] := by
 obtain ⟨s,hs,e⟩ := List.countP_pos_iff.1 h
 exact ⟨s,hs,by simpa using e⟩
section
variable {B : Bk} {is : List Int} {c d : Nat} {ss : List R2} {Γ : List Script} {ks : List (List Int)}
theorem Val.at (h : Val B is c d ss Γ ks) {j : Nat} {x : Script} (hj : Γ[j]? = some x) : ∃ s,ss[j]? = some s ∧ s ∈ ss := by
 have hlt : j < ss.length := by rw [← h.len];exact (List.getElem?_eq_some_iff.1 hj).1
 exact ⟨ss[j],List.getElem?_eq_getElem hlt,List.getElem_mem hlt⟩
theorem Val.heard (h : Val B is c d ss Γ ks) (hne : d ≠ c) {j : Nat} {v : Value} {r : Script} (hj : Γ[j]? = some ((c,v) :: r)) : ∃ s ∈ ss,v = foundV B is s ∧ r ≠ [] ∧ Val B is c d ss (Γ.set j r) (if keyS s ∈ ks then ks else ks ++ [keyS s]) := by
 obtain ⟨s,hs,hm⟩ := h.at hj
 have hlt : j < Γ.length := (List.getElem?_eq_some_iff.1 hj).1
 rcases h.st j s hs with e | ⟨e | e,_⟩
 ·rw [hj] at e
  simp only [scr,Option.some.injEq,List.cons.injEq,Prod.mk.injEq,true_and] at e
  obtain ⟨rfl,rfl⟩ := e
  have hin : ∀ k ∈ ks,k ∈ (if keyS s ∈ ks then ks else ks ++ [keyS s]) := fun k hk => by split <;> simp [hk]
  refine ⟨s,hm,rfl,by simp,⟨by rw [List.length_set];exact h.len,fun i x hx => ?_,?_,fun k hk => ?_⟩⟩
  ·by_cases e : j = i
   ·subst e
    rw [hs] at hx
    obtain rfl := Option.some.inj hx
    refine .inr ⟨.inl (by rw [List.getElem?_set_self hlt]),?_⟩
    split
    ·assumption
    ·simp
   ·rw [List.getElem?_set_ne e]
    exact (h.st i x hx).imp id fun ⟨a,b⟩ => ⟨a,hin _ b⟩
  ·split
   ·exact h.nd
   ·rename_i hnk
    rw [List.nodup_append]
    refine ⟨h.nd,by simp,?_⟩
    intro x hx y hy e
    simp at hy
    exact hnk (by rw [← hy,← e];exact hx)
  ·split at hk
   ·exact h.ks k hk
   ·rcases List.mem_append.1 hk with hk | hk
    ·exact h.ks k hk
    ·exact ⟨s,hm,by simpa using hk⟩
 ·rw [hj] at e
  simp only [Option.some.injEq,List.cons.injEq,Prod.mk.injEq] at e
  exact absurd e.1.1.symm hne
 ·rw [hj] at e;cases e
theorem Val.done (h : Val B is c d ss Γ ks) (hne : d ≠ c) {j : Nat} {v : Value} {r : Script} (hj : Γ[j]? = some ((d,v) :: r)) : r = [] ∧ Val B is c d ss (Γ.set j r) ks := by
 obtain ⟨s,hs,hm⟩ := h.at hj
 have hlt : j < Γ.length := (List.getElem?_eq_some_iff.1 hj).1
 rcases h.st j s hs with e | ⟨e | e,hk⟩
 ·rw [hj] at e
  simp only [scr,Option.some.injEq,List.cons.injEq,Prod.mk.injEq] at e
  exact absurd e.1.1 hne
 ·rw [hj] at e
  simp only [Option.some.injEq,List.cons.injEq,Prod.mk.injEq] at e
  obtain ⟨_,rfl⟩ := e
  refine ⟨rfl,by rw [List.length_set];exact h.len,fun i x hx => ?_,h.nd,h.ks⟩
  by_cases e : j = i
  ·subst e
   rw [hs] at hx
   obtain rfl := Option.some.inj hx
   exact .inr ⟨.inr (by rw [List.getElem?_set_self hlt]),hk⟩
  ·rw [List.getElem?_set_ne e]
   exact h.st i x hx
 ·rw [hj] at e;cases e
theorem Val.chan (h : Val B is c d ss Γ ks) : ∀ s ∈ Γ,∀ (a : Nat) (v : Value) (rest : Script),s = (a,v) :: rest → a = c ∨ a = d := by
 rintro x hx a v rest rfl
 obtain ⟨j,hj⟩ := List.getElem?_of_mem hx
 obtain ⟨s,hs,hm⟩ := h.at hj
 rcases h.st j s hs with e | ⟨e | e,_⟩ <;> rw [hj] at e
 ·simp only [scr,Option.some.injEq,List.cons.injEq,Prod.mk.injEq] at e
  exact .inl e.1.1
 ·simp only [Option.some.injEq,List.cons.injEq,Prod.mk.injEq] at e
  exact .inr e.1.1
 ·cases e
theorem Val.all (h : Val B is c d ss Γ ks) (h0 : ∀ s ∈ Γ,s = []) : ∀ k,k ∈ ks ↔ ∃ s ∈ ss,k = keyS s := by
 refine fun k => ⟨h.ks k,?_⟩
 rintro ⟨s,hs,rfl⟩
 obtain ⟨j,hj⟩ := List.getElem?_of_mem hs
 rcases h.st j s hj with e | ⟨_,hk⟩
 ·have := h0 _ (List.mem_of_getElem? e)
  cases this
 ·exact hk
theorem Val.len2 (h : Val B is c d ss Γ ks) : ∀ k ∈ ks,k.length = 2 := by
 intro k hk
 obtain ⟨s,_,rfl⟩ := h.ks k hk
 rfl
theorem leftN_le (h : Val B is c d ss Γ ks) : leftN Γ ≤ ss.length := by
 rw [← h.len];exact List.countP_le_length
end
set_option maxRecDepth 100000 in
set_option maxHeartbeats 4000000 in
theorem s81 {Post : Value → World → Prop} {W₀ : World} {H Hs : Facts} {B : Bk} {A : BkA} {a a2 : Option Addr} {cap n cap2 m : Nat} {is : List Int} {ss : List R2} (hsub : Sub Hs H) (hsh : ∀ f ∈ Hs,f.isOwn = false) (hB : BkR Hs B A) (hz : bookBar B = 0) (hR : Rd Hs a (is.flatMap c1)) (hn : is.length = n) (hl : is.length ≤ 3) (he : ∀ i ∈ is,EyeOk i)
  (hS : Rd H a2 (ss.flatMap c2)) (hm : ss.length = m) (hml : ss.length ≤ 1000) (hok : ∀ s ∈ ss,SlOk s) :
  Grows (mainLg Tryz.prog Post W₀ [] []) 81 #[knV B A a n cap,.slice a2 m cap2] H (fun v sf => ∃ r ks,v = .map (some r) ∧ sf = [.own r (mapO (fallG B is) ks)] ∧ (∀ k,k ∈ ks ↔ ∃ s ∈ ss,k = keyS s) ∧ ks.Nodup) := by
 subst hn hm
 refine Spec.enter Tryz.func81 rfl (by simp [Tryz.f81]) fun c cs hc => ?_
 generalize hL : mainLg Tryz.prog Post W₀ [] [] = L at hc ⊢
 refine At.seq (At.region ?_);refine An Z Z Z Z Z Z Z fun r2 => ?_;refine Aa Z Z Z Z Z O ?_;refine Ab (At.seq ?_);refine Aw hmix [] rfl ?_;refine Pool.fl 2 Z Z Z Z Z Z Z Z Z Z ?_;refine Pool.fl 3 Z Z Z Z Z Z Z Z Z Z ?_;refine Pool.flc 0 Z Z Z Z Z Z Z Z Z Z ?_;refine Pool.flc 1 Z Z Z Z Z Z Z Z Z Z ?_;refine pool_rot4 ?_
 refine pool_take Z Z Z fun rf0 => ?_;refine pool_take Z Z Z fun rf3 => ?_;refine pool_take Z Z Z fun rf2 => ?_;refine Ba 0 4 Z Z Z Z Z Z Z Z Z Z Z Z Z Z Z Z Z Z sb ?_;refine pool_take Z Z Z fun rf1 => ?_;refine Ba 2 5 Z Z Z Z Z Z Z Z Z Z Z Z Z Z Z Z Z Z sb ?_;refine pool_done Z Z ?_;refine Ab (At.seq (At.seq (At.region ?_)));refine Aa Z Z Z Z Z O ?_
 refine Ao Z Z Z Z Z Z Z Z ?_;refine Aa Z Z Z Z Z O ?_;refine Ab ?_;refine At.block ?_
 subst hL
 refine At.world ?_
 rintro ⟨W,hW⟩
 have hne : rf1 ≠ rf0 := (List.pairwise_cons.1 hW.1).1 (.own rf0 (.chan 0 #[] false 0 0 false)) (List.mem_cons_of_mem _ (List.mem_cons_of_mem _ (List.mem_cons_self ..))) (.inl rfl)
 clear hW W
 refine At.openC ?_;refine At.up [_,_] ?_;refine At.openC ?_;refine At.share ?_;refine At.up [_] ?_;refine At.share ?_;refine At.up [_,_] ?_;refine At.share ?_
 refine At.lpL (fun x : { j : Nat // j ≤ ss.length } => mainLg Tryz.prog Post W₀ [rf0,rf1] ((ss.take x.1).map (scr B is rf0 rf1))) [1,2,4,5,6,14,15] (fun x => [(16,.int .i64 (x.1 : Int))]) (fun _ => .seg r2 0 (knC B A a is.length cap) :: .seg rf3 0 [.chan (some rf1)] :: .seg rf2 0 [.chan (some rf0)] :: H) (fun x => ss.length - x.1) ⟨0,Nat.zero_le _⟩ Z Z ?_ ⟨rfl,trivial⟩ (Sub.refl _)
 rintro ⟨j,hj⟩ again
 simp only at again hj ⊢
 generalize hL : mainLg Tryz.prog Post W₀ [rf0,rf1] ((ss.take j).map (scr B is rf0 rf1)) = L
 refine At.seq (At.region ?_);refine Ad Z Z Z Z Z fun b17 h17 => ?_;refine Ab (At.seq ?_)
 cases b17
 ·have e : j = ss.length := by simp at h17;omega
  subst e
  rw [List.take_length] at hL
  refine At.cond Z ?_;refine At.exit rfl ?_;refine At.seq (At.region ?_);refine At.l Z Z Z Z (l_makeMap (g := fallG B is) rfl) ?_
  rintro _ _ ⟨rm,rfl,rfl⟩
  refine Aa Z Z Z Z Z O ?_;refine Ab (At.seq (At.seq (At.region ?_)));refine Aa Z Z Z Z Z O ?_;refine Ao Z Z Z Z Z Z Z Z ?_;refine Aa Z Z Z Z Z O ?_;refine Ab ?_;refine At.block ?_
  subst hL
  refine At.lpL (fun x : { x : List Script × List (List Int) // Val B is rf0 rf1 ss x.1 x.2 } => mainLg Tryz.prog Post W₀ [rf0,rf1] x.1.1) [2,4,5,6,9] (fun x => [(10,.int .i64 (leftN x.1.1 : Int))]) (fun x => .own rm (mapO (fallG B is) x.1.2) :: .seg r2 0 (knC B A a is.length cap) :: .seg rf3 0 [.chan (some rf1)] :: .seg rf2 0 [.chan (some rf0)] :: H) (fun x => workN x.1.1) ⟨(ss.map (scr B is rf0 rf1),[]),val0⟩ Z Z ?_ ⟨by rw [left0];rfl,trivial⟩ (Sub.refl _)
  rintro ⟨⟨Γ,ks⟩,hv⟩ again2
  simp only at again2 hv ⊢
  have hle := leftN_le hv
  have k2 : Cells (.seg r2 0 (knC B A a is.length cap) :: .seg rf3 0 [.chan (some rf1)] :: .seg rf2 0 [.chan (some rf0)] :: H) rf2 0 [.chan (some rf0)] := cells_seg 0 (List.mem_cons_of_mem _ (List.mem_cons_of_mem _ (List.mem_cons_self ..))) rfl
  have k3 : Cells (.seg r2 0 (knC B A a is.length cap) :: .seg rf3 0 [.chan (some rf1)] :: .seg rf2 0 [.chan (some rf0)] :: H) rf3 0 [.chan (some rf1)] := cells_seg 0 (List.mem_cons_of_mem _ (List.mem_cons_self ..)) rfl
  generalize hL : mainLg Tryz.prog Post W₀ [rf0,rf1] Γ = L
  refine At.seq (At.seq (At.region ?_));refine Aa Z Z Z Z Z O ?_;refine Ad Z Z Z Z Z fun b26 h26 => ?_;refine Ab ?_
  cases b26
  ·have e0 : leftN Γ = 0 := by simp at h26;omega
   have h0 := leftN_zero e0
   refine At.cond Z ?_;refine At.exit rfl ?_;refine At.seq (At.region ?_);(iterate 2 refine Aa Z Z Z Z Z O ?_);refine Ab ?_
   subst hL
   refine At.closeAll h0 ?_
   refine At.weakH (H' := .own rm (mapO (fallG B is) ks) :: H) ?_ ((((Sub.refl _).drop _).drop _).drop _ |>.cons _)
   generalize hL : mainLg Tryz.prog Post W₀ [] [] = L at hc ⊢
   exact At.ret Tryz.func81 (.inr ⟨_,rfl⟩) rfl (.tmp rfl .nil) (wk (hc _ _ (⟨[_],⟨rm,ks,rfl,rfl,hv.all h0,hv.nd⟩,rfl⟩)))
  ·have e0 : 0 < leftN Γ := by simp at h26;omega
   refine At.cond Z ?_;refine At.skip ?_;refine At.block ?_;refine At.seq (At.seq (At.region ?_));refine Au Z Z Z Z Z Z k2.a Z Z ?_;refine Ab (At.region ?_);refine Au Z Z Z Z Z Z k3.a Z Z ?_;refine Ab (At.seq (At.region ?_))
   subst hL
   refine At.select2 Z Z Z Z Z Z Z tf203 tf4 (by simp) (by simp) (leftN_pos e0) hv.chan ?_ ?_
   ·intro i v r hi
    obtain ⟨s,hs,rfl,hr,hv2⟩ := hv.heard hne hi
    have hw := workN_set hi
    have hll := (leftN_set hi).1
    rw [if_neg hr] at hll
    have hfv : foundV B is s = .agg (List.toArray (ints ([s.1,s.2] ++ fallI B is s))) := rfl
    obtain ⟨x0,x1,x2,hx⟩ := fallI_three (B := B) (s := s) hl
    rw [hx] at hfv
    rw [hfv]
    generalize hL : mainLg Tryz.prog Post W₀ [rf0,rf1] (Γ.set i r) = L
    refine Aa Z Z Z Z Z O ?_;refine Ad Z Z Z Z Z fun b31 h31 => ?_;refine Ad Z Z Z Z Z fun b32 h32 => ?_;refine Ab ?_;refine At.block ?_
    have e : b31 = true := by rw [← h31];rfl
    subst e
    refine At.cond Z ?_;refine At.seq (At.region ?_);refine Aa Z Z Z Z Z O ?_;refine Al Z Z Z Z Z fun r11 => ?_;refine Ag 0 Z Z Z Z Z Z Z Z Z Z Z Z ?_;refine Ab (At.region ?_);refine Aa Z Z Z Z Z O ?_;refine Ah 0 Z Z Z Z Z Z Z ?_;refine Af 0 Z Z Z Z Z Z Z Z Z ?_;refine Ah 2 Z Z Z Z Z Z Z ?_;refine Af 0 Z Z Z Z Z Z Z Z Z ?_
    have hg : fallG B is (keyS s) = .agg (List.toArray (ints [x0,x1,x2])) := by
     unfold fallG keyS
     rw [← hx];rfl
    generalize hk' : (if keyS s ∈ ks then ks else ks ++ [keyS s]) = ks' at hv2
    refine At.s Z Z Z (l_mapUpdate (g := fallG B is) (ks := ks) (ks' := ks') (k := keyS s) Z Z Z (by rw [hg];rfl) Z Z hv.len2 hk'.symm ((Upd.head _ _ _).tail _)) ?_
    rintro _ _ ⟨rfl,rfl⟩
    refine Ab ?_;(iterate 2 refine At.inBlock ?_)
    rw [show ((leftN Γ : Nat) : Int) = ((leftN (Γ.set i r) : Nat) : Int) from by omega]
    subst hL
    refine Aq ((again2 ⟨(Γ.set i r,ks'),hv2⟩ hw))
   ·intro i v r hi
    obtain ⟨rfl,hv2⟩ := hv.done hne hi
    have hw := workN_set hi
    have hll := (leftN_set hi).1
    rw [if_pos rfl] at hll
    generalize hL : mainLg Tryz.prog Post W₀ [rf0,rf1] (Γ.set i []) = L
    refine Aa Z Z Z Z Z O ?_;refine Ad Z Z Z Z Z fun b31 h31 => ?_;refine Ad Z Z Z Z Z fun b32 h32 => ?_;refine Ab ?_;refine At.block ?_
    have e : b31 = false := by rw [← h31];rfl
    subst e
    have e : b32 = true := by rw [← h32];rfl
    subst e
    (iterate 2 refine At.cond Z ?_);refine At.region ?_;refine Aa Z Z Z Z Z O ?_;refine Aa Z Z Z Z Z (by omega) ?_;refine Aa Z Z Z Z Z O ?_;refine Ab ?_;(iterate 2 refine At.inBlock ?_)
    rw [show ((leftN Γ : Nat) : Int) - 1 = ((leftN (Γ.set i []) : Nat) : Int) from by omega]
    subst hL
    refine Aq ((again2 ⟨(Γ.set i [],ks),hv2⟩ hw))
 ·have hlt : j < ss.length := by simp at h17;omega
  obtain ⟨b,off,rfl,hc1⟩ := hS.el (List.getElem?_eq_getElem hlt)
  have hsj := hok _ (List.getElem_mem hlt)
  have hns : ∀ {b : Nat} {off : Nat} {vs : List Value},(Fact.seg b off vs).isOwn = false := rfl
  refine At.cond Z ?_;refine At.skip (At.seq ?_);refine At.block ?_;refine At.seq (At.region ?_);refine Ae Z Z Z Z (q_ia Z Z Z (by assumption)) ?_;refine Au Z Z Z Z Z Z hc1.a Z Z ?_;refine Al Z Z Z Z Z fun r8 => ?_;refine Ag 0 Z Z Z Z Z Z Z Z Z Z Z Z ?_;refine Ab (At.region ?_);refine Aa Z Z Z Z Z O ?_;refine At.share ?_
  subst hL
  refine At.go (Hc := .seg r8 0 [.int .i64 ss[j].1,.int .i64 ss[j].2] :: .seg r2 0 (knC B A a is.length cap) :: .seg rf3 0 [.chan (some rf1)] :: .seg rf2 0 [.chan (some rf0)] :: Hs) (s := scr B is rf0 rf1 ss[j]) Z Z Z Z Z ?_ ?_ ?_ ?_
  ·intro f hf
   simp only [List.mem_cons] at hf
   rcases hf with rfl | rfl | rfl | rfl | hf
   ·exact ⟨by simp,rfl⟩
   ·exact ⟨by simp,rfl⟩
   ·exact ⟨by simp,rfl⟩
   ·exact ⟨by simp,rfl⟩
   ·exact ⟨List.mem_cons_of_mem _ (List.mem_cons_of_mem _ (List.mem_cons_of_mem _ (List.mem_cons_of_mem _ (hsub.mem hf)))),hsh f hf⟩
  ·intro p hp
   simp only [scr,List.mem_cons,List.not_mem_nil,or_false] at hp
   rcases hp with rfl | rfl <;> simp
  ·exact run161 (n := is.length) (a := a) (cap := cap) (A := A) hB.a hz hR.a rfl hl he hsj (cells_seg 0 (List.mem_cons_of_mem _ (List.mem_cons_self ..)) rfl) (cells_seg 0 (List.mem_cons_self ..) rfl) (cells_seg 0 (List.mem_cons_of_mem _ (List.mem_cons_of_mem _ (List.mem_cons_of_mem _ (List.mem_cons_self ..)))) rfl) (cells_seg 0 (List.mem_cons_of_mem _ (List.mem_cons_of_mem _ (List.mem_cons_self ..))) rfl)
  have et : (ss.take j).map (scr B is rf0 rf1) ++ [scr B is rf0 rf1 ss[j]] = (ss.take (j + 1)).map (scr B is rf0 rf1) := by
   rw [List.take_succ_eq_append_getElem hlt,List.map_append];rfl
  rw [et]
  generalize hL : mainLg Tryz.prog Post W₀ [rf0,rf1] ((ss.take (j + 1)).map (scr B is rf0 rf1)) = L
  refine Ab ?_;refine At.inBlock ?_;refine At.region ?_;refine Aa Z Z Z Z Z (by omega) ?_;refine Aa Z Z Z Z Z O ?_;refine Ab ?_
  subst hL
  refine Aq ((again ⟨j + 1,hlt⟩ (by simp;omega)))
end Go.Gx
end
section
namespace Go.Gx
open Go Go.Conc Go.Proofs
variable {main : Bool}
set_option maxRecDepth 100000 in
theorem s119 (L : Lg Tryz.prog main) (H : Facts) {p : Addr} {xs : List Int} {n cap : Nat} (hn : xs.length = n) (hr : Rd H (some p) (xs.flatMap c1)) (h0 : 0 < xs.length) (hs : xs.length ≤ 1000) :
  Grows L 119 #[.slice (some p) n cap] H (fun v sf => Sl c1 3 v xs sf) := by
 subst hn
 refine Spec.enter Tryz.func119 rfl (by simp [Tryz.f119]) fun c cs hc => ?_;refine At.seq (At.region ?_);refine Aa Z Z Z Z Z O ?_;refine Ab (At.seq (At.seq (At.region ?_)));refine Aa Z Z Z Z Z O ?_;refine At.qb Z Z Z Z (q_isNil Z Z) fun b4 h4 => ?_;refine Ab ?_
 have e : b4 = false := by rw [← h4];rfl
 subst e
 refine At.cond Z ?_;refine At.skip (At.seq (At.region ?_))
 (refine At.l Z Z Z Z (l_buildSlice Z Z Z Z Z) ?_;rintro _ _ ⟨r5,rfl,rfl⟩)
 refine Aa Z Z Z Z Z O ?_;refine At.appE Z Z Z Z Z Z Z Z Z Z Z Z Z hr rfl h0 (by omega) fun v sf hv => ?_;refine Aa Z Z Z Z Z O ?_;refine Ab ?_
 exact At.ret Tryz.func119 (.inr ⟨_,rfl⟩) rfl (.tmp rfl .nil) (wk (hc _ _ (⟨sf,hv,rfl⟩)))
end Go.Gx
end
section
namespace Go.Gx
open Go Go.Conc Go.Proofs
structure Kn (H Hs : Facts) (B : Bk) (A : BkA) (a : Option Addr) (is : List Int) : Prop where
 sub : Sub Hs H
 sh : ∀ f ∈ Hs,f.isOwn = false
 r : BkR Hs B A
 hz : bookBar B = 0
 R : Rd Hs a (is.flatMap c1)
 l3 : is.length ≤ 3
 eye : ∀ i ∈ is,EyeOk i
 pos : 0 < is.length
theorem Kn.a {H H' Hs : Facts} {B : Bk} {A : BkA} {a : Option Addr} {is : List Int} (h : Kn H Hs B A a is) (hs : Sub H H' := by repeat (first | exact Sub.refl _ | assumption | exact Sub.pre _ _ | apply Sub.cons | apply Sub.drop | apply Sub.appL | apply Sub.dropL | refine Sub.trans ?_ (by assumption))) : Kn H' Hs B A a is :=
 ⟨h.sub.trans hs,h.sh,h.r,h.hz,h.R,h.l3,h.eye,h.pos⟩
set_option maxRecDepth 100000 in
set_option maxHeartbeats 4000000 in
theorem s75 {Post : Value → World → Prop} {W₀ : World} {H Hs : Facts} {B : Bk} {A : BkA} {a : Option Addr} {cap n : Nat} {is : List Int} {s : R2} (hK : Kn H Hs B A a is) (hn : is.length = n) (hs : SlOk s) :
  Grows (mainLg Tryz.prog Post W₀ [] []) 75 #[knV B A a n cap,rV s] H (fun v sf => Sl c1 3 v (is.map fun e => rowM B e s) sf) := by
 subst hn
 refine Spec.enter Tryz.func75 rfl (by simp [Tryz.f75]) fun c cs hc => ?_
 generalize hL : mainLg Tryz.prog Post W₀ [] [] = L at hc ⊢
 refine At.seq (At.region ?_);refine An Z Z Z Z Z Z Z fun r2 => ?_;refine An Z Z Z Z Z Z Z fun r3 => ?_;refine Aa Z Z Z Z Z O ?_;refine Ab (At.seq ?_);refine Bd hmix (_) sb ?_;refine Aj 1 0 Z Z Z Z Z Z Z Z Z Z Z ?_;refine Aj 0 1 Z Z Z Z Z Z Z Z Z Z Z ?_;refine Aj 0 4 Z Z Z Z Z Z Z Z Z Z Z ?_
 refine Pool.fl 6 Z Z Z Z Z Z Z Z Z Z ?_;refine Pool.bs 2 Z Z Z Z Z Z Z Z Z Z Z Z Z Z Z sb fun r8 => ?_
 subst hL
 refine Pool.cl 3 Z Z Z Z Z Z Z Z Z Z Z Z Z Z (fun H_ hs_ => s81 (H := H_) (Hs := Hs) (ss := [s]) (hK.sub.trans ((((Sub.refl _).drop _).drop _).drop _ |>.trans hs_)) hK.sh hK.r hK.hz hK.R rfl hK.l3 hK.eye ((rd_own 0 Z Z).more hs_) rfl (by simp) (by simpa using hs)) sb ?_
 rintro v sf ⟨rm,ks,rfl,rfl,hks,_⟩
 generalize hL : mainLg Tryz.prog Post W₀ [] [] = L at hc ⊢
 skip
 have hk2 : ∀ x ∈ ks,x.length = 2 := fun x hx => by obtain ⟨_,_,rfl⟩ := (hks x).1 hx;rfl
 obtain ⟨x0,x1,x2,hx⟩ := fallI_three (B := B) (s := s) hK.l3
 have hg : (if keyS s ∈ ks then fallG B is (keyS s) else .agg #[.int .i64 0,.int .i64 0,.int .i64 0]) = .agg (List.toArray (ints [x0,x1,x2])) := by
  rw [if_pos ((hks _).2 ⟨s,by simp,rfl⟩),← hx];rfl
 refine Pool.qlo 5 Z Z Z Z Z Z Z Z Z Z Z (q_lookup (g := fallG B is) (ks := ks) (k := keyS s) Z Z Z tf156 Z Z hk2 (List.mem_cons_self ..)) ((Sub.refl _).drop _ |>.drop _) ?_
 rw [hg]
 have hl3 := hK.l3
 refine pool_take Z Z Z fun rf6 => ?_;refine Ba 0 7 Z Z Z Z Z Z Z Z Z Z Z Z Z Z Z Z Z Z sb ?_;refine pool_done Z Z ?_;refine Ab (At.seq (At.region ?_));refine Ah 5 Z Z Z Z Z Z Z ?_;refine Af 4 Z Z Z Z Z Z Z Z Z ?_;refine Ao Z Z Z Z Z Z Z Z ?_;refine Ae Z Z Z Z (q_sliceAH (h := (is.length)) Z Z Z (by assumption)) ?_
 have hm : is.map (fun e => rowM B e s) = [x0,x1,x2].take is.length := by
  rw [← hx];unfold fallI
  rw [List.take_left' (by simp)]
 have hcl : ((ints [x0,x1,x2]).drop 0).take ((is.map fun e => rowM B e s).flatMap c1).length = (is.map fun e => rowM B e s).flatMap c1 := by
  have e1 : ∀ l : List Int,l.flatMap c1 = ints l := fun l => by induction l <;> simp_all [ints,c1]
  rw [e1,hm,List.drop_zero]
  simp [ints,List.map_take]
 refine Ay Z Z Z Z Z Z Z Z (s119 L _ (xs := is.map fun e => rowM B e s) (by simp) (.inr ⟨rf6,0,rfl,cells_own (c := List.toArray (ints [x0,x1,x2])) (T := 156) (fr := (0,0)) (List.mem_cons_self ..) hcl⟩) (by simpa using hK.pos) (by simp;omega)) ?_
 rintro v _ ⟨sf,hv,rfl⟩
 refine Aa Z Z Z Z Z O ?_;refine Ab ?_
 exact At.ret Tryz.func75 (.inr ⟨_,rfl⟩) rfl (.tmp rfl .nil) (wk (hc _ _ (⟨sf,hv,rfl⟩)))
end Go.Gx
end
section
namespace Go.Gx
open Go Go.Conc Go.Proofs
variable {main : Bool}
instance : CvI Tryz.prog 3 199 .u64 := ⟨by kernel_rfl⟩
instance : CvI Tryz.prog 230 5 .u8 := ⟨by kernel_rfl⟩
instance : CvI Tryz.prog 5 3 .i64 := ⟨by kernel_rfl⟩
theorem ul9 : Tryz.prog.underlying 9 = some .string := by kernel_rfl
set_option maxRecDepth 100000 in
theorem s149 (L : Lg Tryz.prog main) (H : Facts) {x : Int} (hx : x = 0 ∨ x = 1 ∨ x = 2 ∨ x = 3) : Pure L 149 #[.int .u64 x] H (.int .i64 (if x = 0 then 0 else if x = 1 then 1 else 2)) := by
 refine Spec.enter Tryz.func149 rfl (by simp [Tryz.f149]) fun c cs hc => ?_;refine At.seq (At.region ?_);refine Aa Z Z Z Z Z O ?_;refine Ab (At.seq (At.seq (At.region ?_)));refine Aa Z Z Z Z Z O ?_;refine Ad Z Z Z Z Z fun b4 h4 => ?_;refine Ab ?_
 have e : b4 = false := by rw [← h4];simp;omega
 subst e
 refine At.cond Z ?_;refine At.skip (At.seq (At.seq (At.region ?_)));refine Aa Z Z Z Z Z O ?_;refine Ad Z Z Z Z Z fun b8 h8 => ?_;refine Ab ?_
 have e : b8 = false := by rw [← h8];simp;omega
 subst e
 refine At.cond Z ?_;refine At.skip (At.seq (At.seq (At.region ?_)));refine Aa Z Z Z Z Z O ?_;refine Ad Z Z Z Z Z fun b14 h14 => ?_;refine Ab ?_
 have e : b14 = false := by rw [← h14];simp;omega
 subst e
 rcases hx with rfl | rfl | rfl | rfl
 ·refine At.cond Z ?_
  refine At.skip (At.seq (At.region ?_));(iterate 2 refine Aa Z Z Z Z Z O ?_);refine Ae Z Z Z Z (q_conv Z Z Z) ?_;refine Ae Z Z Z Z (q_ixs (a := 0) (v := 0) ul9 Z Z Z (by decide) Z Z) ?_;refine Ae Z Z Z Z (q_conv (b := 0) Z Z Z) ?_;refine Aa Z Z Z Z Z (by omega) ?_;refine Aa Z Z Z Z Z O ?_;refine Ab ?_
  exact At.ret Tryz.func149 (.inr ⟨_,rfl⟩) rfl (.tmp rfl .nil) (wk (hc _ _ (⟨by rfl,rfl⟩)))
 ·refine At.cond Z ?_
  refine At.skip (At.seq (At.region ?_));(iterate 2 refine Aa Z Z Z Z Z O ?_);refine Ae Z Z Z Z (q_conv Z Z Z) ?_;refine Ae Z Z Z Z (q_ixs (a := 1) (v := 1) ul9 Z Z Z (by decide) Z Z) ?_;refine Ae Z Z Z Z (q_conv (b := 1) Z Z Z) ?_;refine Aa Z Z Z Z Z (by omega) ?_;refine Aa Z Z Z Z Z O ?_;refine Ab ?_
  exact At.ret Tryz.func149 (.inr ⟨_,rfl⟩) rfl (.tmp rfl .nil) (wk (hc _ _ (⟨by rfl,rfl⟩)))
 ·refine At.cond Z ?_
  refine At.skip (At.seq (At.region ?_));(iterate 2 refine Aa Z Z Z Z Z O ?_);refine Ae Z Z Z Z (q_conv Z Z Z) ?_;refine Ae Z Z Z Z (q_ixs (a := 2) (v := 2) ul9 Z Z Z (by decide) Z Z) ?_;refine Ae Z Z Z Z (q_conv (b := 2) Z Z Z) ?_;refine Aa Z Z Z Z Z (by omega) ?_;refine Aa Z Z Z Z Z O ?_;refine Ab ?_
  exact At.ret Tryz.func149 (.inr ⟨_,rfl⟩) rfl (.tmp rfl .nil) (wk (hc _ _ (⟨by rfl,rfl⟩)))
 ·refine At.cond Z ?_
  refine At.skip (At.seq (At.region ?_));(iterate 2 refine Aa Z Z Z Z Z O ?_);refine Ae Z Z Z Z (q_conv Z Z Z) ?_;refine Ae Z Z Z Z (q_ixs (a := 3) (v := 2) ul9 Z Z Z (by decide) Z Z) ?_;refine Ae Z Z Z Z (q_conv (b := 2) Z Z Z) ?_;refine Aa Z Z Z Z Z (by omega) ?_;refine Aa Z Z Z Z Z O ?_;refine Ab ?_
  exact At.ret Tryz.func149 (.inr ⟨_,rfl⟩) rfl (.tmp rfl .nil) (wk (hc _ _ (⟨by rfl,rfl⟩)))
theorem s121 (L : Lg Tryz.prog main) (H : Facts) {x : Int} (hx : x = 0 ∨ x = 1 ∨ x = 2 ∨ x = 3) : Pure L 121 #[.int .u64 x] H (.int .i64 (if x = 0 then 0 else if x = 1 then 1 else 2)) := by
 refine Spec.enter Tryz.func121 rfl (by simp [Tryz.f121]) fun c cs hc => ?_;refine At.seq (At.region ?_);refine Aa Z Z Z Z Z O ?_;refine Ab (At.seq ?_);refine At.cond Z ?_;refine At.skip (At.seq (At.region ?_));refine Aa Z Z Z Z Z O ?_;refine Ai Z Z Z Z Z Z Z Z (s149 L _ bs) ?_;refine Aa Z Z Z Z Z O ?_;refine Ab ?_
 exact At.ret Tryz.func121 (.inr ⟨_,rfl⟩) rfl (.tmp rfl .nil) (wk (hc _ _ (⟨by rfl,rfl⟩)))
theorem s150 (L : Lg Tryz.prog main) (H : Facts) {x : Int} : Pure L 150 #[.int .i64 x] H (.bool false) := by
 refine Spec.enter Tryz.func150 rfl (by simp [Tryz.f150]) fun c cs hc => ?_;refine At.seq (At.region ?_);refine Aa Z Z Z Z Z O ?_;refine Ab (At.seq (At.region ?_));(iterate 2 refine Aa Z Z Z Z Z O ?_);refine Ad Z Z Z Z Z fun b5 h5 => ?_;refine Aa Z Z Z Z Z O ?_;refine Ab ?_
 have e : b5 = false := by rw [← h5];simp
 subst e
 exact At.ret Tryz.func150 (.inr ⟨_,rfl⟩) rfl (.tmp rfl .nil) (wk (hc _ _ (⟨by rfl,rfl⟩)))
theorem s145 (L : Lg Tryz.prog main) (H : Facts) {x y : Int} : Pure L 145 #[.int .i64 x,.int .i64 y] H (.bool (decide (x < y))) := by
 refine Spec.enter Tryz.func145 rfl (by simp [Tryz.f145]) fun c cs hc => ?_;refine At.seq (At.region ?_);refine Aa Z Z Z Z Z O ?_;refine Ab (At.seq (At.region ?_));refine Aa Z Z Z Z Z O ?_;refine Bc Z Z Z Z Z Z Z Z (s150 L _) fun b6 h6 => ?_;refine Aa Z Z Z Z Z O ?_
 cases b6
 ·refine Ar Z Z Z Z ?_
  (iterate 2 refine Ar Z Z Z Z ?_);(iterate 4 refine Aa Z Z Z Z Z O ?_);refine Ad Z Z Z Z Z fun b15 h15 => ?_;(iterate 2 refine Aa Z Z Z Z Z O ?_);refine Ab ?_
  exact At.ret Tryz.func145 (.inr ⟨_,rfl⟩) rfl (.tmp rfl .nil) (wk (hc _ _ (⟨by simp_all [resVal],rfl⟩)))
 ·refine Aa Z Z Z Z Z O ?_
  refine Bc Z Z Z Z Z Z Z Z (s150 L _) fun b9 h9 => ?_;(iterate 3 refine Aa Z Z Z Z Z O ?_)
  cases b9
  ·refine Ar Z Z Z Z ?_
   (iterate 2 refine Ar Z Z Z Z ?_);(iterate 2 refine Aa Z Z Z Z Z O ?_);refine Ab ?_
   exact At.ret Tryz.func145 (.inr ⟨_,rfl⟩) rfl (.tmp rfl .nil) (wk (hc _ _ (⟨by simp_all [resVal],rfl⟩)))
  ·refine Aa Z Z Z Z Z O ?_
   refine Aa Z Z Z Z Z O ?_;refine Ad Z Z Z Z Z fun b15 h15 => ?_;(iterate 2 refine Aa Z Z Z Z Z O ?_);refine Ab ?_
   exact At.ret Tryz.func145 (.inr ⟨_,rfl⟩) rfl (.tmp rfl .nil) (wk (hc _ _ (⟨by simp_all [resVal],rfl⟩)))
end Go.Gx
end
section
namespace Go.Gx
open Go Go.Conc Go.Proofs
variable {main : Bool}
def innerM : List Int → Nat → List Int
 | ys,0 => ys
 | ys,j + 1 => if (ys[j + 1]?).getD 0 < (ys[j]?).getD 0 then innerM ((ys.set (j + 1) ((ys[j]?).getD 0)).set j ((ys[j + 1]?).getD 0)) j else ys
def outM (ys : List Int) (i : Nat) : List Int := (List.range i).foldl innerM ys
def sortM (ys : List Int) : List Int := outM ys (max 1 ys.length)
theorem innerM_len : ∀ {j : Nat} {ys : List Int},(innerM ys j).length = ys.length
 | 0,ys => rfl
 | j + 1,ys => by
  unfold innerM
  split
  ·rw [innerM_len];simp
  ·rfl
theorem outM_len {ys : List Int} : ∀ {i : Nat},(outM ys i).length = ys.length
 | 0 => rfl
 | i + 1 => by
  unfold outM
  rw [List.range_succ,List.foldl_append]
  show (innerM (outM ys i) i).length = _
  rw [innerM_len,outM_len]
theorem outM_succ {ys : List Int} {i : Nat} : outM ys (i + 1) = innerM (outM ys i) i := by
 unfold outM
 rw [List.range_succ,List.foldl_append];rfl
def blkI (ys : List Int) (rest : List Value) : List Value := ints ys ++ rest
theorem blkI_set {ys : List Int} {rest : List Value} {q : Nat} {x : Int} (h : q < ys.length) : (blkI ys rest).set q (.int .i64 x) = blkI (ys.set q x) rest := by
 unfold blkI ints
 rw [List.set_append_left _ _ (by simpa using h),List.map_set]
theorem blkI_c1 {ys : List Int} {rest : List Value} : ((blkI ys rest).drop 0).take (ys.flatMap c1).length = ys.flatMap c1 := by
 have e1 : ∀ l : List Int,l.flatMap c1 = ints l := fun l => by induction l <;> simp_all [ints,c1]
 rw [e1,List.drop_zero]
 unfold blkI
 rw [List.take_left' rfl]
set_option maxRecDepth 100000 in
set_option maxHeartbeats 4000000 in
theorem s139 (L : Lg Tryz.prog main) (H : Facts) {b cap : Nat} {xs : List Int} {rest : List Value} (hl : xs.length ≤ 1000) :
  Spec L 139 #[.slice (some ⟨b,0,none⟩) xs.length cap,.int .i64 0,.int .i64 xs.length] (.own b (.cells (List.toArray (blkI xs rest)) 3 (0,0)) :: H) (fun _ H' => H' = .own b (.cells (List.toArray (blkI (sortM xs) rest)) 3 (0,0)) :: H) := by
 refine Spec.enter Tryz.func139 rfl (by simp [Tryz.f139]) fun c cs hc => ?_;refine At.seq (At.region ?_);refine Aa Z Z Z Z Z O ?_;refine Aa Z Z Z Z Z (by omega) ?_;refine Aa Z Z Z Z Z O ?_;refine Ab ?_;refine At.block ?_
 refine Az (X := { i : Nat // 1 ≤ i ∧ i ≤ max 1 xs.length }) [0,1,2] (fun x => [(6,.int .i64 (x.1 : Int))]) (fun x => .own b (.cells (List.toArray (blkI (outM xs x.1) rest)) 3 (0,0)) :: H) (fun x => xs.length - x.1) (⟨1,by simp;omega⟩) rfl ?_ (by repeat (first | exact trivial | refine ⟨rfl,?_⟩)) sb
 rintro ⟨i,hi⟩ again
 simp only at again hi ⊢
 have hlen := outM_len (ys := xs) (i := i)
 refine At.seq (At.seq (At.region ?_));(iterate 2 refine Aa Z Z Z Z Z O ?_);refine Ad Z Z Z Z Z fun b12 h12 => ?_;refine Ab ?_
 cases b12
 ·have e : i = max 1 xs.length := by simp at h12;omega
  subst e
  refine At.cond Z ?_;refine At.exit rfl ?_
  exact At.ret Tryz.func139 (.inl rfl) rfl .nil (wk (hc _ _ (rfl)))
 ·have hlt : i < xs.length := by simp at h12;omega
  refine At.cond Z ?_;refine At.skip (At.seq ?_);refine At.block ?_;refine At.seq (At.region ?_);(iterate 2 refine Aa Z Z Z Z Z O ?_);refine Ab ?_;refine At.block ?_
  refine Az (X := { x : Nat × List Int // x.1 ≤ i ∧ x.2.length = xs.length ∧ innerM x.2 x.1 = outM xs (i + 1) }) [0,1,2,6,10,11,12,15] (fun x => [(7,.int .i64 (x.1.1 : Int))]) (fun x => .own b (.cells (List.toArray (blkI x.1.2 rest)) 3 (0,0)) :: H) (fun x => x.1.1) (⟨(i,outM xs i),Nat.le_refl _,hlen,outM_succ.symm⟩) rfl ?_ (by repeat (first | exact trivial | refine ⟨rfl,?_⟩)) sb
  rintro ⟨⟨j,ys⟩,hj,hy,hin⟩ again2
  simp only at again2 hj hy hin ⊢
  refine At.seq (At.seq ?_);refine Aw hmix [] rfl ?_;refine Ac 0 Z Z Z Z Z Z Z O ?_;refine Ac 1 Z Z Z Z Z Z Z O ?_;refine Bb 2 Z Z Z Z Z Z Z fun b18 h18 => ?_;refine Ac 3 Z Z Z Z Z Z Z O ?_
  cases b18
  ·have e : j = 0 := by simp at h18;omega
   subst e
   have e : ys = outM xs (i + 1) := hin
   subst e
   refine Av 4 Z Z Z Z Z Z ?_;refine Av 5 Z Z Z Z Z Z ?_;refine Av 6 Z Z Z Z Z Z ?_;refine Av 7 Z Z Z Z Z Z ?_;refine Av 8 Z Z Z Z Z Z ?_;refine Av 9 Z Z Z Z Z Z ?_;refine Av 10 Z Z Z Z Z Z ?_;refine Av 11 Z Z Z Z Z Z ?_;refine Av 12 Z Z Z Z Z Z ?_;refine Av 13 Z Z Z Z Z Z ?_
   refine Ac 14 Z Z Z Z Z Z Z O ?_;refine pool_done Z Z ?_;refine Ab ?_;refine At.cond Z ?_;refine At.exit rfl ?_;refine At.inBlock ?_;refine At.region ?_;refine Aa Z Z Z Z Z O ?_;refine Aa Z Z Z Z Z (by omega) ?_;refine Aa Z Z Z Z Z O ?_;refine Ab ?_
   refine Aq ((again ⟨i + 1,by omega,by omega⟩ (by simp;omega)))
  ·have hj0 : 0 < j := by simp at h18;omega
   have hr : Rd (.own b (.cells (List.toArray (blkI ys rest)) 3 (0,0)) :: H) (some ⟨b,0,none⟩) (ys.flatMap c1) := .inr ⟨b,0,rfl,cells_own (List.mem_cons_self ..) blkI_c1⟩
   obtain ⟨b1,off1,e1,hc1⟩ := hr.el (List.getElem?_eq_getElem (show j < ys.length by omega))
   obtain ⟨b2,off2,e2,hc2⟩ := hr.el (List.getElem?_eq_getElem (show j - 1 < ys.length by omega))
   cases e1
   cases e2
   obtain ⟨j,rfl⟩ : ∃ m,j = m + 1 := ⟨j - 1,by omega⟩
   have ein : innerM ys (j + 1) = if ys[j + 1] < ys[j] then innerM ((ys.set (j + 1) ys[j]).set j ys[j + 1]) j else ys := by
    rw [innerM,List.getElem?_eq_getElem (show j + 1 < ys.length by omega),List.getElem?_eq_getElem (show j < ys.length by omega)];rfl
   rw [ein] at hin
   refine Ac 4 Z Z Z Z Z Z Z O ?_;refine Ac 5 Z Z Z Z Z Z Z O ?_;refine Ak 6 Z Z Z Z Z (q_ia Z Z Z (by omega)) rfl ?_;refine Ax 7 Z Z Z Z Z Z Z hc1.a Z Z Z ?_;refine Ac 8 Z Z Z Z Z Z Z O ?_;refine Ac 9 Z Z Z Z Z Z Z O ?_;refine Ac 10 Z Z Z Z Z Z Z (by omega) ?_
   refine Ak 11 Z Z Z Z Z (q_iaN (k := (j + 1 - 1)) Z Z Z (by omega) (by omega)) rfl ?_;refine Ax 12 Z Z Z Z Z Z Z hc2.a Z Z Z ?_;refine Pool.cqb 13 Z Z Z Z Z Z Z Z Z (fun H hs => s145 L H) fun b29 h29 => ?_;refine Ac 14 Z Z Z Z Z Z Z O ?_;refine pool_done Z Z ?_;refine Ab ?_
   cases b29
   ·have e : ¬ ys[j + 1] < ys[j] := by simpa using h29
    rw [if_neg e] at hin
    subst hin
    refine At.cond Z ?_;refine At.exit rfl ?_;refine At.inBlock ?_;refine At.region ?_;refine Aa Z Z Z Z Z O ?_;refine Aa Z Z Z Z Z (by omega) ?_;refine Aa Z Z Z Z Z O ?_;refine Ab ?_
    refine Aq ((again ⟨i + 1,by omega,by omega⟩ (by simp;omega)))
   ·have e : ys[j + 1] < ys[j] := by simpa using h29
    rw [if_pos e] at hin
    have stopDraw := trivial
    refine At.cond Z ?_;refine At.skip (At.seq ?_);refine At.block ?_
    clear stopDraw
    refine Bd hmix (H) sb ?_;refine Ac 0 Z Z Z Z Z Z Z O ?_;refine Ac 1 Z Z Z Z Z Z Z O ?_;refine Ac 2 Z Z Z Z Z Z Z O ?_;refine Ac 3 Z Z Z Z Z Z Z O ?_;refine Ac 4 Z Z Z Z Z Z Z (by omega) ?_;refine Ac 5 Z Z Z Z Z Z Z O ?_;refine Ac 6 Z Z Z Z Z Z Z O ?_;refine Ac 7 Z Z Z Z Z Z Z (by omega) ?_
    refine Ak 8 Z Z Z Z Z (q_iaN (k := (j + 1 - 1)) Z Z Z (by omega) (by omega)) rfl ?_;refine Ac 10 Z Z Z Z Z Z Z O ?_;refine Ac 11 Z Z Z Z Z Z Z O ?_;refine Ak 12 Z Z Z Z Z (q_ia Z Z Z (by omega)) rfl ?_;refine Ak 14 Z Z Z Z Z (q_ia Z Z Z (by omega)) rfl ?_;refine Ak 16 Z Z Z Z Z (q_iaN (k := (j + 1 - 1)) Z Z Z (by omega) (by omega)) rfl ?_
    refine Pool.qlo2 9 13 Z Z Z Z Z Z Z Z Z Z Z Z Z Z Z Z Z Z Z Z Z Z Z Z Z Z Z Z (fun E' hE => q_load rfl ((hE _ (by decide)).trans rfl) tf3 hc2.a) (fun E' hE => q_load rfl ((hE _ (by decide)).trans rfl) tf3 hc1.a) ((Sub.refl _).drop _) ?_
    skip
    refine Pool.stN 0 15 (j + 1) Z Z Z Z Z Z Z Z Z Z Z Z Z Z Z (by simp) (by simp [blkI,ints];omega) rfl ((Sub.refl _).drop _) ?_;refine Pool.stN 0 17 j Z Z Z Z Z Z Z Z Z Z Z Z Z Z Z (by simp) (by simp [blkI,ints];omega) rfl ((Sub.refl _).drop _) ?_;refine pool_done Z Z ?_;refine Ab ?_;refine At.inBlock ?_;refine At.region ?_;refine Aa Z Z Z Z Z O ?_;refine Aa Z Z Z Z Z (by omega) ?_
    refine Aa Z Z Z Z Z O ?_;refine Ab ?_
    rw [blkI_set (by omega),blkI_set (by rw [List.length_set];omega)]
    rw [show ((j + 1 : Nat) : Int) - 1 = (j : Int) from by omega]
    refine Aq ((again2 ⟨(j,(ys.set (j + 1) ys[j]).set j ys[j + 1]),by omega,by simpa using hy,hin⟩ (by simp)))
end Go.Gx
end
section
namespace Go.Gx
open Go Go.Conc Go.Proofs
variable {main : Bool}
theorem s139n (L : Lg Tryz.prog main) (H : Facts) : Spec L 139 #[.slice none 0 0,.int .i64 0,.int .i64 0] H (fun _ H' => H' = H) := by
 refine Spec.enter Tryz.func139 rfl (by simp [Tryz.f139]) fun c cs hc => ?_;refine At.seq (At.region ?_);refine Aa Z Z Z Z Z O ?_;refine Aa Z Z Z Z Z (by omega) ?_;refine Aa Z Z Z Z Z O ?_;refine Ab ?_;refine At.block ?_;refine At.loop1 ?_;refine At.seq (At.seq (At.region ?_));(iterate 2 refine Aa Z Z Z Z Z O ?_);refine Ad Z Z Z Z Z fun b12 h12 => ?_;refine Ab ?_
 have e : b12 = false := by rw [← h12];rfl
 subst e
 refine At.cond Z ?_;refine At.exit rfl ?_
 exact At.ret Tryz.func139 (.inl rfl) rfl .nil (wk (hc _ _ (rfl)))
theorem s120 (L : Lg Tryz.prog main) (H : Facts) {b cap : Nat} {xs : List Int} {rest : List Value} {m : Int} (hl : xs.length ≤ 12) :
  Spec L 120 #[.slice (some ⟨b,0,none⟩) xs.length cap,.int .i64 0,.int .i64 xs.length,.int .i64 m] (.own b (.cells (List.toArray (blkI xs rest)) 3 (0,0)) :: H) (fun _ H' => H' = .own b (.cells (List.toArray (blkI (sortM xs) rest)) 3 (0,0)) :: H) := by
 refine Spec.enter Tryz.func120 rfl (by simp [Tryz.f120]) fun c cs hc => ?_;refine At.seq (At.region ?_);refine Aa Z Z Z Z Z O ?_;refine Ab (At.seq (At.region ?_));refine Aa Z Z Z Z Z O ?_;refine Ab ?_;refine At.block ?_;refine At.loop1 ?_;refine At.block ?_;refine At.seq (At.region ?_);(iterate 2 refine Aa Z Z Z Z Z O ?_);refine Aa Z Z Z Z Z (by omega) ?_;refine Aa Z Z Z Z Z O ?_
 refine Ab (At.seq (At.seq (At.region ?_)));refine Aa Z Z Z Z Z O ?_;refine Ad Z Z Z Z Z fun b23 h23 => ?_;refine Ab ?_
 have e : b23 = true := by rw [← h23];simp;omega
 subst e
 refine At.cond Z ?_;refine At.seq (At.region ?_);(iterate 3 refine Aa Z Z Z Z Z O ?_);refine Ay Z Z Z Z Z Z Z Z (s139 L H (by omega)) ?_
 rintro _ _ rfl
 refine Ab ?_
 exact At.ret Tryz.func120 (.inr ⟨_,rfl⟩) rfl .nil (wk (hc _ _ (rfl)))
theorem s120n (L : Lg Tryz.prog main) (H : Facts) {m : Int} : Spec L 120 #[.slice none 0 0,.int .i64 0,.int .i64 0,.int .i64 m] H (fun _ H' => H' = H) := by
 refine Spec.enter Tryz.func120 rfl (by simp [Tryz.f120]) fun c cs hc => ?_;refine At.seq (At.region ?_);refine Aa Z Z Z Z Z O ?_;refine Ab (At.seq (At.region ?_));refine Aa Z Z Z Z Z O ?_;refine Ab ?_;refine At.block ?_;refine At.loop1 ?_;refine At.block ?_;refine At.seq (At.region ?_);(iterate 2 refine Aa Z Z Z Z Z O ?_);refine Aa Z Z Z Z Z (by omega) ?_;refine Aa Z Z Z Z Z O ?_
 refine Ab (At.seq (At.seq (At.region ?_)));refine Aa Z Z Z Z Z O ?_;refine Ad Z Z Z Z Z fun b23 h23 => ?_;refine Ab ?_
 have e : b23 = true := by rw [← h23];rfl
 subst e
 refine At.cond Z ?_;refine At.seq (At.region ?_);(iterate 3 refine Aa Z Z Z Z Z O ?_);refine Ay Z Z Z Z Z Z Z Z (s139n L H) ?_
 rintro _ _ rfl
 refine Ab ?_
 exact At.ret Tryz.func120 (.inr ⟨_,rfl⟩) rfl .nil (wk (hc _ _ (rfl)))
theorem flat_c1 : ∀ {l : List Int},l.flatMap c1 = ints l := fun {l} => by induction l <;> simp_all [ints,c1]
theorem wrap_few {n : Nat} (h : n ≤ 3) : IntKind.wrap .u64 (n : Int) = 0 ∨ IntKind.wrap .u64 (n : Int) = 1 ∨ IntKind.wrap .u64 (n : Int) = 2 ∨ IntKind.wrap .u64 (n : Int) = 3 := by
 have : n = 0 ∨ n = 1 ∨ n = 2 ∨ n = 3 := by omega
 rcases this with rfl | rfl | rfl | rfl <;> decide
theorem sortM_len {xs : List Int} : (sortM xs).length = xs.length := outM_len
theorem s76 (L : Lg Tryz.prog main) (H : Facts) {v : Value} {xs : List Int} {sf : Facts} (hs : Sl c1 3 v xs sf) (hl : xs.length ≤ 3) : Spec L 76 #[v] (sf ++ H) (fun _ H' => ∃ sf',Sl c1 3 v (sortM xs) sf' ∧ H' = sf' ++ H) := by
 have hw := wrap_few hl
 unfold Sl at hs
 generalize hv : xs.flatMap c1 = vs at hs
 generalize hn : xs.length = n at hs
 cases hs with
 | nil =>
  obtain rfl : xs = [] := by simpa using hn
  have hw0 : IntKind.wrap .u64 0 = 0 ∨ IntKind.wrap .u64 0 = 1 ∨ IntKind.wrap .u64 0 = 2 ∨ IntKind.wrap .u64 0 = 3 := by decide
  refine Spec.enter Tryz.func76 rfl (by simp [Tryz.f76]) fun c cs hc => ?_;refine At.seq (At.region ?_);refine Aa Z Z Z Z Z O ?_;refine Ao Z Z Z Z Z Z Z Z ?_;refine Aa Z Z Z Z Z O ?_;refine Ab (At.region ?_);(iterate 3 refine Aa Z Z Z Z Z O ?_);refine Ae Z Z Z Z (q_conv Z Z Z) ?_;refine Ai Z Z Z Z Z Z Z Z (s121 L _ bs) ?_
  refine Ay Z Z Z Z Z Z Z Z (s120n L H) ?_
  rintro _ _ rfl
  refine Ab ?_
  exact At.ret Tryz.func76 (.inl rfl) rfl .nil (wk (hc _ _ (⟨[],Sl.nil,rfl⟩)))
 | own b cap _ _ rest hl2 hc2 hm =>
  subst hv
  subst hn
  rw [flat_c1]
  refine Spec.enter Tryz.func76 rfl (by simp [Tryz.f76]) fun c cs hc => ?_;refine At.seq (At.region ?_);refine Aa Z Z Z Z Z O ?_;refine Ao Z Z Z Z Z Z Z Z ?_;refine Aa Z Z Z Z Z O ?_;refine Ab (At.region ?_);(iterate 3 refine Aa Z Z Z Z Z O ?_);refine Ae Z Z Z Z (q_conv Z Z Z) ?_;refine Ai Z Z Z Z Z Z Z Z (s121 L _ bs) ?_
  refine Ay Z Z Z Z Z Z Z Z (s120 L H (rest := rest) (by omega)) ?_
  rintro _ _ rfl
  refine Ab ?_
  exact At.ret Tryz.func76 (.inl rfl) rfl .nil (wk (hc _ _ (⟨[_],by unfold Sl;rw [flat_c1,sortM_len];exact IsSl.own b cap _ _ rest (by simp [ints,sortM_len]) (by rw [← hc2,flat_c1];simp [ints,sortM_len]) hm,rfl⟩)))
end Go.Gx
end
section
namespace Go.Gx
open Go Go.Conc Go.Proofs
variable {main : Bool}
def compactM : List Int → List Int
 | [] => []
 | [x] => [x]
 | x :: y :: l => if y = x then compactM (y :: l) else x :: compactM (y :: l)
theorem zc1 : (Builtin.zeroCells (List.toArray [.int .i64 0]) (0 + 1)).toList = [.int .i64 0] := by
 simp [Builtin.zeroCells,List.range_succ]
theorem zc2 : (Builtin.zeroCells (List.toArray [.int .i64 0]) (1 + 1)).toList = [.int .i64 0,.int .i64 0] := by
 simp [Builtin.zeroCells,List.range_succ]
theorem putC_nil {l : List Value} : putC l [] = some l := by cases l <;> rfl
theorem slA_0 {b cap : Nat} : slA (some ⟨b,0,none⟩) cap 0 1 = some ⟨b,0,none⟩ := by
 unfold slA;split <;> rfl
theorem slA_k {b cap k : Nat} (h : k < cap) : slA (some ⟨b,0,none⟩) cap k 1 = some ⟨b,k,none⟩ := by
 unfold slA;rw [if_neg (by omega)];simp [add_none]
theorem isl_ints {b cap : Nat} {xs : List Int} {rest : List Value} (hc : xs.length + rest.length = cap) : Sl c1 3 (.slice (some ⟨b,0,none⟩) xs.length cap) xs [.own b (.cells (List.toArray (ints xs ++ rest)) 3 (0,0))] := by
 unfold Sl
 rw [flat_c1]
 exact IsSl.own b cap _ _ rest (by simp [ints]) (by simp [ints];omega) (by omega)
set_option maxRecDepth 100000 in
set_option maxHeartbeats 4000000 in
theorem s77 (L : Lg Tryz.prog main) (H : Facts) {v : Value} {xs : List Int} {sf : Facts} (hs : Sl c1 3 v xs sf) (hl : xs.length ≤ 3) : Spec L 77 #[v] (sf ++ H) (fun v' H' => ∃ sf',Sl c1 3 v' (compactM xs) sf' ∧ H' = sf' ++ H) := by
 have hs0 := hs
 unfold Sl at hs
 generalize hv : xs.flatMap c1 = vs at hs
 generalize hn : xs.length = n at hs
 cases hs with
 | nil =>
  obtain rfl : xs = [] := by simpa using hn
  refine Spec.enter Tryz.func77 rfl (by simp [Tryz.f77]) fun c cs hc => ?_;refine At.seq (At.region ?_);refine Aa Z Z Z Z Z O ?_;refine Ab (At.seq (At.seq (At.region ?_)));refine Aa Z Z Z Z Z O ?_;refine Ao Z Z Z Z Z Z Z Z ?_;refine Ad Z Z Z Z Z fun b8 h8 => ?_;refine Ab ?_
  have e : b8 = true := by rw [← h8];rfl
  subst e
  refine At.cond Z ?_;refine At.seq (At.region ?_);(iterate 2 refine Aa Z Z Z Z Z O ?_);refine Ab ?_
  exact At.ret Tryz.func77 (.inr ⟨_,rfl⟩) rfl (.tmp rfl .nil) (wk (hc _ _ (⟨[],Sl.nil,rfl⟩)))
 | own b cap _ _ rest hl2 hc2 hm =>
  subst hv
  subst hn
  rw [flat_c1] at hc2 hl2 ⊢
  have hcl : xs.length + rest.length = cap := by simpa [ints] using hc2
  refine Spec.enter Tryz.func77 rfl (by simp [Tryz.f77]) fun c cs hc => ?_
  match xs,hl with
  | [],_ =>
   simp only [ints,List.map_nil,List.nil_append,List.length_nil]
   refine At.seq (At.region ?_);refine Aa Z Z Z Z Z O ?_;refine Ab (At.seq (At.seq (At.region ?_)));refine Aa Z Z Z Z Z O ?_;refine Ao Z Z Z Z Z Z Z Z ?_;refine Ad Z Z Z Z Z fun b8 h8 => ?_;refine Ab ?_
   have e : b8 = true := by rw [← h8];rfl
   subst e
   refine At.cond Z ?_;refine At.seq (At.region ?_);(iterate 2 refine Aa Z Z Z Z Z O ?_);refine Ab ?_
   exact At.ret Tryz.func77 (.inr ⟨_,rfl⟩) rfl (.tmp rfl .nil) (wk (hc _ _ (⟨[_],isl_ints (xs := []) hcl,rfl⟩)))
  | [x],_ =>
   simp only [ints,List.map_nil,List.map_cons,List.nil_append,List.length_nil,List.length_cons,List.cons_append]
   refine At.seq (At.region ?_);refine Aa Z Z Z Z Z O ?_;refine Ab (At.seq (At.seq (At.region ?_)));refine Aa Z Z Z Z Z O ?_;refine Ao Z Z Z Z Z Z Z Z ?_;refine Ad Z Z Z Z Z fun b8 h8 => ?_;refine Ab ?_
   have e : b8 = true := by rw [← h8];rfl
   subst e
   refine At.cond Z ?_;refine At.seq (At.region ?_);(iterate 2 refine Aa Z Z Z Z Z O ?_);refine Ab ?_
   exact At.ret Tryz.func77 (.inr ⟨_,rfl⟩) rfl (.tmp rfl .nil) (wk (hc _ _ (⟨[_],isl_ints (xs := [x]) hcl,rfl⟩)))
  | [x,y],_ =>
   have hcl2 : 2 + rest.length = cap := hcl
   simp only [ints,List.map_nil,List.map_cons,List.nil_append,List.length_nil,List.length_cons,List.cons_append]
   have cl : Cells (.own b (.cells (List.toArray (.int .i64 x :: .int .i64 y :: rest)) 3 (0,0)) :: H) b 1 [.int .i64 y] := cells_own (List.mem_cons_self ..) rfl
   refine At.seq (At.region ?_);refine Aa Z Z Z Z Z O ?_;refine Ab (At.seq (At.seq (At.region ?_)));refine Aa Z Z Z Z Z O ?_;refine Ao Z Z Z Z Z Z Z Z ?_;refine Ad Z Z Z Z Z fun b8 h8 => ?_;refine Ab ?_
   have e : b8 = false := by rw [← h8];rfl
   subst e
   refine At.cond Z ?_;refine At.skip (At.seq (At.seq (At.region ?_)));refine Aa Z Z Z Z Z O ?_;refine Ab ?_;refine At.block ?_;refine At.loop1 ?_;refine At.seq (At.seq (At.region ?_));(iterate 2 refine Aa Z Z Z Z Z O ?_);refine Ao Z Z Z Z Z Z Z Z ?_;refine Ad Z Z Z Z Z fun b13 h13 => ?_;refine Ab ?_
   have e : b13 = true := by rw [← h13];rfl
   subst e
   refine At.cond Z ?_;refine At.skip (At.seq ?_);refine At.block ?_;refine At.seq ?_;refine Aw hmix [] rfl ?_;refine Ac 0 Z Z Z Z Z Z Z O ?_;refine Ac 1 Z Z Z Z Z Z Z O ?_;refine Ak 2 Z Z Z Z Z (q_ia Z Z Z (by dsimp only;omega)) rfl ?_;refine Ax 3 Z Z Z Z Z Z Z cl.a Z Z Z ?_;refine Ac 4 Z Z Z Z Z Z Z O ?_;refine Ac 5 Z Z Z Z Z Z Z O ?_
   refine Ac 6 Z Z Z Z Z Z Z (by omega) ?_;refine Ak 7 Z Z Z Z Z (q_ia Z Z Z (by dsimp only;omega)) rfl ?_;refine Aj 0 8 Z Z Z Z Z Z Z Z Z Z Z ?_;refine Bb 9 Z Z Z Z Z Z Z fun b25 h25 => ?_;refine pool_done Z Z ?_;refine Ab ?_
   cases b25
   ·have e : y ≠ x := by simpa using h25
    have ec : compactM [x,y] = [x,y] := by simp [compactM,e]
    refine At.cond Z ?_;refine At.skip ?_;refine At.inBlock ?_;refine At.region ?_;refine Aa Z Z Z Z Z O ?_;refine Aa Z Z Z Z Z (by omega) ?_;refine Aa Z Z Z Z Z O ?_;refine Ab ?_;refine At.inLoop ?_;refine At.seq (At.seq (At.region ?_));(iterate 2 refine Aa Z Z Z Z Z O ?_);refine Ao Z Z Z Z Z Z Z Z ?_;refine Ad Z Z Z Z Z fun b13 h13 => ?_;refine Ab ?_
    have e : b13 = false := by rw [← h13];rfl
    subst e
    refine At.cond Z ?_;refine At.exit rfl ?_;refine At.seq (At.region ?_);(iterate 2 refine Aa Z Z Z Z Z O ?_);refine Ab ?_
    exact At.ret Tryz.func77 (.inr ⟨_,rfl⟩) rfl (.tmp rfl .nil) (wk (hc _ _ (⟨[_],by rw [ec];exact isl_ints (xs := [x,y]) hcl,rfl⟩)))
   ·have e : y = x := by simpa using h25
    subst e
    have ec : compactM [y,y] = [y] := by simp [compactM]
    refine At.cond Z ?_;refine At.seq (At.region ?_);(iterate 2 refine Aa Z Z Z Z Z O ?_);refine Ae Z Z Z Z (q_sliceL (l := 1) Z Z Z (by omega)) ?_;refine Aa Z Z Z Z Z O ?_;refine Ab (At.seq (At.seq (At.region ?_)));refine Aa Z Z Z Z Z O ?_;refine Ab ?_;refine At.block ?_
    rw [slA_k (by omega)]
    refine At.loop1 ?_;refine At.seq (At.seq (At.region ?_));(iterate 2 refine Aa Z Z Z Z Z O ?_);refine Ao Z Z Z Z Z Z Z Z ?_;refine Ad Z Z Z Z Z fun b32 h32 => ?_;refine Ab ?_
    have e : b32 = false := by rw [← h32];rfl
    subst e
    refine At.cond Z ?_;refine At.exit rfl ?_;refine At.seq (At.region ?_);(iterate 2 refine Aa Z Z Z Z Z O ?_);refine Ae Z Z Z Z (q_sliceL (l := 1) Z Z Z (by omega)) ?_
    rw [slA_k (by omega)]
    refine At.s Z Z Z (l_clear (t := 46) (z := [.int .i64 0]) (vs := [.int .i64 0]) (l' := .int .i64 y :: .int .i64 0 :: rest) 0 Z Z Z Z Z zc1 rfl (by simp [setC,putC,putC_nil]) rfl) ?_
    rintro _ _ ⟨rfl,rfl⟩
    refine Ab (At.seq (At.region ?_));(iterate 2 refine Aa Z Z Z Z Z O ?_);refine Ae Z Z Z Z (q_sliceH (h := 1) Z Z Z (by omega)) ?_;refine Aa Z Z Z Z Z O ?_;refine Ab ?_
    rw [slA_0]
    exact At.ret Tryz.func77 (.inr ⟨_,rfl⟩) rfl (.tmp rfl .nil) (wk (hc _ _ (⟨[_],by rw [ec];exact isl_ints (xs := [y]) (rest := .int .i64 0 :: rest) (by simp;omega),rfl⟩)))
  | [x,y,z],_ =>
   have hcl2 : 3 + rest.length = cap := hcl
   simp only [ints,List.map_nil,List.map_cons,List.nil_append,List.length_nil,List.length_cons,List.cons_append]
   have cl : Cells (.own b (.cells (List.toArray (.int .i64 x :: .int .i64 y :: .int .i64 z :: rest)) 3 (0,0)) :: H) b 2 [.int .i64 z] := cells_own (List.mem_cons_self ..) rfl
   refine At.seq (At.region ?_);refine Aa Z Z Z Z Z O ?_;refine Ab (At.seq (At.seq (At.region ?_)));refine Aa Z Z Z Z Z O ?_;refine Ao Z Z Z Z Z Z Z Z ?_;refine Ad Z Z Z Z Z fun b8 h8 => ?_;refine Ab ?_
   have e : b8 = false := by rw [← h8];rfl
   subst e
   refine At.cond Z ?_;refine At.skip (At.seq (At.seq (At.region ?_)));refine Aa Z Z Z Z Z O ?_;refine Ab ?_;refine At.block ?_;refine At.loop1 ?_;refine At.seq (At.seq (At.region ?_));(iterate 2 refine Aa Z Z Z Z Z O ?_);refine Ao Z Z Z Z Z Z Z Z ?_;refine Ad Z Z Z Z Z fun b13 h13 => ?_;refine Ab ?_
   have e : b13 = true := by rw [← h13];rfl
   subst e
   refine At.cond Z ?_;refine At.skip (At.seq ?_);refine At.block ?_;refine At.seq ?_;refine Aw hmix [] rfl ?_;refine Ac 0 Z Z Z Z Z Z Z O ?_;refine Ac 1 Z Z Z Z Z Z Z O ?_;refine Ak 2 Z Z Z Z Z (q_ia Z Z Z (by dsimp only;omega)) rfl ?_;refine Aj 0 3 Z Z Z Z Z Z Z Z Z Z Z ?_;refine Ac 4 Z Z Z Z Z Z Z O ?_;refine Ac 5 Z Z Z Z Z Z Z O ?_
   refine Ac 6 Z Z Z Z Z Z Z (by omega) ?_;refine Ak 7 Z Z Z Z Z (q_ia Z Z Z (by dsimp only;omega)) rfl ?_;refine Aj 0 8 Z Z Z Z Z Z Z Z Z Z Z ?_;refine Bb 9 Z Z Z Z Z Z Z fun b25 h25 => ?_;refine pool_done Z Z ?_;refine Ab ?_
   cases b25
   ·have e1 : y ≠ x := by simpa using h25
    clear h25
    refine At.cond Z ?_;refine At.skip ?_;refine At.inBlock ?_;refine At.region ?_;refine Aa Z Z Z Z Z O ?_;refine Aa Z Z Z Z Z (by omega) ?_;refine Aa Z Z Z Z Z O ?_;refine Ab ?_;refine At.inLoop ?_;refine At.seq (At.seq (At.region ?_));(iterate 2 refine Aa Z Z Z Z Z O ?_);refine Ao Z Z Z Z Z Z Z Z ?_;refine Ad Z Z Z Z Z fun b13 h13 => ?_;refine Ab ?_
    have e : b13 = true := by rw [← h13];rfl
    subst e
    refine At.cond Z ?_;refine At.skip (At.seq ?_);refine At.block ?_;refine At.seq ?_;refine Aw hmix [] rfl ?_;refine Ac 0 Z Z Z Z Z Z Z O ?_;refine Ac 1 Z Z Z Z Z Z Z O ?_;refine Ak 2 Z Z Z Z Z (q_ia Z Z Z (by assumption)) rfl ?_;refine Ax 3 Z Z Z Z Z Z Z cl.a Z Z Z ?_;refine Ac 4 Z Z Z Z Z Z Z O ?_;refine Ac 5 Z Z Z Z Z Z Z O ?_
    refine Ac 6 Z Z Z Z Z Z Z (by omega) ?_;refine Ak 7 Z Z Z Z Z (q_ia Z Z Z (by dsimp only;omega)) rfl ?_;refine Aj 0 8 Z Z Z Z Z Z Z Z Z Z Z ?_;refine Bb 9 Z Z Z Z Z Z Z fun b25 h25 => ?_;refine pool_done Z Z ?_;refine Ab ?_
    cases b25
    ·have e2 : z ≠ y := by simpa using h25
     have ec : compactM [x,y,z] = [x,y,z] := by simp [compactM,e1,e2]
     refine At.cond Z ?_;refine At.skip ?_;refine At.inBlock ?_;refine At.region ?_;refine Aa Z Z Z Z Z O ?_;refine Aa Z Z Z Z Z (by omega) ?_;refine Aa Z Z Z Z Z O ?_;refine Ab ?_;refine At.inLoop ?_;refine At.seq (At.seq (At.region ?_));(iterate 2 refine Aa Z Z Z Z Z O ?_);refine Ao Z Z Z Z Z Z Z Z ?_;refine Ad Z Z Z Z Z fun b13 h13 => ?_;refine Ab ?_
     have e : b13 = false := by rw [← h13];rfl
     subst e
     refine At.cond Z ?_;refine At.exit rfl ?_;refine At.seq (At.region ?_);(iterate 2 refine Aa Z Z Z Z Z O ?_);refine Ab ?_
     exact At.ret Tryz.func77 (.inr ⟨_,rfl⟩) rfl (.tmp rfl .nil) (wk (hc _ _ (⟨[_],by rw [ec];exact isl_ints (xs := [x,y,z]) hcl,rfl⟩)))
    ·have e2 : z = y := by simpa using h25
     subst e2
     have ec : compactM [x,z,z] = [x,z] := by simp [compactM,e1]
     refine At.cond Z ?_;refine At.seq (At.region ?_);(iterate 2 refine Aa Z Z Z Z Z O ?_);refine Ae Z Z Z Z (q_sliceL (l := 2) Z Z Z (by omega)) ?_;refine Aa Z Z Z Z Z O ?_;refine Ab (At.seq (At.seq (At.region ?_)));refine Aa Z Z Z Z Z O ?_;refine Ab ?_;refine At.block ?_
     rw [slA_k (by omega)]
     refine At.loop1 ?_;refine At.seq (At.seq (At.region ?_));(iterate 2 refine Aa Z Z Z Z Z O ?_);refine Ao Z Z Z Z Z Z Z Z ?_;refine Ad Z Z Z Z Z fun b32 h32 => ?_;refine Ab ?_
     have e : b32 = false := by rw [← h32];rfl
     subst e
     refine At.cond Z ?_;refine At.exit rfl ?_;refine At.seq (At.region ?_);(iterate 2 refine Aa Z Z Z Z Z O ?_);refine Ae Z Z Z Z (q_sliceL (l := 2) Z Z Z (by omega)) ?_
     rw [slA_k (by omega)]
     refine At.s Z Z Z (l_clear (t := 46) (z := [.int .i64 0]) (vs := [.int .i64 0]) (l' := .int .i64 x :: .int .i64 z :: .int .i64 0 :: rest) 0 Z Z Z Z Z zc1 rfl (by simp [setC,putC,putC_nil]) rfl) ?_
     rintro _ _ ⟨rfl,rfl⟩
     refine Ab (At.seq (At.region ?_));(iterate 2 refine Aa Z Z Z Z Z O ?_);refine Ae Z Z Z Z (q_sliceH (h := 2) Z Z Z (by omega)) ?_;refine Aa Z Z Z Z Z O ?_;refine Ab ?_
     rw [slA_0]
     exact At.ret Tryz.func77 (.inr ⟨_,rfl⟩) rfl (.tmp rfl .nil) (wk (hc _ _ (⟨[_],by rw [ec];exact isl_ints (xs := [x,z]) (rest := .int .i64 0 :: rest) (by simp;omega),rfl⟩)))
   ·have e1 : y = x := by simpa using h25
    subst e1
    refine At.cond Z ?_;refine At.seq (At.region ?_);(iterate 2 refine Aa Z Z Z Z Z O ?_);refine Ae Z Z Z Z (q_sliceL (l := 1) Z Z Z (by omega)) ?_;refine Aa Z Z Z Z Z O ?_;refine Ab (At.seq (At.seq (At.region ?_)));refine Aa Z Z Z Z Z O ?_;refine Ab ?_;refine At.block ?_
    rw [slA_k (by omega)]
    refine At.loop1 ?_;refine At.seq (At.seq (At.region ?_));(iterate 2 refine Aa Z Z Z Z Z O ?_);refine Ao Z Z Z Z Z Z Z Z ?_;refine Ad Z Z Z Z Z fun b32 h32 => ?_;refine Ab ?_
    have e : b32 = true := by rw [← h32];rfl
    subst e
    refine At.cond Z ?_;refine At.skip (At.seq ?_);refine At.block ?_;refine At.seq ?_;refine Aw hmix [] rfl ?_;refine Ac 0 Z Z Z Z Z Z Z O ?_;refine Ac 1 Z Z Z Z Z Z Z O ?_;refine Ak 2 Z Z Z Z Z (q_ia Z Z Z (by dsimp only;omega)) rfl ?_;refine Ax 3 Z Z Z Z Z Z Z cl.a Z Z Z ?_;refine Ac 4 Z Z Z Z Z Z Z O ?_;refine Ac 5 Z Z Z Z Z Z Z O ?_
    refine Ac 6 Z Z Z Z Z Z Z (by omega) ?_;refine Ak 7 Z Z Z Z Z (q_ia Z Z Z (by dsimp only;omega)) rfl ?_;refine Aj 0 8 Z Z Z Z Z Z Z Z Z Z Z ?_;refine Bb 9 Z Z Z Z Z Z Z fun b44 h44 => ?_;refine pool_done Z Z ?_;refine Ab ?_
    cases b44
    ·have e2 : z = y := by simpa using h44
     subst e2
     have ec : compactM [z,z,z] = [z] := by simp [compactM]
     refine At.cond Z ?_;refine At.skip ?_;refine At.inBlock ?_;refine At.region ?_;refine Aa Z Z Z Z Z O ?_;refine Aa Z Z Z Z Z (by omega) ?_;refine Aa Z Z Z Z Z O ?_;refine Ab ?_;refine At.inLoop ?_;refine At.seq (At.seq (At.region ?_));(iterate 2 refine Aa Z Z Z Z Z O ?_);refine Ao Z Z Z Z Z Z Z Z ?_;refine Ad Z Z Z Z Z fun b32 h32 => ?_;refine Ab ?_
     have e : b32 = false := by rw [← h32];rfl
     subst e
     refine At.cond Z ?_;refine At.exit rfl ?_;refine At.seq (At.region ?_);(iterate 2 refine Aa Z Z Z Z Z O ?_);refine Ae Z Z Z Z (q_sliceL (l := 1) Z Z Z (by omega)) ?_
     rw [slA_k (by omega)]
     refine At.s Z Z Z (l_clear (t := 46) (z := [.int .i64 0]) (vs := [.int .i64 0,.int .i64 0]) (l' := .int .i64 z :: .int .i64 0 :: .int .i64 0 :: rest) 0 Z Z Z Z Z zc2 rfl (by simp [setC,putC,putC_nil]) rfl) ?_
     rintro _ _ ⟨rfl,rfl⟩
     refine Ab (At.seq (At.region ?_));(iterate 2 refine Aa Z Z Z Z Z O ?_);refine Ae Z Z Z Z (q_sliceH (h := 1) Z Z Z (by omega)) ?_;refine Aa Z Z Z Z Z O ?_;refine Ab ?_
     rw [slA_0]
     exact At.ret Tryz.func77 (.inr ⟨_,rfl⟩) rfl (.tmp rfl .nil) (wk (hc _ _ (⟨[_],by rw [ec];exact isl_ints (xs := [z]) (rest := .int .i64 0 :: .int .i64 0 :: rest) (by simp;omega),rfl⟩)))
    ·have e2 : z ≠ y := by simpa using h44
     have ec : compactM [y,y,z] = [y,z] := by simp [compactM,e2]
     refine At.cond Z ?_;refine At.seq (At.region ?_);(iterate 4 refine Aa Z Z Z Z Z O ?_);refine Ae Z Z Z Z (q_ia Z Z Z (by dsimp only;omega)) ?_;refine Au Z Z Z Z Z Z cl.a Z Z ?_;refine Ae Z Z Z Z (q_ia Z Z Z (by dsimp only;omega)) ?_;refine Ag 0 Z Z Z Z Z Z Z Z Z Z Z Z ?_;refine Ab (At.region ?_);refine Aa Z Z Z Z Z O ?_
     refine Aa Z Z Z Z Z (by omega) ?_;refine Aa Z Z Z Z Z O ?_;refine Ab ?_;refine At.inBlock ?_;refine At.region ?_;refine Aa Z Z Z Z Z O ?_;refine Aa Z Z Z Z Z (by omega) ?_;refine Aa Z Z Z Z Z O ?_;refine Ab ?_;refine At.inLoop ?_;refine At.seq (At.seq (At.region ?_));(iterate 2 refine Aa Z Z Z Z Z O ?_);refine Ao Z Z Z Z Z Z Z Z ?_
     refine Ad Z Z Z Z Z fun b32 h32 => ?_;refine Ab ?_
     have e : b32 = false := by rw [← h32];rfl
     subst e
     refine At.cond Z ?_;refine At.exit rfl ?_;refine At.seq (At.region ?_);(iterate 2 refine Aa Z Z Z Z Z O ?_);refine Ae Z Z Z Z (q_sliceL (l := 2) Z Z Z (by omega)) ?_
     rw [slA_k (by omega)]
     refine At.s Z Z Z (l_clear (t := 46) (z := [.int .i64 0]) (vs := [.int .i64 0]) (l' := .int .i64 y :: .int .i64 z :: .int .i64 0 :: rest) 0 Z Z Z Z Z zc1 rfl (by simp [setC,putC,putC_nil]) rfl) ?_
     rintro _ _ ⟨rfl,rfl⟩
     refine Ab (At.seq (At.region ?_));(iterate 2 refine Aa Z Z Z Z Z O ?_);refine Ae Z Z Z Z (q_sliceH (h := 2) Z Z Z (by omega)) ?_;refine Aa Z Z Z Z Z O ?_;refine Ab ?_
     rw [slA_0]
     exact At.ret Tryz.func77 (.inr ⟨_,rfl⟩) rfl (.tmp rfl .nil) (wk (hc _ _ (⟨[_],by rw [ec];exact isl_ints (xs := [y,z]) (rest := .int .i64 0 :: rest) (by simp;omega),rfl⟩)))
end Go.Gx
end
section
namespace Go.Gx
open Go Go.Conc Go.Proofs
structure OpS (H Hs : Facts) (B : Bk) (A : BkA) : Prop where
 sub : Sub Hs H
 sh : ∀ f ∈ Hs,f.isOwn = false
 o : Opn Hs B A
theorem OpS.a {H H' Hs : Facts} {B : Bk} {A : BkA} (h : OpS H Hs B A) (hs : Sub H H' := by repeat (first | exact Sub.refl _ | assumption | exact Sub.pre _ _ | apply Sub.cons | apply Sub.drop | apply Sub.appL | apply Sub.dropL | refine Sub.trans ?_ (by assumption))) : OpS H' Hs B A := ⟨h.sub.trans hs,h.sh,h.o⟩
theorem OpS.opn {H Hs : Facts} {B : Bk} {A : BkA} (h : OpS H Hs B A) : Opn H B A := h.o.a h.sub
theorem Sl.pos {α : Type} {c : α → List Value} {sz : Nat} [he : Enc c sz] {T : TypeId} {v : Value} {xs : List α} {sf : Facts} (h : Sl c T v xs sf) (h0 : 0 < xs.length) : ∃ b cap rest,v = .slice (some ⟨b,0,none⟩) xs.length cap ∧ sf = [.own b (.cells (List.toArray (xs.flatMap c ++ rest)) T (0,0))] := by
 unfold Sl at h
 generalize hvs : xs.flatMap c = vs at h
 generalize hk : xs.length = k at h
 cases h with
 | nil => omega
 | own b cap _ _ rest hl hc hm => exact ⟨b,cap,rest,rfl,rfl⟩
theorem rd_seg {H : Facts} {b : Nat} {vs rest : List Value} (hm : .seg b 0 (vs ++ rest) ∈ H) : Rd H (some ⟨b,0,none⟩) vs :=
 rd_cells (by have := cells_seg (vs := vs) 0 hm (by simp);simpa using this)
theorem OpS.kn {H Hs : Facts} {B : Bk} {A : BkA} {b : Nat} {rest : List Value} (h : OpS H Hs B A) (hz : bookBar B = 0) (h0 : 0 < (statesM B).length) {H' : Facts} (hs : Sub (.seg b 0 ((statesM B).flatMap c1 ++ rest) :: H) H') : Kn H' (.seg b 0 ((statesM B).flatMap c1 ++ rest) :: Hs) B A (some ⟨b,0,none⟩) (statesM B) := by
 refine ⟨(h.sub.cons _).trans hs,?_,h.o.r.a,hz,rd_seg (List.mem_cons_self ..),statesM_len hz,?_,h0⟩
 ·intro f hf
  rcases List.mem_cons.1 hf with rfl | hf
  ·rfl
  ·exact h.sh f hf
 ·intro i hi
  have hb := bounds_of_bar hz
  unfold statesM at hi
  have hi := (List.mem_filter.1 hi).1
  unfold bandL at hi
  obtain ⟨k,hk,rfl⟩ := List.mem_map.1 hi
  rw [List.mem_range] at hk
  unfold EyeOk;omega
theorem knownBar_pos {B : Bk} {rs : List Int} (h : knownBar B rs = 0) : bookBar B = 0 ∧ firstBar rs = 0 ∧ 0 < (statesM B).length := by
 unfold knownBar at h
 by_cases hz : bookBar B = 0
 ·rw [lookBar1 hz] at h
  by_cases hf : firstBar rs = 0
  ·rw [if_neg (by simpa using hf)] at h
   refine ⟨hz,hf,?_⟩
   by_cases h0 : (statesM B).length = 0
   ·rw [if_pos h0] at h;omega
   ·omega
  ·rw [if_pos hf] at h;exact absurd h hf
 ·rw [lookBarN hz,if_pos hz] at h;exact absurd h hz
def rowsOf (B : Bk) (s : R2) : List Int := (statesM B).map fun e => rowM B e s
def rowsM (B : Bk) (s : R2) : List Int := compactM (sortM ((rowsOf B s).filter fun r => decide (r ≠ -1)))
theorem rowsOf_len {B : Bk} (hz : bookBar B = 0) (s : R2) : (rowsOf B s).length ≤ 3 := by
 have := statesM_len hz
 simpa [rowsOf] using this
def lookS (s : R2) : List Value := lookC z0 z0 (.int .i64 s.1) (.int .i64 s.2) zl z0 z0 z0 z0 z0 z0
set_option maxRecDepth 100000 in
theorem bars_lookS {main : Bool} (L : Lg Tryz.prog main) (s : R2) (H : Facts) : Bars L H [slopF (lookS s)] [slopeBar s.1 s.2] :=
 .cons (fun H' _ => spec_slop L H') .nil
set_option maxRecDepth 100000 in
set_option maxHeartbeats 4000000 in
theorem s25 {Post : Value → World → Prop} {W₀ : World} {H Hs : Facts} {B : Bk} {A : BkA} {s : R2} (hO : OpS H Hs B A) :
  Grows (mainLg Tryz.prog Post W₀ [] []) 25 #[bkV B A,rV s] H (fun v sf => ∃ a cap,v = .tuple #[.slice a (if knownBar B [slopeBar s.1 s.2] ≠ 0 then [] else rowsM B s).length cap,.int .i64 (if knownBar B [slopeBar s.1 s.2] ≠ 0 then 0 else wordM (statesM B).length (((rowsOf B s).count (-1) : Nat) : Int)),.int .i64 (knownBar B [slopeBar s.1 s.2])] ∧
   Sl c1 3 (.slice a (if knownBar B [slopeBar s.1 s.2] ≠ 0 then [] else rowsM B s).length cap) (if knownBar B [slopeBar s.1 s.2] ≠ 0 then [] else rowsM B s) sf) := by
 refine Spec.enter Tryz.func25 rfl (by simp [Tryz.f25]) fun c cs hc => ?_
 generalize hL : mainLg Tryz.prog Post W₀ [] [] = L at hc ⊢
 have hOp := hO.opn
 generalize hk : knownBar B [slopeBar s.1 s.2] = r at hc
 by_cases hr : r = 0
 ·subst hr
  obtain ⟨hz,hf,h0⟩ := knownBar_pos hk
  simp only [ne_eq,not_true_eq_false,if_false] at hc
  have hsl := slOk_of s (by simpa [firstBar1] using hf)
  have hl3 := rowsOf_len hz s
  refine At.seq (At.region ?_);refine An Z Z Z Z Z Z Z fun r2 => ?_;refine An Z Z Z Z Z Z Z fun r3 => ?_;(iterate 3 refine Aa Z Z Z Z Z O ?_);refine Ab (At.seq (At.region ?_));refine Af 1 Z Z Z Z Z Z Z Z Z ?_;refine Af 0 Z Z Z Z Z Z Z Z Z ?_;refine Ae Z Z Z Z (q_build Z Z Z) ?_;refine Aa Z Z Z Z Z O ?_
  (refine At.l Z Z Z Z (l_buildSlice Z Z Z Z Z) ?_;rintro _ _ ⟨r16,rfl,rfl⟩)
  refine Ay Z Z Z Z Z Z Z Z (s74z L _ (fs := [_]) hOp.a hz hf (by omega) rfl (rd_own 0 Z Z) (bars_lookS L s _) (by simp)) ?_
  rintro _ _ ⟨sf,⟨a,cap,rfl,hst⟩,rfl⟩
  obtain ⟨b,cap',rest,e1,rfl⟩ := hst.pos h0
  cases e1
  refine At.share ?_;(iterate 3 refine Aa Z Z Z Z Z O ?_);refine Al Z Z Z Z Z fun r7 => ?_;refine Ag 0 Z Z Z Z Z Z Z Z Z Z Z Z ?_;refine Aa Z Z Z Z Z O ?_;refine Ab (At.seq (At.seq (At.region ?_)));refine Aa Z Z Z Z Z O ?_;refine Ad Z Z Z Z Z fun b21 h21 => ?_;refine Ab ?_
  have e : b21 = false := by rw [← h21];rfl
  subst e
  refine At.cond Z ?_;refine At.skip (At.seq (At.region ?_));refine Af 0 Z Z Z Z Z Z Z Z Z ?_;refine Af 3 Z Z Z Z Z Z Z Z Z ?_
  subst hL
  refine Ay Z Z Z Z Z Z Z Z (s75 (hO.kn (rest := rest) hz h0 (((((Sub.refl _).drop _).drop _).drop _).cons _ |>.drop _)) rfl hsl) ?_
  rintro _ _ ⟨sl,hsl2,rfl⟩
  obtain ⟨a2,cap2,rfl⟩ := hsl2.slice
  change Sl c1 3 (.slice a2 (rowsOf B s).length cap2) (rowsOf B s) sl at hsl2
  change At _ _ _ _ _ _ ((25,.slice a2 (rowsOf B s).length cap2) :: _) _ _
  obtain ⟨_,hrl,_⟩ := hsl2.rd
  have hl : Rd (sl ++ H) a2 ((rowsOf B s).flatMap c1) := hrl.a
  generalize hL : mainLg Tryz.prog Post W₀ [] [] = L at hc ⊢
  refine At.rot 1 rfl ?_
  refine At.weakH (H' := .own r7 (.cells (List.toArray (knC B A (some ⟨b,0,none⟩) (statesM B).length cap)) 145 (0,0)) :: (sl ++ H)) ?_ ((((((Sub.refl H).drop _).drop _).drop _).drop _ |>.appL sl).cons _)
  refine Aa Z Z Z Z Z O ?_;refine Ab (At.seq (At.seq (At.region ?_)));refine Aa Z Z Z Z Z O ?_;refine Ao Z Z Z Z Z Z Z Z ?_;refine Aa Z Z Z Z Z O ?_;refine Ab ?_;refine At.block ?_
  refine Az (X := { x : Nat × Value × Facts // x.1 ≤ (rowsOf B s).length ∧ Sl c1 3 x.2.1 (((rowsOf B s).take x.1).filter fun r => decide (r ≠ -1)) x.2.2 }) [5,6,7,8,26,27] (fun x => [(28,.int .i64 (x.1.1 : Int)),(4,x.1.2.1)]) (fun x => .own r7 (.cells (List.toArray (knC B A (some ⟨b,0,none⟩) (statesM B).length cap)) 145 (0,0)) :: (x.1.2.2 ++ (sl ++ H))) (fun x => (rowsOf B s).length - x.1.1) (⟨(0,.slice none 0 0,[]),Nat.zero_le _,Sl.nil⟩) rfl ?_ (by repeat (first | exact trivial | refine ⟨rfl,?_⟩)) sb
  rintro ⟨⟨j,v,sr⟩,hj,hsr⟩ again
  simp only at again hj hsr ⊢
  refine At.seq (At.region ?_);refine Ad Z Z Z Z Z fun b29 h29 => ?_;refine Ab (At.seq ?_)
  cases b29
  ·have e : j = (rowsOf B s).length := by simp at h29;omega
   subst e
   rw [List.take_length] at hsr
   have hfl : ((rowsOf B s).filter fun r => decide (r ≠ -1)).length ≤ 3 := Nat.le_trans (List.length_filter_le _ _) hl3
   refine At.cond Z ?_;refine At.exit rfl ?_;refine At.seq (At.region ?_);refine Aa Z Z Z Z Z O ?_
   refine At.weakH (H' := sr ++ (.own r7 (.cells (List.toArray (knC B A (some ⟨b,0,none⟩) (statesM B).length cap)) 145 (0,0)) :: (sl ++ H))) ?_ (Sub.of_perm List.perm_middle)
   refine Ay Z Z Z Z Z Z Z Z (s76 L _ hsr hfl) ?_
   rintro _ _ ⟨sr',hsr',rfl⟩
   refine Ab (At.seq ?_);refine At.rot 1 rfl ?_;refine At.drawS hmix 1 rfl ?_
   have stop79 := trivial
   refine Ac 0 Z Z Z Z Z Z Z O ?_;refine Aj 0 2 Z Z Z Z Z Z Z Z Z Z Z ?_;refine Ac 3 Z Z Z Z Z Z Z O ?_;refine Pool.cx 1 Z Z Z Z Z Z Z Z Z Z Z Z Z Z List.perm_middle (fun R_ => (s77 L _ hsr' (by rw [sortM_len];exact hfl))) sb ?_
   intro v' sf' hs'
   obtain ⟨a3,cap3,rfl⟩ := hs'.slice
   refine Ac 6 Z Z Z Z Z Z Z O ?_;refine Ac 8 Z Z Z Z Z Z Z O ?_
   clear stop79
   refine Ap 4 Z Z Z Z Z Z Z Z Z (fun H_ hs_ => s79 L _ (xs := rowsOf B s) rfl hl.a (by omega)) ?_;refine Ap 5 Z Z Z Z Z Z Z Z Z (fun H hs => s78 L H) ?_;refine Ac 7 Z Z Z Z Z Z Z O ?_;refine pool_done Z Z ?_;refine Ab ?_
   exact At.ret Tryz.func25 (.inr ⟨_,rfl⟩) rfl (.tmp rfl (.tmp rfl (.tmp rfl .nil))) (wk (hc _ _ (⟨sf',⟨a3,cap3,rfl,hs'⟩,rfl⟩)))
  ·have hlt : j < (rowsOf B s).length := by simp at h29;omega
   obtain ⟨b',off',rfl,hc1⟩ := hl.el (List.getElem?_eq_getElem hlt)
   have et : (rowsOf B s).take (j + 1) = (rowsOf B s).take j ++ [(rowsOf B s)[j]] := List.take_succ_eq_append_getElem hlt
   have hlen : (((rowsOf B s).take j).filter fun r => decide (r ≠ -1)).length ≤ 3 := Nat.le_trans (List.length_filter_le _ _) (by rw [List.length_take];omega)
   refine At.cond Z ?_;refine At.skip (At.seq ?_);refine At.block ?_;refine At.seq (At.region ?_);refine Ae Z Z Z Z (q_ia Z Z Z (by assumption)) ?_;refine Au Z Z Z Z Z Z hc1.a Z Z ?_;refine Aa Z Z Z Z Z O ?_;refine Ab (At.seq (At.region ?_));refine Aa Z Z Z Z Z O ?_;refine Ad Z Z Z Z Z fun b33 h33 => ?_;refine Ab ?_
   cases b33
   ·have e : (rowsOf B s)[j] = -1 := by simpa using h33
    refine At.cond Z ?_;refine At.skip ?_;refine At.inBlock ?_;refine At.region ?_;refine Aa Z Z Z Z Z (by omega) ?_;refine Aa Z Z Z Z Z O ?_;refine Ab ?_
    refine Aq ((again ⟨(j + 1,v,sr),hlt,by rw [et,List.filter_append];simpa [e] using hsr⟩ (by simp;omega)))
   ·have e : (rowsOf B s)[j] ≠ -1 := by simpa using h33
    refine At.cond Z ?_;refine At.region ?_;(iterate 2 refine Aa Z Z Z Z Z O ?_)
    (refine At.l Z Z Z Z (l_buildSlice Z Z Z Z Z) ?_;rintro _ _ ⟨r36,rfl,rfl⟩)
    refine At.push (x := (rowsOf B s)[j]) 0 2 Z Z Z Z Z Z Z Z Z Z Z Z Z Z hsr Z Z Z ?_ fun v sf hs => ?_
    ·omega
    ·refine Aa Z Z Z Z Z O ?_
     refine Ab ?_;refine At.inBlock ?_;refine At.region ?_;refine Aa Z Z Z Z Z (by omega) ?_;refine Aa Z Z Z Z Z O ?_;refine Ab ?_
     refine Aq ((again ⟨(j + 1,_,sf),hlt,by rw [et,List.filter_append];simpa [e] using hs⟩ (by simp;omega)))
 ·simp only [if_pos hr] at hc
  refine At.seq (At.region ?_);refine An Z Z Z Z Z Z Z fun r2 => ?_;refine An Z Z Z Z Z Z Z fun r3 => ?_;(iterate 3 refine Aa Z Z Z Z Z O ?_);refine Ab (At.seq (At.region ?_));refine Af 1 Z Z Z Z Z Z Z Z Z ?_;refine Af 0 Z Z Z Z Z Z Z Z Z ?_;refine Ae Z Z Z Z (q_build Z Z Z) ?_;refine Aa Z Z Z Z Z O ?_
  (refine At.l Z Z Z Z (l_buildSlice Z Z Z Z Z) ?_;rintro _ _ ⟨r16,rfl,rfl⟩)
  refine Ai Z Z Z Z Z Z Z Z (s74n L _ (fs := [_]) hOp.a (by rw [hk];exact hr) rfl (rd_own 0 Z Z) (bars_lookS L s _) (by simp)) ?_
  rw [hk]
  (iterate 3 refine Aa Z Z Z Z Z O ?_);refine Al Z Z Z Z Z fun r7 => ?_;refine Ag 0 Z Z Z Z Z Z Z Z Z Z Z Z ?_;refine Aa Z Z Z Z Z O ?_;refine Ab (At.seq (At.seq (At.region ?_)));refine Aa Z Z Z Z Z O ?_;refine Ad Z Z Z Z Z fun b21 h21 => ?_;refine Ab ?_
  have e : b21 = true := by rw [← h21];simpa using hr
  subst e
  refine At.cond Z ?_;refine At.seq (At.region ?_);(iterate 4 refine Aa Z Z Z Z Z O ?_);refine Ab ?_
  exact At.ret Tryz.func25 (.inr ⟨_,rfl⟩) rfl (.tmp rfl (.tmp rfl (.tmp rfl .nil))) (wk (hc _ _ (⟨[],⟨none,0,rfl,Sl.nil⟩,rfl⟩)))
end Go.Gx
end
