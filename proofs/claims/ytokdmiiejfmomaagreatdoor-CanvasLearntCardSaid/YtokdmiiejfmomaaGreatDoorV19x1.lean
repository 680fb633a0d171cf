/-
  The law CanvasLearnt (what is marked, or known better of the eye, never adds a state or a row, and takes back nothing that was sure): its tied card holds, for every input, without a condition.
-/
import Derived.Test.YtokdmiiejfmomaaGreatDoorW6
import Derived.SevenTiedAt
section
set_option linter.unusedSimpArgs false
set_option linter.unusedVariables false
namespace Go.Gx
open Go Go.Conc Go.Proofs Go.ChangeShapes Go.RowKit YtokdmiiejfmomaaGreatDoor
set_option maxRecDepth 100000
theorem Shr.ro {W : World} {Hs : Facts} (h : Shr W Hs) : ∀ f ∈ ([.seg 0 0 chkC] ++ Hs : Facts), f.isOwn = false := by
  intro f hf
  rcases List.mem_append.1 hf with hf | hf
  · rw [List.mem_singleton] at hf; subst hf; rfl
  · exact (h f hf).1
section
variable {H : Type} {enc : TypeId × Value → H} {W : World} {sp : Nat → Bool} {held : Bool}

theorem open_band {r : Reach} {b0 : Nat} {v : Value} {d : DataW H} {ps : List MemPlace} (hval : Value.okWide Tryz.prog W r b0 24 v) (hd : DataW.Trod enc Tryz.prog W 0 sp held 24 v d ps) :
    ∃ s : R2, v = .agg #[.int .i64 s.1, .int .i64 s.2] := by
  obtain ⟨cs, rfl, hsz⟩ := Go.WideShapes.okWide_struct Tryz.underlying24 hval
  obtain ⟨fuel, hf⟩ := hd
  obtain ⟨l⟩ := cs
  obtain ⟨a, b, e⟩ := two Tryz.underlying24 ⟨rfl, rfl⟩ ⟨rfl, rfl⟩ (by kernel_rfl) (by kernel_rfl) hf
  have e' : l = [.int .i64 a, .int .i64 b] := e
  subst e'
  exact ⟨(a, b), rfl⟩
theorem open_mark {r : Reach} {b0 : Nat} {v : Value} {d : DataW H} {ps : List MemPlace} (hval : Value.okWide Tryz.prog W r b0 94 v) (hd : DataW.Trod enc Tryz.prog W 0 sp held 94 v d ps) :
    ∃ m : R2 × Int, v = .agg #[.int .i64 m.1.1, .int .i64 m.1.2, .int .i64 m.2] := by
  obtain ⟨cs, rfl, hsz⟩ := Go.WideShapes.okWide_struct Tryz.underlying94 hval
  obtain ⟨fuel, hf⟩ := hd
  obtain ⟨l⟩ := cs
  obtain ⟨m, e⟩ := three hf
  have e' : l = c3 m := e
  subst e'
  exact ⟨m, rfl⟩
end
end Go.Gx
end

section
set_option linter.unusedSimpArgs false
set_option linter.unusedVariables false
namespace Go.Gx
open Go Go.Conc Go.Proofs

instance : BoI Tryz.prog 4 := ⟨by kernel_rfl⟩
theorem low_slope {n d : Int} (h1 : -20 ≤ n ∧ n ≤ 20) (h2 : 1 ≤ d ∧ d ≤ 20) : slopeBar (low n d).1 (low n d).2 = 0 := by
  have key : ∀ a ∈ (List.range 41), ∀ b ∈ (List.range 20), slopeBar (low ((a : Int) - 20) ((b : Int) + 1)).1 (low ((a : Int) - 20) ((b : Int) + 1)).2 = 0 := by decide +kernel
  have := key (n + 20).toNat (by rw [List.mem_range]; omega) (d - 1).toNat (by rw [List.mem_range]; omega)
  rwa [show (((n + 20).toNat : Nat) : Int) - 20 = n by omega, show (((d - 1).toNat : Nat) : Int) + 1 = d by omega] at this
end Go.Gx
end

section
set_option linter.unusedSimpArgs false
set_option linter.unusedVariables false
namespace Go.Gx
open Go Go.Conc Go.Proofs
variable {main : Bool}

/-! ### the reference's piece and point that is met, and that they are the program's -/
end Go.Gx
end

section
set_option linter.unusedSimpArgs false
set_option linter.unusedVariables false
namespace Go.Gx
open Go Go.Conc Go.Proofs
variable {main : Bool}

end Go.Gx
end

section
set_option linter.unusedSimpArgs false
set_option linter.unusedVariables false
namespace Go.Gx
open Go Go.Conc Go.Proofs
variable {main : Bool}

end Go.Gx
end

section
set_option linter.unusedSimpArgs false
set_option linter.unusedVariables false
namespace Go.Gx
open Go Go.Conc Go.Proofs
variable {main : Bool}

end Go.Gx
end

section
set_option linter.unusedSimpArgs false
set_option linter.unusedVariables false
namespace Go.Gx
open Go Go.Conc Go.Proofs
variable {main : Bool}

end Go.Gx
end

section
/-
  LOGIC G: what a call has made is put behind the cells that one knows by their places.
-/
set_option linter.unusedSimpArgs false
set_option linter.unusedVariables false
namespace Go.Gx
open Go Go.Conc
/-- 'Y' is 'sf ++ X' with the own cells that stand first in 'X' ahead of 'sf'. -/
class Back (sf X : Facts) (Y : outParam Facts) : Prop where
  s : Sub Y (sf ++ X)
instance (priority := low) backNil {sf X : Facts} : Back sf X (sf ++ X) := ⟨Sub.refl _⟩
instance backCons {sf X Y : Facts} {r : Nat} {o : Obj} [h : Back sf X Y] : Back sf (.own r o :: X) (.own r o :: Y) :=
  ⟨(Sub.cons _ h.s).trans (Sub.of_perm List.perm_middle.symm)⟩
theorem At.back {P : Program} {main : Bool} {L : Lg P main} {f : FuncId} {ro : Option Nat} {ds : Dz} {cs : List Frame} {n : Nat} {E : Env} {k : List Item} {sf X Y : Facts} [hb : Back sf X Y] (h : At L f ro ds cs n E Y k) : At L f ro ds cs n E (sf ++ X) k :=
  h.weakH hb.s
end Go.Gx
end

section
set_option linter.unusedSimpArgs false
set_option linter.unusedVariables false
namespace Go.Gx
open Go Go.Conc Go.Proofs

end Go.Gx
end

section
set_option linter.unusedSimpArgs false
set_option linter.unusedVariables false
namespace Go.Gx
open Go Go.Conc Go.Proofs
variable {main : Bool}

end Go.Gx
end

section
set_option linter.unusedSimpArgs false
set_option linter.unusedVariables false
namespace Go.Gx
open Go Go.Conc Go.Proofs
variable {main : Bool}

end Go.Gx
end

section
set_option linter.unusedSimpArgs false
set_option linter.unusedVariables false
namespace Go.Gx
open Go Go.Conc Go.Proofs

end Go.Gx
end

section
set_option linter.unusedSimpArgs false
set_option linter.unusedVariables false
namespace Go.Gx
open Go Go.Conc Go.Proofs
variable {main : Bool}

def knR (B : Bk) (r : Int) : Int := if bookBar B ≠ 0 then bookBar B else if r ≠ 0 then r else if (statesM B).length = 0 then 9 else 0
theorem knR_eq (B : Bk) (rs : List Int) : knR B (firstBar rs) = knownBar B rs := by
  unfold knR knownBar lookBar
  by_cases hz : bookBar B = 0
  · simp [hz]
  · simp [hz]
end Go.Gx
end

section
set_option linter.unusedSimpArgs false
set_option linter.unusedVariables false
namespace Go.Gx
open Go Go.Conc Go.Proofs
variable {main : Bool}

/-! ### where a line meets the canvas, and in which row -/
theorem mem_states {B : Bk} {e : Int} : e ∈ statesM B ↔ (B.lo ≤ e ∧ e ≤ B.hi) ∧ rightM B e = true := by
  unfold statesM bandL
  rw [List.mem_filter, List.mem_map]
  constructor
  · rintro ⟨⟨k, hk, rfl⟩, h⟩
    rw [List.mem_range] at hk
    exact ⟨by omega, h⟩
  · rintro ⟨h1, h⟩
    exact ⟨⟨(e - B.lo).toNat, by rw [List.mem_range]; omega, by omega⟩, h⟩
/-! ### the reference's sorting -/
end Go.Gx
end

section
set_option linter.unusedSimpArgs false
set_option linter.unusedVariables false
namespace Go.Gx
open Go Go.Conc Go.Proofs
variable {main : Bool}

theorem sortM3 (a b c : Int) : sortM [a, b, c] = if b < a then (if c < a then (if c < b then [c, b, a] else [b, c, a]) else [b, a, c]) else (if c < b then (if c < a then [c, a, b] else [a, c, b]) else [a, b, c]) := by
  by_cases h1 : b < a <;> by_cases h2 : c < a <;> by_cases h3 : c < b <;> simp [sortM, outM, innerM, List.range_succ, h1, h2, h3]
end Go.Gx
end

section
set_option linter.unusedSimpArgs false
set_option linter.unusedVariables false
namespace Go.Gx
open Go Go.Conc Go.Proofs
variable {main : Bool}

theorem kn_book {B : Bk} {r : Int} (h : knR B r = 0) : bookBar B = 0 := by
  unfold knR at h
  split at h
  · exact h
  · rename_i h1; simpa using h1
end Go.Gx
end

section
set_option linter.unusedSimpArgs false
set_option linter.unusedVariables false
namespace Go.Gx
open Go Go.Conc Go.Proofs
variable {main : Bool}

end Go.Gx
end

section
set_option linter.unusedSimpArgs false
set_option linter.unusedVariables false
namespace Go.Gx
open Go Go.Conc Go.Proofs
variable {main : Bool}

end Go.Gx
end

section
set_option linter.unusedSimpArgs false
set_option linter.unusedVariables false
namespace Go.Gx
open Go Go.Conc Go.Proofs

theorem kb_book {B : Bk} {rs : List Int} (h : ¬ knownBar B rs ≠ 0) : bookBar B = 0 := by
  rw [← knR_eq] at h
  exact kn_book (Classical.not_not.1 h)
theorem compactM_len : ∀ (l : List Int), (compactM l).length ≤ l.length
  | [] => Nat.le_refl _
  | [x] => Nat.le_refl _
  | x :: y :: l => by
    have := compactM_len (y :: l)
    unfold compactM
    split
    · simp at this ⊢; omega
    · simp at this ⊢; omega
theorem rowsM_len {B : Bk} (hz : bookBar B = 0) {s : R2} : (rowsM B s).length ≤ 3 := by
  unfold rowsM
  refine Nat.le_trans (compactM_len _) ?_
  rw [sortM_len]
  exact Nat.le_trans (List.length_filter_le _ _) (rowsOf_len hz s)
end Go.Gx
end

section
/-
  LOGIC G: a growing list is shared: nobody writes it any more.
-/
set_option linter.unusedSimpArgs false
set_option linter.unusedVariables false
namespace Go.Gx
open Go Go.Conc
theorem Sl.share {α : Type} {c : α → List Value} {sz : Nat} [he : Enc c sz] {T : TypeId} {v : Value} {xs : List α} {sf : Facts} (h : Sl c T v xs sf) :
    ∃ sg : Facts, (∀ f ∈ sg, f.isOwn = false) ∧ (∀ a n cap, v = .slice a n cap → Rd sg a (xs.flatMap c)) ∧
      ∀ {P : Program} {main : Bool} {L : Lg P main} {f : FuncId} {ro : Option Nat} {ds : Dz} {cs : List Frame} {n : Nat} {E : Env} {k : List Item} {H : Facts}, At L f ro ds cs n E (sg ++ H) k → At L f ro ds cs n E (sf ++ H) k := by
  unfold Sl at h
  generalize hvs : xs.flatMap c = vs at h
  generalize hk : xs.length = k at h
  cases h with
  | nil => exact ⟨[], by simp, fun a n cap e => by cases e; exact .inl rfl, fun h => h⟩
  | own b cap _ _ rest hl hc hm =>
    refine ⟨[.seg b 0 (vs ++ rest)], ?_, ?_, fun h => At.share h⟩
    · intro f hf
      rw [List.mem_singleton] at hf
      subst hf
      rfl
    · intro a n cap' e
      cases e
      exact rd_cells (by have := cells_seg (H := [.seg b 0 (vs ++ rest)]) (vs := vs) (us := vs ++ rest) (b := b) (off := 0) 0 (by simp) (by simp); simpa using this)
end Go.Gx
end

section
set_option linter.unusedSimpArgs false
set_option linter.unusedVariables false
namespace Go.Gx
open Go Go.Conc Go.Proofs
variable {main : Bool}

/-! ### a book whose marks are right for an eye -/
/-! ### the plain law of CanvasReal -/
theorem sortM_mem3 {l : List Int} (h : l.length ≤ 3) (x : Int) : x ∈ compactM (sortM l) ↔ x ∈ l := by
  match l, h with
  | [], _ => simp [sortM, outM, innerM, compactM]
  | [a], _ => simp [sortM, outM, innerM, compactM, List.range_succ]
  | [a, b], _ =>
    have e : sortM [a, b] = if b < a then [b, a] else [a, b] := by
      by_cases h1 : b < a <;> simp [sortM, outM, innerM, List.range_succ, h1]
    rw [e]
    split
    · unfold compactM
      split
      · simp [compactM]; omega
      · simp [compactM]; omega
    · unfold compactM
      split
      · simp [compactM]; omega
      · simp [compactM]
  | [a, b, c], _ =>
    rw [sortM3]
    have key : ∀ p q r : Int, x ∈ compactM [p, q, r] ↔ x = p ∨ x = q ∨ x = r := by
      intro p q r
      unfold compactM
      split
      · rename_i h1
        unfold compactM
        split
        · simp [compactM]; omega
        · simp [compactM]; omega
      · unfold compactM
        split
        · simp [compactM]; omega
        · simp [compactM]
    split <;> split <;> (try split) <;> rw [key] <;> simp <;> omega
theorem rowsM_mem {B : Bk} (hz : bookBar B = 0) {s : R2} {x : Int} : x ∈ rowsM B s ↔ x ≠ -1 ∧ ∃ e ∈ statesM B, rowM B e s = x := by
  unfold rowsM
  rw [sortM_mem3 (Nat.le_trans (List.length_filter_le _ _) (rowsOf_len hz s)), List.mem_filter]
  unfold rowsOf
  rw [List.mem_map]
  simp only [decide_eq_true_eq]
  exact And.comm
end Go.Gx
end

section
set_option linter.unusedSimpArgs false
set_option linter.unusedVariables false
namespace Go.Gx
open Go Go.Conc Go.Proofs

theorem kn0 {B : Bk} {rs : List Int} (hz : bookBar B = 0) (hr : firstBar rs = 0) (hs : (statesM B).length ≠ 0) : knownBar B rs = 0 := by
  rw [← knR_eq, hr]
  unfold knR
  rw [if_neg (by simpa using hz), if_neg (by simp), if_neg hs]
end Go.Gx
end

section
set_option linter.unusedSimpArgs false
set_option linter.unusedVariables false
namespace Go.Gx
open Go Go.Conc Go.Proofs
variable {main : Bool}

def sameM (B C : Bk) : Bool := decide (B.size = C.size ∧ (B.lo = C.lo ∧ B.hi = C.hi) ∧ B.prof = C.prof ∧ B.marks = C.marks)
set_option maxRecDepth 100000 in
set_option maxHeartbeats 4000000 in
/-- Same (ref02) -/
theorem s78 (L : Lg Tryz.prog main) (H : Facts) {B C : Bk} {A D : BkA} (hB : BkR H B A) (hC : BkR H C D) (hl : B.prof.length ≤ 100000) (hm : B.marks.length ≤ 100000) : Pure L 78 #[bkV B A, bkV C D] H (.bool (sameM B C)) := by
  refine Spec.enter Tryz.func78 rfl (by simp [Tryz.f78]) fun c cs hc => ?_
  have hp1 := hB.p
  have hp2 := hC.p
  have hm1 := hB.m
  have hm2 := hC.m
  unfold sameM at hc
  refine At.seq (At.region ?_); refine At.bx rfl rfl rfl rfl rfl rfl rfl fun r2 => ?_; refine At.bx rfl rfl rfl rfl rfl rfl rfl fun r3 => ?_; refine At.v rfl rfl rfl rfl rfl trivial ?_; refine At.regionEnd (At.seq (At.seq (At.region ?_))); refine At.fa 1 rfl rfl rfl rfl rfl rfl rfl ?_; refine At.ld 1 rfl rfl rfl rfl rfl rfl rfl rfl rfl ?_; refine At.fa 1 rfl rfl rfl rfl rfl rfl rfl ?_; refine At.ld 0 rfl rfl rfl rfl rfl rfl rfl rfl rfl ?_; refine At.cp rfl rfl rfl rfl rfl fun b11 h11 => ?_
  refine At.v rfl rfl rfl rfl rfl trivial ?_
  cases b11
  rotate_left
  · have e : B.size ≠ C.size := by simpa using h11
    rw [decide_eq_false (fun h => e h.1)] at hc
    (iterate 5 refine At.un rfl rfl rfl rfl ?_); (iterate 2 refine At.v rfl rfl rfl rfl rfl trivial ?_); (iterate 7 refine At.un rfl rfl rfl rfl ?_); (iterate 2 refine At.v rfl rfl rfl rfl rfl trivial ?_); (iterate 7 refine At.un rfl rfl rfl rfl ?_); refine At.v rfl rfl rfl rfl rfl trivial ?_; refine At.regionEnd ?_; refine At.cond rfl ?_; refine At.seq (At.region ?_); refine At.v rfl rfl rfl rfl rfl trivial ?_; refine At.regionEnd ?_
    exact At.ret Tryz.func78 (.inr ⟨_, rfl⟩) rfl (.tmp rfl .nil) (wk (hc _ _ (⟨by rfl, rfl⟩)))
  have q1 : B.size = C.size := by simpa using h11
  refine At.fa 2 rfl rfl rfl rfl rfl rfl rfl ?_; refine At.ld 1 rfl rfl rfl rfl rfl rfl rfl rfl rfl ?_; refine At.fa 2 rfl rfl rfl rfl rfl rfl rfl ?_; refine At.ld 0 rfl rfl rfl rfl rfl rfl rfl rfl rfl ?_; refine At.qb rfl rfl rfl rfl (q_neqS rfl rfl rfl rfl rfl rfl rfl rfl) fun b17 h17 => ?_; (iterate 2 refine At.v rfl rfl rfl rfl rfl trivial ?_)
  cases b17
  rotate_left
  · have e : ¬ (B.lo = C.lo ∧ B.hi = C.hi) := by
      rintro ⟨h1, h2⟩
      rw [h1, h2] at h17
      simp at h17
    rw [decide_eq_false (fun h => e h.2.1)] at hc
    (iterate 7 refine At.un rfl rfl rfl rfl ?_); (iterate 2 refine At.v rfl rfl rfl rfl rfl trivial ?_); (iterate 7 refine At.un rfl rfl rfl rfl ?_); refine At.v rfl rfl rfl rfl rfl trivial ?_; refine At.regionEnd ?_; refine At.cond rfl ?_; refine At.seq (At.region ?_); refine At.v rfl rfl rfl rfl rfl trivial ?_; refine At.regionEnd ?_
    exact At.ret Tryz.func78 (.inr ⟨_, rfl⟩) rfl (.tmp rfl .nil) (wk (hc _ _ (⟨by rfl, rfl⟩)))
  have q2 : B.lo = C.lo ∧ B.hi = C.hi := by simpa using h17
  refine At.fa 0 rfl rfl rfl rfl rfl rfl rfl ?_; refine At.ld 1 rfl rfl rfl rfl rfl rfl rfl rfl rfl ?_; refine At.ln rfl rfl rfl rfl rfl rfl rfl rfl ?_; refine At.fa 0 rfl rfl rfl rfl rfl rfl rfl ?_; refine At.ld 0 rfl rfl rfl rfl rfl rfl rfl rfl rfl ?_; refine At.ln rfl rfl rfl rfl rfl rfl rfl rfl ?_; refine At.cp rfl rfl rfl rfl rfl fun b26 h26 => ?_; (iterate 2 refine At.v rfl rfl rfl rfl rfl trivial ?_)
  cases b26
  rotate_left
  · have e : B.prof.length ≠ C.prof.length := by simp at h26; omega
    rw [decide_eq_false (fun h => e (by rw [h.2.2.1]))] at hc
    (iterate 7 refine At.un rfl rfl rfl rfl ?_); refine At.v rfl rfl rfl rfl rfl trivial ?_; refine At.regionEnd ?_; refine At.cond rfl ?_; refine At.seq (At.region ?_); refine At.v rfl rfl rfl rfl rfl trivial ?_; refine At.regionEnd ?_
    exact At.ret Tryz.func78 (.inr ⟨_, rfl⟩) rfl (.tmp rfl .nil) (wk (hc _ _ (⟨by rfl, rfl⟩)))
  have q3 : B.prof.length = C.prof.length := by simp at h26; omega
  refine At.fa 4 rfl rfl rfl rfl rfl rfl rfl ?_; refine At.ld 1 rfl rfl rfl rfl rfl rfl rfl rfl rfl ?_; refine At.ln rfl rfl rfl rfl rfl rfl rfl rfl ?_; refine At.fa 4 rfl rfl rfl rfl rfl rfl rfl ?_; refine At.ld 0 rfl rfl rfl rfl rfl rfl rfl rfl rfl ?_; refine At.ln rfl rfl rfl rfl rfl rfl rfl rfl ?_; refine At.cp rfl rfl rfl rfl rfl fun b35 h35 => ?_; refine At.v rfl rfl rfl rfl rfl trivial ?_; refine At.regionEnd ?_
  cases b35
  rotate_left
  · have e : B.marks.length ≠ C.marks.length := by simp at h35; omega
    rw [decide_eq_false (fun h => e (by rw [h.2.2.2]))] at hc
    refine At.cond rfl ?_; refine At.seq (At.region ?_); refine At.v rfl rfl rfl rfl rfl trivial ?_; refine At.regionEnd ?_
    exact At.ret Tryz.func78 (.inr ⟨_, rfl⟩) rfl (.tmp rfl .nil) (wk (hc _ _ (⟨by rfl, rfl⟩)))
  have q4 : B.marks.length = C.marks.length := by simp at h35; omega
  refine At.cond rfl ?_; refine At.skip (At.seq (At.seq (At.region ?_))); refine At.v rfl rfl rfl rfl rfl trivial ?_; refine At.regionEnd ?_; refine At.block ?_
  refine At.lpk (X := { j : Nat // j ≤ B.prof.length ∧ (B.prof.drop j = C.prof.drop j ↔ B.prof = C.prof) }) [2, 3] (fun x => [(5, .int .i64 (x.1 : Int))]) (fun _ => .own r3 (.cells (List.toArray (bkC C D)) 27 (0, 0)) :: .own r2 (.cells (List.toArray (bkC B A)) 27 (0, 0)) :: H) (fun x => B.prof.length - x.1) (⟨0, Nat.zero_le _, Iff.rfl⟩) rfl ?_ (by repeat (first | exact trivial | refine ⟨rfl, ?_⟩)) sb
  rintro ⟨j, hj, hd⟩ again
  simp only at again ⊢
  refine At.seq (At.seq (At.region ?_)); refine At.v rfl rfl rfl rfl rfl trivial ?_; refine At.fa 0 rfl rfl rfl rfl rfl rfl rfl ?_; refine At.ld 1 rfl rfl rfl rfl rfl rfl rfl rfl rfl ?_; refine At.ln rfl rfl rfl rfl rfl rfl rfl rfl ?_; refine At.cp rfl rfl rfl rfl rfl fun b41 h41 => ?_; refine At.regionEnd ?_
  cases b41
  rotate_left
  · have h1 : j < B.prof.length := by simp at h41; omega
    have h2 : j < C.prof.length := by omega
    obtain ⟨pa, pc, ma, mc⟩ := A
    obtain ⟨pa', pc', ma', mc'⟩ := D
    obtain ⟨b, off, e1, c1⟩ := hp1.el (List.getElem?_eq_getElem h1)
    obtain ⟨b', off', e2, c2⟩ := hp2.el (List.getElem?_eq_getElem h2)
    simp only at e1 e2
    subst e1 e2
    rw [ext_drop q3 h1 h2] at hd
    refine At.cond rfl ?_; refine At.skip (At.seq ?_); refine At.block ?_; refine At.seq ?_; refine At.drawJ hmix [] rfl ?_; refine Pool.fa 0 0 rfl rfl rfl rfl rfl rfl rfl rfl rfl ?_; refine Pool.ld 1 1 rfl rfl rfl rfl rfl rfl rfl rfl rfl rfl rfl ?_; refine Pool.v 2 rfl rfl rfl rfl rfl rfl rfl trivial ?_; refine Pool.q 3 rfl rfl rfl rfl rfl (q_ia rfl rfl rfl (by assumption)) rfl ?_; refine Pool.ldc 4 rfl rfl rfl rfl rfl rfl rfl c1.a rfl rfl rfl ?_
    refine Pool.fa 0 5 rfl rfl rfl rfl rfl rfl rfl rfl rfl ?_; refine Pool.ld 0 6 rfl rfl rfl rfl rfl rfl rfl rfl rfl rfl rfl ?_; refine Pool.v 7 rfl rfl rfl rfl rfl rfl rfl trivial ?_; refine Pool.q 8 rfl rfl rfl rfl rfl (q_ia rfl rfl rfl (by assumption)) rfl ?_; refine Pool.ldc 9 rfl rfl rfl rfl rfl rfl rfl c2.a rfl rfl rfl ?_; refine Pool.qb 10 rfl rfl rfl rfl rfl (q_neqS rfl rfl rfl rfl rfl rfl rfl rfl) rfl fun b54 h54 => ?_; refine pool_done rfl rfl ?_; refine At.regionEnd ?_
    cases b54
    · have e : B.prof[j] = C.prof[j] := by
        simp at h54
        exact Prod.ext h54.1 h54.2
      refine At.cond rfl ?_; refine At.skip ?_; refine At.inBlock ?_; refine At.region ?_; refine At.v rfl rfl rfl rfl rfl trivial ?_; refine At.v rfl rfl rfl rfl rfl (by omega) ?_; refine At.v rfl rfl rfl rfl rfl trivial ?_; refine At.regionEnd ?_
      refine At.tA ((again ⟨j + 1, h1, by rw [← hd]; simp [e]⟩ (by simp; omega)))
    · have e : B.prof[j] ≠ C.prof[j] := by
        intro e
        rw [e] at h54
        simp at h54
      rw [decide_eq_false (fun h => e (hd.2 h.2.2.1).1)] at hc
      refine At.cond rfl ?_; refine At.seq (At.region ?_); refine At.v rfl rfl rfl rfl rfl trivial ?_; refine At.regionEnd ?_
      exact At.ret Tryz.func78 (.inr ⟨_, rfl⟩) rfl (.tmp rfl .nil) (wk (hc _ _ (⟨by rfl, rfl⟩)))
  · have e : j = B.prof.length := by simp at h41; omega
    subst e
    have q5 : B.prof = C.prof := by
      rw [← hd, List.drop_length, q3, List.drop_length]
    refine At.cond rfl ?_; refine At.exit rfl ?_; refine At.seq (At.seq (At.region ?_)); refine At.v rfl rfl rfl rfl rfl trivial ?_; refine At.regionEnd ?_; refine At.block ?_
    refine At.lpk (X := { j : Nat // j ≤ B.marks.length ∧ (B.marks.drop j = C.marks.drop j ↔ B.marks = C.marks) }) [2, 3] (fun x => [(6, .int .i64 (x.1 : Int))]) (fun _ => .own r3 (.cells (List.toArray (bkC C D)) 27 (0, 0)) :: .own r2 (.cells (List.toArray (bkC B A)) 27 (0, 0)) :: H) (fun x => B.marks.length - x.1) (⟨0, Nat.zero_le _, Iff.rfl⟩) rfl ?_ (by repeat (first | exact trivial | refine ⟨rfl, ?_⟩)) sb
    rintro ⟨j, hj, hd2⟩ again2
    simp only at again2 ⊢
    refine At.seq (At.seq (At.region ?_)); refine At.v rfl rfl rfl rfl rfl trivial ?_; refine At.fa 4 rfl rfl rfl rfl rfl rfl rfl ?_; refine At.ld 1 rfl rfl rfl rfl rfl rfl rfl rfl rfl ?_; refine At.ln rfl rfl rfl rfl rfl rfl rfl rfl ?_; refine At.cp rfl rfl rfl rfl rfl fun b59 h59 => ?_; refine At.regionEnd ?_
    cases b59
    rotate_left
    · have h1 : j < B.marks.length := by simp at h59; omega
      have h2 : j < C.marks.length := by omega
      obtain ⟨pa, pc, ma, mc⟩ := A
      obtain ⟨pa', pc', ma', mc'⟩ := D
      obtain ⟨b, off, e1, c1⟩ := hm1.el (List.getElem?_eq_getElem h1)
      obtain ⟨b', off', e2, c2⟩ := hm2.el (List.getElem?_eq_getElem h2)
      simp only at e1 e2
      subst e1 e2
      rw [ext_drop q4 h1 h2] at hd2
      refine At.cond rfl ?_; refine At.skip (At.seq ?_); refine At.block ?_; refine At.seq ?_; refine At.drawJ hmix [] rfl ?_; refine Pool.fa 4 0 rfl rfl rfl rfl rfl rfl rfl rfl rfl ?_; refine Pool.ld 1 1 rfl rfl rfl rfl rfl rfl rfl rfl rfl rfl rfl ?_; refine Pool.v 2 rfl rfl rfl rfl rfl rfl rfl trivial ?_; refine Pool.q 3 rfl rfl rfl rfl rfl (q_ia rfl rfl rfl (by assumption)) rfl ?_; refine Pool.ldc 4 rfl rfl rfl rfl rfl rfl rfl c1.a rfl rfl rfl ?_
      refine Pool.fa 4 5 rfl rfl rfl rfl rfl rfl rfl rfl rfl ?_; refine Pool.ld 0 6 rfl rfl rfl rfl rfl rfl rfl rfl rfl rfl rfl ?_; refine Pool.v 7 rfl rfl rfl rfl rfl rfl rfl trivial ?_; refine Pool.q 8 rfl rfl rfl rfl rfl (q_ia rfl rfl rfl (by assumption)) rfl ?_; refine Pool.ldc 9 rfl rfl rfl rfl rfl rfl rfl c2.a rfl rfl rfl ?_; refine Pool.qb 10 rfl rfl rfl rfl rfl (q_neqS rfl rfl rfl rfl rfl rfl rfl rfl) rfl fun b72 h72 => ?_; refine pool_done rfl rfl ?_; refine At.regionEnd ?_
      cases b72
      · have e : B.marks[j] = C.marks[j] := by
          simp at h72
          exact Prod.ext (Prod.ext h72.1 h72.2.1) h72.2.2
        refine At.cond rfl ?_; refine At.skip ?_; refine At.inBlock ?_; refine At.region ?_; refine At.v rfl rfl rfl rfl rfl trivial ?_; refine At.v rfl rfl rfl rfl rfl (by omega) ?_; refine At.v rfl rfl rfl rfl rfl trivial ?_; refine At.regionEnd ?_
        refine At.tA ((again2 ⟨j + 1, h1, by rw [← hd2]; simp [e]⟩ (by simp; omega)))
      · have e : B.marks[j] ≠ C.marks[j] := by
          intro e
          rw [e] at h72
          simp at h72
        rw [decide_eq_false (fun h => e (hd2.2 h.2.2.2).1)] at hc
        refine At.cond rfl ?_; refine At.seq (At.region ?_); refine At.v rfl rfl rfl rfl rfl trivial ?_; refine At.regionEnd ?_
        exact At.ret Tryz.func78 (.inr ⟨_, rfl⟩) rfl (.tmp rfl .nil) (wk (hc _ _ (⟨by rfl, rfl⟩)))
    · have e : j = B.marks.length := by simp at h59; omega
      subst e
      have q6 : B.marks = C.marks := by
        rw [← hd2, List.drop_length, q4, List.drop_length]
      rw [decide_eq_true ⟨q1, q2, q5, q6⟩] at hc
      refine At.cond rfl ?_; refine At.exit rfl ?_; refine At.seq (At.region ?_); refine At.v rfl rfl rfl rfl rfl trivial ?_; refine At.regionEnd ?_
      exact At.ret Tryz.func78 (.inr ⟨_, rfl⟩) rfl (.tmp rfl .nil) (wk (hc _ _ (⟨by rfl, rfl⟩)))
/-! ### the plain law of CanvasReached -/
theorem stood_bar {B : Bk} {lo hi : Int} (hz : bookBar B = 0) (h : 0 ≤ lo ∧ lo ≤ hi ∧ hi ≤ 90 ∧ hi - lo < 3) : bookBar (stoodM B lo hi) = 0 := by
  have hp : profBar B.prof = 0 := by
    unfold bookBar at hz
    split at hz
    · assumption
    · rename_i h1; simpa using h1
  have hm : mksBar B.marks = 0 := by
    unfold bookBar at hz
    rw [if_neg (by simpa using hp)] at hz
    split at hz
    · rename_i h1; exact absurd hz h1
    · exact hz
  have hb := bounds_of_bar hz
  have hs : sizeBar (stoodM B lo hi) = 0 := by
    unfold sizeBar stoodM
    rw [if_neg]
    simp only
    omega
  unfold bookBar
  rw [if_neg (by simpa [stoodM] using hp), if_neg (by simpa using hs)]
  exact hm
theorem known_nil {B : Bk} (hz : bookBar B = 0) : knownBar B [] = if (statesM B).length = 0 then 9 else 0 := by
  unfold knownBar
  rw [lookBar1 hz]
  rfl
theorem marked_right (B : Bk) (m : R2 × Int) (e : Int) : rightM (markedM B m) e = (rightM B e && decide (rowM B e m.1 = m.2)) := by
  unfold rightM markedM
  rw [List.all_append]
  simp [rowM]
  rfl
end Go.Gx
end

section
set_option linter.unusedSimpArgs false
set_option linter.unusedVariables false
namespace Go.Gx
open Go Go.Conc Go.Proofs

def zB : Bk := ⟨[], 0, 0, 0, []⟩
def zA : BkA := ⟨none, 0, none, 0⟩
theorem zR (H : Facts) : BkR H zB zA := ⟨.inl rfl, .inl rfl⟩
theorem s78z {main : Bool} (L : Lg Tryz.prog main) (H : Facts) : Pure L 78 #[bkZ, bkZ] H (.bool true) := s78 L H (B := zB) (C := zB) (A := zA) (D := zA) (zR H) (zR H) (by decide) (by decide)
end Go.Gx
end

section
set_option linter.unusedSimpArgs false
set_option linter.unusedVariables false
namespace Go.Gx
open Go Go.Conc Go.Proofs

/-! ### the plain law of CanvasNeeded -/
end Go.Gx
end

section
set_option linter.unusedSimpArgs false
set_option linter.unusedVariables false
namespace Go.Gx
open Go Go.Conc Go.Proofs

/-! ### marks the other way round -/
end Go.Gx
end

section
set_option linter.unusedSimpArgs false
set_option linter.unusedVariables false
namespace Go.Gx
open Go Go.Conc Go.Proofs

end Go.Gx
end

section
set_option linter.unusedSimpArgs false
set_option linter.unusedVariables false
namespace Go.Gx
open Go Go.Conc Go.Proofs
variable {main : Bool}

theorem BkO.share {B : Bk} {A : BkA} {sf : Facts} (h : BkO B A sf) :
    ∃ sg : Facts, (∀ f ∈ sg, f.isOwn = false) ∧ BkR sg B A ∧
      ∀ {P : Program} {main : Bool} {L : Lg P main} {f : FuncId} {ro : Option Nat} {ds : Dz} {cs : List Frame} {n : Nat} {E : Env} {k : List Item} {H : Facts}, At L f ro ds cs n E (sg ++ H) k → At L f ro ds cs n E (sf ++ H) k := by
  obtain ⟨sp, sm, rfl, h1, h2⟩ := h
  obtain ⟨gp, p1, p2, p3⟩ := h1.share
  obtain ⟨gm, m1, m2, m3⟩ := h2.share
  refine ⟨gm ++ gp, fun f hf => (List.mem_append.1 hf).elim (m1 f) (p1 f), ⟨(p2 _ _ _ rfl).more (Sub.append_left _ _), (m2 _ _ _ rfl).more (Sub.pre _ _)⟩, ?_⟩
  intro P main L f ro ds cs n E k H hA
  rw [List.append_assoc] at hA ⊢
  have a1 : At L f ro ds cs n E (gp ++ (gm ++ H)) k := hA.weakH (Sub.of_perm (List.perm_append_comm_assoc gm gp H))
  have a2 : At L f ro ds cs n E (sp ++ (gm ++ H)) k := p3 a1
  have a3 : At L f ro ds cs n E (gm ++ (sp ++ H)) k := a2.weakH (Sub.of_perm (List.perm_append_comm_assoc sp gm H))
  exact m3 a3
set_option maxRecDepth 100000 in
set_option maxHeartbeats 4000000 in
/-- inside (law02) -/
theorem s147 (L : Lg Tryz.prog main) (H : Facts) {a a' : Option Addr} {n n' cap cap' : Nat} {xs ys : List Int} (hn : xs.length = n) (hn' : ys.length = n') (hr : Rd H a (xs.flatMap c1)) (hr' : Rd H a' (ys.flatMap c1)) (hl : xs.length ≤ 1000) (hl' : ys.length ≤ 100000) :
    Pure L 147 #[.slice a n cap, .slice a' n' cap'] H (.bool (xs.all fun x => decide (x ∈ ys))) := by
  subst hn hn'
  refine Spec.enter Tryz.func147 rfl (by simp [Tryz.f147]) fun c cs hc => ?_; refine At.seq (At.region ?_); refine At.v rfl rfl rfl rfl rfl trivial ?_; refine At.regionEnd (At.seq (At.seq (At.region ?_))); refine At.v rfl rfl rfl rfl rfl trivial ?_; refine At.regionEnd ?_; refine At.block ?_
  refine At.lpk (X := { j : Nat // j ≤ xs.length ∧ (xs.drop j).all (fun x => decide (x ∈ ys)) = xs.all fun x => decide (x ∈ ys) }) [0, 1] (fun x => [(5, .int .i64 (x.1 : Int))]) (fun _ => H) (fun x => xs.length - x.1) (⟨0, Nat.zero_le _, rfl⟩) rfl ?_ (by repeat (first | exact trivial | refine ⟨rfl, ?_⟩)) sb
  rintro ⟨j, hj, hd⟩ again
  simp only at again ⊢
  refine At.seq (At.seq (At.region ?_)); (iterate 2 refine At.v rfl rfl rfl rfl rfl trivial ?_); refine At.ln rfl rfl rfl rfl rfl rfl rfl rfl ?_; refine At.cp rfl rfl rfl rfl rfl fun b9 h9 => ?_; refine At.regionEnd ?_
  cases b9
  · have e : j = xs.length := by simp at h9; omega
    subst e
    rw [List.drop_length] at hd
    have e2 : (xs.all fun x => decide (x ∈ ys)) = true := hd.symm
    simp only [e2] at hc
    refine At.cond rfl ?_; refine At.exit rfl ?_; refine At.seq (At.region ?_); refine At.v rfl rfl rfl rfl rfl trivial ?_; refine At.regionEnd ?_
    exact At.ret Tryz.func147 (.inr ⟨_, rfl⟩) rfl (.tmp rfl .nil) (wk (hc _ _ (⟨by rfl, rfl⟩)))
  · have hlt : j < xs.length := by simp at h9; omega
    obtain ⟨b, off, rfl, hcj⟩ := hr.el (List.getElem?_eq_getElem hlt)
    rw [List.drop_eq_getElem_cons hlt, List.all_cons] at hd
    have stop48 := trivial
    refine At.cond rfl ?_; refine At.skip (At.seq ?_); refine At.block ?_; refine At.seq (At.region ?_); (iterate 3 refine At.v rfl rfl rfl rfl rfl trivial ?_); refine At.q rfl rfl rfl rfl (q_ia rfl rfl rfl (by assumption)) ?_; refine At.ldc rfl rfl rfl rfl rfl rfl hcj.a rfl rfl ?_
    clear stop48
    refine At.cq rfl rfl rfl rfl rfl rfl rfl rfl (s48 L _ (xs := ys) rfl hr'.a hl') ?_
    by_cases hm : xs[j] ∈ ys
    · rw [decide_eq_true hm] at hd ⊢
      rw [Bool.true_and] at hd
      refine At.v rfl rfl rfl rfl rfl trivial ?_; refine At.regionEnd ?_; refine At.cond rfl ?_; refine At.skip ?_; refine At.inBlock ?_; refine At.region ?_; refine At.v rfl rfl rfl rfl rfl trivial ?_; refine At.v rfl rfl rfl rfl rfl (by omega) ?_; refine At.v rfl rfl rfl rfl rfl trivial ?_; refine At.regionEnd ?_
      refine At.tA ((again ⟨j + 1, hlt, hd⟩ (by simp; omega)))
    · rw [decide_eq_false hm] at hd ⊢
      rw [Bool.false_and] at hd
      have e2 : (xs.all fun x => decide (x ∈ ys)) = false := hd.symm
      simp only [e2] at hc
      refine At.v rfl rfl rfl rfl rfl trivial ?_; refine At.regionEnd ?_; refine At.cond rfl ?_; refine At.seq (At.region ?_); refine At.v rfl rfl rfl rfl rfl trivial ?_; refine At.regionEnd ?_
      exact At.ret Tryz.func147 (.inr ⟨_, rfl⟩) rfl (.tmp rfl .nil) (wk (hc _ _ (⟨by rfl, rfl⟩)))
/-- Overlap (ref01) -/
theorem s84 (L : Lg Tryz.prog main) (H : Facts) {x y : R2} : Pure L 84 #[.agg (List.toArray (c2 x)), .agg (List.toArray (c2 y))] H (.agg (List.toArray (c2 (maxI x.1 y.1, minI x.2 y.2)))) := by
  refine Spec.enter Tryz.func84 rfl (by simp [Tryz.f84]) fun c cs hc => ?_; refine At.seq (At.region ?_); refine At.bx rfl rfl rfl rfl rfl rfl rfl fun r2 => ?_; refine At.bx rfl rfl rfl rfl rfl rfl rfl fun r3 => ?_; refine At.al rfl rfl rfl rfl rfl fun r4 => ?_; refine At.regionEnd (At.seq (At.region ?_)); refine At.fa 0 rfl rfl rfl rfl rfl rfl rfl ?_; refine At.ld 2 rfl rfl rfl rfl rfl rfl rfl rfl rfl ?_; refine At.fa 0 rfl rfl rfl rfl rfl rfl rfl ?_
  refine At.ld 1 rfl rfl rfl rfl rfl rfl rfl rfl rfl ?_; refine At.v rfl rfl rfl rfl rfl trivial ?_; refine At.fa 1 rfl rfl rfl rfl rfl rfl rfl ?_; refine At.ld 2 rfl rfl rfl rfl rfl rfl rfl rfl rfl ?_; refine At.fa 1 rfl rfl rfl rfl rfl rfl rfl ?_; refine At.ld 1 rfl rfl rfl rfl rfl rfl rfl rfl rfl ?_; refine At.v rfl rfl rfl rfl rfl trivial ?_; refine At.q rfl rfl rfl rfl (q_build rfl rfl rfl) ?_; refine At.st 0 rfl rfl rfl rfl rfl rfl rfl rfl rfl rfl rfl rfl ?_; refine At.regionEnd ?_
  exact At.ret Tryz.func84 (.inr ⟨_, rfl⟩) rfl (.aggJ 0 rfl rfl rfl .nil) (wk (hc _ _ (⟨by rfl, rfl⟩)))
set_option maxRecDepth 100000 in
/-- Stood (ref02) -/
theorem s83 (L : Lg Tryz.prog main) (H : Facts) {B : Bk} {A : BkA} {x : R2} : Pure L 83 #[bkV B A, .agg (List.toArray (c2 x))] H (bkV (stoodM B x.1 x.2) A) := by
  refine Spec.enter Tryz.func83 rfl (by simp [Tryz.f83]) fun c cs hc => ?_; refine At.seq (At.region ?_); refine At.bx rfl rfl rfl rfl rfl rfl rfl fun r2 => ?_; refine At.bx rfl rfl rfl rfl rfl rfl rfl fun r3 => ?_; refine At.al rfl rfl rfl rfl rfl fun r4 => ?_; refine At.regionEnd (At.seq (At.region ?_)); refine At.ld 1 rfl rfl rfl rfl rfl rfl rfl rfl rfl ?_; refine At.fa 2 rfl rfl rfl rfl rfl rfl rfl ?_; refine At.st 2 rfl rfl rfl rfl rfl rfl rfl rfl rfl rfl rfl rfl ?_
  refine At.regionEnd (At.seq (At.region ?_)); refine At.ld 2 rfl rfl rfl rfl rfl rfl rfl rfl rfl ?_; refine At.st 0 rfl rfl rfl rfl rfl rfl rfl rfl rfl rfl rfl rfl ?_; refine At.regionEnd ?_
  exact At.ret Tryz.func83 (.inr ⟨_, rfl⟩) rfl (.aggJ 0 rfl rfl rfl .nil) (wk (hc _ _ (⟨by rfl, rfl⟩)))
/-! ### a book that knows more -/
theorem word_mono {l m : List Int} {f : Int → Int} {x : Int} (hs : ∀ e ∈ m, e ∈ l) (hne : m.length ≠ 0) :
    wordM l.length (((l.map f).count x : Nat) : Int) = 0 ∨ wordM l.length (((l.map f).count x : Nat) : Int) = wordM m.length (((m.map f).count x : Nat) : Int) := by
  unfold wordM
  by_cases h1 : (((l.map f).count x : Nat) : Int) = (l.length : Int)
  · right
    have h2 : (l.map f).count x = (l.map f).length := by rw [List.length_map]; omega
    have h3 := List.count_eq_length.1 h2
    have h4 : (m.map f).count x = (m.map f).length := by
      rw [List.count_eq_length]
      intro y hy
      obtain ⟨e, he, rfl⟩ := List.mem_map.1 hy
      exact h3 _ (List.mem_map.2 ⟨e, hs e he, rfl⟩)
    rw [List.length_map] at h4
    rw [if_pos h1, if_pos (by omega)]
  · rw [if_neg h1]
    by_cases h2 : (((l.map f).count x : Nat) : Int) = 0
    · right
      have h3 : x ∉ l.map f := List.count_eq_zero.1 (by omega)
      have h4 : (m.map f).count x = 0 := by
        rw [List.count_eq_zero]
        intro hy
        obtain ⟨e, he, hx⟩ := List.mem_map.1 hy
        exact h3 (List.mem_map.2 ⟨e, hs e he, hx⟩)
      rw [if_pos h2, if_neg (by omega), if_pos (by omega)]
    · left
      rw [if_neg h2]
structure Knows (B C : Bk) : Prop where
  b : bookBar B = 0
  c : bookBar C = 0
  r : ∀ e s, rowM C e s = rowM B e s
  s : ∀ e ∈ statesM C, e ∈ statesM B
  n : (statesM C).length ≠ 0
theorem Knows.n' {B C : Bk} (h : Knows B C) : (statesM B).length ≠ 0 := by
  have h1 : 0 < (statesM C).length := by have := h.n; omega
  have := List.length_pos_of_mem (h.s _ (List.getElem_mem h1))
  omega
theorem Knows.rows {B C : Bk} (h : Knows B C) (s : R2) : ∀ x ∈ rowsM C s, x ∈ rowsM B s := by
  intro x hx
  obtain ⟨h1, e, he, hr⟩ := (rowsM_mem h.c).1 hx
  exact (rowsM_mem h.b).2 ⟨h1, e, h.s e he, by rw [← h.r]; exact hr⟩
theorem Knows.word {B C : Bk} (h : Knows B C) (s : R2) (x : Int) :
    wordM (statesM B).length (((rowsOf B s).count x : Nat) : Int) = 0 ∨ wordM (statesM B).length (((rowsOf B s).count x : Nat) : Int) = wordM (statesM C).length (((rowsOf C s).count x : Nat) : Int) := by
  have := word_mono (f := fun e => rowM B e s) (x := x) h.s h.n
  have e : rowsOf C s = (statesM C).map fun e => rowM B e s := by
    unfold rowsOf
    congr 1
    funext e
    exact h.r e s
  rw [e]
  exact this
theorem all_in {l m : List Int} (h : ∀ x ∈ l, x ∈ m) : (l.all fun x => decide (x ∈ m)) = true := by
  rw [List.all_eq_true]
  intro x hx
  simp [h x hx]
set_option maxRecDepth 100000 in
set_option maxHeartbeats 4000000 in
/-- Better (law02), of a book that knows more -/
theorem s82 {Post : Value → World → Prop} {W₀ : World} {H Hs : Facts} {B C : Bk} {A D : BkA} {s : R2} {row : Int} (hB : OpS H Hs B A) (hC : OpS H Hs C D) (hK : Knows B C) (hs : slopeBar s.1 s.2 = 0) (hr : EyeOk row) :
    Pure (mainLg Tryz.prog Post W₀ [] []) 82 #[bkV B A, bkV C D, .agg (List.toArray (c2 s)), .int .i64 row] H (.bool true) := by
  refine Spec.enter Tryz.func82 rfl (by simp [Tryz.f82]) fun c cs hc => ?_
  generalize hL : mainLg Tryz.prog Post W₀ [] [] = L at hc ⊢
  have hr0 : hBar row = 0 := if_pos hr
  have b1 : knownBar B [slopeBar s.1 s.2] = 0 := kn0 hK.b (by rw [hs]; rfl) hK.n'
  have b2 : knownBar B [slopeBar s.1 s.2, hBar row] = 0 := kn0 hK.b (by rw [hs, hr0]; rfl) hK.n'
  have b3 : knownBar C [slopeBar s.1 s.2] = 0 := kn0 hK.c (by rw [hs]; rfl) hK.n
  have b4 : knownBar C [slopeBar s.1 s.2, hBar row] = 0 := kn0 hK.c (by rw [hs, hr0]; rfl) hK.n
  have q51 := fun H_ (hO_ : Opn H_ B A) => s51 L H_ hO_
  have p51 := fun H_ (hO_ : Opn H_ C D) => s51 L H_ hO_
  have q52 := fun H_ (hO_ : OpS H_ Hs B A) => s52 (Post := Post) (W₀ := W₀) (s := s) hO_
  have p52 := fun H_ (hO_ : OpS H_ Hs C D) => s52 (Post := Post) (W₀ := W₀) (s := s) hO_
  have q66 := fun H_ (hO_ : OpS H_ Hs B A) => s66 (Post := Post) (W₀ := W₀) (s := s) (row := row) hO_
  have p66 := fun H_ (hO_ : OpS H_ Hs C D) => s66 (Post := Post) (W₀ := W₀) (s := s) (row := row) hO_
  simp only [hL, b1, b2, b3, b4, hK.b, hK.c, ne_eq, not_true_eq_false, if_false] at q51 p51 q52 p52 q66 p66
  unfold fallsM at q66 p66
  have w1 := hK.word s (-1)
  have w2 := hK.word s row
  have i1 := all_in hK.s
  have i2 := all_in (hK.rows s)
  have l1 := statesM_len hK.b
  have l2 := statesM_len hK.c
  have l3 := rowsM_len hK.b (s := s)
  have l4 := rowsM_len hK.c (s := s)
  have hn := hK.n
  obtain ⟨x1, e1⟩ : ∃ y, wordM (statesM B).length (((rowsOf B s).count (-1) : Nat) : Int) = y := ⟨_, rfl⟩
  obtain ⟨x2, e2⟩ : ∃ y, wordM (statesM C).length (((rowsOf C s).count (-1) : Nat) : Int) = y := ⟨_, rfl⟩
  obtain ⟨x3, e3⟩ : ∃ y, wordM (statesM B).length (((rowsOf B s).count row : Nat) : Int) = y := ⟨_, rfl⟩
  obtain ⟨x4, e4⟩ : ∃ y, wordM (statesM C).length (((rowsOf C s).count row : Nat) : Int) = y := ⟨_, rfl⟩
  simp only [e1, e2] at w1
  simp only [e3, e4] at w2
  simp only [e1] at q52
  simp only [e2] at p52
  simp only [e3] at q66
  simp only [e4] at p66
  have stop51 := trivial
  refine At.seq (At.region ?_); refine At.bx rfl rfl rfl rfl rfl rfl rfl fun r4 => ?_; refine At.bx rfl rfl rfl rfl rfl rfl rfl fun r5 => ?_; refine At.bx rfl rfl rfl rfl rfl rfl rfl fun r6 => ?_; refine At.v rfl rfl rfl rfl rfl trivial ?_; refine At.regionEnd (At.seq (At.region ?_)); refine At.ld 2 rfl rfl rfl rfl rfl rfl rfl rfl rfl ?_; refine At.cl rfl rfl rfl rfl rfl rfl rfl rfl (q51 _ (hB.a.opn)) ?_
  rintro _ _ ⟨sf1, ⟨a1, cap1, rfl, hsl1⟩, rfl⟩
  refine At.back ?_; (iterate 5 refine At.v rfl rfl rfl rfl rfl trivial ?_); refine At.regionEnd (At.seq (At.region ?_)); refine At.ld 1 rfl rfl rfl rfl rfl rfl rfl rfl rfl ?_
  clear stop51
  refine At.cl rfl rfl rfl rfl rfl rfl rfl rfl (p51 _ (hC.a.opn)) ?_
  rintro _ _ ⟨sf2, ⟨a2, cap2, rfl, hsl2⟩, rfl⟩
  refine At.back ?_
  have stop52 := trivial
  (iterate 5 refine At.v rfl rfl rfl rfl rfl trivial ?_); refine At.regionEnd (At.seq (At.region ?_)); refine At.ld 2 rfl rfl rfl rfl rfl rfl rfl rfl rfl ?_; refine At.ld 0 rfl rfl rfl rfl rfl rfl rfl rfl rfl ?_; refine At.cl rfl rfl rfl rfl rfl rfl rfl rfl (q52 _ hB.a) ?_
  rintro _ _ ⟨sf3, ⟨a3, cap3, rfl, hsl3⟩, rfl⟩
  refine At.back ?_; (iterate 7 refine At.v rfl rfl rfl rfl rfl trivial ?_); refine At.regionEnd (At.seq (At.region ?_)); refine At.ld 1 rfl rfl rfl rfl rfl rfl rfl rfl rfl ?_; refine At.ld 0 rfl rfl rfl rfl rfl rfl rfl rfl rfl ?_
  clear stop52
  refine At.cl rfl rfl rfl rfl rfl rfl rfl rfl (p52 _ hC.a) ?_
  rintro _ _ ⟨sf4, ⟨a4, cap4, rfl, hsl4⟩, rfl⟩
  refine At.back ?_
  have stop66 := trivial
  (iterate 7 refine At.v rfl rfl rfl rfl rfl trivial ?_); refine At.regionEnd (At.seq (At.region ?_)); refine At.ld 2 rfl rfl rfl rfl rfl rfl rfl rfl rfl ?_; refine At.ld 0 rfl rfl rfl rfl rfl rfl rfl rfl rfl ?_; refine At.v rfl rfl rfl rfl rfl trivial ?_; refine At.cq rfl rfl rfl rfl rfl rfl rfl rfl (q66 _ hB.a) ?_; (iterate 5 refine At.v rfl rfl rfl rfl rfl trivial ?_); refine At.regionEnd (At.seq (At.region ?_)); refine At.ld 1 rfl rfl rfl rfl rfl rfl rfl rfl rfl ?_
  refine At.ld 0 rfl rfl rfl rfl rfl rfl rfl rfl rfl ?_; refine At.v rfl rfl rfl rfl rfl trivial ?_
  clear stop66
  refine At.cq rfl rfl rfl rfl rfl rfl rfl rfl (p66 _ hC.a) ?_
  obtain ⟨_, r1, _⟩ := hsl1.rd
  obtain ⟨_, r2, _⟩ := hsl2.rd
  obtain ⟨_, r3, _⟩ := hsl3.rd
  obtain ⟨_, r4, _⟩ := hsl4.rd
  have stop147 := trivial
  (iterate 5 refine At.v rfl rfl rfl rfl rfl trivial ?_); refine At.regionEnd (At.seq (At.seq (At.region ?_))); refine At.v rfl rfl rfl rfl rfl trivial ?_; refine At.cp rfl rfl rfl rfl rfl fun b62 h62 => ?_; refine At.v rfl rfl rfl rfl rfl trivial ?_
  obtain rfl : b62 = false := h62.symm.trans (by kernel_rfl)
  refine At.v rfl rfl rfl rfl rfl trivial ?_; refine At.cp rfl rfl rfl rfl rfl fun b65 h65 => ?_; (iterate 2 refine At.v rfl rfl rfl rfl rfl trivial ?_)
  obtain rfl : b65 = false := h65.symm.trans (by kernel_rfl)
  refine At.v rfl rfl rfl rfl rfl trivial ?_; refine At.cp rfl rfl rfl rfl rfl fun b69 h69 => ?_; (iterate 2 refine At.v rfl rfl rfl rfl rfl trivial ?_)
  obtain rfl : b69 = false := h69.symm.trans (by kernel_rfl)
  refine At.v rfl rfl rfl rfl rfl trivial ?_; refine At.cp rfl rfl rfl rfl rfl fun b73 h73 => ?_; (iterate 2 refine At.v rfl rfl rfl rfl rfl trivial ?_)
  obtain rfl : b73 = false := h73.symm.trans (by kernel_rfl)
  refine At.v rfl rfl rfl rfl rfl trivial ?_; refine At.cp rfl rfl rfl rfl rfl fun b77 h77 => ?_; (iterate 2 refine At.v rfl rfl rfl rfl rfl trivial ?_)
  obtain rfl : b77 = false := h77.symm.trans (by kernel_rfl)
  refine At.v rfl rfl rfl rfl rfl trivial ?_; refine At.cp rfl rfl rfl rfl rfl fun b81 h81 => ?_; refine At.v rfl rfl rfl rfl rfl trivial ?_; refine At.regionEnd ?_
  obtain rfl : b81 = false := h81.symm.trans (by kernel_rfl)
  refine At.cond rfl ?_; refine At.skip (At.seq (At.region ?_)); refine At.v rfl rfl rfl rfl rfl trivial ?_; refine At.ln rfl rfl rfl rfl rfl rfl rfl rfl ?_; refine At.cp rfl rfl rfl rfl rfl fun b85 h85 => ?_; refine At.v rfl rfl rfl rfl rfl trivial ?_
  obtain rfl : b85 = true := h85.symm.trans (decide_eq_true (by omega))
  (iterate 2 refine At.v rfl rfl rfl rfl rfl trivial ?_); refine At.cq rfl rfl rfl rfl rfl rfl rfl rfl (s147 L _ (xs := statesM C) (ys := statesM B) rfl rfl r2.a r1.a (by omega) (by omega)) ?_
  rw [i1]
  (iterate 4 refine At.v rfl rfl rfl rfl rfl trivial ?_); refine At.cq rfl rfl rfl rfl rfl rfl rfl rfl (s147 L _ (xs := rowsM C s) (ys := rowsM B s) rfl rfl r4.a r3.a (by omega) (by omega)) ?_
  rw [i2]
  (iterate 3 refine At.v rfl rfl rfl rfl rfl trivial ?_); refine At.cp rfl rfl rfl rfl rfl fun b98 h98 => ?_; refine At.v rfl rfl rfl rfl rfl trivial ?_
  cases b98
  · have k1 : x1 = x2 := by
      rcases w1 with h | h
      · rw [h] at h98; simp at h98
      · exact h
    rw [k1]
    (iterate 2 refine At.v rfl rfl rfl rfl rfl trivial ?_); refine At.cp rfl rfl rfl rfl rfl fun b102 h102 => ?_; (iterate 3 refine At.v rfl rfl rfl rfl rfl trivial ?_)
    obtain rfl : b102 = true := h102.symm.trans (by simp)
    refine At.v rfl rfl rfl rfl rfl trivial ?_; refine At.cp rfl rfl rfl rfl rfl fun b107 h107 => ?_; refine At.v rfl rfl rfl rfl rfl trivial ?_
    cases b107
    · have k2 : x3 = x4 := by
        rcases w2 with h | h
        · rw [h] at h107; simp at h107
        · exact h
      rw [k2]
      (iterate 2 refine At.v rfl rfl rfl rfl rfl trivial ?_); refine At.cp rfl rfl rfl rfl rfl fun b111 h111 => ?_; (iterate 3 refine At.v rfl rfl rfl rfl rfl trivial ?_); refine At.regionEnd ?_
      obtain rfl : b111 = true := by rw [← h111]; simp
      exact At.ret Tryz.func82 (.inr ⟨_, rfl⟩) rfl (.tmp rfl .nil) (wk (hc _ _ (⟨by rfl, rfl⟩)))
    · refine At.un rfl rfl rfl rfl ?_
      (iterate 2 refine At.un rfl rfl rfl rfl ?_); (iterate 3 refine At.v rfl rfl rfl rfl rfl trivial ?_); refine At.regionEnd ?_
      exact At.ret Tryz.func82 (.inr ⟨_, rfl⟩) rfl (.tmp rfl .nil) (wk (hc _ _ (⟨by rfl, rfl⟩)))
  · refine At.un rfl rfl rfl rfl ?_
    (iterate 2 refine At.un rfl rfl rfl rfl ?_); (iterate 4 refine At.v rfl rfl rfl rfl rfl trivial ?_); refine At.cp rfl rfl rfl rfl rfl fun b107 h107 => ?_; refine At.v rfl rfl rfl rfl rfl trivial ?_
    cases b107
    · have k2 : x3 = x4 := by
        rcases w2 with h | h
        · rw [h] at h107; simp at h107
        · exact h
      rw [k2]
      (iterate 2 refine At.v rfl rfl rfl rfl rfl trivial ?_); refine At.cp rfl rfl rfl rfl rfl fun b111 h111 => ?_; (iterate 3 refine At.v rfl rfl rfl rfl rfl trivial ?_); refine At.regionEnd ?_
      obtain rfl : b111 = true := by rw [← h111]; simp
      exact At.ret Tryz.func82 (.inr ⟨_, rfl⟩) rfl (.tmp rfl .nil) (wk (hc _ _ (⟨by rfl, rfl⟩)))
    · refine At.un rfl rfl rfl rfl ?_
      (iterate 2 refine At.un rfl rfl rfl rfl ?_); (iterate 3 refine At.v rfl rfl rfl rfl rfl trivial ?_); refine At.regionEnd ?_
      exact At.ret Tryz.func82 (.inr ⟨_, rfl⟩) rfl (.tmp rfl .nil) (wk (hc _ _ (⟨by rfl, rfl⟩)))
end Go.Gx
end

section
set_option linter.unusedSimpArgs false
set_option linter.unusedVariables false
namespace Go.Gx
open Go Go.Conc Go.Proofs

theorem marked_knows {B : Bk} {m : R2 × Int} (hz : bookBar B = 0) (h : markBarM B m = 0) : Knows B (markedM B m) := by
  unfold markBarM at h
  rw [if_neg (by simpa using hz)] at h
  have hz' : bookBar (markedM B m) = 0 := kb_book (by simpa using h)
  refine ⟨hz, hz', fun e s => rfl, ?_, ?_⟩
  · intro e he
    obtain ⟨h1, h2⟩ := mem_states.1 he
    rw [marked_right] at h2
    simp only [Bool.and_eq_true] at h2
    exact mem_states.2 ⟨h1, h2.1⟩
  · rw [known_nil hz'] at h
    intro h0
    rw [if_pos h0] at h
    cases h
theorem stand_bar {B : Bk} {x : R2} (hz : bookBar B = 0) (h1 : 0 ≤ x.1 ∧ x.1 ≤ x.2 ∧ x.2 ≤ 90) (h2 : ¬ maxI B.lo x.1 > minI B.hi x.2) : bookBar (standM B x) = 0 := by
  have hb := bounds_of_bar hz
  have e1 : maxI B.lo x.1 = B.lo ∧ x.1 ≤ B.lo ∨ maxI B.lo x.1 = x.1 ∧ B.lo ≤ x.1 := by unfold maxI; split <;> omega
  have e2 : minI B.hi x.2 = B.hi ∧ B.hi ≤ x.2 ∨ minI B.hi x.2 = x.2 ∧ x.2 ≤ B.hi := by unfold minI; split <;> omega
  exact stood_bar hz (by omega)
theorem stand_knows {B : Bk} {x : R2} (hz : bookBar B = 0) (h : standBar B x = 0) : Knows B (standM B x) := by
  unfold standBar at h
  rw [if_neg (by simpa using hz)] at h
  split at h
  · cases h
  rename_i h1
  split at h
  · cases h
  rename_i h2
  have hz' := stand_bar hz (Classical.not_not.1 h1) h2
  refine ⟨hz, hz', fun e s => rfl, ?_, ?_⟩
  · intro e he
    obtain ⟨h3, h4⟩ := mem_states.1 he
    have e1 : B.lo ≤ maxI B.lo x.1 := by unfold maxI; split <;> omega
    have e2 : minI B.hi x.2 ≤ B.hi := by unfold minI; split <;> omega
    have h5 : maxI B.lo x.1 ≤ e ∧ e ≤ minI B.hi x.2 := h3
    exact mem_states.2 ⟨by omega, h4⟩
  · rw [known_nil hz'] at h
    intro h0
    rw [if_pos h0] at h
    cases h
theorem stand_vals {B : Bk} {x : R2} (hz : bookBar B = 0) (h : standBar B x ≠ 0) : standBar B x = 1 ∨ standBar B x = 9 := by
  unfold standBar at h ⊢
  rw [if_neg (by simpa using hz)] at h ⊢
  split
  · exact .inl rfl
  · rename_i h1
    rw [if_neg h1] at h
    split
    · exact .inr rfl
    · rename_i h2
      rw [if_neg h2] at h
      have hz' := stand_bar hz (Classical.not_not.1 h1) h2
      rw [known_nil hz'] at h ⊢
      split
      · exact .inr rfl
      · rename_i h3
        rw [if_neg h3] at h
        exact absurd rfl h
theorem same_self (B : Bk) : sameM B B = true := by simp [sameM]
set_option maxRecDepth 100000 in
set_option maxHeartbeats 4000000 in
/-- CanvasLearnt -/
theorem law19 {Post : Value → World → Prop} {W₀ : World} {H Hg : Facts} (hG : Glo H Hg) (hsh : ∀ f ∈ H, f.isOwn = false) {B : Bk} {A : BkA} (hBk : BkR H B A) {m : R2 × Int} {x : R2} {d k n : Int} (hd : 0 ≤ d ∧ d ≤ 255) (hk : 0 ≤ k ∧ k ≤ 255) (hn : -128 ≤ n ∧ n ≤ 127) :
    LawAt (mainLg Tryz.prog Post W₀ [] []) 19 #[bkV B A, .agg #[.int .i64 m.1.1, .int .i64 m.1.2, .int .i64 m.2], .agg #[.int .i64 x.1, .int .i64 x.2], .int .u8 d, .int .u8 k, .int .i8 n] H (.bool true) := by
  refine LawAt.enter Tryz.func19 rfl (by simp [Tryz.f19]) fun cs hLB => ?_
  obtain ⟨pa, pc, ma, mc⟩ := A
  generalize hL : mainLg Tryz.prog Post W₀ [] [] = L at hLB ⊢
  have stop22 := trivial
  refine At.seq (At.region ?_); refine At.bx rfl rfl rfl rfl rfl rfl rfl fun r6 => ?_; refine At.bx rfl rfl rfl rfl rfl rfl rfl fun r7 => ?_; refine At.bx rfl rfl rfl rfl rfl rfl rfl fun r8 => ?_; refine At.v rfl rfl rfl rfl rfl trivial ?_; refine At.regionEnd (At.seq (At.seq (At.region ?_))); refine At.ld 2 rfl rfl rfl rfl rfl rfl rfl rfl rfl ?_; refine At.cqb rfl rfl rfl rfl rfl rfl rfl rfl (s39 L _ bs) fun b18 h18 => ?_; refine At.v rfl rfl rfl rfl rfl trivial ?_; refine At.regionEnd ?_
  cases b18
  · refine At.cond rfl ?_
    refine At.seq (At.region ?_)
    subst hL
    refine At.cq rfl rfl rfl rfl rfl rfl rfl rfl (s22 hG.a) ?_; refine At.v rfl rfl rfl rfl rfl trivial ?_; refine At.regionEnd ?_
    exact hLB Tryz.func19 (.inr ⟨_, rfl⟩) rfl (.tmp rfl .nil) (⟨by rfl, rfl⟩)
  have hf : fitM B = true := h18
  have hz : bookBar B = 0 := by simp [fitM] at hf; exact hf.2.2
  have hg : Cells H 0 0 chkC := hG.g.a hG.sub
  have hb := bounds_of_bar hz
  have hO : Opn H B ⟨pa, pc, ma, mc⟩ := ⟨hg, hBk, by omega, by omega⟩
  have hOS : OpS H H B ⟨pa, pc, ma, mc⟩ := ⟨Sub.refl _, hsh, hO⟩
  have w2 : IntKind.wrap .i64 k = k := wrap_in (by omega)
  have stop65 := trivial
  refine At.cond rfl ?_; refine At.skip (At.seq (At.region ?_)); (iterate 2 refine At.v rfl rfl rfl rfl rfl trivial ?_); refine At.cq rfl rfl rfl rfl rfl rfl rfl rfl (s40 L _ bs bs) ?_; refine At.v rfl rfl rfl rfl rfl trivial ?_; refine At.q rfl rfl rfl rfl (q_conv rfl rfl rfl) ?_; refine At.v rfl rfl rfl rfl rfl (by omega) ?_; refine At.al rfl rfl rfl rfl rfl fun r13 => ?_; refine At.st 0 rfl rfl rfl rfl rfl rfl rfl rfl rfl rfl rfl rfl ?_; refine At.v rfl rfl rfl rfl rfl trivial ?_
  refine At.regionEnd (At.seq (At.region ?_)); refine At.ld 3 rfl rfl rfl rfl rfl rfl rfl rfl rfl ?_; refine At.ld 2 rfl rfl rfl rfl rfl rfl rfl rfl rfl ?_
  clear stop65
  rw [w2]
  have hr : EyeOk (k.tmod 91) := ⟨Int.tmod_nonneg _ hk.1, by have := Int.tmod_lt_of_pos k (show (0 : Int) < 91 by decide); omega⟩
  have hs : slopeBar (low (n.tmod 21) (1 + d.tmod 20)).1 (low (n.tmod 21) (1 + d.tmod 20)).2 = 0 :=
    low_slope (tmod_bd n 21 (by omega)) (by have h1 := Int.tmod_nonneg 20 hd.1; have h2 := Int.tmod_lt_of_pos d (show (0 : Int) < 20 by decide); omega)
  generalize k.tmod 91 = row at hr ⊢
  generalize low (n.tmod 21) (1 + d.tmod 20) = s at hs ⊢
  refine At.cl rfl rfl rfl rfl rfl rfl rfl rfl (s65 L _ (m := m) hO.a) ?_
  rintro _ _ ⟨sf1, ⟨p1, p2⟩, rfl⟩
  by_cases h0 : markBarM B m = 0
  · obtain ⟨A', rfl, hbo⟩ := p2 h0
    obtain ⟨sg, hsg, hBg, hshare⟩ := hbo.share
    refine hshare ?_; refine At.back ?_
    have hK := marked_knows hz h0
    have hbC := bounds_of_bar hK.c
    have hOC : OpS (sg ++ H) (sg ++ H) (markedM B m) A' := ⟨Sub.refl _, fun f hf => (List.mem_append.1 hf).elim (hsg f) (hsh f), ⟨hg.a (Sub.append_left _ _), hBg.a (Sub.pre _ _), by omega, by omega⟩⟩
    have hOB : OpS (sg ++ H) (sg ++ H) B ⟨pa, pc, ma, mc⟩ := ⟨Sub.refl _, fun f hf => (List.mem_append.1 hf).elim (hsg f) (hsh f), ⟨hg.a (Sub.append_left _ _), hBk.a (Sub.append_left _ _), by omega, by omega⟩⟩
    have q82 := fun H_ (hB_ : OpS H_ (sg ++ H) B ⟨pa, pc, ma, mc⟩) (hC_ : OpS H_ (sg ++ H) (markedM B m) A') => s82 (Post := Post) (W₀ := W₀) (s := s) (row := row) hB_ hC_ hK hs hr
    simp only [hL] at q82
    have q24 := fun H_ (hB_ : BkR H_ (markedM B m) A') => s24 L H_ hB_ (by omega) (by omega)
    rw [hK.c] at q24
    have stopDraw := trivial
    (iterate 3 refine At.v rfl rfl rfl rfl rfl trivial ?_); refine At.al rfl rfl rfl rfl rfl fun r15 => ?_; refine At.st 0 rfl rfl rfl rfl rfl rfl rfl rfl rfl rfl rfl rfl ?_; refine At.v rfl rfl rfl rfl rfl trivial ?_; refine At.regionEnd (At.seq (At.seq ?_))
    clear stopDraw
    refine At.draw hmix (_) sb ?_
    have q81 := fun H_ (hB_ : BkR H_ B ⟨pa, pc, ma, mc⟩) => s81 L H_ (m := m) hB_.m (by omega)
    have stop81 := trivial
    refine Pool.v 0 rfl rfl rfl rfl rfl rfl rfl trivial ?_; refine Pool.cp 1 rfl rfl rfl rfl rfl rfl rfl fun b34 h34 => ?_; refine Pool.v 2 rfl rfl rfl rfl rfl rfl rfl trivial ?_
    obtain rfl : b34 = true := h34.symm.trans (by kernel_rfl)
    refine Pool.ld 0 3 rfl rfl rfl rfl rfl rfl rfl rfl rfl rfl rfl ?_; refine Pool.ld 4 4 rfl rfl rfl rfl rfl rfl rfl rfl rfl rfl rfl ?_; refine Pool.ld 3 5 rfl rfl rfl rfl rfl rfl rfl rfl rfl rfl rfl ?_
    clear stop81
    refine Pool.cl 6 rfl rfl rfl rfl rfl rfl rfl rfl rfl rfl rfl rfl rfl rfl (fun H_ hs_ => q81 H_ hBk.a) sb ?_
    rintro v sf2 ⟨a2, cap2, rfl, hsl2⟩
    have hmk : (markedM B m).marks.length = B.marks.length + 1 := by simp [markedM]
    rw [← hmk] at hsl2
    obtain ⟨_, r2, _⟩ := hsl2.rd
    have hB2 : BkR (sf2 ++ H) (markedM B m) ⟨pa, pc, a2, cap2⟩ := ⟨hBk.p.more (Sub.append_left _ _), r2.more (Sub.pre _ _)⟩
    have stop78 := trivial
    skip
    clear stop78
    refine Pool.cl 7 rfl rfl rfl rfl rfl rfl rfl rfl rfl rfl rfl rfl rfl rfl (fun H_ hs_ => (s78 L H_ (B := markedM B m) (C := markedM B m) hOC.a.opn.r hB2.a (by omega) (by omega)).grows) sb ?_
    rintro _ _ ⟨rfl, rfl⟩
    rw [same_self]
    have stop24 := trivial
    have stop82 := trivial
    refine Pool.v 8 rfl rfl rfl rfl rfl rfl rfl trivial ?_; refine Pool.v 9 rfl rfl rfl rfl rfl rfl rfl trivial ?_; refine Pool.ld 0 10 rfl rfl rfl rfl rfl rfl rfl rfl rfl rfl rfl ?_
    clear stop24
    refine Pool.cq 11 rfl rfl rfl rfl rfl rfl rfl rfl rfl (fun H_ hs_ => q24 _ (hOC.a.opn.r)) ?_; refine Pool.cp 12 rfl rfl rfl rfl rfl rfl rfl fun b45 h45 => ?_; refine Pool.v 13 rfl rfl rfl rfl rfl rfl rfl trivial ?_; refine Pool.v 14 rfl rfl rfl rfl rfl rfl rfl trivial ?_
    obtain rfl : b45 = false := h45.symm.trans (by kernel_rfl)
    refine Pool.ld 4 15 rfl rfl rfl rfl rfl rfl rfl rfl rfl rfl rfl ?_; refine Pool.ld 0 16 rfl rfl rfl rfl rfl rfl rfl rfl rfl rfl rfl ?_; refine Pool.ld 1 17 rfl rfl rfl rfl rfl rfl rfl rfl rfl rfl rfl ?_; refine Pool.v 18 rfl rfl rfl rfl rfl rfl rfl trivial ?_
    clear stop82
    refine Pool.cq 19 rfl rfl rfl rfl rfl rfl rfl rfl rfl (fun H_ hs_ => q82 _ hOB.a hOC.a) ?_
    have stop67 := trivial
    refine Pool.v 20 rfl rfl rfl rfl rfl rfl rfl trivial ?_; refine Pool.v 21 rfl rfl rfl rfl rfl rfl rfl trivial ?_; refine Pool.v 22 rfl rfl rfl rfl rfl rfl rfl trivial ?_; refine Pool.v 23 rfl rfl rfl rfl rfl rfl rfl trivial ?_; refine Pool.v 24 rfl rfl rfl rfl rfl rfl rfl trivial ?_; refine Pool.cp 25 rfl rfl rfl rfl rfl rfl rfl fun b58 h58 => ?_; refine Pool.v 26 rfl rfl rfl rfl rfl rfl rfl trivial ?_
    obtain rfl : b58 = false := h58.symm.trans (by kernel_rfl)
    refine Pool.un 27 rfl rfl rfl rfl rfl rfl ?_; refine Pool.un 28 rfl rfl rfl rfl rfl rfl ?_; refine Pool.un 29 rfl rfl rfl rfl rfl rfl ?_; refine Pool.un 30 rfl rfl rfl rfl rfl rfl ?_; refine Pool.v 31 rfl rfl rfl rfl rfl rfl rfl trivial ?_; refine Pool.v 32 rfl rfl rfl rfl rfl rfl rfl trivial ?_; refine pool_done rfl rfl ?_
    rw [List.nil_append]
    refine At.back ?_
    have stop79 := trivial
    refine At.regionEnd ?_; refine At.cond rfl ?_; refine At.skip (At.seq (At.region ?_)); refine At.ld 4 rfl rfl rfl rfl rfl rfl rfl rfl rfl ?_; refine At.ld 2 rfl rfl rfl rfl rfl rfl rfl rfl rfl ?_
    clear stop79
    refine At.cl rfl rfl rfl rfl rfl rfl rfl rfl (s79 L _ (x := x) hO.a) ?_
    rintro _ _ ⟨sf3, ⟨p3, p4⟩, rfl⟩
    by_cases h1 : standBar B x = 0
    · obtain ⟨A3, rfl, hbo3⟩ := p4 h1
      obtain ⟨sg3, hsg3, hBg3, hshare3⟩ := hbo3.share
      refine hshare3 ?_; refine At.back ?_
      have hK3 := stand_knows hz h1
      have hbC3 := bounds_of_bar hK3.c
      have hOC3 : OpS (sg3 ++ H) (sg3 ++ H) (standM B x) A3 := ⟨Sub.refl _, fun f hf => (List.mem_append.1 hf).elim (hsg3 f) (hsh f), ⟨hg.a (Sub.append_left _ _), hBg3.a (Sub.pre _ _), by omega, by omega⟩⟩
      have hOB3 : OpS (sg3 ++ H) (sg3 ++ H) B ⟨pa, pc, ma, mc⟩ := ⟨Sub.refl _, fun f hf => (List.mem_append.1 hf).elim (hsg3 f) (hsh f), ⟨hg.a (Sub.append_left _ _), hBk.a (Sub.append_left _ _), by omega, by omega⟩⟩
      have u82 := fun H_ (hB_ : OpS H_ (sg3 ++ H) B ⟨pa, pc, ma, mc⟩) (hC_ : OpS H_ (sg3 ++ H) (standM B x) A3) => s82 (Post := Post) (W₀ := W₀) (s := s) (row := row) hB_ hC_ hK3 hs hr
      simp only [hL] at u82
      have u24 := fun H_ (hB_ : BkR H_ (standM B x) A3) => s24 L H_ hB_ (by omega) (by omega)
      rw [hK3.c] at u24
      have hBs : BkR H (stoodM B (maxI B.lo x.1) (minI B.hi x.2)) ⟨pa, pc, ma, mc⟩ := ⟨hBk.p, hBk.m⟩
      have u78 := fun H_ (hB_ : BkR H_ (standM B x) A3) (hC_ : BkR H_ (stoodM B (maxI B.lo x.1) (minI B.hi x.2)) ⟨pa, pc, ma, mc⟩) => s78 L H_ hB_ hC_ (by omega) (by omega)
      rw [show sameM (standM B x) (stoodM B (maxI B.lo x.1) (minI B.hi x.2)) = true from same_self _] at u78
      have stopDraw := trivial
      (iterate 3 refine At.v rfl rfl rfl rfl rfl trivial ?_); refine At.st 0 rfl rfl rfl rfl rfl rfl rfl rfl rfl rfl rfl rfl ?_; refine At.v rfl rfl rfl rfl rfl trivial ?_; refine At.regionEnd (At.seq (At.seq (At.region ?_))); refine At.v rfl rfl rfl rfl rfl trivial ?_; refine At.cp rfl rfl rfl rfl rfl fun b73 h73 => ?_; refine At.regionEnd ?_
      obtain rfl : b73 = false := h73.symm.trans (by kernel_rfl)
      refine At.cond rfl ?_; refine At.skip (At.seq ?_)
      clear stopDraw
      refine At.draw hmix (_) sb ?_
      have stop84 := trivial
      have stop83 := trivial
      have stop78 := trivial
      have stop24 := trivial
      have stop82 := trivial
      refine Pool.ld 0 0 rfl rfl rfl rfl rfl rfl rfl rfl rfl rfl rfl ?_; refine Pool.ld 4 1 rfl rfl rfl rfl rfl rfl rfl rfl rfl rfl rfl ?_; refine Pool.fa 2 2 rfl rfl rfl rfl rfl rfl rfl rfl rfl ?_; refine Pool.ld 4 3 rfl rfl rfl rfl rfl rfl rfl rfl rfl rfl rfl ?_; refine Pool.ld 2 4 rfl rfl rfl rfl rfl rfl rfl rfl rfl rfl rfl ?_; refine Pool.cq 5 rfl rfl rfl rfl rfl rfl rfl rfl rfl (fun H_ hs_ => s84 L H_ (x := (B.lo, B.hi)) (y := x)) ?_
      skip
      refine Pool.cq 6 rfl rfl rfl rfl rfl rfl rfl rfl rfl (fun H_ hs_ => s83 L H_ (B := B) (A := ⟨pa, pc, ma, mc⟩) (x := (maxI B.lo x.1, minI B.hi x.2))) ?_
      skip
      refine Pool.cq 7 rfl rfl rfl rfl rfl rfl rfl rfl rfl (fun H_ hs_ => u78 _ hOC3.a.opn.r hBs.a) ?_; refine Pool.v 8 rfl rfl rfl rfl rfl rfl rfl trivial ?_; refine Pool.ld 0 9 rfl rfl rfl rfl rfl rfl rfl rfl rfl rfl rfl ?_; refine Pool.cq 10 rfl rfl rfl rfl rfl rfl rfl rfl rfl (fun H_ hs_ => u24 _ hOC3.a.opn.r) ?_; refine Pool.cp 11 rfl rfl rfl rfl rfl rfl rfl fun b99 h99 => ?_; refine Pool.v 12 rfl rfl rfl rfl rfl rfl rfl trivial ?_; refine Pool.v 13 rfl rfl rfl rfl rfl rfl rfl trivial ?_
      obtain rfl : b99 = true := h99.symm.trans (by kernel_rfl)
      refine Pool.ld 4 14 rfl rfl rfl rfl rfl rfl rfl rfl rfl rfl rfl ?_; refine Pool.ld 0 15 rfl rfl rfl rfl rfl rfl rfl rfl rfl rfl rfl ?_; refine Pool.ld 1 16 rfl rfl rfl rfl rfl rfl rfl rfl rfl rfl rfl ?_; refine Pool.v 17 rfl rfl rfl rfl rfl rfl rfl trivial ?_; refine Pool.cq 18 rfl rfl rfl rfl rfl rfl rfl rfl rfl (fun H_ hs_ => u82 _ hOB3.a hOC3.a) ?_; refine Pool.v 19 rfl rfl rfl rfl rfl rfl rfl trivial ?_; refine Pool.v 20 rfl rfl rfl rfl rfl rfl rfl trivial ?_
      subst hL
      refine Pool.cq 21 rfl rfl rfl rfl rfl rfl rfl rfl rfl (fun H_ hs_ => s22 hG.a) ?_; refine Pool.v 22 rfl rfl rfl rfl rfl rfl rfl trivial ?_; refine Pool.v 23 rfl rfl rfl rfl rfl rfl rfl trivial ?_; refine pool_done rfl rfl ?_; refine At.regionEnd ?_
      exact hLB Tryz.func19 (.inr ⟨_, rfl⟩) rfl (.tmp rfl .nil) (⟨by rfl, rfl⟩)
    · obtain rfl := p3 h1
      refine At.back ?_
      have stop78 := trivial
      rcases stand_vals hz h1 with e | e
      · rw [e]
        (iterate 3 refine At.v rfl rfl rfl rfl rfl trivial ?_); refine At.st 0 rfl rfl rfl rfl rfl rfl rfl rfl rfl rfl rfl rfl ?_; refine At.v rfl rfl rfl rfl rfl trivial ?_; refine At.regionEnd (At.seq (At.seq (At.region ?_))); refine At.v rfl rfl rfl rfl rfl trivial ?_; refine At.cp rfl rfl rfl rfl rfl fun b73 h73 => ?_; refine At.regionEnd ?_
        obtain rfl : b73 = true := h73.symm.trans (by kernel_rfl)
        refine At.cond rfl ?_; refine At.seq (At.region ?_); refine At.v rfl rfl rfl rfl rfl trivial ?_; refine At.cp rfl rfl rfl rfl rfl fun b75 h75 => ?_; refine At.v rfl rfl rfl rfl rfl trivial ?_
        obtain rfl : b75 = true := h75.symm.trans (by kernel_rfl)
        (iterate 2 refine At.un rfl rfl rfl rfl ?_); (iterate 2 refine At.v rfl rfl rfl rfl rfl trivial ?_); refine At.ld 0 rfl rfl rfl rfl rfl rfl rfl rfl rfl ?_; refine At.q rfl rfl rfl rfl (q_build rfl rfl rfl) ?_; refine At.cq rfl rfl rfl rfl rfl rfl rfl rfl (s78z L _) ?_; (iterate 2 refine At.v rfl rfl rfl rfl rfl trivial ?_)
        subst hL
        refine At.cq rfl rfl rfl rfl rfl rfl rfl rfl (s22 hG.a) ?_; (iterate 2 refine At.v rfl rfl rfl rfl rfl trivial ?_); refine At.regionEnd ?_
        exact hLB Tryz.func19 (.inr ⟨_, rfl⟩) rfl (.tmp rfl .nil) (⟨by rfl, rfl⟩)
      · rw [e]
        (iterate 3 refine At.v rfl rfl rfl rfl rfl trivial ?_); refine At.st 0 rfl rfl rfl rfl rfl rfl rfl rfl rfl rfl rfl rfl ?_; refine At.v rfl rfl rfl rfl rfl trivial ?_; refine At.regionEnd (At.seq (At.seq (At.region ?_))); refine At.v rfl rfl rfl rfl rfl trivial ?_; refine At.cp rfl rfl rfl rfl rfl fun b73 h73 => ?_; refine At.regionEnd ?_
        obtain rfl : b73 = true := h73.symm.trans (by kernel_rfl)
        refine At.cond rfl ?_; refine At.seq (At.region ?_); refine At.v rfl rfl rfl rfl rfl trivial ?_; refine At.cp rfl rfl rfl rfl rfl fun b75 h75 => ?_; refine At.v rfl rfl rfl rfl rfl trivial ?_
        obtain rfl : b75 = false := h75.symm.trans (by kernel_rfl)
        refine At.v rfl rfl rfl rfl rfl trivial ?_; refine At.cp rfl rfl rfl rfl rfl fun b78 h78 => ?_; (iterate 2 refine At.v rfl rfl rfl rfl rfl trivial ?_)
        obtain rfl : b78 = true := h78.symm.trans (by kernel_rfl)
        refine At.ld 0 rfl rfl rfl rfl rfl rfl rfl rfl rfl ?_; refine At.q rfl rfl rfl rfl (q_build rfl rfl rfl) ?_; refine At.cq rfl rfl rfl rfl rfl rfl rfl rfl (s78z L _) ?_; (iterate 2 refine At.v rfl rfl rfl rfl rfl trivial ?_)
        subst hL
        refine At.cq rfl rfl rfl rfl rfl rfl rfl rfl (s22 hG.a) ?_; (iterate 2 refine At.v rfl rfl rfl rfl rfl trivial ?_); refine At.regionEnd ?_
        exact hLB Tryz.func19 (.inr ⟨_, rfl⟩) rfl (.tmp rfl .nil) (⟨by rfl, rfl⟩)
  · obtain rfl := p1 h0
    refine At.back ?_
    have stopDraw := trivial
    (iterate 3 refine At.v rfl rfl rfl rfl rfl trivial ?_); refine At.al rfl rfl rfl rfl rfl fun r15 => ?_; refine At.st 0 rfl rfl rfl rfl rfl rfl rfl rfl rfl rfl rfl rfl ?_; refine At.v rfl rfl rfl rfl rfl trivial ?_; refine At.regionEnd (At.seq (At.seq ?_))
    clear stopDraw
    refine At.draw hmix (_) sb ?_
    have stop78 := trivial
    refine Pool.v 0 rfl rfl rfl rfl rfl rfl rfl trivial ?_; refine Pool.cp 1 rfl rfl rfl rfl rfl rfl rfl fun b34 h34 => ?_; refine Pool.v 2 rfl rfl rfl rfl rfl rfl rfl trivial ?_
    obtain rfl : b34 = false := h34.symm.trans (decide_eq_false (by omega))
    refine Pool.un 3 rfl rfl rfl rfl rfl rfl ?_; refine Pool.un 4 rfl rfl rfl rfl rfl rfl ?_; refine Pool.un 5 rfl rfl rfl rfl rfl rfl ?_; refine Pool.un 6 rfl rfl rfl rfl rfl rfl ?_; refine Pool.un 7 rfl rfl rfl rfl rfl rfl ?_; refine Pool.un 8 rfl rfl rfl rfl rfl rfl ?_; refine Pool.un 9 rfl rfl rfl rfl rfl rfl ?_; refine Pool.un 10 rfl rfl rfl rfl rfl rfl ?_; refine Pool.un 11 rfl rfl rfl rfl rfl rfl ?_; refine Pool.un 12 rfl rfl rfl rfl rfl rfl ?_; refine Pool.un 13 rfl rfl rfl rfl rfl rfl ?_
    refine Pool.un 14 rfl rfl rfl rfl rfl rfl ?_; refine Pool.un 15 rfl rfl rfl rfl rfl rfl ?_; refine Pool.un 16 rfl rfl rfl rfl rfl rfl ?_; refine Pool.un 17 rfl rfl rfl rfl rfl rfl ?_; refine Pool.un 18 rfl rfl rfl rfl rfl rfl ?_; refine Pool.un 19 rfl rfl rfl rfl rfl rfl ?_; refine Pool.un 20 rfl rfl rfl rfl rfl rfl ?_; refine Pool.un 21 rfl rfl rfl rfl rfl rfl ?_; refine Pool.v 22 rfl rfl rfl rfl rfl rfl rfl trivial ?_; refine Pool.v 23 rfl rfl rfl rfl rfl rfl rfl trivial ?_
    refine Pool.v 24 rfl rfl rfl rfl rfl rfl rfl trivial ?_; refine Pool.cp 25 rfl rfl rfl rfl rfl rfl rfl fun b58 h58 => ?_; refine Pool.v 26 rfl rfl rfl rfl rfl rfl rfl trivial ?_
    obtain rfl : b58 = true := h58.symm.trans (decide_eq_true (by omega))
    refine Pool.ld 0 27 rfl rfl rfl rfl rfl rfl rfl rfl rfl rfl rfl ?_; refine Pool.q 28 rfl rfl rfl rfl rfl (q_build rfl rfl rfl) rfl ?_; refine Pool.cq 29 rfl rfl rfl rfl rfl rfl rfl rfl rfl (fun H_ hs_ => s78z L _) ?_
    clear stop78
    have stop79 := trivial
    refine Pool.v 30 rfl rfl rfl rfl rfl rfl rfl trivial ?_; refine Pool.v 31 rfl rfl rfl rfl rfl rfl rfl trivial ?_; refine Pool.v 32 rfl rfl rfl rfl rfl rfl rfl trivial ?_; refine pool_done rfl rfl ?_; refine At.regionEnd ?_; refine At.cond rfl ?_; refine At.skip (At.seq (At.region ?_)); refine At.ld 4 rfl rfl rfl rfl rfl rfl rfl rfl rfl ?_; refine At.ld 2 rfl rfl rfl rfl rfl rfl rfl rfl rfl ?_
    clear stop79
    refine At.cl rfl rfl rfl rfl rfl rfl rfl rfl (s79 L _ (x := x) hO.a) ?_
    rintro _ _ ⟨sf3, ⟨p3, p4⟩, rfl⟩
    by_cases h1 : standBar B x = 0
    · obtain ⟨A3, rfl, hbo3⟩ := p4 h1
      obtain ⟨sg3, hsg3, hBg3, hshare3⟩ := hbo3.share
      refine hshare3 ?_; refine At.back ?_
      have hK3 := stand_knows hz h1
      have hbC3 := bounds_of_bar hK3.c
      have hOC3 : OpS (sg3 ++ H) (sg3 ++ H) (standM B x) A3 := ⟨Sub.refl _, fun f hf => (List.mem_append.1 hf).elim (hsg3 f) (hsh f), ⟨hg.a (Sub.append_left _ _), hBg3.a (Sub.pre _ _), by omega, by omega⟩⟩
      have hOB3 : OpS (sg3 ++ H) (sg3 ++ H) B ⟨pa, pc, ma, mc⟩ := ⟨Sub.refl _, fun f hf => (List.mem_append.1 hf).elim (hsg3 f) (hsh f), ⟨hg.a (Sub.append_left _ _), hBk.a (Sub.append_left _ _), by omega, by omega⟩⟩
      have u82 := fun H_ (hB_ : OpS H_ (sg3 ++ H) B ⟨pa, pc, ma, mc⟩) (hC_ : OpS H_ (sg3 ++ H) (standM B x) A3) => s82 (Post := Post) (W₀ := W₀) (s := s) (row := row) hB_ hC_ hK3 hs hr
      simp only [hL] at u82
      have u24 := fun H_ (hB_ : BkR H_ (standM B x) A3) => s24 L H_ hB_ (by omega) (by omega)
      rw [hK3.c] at u24
      have hBs : BkR H (stoodM B (maxI B.lo x.1) (minI B.hi x.2)) ⟨pa, pc, ma, mc⟩ := ⟨hBk.p, hBk.m⟩
      have u78 := fun H_ (hB_ : BkR H_ (standM B x) A3) (hC_ : BkR H_ (stoodM B (maxI B.lo x.1) (minI B.hi x.2)) ⟨pa, pc, ma, mc⟩) => s78 L H_ hB_ hC_ (by omega) (by omega)
      rw [show sameM (standM B x) (stoodM B (maxI B.lo x.1) (minI B.hi x.2)) = true from same_self _] at u78
      have stopDraw := trivial
      (iterate 3 refine At.v rfl rfl rfl rfl rfl trivial ?_); refine At.st 0 rfl rfl rfl rfl rfl rfl rfl rfl rfl rfl rfl rfl ?_; refine At.v rfl rfl rfl rfl rfl trivial ?_; refine At.regionEnd (At.seq (At.seq (At.region ?_))); refine At.v rfl rfl rfl rfl rfl trivial ?_; refine At.cp rfl rfl rfl rfl rfl fun b73 h73 => ?_; refine At.regionEnd ?_
      obtain rfl : b73 = false := h73.symm.trans (by kernel_rfl)
      refine At.cond rfl ?_; refine At.skip (At.seq ?_)
      clear stopDraw
      refine At.draw hmix (_) sb ?_
      have stop84 := trivial
      have stop83 := trivial
      have stop78 := trivial
      have stop24 := trivial
      have stop82 := trivial
      refine Pool.ld 0 0 rfl rfl rfl rfl rfl rfl rfl rfl rfl rfl rfl ?_; refine Pool.ld 4 1 rfl rfl rfl rfl rfl rfl rfl rfl rfl rfl rfl ?_; refine Pool.fa 2 2 rfl rfl rfl rfl rfl rfl rfl rfl rfl ?_; refine Pool.ld 4 3 rfl rfl rfl rfl rfl rfl rfl rfl rfl rfl rfl ?_; refine Pool.ld 2 4 rfl rfl rfl rfl rfl rfl rfl rfl rfl rfl rfl ?_; refine Pool.cq 5 rfl rfl rfl rfl rfl rfl rfl rfl rfl (fun H_ hs_ => s84 L H_ (x := (B.lo, B.hi)) (y := x)) ?_
      skip
      refine Pool.cq 6 rfl rfl rfl rfl rfl rfl rfl rfl rfl (fun H_ hs_ => s83 L H_ (B := B) (A := ⟨pa, pc, ma, mc⟩) (x := (maxI B.lo x.1, minI B.hi x.2))) ?_
      skip
      refine Pool.cq 7 rfl rfl rfl rfl rfl rfl rfl rfl rfl (fun H_ hs_ => u78 _ hOC3.a.opn.r hBs.a) ?_; refine Pool.v 8 rfl rfl rfl rfl rfl rfl rfl trivial ?_; refine Pool.ld 0 9 rfl rfl rfl rfl rfl rfl rfl rfl rfl rfl rfl ?_; refine Pool.cq 10 rfl rfl rfl rfl rfl rfl rfl rfl rfl (fun H_ hs_ => u24 _ hOC3.a.opn.r) ?_; refine Pool.cp 11 rfl rfl rfl rfl rfl rfl rfl fun b99 h99 => ?_; refine Pool.v 12 rfl rfl rfl rfl rfl rfl rfl trivial ?_; refine Pool.v 13 rfl rfl rfl rfl rfl rfl rfl trivial ?_
      obtain rfl : b99 = true := h99.symm.trans (by kernel_rfl)
      refine Pool.ld 4 14 rfl rfl rfl rfl rfl rfl rfl rfl rfl rfl rfl ?_; refine Pool.ld 0 15 rfl rfl rfl rfl rfl rfl rfl rfl rfl rfl rfl ?_; refine Pool.ld 1 16 rfl rfl rfl rfl rfl rfl rfl rfl rfl rfl rfl ?_; refine Pool.v 17 rfl rfl rfl rfl rfl rfl rfl trivial ?_; refine Pool.cq 18 rfl rfl rfl rfl rfl rfl rfl rfl rfl (fun H_ hs_ => u82 _ hOB3.a hOC3.a) ?_; refine Pool.v 19 rfl rfl rfl rfl rfl rfl rfl trivial ?_; refine Pool.v 20 rfl rfl rfl rfl rfl rfl rfl trivial ?_
      subst hL
      refine Pool.cq 21 rfl rfl rfl rfl rfl rfl rfl rfl rfl (fun H_ hs_ => s22 hG.a) ?_; refine Pool.v 22 rfl rfl rfl rfl rfl rfl rfl trivial ?_; refine Pool.v 23 rfl rfl rfl rfl rfl rfl rfl trivial ?_; refine pool_done rfl rfl ?_; refine At.regionEnd ?_
      exact hLB Tryz.func19 (.inr ⟨_, rfl⟩) rfl (.tmp rfl .nil) (⟨by rfl, rfl⟩)
    · obtain rfl := p3 h1
      refine At.back ?_
      have stop78 := trivial
      rcases stand_vals hz h1 with e | e
      · rw [e]
        (iterate 3 refine At.v rfl rfl rfl rfl rfl trivial ?_); refine At.st 0 rfl rfl rfl rfl rfl rfl rfl rfl rfl rfl rfl rfl ?_; refine At.v rfl rfl rfl rfl rfl trivial ?_; refine At.regionEnd (At.seq (At.seq (At.region ?_))); refine At.v rfl rfl rfl rfl rfl trivial ?_; refine At.cp rfl rfl rfl rfl rfl fun b73 h73 => ?_; refine At.regionEnd ?_
        obtain rfl : b73 = true := h73.symm.trans (by kernel_rfl)
        refine At.cond rfl ?_; refine At.seq (At.region ?_); refine At.v rfl rfl rfl rfl rfl trivial ?_; refine At.cp rfl rfl rfl rfl rfl fun b75 h75 => ?_; refine At.v rfl rfl rfl rfl rfl trivial ?_
        obtain rfl : b75 = true := h75.symm.trans (by kernel_rfl)
        (iterate 2 refine At.un rfl rfl rfl rfl ?_); (iterate 2 refine At.v rfl rfl rfl rfl rfl trivial ?_); refine At.ld 0 rfl rfl rfl rfl rfl rfl rfl rfl rfl ?_; refine At.q rfl rfl rfl rfl (q_build rfl rfl rfl) ?_; refine At.cq rfl rfl rfl rfl rfl rfl rfl rfl (s78z L _) ?_; (iterate 2 refine At.v rfl rfl rfl rfl rfl trivial ?_)
        subst hL
        refine At.cq rfl rfl rfl rfl rfl rfl rfl rfl (s22 hG.a) ?_; (iterate 2 refine At.v rfl rfl rfl rfl rfl trivial ?_); refine At.regionEnd ?_
        exact hLB Tryz.func19 (.inr ⟨_, rfl⟩) rfl (.tmp rfl .nil) (⟨by rfl, rfl⟩)
      · rw [e]
        (iterate 3 refine At.v rfl rfl rfl rfl rfl trivial ?_); refine At.st 0 rfl rfl rfl rfl rfl rfl rfl rfl rfl rfl rfl rfl ?_; refine At.v rfl rfl rfl rfl rfl trivial ?_; refine At.regionEnd (At.seq (At.seq (At.region ?_))); refine At.v rfl rfl rfl rfl rfl trivial ?_; refine At.cp rfl rfl rfl rfl rfl fun b73 h73 => ?_; refine At.regionEnd ?_
        obtain rfl : b73 = true := h73.symm.trans (by kernel_rfl)
        refine At.cond rfl ?_; refine At.seq (At.region ?_); refine At.v rfl rfl rfl rfl rfl trivial ?_; refine At.cp rfl rfl rfl rfl rfl fun b75 h75 => ?_; refine At.v rfl rfl rfl rfl rfl trivial ?_
        obtain rfl : b75 = false := h75.symm.trans (by kernel_rfl)
        refine At.v rfl rfl rfl rfl rfl trivial ?_; refine At.cp rfl rfl rfl rfl rfl fun b78 h78 => ?_; (iterate 2 refine At.v rfl rfl rfl rfl rfl trivial ?_)
        obtain rfl : b78 = true := h78.symm.trans (by kernel_rfl)
        refine At.ld 0 rfl rfl rfl rfl rfl rfl rfl rfl rfl ?_; refine At.q rfl rfl rfl rfl (q_build rfl rfl rfl) ?_; refine At.cq rfl rfl rfl rfl rfl rfl rfl rfl (s78z L _) ?_; (iterate 2 refine At.v rfl rfl rfl rfl rfl trivial ?_)
        subst hL
        refine At.cq rfl rfl rfl rfl rfl rfl rfl rfl (s22 hG.a) ?_; (iterate 2 refine At.v rfl rfl rfl rfl rfl trivial ?_); refine At.regionEnd ?_
        exact hLB Tryz.func19 (.inr ⟨_, rfl⟩) rfl (.tmp rfl .nil) (⟨by rfl, rfl⟩)
end Go.Gx
end

section
set_option linter.unusedSimpArgs false
set_option linter.unusedVariables false
namespace Go.Gx
open Go Go.Conc Go.Proofs Go.ChangeShapes Go.RowKit YtokdmiiejfmomaaGreatDoor
set_option maxRecDepth 100000
theorem ip19 : Tryz.prog.inPlace 19 = [] := by kernel_rfl
theorem uf19 : Tryz.prog.unfollowed 19 = true := by kernel_rfl
theorem rc19 : Tryz.prog.recurses 19 = true := by kernel_rfl
theorem vn19 : Tryz.prog.varsNamed 19 = ["velarium/canvas.checks"] := by kernel_rfl
theorem closed19 : joinedFacts Tryz.prog 19 Tryz.f19 Rows.canvasLearntSpec Rows.canvasLearntRow = true := by
  unfold joinedFacts
  rewrite [ip19, uf19, rc19, vn19, enter1, lf1, make1]
  kernel_rfl
theorem fnm19 : Tryz.prog.funcNamed "velarium/velariumlaw02.CanvasLearnt" = some 19 := by kernel_rfl
theorem inst19 : Tryz.f19.isInstance Tryz.prog Rows.canvasLearntRow.origin Rows.canvasLearntRow.targs := of_decide_eq_true (by kernel_rfl)
theorem wrap19 : Tryz.f19.isWrapper Tryz.prog Rows.canvasLearntRow.wrapper Rows.canvasLearntRow.mainSum := by unfold Func.isWrapper; first | (rw [if_pos (by decide +kernel)]; kernel_rfl) | (rw [if_neg (by decide +kernel)]; exact ⟨rfl, rfl⟩)
theorem goes19 : Tryz.prog.goes 19 = true := by kernel_rfl
theorem wbt19 : Rows.canvasLearntRow.wfByText (OpenSpec.ofChange Rows.canvasLearntSpec) = true := by kernel_rfl
theorem wants19 : (Tryz.f19.params.toList.all fun t => !Tryz.prog.wantsStandIn t) = true := by kernel_rfl
theorem lifted19 (os : Os) (started : os.Started) (H : Type) (enc : TypeId × Value → H) :
    ReturnsInLeavingWide {} Tryz.checked os 19 .any (fun w args => (Rows.canvasLearntSpec.pre enc Tryz.prog Tryz.f19 [] false w args ∧ laidMetH Tryz.prog laid1 w) ∧ sizedMet enc Tryz.prog Tryz.f19 (OpenSpec.ofChange Rows.canvasLearntSpec) false w args) (Rows.canvasLearntSpec.post enc Tryz.prog Tryz.f19 false true false false) := by
  refine law_lift Tryz.func19 (by kernel_rfl) rfl rfl (by kernel_rfl) os started H enc #[.agg #[.slice none 0 0, .int .i64 0, .int .i64 0, .int .i64 0, .slice none 0 0], .agg #[.int .i64 0, .int .i64 0, .int .i64 0], .agg #[.int .i64 0, .int .i64 0], .int .u8 0, .int .u8 0, .int .i8 0]
    (World.shaped_of_RefB (by kernel_rfl) (by kernel_rfl)) (by kernel_rfl) (by kernel_rfl) (by kernel_rfl) ?_
  intro W base args ds ps hval hA
  rw [Tryz.params19] at hval hA
  obtain ⟨v0, vs0, d0, ds0, p0, q0, e0, rfl, rfl, h0, hA⟩ := trodAll_cons hA
  obtain ⟨v1, vs1, d1, ds1, p1, q1, rfl, rfl, rfl, h1, hA⟩ := trodAll_cons hA
  obtain ⟨v2, vs2, d2, ds2, p2, q2, rfl, rfl, rfl, h2, hA⟩ := trodAll_cons hA
  obtain ⟨v3, vs3, d3, ds3, p3, q3, rfl, rfl, rfl, h3, hA⟩ := trodAll_cons hA
  obtain ⟨v4, vs4, d4, ds4, p4, q4, rfl, rfl, rfl, h4, hA⟩ := trodAll_cons hA
  obtain ⟨v5, vs5, d5, ds5, p5, q5, rfl, rfl, rfl, h5, hA⟩ := trodAll_cons hA
  obtain ⟨rfl, rfl, rfl⟩ := trodAll_nil hA
  obtain rfl : args = #[v0, v1, v2, v3, v4, v5] := Array.toList_inj.1 e0
  obtain ⟨B0, A0, Hs0, rfl, hsh0, hb0⟩ := open_book (hval 0 27 _ rfl rfl) h0
  obtain ⟨x1, rfl⟩ := open_mark (hval 1 94 _ rfl rfl) h1
  obtain ⟨x2, rfl⟩ := open_band (hval 2 24 _ rfl rfl) h2
  obtain ⟨n3, rfl, rfl, rfl, w3⟩ := open_int Tryz.underlying5 (hval 3 5 _ rfl rfl) h3
  obtain ⟨n4, rfl, rfl, rfl, w4⟩ := open_int Tryz.underlying5 (hval 4 5 _ rfl rfl) h4
  obtain ⟨n5, rfl, rfl, rfl, w5⟩ := open_int Tryz.underlying53 (hval 5 53 _ rfl rfl) h5
  exact ⟨rfl, Hs0, hsh0, fun Post => law19 hsh0.glo hsh0.ro (hb0.a (Sub.append_left _ _)) (wf_u8 w3) (wf_u8 w4) (wf_i8 w5)⟩
theorem said19 : Rows.CanvasLearntSaid :=
  OpenClaim.holds_of_wide_leaving 19 Tryz.f19 rfl rfl rfl rfl rfl rfl rfl ⟨rfl, rfl, rfl, rfl, rfl⟩ rfl rfl rfl rfl rfl fnm19 Tryz.func19 closed19 inst19 wrap19
    (fun os started H enc _ => lifted19 os started H enc)
theorem card19 : Rows.CanvasLearntCardSaid :=
  ⟨Claim7.tied_new_at .later [.funcs] true (Claim7.new_of_sixth said19 (true, "2aeeda9e0b315eb022070bc88bc80a554dcd329f773ad53586088327a2b29430") false rfl ⟨rfl, rfl⟩ mi1 rfl
    (fun f fn hf hfn => by
      obtain rfl : f = 19 := Option.some.inj (hf.symm.trans fnm19)
      obtain rfl : fn = Tryz.f19 := Option.some.inj (hfn.symm.trans Tryz.func19)
      exact ⟨looks1.symm, wants_of wants19⟩)) wbt19, (fun _ h => by cases h), canvasLearnt_row_tie, (fun h => by cases h), goes_of fnm19 goes19⟩
end Go.Gx
namespace Go.Proofs.YtokdmiiejfmomaaGreatDoor
/-- THE CARD OF CanvasLearnt. -/
theorem canvasLearnt_card : Rows.CanvasLearntCardSaid := Go.Gx.card19
#print axioms canvasLearnt_card
end Go.Proofs.YtokdmiiejfmomaaGreatDoor
end
