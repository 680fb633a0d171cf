/-
  The law CanvasAnyOrder (marks that are listed the other way round change no more than indexes: the same states, the same rows, as many marks clash): its tied card holds, for every input, without a condition.
-/
import Derived.Test.YtokdmiiejfmomaaGreatDoorW6
import Derived.SevenTiedAt
section
set_option linter.unusedSimpArgs false
set_option linter.unusedVariables false
namespace Go.Gx
open Go Go.Conc Go.Proofs Go.ChangeShapes Go.RowKit YtokdmiiejfmomaaGreatDoor
set_option maxRecDepth 100000
theorem Shr.ro {W : World} {Hs : Facts} (h : Shr W Hs) : ∀ f ∈ ([.seg 0 0 chkC] ++ Hs : Facts), f.isOwn = false := by
  intro f hf
  rcases List.mem_append.1 hf with hf | hf
  · rw [List.mem_singleton] at hf; subst hf; rfl
  · exact (h f hf).1
section
variable {H : Type} {enc : TypeId × Value → H} {W : World} {sp : Nat → Bool} {held : Bool}

end
end Go.Gx
end

section
set_option linter.unusedSimpArgs false
set_option linter.unusedVariables false
namespace Go.Gx
open Go Go.Conc Go.Proofs

instance : BoI Tryz.prog 4 := ⟨by kernel_rfl⟩
end Go.Gx
end

section
set_option linter.unusedSimpArgs false
set_option linter.unusedVariables false
namespace Go.Gx
open Go Go.Conc Go.Proofs
variable {main : Bool}

/-! ### the reference's piece and point that is met, and that they are the program's -/
end Go.Gx
end

section
set_option linter.unusedSimpArgs false
set_option linter.unusedVariables false
namespace Go.Gx
open Go Go.Conc Go.Proofs
variable {main : Bool}

end Go.Gx
end

section
set_option linter.unusedSimpArgs false
set_option linter.unusedVariables false
namespace Go.Gx
open Go Go.Conc Go.Proofs
variable {main : Bool}

end Go.Gx
end

section
set_option linter.unusedSimpArgs false
set_option linter.unusedVariables false
namespace Go.Gx
open Go Go.Conc Go.Proofs
variable {main : Bool}

end Go.Gx
end

section
set_option linter.unusedSimpArgs false
set_option linter.unusedVariables false
namespace Go.Gx
open Go Go.Conc Go.Proofs
variable {main : Bool}

end Go.Gx
end

section
/-
  LOGIC G: what a call has made is put behind the cells that one knows by their places.
-/
set_option linter.unusedSimpArgs false
set_option linter.unusedVariables false
namespace Go.Gx
open Go Go.Conc
/-- 'Y' is 'sf ++ X' with the own cells that stand first in 'X' ahead of 'sf'. -/
class Back (sf X : Facts) (Y : outParam Facts) : Prop where
  s : Sub Y (sf ++ X)
instance (priority := low) backNil {sf X : Facts} : Back sf X (sf ++ X) := ⟨Sub.refl _⟩
instance backCons {sf X Y : Facts} {r : Nat} {o : Obj} [h : Back sf X Y] : Back sf (.own r o :: X) (.own r o :: Y) :=
  ⟨(Sub.cons _ h.s).trans (Sub.of_perm List.perm_middle.symm)⟩
theorem At.back {P : Program} {main : Bool} {L : Lg P main} {f : FuncId} {ro : Option Nat} {ds : Dz} {cs : List Frame} {n : Nat} {E : Env} {k : List Item} {sf X Y : Facts} [hb : Back sf X Y] (h : At L f ro ds cs n E Y k) : At L f ro ds cs n E (sf ++ X) k :=
  h.weakH hb.s
end Go.Gx
end

section
set_option linter.unusedSimpArgs false
set_option linter.unusedVariables false
namespace Go.Gx
open Go Go.Conc Go.Proofs

end Go.Gx
end

section
set_option linter.unusedSimpArgs false
set_option linter.unusedVariables false
namespace Go.Gx
open Go Go.Conc Go.Proofs
variable {main : Bool}

end Go.Gx
end

section
set_option linter.unusedSimpArgs false
set_option linter.unusedVariables false
namespace Go.Gx
open Go Go.Conc Go.Proofs
variable {main : Bool}

end Go.Gx
end

section
set_option linter.unusedSimpArgs false
set_option linter.unusedVariables false
namespace Go.Gx
open Go Go.Conc Go.Proofs

end Go.Gx
end

section
set_option linter.unusedSimpArgs false
set_option linter.unusedVariables false
namespace Go.Gx
open Go Go.Conc Go.Proofs
variable {main : Bool}

def knR (B : Bk) (r : Int) : Int := if bookBar B ≠ 0 then bookBar B else if r ≠ 0 then r else if (statesM B).length = 0 then 9 else 0
theorem knR_eq (B : Bk) (rs : List Int) : knR B (firstBar rs) = knownBar B rs := by
  unfold knR knownBar lookBar
  by_cases hz : bookBar B = 0
  · simp [hz]
  · simp [hz]
end Go.Gx
end

section
set_option linter.unusedSimpArgs false
set_option linter.unusedVariables false
namespace Go.Gx
open Go Go.Conc Go.Proofs
variable {main : Bool}

/-! ### where a line meets the canvas, and in which row -/
/-! ### the reference's sorting -/
end Go.Gx
end

section
set_option linter.unusedSimpArgs false
set_option linter.unusedVariables false
namespace Go.Gx
open Go Go.Conc Go.Proofs
variable {main : Bool}

end Go.Gx
end

section
set_option linter.unusedSimpArgs false
set_option linter.unusedVariables false
namespace Go.Gx
open Go Go.Conc Go.Proofs
variable {main : Bool}

theorem kn_book {B : Bk} {r : Int} (h : knR B r = 0) : bookBar B = 0 := by
  unfold knR at h
  split at h
  · exact h
  · rename_i h1; simpa using h1
end Go.Gx
end

section
set_option linter.unusedSimpArgs false
set_option linter.unusedVariables false
namespace Go.Gx
open Go Go.Conc Go.Proofs
variable {main : Bool}

end Go.Gx
end

section
set_option linter.unusedSimpArgs false
set_option linter.unusedVariables false
namespace Go.Gx
open Go Go.Conc Go.Proofs
variable {main : Bool}

end Go.Gx
end

section
set_option linter.unusedSimpArgs false
set_option linter.unusedVariables false
namespace Go.Gx
open Go Go.Conc Go.Proofs

theorem kb_book {B : Bk} {rs : List Int} (h : ¬ knownBar B rs ≠ 0) : bookBar B = 0 := by
  rw [← knR_eq] at h
  exact kn_book (Classical.not_not.1 h)
theorem compactM_len : ∀ (l : List Int), (compactM l).length ≤ l.length
  | [] => Nat.le_refl _
  | [x] => Nat.le_refl _
  | x :: y :: l => by
    have := compactM_len (y :: l)
    unfold compactM
    split
    · simp at this ⊢; omega
    · simp at this ⊢; omega
theorem rowsM_len {B : Bk} (hz : bookBar B = 0) {s : R2} : (rowsM B s).length ≤ 3 := by
  unfold rowsM
  refine Nat.le_trans (compactM_len _) ?_
  rw [sortM_len]
  exact Nat.le_trans (List.length_filter_le _ _) (rowsOf_len hz s)
theorem rws_len {B : Bk} {s : R2} {rs : List Int} : (if knownBar B rs ≠ 0 then [] else rowsM B s).length ≤ 100000 := by
  split
  · simp
  · rename_i h
    have := rowsM_len (kb_book h) (s := s)
    omega
end Go.Gx
end

section
/-
  LOGIC G: a growing list is shared: nobody writes it any more.
-/
set_option linter.unusedSimpArgs false
set_option linter.unusedVariables false
namespace Go.Gx
open Go Go.Conc
theorem Sl.share {α : Type} {c : α → List Value} {sz : Nat} [he : Enc c sz] {T : TypeId} {v : Value} {xs : List α} {sf : Facts} (h : Sl c T v xs sf) :
    ∃ sg : Facts, (∀ f ∈ sg, f.isOwn = false) ∧ (∀ a n cap, v = .slice a n cap → Rd sg a (xs.flatMap c)) ∧
      ∀ {P : Program} {main : Bool} {L : Lg P main} {f : FuncId} {ro : Option Nat} {ds : Dz} {cs : List Frame} {n : Nat} {E : Env} {k : List Item} {H : Facts}, At L f ro ds cs n E (sg ++ H) k → At L f ro ds cs n E (sf ++ H) k := by
  unfold Sl at h
  generalize hvs : xs.flatMap c = vs at h
  generalize hk : xs.length = k at h
  cases h with
  | nil => exact ⟨[], by simp, fun a n cap e => by cases e; exact .inl rfl, fun h => h⟩
  | own b cap _ _ rest hl hc hm =>
    refine ⟨[.seg b 0 (vs ++ rest)], ?_, ?_, fun h => At.share h⟩
    · intro f hf
      rw [List.mem_singleton] at hf
      subst hf
      rfl
    · intro a n cap' e
      cases e
      exact rd_cells (by have := cells_seg (H := [.seg b 0 (vs ++ rest)]) (vs := vs) (us := vs ++ rest) (b := b) (off := 0) 0 (by simp) (by simp); simpa using this)
end Go.Gx
end

section
set_option linter.unusedSimpArgs false
set_option linter.unusedVariables false
namespace Go.Gx
open Go Go.Conc Go.Proofs
variable {main : Bool}

/-! ### a book whose marks are right for an eye -/
/-! ### the plain law of CanvasReal -/
end Go.Gx
end

section
set_option linter.unusedSimpArgs false
set_option linter.unusedVariables false
namespace Go.Gx
open Go Go.Conc Go.Proofs

end Go.Gx
end

section
set_option linter.unusedSimpArgs false
set_option linter.unusedVariables false
namespace Go.Gx
open Go Go.Conc Go.Proofs
variable {main : Bool}

/-! ### the plain law of CanvasReached -/
end Go.Gx
end

section
set_option linter.unusedSimpArgs false
set_option linter.unusedVariables false
namespace Go.Gx
open Go Go.Conc Go.Proofs

end Go.Gx
end

section
set_option linter.unusedSimpArgs false
set_option linter.unusedVariables false
namespace Go.Gx
open Go Go.Conc Go.Proofs

/-! ### the plain law of CanvasNeeded -/
end Go.Gx
end

section
set_option linter.unusedSimpArgs false
set_option linter.unusedVariables false
namespace Go.Gx
open Go Go.Conc Go.Proofs

/-! ### marks the other way round -/
def revM (B : Bk) : Bk := { B with marks := B.marks.reverse }
theorem rev_rev (B : Bk) : revM (revM B) = B := by unfold revM; simp
theorem rev_bar {B : Bk} (hz : bookBar B = 0) : bookBar (revM B) = 0 := by
  have hb := bounds_of_bar hz
  exact bookBar_marks hz (by rw [List.length_reverse]; omega) (fun m hm => hb.2.2.2.2.2.2.2.2.2.2 m (List.mem_reverse.1 hm))
theorem rev_right (B : Bk) (e : Int) : rightM (revM B) e = rightM B e := by
  unfold rightM revM
  rw [List.all_reverse]
  rfl
theorem rev_states (B : Bk) : statesM (revM B) = statesM B := by
  unfold statesM
  congr 1
  funext e
  exact rev_right B e
theorem rev_rowsOf (B : Bk) (s : R2) : rowsOf (revM B) s = rowsOf B s := by
  unfold rowsOf
  rw [rev_states]
  rfl
theorem rev_rows (B : Bk) (s : R2) : rowsM (revM B) s = rowsM B s := by unfold rowsM; rw [rev_rowsOf]
theorem rev_falls (B : Bk) (s : R2) (row : Int) : fallsM (revM B) s row = fallsM B s row := by unfold fallsM; rw [rev_rowsOf, rev_states]
theorem rev_known {B : Bk} (hz : bookBar B = 0) (rs : List Int) : knownBar (revM B) rs = knownBar B rs := by
  unfold knownBar
  rw [lookBar1 hz, lookBar1 (rev_bar hz), rev_states]
def revK (n m : Nat) : Nat := (List.range n).foldl (fun a i => if bitM m i then a + 2 ^ (n - 1 - i) else a) 0
theorem sub_states {B C : Bk} {m k : Nat} (hp : B.prof = C.prof) (hs : B.size = C.size) (hl : B.lo = C.lo) (hh : B.hi = C.hi) (h : ∀ p : R2 × Int → Bool, (mksTo B m B.marks.length).all p = (mksTo C k C.marks.length).all p) :
    statesM (subM B m) = statesM (subM C k) := by
  unfold statesM
  show (bandL B.lo B.hi).filter _ = (bandL C.lo C.hi).filter _
  rw [hl, hh]
  congr 1
  funext e
  have := h fun x => decide (rowM B e x.1 = x.2)
  have e1 : ∀ x : R2, rowM B e x = rowM C e x := by
    intro x
    unfold rowM squareM footM
    rw [hp, hs]
  show (mksTo B m B.marks.length).all (fun x => decide (rowM B e x.1 = x.2)) = (mksTo C k C.marks.length).all (fun x => decide (rowM C e x.1 = x.2))
  rw [this]
  simp only [e1]
theorem odd_mem {B : Bk} {l : List Int} : ∀ {n : Nat}, l ∈ oddTo B n ↔ ∃ m, m < n ∧ (statesM (subM B m)).length = 0 ∧ l = idxTo m B.marks.length
  | 0 => by simp [oddTo]
  | n + 1 => by
    unfold oddTo
    rw [List.mem_append, odd_mem (n := n)]
    constructor
    · rintro (⟨m, h1, h2, h3⟩ | h)
      · exact ⟨m, by omega, h2, h3⟩
      · split at h
        · rename_i h0
          rw [List.mem_singleton] at h
          exact ⟨n, by omega, h0, h⟩
        · cases h
    · rintro ⟨m, h1, h2, h3⟩
      by_cases h : m = n
      · subst h
        right
        rw [if_pos h2, h3]
        exact List.mem_cons_self ..
      · left
        exact ⟨m, by omega, h2, h3⟩
theorem rev_mask (B : Bk) (hl : B.marks.length ≤ 4) {m : Nat} (hm : m < 2 ^ B.marks.length) :
    ∃ k, k < 2 ^ B.marks.length ∧ (idxTo k B.marks.length).length = (idxTo m B.marks.length).length ∧ ∀ p : R2 × Int → Bool, (mksTo (revM B) k B.marks.length).all p = (mksTo B m B.marks.length).all p := by
  obtain ⟨prof, size, lo, hi, marks⟩ := B
  simp only at hl hm ⊢
  match marks, hl, hm with
  | [], _, hm =>
    obtain rfl : m = 0 := by simp at hm; omega
    exact ⟨0, by decide, rfl, fun p => rfl⟩
  | [a], _, hm =>
    have : m = 0 ∨ m = 1 := by simp at hm; omega
    rcases this with rfl | rfl
    · exact ⟨0, by simp [revK, bitM, List.range_succ], by simp [idxTo, bitM, revK, List.range_succ], fun p => by simp [mksTo, revM, bitM]⟩
    · exact ⟨1, by simp [revK, bitM, List.range_succ], by simp [idxTo, bitM, revK, List.range_succ], fun p => by simp [mksTo, revM, bitM]⟩
  | [a, b], _, hm =>
    have : m = 0 ∨ m = 1 ∨ m = 2 ∨ m = 3 := by simp at hm; omega
    rcases this with rfl | rfl | rfl | rfl
    · exact ⟨0, by simp [revK, bitM, List.range_succ], by simp [idxTo, bitM, revK, List.range_succ], fun p => by simp [mksTo, revM, bitM]⟩
    · exact ⟨2, by simp [revK, bitM, List.range_succ], by simp [idxTo, bitM, revK, List.range_succ], fun p => by simp [mksTo, revM, bitM]⟩
    · exact ⟨1, by simp [revK, bitM, List.range_succ], by simp [idxTo, bitM, revK, List.range_succ], fun p => by simp [mksTo, revM, bitM]⟩
    · exact ⟨3, by simp [revK, bitM, List.range_succ], by simp [idxTo, bitM, revK, List.range_succ], fun p => by simp [mksTo, revM, bitM, Bool.and_comm]⟩
  | [a, b, c], _, hm =>
    have : m = 0 ∨ m = 1 ∨ m = 2 ∨ m = 3 ∨ m = 4 ∨ m = 5 ∨ m = 6 ∨ m = 7 := by simp at hm; omega
    rcases this with rfl | rfl | rfl | rfl | rfl | rfl | rfl | rfl
    · exact ⟨0, by simp [revK, bitM, List.range_succ], by simp [idxTo, bitM, revK, List.range_succ], fun p => by simp [mksTo, revM, bitM]⟩
    · exact ⟨4, by simp [revK, bitM, List.range_succ], by simp [idxTo, bitM, revK, List.range_succ], fun p => by simp [mksTo, revM, bitM]⟩
    · exact ⟨2, by simp [revK, bitM, List.range_succ], by simp [idxTo, bitM, revK, List.range_succ], fun p => by simp [mksTo, revM, bitM]⟩
    · exact ⟨6, by simp [revK, bitM, List.range_succ], by simp [idxTo, bitM, revK, List.range_succ], fun p => by simp [mksTo, revM, bitM, Bool.and_comm]⟩
    · exact ⟨1, by simp [revK, bitM, List.range_succ], by simp [idxTo, bitM, revK, List.range_succ], fun p => by simp [mksTo, revM, bitM]⟩
    · exact ⟨5, by simp [revK, bitM, List.range_succ], by simp [idxTo, bitM, revK, List.range_succ], fun p => by simp [mksTo, revM, bitM, Bool.and_comm]⟩
    · exact ⟨3, by simp [revK, bitM, List.range_succ], by simp [idxTo, bitM, revK, List.range_succ], fun p => by simp [mksTo, revM, bitM, Bool.and_comm]⟩
    · exact ⟨7, by simp [revK, bitM, List.range_succ], by simp [idxTo, bitM, revK, List.range_succ], fun p => by simp [mksTo, revM, bitM]; cases p a <;> cases p b <;> cases p c <;> rfl⟩
  | [a, b, c, d], _, hm =>
    have : m = 0 ∨ m = 1 ∨ m = 2 ∨ m = 3 ∨ m = 4 ∨ m = 5 ∨ m = 6 ∨ m = 7 ∨ m = 8 ∨ m = 9 ∨ m = 10 ∨ m = 11 ∨ m = 12 ∨ m = 13 ∨ m = 14 ∨ m = 15 := by simp at hm; omega
    rcases this with rfl | rfl | rfl | rfl | rfl | rfl | rfl | rfl | rfl | rfl | rfl | rfl | rfl | rfl | rfl | rfl
    · refine ⟨0, by simp, by simp [idxTo, bitM], fun p => ?_⟩
      simp [mksTo, revM, bitM] <;> cases p a <;> cases p b <;> cases p c <;> cases p d <;> rfl
    · refine ⟨8, by simp, by simp [idxTo, bitM], fun p => ?_⟩
      simp [mksTo, revM, bitM] <;> cases p a <;> cases p b <;> cases p c <;> cases p d <;> rfl
    · refine ⟨4, by simp, by simp [idxTo, bitM], fun p => ?_⟩
      simp [mksTo, revM, bitM] <;> cases p a <;> cases p b <;> cases p c <;> cases p d <;> rfl
    · refine ⟨12, by simp, by simp [idxTo, bitM], fun p => ?_⟩
      simp [mksTo, revM, bitM] <;> cases p a <;> cases p b <;> cases p c <;> cases p d <;> rfl
    · refine ⟨2, by simp, by simp [idxTo, bitM], fun p => ?_⟩
      simp [mksTo, revM, bitM] <;> cases p a <;> cases p b <;> cases p c <;> cases p d <;> rfl
    · refine ⟨10, by simp, by simp [idxTo, bitM], fun p => ?_⟩
      simp [mksTo, revM, bitM] <;> cases p a <;> cases p b <;> cases p c <;> cases p d <;> rfl
    · refine ⟨6, by simp, by simp [idxTo, bitM], fun p => ?_⟩
      simp [mksTo, revM, bitM] <;> cases p a <;> cases p b <;> cases p c <;> cases p d <;> rfl
    · refine ⟨14, by simp, by simp [idxTo, bitM], fun p => ?_⟩
      simp [mksTo, revM, bitM] <;> cases p a <;> cases p b <;> cases p c <;> cases p d <;> rfl
    · refine ⟨1, by simp, by simp [idxTo, bitM], fun p => ?_⟩
      simp [mksTo, revM, bitM] <;> cases p a <;> cases p b <;> cases p c <;> cases p d <;> rfl
    · refine ⟨9, by simp, by simp [idxTo, bitM], fun p => ?_⟩
      simp [mksTo, revM, bitM] <;> cases p a <;> cases p b <;> cases p c <;> cases p d <;> rfl
    · refine ⟨5, by simp, by simp [idxTo, bitM], fun p => ?_⟩
      simp [mksTo, revM, bitM] <;> cases p a <;> cases p b <;> cases p c <;> cases p d <;> rfl
    · refine ⟨13, by simp, by simp [idxTo, bitM], fun p => ?_⟩
      simp [mksTo, revM, bitM] <;> cases p a <;> cases p b <;> cases p c <;> cases p d <;> rfl
    · refine ⟨3, by simp, by simp [idxTo, bitM], fun p => ?_⟩
      simp [mksTo, revM, bitM] <;> cases p a <;> cases p b <;> cases p c <;> cases p d <;> rfl
    · refine ⟨11, by simp, by simp [idxTo, bitM], fun p => ?_⟩
      simp [mksTo, revM, bitM] <;> cases p a <;> cases p b <;> cases p c <;> cases p d <;> rfl
    · refine ⟨7, by simp, by simp [idxTo, bitM], fun p => ?_⟩
      simp [mksTo, revM, bitM] <;> cases p a <;> cases p b <;> cases p c <;> cases p d <;> rfl
    · refine ⟨15, by simp, by simp [idxTo, bitM], fun p => ?_⟩
      simp [mksTo, revM, bitM] <;> cases p a <;> cases p b <;> cases p c <;> cases p d <;> rfl
theorem bestM_min : ∀ (l : List (List Int)) (one : List Int), ∀ x ∈ one :: l, (bestM smallerM one l).length ≤ x.length
  | [], one, x, hx => by rw [List.mem_singleton] at hx; rw [hx]; exact Nat.le_refl _
  | y :: l, one, x, hx => by
    have h1 := bestM_min l (if smallerM y one then y else one)
    show (bestM smallerM (if smallerM y one = true then y else one) l).length ≤ _
    have h2 := h1 _ (List.mem_cons_self ..)
    have h3 : (if smallerM y one = true then y else one).length ≤ one.length ∧ (if smallerM y one = true then y else one).length ≤ y.length := by
      by_cases h : smallerM y one = true
      · rw [if_pos h]
        unfold smallerM at h
        rw [decide_eq_true_eq] at h
        omega
      · rw [if_neg h]
        unfold smallerM at h
        rw [decide_eq_true_eq] at h
        omega
    rcases List.mem_cons.1 hx with rfl | hx
    · omega
    · rcases List.mem_cons.1 hx with rfl | hx
      · omega
      · exact h1 x (List.mem_cons_of_mem _ hx)
theorem odd_rev {B : Bk} (hl : B.marks.length ≤ 4) {l : List Int} (h : l ∈ oddTo B (2 ^ B.marks.length)) : ∃ l' ∈ oddTo (revM B) (2 ^ B.marks.length), l'.length = l.length := by
  obtain ⟨m, hm, h0, rfl⟩ := odd_mem.1 h
  obtain ⟨k, hk, h1, h2⟩ := rev_mask B hl hm
  have hlen : (revM B).marks.length = B.marks.length := by simp [revM]
  refine ⟨idxTo k B.marks.length, odd_mem.2 ⟨k, hk, ?_, by rw [hlen]⟩, h1⟩
  rw [← h0]
  exact congrArg List.length (sub_states rfl rfl rfl rfl (fun p => by rw [hlen]; exact h2 p))
theorem best_le {B C : Bk} (h : ∀ l ∈ oddTo B (2 ^ B.marks.length), ∃ l' ∈ oddTo C (2 ^ C.marks.length), l'.length = l.length) (hne : oddTo B (2 ^ B.marks.length) ≠ []) :
    (bestM smallerM ((oddTo C (2 ^ C.marks.length)).headD []) ((oddTo C (2 ^ C.marks.length)).drop 1)).length ≤ (bestM smallerM ((oddTo B (2 ^ B.marks.length)).headD []) ((oddTo B (2 ^ B.marks.length)).drop 1)).length := by
  cases hB : oddTo B (2 ^ B.marks.length) with
  | nil => exact absurd hB hne
  | cons x l =>
    have hm := bestM_mem smallerM x l
    obtain ⟨l', h1, h2⟩ := h _ (by rw [hB]; exact hm)
    cases hC : oddTo C (2 ^ C.marks.length) with
    | nil => rw [hC] at h1; cases h1
    | cons y r =>
      rw [hC] at h1
      have := bestM_min r y l' h1
      simp only [List.headD_cons, List.drop_succ_cons, List.drop_zero]
      omega
theorem clash_rev {B : Bk} (hl : B.marks.length ≤ 4) : (clashL (revM B)).length = (clashL B).length := by
  have hlen : (revM B).marks.length = B.marks.length := by simp [revM]
  unfold clashL
  rw [rev_states]
  split
  · have a1 : ∀ l ∈ oddTo B (2 ^ B.marks.length), ∃ l' ∈ oddTo (revM B) (2 ^ (revM B).marks.length), l'.length = l.length := fun l h => by rw [hlen]; exact odd_rev hl h
    have a2 : ∀ l ∈ oddTo (revM B) (2 ^ (revM B).marks.length), ∃ l' ∈ oddTo B (2 ^ B.marks.length), l'.length = l.length := fun l h => by
      have := odd_rev (B := revM B) (by rw [hlen]; exact hl) h
      rw [rev_rev, hlen] at this
      exact this
    by_cases hne : oddTo B (2 ^ B.marks.length) = []
    · have hne' : oddTo (revM B) (2 ^ (revM B).marks.length) = [] := by
        rw [List.eq_nil_iff_forall_not_mem]
        intro l h
        obtain ⟨l', h1, _⟩ := a2 l h
        rw [hne] at h1
        cases h1
      rw [hne, hne']
    · have hne' : oddTo (revM B) (2 ^ (revM B).marks.length) ≠ [] := by
        intro h
        obtain ⟨x, hx⟩ := List.exists_mem_of_ne_nil _ hne
        obtain ⟨l', h1, _⟩ := a1 x hx
        rw [h] at h1
        cases h1
      exact Nat.le_antisymm (best_le a1 hne) (best_le a2 hne')
  · rfl
theorem clashM_len {B : Bk} (hz : bookBar B = 0) : (clashM (revM B)).1.length = (clashM B).1.length ∧ (clashM (revM B)).2 = 0 ∧ (clashM B).2 = 0 := by
  have hb := bounds_of_bar hz
  have e1 : clashM B = (clashL B, 0) := by unfold clashM; rw [if_neg (by simpa using hz)]
  have e2 : clashM (revM B) = (clashL (revM B), 0) := by unfold clashM; rw [if_neg (by simpa using rev_bar hz)]
  rw [e1, e2]
  exact ⟨clash_rev (by omega), rfl, rfl⟩
end Go.Gx
end

section
set_option linter.unusedSimpArgs false
set_option linter.unusedVariables false
namespace Go.Gx
open Go Go.Conc Go.Proofs

theorem cl_len {B : Bk} (hz : bookBar B = 0) : (clashM B).1.length ≤ 100000 := by
  have hb := bounds_of_bar hz
  unfold clashM clashL
  rw [if_neg (by simpa using hz)]
  simp only
  split
  · have h1 : ∀ x ∈ (oddTo B (2 ^ B.marks.length)).headD [] :: (oddTo B (2 ^ B.marks.length)).drop 1, x.length ≤ 4 := by
      intro x hx
      rcases List.mem_cons.1 hx with rfl | hx
      · cases hB : oddTo B (2 ^ B.marks.length) with
        | nil => simp
        | cons y l =>
          have := oddTo_xs B (2 ^ B.marks.length) y (by rw [hB]; exact List.mem_cons_self ..)
          simp only [List.headD_cons]
          omega
      · have := oddTo_xs B (2 ^ B.marks.length) x (List.mem_of_mem_drop hx)
        omega
    have := h1 _ (bestM_mem smallerM _ _)
    omega
  · simp
set_option maxRecDepth 100000 in
set_option maxHeartbeats 4000000 in
/-- CanvasAnyOrder -/
theorem law15 {Post : Value → World → Prop} {W₀ : World} {H Hg : Facts} (hG : Glo H Hg) (hsh : ∀ f ∈ H, f.isOwn = false) {B : Bk} {A : BkA} (hBk : BkR H B A) {d k n : Int} (hd : 0 ≤ d ∧ d ≤ 255) (hk : 0 ≤ k ∧ k ≤ 255) (hn : -128 ≤ n ∧ n ≤ 127) :
    LawAt (mainLg Tryz.prog Post W₀ [] []) 15 #[bkV B A, .int .u8 d, .int .u8 k, .int .i8 n] H (.bool true) := by
  refine LawAt.enter Tryz.func15 rfl (by simp [Tryz.f15]) fun cs hLB => ?_
  obtain ⟨pa, pc, ma, mc⟩ := A
  generalize hL : mainLg Tryz.prog Post W₀ [] [] = L at hLB ⊢
  have stop22 := trivial
  refine At.seq (At.region ?_); refine At.bx rfl rfl rfl rfl rfl rfl rfl fun r4 => ?_; refine At.v rfl rfl rfl rfl rfl trivial ?_; refine At.regionEnd (At.seq (At.seq (At.region ?_))); refine At.ld 0 rfl rfl rfl rfl rfl rfl rfl rfl rfl ?_; refine At.cqb rfl rfl rfl rfl rfl rfl rfl rfl (s39 L _ bs) fun b32 h32 => ?_; refine At.v rfl rfl rfl rfl rfl trivial ?_; refine At.regionEnd ?_
  cases b32
  · refine At.cond rfl ?_
    refine At.seq (At.region ?_)
    subst hL
    refine At.cq rfl rfl rfl rfl rfl rfl rfl rfl (s22 hG.a) ?_; refine At.v rfl rfl rfl rfl rfl trivial ?_; refine At.regionEnd ?_
    exact hLB Tryz.func15 (.inr ⟨_, rfl⟩) rfl (.tmp rfl .nil) (⟨by rfl, rfl⟩)
  have hf : fitM B = true := h32
  have hz : bookBar B = 0 := by simp [fitM] at hf; exact hf.2.2
  have hg : Cells H 0 0 chkC := hG.g.a hG.sub
  have hb := bounds_of_bar hz
  have hrm := hBk.m
  have hO : Opn H B ⟨pa, pc, ma, mc⟩ := ⟨hg, hBk, by omega, by omega⟩
  have hOS : OpS H H B ⟨pa, pc, ma, mc⟩ := ⟨Sub.refl _, hsh, hO⟩
  simp only at hrm
  refine At.cond rfl ?_; refine At.skip (At.seq (At.region ?_)); refine At.ld 0 rfl rfl rfl rfl rfl rfl rfl rfl rfl ?_; refine At.al rfl rfl rfl rfl rfl fun r9 => ?_; refine At.st 0 rfl rfl rfl rfl rfl rfl rfl rfl rfl rfl rfl rfl ?_; refine At.regionEnd (At.seq (At.region ?_)); refine At.fa 4 rfl rfl rfl rfl rfl rfl rfl ?_; refine At.st 0 rfl rfl rfl rfl rfl rfl rfl rfl rfl rfl rfl rfl ?_; refine At.regionEnd (At.seq (At.seq (At.region ?_))); refine At.fa 4 rfl rfl rfl rfl rfl rfl rfl ?_
  refine At.ld 1 rfl rfl rfl rfl rfl rfl rfl rfl rfl ?_; refine At.ln rfl rfl rfl rfl rfl rfl rfl rfl ?_; refine At.v rfl rfl rfl rfl rfl (by omega) ?_; refine At.v rfl rfl rfl rfl rfl trivial ?_; refine At.regionEnd ?_; refine At.block ?_
  refine At.lpk (X := { x : Nat × List (R2 × Int) × Option Addr × Nat × Facts // x.1 ≤ B.marks.length ∧ x.2.1 = (B.marks.drop x.1).reverse ∧ Sl c3 94 (.slice x.2.2.1 x.2.1.length x.2.2.2.1) x.2.1 x.2.2.2.2 }) [1, 2, 3, 4, 8, 9] (fun x => [(10, .int .i64 ((x.1.1 : Int) - 1))]) (fun x => .own r9 (.cells #[.slice pa B.prof.length pc, .int .i64 B.size, .int .i64 B.lo, .int .i64 B.hi, .slice x.1.2.2.1 x.1.2.1.length x.1.2.2.2.1] 27 (0, 0)) :: .own r4 (.cells (List.toArray (bkC B ⟨pa, pc, ma, mc⟩)) 27 (0, 0)) :: (x.1.2.2.2.2 ++ H)) (fun x => x.1.1) (⟨(B.marks.length, [], none, 0, []), Nat.le_refl _, by simp, Sl.nil⟩) rfl ?_ (by repeat (first | exact trivial | refine ⟨rfl, ?_⟩)) sb
  rintro ⟨⟨r, l, a, cap, sf⟩, hr, hl, hsl⟩ again
  simp only at again hr hl hsl ⊢
  have hll : l.length ≤ 4 := by rw [hl]; simp; omega
  refine At.seq (At.seq (At.region ?_)); refine At.v rfl rfl rfl rfl rfl trivial ?_; refine At.cp rfl rfl rfl rfl rfl fun b42 h42 => ?_; refine At.regionEnd ?_
  cases b42
  · have e : r = 0 := by simp at h42; omega
    subst e
    rw [List.drop_zero] at hl
    subst hl
    obtain ⟨sg, hsg, hrg, hshare⟩ := hsl.share
    refine At.weakH (H' := sf ++ (.own r9 (.cells #[.slice pa B.prof.length pc, .int .i64 B.size, .int .i64 B.lo, .int .i64 B.hi, .slice a B.marks.reverse.length cap] 27 (0, 0)) :: .own r4 (.cells (List.toArray (bkC B ⟨pa, pc, ma, mc⟩)) 27 (0, 0)) :: H)) ?_ (Sub.of_perm (List.perm_append_comm_assoc sf ([.own r9 (.cells #[.slice pa B.prof.length pc, .int .i64 B.size, .int .i64 B.lo, .int .i64 B.hi, .slice a B.marks.reverse.length cap] 27 (0, 0)), .own r4 (.cells (List.toArray (bkC B ⟨pa, pc, ma, mc⟩)) 27 (0, 0))] : Facts) H))
    refine hshare ?_; refine At.back ?_
    have hz' := rev_bar hz
    have hB' : BkR (sg ++ H) (revM B) ⟨pa, pc, a, cap⟩ := ⟨hBk.p.more (Sub.append_left _ _), (hrg _ _ _ rfl).more (Sub.pre _ _)⟩
    have hO' : OpS (sg ++ H) (sg ++ H) (revM B) ⟨pa, pc, a, cap⟩ := ⟨Sub.refl _, fun f hf => (List.mem_append.1 hf).elim (hsg f) (hsh f), ⟨hg.a (Sub.append_left _ _), hB', by have := (bounds_of_bar hz').2.1; omega, by have := (bounds_of_bar hz').2.2.2.2.2.2.2.2.2.1; omega⟩⟩
    have w2 : IntKind.wrap .i64 k = k := wrap_in (by omega)
    have stop51 := trivial
    refine At.cond rfl ?_; refine At.exit rfl ?_; refine At.seq (At.region ?_); (iterate 2 refine At.v rfl rfl rfl rfl rfl trivial ?_); refine At.cq rfl rfl rfl rfl rfl rfl rfl rfl (s40 L _ bs bs) ?_; refine At.v rfl rfl rfl rfl rfl trivial ?_; refine At.q rfl rfl rfl rfl (q_conv rfl rfl rfl) ?_; refine At.v rfl rfl rfl rfl rfl (by omega) ?_; refine At.al rfl rfl rfl rfl rfl fun r11 => ?_; refine At.st 0 rfl rfl rfl rfl rfl rfl rfl rfl rfl rfl rfl rfl ?_; refine At.v rfl rfl rfl rfl rfl trivial ?_
    refine At.regionEnd (At.seq (At.region ?_)); refine At.ld 2 rfl rfl rfl rfl rfl rfl rfl rfl rfl ?_
    clear stop51
    rw [w2]
    have hr2 : EyeOk (k.tmod 91) := ⟨Int.tmod_nonneg _ hk.1, by have := Int.tmod_lt_of_pos k (show (0 : Int) < 91 by decide); omega⟩
    generalize k.tmod 91 = row at hr2 ⊢
    generalize low (n.tmod 21) (1 + d.tmod 20) = s
    obtain ⟨c1, c2, c3⟩ := clashM_len hz
    have cl := cl_len hz
    have l1 := statesM_len hz
    have l2 := rws_len (B := B) (s := s) (rs := [slopeBar s.1 s.2])
    have q51 := fun H_ (hO_ : Opn H_ B ⟨pa, pc, ma, mc⟩) => s51 L H_ hO_
    have p51 := fun H_ (hO_ : Opn H_ (revM B) ⟨pa, pc, a, cap⟩) => s51 L H_ hO_
    have q52 := fun H_ (hO_ : OpS H_ H B ⟨pa, pc, ma, mc⟩) => s52 (Post := Post) (W₀ := W₀) (s := s) hO_
    have p52 := fun H_ (hO_ : OpS H_ (sg ++ H) (revM B) ⟨pa, pc, a, cap⟩) => s52 (Post := Post) (W₀ := W₀) (s := s) hO_
    have q66 := fun H_ (hO_ : OpS H_ H B ⟨pa, pc, ma, mc⟩) => s66 (Post := Post) (W₀ := W₀) (s := s) (row := row) hO_
    have p66 := fun H_ (hO_ : OpS H_ (sg ++ H) (revM B) ⟨pa, pc, a, cap⟩) => s66 (Post := Post) (W₀ := W₀) (s := s) (row := row) hO_
    have q59 := fun H_ (hO_ : Opn H_ B ⟨pa, pc, ma, mc⟩) => s59 L H_ hO_
    have p59 := fun H_ (hO_ : Opn H_ (revM B) ⟨pa, pc, a, cap⟩) => s59 L H_ hO_
    simp only [hL, rev_known hz, rev_states, rev_rowsOf, rev_rows, rev_falls, hz, hz', c1, c2, c3, ne_eq, not_true_eq_false, if_false] at q51 p51 q52 p52 q66 p66 q59 p59 l2
    generalize statesM B = v1 at q51 p51 l1
    generalize (if ¬ knownBar B [slopeBar s.1 s.2] = 0 then [] else rowsM B s) = v2 at q52 p52 l2
    refine At.cl rfl rfl rfl rfl rfl rfl rfl rfl (q51 _ (hO.a)) ?_
    rintro _ _ ⟨sf1, ⟨a1, cap1, rfl, hsl1⟩, rfl⟩
    refine At.back ?_
    have stop51 := trivial
    (iterate 5 refine At.v rfl rfl rfl rfl rfl trivial ?_); refine At.regionEnd (At.seq (At.region ?_)); refine At.ld 1 rfl rfl rfl rfl rfl rfl rfl rfl rfl ?_
    clear stop51
    refine At.cl rfl rfl rfl rfl rfl rfl rfl rfl (p51 _ (hO'.a.opn)) ?_
    rintro _ _ ⟨sf2, ⟨a2, cap2, rfl, hsl2⟩, rfl⟩
    refine At.back ?_
    have stop52 := trivial
    (iterate 5 refine At.v rfl rfl rfl rfl rfl trivial ?_); refine At.regionEnd (At.seq (At.region ?_)); refine At.ld 2 rfl rfl rfl rfl rfl rfl rfl rfl rfl ?_; refine At.ld 0 rfl rfl rfl rfl rfl rfl rfl rfl rfl ?_; refine At.cl rfl rfl rfl rfl rfl rfl rfl rfl (q52 _ hOS.a) ?_
    rintro _ _ ⟨sf3, ⟨a3, cap3, rfl, hsl3⟩, rfl⟩
    refine At.back ?_; (iterate 7 refine At.v rfl rfl rfl rfl rfl trivial ?_); refine At.regionEnd (At.seq (At.region ?_)); refine At.ld 1 rfl rfl rfl rfl rfl rfl rfl rfl rfl ?_; refine At.ld 0 rfl rfl rfl rfl rfl rfl rfl rfl rfl ?_
    clear stop52
    refine At.cl rfl rfl rfl rfl rfl rfl rfl rfl (p52 _ hO'.a) ?_
    rintro _ _ ⟨sf4, ⟨a4, cap4, rfl, hsl4⟩, rfl⟩
    refine At.back ?_
    have stop66 := trivial
    (iterate 7 refine At.v rfl rfl rfl rfl rfl trivial ?_); refine At.regionEnd (At.seq (At.region ?_)); refine At.ld 2 rfl rfl rfl rfl rfl rfl rfl rfl rfl ?_; refine At.ld 0 rfl rfl rfl rfl rfl rfl rfl rfl rfl ?_; refine At.v rfl rfl rfl rfl rfl trivial ?_; refine At.cq rfl rfl rfl rfl rfl rfl rfl rfl (q66 _ hOS.a) ?_; (iterate 5 refine At.v rfl rfl rfl rfl rfl trivial ?_); refine At.regionEnd (At.seq (At.region ?_)); refine At.ld 1 rfl rfl rfl rfl rfl rfl rfl rfl rfl ?_
    refine At.ld 0 rfl rfl rfl rfl rfl rfl rfl rfl rfl ?_; refine At.v rfl rfl rfl rfl rfl trivial ?_
    clear stop66
    refine At.cq rfl rfl rfl rfl rfl rfl rfl rfl (p66 _ hO'.a) ?_
    have stop59 := trivial
    (iterate 5 refine At.v rfl rfl rfl rfl rfl trivial ?_); refine At.regionEnd (At.seq (At.region ?_)); refine At.ld 2 rfl rfl rfl rfl rfl rfl rfl rfl rfl ?_; refine At.cl rfl rfl rfl rfl rfl rfl rfl rfl (q59 _ hO.a) ?_
    rintro _ _ ⟨sf5, ⟨a5, cap5, rfl, hrd5⟩, rfl⟩
    refine At.back ?_; (iterate 5 refine At.v rfl rfl rfl rfl rfl trivial ?_); refine At.regionEnd (At.seq (At.region ?_)); refine At.ld 1 rfl rfl rfl rfl rfl rfl rfl rfl rfl ?_
    clear stop59
    refine At.cl rfl rfl rfl rfl rfl rfl rfl rfl (p59 _ (hO'.a.opn)) ?_
    rintro _ _ ⟨sf6, ⟨a6, cap6, rfl, hrd6⟩, rfl⟩
    refine At.back ?_
    obtain ⟨_, r1, _⟩ := hsl1.rd
    obtain ⟨_, r2, _⟩ := hsl2.rd
    obtain ⟨_, r3, _⟩ := hsl3.rd
    obtain ⟨_, r4, _⟩ := hsl4.rd
    have stop31 := trivial
    (iterate 5 refine At.v rfl rfl rfl rfl rfl trivial ?_); refine At.regionEnd (At.seq (At.region ?_)); refine At.v rfl rfl rfl rfl rfl trivial ?_; refine At.cp rfl rfl rfl rfl rfl fun b110 h110 => ?_; refine At.v rfl rfl rfl rfl rfl trivial ?_
    obtain rfl : b110 = true := h110.symm.trans (by kernel_rfl)
    refine At.v rfl rfl rfl rfl rfl trivial ?_; refine At.cp rfl rfl rfl rfl rfl fun b113 h113 => ?_; (iterate 2 refine At.v rfl rfl rfl rfl rfl trivial ?_)
    obtain rfl : b113 = true := h113.symm.trans (by kernel_rfl)
    (iterate 2 refine At.v rfl rfl rfl rfl rfl trivial ?_); refine At.cq rfl rfl rfl rfl rfl rfl rfl rfl (s31 L _ (xs := v1) (ys := v1) rfl rfl r1.a r2.a (by omega)) ?_
    rw [show decide (v1 = v1) = true by simp]
    (iterate 4 refine At.v rfl rfl rfl rfl rfl trivial ?_); refine At.cp rfl rfl rfl rfl rfl fun b123 h123 => ?_; (iterate 2 refine At.v rfl rfl rfl rfl rfl trivial ?_)
    obtain rfl : b123 = true := h123.symm.trans (by simp)
    (iterate 2 refine At.v rfl rfl rfl rfl rfl trivial ?_); refine At.cq rfl rfl rfl rfl rfl rfl rfl rfl (s31 L _ (xs := v2) (ys := v2) rfl rfl r3.a r4.a l2) ?_
    rw [show decide (v2 = v2) = true by simp]
    (iterate 4 refine At.v rfl rfl rfl rfl rfl trivial ?_); refine At.cp rfl rfl rfl rfl rfl fun b133 h133 => ?_; (iterate 2 refine At.v rfl rfl rfl rfl rfl trivial ?_)
    obtain rfl : b133 = true := h133.symm.trans (by simp)
    (iterate 2 refine At.v rfl rfl rfl rfl rfl trivial ?_); refine At.cp rfl rfl rfl rfl rfl fun b138 h138 => ?_; (iterate 2 refine At.v rfl rfl rfl rfl rfl trivial ?_)
    obtain rfl : b138 = true := h138.symm.trans (by simp)
    (iterate 2 refine At.v rfl rfl rfl rfl rfl trivial ?_); refine At.cp rfl rfl rfl rfl rfl fun b143 h143 => ?_; (iterate 2 refine At.v rfl rfl rfl rfl rfl trivial ?_)
    obtain rfl : b143 = true := h143.symm.trans (by simp)
    refine At.v rfl rfl rfl rfl rfl trivial ?_; refine At.cp rfl rfl rfl rfl rfl fun b147 h147 => ?_; (iterate 2 refine At.v rfl rfl rfl rfl rfl trivial ?_)
    obtain rfl : b147 = true := h147.symm.trans (by kernel_rfl)
    refine At.v rfl rfl rfl rfl rfl trivial ?_; refine At.cp rfl rfl rfl rfl rfl fun b151 h151 => ?_; (iterate 2 refine At.v rfl rfl rfl rfl rfl trivial ?_)
    obtain rfl : b151 = true := h151.symm.trans (by kernel_rfl)
    refine At.v rfl rfl rfl rfl rfl trivial ?_; refine At.ln rfl rfl rfl rfl rfl rfl rfl rfl ?_; refine At.v rfl rfl rfl rfl rfl trivial ?_; refine At.ln rfl rfl rfl rfl rfl rfl rfl rfl ?_; refine At.cp rfl rfl rfl rfl rfl fun b158 h158 => ?_; (iterate 2 refine At.v rfl rfl rfl rfl rfl trivial ?_)
    obtain rfl : b158 = true := h158.symm.trans (by simp)
    subst hL
    refine At.cq rfl rfl rfl rfl rfl rfl rfl rfl (s22 hG.a) ?_; (iterate 2 refine At.v rfl rfl rfl rfl rfl trivial ?_); refine At.regionEnd ?_
    exact hLB Tryz.func15 (.inr ⟨_, rfl⟩) rfl (.tmp rfl .nil) (⟨by rfl, rfl⟩)
  · have hr1 : 1 ≤ r := by simp at h42; omega
    obtain ⟨q, rfl⟩ : ∃ q, r = q + 1 := ⟨r - 1, by omega⟩
    have hq : q < B.marks.length := by omega
    obtain ⟨b, off, rfl, hc1⟩ := hrm.el (List.getElem?_eq_getElem hq)
    have hld : (B.marks.drop q).reverse = l ++ [B.marks[q]] := by rw [List.drop_eq_getElem_cons hq, List.reverse_cons, hl]
    have eq : (((q + 1 : Nat) : Int) - 1) = (q : Int) := by omega
    rw [eq]
    have stopDraw := trivial
    refine At.cond rfl ?_; refine At.skip (At.seq ?_); refine At.block ?_
    clear stopDraw
    refine At.drawS hmix 2 rfl ?_; refine Pool.fa 4 0 rfl rfl rfl rfl rfl rfl rfl rfl rfl ?_; refine Pool.ld 0 1 rfl rfl rfl rfl rfl rfl rfl rfl rfl rfl rfl ?_; refine Pool.fa 4 2 rfl rfl rfl rfl rfl rfl rfl rfl rfl ?_; refine Pool.ld 1 3 rfl rfl rfl rfl rfl rfl rfl rfl rfl rfl rfl ?_; refine Pool.v 4 rfl rfl rfl rfl rfl rfl rfl trivial ?_; refine Pool.q 5 rfl rfl rfl rfl rfl (q_ia rfl rfl rfl (by assumption)) rfl ?_; refine Pool.ldc 6 rfl rfl rfl rfl rfl rfl rfl hc1.a rfl rfl rfl ?_
    refine Pool.bs 7 rfl rfl rfl rfl rfl rfl rfl rfl rfl rfl rfl rfl rfl rfl rfl sb fun r52 => ?_; refine Pool.fa 4 9 rfl rfl rfl rfl rfl rfl rfl rfl rfl ?_; refine Pool.push (x := B.marks[q]) 8 0 3 rfl rfl rfl rfl rfl rfl rfl rfl rfl rfl rfl rfl rfl rfl rfl rfl rfl rfl rfl rfl rfl hsl rfl rfl rfl (by repeat (first | exact Sub.refl _ | exact Sub.pre _ _ | apply Sub.cons | apply Sub.drop | apply Sub.appL | apply Sub.dropL)) (by omega) fun v sf' hs' => ?_
    obtain ⟨a', cap', rfl⟩ := hs'.slice
    have stopPhase := trivial
    skip
    clear stopPhase
    refine Pool.flush 10 (Hq' := H) rfl rfl rfl rfl rfl rfl (by repeat (first | exact Sub.refl _ | exact Sub.pre _ _ | apply Sub.cons | apply Sub.drop | apply Sub.appL | apply Sub.dropL)) ?_; refine Pool.st 1 10 rfl rfl rfl rfl rfl rfl rfl rfl rfl rfl rfl rfl rfl rfl rfl rfl rfl rfl sb ?_; refine pool_done rfl rfl ?_; refine At.regionEnd ?_; refine At.inBlock ?_; refine At.region ?_; refine At.v rfl rfl rfl rfl rfl trivial ?_; refine At.v rfl rfl rfl rfl rfl (by omega) ?_
    refine At.v rfl rfl rfl rfl rfl trivial ?_; refine At.regionEnd ?_
    refine At.tA ((again ⟨(q, l ++ [B.marks[q]], a', cap', sf'), by omega, hld.symm, hs'⟩ (by simp)))
end Go.Gx
end

section
set_option linter.unusedSimpArgs false
set_option linter.unusedVariables false
namespace Go.Gx
open Go Go.Conc Go.Proofs Go.ChangeShapes Go.RowKit YtokdmiiejfmomaaGreatDoor
set_option maxRecDepth 100000
theorem ip15 : Tryz.prog.inPlace 15 = [] := by kernel_rfl
theorem uf15 : Tryz.prog.unfollowed 15 = true := by kernel_rfl
theorem rc15 : Tryz.prog.recurses 15 = true := by kernel_rfl
theorem vn15 : Tryz.prog.varsNamed 15 = ["velarium/canvas.checks"] := by kernel_rfl
theorem closed15 : joinedFacts Tryz.prog 15 Tryz.f15 Rows.canvasAnyOrderSpec Rows.canvasAnyOrderRow = true := by
  unfold joinedFacts
  rewrite [ip15, uf15, rc15, vn15, enter1, lf1, make1]
  kernel_rfl
theorem fnm15 : Tryz.prog.funcNamed "velarium/velariumlaw02.CanvasAnyOrder" = some 15 := by kernel_rfl
theorem inst15 : Tryz.f15.isInstance Tryz.prog Rows.canvasAnyOrderRow.origin Rows.canvasAnyOrderRow.targs := of_decide_eq_true (by kernel_rfl)
theorem wrap15 : Tryz.f15.isWrapper Tryz.prog Rows.canvasAnyOrderRow.wrapper Rows.canvasAnyOrderRow.mainSum := by unfold Func.isWrapper; first | (rw [if_pos (by decide +kernel)]; kernel_rfl) | (rw [if_neg (by decide +kernel)]; exact ⟨rfl, rfl⟩)
theorem goes15 : Tryz.prog.goes 15 = true := by kernel_rfl
theorem wbt15 : Rows.canvasAnyOrderRow.wfByText (OpenSpec.ofChange Rows.canvasAnyOrderSpec) = true := by kernel_rfl
theorem wants15 : (Tryz.f15.params.toList.all fun t => !Tryz.prog.wantsStandIn t) = true := by kernel_rfl
theorem lifted15 (os : Os) (started : os.Started) (H : Type) (enc : TypeId × Value → H) :
    ReturnsInLeavingWide {} Tryz.checked os 15 .any (fun w args => (Rows.canvasAnyOrderSpec.pre enc Tryz.prog Tryz.f15 [] false w args ∧ laidMetH Tryz.prog laid1 w) ∧ sizedMet enc Tryz.prog Tryz.f15 (OpenSpec.ofChange Rows.canvasAnyOrderSpec) false w args) (Rows.canvasAnyOrderSpec.post enc Tryz.prog Tryz.f15 false true false false) := by
  refine law_lift Tryz.func15 (by kernel_rfl) rfl rfl (by kernel_rfl) os started H enc #[.agg #[.slice none 0 0, .int .i64 0, .int .i64 0, .int .i64 0, .slice none 0 0], .int .u8 0, .int .u8 0, .int .i8 0]
    (World.shaped_of_RefB (by kernel_rfl) (by kernel_rfl)) (by kernel_rfl) (by kernel_rfl) (by kernel_rfl) ?_
  intro W base args ds ps hval hA
  rw [Tryz.params15] at hval hA
  obtain ⟨v0, vs0, d0, ds0, p0, q0, e0, rfl, rfl, h0, hA⟩ := trodAll_cons hA
  obtain ⟨v1, vs1, d1, ds1, p1, q1, rfl, rfl, rfl, h1, hA⟩ := trodAll_cons hA
  obtain ⟨v2, vs2, d2, ds2, p2, q2, rfl, rfl, rfl, h2, hA⟩ := trodAll_cons hA
  obtain ⟨v3, vs3, d3, ds3, p3, q3, rfl, rfl, rfl, h3, hA⟩ := trodAll_cons hA
  obtain ⟨rfl, rfl, rfl⟩ := trodAll_nil hA
  obtain rfl : args = #[v0, v1, v2, v3] := Array.toList_inj.1 e0
  obtain ⟨B0, A0, Hs0, rfl, hsh0, hb0⟩ := open_book (hval 0 27 _ rfl rfl) h0
  obtain ⟨n1, rfl, rfl, rfl, w1⟩ := open_int Tryz.underlying5 (hval 1 5 _ rfl rfl) h1
  obtain ⟨n2, rfl, rfl, rfl, w2⟩ := open_int Tryz.underlying5 (hval 2 5 _ rfl rfl) h2
  obtain ⟨n3, rfl, rfl, rfl, w3⟩ := open_int Tryz.underlying53 (hval 3 53 _ rfl rfl) h3
  exact ⟨rfl, Hs0, hsh0, fun Post => law15 hsh0.glo hsh0.ro (hb0.a (Sub.append_left _ _)) (wf_u8 w1) (wf_u8 w2) (wf_i8 w3)⟩
theorem said15 : Rows.CanvasAnyOrderSaid :=
  OpenClaim.holds_of_wide_leaving 15 Tryz.f15 rfl rfl rfl rfl rfl rfl rfl ⟨rfl, rfl, rfl, rfl, rfl⟩ rfl rfl rfl rfl rfl fnm15 Tryz.func15 closed15 inst15 wrap15
    (fun os started H enc _ => lifted15 os started H enc)
theorem card15 : Rows.CanvasAnyOrderCardSaid :=
  ⟨Claim7.tied_new_at .later [.funcs] true (Claim7.new_of_sixth said15 (true, "2aeeda9e0b315eb022070bc88bc80a554dcd329f773ad53586088327a2b29430") false rfl ⟨rfl, rfl⟩ mi1 rfl
    (fun f fn hf hfn => by
      obtain rfl : f = 15 := Option.some.inj (hf.symm.trans fnm15)
      obtain rfl : fn = Tryz.f15 := Option.some.inj (hfn.symm.trans Tryz.func15)
      exact ⟨looks1.symm, wants_of wants15⟩)) wbt15, (fun _ h => by cases h), canvasAnyOrder_row_tie, (fun h => by cases h), goes_of fnm15 goes15⟩
end Go.Gx
namespace Go.Proofs.YtokdmiiejfmomaaGreatDoor
/-- THE CARD OF CanvasAnyOrder. -/
theorem canvasAnyOrder_card : Rows.CanvasAnyOrderCardSaid := Go.Gx.card15
#print axioms canvasAnyOrder_card
end Go.Proofs.YtokdmiiejfmomaaGreatDoor
end
