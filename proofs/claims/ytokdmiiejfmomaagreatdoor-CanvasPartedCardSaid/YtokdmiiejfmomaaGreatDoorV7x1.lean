/-
  One point more on a piece of the profile changes nothing that is met, painted or known: CanvasParted holds.
-/
import Derived.Test.YtokdmiiejfmomaaGreatDoorW6
import Derived.SevenTiedAt
section
set_option linter.unusedSimpArgs false
set_option linter.unusedVariables false
namespace Go.Gx
open Go Go.Conc Go.Proofs Go.ChangeShapes Go.RowKit YtokdmiiejfmomaaGreatDoor
set_option maxRecDepth 100000
theorem Shr.ro {W : World} {Hs : Facts} (h : Shr W Hs) : ∀ f ∈ ([.seg 0 0 chkC] ++ Hs : Facts), f.isOwn = false := by
  intro f hf
  rcases List.mem_append.1 hf with hf | hf
  · rw [List.mem_singleton] at hf; subst hf; rfl
  · exact (h f hf).1
section
variable {H : Type} {enc : TypeId × Value → H} {W : World} {sp : Nat → Bool} {held : Bool}

theorem threeS {n : Nat} {cs : List Value} {x : DataW H × List MemPlace} (h : DataW.trod enc Tryz.prog W 0 sp held n 44 cs = some x) : ∃ m : Int × R2, cs = [.int .i64 m.1, .int .i64 m.2.1, .int .i64 m.2.2] := by
  obtain ⟨xs, n, rfl, rfl, hl, hx, hf⟩ := DataW.trod_struct Tryz.underlying44 h
  rw [show Tryz.prog.cellsOf 44 = 3 by kernel_rfl] at hl
  match cs, hl, xs, hx with
  | [u, v, w], _, [y0, y1], _ =>
    have g0 : DataW.trod enc Tryz.prog W 0 sp held n 3 ((List.drop 0 [u, v, w]).take (Tryz.prog.cellsOf 3)) = some y0 := hf 0 _ rfl
    have g1 : DataW.trod enc Tryz.prog W 0 sp held n 29 ((List.drop 1 [u, v, w]).take (Tryz.prog.cellsOf 29)) = some y1 := hf 1 _ rfl
    rw [show Tryz.prog.cellsOf 3 = 1 by kernel_rfl] at g0
    rw [show Tryz.prog.cellsOf 29 = 2 by kernel_rfl] at g1
    obtain ⟨r, e', -⟩ := DataW.trod_int Tryz.underlying3 (x := y0) g0
    obtain ⟨a, b, e⟩ := two (x := y1) Tryz.underlying29 ⟨rfl, rfl⟩ ⟨rfl, rfl⟩ (by kernel_rfl) (by kernel_rfl) g1
    cases e
    cases e'
    exact ⟨(r, (a, b)), rfl⟩
theorem open_sight {r : Reach} {b0 : Nat} {v : Value} {d : DataW H} {ps : List MemPlace} (hval : Value.okWide Tryz.prog W r b0 44 v) (hd : DataW.Trod enc Tryz.prog W 0 sp held 44 v d ps) :
    ∃ m : Int × R2, v = .agg #[.int .i64 m.1, .int .i64 m.2.1, .int .i64 m.2.2] := by
  obtain ⟨cs, rfl, hsz⟩ := Go.WideShapes.okWide_struct Tryz.underlying44 hval
  obtain ⟨fuel, hf⟩ := hd
  obtain ⟨l⟩ := cs
  obtain ⟨m, e⟩ := threeS hf
  have e' : l = [.int .i64 m.1, .int .i64 m.2.1, .int .i64 m.2.2] := e
  subst e'
  exact ⟨m, rfl⟩
end
end Go.Gx
end

section
set_option linter.unusedSimpArgs false
set_option linter.unusedVariables false
namespace Go.Gx
open Go Go.Conc Go.Proofs

instance : BoI Tryz.prog 4 := ⟨by kernel_rfl⟩
theorem low_slope {n d : Int} (h1 : -20 ≤ n ∧ n ≤ 20) (h2 : 1 ≤ d ∧ d ≤ 20) : slopeBar (low n d).1 (low n d).2 = 0 := by
  have key : ∀ a ∈ (List.range 41), ∀ b ∈ (List.range 20), slopeBar (low ((a : Int) - 20) ((b : Int) + 1)).1 (low ((a : Int) - 20) ((b : Int) + 1)).2 = 0 := by decide +kernel
  have := key (n + 20).toNat (by rw [List.mem_range]; omega) (d - 1).toNat (by rw [List.mem_range]; omega)
  rwa [show (((n + 20).toNat : Nat) : Int) - 20 = n by omega, show (((d - 1).toNat : Nat) : Int) + 1 = d by omega] at this
end Go.Gx
end

section
set_option linter.unusedSimpArgs false
set_option linter.unusedVariables false
namespace Go.Gx
open Go Go.Conc Go.Proofs
variable {main : Bool}

/-! ### the reference's piece and point that is met, and that they are the program's -/
theorem low_one (n : Int) : low n 1 = (n, 1) := by
  have := low_mul (e := n) (d := 1) (by decide)
  rwa [Int.mul_one] at this
theorem low_neg {n d : Int} (hd : d ≠ 0) : low (-n) (-d) = low n d := by
  unfold low lowN lowD
  rw [Int.neg_gcd, Int.gcd_neg]
  by_cases h : d < 0
  · rw [if_pos h, if_pos h, if_neg (by omega), if_neg (by omega)]
  · rw [if_neg h, if_neg h, if_pos (by omega), if_pos (by omega), Int.neg_neg, Int.neg_neg]
theorem pairs_ok {ps : List R2} (hp : ∀ p ∈ ps, PtOk p) (hpw : ps.Pairwise (fun p q => p.2 < q.2)) : ∀ x ∈ ps.zip ps.tail, PtOk x.1 ∧ PtOk x.2 ∧ x.1.2 < x.2.2 := by
  rintro ⟨p, q⟩ hx
  refine ⟨hp _ (List.of_mem_zip hx).1, hp _ (List.mem_of_mem_tail (List.of_mem_zip hx).2), ?_⟩
  obtain ⟨i, hi, e⟩ := List.getElem_of_mem hx
  simp only [List.getElem_zip, List.getElem_tail, Prod.mk.injEq] at e
  obtain ⟨rfl, rfl⟩ := e
  simp at hi
  exact List.pairwise_iff_getElem.1 hpw i (i + 1) (by omega) (by omega) (by omega)
end Go.Gx
end

section
set_option linter.unusedSimpArgs false
set_option linter.unusedVariables false
namespace Go.Gx
open Go Go.Conc Go.Proofs
variable {main : Bool}

end Go.Gx
end

section
set_option linter.unusedSimpArgs false
set_option linter.unusedVariables false
namespace Go.Gx
open Go Go.Conc Go.Proofs
variable {main : Bool}

end Go.Gx
end

section
set_option linter.unusedSimpArgs false
set_option linter.unusedVariables false
namespace Go.Gx
open Go Go.Conc Go.Proofs
variable {main : Bool}

end Go.Gx
end

section
set_option linter.unusedSimpArgs false
set_option linter.unusedVariables false
namespace Go.Gx
open Go Go.Conc Go.Proofs
variable {main : Bool}

end Go.Gx
end

section
/-
  LOGIC G: what a call has made is put behind the cells that one knows by their places.
-/
set_option linter.unusedSimpArgs false
set_option linter.unusedVariables false
namespace Go.Gx
open Go Go.Conc
/-- 'Y' is 'sf ++ X' with the own cells that stand first in 'X' ahead of 'sf'. -/
class Back (sf X : Facts) (Y : outParam Facts) : Prop where
  s : Sub Y (sf ++ X)
instance (priority := low) backNil {sf X : Facts} : Back sf X (sf ++ X) := ⟨Sub.refl _⟩
instance backCons {sf X Y : Facts} {r : Nat} {o : Obj} [h : Back sf X Y] : Back sf (.own r o :: X) (.own r o :: Y) :=
  ⟨(Sub.cons _ h.s).trans (Sub.of_perm List.perm_middle.symm)⟩
theorem At.back {P : Program} {main : Bool} {L : Lg P main} {f : FuncId} {ro : Option Nat} {ds : Dz} {cs : List Frame} {n : Nat} {E : Env} {k : List Item} {sf X Y : Facts} [hb : Back sf X Y] (h : At L f ro ds cs n E Y k) : At L f ro ds cs n E (sf ++ X) k :=
  h.weakH hb.s
end Go.Gx
end

section
set_option linter.unusedSimpArgs false
set_option linter.unusedVariables false
namespace Go.Gx
open Go Go.Conc Go.Proofs

end Go.Gx
end

section
set_option linter.unusedSimpArgs false
set_option linter.unusedVariables false
namespace Go.Gx
open Go Go.Conc Go.Proofs
variable {main : Bool}

end Go.Gx
end

section
set_option linter.unusedSimpArgs false
set_option linter.unusedVariables false
namespace Go.Gx
open Go Go.Conc Go.Proofs
variable {main : Bool}

theorem low_cross {n d : Int} (hd : d ≠ 0) : (low n d).1 * d = n * (low n d).2 := by
  unfold low lowN lowD
  have hg : 0 < Int.gcd n d := Int.gcd_pos_of_ne_zero_right n hd
  have h1 : ((Int.gcd n d : Nat) : Int) ∣ n := Int.gcd_dvd_left ..
  have h2 : ((Int.gcd n d : Nat) : Int) ∣ d := Int.gcd_dvd_right ..
  generalize ((Int.gcd n d : Nat) : Int) = g at *
  have hg0 : g ≠ 0 := by rintro rfl; exact hd (Int.zero_dvd.1 h2)
  obtain ⟨a, rfl⟩ := h1
  obtain ⟨b, rfl⟩ := h2
  split
  · rw [← Int.mul_neg, ← Int.mul_neg, Int.mul_tdiv_cancel_left _ hg0, Int.mul_tdiv_cancel_left _ hg0]
    simp only [Int.neg_mul, Int.mul_neg]
    rw [Int.mul_left_comm, Int.mul_assoc]
  · simp only
    rw [Int.mul_tdiv_cancel_left _ hg0, Int.mul_tdiv_cancel_left _ hg0, Int.mul_left_comm, Int.mul_assoc]
end Go.Gx
end

section
set_option linter.unusedSimpArgs false
set_option linter.unusedVariables false
namespace Go.Gx
open Go Go.Conc Go.Proofs

theorem thing_len {B : Bk} {eye : Int} {f t : Int × R2} : (thingM B eye f t).1.length ≤ 100000 := by
  unfold thingM
  split
  · simp
  · rename_i h
    have hs := (look20 (Classical.not_not.1 h)).2.2
    obtain ⟨hf, ht, hlt, _, _⟩ := sights0 hs
    split
    · simp
    · rename_i l hl
      have := thingTo_len hl
      unfold SightOk at hf ht
      simp only
      omega
end Go.Gx
end

section
set_option linter.unusedSimpArgs false
set_option linter.unusedVariables false
namespace Go.Gx
open Go Go.Conc Go.Proofs
variable {main : Bool}

def knR (B : Bk) (r : Int) : Int := if bookBar B ≠ 0 then bookBar B else if r ≠ 0 then r else if (statesM B).length = 0 then 9 else 0
theorem knR_eq (B : Bk) (rs : List Int) : knR B (firstBar rs) = knownBar B rs := by
  unfold knR knownBar lookBar
  by_cases hz : bookBar B = 0
  · simp [hz]
  · simp [hz]
end Go.Gx
end

section
set_option linter.unusedSimpArgs false
set_option linter.unusedVariables false
namespace Go.Gx
open Go Go.Conc Go.Proofs
variable {main : Bool}

/-! ### where a line meets the canvas, and in which row -/
theorem low_den_pos {n d : Int} (hd : d ≠ 0) : 1 ≤ (low n d).2 := lowD_pos hd
theorem state_eye {B : Bk} (hz : bookBar B = 0) : ∀ e ∈ statesM B, EyeOk e ∧ B.lo ≤ e ∧ e ≤ B.hi ∧ rightM B e = true := by
  intro e he
  have hb := bounds_of_bar hz
  unfold statesM bandL at he
  obtain ⟨h1, h2⟩ := List.mem_filter.1 he
  obtain ⟨k, hk, rfl⟩ := List.mem_map.1 h1
  rw [List.mem_range] at hk
  unfold EyeOk
  refine ⟨by omega, by omega, by omega, h2⟩
/-! ### the reference's sorting -/
end Go.Gx
end

section
set_option linter.unusedSimpArgs false
set_option linter.unusedVariables false
namespace Go.Gx
open Go Go.Conc Go.Proofs
variable {main : Bool}

end Go.Gx
end

section
set_option linter.unusedSimpArgs false
set_option linter.unusedVariables false
namespace Go.Gx
open Go Go.Conc Go.Proofs
variable {main : Bool}

theorem kn_book {B : Bk} {r : Int} (h : knR B r = 0) : bookBar B = 0 := by
  unfold knR at h
  split at h
  · exact h
  · rename_i h1; simpa using h1
end Go.Gx
end

section
set_option linter.unusedSimpArgs false
set_option linter.unusedVariables false
namespace Go.Gx
open Go Go.Conc Go.Proofs
variable {main : Bool}

end Go.Gx
end

section
set_option linter.unusedSimpArgs false
set_option linter.unusedVariables false
namespace Go.Gx
open Go Go.Conc Go.Proofs
variable {main : Bool}

end Go.Gx
end

section
set_option linter.unusedSimpArgs false
set_option linter.unusedVariables false
namespace Go.Gx
open Go Go.Conc Go.Proofs

theorem kb_book {B : Bk} {rs : List Int} (h : ¬ knownBar B rs ≠ 0) : bookBar B = 0 := by
  rw [← knR_eq] at h
  exact kn_book (Classical.not_not.1 h)
theorem compactM_len : ∀ (l : List Int), (compactM l).length ≤ l.length
  | [] => Nat.le_refl _
  | [x] => Nat.le_refl _
  | x :: y :: l => by
    have := compactM_len (y :: l)
    unfold compactM
    split
    · simp at this ⊢; omega
    · simp at this ⊢; omega
theorem rowsM_len {B : Bk} (hz : bookBar B = 0) {s : R2} : (rowsM B s).length ≤ 3 := by
  unfold rowsM
  refine Nat.le_trans (compactM_len _) ?_
  rw [sortM_len]
  exact Nat.le_trans (List.length_filter_le _ _) (rowsOf_len hz s)
theorem rws_len {B : Bk} {s : R2} {rs : List Int} : (if knownBar B rs ≠ 0 then [] else rowsM B s).length ≤ 100000 := by
  split
  · simp
  · rename_i h
    have := rowsM_len (kb_book h) (s := s)
    omega
end Go.Gx
end

section
/-
  LOGIC G: a growing list is shared: nobody writes it any more.
-/
set_option linter.unusedSimpArgs false
set_option linter.unusedVariables false
namespace Go.Gx
open Go Go.Conc
theorem Sl.share {α : Type} {c : α → List Value} {sz : Nat} [he : Enc c sz] {T : TypeId} {v : Value} {xs : List α} {sf : Facts} (h : Sl c T v xs sf) :
    ∃ sg : Facts, (∀ f ∈ sg, f.isOwn = false) ∧ (∀ a n cap, v = .slice a n cap → Rd sg a (xs.flatMap c)) ∧
      ∀ {P : Program} {main : Bool} {L : Lg P main} {f : FuncId} {ro : Option Nat} {ds : Dz} {cs : List Frame} {n : Nat} {E : Env} {k : List Item} {H : Facts}, At L f ro ds cs n E (sg ++ H) k → At L f ro ds cs n E (sf ++ H) k := by
  unfold Sl at h
  generalize hvs : xs.flatMap c = vs at h
  generalize hk : xs.length = k at h
  cases h with
  | nil => exact ⟨[], by simp, fun a n cap e => by cases e; exact .inl rfl, fun h => h⟩
  | own b cap _ _ rest hl hc hm =>
    refine ⟨[.seg b 0 (vs ++ rest)], ?_, ?_, fun h => At.share h⟩
    · intro f hf
      rw [List.mem_singleton] at hf
      subst hf
      rfl
    · intro a n cap' e
      cases e
      exact rd_cells (by have := cells_seg (H := [.seg b 0 (vs ++ rest)]) (vs := vs) (us := vs ++ rest) (b := b) (off := 0) 0 (by simp) (by simp); simpa using this)
end Go.Gx
end

section
set_option linter.unusedSimpArgs false
set_option linter.unusedVariables false
namespace Go.Gx
open Go Go.Conc Go.Proofs
variable {main : Bool}

/-! ### a book whose marks are right for an eye -/
/-! ### the plain law of CanvasReal -/
end Go.Gx
end

section
set_option linter.unusedSimpArgs false
set_option linter.unusedVariables false
namespace Go.Gx
open Go Go.Conc Go.Proofs

end Go.Gx
end

section
set_option linter.unusedSimpArgs false
set_option linter.unusedVariables false
namespace Go.Gx
open Go Go.Conc Go.Proofs
variable {main : Bool}

/-! ### the plain law of CanvasReached -/
end Go.Gx
end

section
set_option linter.unusedSimpArgs false
set_option linter.unusedVariables false
namespace Go.Gx
open Go Go.Conc Go.Proofs

end Go.Gx
end

section
set_option linter.unusedSimpArgs false
set_option linter.unusedVariables false
namespace Go.Gx
open Go Go.Conc Go.Proofs

/-! ### the plain law of CanvasNeeded -/
end Go.Gx
end

section
set_option linter.unusedSimpArgs false
set_option linter.unusedVariables false
namespace Go.Gx
open Go Go.Conc Go.Proofs

/-! ### marks the other way round -/
end Go.Gx
end

section
set_option linter.unusedSimpArgs false
set_option linter.unusedVariables false
namespace Go.Gx
open Go Go.Conc Go.Proofs

end Go.Gx
end

section
set_option linter.unusedSimpArgs false
set_option linter.unusedVariables false
namespace Go.Gx
open Go Go.Conc Go.Proofs
variable {main : Bool}

theorem BkO.share {B : Bk} {A : BkA} {sf : Facts} (h : BkO B A sf) :
    ∃ sg : Facts, (∀ f ∈ sg, f.isOwn = false) ∧ BkR sg B A ∧
      ∀ {P : Program} {main : Bool} {L : Lg P main} {f : FuncId} {ro : Option Nat} {ds : Dz} {cs : List Frame} {n : Nat} {E : Env} {k : List Item} {H : Facts}, At L f ro ds cs n E (sg ++ H) k → At L f ro ds cs n E (sf ++ H) k := by
  obtain ⟨sp, sm, rfl, h1, h2⟩ := h
  obtain ⟨gp, p1, p2, p3⟩ := h1.share
  obtain ⟨gm, m1, m2, m3⟩ := h2.share
  refine ⟨gm ++ gp, fun f hf => (List.mem_append.1 hf).elim (m1 f) (p1 f), ⟨(p2 _ _ _ rfl).more (Sub.append_left _ _), (m2 _ _ _ rfl).more (Sub.pre _ _)⟩, ?_⟩
  intro P main L f ro ds cs n E k H hA
  rw [List.append_assoc] at hA ⊢
  have a1 : At L f ro ds cs n E (gp ++ (gm ++ H)) k := hA.weakH (Sub.of_perm (List.perm_append_comm_assoc gm gp H))
  have a2 : At L f ro ds cs n E (sp ++ (gm ++ H)) k := p3 a1
  have a3 : At L f ro ds cs n E (gm ++ (sp ++ H)) k := a2.weakH (Sub.of_perm (List.perm_append_comm_assoc sp gm H))
  exact m3 a3
/-! ### a book that knows more -/
structure Knows (B C : Bk) : Prop where
  b : bookBar B = 0
  c : bookBar C = 0
  r : ∀ e s, rowM C e s = rowM B e s
  s : ∀ e ∈ statesM C, e ∈ statesM B
  n : (statesM C).length ≠ 0
theorem Knows.n' {B C : Bk} (h : Knows B C) : (statesM B).length ≠ 0 := by
  have h1 : 0 < (statesM C).length := by have := h.n; omega
  have := List.length_pos_of_mem (h.s _ (List.getElem_mem h1))
  omega
end Go.Gx
end

section
set_option linter.unusedSimpArgs false
set_option linter.unusedVariables false
namespace Go.Gx
open Go Go.Conc Go.Proofs

end Go.Gx
end

section
set_option linter.unusedSimpArgs false
set_option linter.unusedVariables false
namespace Go.Gx
open Go Go.Conc Go.Proofs

/-! ### an upright canvas -/
end Go.Gx
end

section
set_option linter.unusedSimpArgs false
set_option linter.unusedVariables false
namespace Go.Gx
open Go Go.Conc Go.Proofs

end Go.Gx
end

section
set_option linter.unusedSimpArgs false
set_option linter.unusedVariables false
namespace Go.Gx
open Go Go.Conc Go.Proofs
variable {main : Bool}

theorem IsSl.some' {sz : Nat} {T : TypeId} {v : Value} {vs : List Value} {m : Nat} {sf : Facts} (h : IsSl sz T v vs m sf) (h0 : 0 < m) : ∃ b c, v = .slice (some ⟨b, 0, none⟩) m c := by
  cases h with
  | nil => omega
  | own b cap _ _ _ => exact ⟨_, _, rfl⟩
end Go.Gx
end

section
set_option linter.unusedSimpArgs false
set_option linter.unusedVariables false
namespace Go.Gx
open Go Go.Conc Go.Proofs

/-! ### sets of marks, by numbers -/
/-! ### the order of lists -/
/-! ### the least set of marks that clash -/
end Go.Gx
end

section
set_option linter.unusedSimpArgs false
set_option linter.unusedVariables false
namespace Go.Gx
open Go Go.Conc Go.Proofs

end Go.Gx
end

section
set_option linter.unusedSimpArgs false
set_option linter.unusedVariables false
namespace Go.Gx
open Go Go.Conc Go.Proofs

/-! ### how many states are left at most -/
end Go.Gx
end

section
set_option linter.unusedSimpArgs false
set_option linter.unusedVariables false
namespace Go.Gx
open Go Go.Conc Go.Proofs

/-! ### the plain law of CanvasAsked -/
end Go.Gx
end

section
set_option linter.unusedSimpArgs false
set_option linter.unusedVariables false
namespace Go.Gx
open Go Go.Conc Go.Proofs

/-! ### fractions in lowest terms -/
theorem low_eq' {n d n' d' : Int} (hd : 0 < d) (hd' : 0 < d') (h : n * d' = n' * d) : low n d = low n' d' := by
  rw [← low_scale (n := n) (d := d) hd', ← low_scale (n := n') (d := d') hd, h, Int.mul_comm d d']
theorem low_eq {n d n' d' : Int} (hd : d ≠ 0) (hd' : d' ≠ 0) (h : n * d' = n' * d) : low n d = low n' d' := by
  have flip : ∀ n d : Int, d ≠ 0 → ∃ n1 d1 : Int, 0 < d1 ∧ low n d = low n1 d1 ∧ ((n1 = n ∧ d1 = d) ∨ (n1 = -n ∧ d1 = -d)) := by
    intro n d hd
    by_cases h : 0 < d
    · exact ⟨n, d, h, rfl, .inl ⟨rfl, rfl⟩⟩
    · exact ⟨-n, -d, by omega, (low_neg hd).symm, .inr ⟨rfl, rfl⟩⟩
  obtain ⟨n1, d1, h1, e1, c1⟩ := flip n d hd
  obtain ⟨n2, d2, h2, e2, c2⟩ := flip n' d' hd'
  rw [e1, e2]
  refine low_eq' h1 h2 ?_
  rcases c1 with ⟨rfl, rfl⟩ | ⟨rfl, rfl⟩ <;> rcases c2 with ⟨rfl, rfl⟩ | ⟨rfl, rfl⟩ <;> grind
def IsLow (x : R2) : Prop := 1 ≤ x.2 ∧ low x.1 x.2 = x
theorem isLow_low {n d : Int} (hd : d ≠ 0) : IsLow (low n d) := by
  have h1 := low_den_pos (n := n) hd
  exact ⟨h1, low_eq (by omega) hd (low_cross hd)⟩
theorem isLow_one (n : Int) : IsLow (n, 1) := ⟨Int.le_refl _, low_one n⟩
theorem IsLow.inj {x y : R2} (hx : IsLow x) (hy : IsLow y) (h : x.1 * y.2 = y.1 * x.2) : x = y := by
  rw [← hx.2, ← hy.2]
  exact low_eq (by have := hx.1; omega) (by have := hy.1; omega) h
/-! ### a point at which a line meets a piece -/
theorem spot_alg1 {f1 f2 h1 h2 p1 p2 X Y a s1 s2 eye D : Int} (hD : D ≠ 0) (hf : f1 * D = (p1 * D + X * a) * f2) (hh : h1 * D = (p2 * D + Y * a) * h2) (ha : a = (p2 - eye) * s2 - s1 * p1) (hd : D = s1 * X - Y * s2) :
    h1 * s2 * f2 = (eye * s2 * f2 + s1 * f1) * h2 := by
  refine Int.eq_of_mul_eq_mul_right hD ?_
  have e1 : h1 * s2 * f2 * D = (h1 * D) * s2 * f2 := by grind
  have e2 : (eye * s2 * f2 + s1 * f1) * h2 * D = (eye * s2 * f2 * D + s1 * (f1 * D)) * h2 := by grind
  rw [e1, e2, hf, hh]
  have e3 : (p2 * D + Y * a) * s2 = eye * s2 * D + s1 * (p1 * D + X * a) := by
    have e4 : D * a = a * (s1 * X - Y * s2) := by rw [← hd, Int.mul_comm]
    have e5 : D * a = D * ((p2 - eye) * s2 - s1 * p1) := by rw [← ha]
    grind
  grind
/-! ### the nearest one -/
theorem lessW_ok {x y : Spot} (hx : SpotOk x) (hy : SpotOk y) : lessW x.1 y.1 = decide (x.1.1 * y.1.2 < y.1.1 * x.1.2) := by
  obtain ⟨a1, a2, _, _⟩ := hx
  obtain ⟨b1, b2, _, _⟩ := hy
  have e1 := mul_bd (a := x.1.1) (b := y.1.2) (A := 500000000) (B := 3000000) (by omega) (by omega)
  have e2 := mul_bd (a := y.1.1) (b := x.1.2) (A := 500000000) (B := 3000000) (by omega) (by omega)
  unfold lessW
  rw [wr_in (by omega), wr_in (by omega)]
theorem frac_trans {a b c d e f : Int} (hb : 0 < b) (hd : 0 < d) (hf : 0 < f) (h1 : a * d < c * b) (h2 : c * f < e * d) : a * f < e * b := by
  have k1 := Int.mul_lt_mul_of_pos_right h1 hf
  have k2 := Int.mul_lt_mul_of_pos_right h2 hb
  have e1 : c * b * f = c * f * b := Int.mul_right_comm ..
  have k3 : a * d * f < e * d * b := by omega
  have e2 : a * d * f = a * f * d := Int.mul_right_comm ..
  have e3 : e * d * b = e * b * d := Int.mul_right_comm ..
  rw [e2, e3] at k3
  exact Int.lt_of_mul_lt_mul_right k3 (Int.le_of_lt hd)
theorem bestM_leqP {α : Type} {r : α → α → Bool} {P : α → Prop} (ht : ∀ x y z, P x → P y → P z → r x y = true → r y z = true → r x z = true) : ∀ (l : List α) (one : α), P one → (∀ x ∈ l, P x) → bestM r one l = one ∨ r (bestM r one l) one = true
  | [], one, _, _ => .inl rfl
  | x :: l, one, h1, hl => by
    have hx := hl x (List.mem_cons_self ..)
    have hl' : ∀ x ∈ l, P x := fun z hz => hl z (List.mem_cons_of_mem _ hz)
    have mem : ∀ w, P w → P (bestM r w l) := by
      intro w hw
      rcases List.mem_cons.1 (bestM_mem r w l) with h | h
      · rw [h]; exact hw
      · exact hl' _ h
    have e : bestM r one (x :: l) = bestM r (if r x one = true then x else one) l := rfl
    rw [e]
    by_cases h : r x one = true
    · rw [if_pos h]
      rcases bestM_leqP ht l x hx hl' with h2 | h2
      · rw [h2]; exact .inr h
      · exact .inr (ht _ _ _ (mem x hx) hx h1 h2 h)
    · rw [if_neg h]
      exact bestM_leqP ht l one h1 hl'
theorem bestM_leastP {α : Type} {r : α → α → Bool} {P : α → Prop} (hi : ∀ x, P x → r x x = false) (ht : ∀ x y z, P x → P y → P z → r x y = true → r y z = true → r x z = true) : ∀ (l : List α) (one : α), P one → (∀ x ∈ l, P x) → ∀ y ∈ one :: l, r y (bestM r one l) = false
  | [], one, h1, _, y, hy => by
    obtain rfl : y = one := by simpa using hy
    exact hi _ h1
  | x :: l, one, h1, hl, y, hy => by
    have hx := hl x (List.mem_cons_self ..)
    have hl' : ∀ x ∈ l, P x := fun z hz => hl z (List.mem_cons_of_mem _ hz)
    have e : bestM r one (x :: l) = bestM r (if r x one = true then x else one) l := rfl
    rw [e]
    have mem : ∀ w, P w → P (bestM r w l) := by
      intro w hw
      rcases List.mem_cons.1 (bestM_mem r w l) with h | h
      · rw [h]; exact hw
      · exact hl' _ h
    by_cases h : r x one = true
    · rw [if_pos h]
      have ih := bestM_leastP hi ht l x hx hl'
      rcases List.mem_cons.1 hy with rfl | hy
      · cases h3 : r y (bestM r x l)
        · rfl
        · have := ht _ _ _ hx h1 (mem x hx) h h3
          rw [ih x (List.mem_cons_self ..)] at this
          cases this
      · exact ih y hy
    · rw [if_neg h]
      have ih := bestM_leastP hi ht l one h1 hl'
      rcases List.mem_cons.1 hy with rfl | hy
      · exact ih y (List.mem_cons_self ..)
      · rcases List.mem_cons.1 hy with rfl | hy
        · cases h3 : r y (bestM r one l)
          · rfl
          · have hb := ih one (List.mem_cons_self ..)
            rcases bestM_leqP ht l one h1 hl' with h4 | h4
            · rw [h4] at h3; exact absurd h3 (by simpa using h)
            · rw [ht _ _ _ hx (mem one h1) h1 h3 h4] at h
              exact absurd rfl h
        · exact ih y (List.mem_cons_of_mem _ hy)
theorem pieces_ok {ps : List R2} (hp : ∀ p ∈ ps, PtOk p) {eye : Int} {s : R2} (he : EyeOk eye) (hs : SlOk s) : ∀ y ∈ piecesM ps eye s, SpotOk y := by
  intro y hy
  unfold piecesM at hy
  obtain ⟨⟨p, q⟩, hpq, hy⟩ := List.mem_flatMap.1 hy
  exact crossM_ok (hp _ (List.of_mem_zip hpq).1) (hp _ (List.mem_of_mem_tail (List.of_mem_zip hpq).2)) he hs y hy
theorem meet_some {ps : List R2} (hp : ∀ p ∈ ps, PtOk p) {eye : Int} {s : R2} (he : EyeOk eye) (hs : SlOk s) {x : Spot} (h : meetM ps eye s = some x) :
    x ∈ piecesM ps eye s ∧ ∀ y ∈ piecesM ps eye s, x.1.1 * y.1.2 ≤ y.1.1 * x.1.2 := by
  have hok := pieces_ok hp he hs
  unfold meetM at h
  split at h
  · cases h
  · rename_i z l e
    cases h
    rw [e] at hok ⊢
    have hm := bestM_mem (fun a b : Spot => lessW a.1 b.1) z l
    refine ⟨hm, fun y hy => ?_⟩
    have := bestM_leastP (r := fun a b : Spot => lessW a.1 b.1) (P := SpotOk) (fun x hx => by simp [lessW]) (fun x y z hx hy hz h1 h2 => by
      rw [lessW_ok hx hy, decide_eq_true_eq] at h1
      rw [lessW_ok hy hz, decide_eq_true_eq] at h2
      rw [lessW_ok hx hz, decide_eq_true_eq]
      exact frac_trans (by have := hx.f2; omega) (by have := hy.f2; omega) (by have := hz.f2; omega) h1 h2) l z (hok z (List.mem_cons_self ..)) (fun x hx => hok x (List.mem_cons_of_mem _ hx)) y hy
    rw [lessW_ok (hok y hy) (hok _ hm), decide_eq_false_iff_not] at this
    omega
theorem meet_none {ps : List R2} {eye : Int} {s : R2} : meetM ps eye s = none ↔ piecesM ps eye s = [] := by
  unfold meetM
  split
  · rename_i e; simp [e]
  · rename_i e; simp [e]
/-! ### points of the profile on the line; lines that miss the canvas -/
end Go.Gx
end

section
set_option linter.unusedSimpArgs false
set_option linter.unusedVariables false
namespace Go.Gx
open Go Go.Conc Go.Proofs

/-! ### the plain law of CanvasExact -/
end Go.Gx
end

section
set_option linter.unusedSimpArgs false
set_option linter.unusedVariables false
namespace Go.Gx
open Go Go.Conc Go.Proofs

end Go.Gx
end

section
set_option linter.unusedSimpArgs false
set_option linter.unusedVariables false
namespace Go.Gx
open Go Go.Conc Go.Proofs

/-! ### the plain law of CanvasNearest -/
end Go.Gx
end

section
set_option linter.unusedSimpArgs false
set_option linter.unusedVariables false
namespace Go.Gx
open Go Go.Conc Go.Proofs

/-! ### a canvas that is raised, or twice as large -/
end Go.Gx
end

section
set_option linter.unusedSimpArgs false
set_option linter.unusedVariables false
namespace Go.Gx
open Go Go.Conc Go.Proofs
variable {main : Bool}

end Go.Gx
end

section
set_option linter.unusedSimpArgs false
set_option linter.unusedVariables false
namespace Go.Gx
open Go Go.Conc Go.Proofs

/-! ### one point more on a piece -/
structure OnLine (eye : Int) (s : R2) (x : Spot) : Prop where
  l1 : IsLow x.1
  l2 : IsLow x.2
  line : x.2.1 * s.2 * x.1.2 = (eye * s.2 * x.1.2 + s.1 * x.1.1) * x.2.2
theorem cross_line {p q : R2} {eye : Int} {s : R2} (hpq : p.2 < q.2) : ∀ x ∈ crossM p q eye s, OnLine eye s x := by
  intro x hx
  unfold crossM at hx
  rw [if_neg (by rintro rfl; omega)] at hx
  split at hx
  · rename_i h0
    unfold offL at h0
    simp only [List.mem_cons, List.not_mem_nil, or_false] at hx
    rcases hx with rfl | rfl
    · exact ⟨isLow_one _, isLow_one _, by simp only; grind⟩
    · exact ⟨isLow_one _, isLow_one _, by simp only; grind⟩
  · rename_i h0
    split at hx
    · rename_i hc
      rw [List.mem_singleton] at hx
      subst hx
      have hD : offL p eye s - offL q eye s ≠ 0 := by omega
      have k1 := low_cross (n := p.1 * (offL p eye s - offL q eye s) + (q.1 - p.1) * offL p eye s) hD
      have k2 := low_cross (n := p.2 * (offL p eye s - offL q eye s) + (q.2 - p.2) * offL p eye s) hD
      have ha : offL p eye s = (p.2 - eye) * s.2 - s.1 * p.1 := rfl
      have hd : offL p eye s - offL q eye s = s.1 * (q.1 - p.1) - (q.2 - p.2) * s.2 := by unfold offL; grind
      exact ⟨isLow_low hD, isLow_low hD, spot_alg1 hD k1 k2 ha hd⟩
    · cases hx
theorem OnLine.uniq {eye : Int} {s : R2} {x y : Spot} (hs : 1 ≤ s.2) (hx : OnLine eye s x) (hy : OnLine eye s y) (h : x.1.1 * y.1.2 = y.1.1 * x.1.2) : x = y := by
  have e1 : x.1 = y.1 := hx.l1.inj hy.l1 h
  refine Prod.ext e1 (hx.l2.inj hy.l2 ?_)
  have h1 := hx.line
  have h2 := hy.line
  rw [← e1] at h2
  have hp : 1 ≤ x.1.2 := hx.l1.1
  have hz : s.2 * x.1.2 ≠ 0 := Int.mul_ne_zero (by omega) (by omega)
  refine Int.eq_of_mul_eq_mul_right hz ?_
  have a1 : x.2.1 * y.2.2 * (s.2 * x.1.2) = (x.2.1 * s.2 * x.1.2) * y.2.2 := by grind
  have a2 : y.2.1 * x.2.2 * (s.2 * x.1.2) = (y.2.1 * s.2 * x.1.2) * x.2.2 := by grind
  rw [a1, a2, h1, h2]
  grind
theorem pieces_line {eye : Int} {s : R2} {ps : List R2} (hp : ∀ p ∈ ps, PtOk p) (hpw : ps.Pairwise (fun p q => p.2 < q.2)) : ∀ x ∈ piecesM ps eye s, OnLine eye s x := by
  intro x hx
  unfold piecesM at hx
  obtain ⟨⟨p, q⟩, hpq, hy⟩ := List.mem_flatMap.1 hx
  exact cross_line (pairs_ok hp hpw _ hpq).2.2 x hy
theorem meet_of {ps : List R2} (hp : ∀ p ∈ ps, PtOk p) (hpw : ps.Pairwise (fun p q => p.2 < q.2)) {eye : Int} {s : R2} (he : EyeOk eye) (hs : SlOk s) {x : Spot} (hx : x ∈ piecesM ps eye s) (hn : ∀ y ∈ piecesM ps eye s, x.1.1 * y.1.2 ≤ y.1.1 * x.1.2) : meetM ps eye s = some x := by
  cases hm : meetM ps eye s with
  | none => rw [meet_none] at hm; rw [hm] at hx; cases hx
  | some z =>
    obtain ⟨h1, h2⟩ := meet_some hp he hs hm
    have := hn z h1
    have := h2 x hx
    rw [OnLine.uniq (by unfold SlOk at hs; omega) (pieces_line hp hpw z h1) (pieces_line hp hpw x hx) (by omega)]
/-- m is a point of the piece from p to q. -/
structure Mid3 (p m q : R2) : Prop where
  lo : p.2 < m.2
  hi : m.2 < q.2
  col : (m.1 - p.1) * (q.2 - p.2) = (q.1 - p.1) * (m.2 - p.2)
theorem Mid3.off {p m q : R2} (h : Mid3 p m q) (eye : Int) (s : R2) : offL m eye s * (q.2 - p.2) = offL p eye s * (q.2 - m.2) + offL q eye s * (m.2 - p.2) := by
  have := h.col
  unfold offL
  have e : s.1 * m.1 * (q.2 - p.2) = s.1 * p.1 * (q.2 - p.2) + s.1 * ((m.1 - p.1) * (q.2 - p.2)) := by grind
  rw [this] at e
  grind
theorem Mid3.far {p m q : R2} (h : Mid3 p m q) : (p.1 ≤ m.1 ∧ m.1 ≤ q.1) ∨ (q.1 ≤ m.1 ∧ m.1 ≤ p.1) := by
  obtain ⟨h1, h2, h3⟩ := h
  have hd : 0 < q.2 - p.2 := by omega
  have hn : 0 < m.2 - p.2 := by omega
  have hr : (q.1 - m.1) * (q.2 - p.2) = (q.1 - p.1) * (q.2 - m.2) := by grind
  rcases Int.le_total 0 (q.1 - p.1) with h0 | h0
  · left
    have a1 : 0 ≤ (m.1 - p.1) * (q.2 - p.2) := by rw [h3]; exact Int.mul_nonneg h0 (by omega)
    have a2 : 0 ≤ (q.1 - m.1) * (q.2 - p.2) := by rw [hr]; exact Int.mul_nonneg h0 (by omega)
    have b1 := Int.nonneg_of_mul_nonneg_left a1 hd
    have b2 := Int.nonneg_of_mul_nonneg_left a2 hd
    omega
  · right
    have a1 : 0 ≤ (p.1 - m.1) * (q.2 - p.2) := by
      have : (p.1 - m.1) * (q.2 - p.2) = (p.1 - q.1) * (m.2 - p.2) := by grind
      rw [this]; exact Int.mul_nonneg (by omega) (by omega)
    have a2 : 0 ≤ (m.1 - q.1) * (q.2 - p.2) := by
      have : (m.1 - q.1) * (q.2 - p.2) = (p.1 - q.1) * (q.2 - m.2) := by grind
      rw [this]; exact Int.mul_nonneg (by omega) (by omega)
    have b1 := Int.nonneg_of_mul_nonneg_left a1 hd
    have b2 := Int.nonneg_of_mul_nonneg_left a2 hd
    omega
theorem part1 {p m q : R2} (h : Mid3 p m q) {a b c : Int} (hc : c * (q.2 - p.2) = a * (q.2 - m.2) + b * (m.2 - p.2)) (h1 : a - c ≠ 0) (h2 : a - b ≠ 0) :
    low (p.1 * (a - c) + (m.1 - p.1) * a) (a - c) = low (p.1 * (a - b) + (q.1 - p.1) * a) (a - b) ∧ low (p.2 * (a - c) + (m.2 - p.2) * a) (a - c) = low (p.2 * (a - b) + (q.2 - p.2) * a) (a - b) := by
  obtain ⟨g1, g2, g3⟩ := h
  have hd : q.2 - p.2 ≠ 0 := by omega
  have e : (a - c) * (q.2 - p.2) = (a - b) * (m.2 - p.2) := by grind
  constructor
  · refine low_eq h1 h2 (Int.eq_of_mul_eq_mul_right hd ?_)
    have e1 : (p.1 * (a - c) + (m.1 - p.1) * a) * (a - b) * (q.2 - p.2) = (p.1 * ((a - c) * (q.2 - p.2)) + ((m.1 - p.1) * (q.2 - p.2)) * a) * (a - b) := by grind
    have e2 : (p.1 * (a - b) + (q.1 - p.1) * a) * (a - c) * (q.2 - p.2) = (p.1 * (a - b) + (q.1 - p.1) * a) * ((a - c) * (q.2 - p.2)) := by grind
    rw [e1, e2, e, g3]
    grind
  · refine low_eq h1 h2 (Int.eq_of_mul_eq_mul_right hd ?_)
    have e1 : (p.2 * (a - c) + (m.2 - p.2) * a) * (a - b) * (q.2 - p.2) = (p.2 * ((a - c) * (q.2 - p.2)) + ((m.2 - p.2) * (q.2 - p.2)) * a) * (a - b) := by grind
    have e2 : (p.2 * (a - b) + (q.2 - p.2) * a) * (a - c) * (q.2 - p.2) = (p.2 * (a - b) + (q.2 - p.2) * a) * ((a - c) * (q.2 - p.2)) := by grind
    rw [e1, e2, e]
    grind
theorem part2 {p m q : R2} (h : Mid3 p m q) {a b c : Int} (hc : c * (q.2 - p.2) = a * (q.2 - m.2) + b * (m.2 - p.2)) (h1 : c - b ≠ 0) (h2 : a - b ≠ 0) :
    low (m.1 * (c - b) + (q.1 - m.1) * c) (c - b) = low (p.1 * (a - b) + (q.1 - p.1) * a) (a - b) ∧ low (m.2 * (c - b) + (q.2 - m.2) * c) (c - b) = low (p.2 * (a - b) + (q.2 - p.2) * a) (a - b) := by
  obtain ⟨g1, g2, g3⟩ := h
  have hd : q.2 - p.2 ≠ 0 := by omega
  have e : (c - b) * (q.2 - p.2) = (a - b) * (q.2 - m.2) := by grind
  constructor
  · refine low_eq h1 h2 (Int.eq_of_mul_eq_mul_right hd ?_)
    have e0 : (m.1 * (c - b) + (q.1 - m.1) * c) * (q.2 - p.2) = (q.1 * a - p.1 * b) * (q.2 - m.2) := by
      have k1 : (m.1 * (c - b) + (q.1 - m.1) * c) * (q.2 - p.2) = q.1 * (c * (q.2 - p.2)) - b * (m.1 * (q.2 - p.2)) := by grind
      have k2 : m.1 * (q.2 - p.2) = p.1 * (q.2 - p.2) + (q.1 - p.1) * (m.2 - p.2) := by grind
      rw [k1, k2, hc]
      grind
    have e1 : (m.1 * (c - b) + (q.1 - m.1) * c) * (a - b) * (q.2 - p.2) = ((m.1 * (c - b) + (q.1 - m.1) * c) * (q.2 - p.2)) * (a - b) := by grind
    have e2 : (p.1 * (a - b) + (q.1 - p.1) * a) * (c - b) * (q.2 - p.2) = (p.1 * (a - b) + (q.1 - p.1) * a) * ((c - b) * (q.2 - p.2)) := by grind
    rw [e1, e2, e, e0]
    grind
  · refine low_eq h1 h2 (Int.eq_of_mul_eq_mul_right hd ?_)
    have e0 : (m.2 * (c - b) + (q.2 - m.2) * c) * (q.2 - p.2) = (q.2 * a - p.2 * b) * (q.2 - m.2) := by
      have k1 : (m.2 * (c - b) + (q.2 - m.2) * c) * (q.2 - p.2) = q.2 * (c * (q.2 - p.2)) - b * (m.2 * (q.2 - p.2)) := by grind
      rw [k1, hc]
      grind
    have e1 : (m.2 * (c - b) + (q.2 - m.2) * c) * (a - b) * (q.2 - p.2) = ((m.2 * (c - b) + (q.2 - m.2) * c) * (q.2 - p.2)) * (a - b) := by grind
    have e2 : (p.2 * (a - b) + (q.2 - p.2) * a) * (c - b) * (q.2 - p.2) = (p.2 * (a - b) + (q.2 - p.2) * a) * ((c - b) * (q.2 - p.2)) := by grind
    rw [e1, e2, e, e0]
    grind
theorem sgn_mid {a b c d n : Int} (hn : 0 < n) (hd : n < d) (hc : c * d = a * (d - n) + b * n) :
    (0 ≤ a → 0 ≤ b → 0 ≤ c) ∧ (a ≤ 0 → b ≤ 0 → c ≤ 0) ∧ (0 ≤ c → a ≤ 0 → 0 ≤ b) ∧ (c ≤ 0 → 0 ≤ a → b ≤ 0) ∧ (0 ≤ c → b ≤ 0 → 0 ≤ a) ∧ (c ≤ 0 → 0 ≤ b → a ≤ 0) ∧ (a = 0 → c = 0 → b = 0) ∧ (b = 0 → c = 0 → a = 0) ∧ (a = 0 → b = 0 → c = 0) := by
  have hd0 : 0 < d := by omega
  have hm : 0 < d - n := by omega
  have pos : ∀ {x k : Int}, 0 < k → (0 ≤ x * k ↔ 0 ≤ x) := fun {x k} hk => ⟨fun h => Int.nonneg_of_mul_nonneg_left h hk, fun h => Int.mul_nonneg h (by omega)⟩
  have neg : ∀ {x k : Int}, 0 < k → (x * k ≤ 0 ↔ x ≤ 0) := fun {x k} hk => by
    have := pos (x := -x) hk
    rw [Int.neg_mul] at this
    omega
  have zer : ∀ {x k : Int}, 0 < k → (x * k = 0 ↔ x = 0) := fun {x k} hk => by
    have h1 := pos (x := x) hk
    have h2 := neg (x := x) hk
    omega
  have c1 := pos (x := c) hd0
  have c2 := neg (x := c) hd0
  have c3 := zer (x := c) hd0
  have a1 := pos (x := a) hm
  have a2 := neg (x := a) hm
  have a3 := zer (x := a) hm
  have b1 := pos (x := b) hn
  have b2 := neg (x := b) hn
  have b3 := zer (x := b) hn
  generalize c * d = C at *
  generalize a * (d - n) = A at *
  generalize b * n = B at *
  omega
/-- What the two halves are met at. -/
theorem cross_split {p m q : R2} (h : Mid3 p m q) (eye : Int) (s : R2) :
    (∀ x ∈ crossM p q eye s, x ∈ crossM p m eye s ∨ x ∈ crossM m q eye s) ∧
    ∀ y, y ∈ crossM p m eye s ∨ y ∈ crossM m q eye s → y ∈ crossM p q eye s ∨ ∃ z ∈ crossM p q eye s, z.1.1 * y.1.2 ≤ y.1.1 * z.1.2 := by
  have ho := h.off eye s
  have hf := h.far
  have h1 := h.lo
  have h2 := h.hi
  have hs := sgn_mid (a := offL p eye s) (b := offL q eye s) (c := offL m eye s) (d := q.2 - p.2) (n := m.2 - p.2) (by omega) (by omega) (by rw [ho, show q.2 - p.2 - (m.2 - p.2) = q.2 - m.2 by omega])
  have k1 := fun x y => part1 h (a := offL p eye s) (b := offL q eye s) (c := offL m eye s) ho x y
  have k2 := fun x y => part2 h (a := offL p eye s) (b := offL q eye s) (c := offL m eye s) ho x y
  unfold crossM
  rw [if_neg (show ¬ p = q by rintro rfl; omega), if_neg (show ¬ p = m by rintro rfl; omega), if_neg (show ¬ m = q by rintro rfl; omega)]
  generalize offL p eye s = a at *
  generalize offL q eye s = b at *
  generalize offL m eye s = c at *
  obtain ⟨s1, s2, s3, s4, s5, s6, s7, s8, s9⟩ := hs
  by_cases h0 : a = 0 ∧ b = 0
  · have hc0 := s9 h0.1 h0.2
    rw [if_pos h0, if_pos ⟨h0.1, hc0⟩, if_pos ⟨hc0, h0.2⟩]
    refine ⟨fun x hx => ?_, fun y hy => ?_⟩
    · simp only [List.mem_cons, List.not_mem_nil, or_false] at hx ⊢
      rcases hx with rfl | rfl
      · exact .inl (.inl rfl)
      · exact .inr (.inr rfl)
    · simp only [List.mem_cons, List.not_mem_nil, or_false] at hy ⊢
      have hm : y = ((m.1, 1), (m.2, 1)) → (y = ((p.1, 1), (p.2, 1)) ∨ y = ((q.1, 1), (q.2, 1))) ∨ ∃ z, (z = ((p.1, (1 : Int)), (p.2, (1 : Int))) ∨ z = ((q.1, 1), (q.2, 1))) ∧ z.1.1 * y.1.2 ≤ y.1.1 * z.1.2 := by
        rintro rfl
        rcases hf with hf | hf
        · exact .inr ⟨_, .inl rfl, by simp only; omega⟩
        · exact .inr ⟨_, .inr rfl, by simp only; omega⟩
      rcases hy with (rfl | h) | (h | rfl)
      · exact .inl (.inl rfl)
      · exact hm h
      · exact hm h
      · exact .inl (.inr rfl)
  · rw [if_neg h0, if_neg (show ¬ (a = 0 ∧ c = 0) by omega), if_neg (show ¬ (c = 0 ∧ b = 0) by omega)]
    by_cases hab : (a ≤ 0 ∧ 0 ≤ b) ∨ (0 ≤ a ∧ b ≤ 0)
    · have hab0 : a - b ≠ 0 := by omega
      rw [if_pos hab]
      refine ⟨fun x hx => ?_, fun y hy => .inl ?_⟩
      · rw [List.mem_singleton] at hx
        by_cases hac : (a ≤ 0 ∧ 0 ≤ c) ∨ (0 ≤ a ∧ c ≤ 0)
        · left
          obtain ⟨e1, e2⟩ := k1 (by omega) hab0
          rw [if_pos hac, List.mem_singleton, hx, e1, e2]
        · right
          obtain ⟨e1, e2⟩ := k2 (by omega) hab0
          rw [if_pos (by omega), List.mem_singleton, hx, e1, e2]
      · rcases hy with hy | hy
        · split at hy
          · obtain ⟨e1, e2⟩ := k1 (by omega) hab0
            rw [List.mem_singleton] at hy ⊢
            rw [hy, e1, e2]
          · cases hy
        · split at hy
          · obtain ⟨e1, e2⟩ := k2 (by omega) hab0
            rw [List.mem_singleton] at hy ⊢
            rw [hy, e1, e2]
          · cases hy
    · rw [if_neg hab, if_neg (by omega), if_neg (by omega)]
      exact ⟨fun x hx => by (cases hx), fun y hy => by (rcases hy with hy | hy <;> cases hy)⟩
theorem pieces_two (a b : R2) (l : List R2) (eye : Int) (s : R2) : piecesM (a :: b :: l) eye s = crossM a b eye s ++ piecesM (b :: l) eye s := pieces_cons a b l eye s
theorem pieces_split {p m q : R2} (h : Mid3 p m q) (eye : Int) (s : R2) (l2 : List R2) : ∀ l1 : List R2,
    (∀ x ∈ piecesM (l1 ++ p :: q :: l2) eye s, x ∈ piecesM (l1 ++ p :: m :: q :: l2) eye s) ∧
    ∀ y ∈ piecesM (l1 ++ p :: m :: q :: l2) eye s, y ∈ piecesM (l1 ++ p :: q :: l2) eye s ∨ ∃ z ∈ piecesM (l1 ++ p :: q :: l2) eye s, z.1.1 * y.1.2 ≤ y.1.1 * z.1.2
  | [] => by
    obtain ⟨h1, h2⟩ := cross_split h eye s
    simp only [List.nil_append, pieces_two]
    refine ⟨fun x hx => ?_, fun y hy => ?_⟩
    · rcases List.mem_append.1 hx with hx | hx
      · rcases h1 x hx with h | h
        · exact List.mem_append_left _ h
        · exact List.mem_append_right _ (List.mem_append_left _ h)
      · exact List.mem_append_right _ (List.mem_append_right _ hx)
    · have key : y ∈ crossM p m eye s ∨ y ∈ crossM m q eye s → y ∈ crossM p q eye s ++ piecesM (q :: l2) eye s ∨ ∃ z ∈ crossM p q eye s ++ piecesM (q :: l2) eye s, z.1.1 * y.1.2 ≤ y.1.1 * z.1.2 := by
        intro hy
        rcases h2 y hy with h | ⟨z, hz, hle⟩
        · exact .inl (List.mem_append_left _ h)
        · exact .inr ⟨z, List.mem_append_left _ hz, hle⟩
      rcases List.mem_append.1 hy with hy | hy
      · exact key (.inl hy)
      · rcases List.mem_append.1 hy with hy | hy
        · exact key (.inr hy)
        · exact .inl (List.mem_append_right _ hy)
  | a :: l1 => by
    obtain ⟨h1, h2⟩ := pieces_split h eye s l2 l1
    have hd : ∃ b r r', l1 ++ p :: q :: l2 = b :: r ∧ l1 ++ p :: m :: q :: l2 = b :: r' := by
      cases l1 with
      | nil => exact ⟨p, _, _, rfl, rfl⟩
      | cons b l => exact ⟨b, _, _, rfl, rfl⟩
    obtain ⟨b, r, r', e1, e2⟩ := hd
    simp only [List.cons_append]
    rw [e1, e2] at h1 h2 ⊢
    rw [pieces_two, pieces_two]
    refine ⟨fun x hx => ?_, fun y hy => ?_⟩
    · rcases List.mem_append.1 hx with hx | hx
      · exact List.mem_append_left _ hx
      · exact List.mem_append_right _ (h1 x hx)
    · rcases List.mem_append.1 hy with hy | hy
      · exact .inl (List.mem_append_left _ hy)
      · rcases h2 y hy with h | ⟨z, hz, hle⟩
        · exact .inl (List.mem_append_right _ h)
        · exact .inr ⟨z, List.mem_append_right _ hz, hle⟩
theorem frac_le_trans {a b c d e f : Int} (hb : 0 < b) (hd : 0 < d) (hf : 0 < f) (h1 : a * d ≤ c * b) (h2 : c * f ≤ e * d) : a * f ≤ e * b := by
  have k1 := Int.mul_le_mul_of_nonneg_right h1 (Int.le_of_lt hf)
  have k2 := Int.mul_le_mul_of_nonneg_right h2 (Int.le_of_lt hb)
  have e1 : c * b * f = c * f * b := Int.mul_right_comm ..
  have k3 : a * d * f ≤ e * d * b := by omega
  have e2 : a * d * f = a * f * d := Int.mul_right_comm ..
  have e3 : e * d * b = e * b * d := Int.mul_right_comm ..
  rw [e2, e3] at k3
  exact Int.le_of_mul_le_mul_right k3 hd
theorem meet_split {p m q : R2} (h : Mid3 p m q) {eye : Int} {s : R2} (he : EyeOk eye) (hs : SlOk s) {l1 l2 : List R2} (hp : ∀ x ∈ l1 ++ p :: q :: l2, PtOk x) (hp' : ∀ x ∈ l1 ++ p :: m :: q :: l2, PtOk x) (hpw : (l1 ++ p :: m :: q :: l2).Pairwise (fun p q => p.2 < q.2)) :
    meetM (l1 ++ p :: m :: q :: l2) eye s = meetM (l1 ++ p :: q :: l2) eye s := by
  obtain ⟨h1, h2⟩ := pieces_split h eye s l2 l1
  have hok := pieces_ok hp he hs
  have hok' := pieces_ok hp' he hs
  cases hm : meetM (l1 ++ p :: q :: l2) eye s with
  | none =>
    rw [meet_none] at hm ⊢
    rw [List.eq_nil_iff_forall_not_mem]
    intro y hy
    rcases h2 y hy with h | ⟨z, hz, _⟩
    · rw [hm] at h; cases h
    · rw [hm] at hz; cases hz
  | some x =>
    obtain ⟨a1, a2⟩ := meet_some hp he hs hm
    refine meet_of hp' hpw he hs (h1 x a1) fun y hy => ?_
    rcases h2 y hy with h | ⟨z, hz, hle⟩
    · exact a2 y h
    · have b1 := (hok x a1).f2
      have b2 := (hok z hz).f2
      have b3 := (hok' y hy).f2
      exact frac_le_trans (by omega) (by omega) (by omega) (a2 z hz) hle
/-! ### the book with one point more -/
theorem ptsBar_of : ∀ (ps : List R2) (pr : Option Int), (∀ p ∈ ps, PtOk p) → ps.Pairwise (fun p q => p.2 < q.2) → (∀ h, pr = some h → ∀ p ∈ ps, h < p.2) → ptsBar pr ps = 0
  | [], _, _, _, _ => rfl
  | p :: ps, pr, h1, h2, h3 => by
    obtain ⟨h4, h5⟩ := List.pairwise_cons.1 h2
    have hp := h1 p (List.mem_cons_self ..)
    unfold PtOk at hp
    unfold ptsBar
    rw [if_neg (by omega), if_neg]
    · exact ptsBar_of ps _ (fun x hx => h1 x (List.mem_cons_of_mem _ hx)) h5 (fun h e x hx => by cases e; exact h4 x hx)
    · cases pr with
      | none => simp
      | some h =>
        have := h3 h rfl p (List.mem_cons_self ..)
        simp; omega
def partM (B : Bk) (i : Nat) (m : R2) : Bk := { B with prof := B.prof.take (i + 1) ++ m :: B.prof.drop (i + 1) }
theorem prof_cut {B : Bk} {i : Nat} (h : i + 1 < B.prof.length) : B.prof = B.prof.take i ++ B.prof[i] :: B.prof[i + 1] :: B.prof.drop (i + 2) ∧ ∀ m, (partM B i m).prof = B.prof.take i ++ B.prof[i] :: m :: B.prof[i + 1] :: B.prof.drop (i + 2) := by
  have e1 : B.prof.take (i + 1) = B.prof.take i ++ [B.prof[i]] := List.take_succ_eq_append_getElem (by omega)
  have e2 : B.prof.drop (i + 1) = B.prof[i + 1] :: B.prof.drop (i + 2) := List.drop_eq_getElem_cons h
  constructor
  · calc B.prof = B.prof.take (i + 1) ++ B.prof.drop (i + 1) := (List.take_append_drop ..).symm
      _ = _ := by rw [e1, e2]; simp
  · intro m
    show B.prof.take (i + 1) ++ m :: B.prof.drop (i + 1) = _
    rw [e1, e2, List.append_assoc]; rfl
theorem part_pts {B : Bk} (hz : bookBar B = 0) {i : Nat} (h : i + 1 < B.prof.length) {m : R2} (hm : Mid3 B.prof[i] m B.prof[i + 1]) : (∀ x ∈ (partM B i m).prof, PtOk x) ∧ (partM B i m).prof.Pairwise (fun p q => p.2 < q.2) := by
  have hb := (bounds_of_bar hz).2.2.1
  have hpw := prof_pw hz
  obtain ⟨e1, e2⟩ := prof_cut h
  rw [e2 m]
  rw [e1] at hb hpw
  have p1 := hb B.prof[i] (by simp)
  have p2 := hb B.prof[i + 1] (by simp)
  have f := hm.far
  have g1 := hm.lo
  have g2 := hm.hi
  generalize B.prof[i] = p at *
  generalize B.prof[i + 1] = q at *
  generalize B.prof.take i = l1 at *
  generalize B.prof.drop (i + 2) = l2 at *
  unfold PtOk at p1 p2
  constructor
  · intro x hx
    simp only [List.mem_append, List.mem_cons] at hx hb
    rcases hx with hx | rfl | rfl | rfl | hx
    · exact hb x (.inl hx)
    · exact hb x (.inr (.inl rfl))
    · unfold PtOk; omega
    · exact hb x (.inr (.inr (.inl rfl)))
    · exact hb x (.inr (.inr (.inr hx)))
  · rw [List.pairwise_append] at hpw ⊢
    obtain ⟨w1, w2, w3⟩ := hpw
    obtain ⟨w4, w5⟩ := List.pairwise_cons.1 w2
    obtain ⟨w6, w7⟩ := List.pairwise_cons.1 w5
    have w8 : ∀ x ∈ q :: l2, m.2 < x.2 := by
      intro x hx
      rcases List.mem_cons.1 hx with rfl | hx
      · exact g2
      · have := w6 x hx; omega
    refine ⟨w1, List.pairwise_cons.2 ⟨fun x hx => ?_, List.pairwise_cons.2 ⟨w8, w5⟩⟩, fun x hx y hy => ?_⟩
    · rcases List.mem_cons.1 hx with rfl | hx
      · exact g1
      · exact w4 x hx
    · rcases List.mem_cons.1 hy with rfl | hy
      · exact w3 x hx _ (List.mem_cons_self ..)
      · rcases List.mem_cons.1 hy with rfl | hy
        · have := w3 x hx p (List.mem_cons_self ..); omega
        · exact w3 x hx y (List.mem_cons_of_mem _ hy)
theorem part_bar {B : Bk} (hz : bookBar B = 0) {i : Nat} (h : i + 1 < B.prof.length) (h5 : B.prof.length < 5) {m : R2} (hm : Mid3 B.prof[i] m B.prof[i + 1]) : bookBar (partM B i m) = 0 := by
  obtain ⟨h1, h2⟩ := part_pts hz h hm
  have hl : (partM B i m).prof.length = B.prof.length + 1 := by
    show (B.prof.take (i + 1) ++ m :: B.prof.drop (i + 1)).length = _
    simp; omega
  have hp : profBar (partM B i m).prof = 0 := by
    unfold profBar
    rw [if_neg (by omega)]
    exact ptsBar_of _ none h1 h2 (by simp)
  have hp0 : profBar B.prof = 0 := by
    unfold bookBar at hz
    by_cases e : profBar B.prof = 0
    · exact e
    · rw [if_pos e] at hz; exact absurd hz e
  unfold bookBar at hz ⊢
  rw [if_neg (by rw [hp]; decide)]
  rw [if_neg (by rw [hp0]; decide)] at hz
  exact hz
theorem part_meet {B : Bk} (hz : bookBar B = 0) {i : Nat} (h : i + 1 < B.prof.length) {m : R2} (hm : Mid3 B.prof[i] m B.prof[i + 1]) {eye : Int} {s : R2} (he : EyeOk eye) (hs : SlOk s) : meetM (partM B i m).prof eye s = meetM B.prof eye s := by
  obtain ⟨h1, h2⟩ := part_pts hz h hm
  have hb := (bounds_of_bar hz).2.2.1
  obtain ⟨e1, e2⟩ := prof_cut h
  rw [e2 m] at h1 h2 ⊢
  conv => rhs; rw [e1]
  exact meet_split hm he hs (fun x hx => hb x (by rw [e1]; exact hx)) h1 h2
theorem part_foot {B : Bk} {i : Nat} (h : i + 1 < B.prof.length) (m : R2) : footM (partM B i m) = footM B := by
  unfold footM
  show (List.headD (B.prof.take (i + 1) ++ m :: B.prof.drop (i + 1)) (0, 0)).2 = _
  cases hB : B.prof with
  | nil => rw [hB] at h; simp at h
  | cons p ps => rfl
theorem part_square {B : Bk} {i : Nat} (h : i + 1 < B.prof.length) (m : R2) (x : R2) : squareM (partM B i m) x = squareM B x := by
  unfold squareM
  rw [part_foot h]
  rfl
theorem part_row {B : Bk} (hz : bookBar B = 0) {i : Nat} (h : i + 1 < B.prof.length) {m : R2} (hm : Mid3 B.prof[i] m B.prof[i + 1]) {eye : Int} {s : R2} (he : EyeOk eye) (hs : SlOk s) : rowM (partM B i m) eye s = rowM B eye s := by
  unfold rowM
  rw [part_meet hz h hm he hs]
  cases meetM B.prof eye s with
  | none => rfl
  | some x => exact congrArg Prod.fst (part_square h m x.2)
theorem part_states {B : Bk} (hz : bookBar B = 0) {i : Nat} (h : i + 1 < B.prof.length) {m : R2} (hm : Mid3 B.prof[i] m B.prof[i + 1]) : statesM (partM B i m) = statesM B := by
  unfold statesM
  refine List.filter_congr fun e hee => ?_
  have hb := bounds_of_bar hz
  have hE : EyeOk e := by
    unfold bandL at hee
    obtain ⟨k, hk, rfl⟩ := List.mem_map.1 hee
    have hk' : k < (B.hi - B.lo + 1).toNat := List.mem_range.1 hk
    show EyeOk (B.lo + (k : Int))
    unfold EyeOk
    have h1 := hb.2.2.2.2
    omega
  unfold rightM
  show (B.marks.all fun x => decide (rowM (partM B i m) e x.1 = x.2)) = _
  rw [Bool.eq_iff_iff, List.all_eq_true, List.all_eq_true]
  refine forall_congr' fun x => forall_congr' fun hx => ?_
  rw [part_row hz h hm hE (slOk_mark hz hx)]
theorem part_rows {B : Bk} (hz : bookBar B = 0) {i : Nat} (h : i + 1 < B.prof.length) {m : R2} (hm : Mid3 B.prof[i] m B.prof[i + 1]) {s : R2} (hs : SlOk s) : rowsOf (partM B i m) s = rowsOf B s := by
  unfold rowsOf
  rw [part_states hz h hm]
  refine List.map_congr_left fun e he => ?_
  exact part_row hz h hm (state_eye hz e he).1 hs
theorem part_thing {B : Bk} (hz : bookBar B = 0) {i : Nat} (h : i + 1 < B.prof.length) (h5 : B.prof.length < 5) {m : R2} (hm : Mid3 B.prof[i] m B.prof[i + 1]) {eye : Int} (he : EyeOk eye) (f t : Int × R2) : thingM (partM B i m) eye f t = thingM B eye f t := by
  have hz' := part_bar hz h h5 hm
  unfold thingM
  rw [lookBar1 hz, lookBar1 hz']
  by_cases hs : sightsBar f t = 0
  · obtain ⟨hf, ht, hlt, _, _⟩ := sights0 hs
    have hf1 := hf
    have ht1 := ht
    unfold SightOk at hf1 ht1
    have key : ∀ n, n ≤ (t.1 - f.1).toNat + 1 → thingTo (partM B i m) eye f t n = thingTo B eye f t n := by
      intro n
      induction n with
      | zero => intro _; rfl
      | succ n ih =>
        intro hn
        unfold thingTo
        rw [ih (by omega)]
        have : thingAt (partM B i m) eye f t n = thingAt B eye f t n := part_meet hz h hm he (evenlyM_sl hf ht (by omega) (by omega))
        rw [this]
    rw [key _ (Nat.le_refl _)]
  · have h1 : firstBar [hBar eye, sightsBar f t] ≠ 0 := by
      rw [firstBar2, show hBar eye = 0 from if_pos he]
      simpa using hs
    rw [if_pos h1, if_pos h1]
theorem getD_of {B : Bk} {i : Nat} (h : i < B.prof.length) : B.prof.getD i (0, 0) = B.prof[i] := by rw [List.getD_eq_getElem?_getD, List.getElem?_eq_getElem h]; rfl
/-- The point that is put in: where, and what. -/
theorem mid_of {p q : R2} {n : Int} (h2 : 2 ≤ q.2 - p.2) (hn : 1 ≤ n ∧ n < q.2 - p.2) (hd : ((q.1 - p.1) * n).tmod (q.2 - p.2) = 0) : Mid3 p (p.1 + ((q.1 - p.1) * n).tdiv (q.2 - p.2), p.2 + n) q := by
  refine ⟨by simp only; omega, by simp only; omega, ?_⟩
  have := Int.mul_tdiv_add_tmod ((q.1 - p.1) * n) (q.2 - p.2)
  rw [hd] at this
  simp only
  rw [show p.1 + ((q.1 - p.1) * n).tdiv (q.2 - p.2) - p.1 = ((q.1 - p.1) * n).tdiv (q.2 - p.2) by omega, show p.2 + n - p.2 = n by omega, Int.mul_comm]
  omega
end Go.Gx
end

section
set_option linter.unusedSimpArgs false
set_option linter.unusedVariables false
namespace Go.Gx
open Go Go.Conc Go.Proofs
variable {main : Bool}

set_option maxRecDepth 100000 in
set_option maxHeartbeats 4000000 in
/-- parted (law02) -/
theorem s50 (L : Lg Tryz.prog main) (H : Facts) {B : Bk} {A : BkA} {pc at_ : Int} (hB : BkR H B A) (hz : bookBar B = 0) (hp : 0 ≤ pc ∧ pc ≤ 255) (ha : 0 ≤ at_ ∧ at_ ≤ 255) (hcp : B.prof.length ≤ A.pc) :
    Grows L 50 #[bkV B A, .int .u8 pc, .int .u8 at_] H (fun v sf => (v = .tuple #[bkV B A, .bool false] ∧ sf = []) ∨ ∃ (i : Nat) (m : R2) (a : Option Addr) (cap : Nat), i + 1 < B.prof.length ∧ B.prof.length < 5 ∧ Mid3 (B.prof.getD i (0, 0)) m (B.prof.getD (i + 1) (0, 0)) ∧ v = .tuple #[bkV (partM B i m) ⟨a, cap, A.ma, A.mc⟩, .bool true] ∧ Sl c2 57 (.slice a (partM B i m).prof.length cap) (partM B i m).prof sf) := by
  refine Spec.enter Tryz.func50 rfl (by simp [Tryz.f50]) fun c cs hc => ?_
  have hb := bounds_of_bar hz
  have hrp := hB.p
  obtain ⟨pa, pc', ma, mc⟩ := A
  simp only at hrp hcp
  have w1 : IntKind.wrap .i64 pc = pc := wrap_in (by omega)
  have w2 : IntKind.wrap .i64 at_ = at_ := wrap_in (by omega)
  have stopDraw := trivial
  refine At.seq (At.region ?_); refine At.bx rfl rfl rfl rfl rfl rfl rfl fun r3 => ?_; refine At.al rfl rfl rfl rfl rfl fun r6 => ?_; refine At.v rfl rfl rfl rfl rfl trivial ?_; refine At.regionEnd (At.seq (At.region ?_)); refine At.v rfl rfl rfl rfl rfl trivial ?_; refine At.q rfl rfl rfl rfl (q_conv rfl rfl rfl) ?_; refine At.fa 0 rfl rfl rfl rfl rfl rfl rfl ?_; refine At.ld 1 rfl rfl rfl rfl rfl rfl rfl rfl rfl ?_; refine At.ln rfl rfl rfl rfl rfl rfl rfl rfl ?_
  (iterate 2 refine At.v rfl rfl rfl rfl rfl (by omega) ?_); refine At.v rfl rfl rfl rfl rfl trivial ?_; refine At.regionEnd (At.seq ?_)
  have hlen : (2 : Int) ≤ (B.prof.length : Int) := by have := hb.1; omega
  have r1 := Int.tmod_nonneg ((B.prof.length : Int) - 1) hp.1
  have r2 := Int.tmod_lt_of_pos pc (show (0 : Int) < (B.prof.length : Int) - 1 by omega)
  rw [w1]
  generalize pc.tmod ((B.prof.length : Int) - 1) = iv at r1 r2 ⊢
  obtain ⟨i, rfl⟩ := Int.eq_ofNat_of_zero_le r1
  have hi1 : i + 1 < B.prof.length := by omega
  obtain ⟨b1, o1, e1, hc1⟩ := hrp.el (List.getElem?_eq_getElem (show i < B.prof.length by omega))
  cases e1
  obtain ⟨b2, o2, e2, hc2⟩ := hrp.el (List.getElem?_eq_getElem hi1)
  obtain ⟨rfl, rfl⟩ : b2 = b1 ∧ o2 = o1 := by simpa using e2.symm
  have hp1 := hb.2.2.1 _ (List.getElem_mem (show i < B.prof.length by omega))
  have hp2 := hb.2.2.1 _ (List.getElem_mem hi1)
  have hpw := List.pairwise_iff_getElem.1 (prof_pw hz) i (i + 1) (by omega) hi1 (by omega)
  have g1 := getD_of (B := B) (show i < B.prof.length by omega)
  have g2 := getD_of (B := B) hi1
  unfold PtOk at hp1 hp2
  have hm := @mid_of B.prof[i] B.prof[i + 1]
  have hmx : 1 ≤ (if B.prof[i + 1].2 - B.prof[i].2 - 1 > 1 then B.prof[i + 1].2 - B.prof[i].2 - 1 else 1) ∧ (if B.prof[i + 1].2 - B.prof[i].2 - 1 > 1 then B.prof[i + 1].2 - B.prof[i].2 - 1 else 1) ≤ 89 ∧ (2 ≤ B.prof[i + 1].2 - B.prof[i].2 → (if B.prof[i + 1].2 - B.prof[i].2 - 1 > 1 then B.prof[i + 1].2 - B.prof[i].2 - 1 else 1) = B.prof[i + 1].2 - B.prof[i].2 - 1) := by split <;> omega
  have r3 := Int.tmod_nonneg (if B.prof[i + 1].2 - B.prof[i].2 - 1 > 1 then B.prof[i + 1].2 - B.prof[i].2 - 1 else 1) ha.1
  have r4 := Int.tmod_lt_of_pos at_ (show (0 : Int) < (if B.prof[i + 1].2 - B.prof[i].2 - 1 > 1 then B.prof[i + 1].2 - B.prof[i].2 - 1 else 1) by omega)
  clear stopDraw
  refine At.draw hmix (_) sb ?_; refine Pool.fa 0 0 rfl rfl rfl rfl rfl rfl rfl rfl rfl ?_; refine Pool.ld 1 1 rfl rfl rfl rfl rfl rfl rfl rfl rfl rfl rfl ?_; refine Pool.v 2 rfl rfl rfl rfl rfl rfl rfl trivial ?_; refine Pool.q 3 rfl rfl rfl rfl rfl (q_ia rfl rfl rfl (by omega)) rfl ?_; refine Pool.ldc 4 rfl rfl rfl rfl rfl rfl rfl hc1.a rfl rfl rfl ?_; refine Pool.fa 0 5 rfl rfl rfl rfl rfl rfl rfl rfl rfl ?_; refine Pool.ld 1 6 rfl rfl rfl rfl rfl rfl rfl rfl rfl rfl rfl ?_
  refine Pool.v 7 rfl rfl rfl rfl rfl rfl rfl trivial ?_; refine Pool.v 8 rfl rfl rfl rfl rfl rfl rfl (by omega) ?_; refine Pool.q 9 rfl rfl rfl rfl rfl (q_ia rfl rfl rfl (by assumption)) rfl ?_; refine Pool.ldc 10 rfl rfl rfl rfl rfl rfl rfl hc2.a rfl rfl rfl ?_; refine Pool.fl 11 rfl rfl rfl rfl rfl rfl rfl rfl rfl rfl ?_; refine Pool.al 12 rfl rfl rfl rfl rfl rfl rfl rfl rfl rfl rfl sb fun r10 => ?_; refine pool_take rfl rfl rfl fun rf11 => ?_
  refine Pool.st 0 13 rfl rfl rfl rfl rfl rfl rfl rfl rfl rfl rfl rfl rfl rfl rfl rfl rfl rfl sb ?_; refine Pool.st 1 14 rfl rfl rfl rfl rfl rfl rfl rfl rfl rfl rfl rfl rfl rfl rfl rfl rfl rfl sb ?_; refine pool_done rfl rfl ?_; refine At.regionEnd (At.seq ?_); refine At.drawJ hmix [] rfl ?_; refine Pool.v 0 rfl rfl rfl rfl rfl rfl rfl trivial ?_; refine Pool.q 1 rfl rfl rfl rfl rfl (q_conv rfl rfl (by assumption)) rfl ?_; refine Pool.fa 1 2 rfl rfl rfl rfl rfl rfl rfl rfl rfl ?_
  refine Pool.ld 1 3 rfl rfl rfl rfl rfl rfl rfl rfl rfl rfl rfl ?_; refine Pool.fa 1 4 rfl rfl rfl rfl rfl rfl rfl rfl rfl ?_; refine Pool.ld 0 5 rfl rfl rfl rfl rfl rfl rfl rfl rfl rfl rfl ?_; refine Pool.v 6 rfl rfl rfl rfl rfl rfl rfl (by omega) ?_; refine Pool.v 7 rfl rfl rfl rfl rfl rfl rfl (by omega) ?_; refine Pool.v 8 rfl rfl rfl rfl rfl rfl rfl trivial ?_; refine Pool.v 9 rfl rfl rfl rfl rfl rfl rfl (by omega) ?_; refine Pool.v 10 rfl rfl rfl rfl rfl rfl rfl (by omega) ?_
  refine Pool.fa 1 11 rfl rfl rfl rfl rfl rfl rfl rfl rfl ?_; refine Pool.ld 1 12 rfl rfl rfl rfl rfl rfl rfl rfl rfl rfl rfl ?_; refine Pool.fa 1 13 rfl rfl rfl rfl rfl rfl rfl rfl rfl ?_; refine Pool.ld 0 14 rfl rfl rfl rfl rfl rfl rfl rfl rfl rfl rfl ?_; refine Pool.v 15 rfl rfl rfl rfl rfl rfl rfl (by omega) ?_; refine Pool.v 16 rfl rfl rfl rfl rfl rfl rfl trivial ?_; refine Pool.v 17 rfl rfl rfl rfl rfl rfl rfl trivial ?_; refine pool_done rfl rfl ?_
  refine At.regionEnd (At.seq (At.seq (At.region ?_))); refine At.fa 0 rfl rfl rfl rfl rfl rfl rfl ?_; refine At.ld 3 rfl rfl rfl rfl rfl rfl rfl rfl rfl ?_; refine At.ln rfl rfl rfl rfl rfl rfl rfl rfl ?_; refine At.cp rfl rfl rfl rfl rfl fun b51 h51 => ?_; refine At.v rfl rfl rfl rfl rfl trivial ?_
  cases b51
  rotate_left
  · refine At.un rfl rfl rfl rfl ?_
    refine At.un rfl rfl rfl rfl ?_; (iterate 2 refine At.v rfl rfl rfl rfl rfl trivial ?_); (iterate 10 refine At.un rfl rfl rfl rfl ?_); refine At.v rfl rfl rfl rfl rfl trivial ?_; refine At.regionEnd ?_; refine At.cond rfl ?_; refine At.seq (At.region ?_); refine At.ld 3 rfl rfl rfl rfl rfl rfl rfl rfl rfl ?_; refine At.st 2 rfl rfl rfl rfl rfl rfl rfl rfl rfl rfl rfl rfl ?_; refine At.v rfl rfl rfl rfl rfl trivial ?_; refine At.regionEnd ?_
    exact At.ret Tryz.func50 (.inr ⟨_, rfl⟩) rfl (.aggJ 2 rfl rfl rfl (.tmp rfl .nil)) (wk (hc _ _ (⟨[], .inl ⟨rfl, rfl⟩, rfl⟩)))
  have h5 : B.prof.length < 5 := by simp at h51; omega
  refine At.v rfl rfl rfl rfl rfl trivial ?_; refine At.cp rfl rfl rfl rfl rfl fun b54 h54 => ?_; (iterate 2 refine At.v rfl rfl rfl rfl rfl trivial ?_)
  cases b54
  rotate_left
  · refine At.un rfl rfl rfl rfl ?_
    (iterate 9 refine At.un rfl rfl rfl rfl ?_); refine At.v rfl rfl rfl rfl rfl trivial ?_; refine At.regionEnd ?_; refine At.cond rfl ?_; refine At.seq (At.region ?_); refine At.ld 3 rfl rfl rfl rfl rfl rfl rfl rfl rfl ?_; refine At.st 2 rfl rfl rfl rfl rfl rfl rfl rfl rfl rfl rfl rfl ?_; refine At.v rfl rfl rfl rfl rfl trivial ?_; refine At.regionEnd ?_
    exact At.ret Tryz.func50 (.inr ⟨_, rfl⟩) rfl (.aggJ 2 rfl rfl rfl (.tmp rfl .nil)) (wk (hc _ _ (⟨[], .inl ⟨rfl, rfl⟩, rfl⟩)))
  have hd2 : 2 ≤ B.prof[i + 1].2 - B.prof[i].2 := by simp at h54; omega
  rw [hmx.2.2 hd2] at r3 r4 ⊢
  clear hmx
  generalize at_.tmod (B.prof[i + 1].2 - B.prof[i].2 - 1) = n0 at r3 r4 ⊢
  have mb := mul_bd (a := B.prof[i + 1].1 - B.prof[i].1) (b := 1 + n0) (A := 60) (B := 90) (by omega) (by omega)
  refine At.fa 0 rfl rfl rfl rfl rfl rfl rfl ?_; refine At.ld 1 rfl rfl rfl rfl rfl rfl rfl rfl rfl ?_; refine At.fa 0 rfl rfl rfl rfl rfl rfl rfl ?_; refine At.ld 0 rfl rfl rfl rfl rfl rfl rfl rfl rfl ?_; refine At.v rfl rfl rfl rfl rfl (by omega) ?_; refine At.v rfl rfl rfl rfl rfl trivial ?_; refine At.v rfl rfl rfl rfl rfl (by omega) ?_; refine At.v rfl rfl rfl rfl rfl trivial ?_; refine At.v rfl rfl rfl rfl rfl (by omega) ?_; refine At.cp rfl rfl rfl rfl rfl fun b66 h66 => ?_
  refine At.v rfl rfl rfl rfl rfl trivial ?_; refine At.regionEnd ?_
  cases b66
  · have hrem : ((B.prof[i + 1].1 - B.prof[i].1) * (1 + n0)).tmod (B.prof[i + 1].2 - B.prof[i].2) = 0 := by simpa using h66
    have hmm := hm hd2 (n := 1 + n0) (by omega) hrem
    have hfar := hmm.far
    simp only at hfar
    have hrh := (hrp.slA (c := c2) (cap := pc') (l := 0) hcp (by omega)).hd (c := c2) (i + 1)
    rw [List.drop_zero] at hrh
    have hrt := hrp.slA (c := c2) (cap := pc') (l := i + 1) hcp (by omega)
    have hlt1 : (B.prof.take (i + 1)).length = i + 1 := by rw [List.length_take]; omega
    generalize hq : ((B.prof[i + 1].1 - B.prof[i].1) * (1 + n0)).tdiv (B.prof[i + 1].2 - B.prof[i].2) = qd at hmm hfar
    refine At.cond rfl ?_; refine At.skip (At.seq (At.region ?_)); refine At.ld 3 rfl rfl rfl rfl rfl rfl rfl rfl rfl ?_; refine At.al rfl rfl rfl rfl rfl fun r13 => ?_; refine At.st 0 rfl rfl rfl rfl rfl rfl rfl rfl rfl rfl rfl rfl ?_; refine At.regionEnd (At.seq (At.region ?_))
    (refine At.l rfl rfl rfl rfl (l_buildSlice rfl rfl rfl rfl rfl) ?_; rintro _ _ ⟨r70, rfl, rfl⟩)
    refine At.fa 0 rfl rfl rfl rfl rfl rfl rfl ?_; refine At.ld 5 rfl rfl rfl rfl rfl rfl rfl rfl rfl ?_; refine At.v rfl rfl rfl rfl rfl trivial ?_; refine At.v rfl rfl rfl rfl rfl (by omega) ?_; refine At.q rfl rfl rfl rfl (q_sliceH (h := (i + 1)) rfl rfl rfl (by dsimp only; omega)) ?_; refine At.appE rfl rfl rfl rfl rfl rfl rfl rfl rfl rfl rfl rfl rfl hrh.a (by rw [hlt1]) (by omega) (by omega) fun v1 sf1 hs1 => ?_
    obtain ⟨a1, cp1, rfl⟩ := hs1.slice
    refine At.back ?_
    have stopDraw := trivial
    refine At.fa 0 rfl rfl rfl rfl rfl rfl rfl ?_; refine At.st 0 rfl rfl rfl rfl rfl rfl rfl rfl rfl rfl rfl rfl ?_; refine At.regionEnd (At.seq ?_)
    clear stopDraw
    refine At.drawS hmix 5 rfl ?_; refine Pool.fa 0 0 rfl rfl rfl rfl rfl rfl rfl rfl rfl ?_; refine Pool.ld 0 1 rfl rfl rfl rfl rfl rfl rfl rfl rfl rfl rfl ?_; refine Pool.fa 0 2 rfl rfl rfl rfl rfl rfl rfl rfl rfl ?_; refine Pool.ld 1 3 rfl rfl rfl rfl rfl rfl rfl rfl rfl rfl rfl ?_; refine Pool.fa 0 4 rfl rfl rfl rfl rfl rfl rfl rfl rfl ?_; refine Pool.ld 2 5 rfl rfl rfl rfl rfl rfl rfl rfl rfl rfl rfl ?_; refine Pool.fa 0 6 rfl rfl rfl rfl rfl rfl rfl rfl rfl ?_
    refine Pool.ld 1 7 rfl rfl rfl rfl rfl rfl rfl rfl rfl rfl rfl ?_; refine Pool.v 8 rfl rfl rfl rfl rfl rfl rfl (by omega) ?_; refine Pool.v 9 rfl rfl rfl rfl rfl rfl rfl trivial ?_; refine Pool.v 10 rfl rfl rfl rfl rfl rfl rfl (by omega) ?_; refine Pool.v 11 rfl rfl rfl rfl rfl rfl rfl trivial ?_; refine Pool.v 12 rfl rfl rfl rfl rfl rfl rfl (by omega) ?_; refine Pool.v 13 rfl rfl rfl rfl rfl rfl rfl (by omega) ?_; refine Pool.fa 1 14 rfl rfl rfl rfl rfl rfl rfl rfl rfl ?_
    refine Pool.ld 1 15 rfl rfl rfl rfl rfl rfl rfl rfl rfl rfl rfl ?_; refine Pool.v 16 rfl rfl rfl rfl rfl rfl rfl trivial ?_; refine Pool.v 17 rfl rfl rfl rfl rfl rfl rfl (by omega) ?_; refine Pool.q 18 rfl rfl rfl rfl rfl (q_build rfl rfl rfl) rfl ?_; refine Pool.bs 19 rfl rfl rfl rfl rfl rfl rfl rfl rfl rfl rfl rfl rfl rfl rfl sb fun r97 => ?_; refine Pool.fa 0 21 rfl rfl rfl rfl rfl rfl rfl rfl rfl ?_
    refine Pool.push (x := ((B.prof[i].1 + ((B.prof[i + 1].1 - B.prof[i].1) * (1 + n0)).tdiv (B.prof[i + 1].2 - B.prof[i].2), B.prof[i].2 + (1 + n0)) : R2)) 20 0 6 rfl rfl rfl rfl rfl rfl rfl rfl rfl rfl rfl rfl rfl rfl rfl rfl rfl rfl rfl rfl rfl hs1 rfl rfl rfl (by repeat (first | exact Sub.refl _ | exact Sub.pre _ _ | apply Sub.cons | apply Sub.drop | apply Sub.appL | apply Sub.dropL)) (by omega) fun v2 sf2 hs2 => ?_
    obtain ⟨a2, cp2, rfl⟩ := hs2.slice
    have stopDraw := trivial
    skip
    refine Pool.flush 22 (Hq' := H) rfl rfl rfl rfl rfl rfl (by repeat (first | exact Sub.refl _ | exact Sub.pre _ _ | apply Sub.cons | apply Sub.drop | apply Sub.appL | apply Sub.dropL)) ?_; refine Pool.st 1 22 rfl rfl rfl rfl rfl rfl rfl rfl rfl rfl rfl rfl rfl rfl rfl rfl rfl rfl sb ?_; refine pool_done rfl rfl ?_; refine At.regionEnd (At.seq ?_)
    clear stopDraw
    refine At.drawS hmix 6 rfl ?_; refine Pool.fa 0 0 rfl rfl rfl rfl rfl rfl rfl rfl rfl ?_; refine Pool.ld 1 1 rfl rfl rfl rfl rfl rfl rfl rfl rfl rfl rfl ?_; refine Pool.fa 0 2 rfl rfl rfl rfl rfl rfl rfl rfl rfl ?_; refine Pool.ld 5 3 rfl rfl rfl rfl rfl rfl rfl rfl rfl rfl rfl ?_; refine Pool.v 4 rfl rfl rfl rfl rfl rfl rfl trivial ?_; refine Pool.v 5 rfl rfl rfl rfl rfl rfl rfl (by omega) ?_; refine Pool.q 6 rfl rfl rfl rfl rfl (q_sliceL (l := (i + 1)) rfl rfl rfl (by omega)) rfl ?_
    refine Pool.fa 0 8 rfl rfl rfl rfl rfl rfl rfl rfl rfl ?_
    refine Pool.one 7 rfl rfl rfl rfl rfl (loud_app (ops := _) (H₀ := [_, _, _, _, _, _] ++ H) rfl rfl rfl rfl rfl rfl rfl rfl rfl rfl rfl rfl rfl rfl (show IsSl 2 57 _ _ _ sf2 from hs2) (List.perm_append_comm_assoc sf2 [_, _, _, _, _, _] H) (hrt.a) (by rw [flat_len (c := c2), List.length_drop]) flat_one (.inl (by omega)) (by simp only [List.length_append, List.length_take, List.length_cons, List.length_nil]; omega) (by repeat (first | exact Sub.refl _ | exact Sub.pre _ _ | apply Sub.cons | apply Sub.drop | apply Sub.appL | apply Sub.dropL)) fun v3 sf3 hs3 => ?_)
    have hml : (B.prof.take (i + 1) ++ [((B.prof[i].1 + ((B.prof[i + 1].1 - B.prof[i].1) * (1 + n0)).tdiv (B.prof[i + 1].2 - B.prof[i].2), B.prof[i].2 + (1 + n0)) : R2)]).length + (B.prof.length - (i + 1)) = (partM B i (B.prof[i].1 + ((B.prof[i + 1].1 - B.prof[i].1) * (1 + n0)).tdiv (B.prof[i + 1].2 - B.prof[i].2), B.prof[i].2 + (1 + n0))).prof.length := by
      show _ = (B.prof.take (i + 1) ++ _ :: B.prof.drop (i + 1)).length
      simp only [List.length_append, List.length_cons, List.length_nil, List.length_drop]
      omega
    obtain ⟨b3, c3, rfl⟩ := hs3.some' (by omega)
    refine Pool.weakH (H' := [_, _, _, _, _, _] ++ (sf3 ++ H)) ?_ (Sub.of_perm (List.perm_append_comm_assoc [_, _, _, _, _, _] sf3 H)) (by repeat (first | exact Sub.refl _ | exact Sub.pre _ _ | apply Sub.cons | apply Sub.drop | apply Sub.appL | apply Sub.dropL))
    skip
    refine Pool.flush 9 (Hq' := H) rfl rfl rfl rfl rfl rfl (by repeat (first | exact Sub.refl _ | exact Sub.pre _ _ | apply Sub.cons | apply Sub.drop | apply Sub.appL | apply Sub.dropL)) ?_; refine Pool.st 1 9 rfl rfl rfl rfl rfl rfl rfl rfl rfl rfl rfl rfl rfl rfl rfl rfl rfl rfl sb ?_; refine pool_done rfl rfl ?_; refine At.regionEnd (At.seq (At.region ?_)); refine At.ld 1 rfl rfl rfl rfl rfl rfl rfl rfl rfl ?_; refine At.st 4 rfl rfl rfl rfl rfl rfl rfl rfl rfl rfl rfl rfl ?_
    refine At.v rfl rfl rfl rfl rfl trivial ?_; refine At.regionEnd ?_
    have hfin : Sl c2 57 (.slice (some ⟨b3, 0, none⟩) (partM B i (B.prof[i].1 + ((B.prof[i + 1].1 - B.prof[i].1) * (1 + n0)).tdiv (B.prof[i + 1].2 - B.prof[i].2), B.prof[i].2 + (1 + n0))).prof.length c3) (partM B i (B.prof[i].1 + ((B.prof[i + 1].1 - B.prof[i].1) * (1 + n0)).tdiv (B.prof[i + 1].2 - B.prof[i].2), B.prof[i].2 + (1 + n0))).prof sf3 := by
      unfold Sl
      rw [← hml]
      have e : (partM B i (B.prof[i].1 + ((B.prof[i + 1].1 - B.prof[i].1) * (1 + n0)).tdiv (B.prof[i + 1].2 - B.prof[i].2), B.prof[i].2 + (1 + n0))).prof.flatMap c2 = (B.prof.take (i + 1) ++ [((B.prof[i].1 + ((B.prof[i + 1].1 - B.prof[i].1) * (1 + n0)).tdiv (B.prof[i + 1].2 - B.prof[i].2), B.prof[i].2 + (1 + n0)) : R2)]).flatMap c2 ++ (B.prof.drop (i + 1)).flatMap c2 := by
        rw [← List.flatMap_append, List.append_assoc]
        rfl
      rw [e]
      exact hs3
    rw [hml]
    exact At.ret Tryz.func50 (.inr ⟨_, rfl⟩) rfl (.aggJ 4 rfl rfl rfl (.tmp rfl .nil)) (wk (hc _ _ (⟨sf3, .inr ⟨i, _, _, c3, hi1, h5, by rw [g1, g2, hq]; exact hmm, rfl, hfin⟩, rfl⟩)))
  · refine At.cond rfl ?_
    refine At.seq (At.region ?_); refine At.ld 3 rfl rfl rfl rfl rfl rfl rfl rfl rfl ?_; refine At.st 2 rfl rfl rfl rfl rfl rfl rfl rfl rfl rfl rfl rfl ?_; refine At.v rfl rfl rfl rfl rfl trivial ?_; refine At.regionEnd ?_
    exact At.ret Tryz.func50 (.inr ⟨_, rfl⟩) rfl (.aggJ 2 rfl rfl rfl (.tmp rfl .nil)) (wk (hc _ _ (⟨[], .inl ⟨rfl, rfl⟩, rfl⟩)))
end Go.Gx
end

section
set_option linter.unusedSimpArgs false
set_option linter.unusedVariables false
namespace Go.Gx
open Go Go.Conc Go.Proofs

set_option maxRecDepth 100000 in
set_option maxHeartbeats 4000000 in
/-- CanvasParted -/
theorem law7 {Post : Value → World → Prop} {W₀ : World} {H Hg : Facts} (hG : Glo H Hg) (hsh : ∀ f ∈ H, f.isOwn = false) {B : Bk} {A : BkA} (hBk : BkR H B A) (hcp : B.prof.length ≤ A.pc) {pc_ at_ h d n : Int} {f t : Int × R2} (hp_ : 0 ≤ pc_ ∧ pc_ ≤ 255) (ha_ : 0 ≤ at_ ∧ at_ ≤ 255) (hh : 0 ≤ h ∧ h ≤ 255) (hd : 0 ≤ d ∧ d ≤ 255) (hn : -128 ≤ n ∧ n ≤ 127) :
    LawAt (mainLg Tryz.prog Post W₀ [] []) 7 #[bkV B A, .int .u8 pc_, .int .u8 at_, .int .u8 h, .int .u8 d, .int .i8 n, .agg #[.int .i64 f.1, .int .i64 f.2.1, .int .i64 f.2.2], .agg #[.int .i64 t.1, .int .i64 t.2.1, .int .i64 t.2.2]] H (.bool true) := by
  refine LawAt.enter Tryz.func7 rfl (by simp [Tryz.f7]) fun cs hLB => ?_
  obtain ⟨pa, pc, ma, mc⟩ := A
  generalize hL : mainLg Tryz.prog Post W₀ [] [] = L at hLB ⊢
  have stop22 := trivial
  refine At.seq (At.region ?_); refine At.bx rfl rfl rfl rfl rfl rfl rfl fun r8 => ?_; refine At.bx rfl rfl rfl rfl rfl rfl rfl fun r14 => ?_; refine At.bx rfl rfl rfl rfl rfl rfl rfl fun r15 => ?_; refine At.v rfl rfl rfl rfl rfl trivial ?_; refine At.regionEnd (At.seq (At.seq (At.region ?_))); refine At.ld 2 rfl rfl rfl rfl rfl rfl rfl rfl rfl ?_; refine At.cqb rfl rfl rfl rfl rfl rfl rfl rfl (s39 L _ bs) fun b40 h40 => ?_; refine At.v rfl rfl rfl rfl rfl trivial ?_; refine At.regionEnd ?_
  cases b40
  · refine At.cond rfl ?_
    refine At.seq (At.region ?_)
    subst hL
    refine At.cq rfl rfl rfl rfl rfl rfl rfl rfl (s22 hG.a) ?_; refine At.v rfl rfl rfl rfl rfl trivial ?_; refine At.regionEnd ?_
    exact hLB Tryz.func7 (.inr ⟨_, rfl⟩) rfl (.tmp rfl .nil) (⟨by rfl, rfl⟩)
  have hf : fitM B = true := h40
  have hz : bookBar B = 0 := by simp [fitM] at hf; exact hf.2.2
  have hg : Cells H 0 0 chkC := hG.g.a hG.sub
  have hb := bounds_of_bar hz
  have hrp := hBk.p
  simp only at hrp
  have q50 := fun H_ (hB_ : BkR H_ B ⟨pa, pc, ma, mc⟩) => s50 L H_ hB_ hz hp_ ha_ hcp
  have stop50 := trivial
  refine At.cond rfl ?_; refine At.skip (At.seq (At.region ?_)); refine At.ld 2 rfl rfl rfl rfl rfl rfl rfl rfl rfl ?_; (iterate 2 refine At.v rfl rfl rfl rfl rfl trivial ?_)
  clear stop50
  refine At.cl rfl rfl rfl rfl rfl rfl rfl rfl (q50 _ hBk.a) ?_
  rintro _ _ ⟨sf, ⟨rfl, rfl⟩ | ⟨i, m, a, cap, hi1, h5, hm, rfl, hsl⟩, rfl⟩
  · refine At.v rfl rfl rfl rfl rfl trivial ?_
    (iterate 2 refine At.v rfl rfl rfl rfl rfl trivial ?_); refine At.al rfl rfl rfl rfl rfl fun r17 => ?_; refine At.st 0 rfl rfl rfl rfl rfl rfl rfl rfl rfl rfl rfl rfl ?_; refine At.v rfl rfl rfl rfl rfl trivial ?_; refine At.regionEnd (At.seq (At.seq (At.region ?_))); (iterate 2 refine At.v rfl rfl rfl rfl rfl trivial ?_); refine At.regionEnd ?_; refine At.cond rfl ?_; refine At.seq (At.region ?_)
    subst hL
    refine At.cq rfl rfl rfl rfl rfl rfl rfl rfl (s22 hG.a) ?_; refine At.v rfl rfl rfl rfl rfl trivial ?_; refine At.regionEnd ?_
    exact hLB Tryz.func7 (.inr ⟨_, rfl⟩) rfl (.tmp rfl .nil) (⟨by rfl, rfl⟩)
  rw [getD_of (B := B) (show i < B.prof.length by omega), getD_of (B := B) hi1] at hm
  have hz' := part_bar hz hi1 h5 hm
  have hpl : (partM B i m).prof.length ≤ 5 := (bounds_of_bar hz').2.1
  have pth := fun eye he => part_thing (eye := eye) hz hi1 h5 hm he f t
  have pme := fun eye s he hs => part_meet (eye := eye) (s := s) hz hi1 hm he hs
  have pst := part_states hz hi1 hm
  have pro := fun s hs => part_rows (s := s) hz hi1 hm hs
  have pmk : (partM B i m).marks = B.marks := rfl
  obtain ⟨C, hC⟩ : ∃ C, partM B i m = C := ⟨_, rfl⟩
  have eC : bkV (partM B i m) ⟨a, cap, ma, mc⟩ = bkV C ⟨a, cap, ma, mc⟩ := by rw [hC]
  simp only [hC] at hsl hz' hpl pth pme pst pro pmk
  rw [show (Value.tuple #[bkV (partM B i m) ⟨a, cap, ma, mc⟩, .bool true]) = .tuple #[bkV C ⟨a, cap, ma, mc⟩, .bool true] by rw [hC]]
  clear eC hC
  obtain ⟨sg, hsg, hrg, hshare⟩ := hsl.share
  refine hshare ?_; refine At.back ?_
  have hr1 := hrg _ _ _ rfl
  have hOB : OpS (sg ++ H) (sg ++ H) B ⟨pa, pc, ma, mc⟩ := ⟨Sub.refl _, fun f hf => (List.mem_append.1 hf).elim (hsg f) (hsh f), ⟨hg.a (Sub.append_left _ _), hBk.a (Sub.append_left _ _), by omega, by omega⟩⟩
  have hOC : OpS (sg ++ H) (sg ++ H) C ⟨a, cap, ma, mc⟩ := ⟨Sub.refl _, fun f hf => (List.mem_append.1 hf).elim (hsg f) (hsh f), ⟨hg.a (Sub.append_left _ _), ⟨hr1.more (Sub.pre _ _), by rw [pmk]; exact hBk.m.more (Sub.append_left _ _)⟩, by omega, by rw [pmk]; omega⟩⟩
  have w1 : IntKind.wrap .i64 h = h := wrap_in (by omega)
  have stop25 := trivial
  (iterate 3 refine At.v rfl rfl rfl rfl rfl trivial ?_); refine At.al rfl rfl rfl rfl rfl fun r17 => ?_; refine At.st 0 rfl rfl rfl rfl rfl rfl rfl rfl rfl rfl rfl rfl ?_; refine At.v rfl rfl rfl rfl rfl trivial ?_; refine At.regionEnd (At.seq (At.seq (At.region ?_))); (iterate 2 refine At.v rfl rfl rfl rfl rfl trivial ?_); refine At.regionEnd ?_; refine At.cond rfl ?_; refine At.skip (At.seq (At.region ?_)); refine At.v rfl rfl rfl rfl rfl trivial ?_
  refine At.q rfl rfl rfl rfl (q_conv rfl rfl rfl) ?_; refine At.v rfl rfl rfl rfl rfl (by omega) ?_; (iterate 2 refine At.v rfl rfl rfl rfl rfl trivial ?_); refine At.cq rfl rfl rfl rfl rfl rfl rfl rfl (s40 L _ bs bs) ?_; refine At.al rfl rfl rfl rfl rfl fun r20 => ?_; refine At.v rfl rfl rfl rfl rfl trivial ?_; refine At.st 0 rfl rfl rfl rfl rfl rfl rfl rfl rfl rfl rfl rfl ?_; refine At.regionEnd (At.seq (At.region ?_)); refine At.ld 4 rfl rfl rfl rfl rfl rfl rfl rfl rfl ?_
  refine At.v rfl rfl rfl rfl rfl trivial ?_; refine At.ld 0 rfl rfl rfl rfl rfl rfl rfl rfl rfl ?_
  clear stop25
  rw [w1]
  have he : EyeOk (h.tmod 91) := ⟨Int.tmod_nonneg _ hh.1, by have := Int.tmod_lt_of_pos h (show (0 : Int) < 91 by decide); omega⟩
  have hsb : slopeBar (low (n.tmod 21) (1 + d.tmod 20)).1 (low (n.tmod 21) (1 + d.tmod 20)).2 = 0 :=
    low_slope (tmod_bd n 21 (by omega)) (by have h1 := Int.tmod_nonneg 20 hd.1; have h2 := Int.tmod_lt_of_pos d (show (0 : Int) < 20 by decide); omega)
  generalize h.tmod 91 = eye at he ⊢
  generalize low (n.tmod 21) (1 + d.tmod 20) = s at hsb ⊢
  have hsl2 := slOk_of _ hsb
  have he0 : hBar eye = 0 := if_pos he
  have b2 : lookBar B [hBar eye, slopeBar s.1 s.2] = 0 := by rw [lookBar1 hz, firstBar2, hsb, he0]; rfl
  have c2_ : lookBar C [hBar eye, slopeBar s.1 s.2] = 0 := by rw [lookBar1 hz', firstBar2, hsb, he0]; rfl
  have q25 := fun H_ (hO_ : Opn H_ B ⟨pa, pc, ma, mc⟩) => s25 L H_ (eye := eye) (s := s) hO_
  have p25 := fun H_ (hO_ : Opn H_ C ⟨a, cap, ma, mc⟩) => s25 L H_ (eye := eye) (s := s) hO_
  have q51 := fun H_ (hO_ : Opn H_ B ⟨pa, pc, ma, mc⟩) => s51 L H_ hO_
  have p51 := fun H_ (hO_ : Opn H_ C ⟨a, cap, ma, mc⟩) => s51 L H_ hO_
  have q32 := fun H_ (hO_ : Opn H_ B ⟨pa, pc, ma, mc⟩) => s32 L H_ (eye := eye) (f := f) (t := t) hO_
  have p32 := fun H_ (hO_ : Opn H_ C ⟨a, cap, ma, mc⟩) => s32 L H_ (eye := eye) (f := f) (t := t) hO_
  have q52 := fun H_ (hO_ : OpS H_ (sg ++ H) B ⟨pa, pc, ma, mc⟩) => s52 (Post := Post) (W₀ := W₀) (s := s) hO_
  have p52 := fun H_ (hO_ : OpS H_ (sg ++ H) C ⟨a, cap, ma, mc⟩) => s52 (Post := Post) (W₀ := W₀) (s := s) hO_
  have ekb : knownBar C [slopeBar s.1 s.2] = knownBar B [slopeBar s.1 s.2] := by
    unfold knownBar
    rw [lookBar1 hz, lookBar1 hz', pst]
  have erm : rowsM C s = rowsM B s := by unfold rowsM; rw [pro s hsl2]
  rw [pme eye s he hsl2] at p25
  rw [pth eye he] at p32
  rw [ekb, erm, pst, pro s hsl2] at p52
  simp only [b2, c2_, hz, hz', pst, ne_eq, not_true_eq_false, if_false] at q25 p25 q51 p51
  simp only [hL] at q52 p52
  have l1 := statesM_len hz
  have l2 : (if knownBar B [slopeBar s.1 s.2] ≠ 0 then [] else rowsM B s).length ≤ 100000 := rws_len (B := B) (s := s) (rs := [slopeBar s.1 s.2])
  have l3 := thing_len (B := B) (eye := eye) (f := f) (t := t)
  generalize meetM B.prof eye s = ms at q25 p25
  generalize thingM B eye f t = th at q32 p32 l3
  generalize (if knownBar B [slopeBar s.1 s.2] ≠ 0 then [] else rowsM B s) = v5 at q52 p52 l2
  generalize (if knownBar B [slopeBar s.1 s.2] ≠ 0 then 0 else wordM (statesM B).length (((rowsOf B s).count (-1) : Nat) : Int)) = v6 at q52 p52
  generalize knownBar B [slopeBar s.1 s.2] = v7 at q52 p52
  generalize statesM B = v1 at q51 p51 l1
  refine At.cq rfl rfl rfl rfl rfl rfl rfl rfl (q25 _ hOB.o.a) ?_
  have stop25 := trivial
  (iterate 5 refine At.v rfl rfl rfl rfl rfl trivial ?_); refine At.al rfl rfl rfl rfl rfl fun r21 => ?_; refine At.al rfl rfl rfl rfl rfl fun r22 => ?_; refine At.st 1 rfl rfl rfl rfl rfl rfl rfl rfl rfl rfl rfl rfl ?_; refine At.st 0 rfl rfl rfl rfl rfl rfl rfl rfl rfl rfl rfl rfl ?_; (iterate 2 refine At.v rfl rfl rfl rfl rfl trivial ?_); refine At.regionEnd (At.seq (At.region ?_)); refine At.ld 3 rfl rfl rfl rfl rfl rfl rfl rfl rfl ?_; refine At.v rfl rfl rfl rfl rfl trivial ?_
  refine At.ld 2 rfl rfl rfl rfl rfl rfl rfl rfl rfl ?_
  clear stop25
  refine At.cq rfl rfl rfl rfl rfl rfl rfl rfl (p25 _ hOC.o.a) ?_
  have stop51 := trivial
  (iterate 5 refine At.v rfl rfl rfl rfl rfl trivial ?_); refine At.al rfl rfl rfl rfl rfl fun r25 => ?_; refine At.al rfl rfl rfl rfl rfl fun r26 => ?_; refine At.st 1 rfl rfl rfl rfl rfl rfl rfl rfl rfl rfl rfl rfl ?_; refine At.st 0 rfl rfl rfl rfl rfl rfl rfl rfl rfl rfl rfl rfl ?_; (iterate 2 refine At.v rfl rfl rfl rfl rfl trivial ?_); refine At.regionEnd (At.seq (At.region ?_)); refine At.ld 8 rfl rfl rfl rfl rfl rfl rfl rfl rfl ?_
  refine At.cl rfl rfl rfl rfl rfl rfl rfl rfl (q51 _ hOB.o.a) ?_
  rintro _ _ ⟨sf1, ⟨a1, cap1, rfl, hsl1⟩, rfl⟩
  refine At.back ?_; (iterate 5 refine At.v rfl rfl rfl rfl rfl trivial ?_); refine At.regionEnd (At.seq (At.region ?_)); refine At.ld 5 rfl rfl rfl rfl rfl rfl rfl rfl rfl ?_
  clear stop51
  refine At.cl rfl rfl rfl rfl rfl rfl rfl rfl (p51 _ hOC.o.a) ?_
  rintro _ _ ⟨sf2, ⟨a2, cap2, rfl, hsl22⟩, rfl⟩
  refine At.back ?_
  have stop32 := trivial
  (iterate 5 refine At.v rfl rfl rfl rfl rfl trivial ?_); refine At.regionEnd (At.seq (At.region ?_)); refine At.ld 8 rfl rfl rfl rfl rfl rfl rfl rfl rfl ?_; refine At.v rfl rfl rfl rfl rfl trivial ?_; refine At.ld 7 rfl rfl rfl rfl rfl rfl rfl rfl rfl ?_; refine At.ld 6 rfl rfl rfl rfl rfl rfl rfl rfl rfl ?_; refine At.cl rfl rfl rfl rfl rfl rfl rfl rfl (q32 _ hOB.o.a) ?_
  rintro _ _ ⟨sf3, ⟨a3, cap3, rfl, hsl3⟩, rfl⟩
  refine At.back ?_; (iterate 5 refine At.v rfl rfl rfl rfl rfl trivial ?_); refine At.regionEnd (At.seq (At.region ?_)); refine At.ld 5 rfl rfl rfl rfl rfl rfl rfl rfl rfl ?_; refine At.v rfl rfl rfl rfl rfl trivial ?_; refine At.ld 7 rfl rfl rfl rfl rfl rfl rfl rfl rfl ?_; refine At.ld 6 rfl rfl rfl rfl rfl rfl rfl rfl rfl ?_
  clear stop32
  refine At.cl rfl rfl rfl rfl rfl rfl rfl rfl (p32 _ hOC.o.a) ?_
  rintro _ _ ⟨sf4, ⟨a4, cap4, rfl, hsl4⟩, rfl⟩
  refine At.back ?_
  obtain ⟨_, r1, _⟩ := hsl1.rd
  obtain ⟨_, r2, _⟩ := hsl22.rd
  obtain ⟨_, r3, _⟩ := hsl3.rd
  obtain ⟨_, r4, _⟩ := hsl4.rd
  have q31 := fun H_ (g1_ : Rd H_ a1 (v1.flatMap c1)) (g2_ : Rd H_ a2 (v1.flatMap c1)) => s31 L H_ (a := a1) (a' := a2) (n := v1.length) (n' := v1.length) (cap := cap1) (cap' := cap2) (xs := v1) (ys := v1) rfl rfl g1_ g2_ (by omega)
  rw [show decide (v1 = v1) = true by simp] at q31
  have q38 := fun H_ (g1_ : Rd H_ a3 (th.1.flatMap c2)) (g2_ : Rd H_ a4 (th.1.flatMap c2)) => s38 L H_ (a := a3) (a' := a4) (n := th.1.length) (n' := th.1.length) (cap := cap3) (cap' := cap4) (xs := th.1) (ys := th.1) rfl rfl g1_ g2_ l3
  rw [show decide (th.1 = th.1) = true by simp] at q38
  have stop31 := trivial
  (iterate 5 refine At.v rfl rfl rfl rfl rfl trivial ?_); refine At.regionEnd (At.seq (At.seq (At.region ?_))); refine At.v rfl rfl rfl rfl rfl trivial ?_; refine At.cp rfl rfl rfl rfl rfl fun b104 h104 => ?_; refine At.v rfl rfl rfl rfl rfl trivial ?_
  obtain rfl : b104 = false := h104.symm.trans (by kernel_rfl)
  refine At.v rfl rfl rfl rfl rfl trivial ?_; refine At.cp rfl rfl rfl rfl rfl fun b107 h107 => ?_; (iterate 2 refine At.v rfl rfl rfl rfl rfl trivial ?_)
  obtain rfl : b107 = false := h107.symm.trans (by kernel_rfl)
  refine At.v rfl rfl rfl rfl rfl trivial ?_; refine At.cp rfl rfl rfl rfl rfl fun b111 h111 => ?_; (iterate 2 refine At.v rfl rfl rfl rfl rfl trivial ?_)
  obtain rfl : b111 = false := h111.symm.trans (by kernel_rfl)
  refine At.v rfl rfl rfl rfl rfl trivial ?_; refine At.cp rfl rfl rfl rfl rfl fun b115 h115 => ?_; (iterate 2 refine At.v rfl rfl rfl rfl rfl trivial ?_)
  obtain rfl : b115 = false := h115.symm.trans (by kernel_rfl)
  refine At.ld 3 rfl rfl rfl rfl rfl rfl rfl rfl rfl ?_; refine At.ld 1 rfl rfl rfl rfl rfl rfl rfl rfl rfl ?_; refine At.qb rfl rfl rfl rfl (q_neqS rfl rfl rfl rfl rfl rfl rfl rfl) fun b120 h120 => ?_; (iterate 2 refine At.v rfl rfl rfl rfl rfl trivial ?_)
  obtain rfl : b120 = false := h120.symm.trans (by simp)
  refine At.ld 2 rfl rfl rfl rfl rfl rfl rfl rfl rfl ?_; refine At.ld 0 rfl rfl rfl rfl rfl rfl rfl rfl rfl ?_; refine At.qb rfl rfl rfl rfl (q_neqS rfl rfl rfl rfl rfl rfl rfl rfl) fun b125 h125 => ?_; (iterate 2 refine At.v rfl rfl rfl rfl rfl trivial ?_)
  obtain rfl : b125 = false := h125.symm.trans (by simp)
  (iterate 2 refine At.v rfl rfl rfl rfl rfl trivial ?_); refine At.qb rfl rfl rfl rfl (q_neqB rfl rfl rfl) fun b130 h130 => ?_; (iterate 2 refine At.v rfl rfl rfl rfl rfl trivial ?_)
  obtain rfl : b130 = false := h130.symm.trans (by simp)
  (iterate 2 refine At.v rfl rfl rfl rfl rfl trivial ?_); refine At.cq rfl rfl rfl rfl rfl rfl rfl rfl (q31 _ r1.a r2.a) ?_
  clear stop31
  have stop38 := trivial
  (iterate 5 refine At.v rfl rfl rfl rfl rfl trivial ?_); refine At.cp rfl rfl rfl rfl rfl fun b141 h141 => ?_; (iterate 2 refine At.v rfl rfl rfl rfl rfl trivial ?_)
  obtain rfl : b141 = false := h141.symm.trans (by simp)
  (iterate 2 refine At.v rfl rfl rfl rfl rfl trivial ?_); refine At.cq rfl rfl rfl rfl rfl rfl rfl rfl (q38 _ r3.a r4.a) ?_
  clear stop38
  have stop52 := trivial
  (iterate 2 refine At.v rfl rfl rfl rfl rfl trivial ?_); refine At.regionEnd ?_; refine At.cond rfl ?_; refine At.skip (At.seq (At.region ?_)); refine At.ld 8 rfl rfl rfl rfl rfl rfl rfl rfl rfl ?_; refine At.ld 4 rfl rfl rfl rfl rfl rfl rfl rfl rfl ?_; refine At.cl rfl rfl rfl rfl rfl rfl rfl rfl (q52 _ hOB.a) ?_
  rintro _ _ ⟨sf5, ⟨a5, cap5, rfl, hsl5⟩, rfl⟩
  refine At.back ?_; (iterate 7 refine At.v rfl rfl rfl rfl rfl trivial ?_); refine At.regionEnd (At.seq (At.region ?_)); refine At.ld 5 rfl rfl rfl rfl rfl rfl rfl rfl rfl ?_; refine At.ld 4 rfl rfl rfl rfl rfl rfl rfl rfl rfl ?_
  clear stop52
  refine At.cl rfl rfl rfl rfl rfl rfl rfl rfl (p52 _ hOC.a) ?_
  rintro _ _ ⟨sf6, ⟨a6, cap6, rfl, hsl6⟩, rfl⟩
  refine At.back ?_
  obtain ⟨_, r5, _⟩ := hsl5.rd
  obtain ⟨_, r6, _⟩ := hsl6.rd
  have p31 := fun H_ (g1_ : Rd H_ a5 (v5.flatMap c1)) (g2_ : Rd H_ a6 (v5.flatMap c1)) => s31 L H_ (a := a5) (a' := a6) (n := v5.length) (n' := v5.length) (cap := cap5) (cap' := cap6) (xs := v5) (ys := v5) rfl rfl g1_ g2_ l2
  rw [show decide (v5 = v5) = true by simp] at p31
  have stop31 := trivial
  (iterate 7 refine At.v rfl rfl rfl rfl rfl trivial ?_); refine At.regionEnd (At.seq (At.region ?_)); (iterate 2 refine At.v rfl rfl rfl rfl rfl trivial ?_); refine At.cp rfl rfl rfl rfl rfl fun b165 h165 => ?_; refine At.v rfl rfl rfl rfl rfl trivial ?_
  obtain rfl : b165 = true := h165.symm.trans (by simp)
  (iterate 2 refine At.v rfl rfl rfl rfl rfl trivial ?_); refine At.cq rfl rfl rfl rfl rfl rfl rfl rfl (p31 _ r5.a r6.a) ?_; (iterate 4 refine At.v rfl rfl rfl rfl rfl trivial ?_); refine At.cp rfl rfl rfl rfl rfl fun b174 h174 => ?_; (iterate 2 refine At.v rfl rfl rfl rfl rfl trivial ?_)
  obtain rfl : b174 = true := h174.symm.trans (by simp)
  subst hL
  refine At.cq rfl rfl rfl rfl rfl rfl rfl rfl (s22 hG.a) ?_; (iterate 2 refine At.v rfl rfl rfl rfl rfl trivial ?_); refine At.regionEnd ?_
  exact hLB Tryz.func7 (.inr ⟨_, rfl⟩) rfl (.tmp rfl .nil) (⟨by rfl, rfl⟩)
end Go.Gx
end

section
set_option linter.unusedSimpArgs false
set_option linter.unusedVariables false
namespace Go.Gx
open Go Go.Conc Go.Proofs Go.ChangeShapes Go.RowKit YtokdmiiejfmomaaGreatDoor
set_option maxRecDepth 100000
/-- A list of points has room for itself. -/
theorem cap_book {H : Type} {enc : TypeId × Value → H} {W : World} {sp : Nat → Bool} {held : Bool} {B : Bk} {A : BkA} {d : DataW H} {ps : List MemPlace} (hd : DataW.Trod enc Tryz.prog W 0 sp held 27 (bkV B A) d ps) : B.prof.length ≤ A.pc := by
  obtain ⟨fuel, hf⟩ := hd
  obtain ⟨xs, n, _, _, hl, hx, hg⟩ := DataW.trod_struct Tryz.underlying27 hf
  match xs, hx with
  | [y0, y1, y2, y3], _ =>
    have g0 : DataW.trod enc Tryz.prog W 0 sp held n 22 ((List.drop 0 (bkC B A)).take (Tryz.prog.cellsOf 22)) = some y0 := hg 0 _ rfl
    rw [show Tryz.prog.cellsOf 22 = 1 by kernel_rfl] at g0
    have g1 : DataW.trod enc Tryz.prog W 0 sp held n 22 [.slice A.pa B.prof.length A.pc] = some y0 := g0
    rcases DataW.trod_slice Tryz.underlying22 g1 with ⟨hv, _⟩ | ⟨a, len, cap, elems, rest, n, _, hcs, _, _, hle, _⟩
    · simp only [List.cons.injEq, Value.slice.injEq] at hv
      omega
    · simp only [List.cons.injEq, Value.slice.injEq] at hcs
      omega
end Go.Gx
end

section
set_option linter.unusedSimpArgs false
set_option linter.unusedVariables false
namespace Go.Gx
open Go Go.Conc Go.Proofs Go.ChangeShapes Go.RowKit YtokdmiiejfmomaaGreatDoor
set_option maxRecDepth 100000
theorem ip7 : Tryz.prog.inPlace 7 = [] := by kernel_rfl
theorem uf7 : Tryz.prog.unfollowed 7 = true := by kernel_rfl
theorem rc7 : Tryz.prog.recurses 7 = true := by kernel_rfl
theorem vn7 : Tryz.prog.varsNamed 7 = ["velarium/canvas.checks"] := by kernel_rfl
theorem closed7 : joinedFacts Tryz.prog 7 Tryz.f7 Rows.canvasPartedSpec Rows.canvasPartedRow = true := by
  unfold joinedFacts
  rewrite [ip7, uf7, rc7, vn7, enter1, lf1, make1]
  kernel_rfl
theorem fnm7 : Tryz.prog.funcNamed "velarium/velariumlaw02.CanvasParted" = some 7 := by kernel_rfl
theorem inst7 : Tryz.f7.isInstance Tryz.prog Rows.canvasPartedRow.origin Rows.canvasPartedRow.targs := of_decide_eq_true (by kernel_rfl)
theorem wrap7 : Tryz.f7.isWrapper Tryz.prog Rows.canvasPartedRow.wrapper Rows.canvasPartedRow.mainSum := by unfold Func.isWrapper; first | (rw [if_pos (by decide +kernel)]; kernel_rfl) | (rw [if_neg (by decide +kernel)]; exact ⟨rfl, rfl⟩)
theorem goes7 : Tryz.prog.goes 7 = true := by kernel_rfl
theorem wbt7 : Rows.canvasPartedRow.wfByText (OpenSpec.ofChange Rows.canvasPartedSpec) = true := by kernel_rfl
theorem wants7 : (Tryz.f7.params.toList.all fun t => !Tryz.prog.wantsStandIn t) = true := by kernel_rfl
theorem lifted7 (os : Os) (started : os.Started) (H : Type) (enc : TypeId × Value → H) :
    ReturnsInLeavingWide {} Tryz.checked os 7 .any (fun w args => (Rows.canvasPartedSpec.pre enc Tryz.prog Tryz.f7 [] false w args ∧ laidMetH Tryz.prog laid1 w) ∧ sizedMet enc Tryz.prog Tryz.f7 (OpenSpec.ofChange Rows.canvasPartedSpec) false w args) (Rows.canvasPartedSpec.post enc Tryz.prog Tryz.f7 false true false false) := by
  refine law_lift Tryz.func7 (by kernel_rfl) rfl rfl (by kernel_rfl) os started H enc #[.agg #[.slice none 0 0, .int .i64 0, .int .i64 0, .int .i64 0, .slice none 0 0], .int .u8 0, .int .u8 0, .int .u8 0, .int .u8 0, .int .i8 0, .agg #[.int .i64 0, .int .i64 0, .int .i64 0], .agg #[.int .i64 0, .int .i64 0, .int .i64 0]]
    (World.shaped_of_RefB (by kernel_rfl) (by kernel_rfl)) (by kernel_rfl) (by kernel_rfl) (by kernel_rfl) ?_
  intro W base args ds ps hval hA
  rw [Tryz.params7] at hval hA
  obtain ⟨v0, vs0, d0, ds0, p0, q0, e0, rfl, rfl, h0, hA⟩ := trodAll_cons hA
  obtain ⟨v1, vs1, d1, ds1, p1, q1, rfl, rfl, rfl, h1, hA⟩ := trodAll_cons hA
  obtain ⟨v2, vs2, d2, ds2, p2, q2, rfl, rfl, rfl, h2, hA⟩ := trodAll_cons hA
  obtain ⟨v3, vs3, d3, ds3, p3, q3, rfl, rfl, rfl, h3, hA⟩ := trodAll_cons hA
  obtain ⟨v4, vs4, d4, ds4, p4, q4, rfl, rfl, rfl, h4, hA⟩ := trodAll_cons hA
  obtain ⟨v5, vs5, d5, ds5, p5, q5, rfl, rfl, rfl, h5, hA⟩ := trodAll_cons hA
  obtain ⟨v6, vs6, d6, ds6, p6, q6, rfl, rfl, rfl, h6, hA⟩ := trodAll_cons hA
  obtain ⟨v7, vs7, d7, ds7, p7, q7, rfl, rfl, rfl, h7, hA⟩ := trodAll_cons hA
  obtain ⟨rfl, rfl, rfl⟩ := trodAll_nil hA
  obtain rfl : args = #[v0, v1, v2, v3, v4, v5, v6, v7] := Array.toList_inj.1 e0
  obtain ⟨B0, A0, Hs0, rfl, hsh0, hb0⟩ := open_book (hval 0 27 _ rfl rfl) h0
  obtain ⟨n1, rfl, rfl, rfl, w1⟩ := open_int Tryz.underlying5 (hval 1 5 _ rfl rfl) h1
  obtain ⟨n2, rfl, rfl, rfl, w2⟩ := open_int Tryz.underlying5 (hval 2 5 _ rfl rfl) h2
  obtain ⟨n3, rfl, rfl, rfl, w3⟩ := open_int Tryz.underlying5 (hval 3 5 _ rfl rfl) h3
  obtain ⟨n4, rfl, rfl, rfl, w4⟩ := open_int Tryz.underlying5 (hval 4 5 _ rfl rfl) h4
  obtain ⟨n5, rfl, rfl, rfl, w5⟩ := open_int Tryz.underlying53 (hval 5 53 _ rfl rfl) h5
  obtain ⟨x6, rfl⟩ := open_sight (hval 6 44 _ rfl rfl) h6
  obtain ⟨x7, rfl⟩ := open_sight (hval 7 44 _ rfl rfl) h7
  exact ⟨rfl, Hs0, hsh0, fun Post => law7 hsh0.glo hsh0.ro (hb0.a (Sub.append_left _ _)) (cap_book h0) (wf_u8 w1) (wf_u8 w2) (wf_u8 w3) (wf_u8 w4) (wf_i8 w5)⟩
theorem said7 : Rows.CanvasPartedSaid :=
  OpenClaim.holds_of_wide_leaving 7 Tryz.f7 rfl rfl rfl rfl rfl rfl rfl ⟨rfl, rfl, rfl, rfl, rfl⟩ rfl rfl rfl rfl rfl fnm7 Tryz.func7 closed7 inst7 wrap7
    (fun os started H enc _ => lifted7 os started H enc)
theorem card7 : Rows.CanvasPartedCardSaid :=
  ⟨Claim7.tied_new_at .later [.funcs] true (Claim7.new_of_sixth said7 (true, "2aeeda9e0b315eb022070bc88bc80a554dcd329f773ad53586088327a2b29430") false rfl ⟨rfl, rfl⟩ mi1 rfl
    (fun f fn hf hfn => by
      obtain rfl : f = 7 := Option.some.inj (hf.symm.trans fnm7)
      obtain rfl : fn = Tryz.f7 := Option.some.inj (hfn.symm.trans Tryz.func7)
      exact ⟨looks1.symm, wants_of wants7⟩)) wbt7, (fun _ h => by cases h), canvasParted_row_tie, (fun h => by cases h), goes_of fnm7 goes7⟩
end Go.Gx
namespace Go.Proofs.YtokdmiiejfmomaaGreatDoor
/-- THE CARD OF CanvasParted. -/
theorem canvasParted_card : Rows.CanvasPartedCardSaid := Go.Gx.card7
#print axioms canvasParted_card
end Go.Proofs.YtokdmiiejfmomaaGreatDoor
end
