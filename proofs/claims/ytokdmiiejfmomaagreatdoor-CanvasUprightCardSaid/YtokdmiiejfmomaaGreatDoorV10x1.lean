/-
  On an upright canvas a straight thing stays straight, nothing is hidden, and each line meets it so far as it is: CanvasUpright holds.
-/
import Derived.Test.YtokdmiiejfmomaaGreatDoorW6
import Derived.SevenTiedAt
section
set_option linter.unusedSimpArgs false
set_option linter.unusedVariables false
namespace Go.Gx
open Go Go.Conc Go.Proofs Go.ChangeShapes Go.RowKit YtokdmiiejfmomaaGreatDoor
set_option maxRecDepth 100000
theorem Shr.ro {W : World} {Hs : Facts} (h : Shr W Hs) : ∀ f ∈ ([.seg 0 0 chkC] ++ Hs : Facts), f.isOwn = false := by
  intro f hf
  rcases List.mem_append.1 hf with hf | hf
  · rw [List.mem_singleton] at hf; subst hf; rfl
  · exact (h f hf).1
section
variable {H : Type} {enc : TypeId × Value → H} {W : World} {sp : Nat → Bool} {held : Bool}

theorem threeS {n : Nat} {cs : List Value} {x : DataW H × List MemPlace} (h : DataW.trod enc Tryz.prog W 0 sp held n 44 cs = some x) : ∃ m : Int × R2, cs = [.int .i64 m.1, .int .i64 m.2.1, .int .i64 m.2.2] := by
  obtain ⟨xs, n, rfl, rfl, hl, hx, hf⟩ := DataW.trod_struct Tryz.underlying44 h
  rw [show Tryz.prog.cellsOf 44 = 3 by kernel_rfl] at hl
  match cs, hl, xs, hx with
  | [u, v, w], _, [y0, y1], _ =>
    have g0 : DataW.trod enc Tryz.prog W 0 sp held n 3 ((List.drop 0 [u, v, w]).take (Tryz.prog.cellsOf 3)) = some y0 := hf 0 _ rfl
    have g1 : DataW.trod enc Tryz.prog W 0 sp held n 29 ((List.drop 1 [u, v, w]).take (Tryz.prog.cellsOf 29)) = some y1 := hf 1 _ rfl
    rw [show Tryz.prog.cellsOf 3 = 1 by kernel_rfl] at g0
    rw [show Tryz.prog.cellsOf 29 = 2 by kernel_rfl] at g1
    obtain ⟨r, e', -⟩ := DataW.trod_int Tryz.underlying3 (x := y0) g0
    obtain ⟨a, b, e⟩ := two (x := y1) Tryz.underlying29 ⟨rfl, rfl⟩ ⟨rfl, rfl⟩ (by kernel_rfl) (by kernel_rfl) g1
    cases e
    cases e'
    exact ⟨(r, (a, b)), rfl⟩
theorem open_sight {r : Reach} {b0 : Nat} {v : Value} {d : DataW H} {ps : List MemPlace} (hval : Value.okWide Tryz.prog W r b0 44 v) (hd : DataW.Trod enc Tryz.prog W 0 sp held 44 v d ps) :
    ∃ m : Int × R2, v = .agg #[.int .i64 m.1, .int .i64 m.2.1, .int .i64 m.2.2] := by
  obtain ⟨cs, rfl, hsz⟩ := Go.WideShapes.okWide_struct Tryz.underlying44 hval
  obtain ⟨fuel, hf⟩ := hd
  obtain ⟨l⟩ := cs
  obtain ⟨m, e⟩ := threeS hf
  have e' : l = [.int .i64 m.1, .int .i64 m.2.1, .int .i64 m.2.2] := e
  subst e'
  exact ⟨m, rfl⟩
end
end Go.Gx
end

section
set_option linter.unusedSimpArgs false
set_option linter.unusedVariables false
namespace Go.Gx
open Go Go.Conc Go.Proofs

instance : BoI Tryz.prog 4 := ⟨by kernel_rfl⟩
theorem low_slope {n d : Int} (h1 : -20 ≤ n ∧ n ≤ 20) (h2 : 1 ≤ d ∧ d ≤ 20) : slopeBar (low n d).1 (low n d).2 = 0 := by
  have key : ∀ a ∈ (List.range 41), ∀ b ∈ (List.range 20), slopeBar (low ((a : Int) - 20) ((b : Int) + 1)).1 (low ((a : Int) - 20) ((b : Int) + 1)).2 = 0 := by decide +kernel
  have := key (n + 20).toNat (by rw [List.mem_range]; omega) (d - 1).toNat (by rw [List.mem_range]; omega)
  rwa [show (((n + 20).toNat : Nat) : Int) - 20 = n by omega, show (((d - 1).toNat : Nat) : Int) + 1 = d by omega] at this
end Go.Gx
end

section
set_option linter.unusedSimpArgs false
set_option linter.unusedVariables false
namespace Go.Gx
open Go Go.Conc Go.Proofs
variable {main : Bool}

/-! ### the reference's piece and point that is met, and that they are the program's -/
theorem low_one (n : Int) : low n 1 = (n, 1) := by
  have := low_mul (e := n) (d := 1) (by decide)
  rwa [Int.mul_one] at this
theorem low_neg {n d : Int} (hd : d ≠ 0) : low (-n) (-d) = low n d := by
  unfold low lowN lowD
  rw [Int.neg_gcd, Int.gcd_neg]
  by_cases h : d < 0
  · rw [if_pos h, if_pos h, if_neg (by omega), if_neg (by omega)]
  · rw [if_neg h, if_neg h, if_pos (by omega), if_pos (by omega), Int.neg_neg, Int.neg_neg]
theorem pairs_ok {ps : List R2} (hp : ∀ p ∈ ps, PtOk p) (hpw : ps.Pairwise (fun p q => p.2 < q.2)) : ∀ x ∈ ps.zip ps.tail, PtOk x.1 ∧ PtOk x.2 ∧ x.1.2 < x.2.2 := by
  rintro ⟨p, q⟩ hx
  refine ⟨hp _ (List.of_mem_zip hx).1, hp _ (List.mem_of_mem_tail (List.of_mem_zip hx).2), ?_⟩
  obtain ⟨i, hi, e⟩ := List.getElem_of_mem hx
  simp only [List.getElem_zip, List.getElem_tail, Prod.mk.injEq] at e
  obtain ⟨rfl, rfl⟩ := e
  simp at hi
  exact List.pairwise_iff_getElem.1 hpw i (i + 1) (by omega) (by omega) (by omega)
end Go.Gx
end

section
set_option linter.unusedSimpArgs false
set_option linter.unusedVariables false
namespace Go.Gx
open Go Go.Conc Go.Proofs
variable {main : Bool}

end Go.Gx
end

section
set_option linter.unusedSimpArgs false
set_option linter.unusedVariables false
namespace Go.Gx
open Go Go.Conc Go.Proofs
variable {main : Bool}

end Go.Gx
end

section
set_option linter.unusedSimpArgs false
set_option linter.unusedVariables false
namespace Go.Gx
open Go Go.Conc Go.Proofs
variable {main : Bool}

end Go.Gx
end

section
set_option linter.unusedSimpArgs false
set_option linter.unusedVariables false
namespace Go.Gx
open Go Go.Conc Go.Proofs
variable {main : Bool}

theorem lessW_irr (a : R2) : lessW a a = false := by simp [lessW]
theorem hid_none {B : Bk} {eye : Int} {p : R2} (h : meetM B.prof eye (low (p.2 - eye) p.1) = none) : hidAt B eye p = false := by
  unfold hidAt toPt
  rw [h]
  simp [lessW]
theorem hid_some {B : Bk} {eye : Int} {p : R2} {x : Spot} (h : meetM B.prof eye (low (p.2 - eye) p.1) = some x) : hidAt B eye p = lessW x.1 (low p.1 1) := by
  unfold hidAt toPt
  rw [h, low_one]
  simp only [Option.getD]
  by_cases hx : x = ((p.1, 1), p.2, 1)
  · subst hx
    simp [lessW_irr]
  · simp [hx]
end Go.Gx
end

section
/-
  LOGIC G: what a call has made is put behind the cells that one knows by their places.
-/
set_option linter.unusedSimpArgs false
set_option linter.unusedVariables false
namespace Go.Gx
open Go Go.Conc
/-- 'Y' is 'sf ++ X' with the own cells that stand first in 'X' ahead of 'sf'. -/
class Back (sf X : Facts) (Y : outParam Facts) : Prop where
  s : Sub Y (sf ++ X)
instance (priority := low) backNil {sf X : Facts} : Back sf X (sf ++ X) := ⟨Sub.refl _⟩
instance backCons {sf X Y : Facts} {r : Nat} {o : Obj} [h : Back sf X Y] : Back sf (.own r o :: X) (.own r o :: Y) :=
  ⟨(Sub.cons _ h.s).trans (Sub.of_perm List.perm_middle.symm)⟩
theorem At.back {P : Program} {main : Bool} {L : Lg P main} {f : FuncId} {ro : Option Nat} {ds : Dz} {cs : List Frame} {n : Nat} {E : Env} {k : List Item} {sf X Y : Facts} [hb : Back sf X Y] (h : At L f ro ds cs n E Y k) : At L f ro ds cs n E (sf ++ X) k :=
  h.weakH hb.s
end Go.Gx
end

section
set_option linter.unusedSimpArgs false
set_option linter.unusedVariables false
namespace Go.Gx
open Go Go.Conc Go.Proofs

end Go.Gx
end

section
set_option linter.unusedSimpArgs false
set_option linter.unusedVariables false
namespace Go.Gx
open Go Go.Conc Go.Proofs
variable {main : Bool}

end Go.Gx
end

section
set_option linter.unusedSimpArgs false
set_option linter.unusedVariables false
namespace Go.Gx
open Go Go.Conc Go.Proofs
variable {main : Bool}

theorem low_cross {n d : Int} (hd : d ≠ 0) : (low n d).1 * d = n * (low n d).2 := by
  unfold low lowN lowD
  have hg : 0 < Int.gcd n d := Int.gcd_pos_of_ne_zero_right n hd
  have h1 : ((Int.gcd n d : Nat) : Int) ∣ n := Int.gcd_dvd_left ..
  have h2 : ((Int.gcd n d : Nat) : Int) ∣ d := Int.gcd_dvd_right ..
  generalize ((Int.gcd n d : Nat) : Int) = g at *
  have hg0 : g ≠ 0 := by rintro rfl; exact hd (Int.zero_dvd.1 h2)
  obtain ⟨a, rfl⟩ := h1
  obtain ⟨b, rfl⟩ := h2
  split
  · rw [← Int.mul_neg, ← Int.mul_neg, Int.mul_tdiv_cancel_left _ hg0, Int.mul_tdiv_cancel_left _ hg0]
    simp only [Int.neg_mul, Int.mul_neg]
    rw [Int.mul_left_comm, Int.mul_assoc]
  · simp only
    rw [Int.mul_tdiv_cancel_left _ hg0, Int.mul_tdiv_cancel_left _ hg0, Int.mul_left_comm, Int.mul_assoc]
theorem low_zero {d : Int} (hd : d ≠ 0) : low 0 d = (0, 1) := by
  have := low_mul (e := 0) hd
  rwa [Int.zero_mul] at this
end Go.Gx
end

section
set_option linter.unusedSimpArgs false
set_option linter.unusedVariables false
namespace Go.Gx
open Go Go.Conc Go.Proofs

end Go.Gx
end

section
set_option linter.unusedSimpArgs false
set_option linter.unusedVariables false
namespace Go.Gx
open Go Go.Conc Go.Proofs
variable {main : Bool}

end Go.Gx
end

section
set_option linter.unusedSimpArgs false
set_option linter.unusedVariables false
namespace Go.Gx
open Go Go.Conc Go.Proofs
variable {main : Bool}

/-! ### where a line meets the canvas, and in which row -/
theorem low_den_pos {n d : Int} (hd : d ≠ 0) : 1 ≤ (low n d).2 := lowD_pos hd
theorem meet_mem {ps : List R2} {eye : Int} {s : R2} {x : Spot} (h : meetM ps eye s = some x) : ∃ p q, (p, q) ∈ ps.zip ps.tail ∧ x ∈ crossM p q eye s := by
  have hx : x ∈ piecesM ps eye s := by
    unfold meetM at h
    split at h
    · cases h
    · rename_i y l e
      cases h
      rw [e]
      exact bestM_mem _ _ _
  unfold piecesM at hx
  obtain ⟨⟨p, q⟩, hpq, hx⟩ := List.mem_flatMap.1 hx
  exact ⟨p, q, hpq, hx⟩
/-! ### the reference's sorting -/
end Go.Gx
end

section
set_option linter.unusedSimpArgs false
set_option linter.unusedVariables false
namespace Go.Gx
open Go Go.Conc Go.Proofs
variable {main : Bool}

end Go.Gx
end

section
set_option linter.unusedSimpArgs false
set_option linter.unusedVariables false
namespace Go.Gx
open Go Go.Conc Go.Proofs
variable {main : Bool}

end Go.Gx
end

section
set_option linter.unusedSimpArgs false
set_option linter.unusedVariables false
namespace Go.Gx
open Go Go.Conc Go.Proofs
variable {main : Bool}

end Go.Gx
end

section
set_option linter.unusedSimpArgs false
set_option linter.unusedVariables false
namespace Go.Gx
open Go Go.Conc Go.Proofs
variable {main : Bool}

end Go.Gx
end

section
set_option linter.unusedSimpArgs false
set_option linter.unusedVariables false
namespace Go.Gx
open Go Go.Conc Go.Proofs

end Go.Gx
end

section
/-
  LOGIC G: a growing list is shared: nobody writes it any more.
-/
set_option linter.unusedSimpArgs false
set_option linter.unusedVariables false
namespace Go.Gx
open Go Go.Conc
end Go.Gx
end

section
set_option linter.unusedSimpArgs false
set_option linter.unusedVariables false
namespace Go.Gx
open Go Go.Conc Go.Proofs
variable {main : Bool}

/-! ### a book whose marks are right for an eye -/
/-! ### the plain law of CanvasReal -/
end Go.Gx
end

section
set_option linter.unusedSimpArgs false
set_option linter.unusedVariables false
namespace Go.Gx
open Go Go.Conc Go.Proofs

end Go.Gx
end

section
set_option linter.unusedSimpArgs false
set_option linter.unusedVariables false
namespace Go.Gx
open Go Go.Conc Go.Proofs
variable {main : Bool}

/-! ### the plain law of CanvasReached -/
end Go.Gx
end

section
set_option linter.unusedSimpArgs false
set_option linter.unusedVariables false
namespace Go.Gx
open Go Go.Conc Go.Proofs

end Go.Gx
end

section
set_option linter.unusedSimpArgs false
set_option linter.unusedVariables false
namespace Go.Gx
open Go Go.Conc Go.Proofs

/-! ### the plain law of CanvasNeeded -/
end Go.Gx
end

section
set_option linter.unusedSimpArgs false
set_option linter.unusedVariables false
namespace Go.Gx
open Go Go.Conc Go.Proofs

/-! ### marks the other way round -/
end Go.Gx
end

section
set_option linter.unusedSimpArgs false
set_option linter.unusedVariables false
namespace Go.Gx
open Go Go.Conc Go.Proofs

end Go.Gx
end

section
set_option linter.unusedSimpArgs false
set_option linter.unusedVariables false
namespace Go.Gx
open Go Go.Conc Go.Proofs
variable {main : Bool}

/-! ### a book that knows more -/
end Go.Gx
end

section
set_option linter.unusedSimpArgs false
set_option linter.unusedVariables false
namespace Go.Gx
open Go Go.Conc Go.Proofs

end Go.Gx
end

section
set_option linter.unusedSimpArgs false
set_option linter.unusedVariables false
namespace Go.Gx
open Go Go.Conc Go.Proofs

/-! ### an upright canvas -/
def upM (B : Bk) : Bk := { B with prof := B.prof.map fun p => ((B.prof.headD (0, 0)).1, p.2) }
theorem head_ok {B : Bk} (hz : bookBar B = 0) : 1 ≤ (B.prof.headD (0, 0)).1 ∧ (B.prof.headD (0, 0)).1 ≤ 60 := by
  have h2 := (bounds_of_bar hz).1
  have hp := (bounds_of_bar hz).2.2.1
  cases hB : B.prof with
  | nil => rw [hB] at h2; simp at h2
  | cons p0 ps =>
    have := hp p0 (by rw [hB]; exact List.mem_cons_self ..)
    unfold PtOk at this
    simp only [List.headD_cons]
    omega
theorem pts_map {F : Int} (hF : 1 ≤ F ∧ F ≤ 60) : ∀ (l : List R2) (pr : Option Int), ptsBar pr l = 0 → ptsBar pr (l.map fun p => (F, p.2)) = 0
  | [], pr, _ => rfl
  | p :: l, pr, h => by
    rw [ptsBar_cons] at h
    rw [List.map_cons, ptsBar_cons]
    by_cases h1 : ¬ (1 ≤ p.1 ∧ p.1 ≤ 60) ∨ ¬ (0 ≤ p.2 ∧ p.2 ≤ 90)
    · rw [if_pos h1] at h
      omega
    rw [if_neg h1] at h
    have h3 : ¬ (¬ (1 ≤ ((F, p.2) : R2).1 ∧ ((F, p.2) : R2).1 ≤ 60) ∨ ¬ (0 ≤ ((F, p.2) : R2).2 ∧ ((F, p.2) : R2).2 ≤ 90)) := by simp only; omega
    rw [if_neg h3]
    cases pr with
    | none =>
      simp at h ⊢
      exact pts_map hF l _ h
    | some y =>
      by_cases hy : p.2 ≤ y
      · simp [hy] at h
      · simp [hy] at h ⊢
        exact pts_map hF l _ h
theorem up_bar {B : Bk} (hz : bookBar B = 0) : bookBar (upM B) = 0 := by
  have hp : profBar B.prof = 0 := by
    unfold bookBar at hz
    split at hz
    · assumption
    · rename_i h1; simpa using h1
  have hr : (if sizeBar B ≠ 0 then sizeBar B else mksBar B.marks) = 0 := by
    unfold bookBar at hz
    rwa [if_neg (by simpa using hp)] at hz
  have hp' : profBar (upM B).prof = 0 := by
    unfold profBar at hp ⊢
    have e : (upM B).prof.length = B.prof.length := by simp [upM]
    rw [e]
    split at hp
    · cases hp
    · rename_i h1
      rw [if_neg h1]
      exact pts_map (head_ok hz) _ _ hp
  unfold bookBar
  rw [if_neg (by simpa using hp')]
  exact hr
/-- Where a line meets an upright piece. -/
theorem cross_up {F a b eye : Int} {s : R2} (hab : a < b) (hs : s.2 ≠ 0) : ∀ x ∈ crossM (F, a) (F, b) eye s, x = ((F, 1), low (eye * s.2 + F * s.1) s.2) := by
  intro x hx
  unfold crossM at hx
  rw [if_neg (by rintro h; cases h; omega)] at hx
  have e1 : offL (F, a) eye s - offL (F, b) eye s = (a - b) * s.2 := by unfold offL; grind
  have hd : offL (F, a) eye s - offL (F, b) eye s ≠ 0 := by rw [e1]; exact Int.mul_ne_zero (by omega) hs
  rw [if_neg (by omega)] at hx
  split at hx
  · rw [List.mem_singleton] at hx
    subst hx
    have e2 : F * (offL (F, a) eye s - offL (F, b) eye s) + (F - F) * offL (F, a) eye s = F * (offL (F, a) eye s - offL (F, b) eye s) := by grind
    have e3 : a * (offL (F, a) eye s - offL (F, b) eye s) + (b - a) * offL (F, a) eye s = (eye * s.2 + F * s.1) * (a - b) := by unfold offL; grind
    simp only
    rw [e2, low_mul hd, e3, e1, show (a - b) * s.2 = -(s.2 * (b - a)) by grind, show (eye * s.2 + F * s.1) * (a - b) = -((eye * s.2 + F * s.1) * (b - a)) by grind, low_neg (Int.mul_ne_zero hs (by omega)), low_scale (by omega)]
  · cases hx
theorem up_zip {B : Bk} {p q : R2} (h : (p, q) ∈ (upM B).prof.zip (upM B).prof.tail) : p.1 = (B.prof.headD (0, 0)).1 ∧ q.1 = (B.prof.headD (0, 0)).1 := by
  have h1 := (List.of_mem_zip h).1
  have h2 := List.mem_of_mem_tail (List.of_mem_zip h).2
  unfold upM at h1 h2
  simp only at h1 h2
  obtain ⟨x, _, rfl⟩ := List.mem_map.1 h1
  obtain ⟨y, _, rfl⟩ := List.mem_map.1 h2
  exact ⟨rfl, rfl⟩
theorem up_meet {B : Bk} (hz : bookBar B = 0) {eye : Int} {s : R2} (hs : s.2 ≠ 0) {x : Spot} (h : meetM (upM B).prof eye s = some x) :
    x = (((B.prof.headD (0, 0)).1, 1), low (eye * s.2 + (B.prof.headD (0, 0)).1 * s.1) s.2) := by
  obtain ⟨p, q, hpq, hx⟩ := meet_mem h
  obtain ⟨e1, e2⟩ := up_zip hpq
  have hlt := (pairs_ok (bounds_of_bar (up_bar hz)).2.2.1 (prof_pw (up_bar hz)) _ hpq).2.2
  obtain ⟨p1, p2⟩ := p
  obtain ⟨q1, q2⟩ := q
  simp only at e1 e2 hlt
  subst e1
  rw [e2] at hx
  exact cross_up hlt hs x hx
theorem up_hidden {B : Bk} (hz : bookBar B = 0) (eye : Int) : ∀ n, n ≤ B.prof.length → hiddenTo (upM B) eye n = []
  | 0, _ => rfl
  | n + 1, hn => by
    have hl : (upM B).prof.length = B.prof.length := by simp [upM]
    have hF := head_ok hz
    unfold hiddenTo
    rw [up_hidden hz eye n (by omega)]
    have hp : ((upM B).prof.getD n (0, 0)).1 = (B.prof.headD (0, 0)).1 := by
      rw [List.getD_eq_getElem?_getD, List.getElem?_eq_getElem (by omega)]
      simp [upM]
    generalize (upM B).prof.getD n (0, 0) = p at hp ⊢
    have h0 : hidAt (upM B) eye p = false := by
      cases hm : meetM (upM B).prof eye (low (p.2 - eye) p.1) with
      | none => exact hid_none hm
      | some x =>
        have hd := low_den_pos (n := p.2 - eye) (d := p.1) (by omega)
        have := up_meet hz (by omega) hm
        rw [hid_some hm, this, low_one, hp]
        exact lessW_irr _
    rw [h0]
    simp
theorem frac_eq {a b : R2} {X Q : Int} (hQ : Q ≠ 0) (ha : a.1 * Q = X * a.2) (hb : b.1 * Q = X * b.2) : a.1 * b.2 - b.1 * a.2 = 0 := by
  have h1 : a.1 * b.2 * Q = b.1 * a.2 * Q := by grind
  have := Int.eq_of_mul_eq_mul_right hQ h1
  omega
theorem minus_zero {a b : R2} {X Q : Int} (hQ : Q ≠ 0) (ha : a.1 * Q = X * a.2) (hb : b.1 * Q = X * b.2) (hd : a.2 * b.2 ≠ 0) : minusM a b = (0, 1) := by
  unfold minusM
  rw [frac_eq hQ ha hb, low_zero hd]
theorem even_alg {e1 e2 a1 a2 z1 z2 n κ X0 Xn Xk Q : Int} (hn : n ≠ 0) (hlz : a2 * z2 ≠ 0) (k0 : a1 * Q = X0 * a2) (kn : z1 * Q = Xn * z2) (hX : X0 * (n - κ) + Xn * κ = n * Xk)
    (hc : e1 * (a2 * z2 * n) = (a1 * z2 * (n - κ) + z1 * a2 * κ) * e2) : e1 * Q = Xk * e2 := by
  refine Int.eq_of_mul_eq_mul_right (Int.mul_ne_zero hlz hn) ?_
  have h1 : e1 * Q * (a2 * z2 * n) = Q * (e1 * (a2 * z2 * n)) := by grind
  have h2 : Q * ((a1 * z2 * (n - κ) + z1 * a2 * κ) * e2) = ((a1 * Q) * z2 * (n - κ) + (z1 * Q) * a2 * κ) * e2 := by grind
  have h3 : ((X0 * a2) * z2 * (n - κ) + (Xn * z2) * a2 * κ) * e2 = (X0 * (n - κ) + Xn * κ) * (a2 * z2 * e2) := by grind
  have h4 : n * Xk * (a2 * z2 * e2) = Xk * e2 * (a2 * z2 * n) := by grind
  rw [h1, hc, h2, k0, kn, h3, hX, h4]
theorem even_lin (F E f1 f2 t1 t2 n κ Q : Int) : (E * Q + F * (f1 * t2 * (n - ((0 : Nat) : Int)) + t1 * f2 * ((0 : Nat) : Int))) * (n - κ) + (E * Q + F * (f1 * t2 * (n - n) + t1 * f2 * n)) * κ = n * (E * Q + F * (f1 * t2 * (n - κ) + t1 * f2 * κ)) := by grind
theorem bendAt_up {B : Bk} (hz : bookBar B = 0) {eye : Int} {f t : Int × R2} (h : (thingM (upM B) eye f t).2 = 0) {k : Nat} (hk : k < (thingM (upM B) eye f t).1.length) :
    bendAt f (thingM (upM B) eye f t).1 k = (f.1 + k, (0, 1)) := by
  have hok := bends_ok h
  have hst := thing0 h
  have hz' := up_bar hz
  have hF := head_ok hz
  obtain ⟨q1, q2, q3, q4, q5⟩ := bend_bd hok hk rfl rfl rfl rfl
  obtain ⟨hl, ha, hzz, hm⟩ := hok
  unfold thingM at h hk hl ha hzz hm q1 q2 q3 q4 q5 ⊢
  by_cases hr : lookBar (upM B) [hBar eye, sightsBar f t] = 0
  · rw [if_neg (by simpa using hr)] at h hk hl ha hzz hm q1 q2 q3 q4 q5 ⊢
    obtain ⟨_, he, hs⟩ := look20 hr
    obtain ⟨hf, ht, hlt, hsf, hstt⟩ := sights0 hs
    generalize hth : thingTo (upM B) eye f t ((t.1 - f.1).toNat + 1) = o at h hk hl ha hzz hm q1 q2 q3 q4 q5 ⊢
    cases o with
    | none => simp at h
    | some l =>
      simp only at hk hl ha hzz hm q1 q2 q3 q4 q5 ⊢
      have hlen := thingTo_len hth
      have hget := thingTo_get hth
      have hn : ((l.length - 1 : Nat) : Int) = t.1 - f.1 := by omega
      have f2 : 1 ≤ f.2.2 := by unfold SightOk at hf; omega
      have t2 : 1 ≤ t.2.2 := by unfold SightOk at ht; omega
      have hn1 : t.1 - f.1 ≠ 0 := by omega
      have hQ : f.2.2 * t.2.2 * (t.1 - f.1) ≠ 0 := Int.mul_ne_zero (Int.mul_ne_zero (by omega) (by omega)) hn1
      have key : ∀ j, j < l.length → (l.getD j (0, 0)).1 * (f.2.2 * t.2.2 * (t.1 - f.1)) = (eye * (f.2.2 * t.2.2 * (t.1 - f.1)) + (B.prof.headD (0, 0)).1 * (f.2.1 * t.2.2 * (t.1 - f.1 - j) + t.2.1 * f.2.2 * j)) * (l.getD j (0, 0)).2 := by
        intro j hj
        obtain ⟨x, hx, hg⟩ := hget j (by omega)
        rw [List.getD_eq_getElem?_getD, hg, Option.getD_some]
        unfold thingAt at hx
        have hc1 := low_cross (n := f.2.1 * t.2.2 * (t.1 - f.1 - j) + t.2.1 * f.2.2 * j) hQ
        have hp1 := low_den_pos (n := f.2.1 * t.2.2 * (t.1 - f.1 - j) + t.2.1 * f.2.2 * j) hQ
        have ee : evenlyM f.2 t.2 j (t.1 - f.1) = low (f.2.1 * t.2.2 * (t.1 - f.1 - j) + t.2.1 * f.2.2 * j) (f.2.2 * t.2.2 * (t.1 - f.1)) := rfl
        rw [← ee] at hc1 hp1
        generalize evenlyM f.2 t.2 j (t.1 - f.1) = e at hx hc1 hp1
        have hx2 := up_meet hz (by omega) hx
        rw [hx2]
        simp only
        have he2 : e.2 ≠ 0 := by omega
        have hc2 := low_cross (n := eye * e.2 + (B.prof.headD (0, 0)).1 * e.1) he2
        generalize low (eye * e.2 + (B.prof.headD (0, 0)).1 * e.1) e.2 = y at hc2 ⊢
        generalize f.2.2 * t.2.2 * (t.1 - f.1) = Q at hc1 ⊢
        generalize f.2.1 * t.2.2 * (t.1 - f.1 - j) + t.2.1 * f.2.2 * j = P at hc1 ⊢
        generalize (B.prof.headD (0, 0)).1 = F at hc2 ⊢
        refine Int.eq_of_mul_eq_mul_right he2 ?_
        grind
      have k0 := key 0 (by omega)
      have kn := key (l.length - 1) (by omega)
      have kk := key k hk
      rw [hn] at kn
      have hD : (l.getD 0 (0, 0)).2 * (l.getD (l.length - 1) (0, 0)).2 * (t.1 - f.1) ≠ 0 := Int.mul_ne_zero (Int.mul_ne_zero (by have := ha.d; omega) (by have := hzz.d; omega)) hn1
      have hcE := low_cross (n := (l.getD 0 (0, 0)).1 * (l.getD (l.length - 1) (0, 0)).2 * (t.1 - f.1 - k) + (l.getD (l.length - 1) (0, 0)).1 * (l.getD 0 (0, 0)).2 * k) hD
      unfold bendAt
      rw [hn] at q5 ⊢
      have eE : evenlyM (l.getD 0 (0, 0)) (l.getD (l.length - 1) (0, 0)) k (t.1 - f.1) = low ((l.getD 0 (0, 0)).1 * (l.getD (l.length - 1) (0, 0)).2 * (t.1 - f.1 - k) + (l.getD (l.length - 1) (0, 0)).1 * (l.getD 0 (0, 0)).2 * k) ((l.getD 0 (0, 0)).2 * (l.getD (l.length - 1) (0, 0)).2 * (t.1 - f.1)) := rfl
      rw [← eE] at hcE
      have hlz : (l.getD 0 (0, 0)).2 * (l.getD (l.length - 1) (0, 0)).2 ≠ 0 := Int.mul_ne_zero (by have := ha.d; omega) (by have := hzz.d; omega)
      generalize evenlyM (l.getD 0 (0, 0)) (l.getD (l.length - 1) (0, 0)) k (t.1 - f.1) = ev at hcE q5 ⊢
      generalize l.getD 0 (0, 0) = a at k0 hcE hlz
      generalize l.getD (l.length - 1) (0, 0) = z at kn hcE hlz
      generalize l.getD k (0, 0) = m at kk q5 ⊢
      have hev : ev.1 * (f.2.2 * t.2.2 * (t.1 - f.1)) = (eye * (f.2.2 * t.2.2 * (t.1 - f.1)) + (B.prof.headD (0, 0)).1 * (f.2.1 * t.2.2 * (t.1 - f.1 - k) + t.2.1 * f.2.2 * k)) * ev.2 := by
        exact even_alg hn1 hlz k0 kn (even_lin ..) hcE
      rw [minus_zero hQ kk hev q5]
  · rw [if_pos hr] at h
    exact absurd h hr
end Go.Gx
end

section
set_option linter.unusedSimpArgs false
set_option linter.unusedVariables false
namespace Go.Gx
open Go Go.Conc Go.Proofs

theorem best_same : ∀ (l : List (Int × R2)) (one : Int × R2), (∀ x ∈ l, x.2 = (0, 1)) → one.2 = (0, 1) → bestM bendLess one l = one
  | [], one, _, _ => rfl
  | x :: l, one, h, h1 => by
    show bestM bendLess (if bendLess x one = true then x else one) l = one
    have e : bendLess x one = false := by
      unfold bendLess
      rw [h1, h x (List.mem_cons_self ..)]
      exact lessW_irr _
    rw [e, if_neg (by simp)]
    exact best_same l one (fun y hy => h y (List.mem_cons_of_mem _ hy)) h1
theorem bend_up {B : Bk} (hz : bookBar B = 0) {eye : Int} {f t : Int × R2} (h : (thingM (upM B) eye f t).2 = 0) : bendM (upM B) eye f t = ((f.1, (0, 1)), 0) := by
  have hok := bends_ok h
  have hl := hok.len
  unfold bendM
  rw [if_neg (by simpa using h)]
  have e0 := bendAt_up hz h (k := 0) (by omega)
  have e1 : bendAt f (thingM (upM B) eye f t).1 0 = (f.1, (0, 1)) := by rw [e0]; simp
  rw [e1, best_same]
  · intro x hx
    have hx' := List.mem_of_mem_drop hx
    unfold bendsTo at hx'
    obtain ⟨k, hk, rfl⟩ := List.mem_map.1 hx'
    rw [bendAt_up hz h (List.mem_range.1 hk)]
  · rfl
theorem bend_up2 {B : Bk} (hz : bookBar B = 0) {eye : Int} {f t : Int × R2} : ((bendM (upM B) eye f t).2 ≠ 0 ∧ (bendM (upM B) eye f t).1 = (0, (0, 0))) ∨ bendM (upM B) eye f t = ((f.1, (0, 1)), 0) := by
  by_cases h : (thingM (upM B) eye f t).2 = 0
  · exact .inr (bend_up hz h)
  · left
    unfold bendM
    rw [if_pos h]
    exact ⟨h, rfl⟩
set_option maxRecDepth 100000 in
set_option maxHeartbeats 4000000 in
/-- CanvasUpright -/
theorem law10 {Post : Value → World → Prop} {W₀ : World} {H Hg : Facts} (hG : Glo H Hg) (hsh : ∀ f ∈ H, f.isOwn = false) {B : Bk} {A : BkA} (hBk : BkR H B A) {h d n : Int} {f t : Int × R2} (hh : 0 ≤ h ∧ h ≤ 255) (hd : 0 ≤ d ∧ d ≤ 255) (hn : -128 ≤ n ∧ n ≤ 127) :
    LawAt (mainLg Tryz.prog Post W₀ [] []) 10 #[bkV B A, .int .u8 h, .int .u8 d, .int .i8 n, .agg #[.int .i64 f.1, .int .i64 f.2.1, .int .i64 f.2.2], .agg #[.int .i64 t.1, .int .i64 t.2.1, .int .i64 t.2.2]] H (.bool true) := by
  refine LawAt.enter Tryz.func10 rfl (by simp [Tryz.f10]) fun cs hLB => ?_
  obtain ⟨pa, pc, ma, mc⟩ := A
  generalize hL : mainLg Tryz.prog Post W₀ [] [] = L at hLB ⊢
  have stop22 := trivial
  refine At.seq (At.region ?_); refine At.bx rfl rfl rfl rfl rfl rfl rfl fun r6 => ?_; refine At.bx rfl rfl rfl rfl rfl rfl rfl fun r10 => ?_; refine At.bx rfl rfl rfl rfl rfl rfl rfl fun r11 => ?_; refine At.v rfl rfl rfl rfl rfl trivial ?_; refine At.regionEnd (At.seq (At.seq (At.region ?_))); refine At.ld 2 rfl rfl rfl rfl rfl rfl rfl rfl rfl ?_; refine At.cqb rfl rfl rfl rfl rfl rfl rfl rfl (s39 L _ bs) fun b27 h27 => ?_; refine At.v rfl rfl rfl rfl rfl trivial ?_; refine At.regionEnd ?_
  cases b27
  · refine At.cond rfl ?_
    refine At.seq (At.region ?_)
    subst hL
    refine At.cq rfl rfl rfl rfl rfl rfl rfl rfl (s22 hG.a) ?_; refine At.v rfl rfl rfl rfl rfl trivial ?_; refine At.regionEnd ?_
    exact hLB Tryz.func10 (.inr ⟨_, rfl⟩) rfl (.tmp rfl .nil) (⟨by rfl, rfl⟩)
  have hf : fitM B = true := h27
  have hz : bookBar B = 0 := by simp [fitM] at hf; exact hf.2.2
  have hg : Cells H 0 0 chkC := hG.g.a hG.sub
  have hb := bounds_of_bar hz
  have hrp := hBk.p
  simp only at hrp
  have h00 : 0 < B.prof.length := by omega
  obtain ⟨b0, off0, rfl, hc0⟩ := hrp.el (List.getElem?_eq_getElem h00)
  have eF : (B.prof.headD (0, 0)).1 = B.prof[0].1 := by
    rw [List.headD_eq_head?_getD, List.head?_eq_getElem?, List.getElem?_eq_getElem h00]
    rfl
  refine At.cond rfl ?_; refine At.skip (At.seq (At.region ?_)); refine At.ld 2 rfl rfl rfl rfl rfl rfl rfl rfl rfl ?_; refine At.al rfl rfl rfl rfl rfl fun r13 => ?_; refine At.st 0 rfl rfl rfl rfl rfl rfl rfl rfl rfl rfl rfl rfl ?_; refine At.regionEnd (At.seq (At.region ?_)); refine At.fa 0 rfl rfl rfl rfl rfl rfl rfl ?_; refine At.st 0 rfl rfl rfl rfl rfl rfl rfl rfl rfl rfl rfl rfl ?_; refine At.regionEnd (At.seq (At.seq (At.region ?_))); refine At.v rfl rfl rfl rfl rfl trivial ?_
  refine At.regionEnd ?_; refine At.block ?_
  refine At.lpk (X := { x : Nat × List R2 × Option Addr × Nat × Facts // x.1 ≤ B.prof.length ∧ x.2.1 = (upM B).prof.take x.1 ∧ Sl c2 57 (.slice x.2.2.1 x.2.1.length x.2.2.2.1) x.2.1 x.2.2.2.2 }) [1, 2, 3, 6, 10, 11, 12, 13] (fun x => [(14, .int .i64 (x.1.1 : Int))]) (fun x => .own r13 (.cells #[.slice x.1.2.2.1 x.1.2.1.length x.1.2.2.2.1, .int .i64 B.size, .int .i64 B.lo, .int .i64 B.hi, .slice ma B.marks.length mc] 27 (0, 0)) :: .own r11 (.cells (List.toArray (cI3 t)) 44 (0, 0)) :: .own r10 (.cells (List.toArray (cI3 f)) 44 (0, 0)) :: .own r6 (.cells (List.toArray (bkC B ⟨some ⟨b0, off0, none⟩, pc, ma, mc⟩)) 27 (0, 0)) :: (x.1.2.2.2.2 ++ H)) (fun x => B.prof.length - x.1.1) (⟨(0, [], none, 0, []), Nat.zero_le _, by simp, Sl.nil⟩) rfl ?_ (by repeat (first | exact trivial | refine ⟨rfl, ?_⟩)) sb
  rintro ⟨⟨j, l, a, cap, sf⟩, hj, hl, hsl⟩ again
  simp only at again hj hl hsl ⊢
  have hul : (upM B).prof.length = B.prof.length := by simp [upM]
  have hll : l.length ≤ 5 := by rw [hl, List.length_take]; omega
  refine At.seq (At.seq (At.region ?_)); refine At.v rfl rfl rfl rfl rfl trivial ?_; refine At.fa 0 rfl rfl rfl rfl rfl rfl rfl ?_; refine At.ld 3 rfl rfl rfl rfl rfl rfl rfl rfl rfl ?_; refine At.ln rfl rfl rfl rfl rfl rfl rfl rfl ?_; refine At.cp rfl rfl rfl rfl rfl fun b36 h36 => ?_; refine At.regionEnd ?_
  cases b36
  · have e : j = B.prof.length := by simp at h36; omega
    subst e
    rw [List.take_of_length_le (by omega)] at hl
    subst hl
    have hz' := up_bar hz
    obtain ⟨_, hrl, _⟩ := hsl.rd
    have hB' : BkR (sf ++ H) (upM B) ⟨a, cap, ma, mc⟩ := ⟨hrl.more (Sub.pre _ _), hBk.m.more (Sub.append_left _ _)⟩
    have hb' := bounds_of_bar hz'
    have hO' : Opn (sf ++ H) (upM B) ⟨a, cap, ma, mc⟩ := ⟨hg.a (Sub.append_left _ _), hB', by omega, by omega⟩
    have w1 : IntKind.wrap .i64 h = h := wrap_in (by omega)
    have stop29 := trivial
    refine At.cond rfl ?_; refine At.exit rfl ?_; refine At.seq (At.region ?_); refine At.v rfl rfl rfl rfl rfl trivial ?_; refine At.q rfl rfl rfl rfl (q_conv rfl rfl rfl) ?_; refine At.v rfl rfl rfl rfl rfl (by omega) ?_; (iterate 2 refine At.v rfl rfl rfl rfl rfl trivial ?_); refine At.cq rfl rfl rfl rfl rfl rfl rfl rfl (s40 L _ bs bs) ?_; refine At.al rfl rfl rfl rfl rfl fun r16 => ?_; refine At.v rfl rfl rfl rfl rfl trivial ?_; refine At.st 0 rfl rfl rfl rfl rfl rfl rfl rfl rfl rfl rfl rfl ?_
    refine At.regionEnd (At.seq (At.region ?_)); refine At.ld 1 rfl rfl rfl rfl rfl rfl rfl rfl rfl ?_; refine At.v rfl rfl rfl rfl rfl trivial ?_
    clear stop29
    rw [w1]
    have he : EyeOk (h.tmod 91) := ⟨Int.tmod_nonneg _ hh.1, by have := Int.tmod_lt_of_pos h (show (0 : Int) < 91 by decide); omega⟩
    have hs : slopeBar (low (n.tmod 21) (1 + d.tmod 20)).1 (low (n.tmod 21) (1 + d.tmod 20)).2 = 0 :=
      low_slope (tmod_bd n 21 (by omega)) (by have h1 := Int.tmod_nonneg 20 hd.1; have h2 := Int.tmod_lt_of_pos d (show (0 : Int) < 20 by decide); omega)
    generalize h.tmod 91 = eye at he ⊢
    generalize low (n.tmod 21) (1 + d.tmod 20) = s at hs ⊢
    have he0 : hBar eye = 0 := if_pos he
    have b1 : lookBar (upM B) [hBar eye] = 0 := by rw [lookBar1 hz', firstBar1, he0]
    have b2 : lookBar (upM B) [hBar eye, slopeBar s.1 s.2] = 0 := by rw [lookBar1 hz', he0, hs]; rfl
    have b3 : hiddenTo (upM B) eye (upM B).prof.length = [] := up_hidden hz eye _ (by omega)
    have hs2 := slOk_of_bar hs
    have hF := head_ok hz
    rw [eF] at hF
    have hum := fun x => up_meet hz (eye := eye) (s := s) (x := x) (by omega)
    rw [eF] at hum
    have hbu := bend_up2 hz (eye := eye) (f := f) (t := t)
    have q29 := fun H_ (hO_ : Opn H_ (upM B) ⟨a, cap, ma, mc⟩) => s29 L H_ (eye := eye) hO_
    have q25 := fun H_ (hO_ : Opn H_ (upM B) ⟨a, cap, ma, mc⟩) => s25 L H_ (s := s) (eye := eye) hO_
    have q34 := fun H_ (hO_ : Opn H_ (upM B) ⟨a, cap, ma, mc⟩) => s34 L H_ (eye := eye) (f := f) (t := t) hO_
    simp only [b1, b2, b3, ne_eq, not_true_eq_false, if_false] at q29 q25
    obtain ⟨⟨⟨st, by1, by2⟩, br⟩, hbd⟩ : ∃ y, bendM (upM B) eye f t = y := ⟨_, rfl⟩
    simp only [hbd] at hbu q34
    have g1 : (eye * s.2).natAbs ≤ 90 * 20 := mul_bd (by unfold EyeOk at he; omega) (by omega)
    have g2 : (B.prof[0].1 * s.1).natAbs ≤ 60 * 20 := mul_bd (by omega) (by omega)
    refine At.cl rfl rfl rfl rfl rfl rfl rfl rfl (q29 _ hO'.a) ?_
    rintro _ _ ⟨sf1, ⟨a1, cap1, rfl, hsl1⟩, rfl⟩
    refine At.back ?_
    have stop25 := trivial
    (iterate 5 refine At.v rfl rfl rfl rfl rfl trivial ?_); refine At.regionEnd (At.seq (At.region ?_)); refine At.ld 1 rfl rfl rfl rfl rfl rfl rfl rfl rfl ?_; refine At.v rfl rfl rfl rfl rfl trivial ?_; refine At.ld 0 rfl rfl rfl rfl rfl rfl rfl rfl rfl ?_
    clear stop25
    have hx2 : meetM (upM B).prof eye s = none ∨ meetM (upM B).prof eye s = (some ((B.prof[0].1, 1), low (eye * s.2 + B.prof[0].1 * s.1) s.2) : Option Spot) := by
      cases hm : meetM (upM B).prof eye s with
      | none => exact .inl rfl
      | some x => exact .inr (by rw [hum x hm])
    clear hum
    obtain ⟨⟨F, G⟩, hFe⟩ : ∃ y, B.prof[0] = y := ⟨_, rfl⟩
    rw [hFe] at hc0 hF g2 hx2
    simp only at hc0 hF g2 hx2
    have stopDraw := trivial
    rcases hx2 with hm | hm
    · rw [hm] at q25
      simp only [Option.getD_none] at q25
      refine At.cq rfl rfl rfl rfl rfl rfl rfl rfl (q25 _ hO'.a) ?_; (iterate 5 refine At.v rfl rfl rfl rfl rfl trivial ?_); refine At.al rfl rfl rfl rfl rfl fun r19 => ?_; refine At.al rfl rfl rfl rfl rfl fun r20 => ?_; refine At.st 1 rfl rfl rfl rfl rfl rfl rfl rfl rfl rfl rfl rfl ?_; refine At.st 0 rfl rfl rfl rfl rfl rfl rfl rfl rfl rfl rfl rfl ?_; (iterate 2 refine At.v rfl rfl rfl rfl rfl trivial ?_); refine At.regionEnd (At.seq (At.seq ?_))
      clear stopDraw
      have stop34 := trivial
      refine At.drawJ hmix [] rfl ?_; refine Pool.v 0 rfl rfl rfl rfl rfl rfl rfl trivial ?_; refine Pool.cp 1 rfl rfl rfl rfl rfl rfl rfl fun b78 h78 => ?_; refine Pool.v 2 rfl rfl rfl rfl rfl rfl rfl trivial ?_
      obtain rfl : b78 = false := h78.symm.trans (by kernel_rfl)
      refine Pool.v 3 rfl rfl rfl rfl rfl rfl rfl trivial ?_; refine Pool.cp 4 rfl rfl rfl rfl rfl rfl rfl fun b81 h81 => ?_; refine Pool.v 5 rfl rfl rfl rfl rfl rfl rfl trivial ?_; refine Pool.v 6 rfl rfl rfl rfl rfl rfl rfl trivial ?_
      obtain rfl : b81 = false := h81.symm.trans (by kernel_rfl)
      refine Pool.v 7 rfl rfl rfl rfl rfl rfl rfl trivial ?_; refine Pool.ln 8 rfl rfl rfl rfl rfl rfl rfl rfl rfl rfl ?_; refine Pool.cp 9 rfl rfl rfl rfl rfl rfl rfl fun b86 h86 => ?_; refine Pool.v 10 rfl rfl rfl rfl rfl rfl rfl trivial ?_; refine Pool.v 11 rfl rfl rfl rfl rfl rfl rfl trivial ?_
      obtain rfl : b86 = false := h86.symm.trans (by kernel_rfl)
      refine Pool.v 12 rfl rfl rfl rfl rfl rfl rfl trivial ?_; refine Pool.v 13 rfl rfl rfl rfl rfl rfl rfl trivial ?_; refine Pool.un 14 rfl rfl rfl rfl rfl rfl ?_; refine Pool.un 15 rfl rfl rfl rfl rfl rfl ?_; refine Pool.un 16 rfl rfl rfl rfl rfl rfl ?_; refine Pool.un 17 rfl rfl rfl rfl rfl rfl ?_; refine Pool.un 18 rfl rfl rfl rfl rfl rfl ?_; refine Pool.un 19 rfl rfl rfl rfl rfl rfl ?_; refine Pool.un 20 rfl rfl rfl rfl rfl rfl ?_; refine Pool.un 21 rfl rfl rfl rfl rfl rfl ?_
      refine Pool.un 22 rfl rfl rfl rfl rfl rfl ?_; refine Pool.un 23 rfl rfl rfl rfl rfl rfl ?_; refine Pool.un 24 rfl rfl rfl rfl rfl rfl ?_; refine Pool.un 25 rfl rfl rfl rfl rfl rfl ?_; refine Pool.un 26 rfl rfl rfl rfl rfl rfl ?_; refine Pool.un 27 rfl rfl rfl rfl rfl rfl ?_; refine Pool.un 28 rfl rfl rfl rfl rfl rfl ?_; refine Pool.un 29 rfl rfl rfl rfl rfl rfl ?_; refine Pool.un 30 rfl rfl rfl rfl rfl rfl ?_; refine Pool.un 31 rfl rfl rfl rfl rfl rfl ?_
      refine Pool.un 32 rfl rfl rfl rfl rfl rfl ?_; refine Pool.un 33 rfl rfl rfl rfl rfl rfl ?_; refine Pool.un 34 rfl rfl rfl rfl rfl rfl ?_; refine Pool.un 35 rfl rfl rfl rfl rfl rfl ?_; refine Pool.un 36 rfl rfl rfl rfl rfl rfl ?_; refine Pool.un 37 rfl rfl rfl rfl rfl rfl ?_; refine Pool.un 38 rfl rfl rfl rfl rfl rfl ?_; refine Pool.v 39 rfl rfl rfl rfl rfl rfl rfl trivial ?_; refine Pool.v 40 rfl rfl rfl rfl rfl rfl rfl trivial ?_; refine pool_done rfl rfl ?_; refine At.regionEnd ?_
      refine At.cond rfl ?_; refine At.skip (At.seq (At.region ?_)); refine At.ld 3 rfl rfl rfl rfl rfl rfl rfl rfl rfl ?_; refine At.v rfl rfl rfl rfl rfl trivial ?_; refine At.ld 5 rfl rfl rfl rfl rfl rfl rfl rfl rfl ?_; refine At.ld 4 rfl rfl rfl rfl rfl rfl rfl rfl rfl ?_
      clear stop34
      refine At.cq rfl rfl rfl rfl rfl rfl rfl rfl (q34 _ hO'.a) ?_
      rcases hbu with ⟨hb1, hb2⟩ | hb1
      · obtain ⟨rfl, rfl, rfl⟩ := hb2
        (iterate 4 refine At.v rfl rfl rfl rfl rfl trivial ?_); refine At.al rfl rfl rfl rfl rfl fun r24 => ?_; refine At.v rfl rfl rfl rfl rfl trivial ?_; refine At.st 0 rfl rfl rfl rfl rfl rfl rfl rfl rfl rfl rfl rfl ?_; refine At.v rfl rfl rfl rfl rfl trivial ?_; refine At.regionEnd (At.seq (At.seq (At.region ?_))); refine At.v rfl rfl rfl rfl rfl trivial ?_; refine At.cp rfl rfl rfl rfl rfl fun b128 h128 => ?_; refine At.regionEnd ?_
        cases b128
        · simp at h128
          exact absurd h128 hb1
        refine At.cond rfl ?_; refine At.seq (At.region ?_); refine At.v rfl rfl rfl rfl rfl trivial ?_; refine At.cp rfl rfl rfl rfl rfl fun b130 h130 => ?_; refine At.v rfl rfl rfl rfl rfl trivial ?_
        obtain rfl : b130 = true := h130.symm.trans (by kernel_rfl)
        refine At.ld 0 rfl rfl rfl rfl rfl rfl rfl rfl rfl ?_; refine At.q rfl rfl rfl rfl (q_build rfl rfl rfl) ?_; refine At.qb rfl rfl rfl rfl (q_eqS rfl rfl rfl rfl rfl rfl rfl rfl) fun b134 h134 => ?_; (iterate 2 refine At.v rfl rfl rfl rfl rfl trivial ?_)
        obtain rfl : b134 = true := h134.symm.trans (by kernel_rfl)
        subst hL
        refine At.cq rfl rfl rfl rfl rfl rfl rfl rfl (s22 hG.a) ?_; (iterate 2 refine At.v rfl rfl rfl rfl rfl trivial ?_); refine At.regionEnd ?_
        exact hLB Tryz.func10 (.inr ⟨_, rfl⟩) rfl (.tmp rfl .nil) (⟨by rfl, rfl⟩)
      · cases hb1
        (iterate 4 refine At.v rfl rfl rfl rfl rfl trivial ?_); refine At.al rfl rfl rfl rfl rfl fun r24 => ?_; refine At.v rfl rfl rfl rfl rfl trivial ?_; refine At.st 0 rfl rfl rfl rfl rfl rfl rfl rfl rfl rfl rfl rfl ?_; refine At.v rfl rfl rfl rfl rfl trivial ?_; refine At.regionEnd (At.seq (At.seq (At.region ?_))); refine At.v rfl rfl rfl rfl rfl trivial ?_; refine At.cp rfl rfl rfl rfl rfl fun b128 h128 => ?_; refine At.regionEnd ?_
        obtain rfl : b128 = false := h128.symm.trans (by kernel_rfl)
        refine At.cond rfl ?_; refine At.skip (At.seq ?_); refine At.drawJ hmix [] rfl ?_; refine Pool.v 0 rfl rfl rfl rfl rfl rfl rfl trivial ?_; refine Pool.fa 0 1 rfl rfl rfl rfl rfl rfl rfl rfl rfl ?_; refine Pool.ld 6 2 rfl rfl rfl rfl rfl rfl rfl rfl rfl rfl rfl ?_; refine Pool.cp 3 rfl rfl rfl rfl rfl rfl rfl fun b142 h142 => ?_; refine Pool.v 4 rfl rfl rfl rfl rfl rfl rfl trivial ?_
        obtain rfl : b142 = true := h142.symm.trans (by simp)
        refine Pool.ld 0 5 rfl rfl rfl rfl rfl rfl rfl rfl rfl rfl rfl ?_; refine Pool.cq 6 rfl rfl rfl rfl rfl rfl rfl rfl rfl (fun H hs => s49 L H) ?_; refine Pool.qb 7 rfl rfl rfl rfl rfl (q_eqS rfl rfl rfl rfl rfl rfl rfl rfl) rfl fun b146 h146 => ?_; refine Pool.v 8 rfl rfl rfl rfl rfl rfl rfl trivial ?_; refine Pool.v 9 rfl rfl rfl rfl rfl rfl rfl trivial ?_
        obtain rfl : b146 = true := h146.symm.trans (by kernel_rfl)
        subst hL
        refine Pool.cq 10 rfl rfl rfl rfl rfl rfl rfl rfl rfl (fun H_ hs_ => s22 hG.a) ?_; refine Pool.v 11 rfl rfl rfl rfl rfl rfl rfl trivial ?_; refine Pool.v 12 rfl rfl rfl rfl rfl rfl rfl trivial ?_; refine pool_done rfl rfl ?_; refine At.regionEnd ?_
        exact hLB Tryz.func10 (.inr ⟨_, rfl⟩) rfl (.tmp rfl .nil) (⟨by rfl, rfl⟩)
    · rw [hm] at q25
      obtain ⟨l1, l2, hlow⟩ : ∃ l1 l2, low (eye * s.2 + F * s.1) s.2 = (l1, l2) := ⟨_, _, rfl⟩
      rw [hlow] at q25
      simp only [Option.getD_some] at q25
      have q46 : ∀ H_, Pure L 46 #[.int .i64 (eye * s.2 + F * s.1), .int .i64 s.2] H_ (.agg #[.int .i64 l1, .int .i64 l2]) := fun H_ => by
        have h46 := s46 L H_ (n := eye * s.2 + F * s.1) (d := s.2) (by omega) ⟨by omega, by omega⟩ ⟨by omega, by omega⟩
        cases hlow
        exact h46
      refine At.cq rfl rfl rfl rfl rfl rfl rfl rfl (q25 _ hO'.a) ?_; (iterate 5 refine At.v rfl rfl rfl rfl rfl trivial ?_); refine At.al rfl rfl rfl rfl rfl fun r19 => ?_; refine At.al rfl rfl rfl rfl rfl fun r20 => ?_; refine At.st 1 rfl rfl rfl rfl rfl rfl rfl rfl rfl rfl rfl rfl ?_; refine At.st 0 rfl rfl rfl rfl rfl rfl rfl rfl rfl rfl rfl rfl ?_; (iterate 2 refine At.v rfl rfl rfl rfl rfl trivial ?_); refine At.regionEnd (At.seq (At.seq ?_))
      clear stopDraw
      have stop46 := trivial
      refine At.drawJ hmix [] rfl ?_; refine Pool.v 0 rfl rfl rfl rfl rfl rfl rfl trivial ?_; refine Pool.cp 1 rfl rfl rfl rfl rfl rfl rfl fun b78 h78 => ?_; refine Pool.v 2 rfl rfl rfl rfl rfl rfl rfl trivial ?_
      obtain rfl : b78 = false := h78.symm.trans (by kernel_rfl)
      refine Pool.v 3 rfl rfl rfl rfl rfl rfl rfl trivial ?_; refine Pool.cp 4 rfl rfl rfl rfl rfl rfl rfl fun b81 h81 => ?_; refine Pool.v 5 rfl rfl rfl rfl rfl rfl rfl trivial ?_; refine Pool.v 6 rfl rfl rfl rfl rfl rfl rfl trivial ?_
      obtain rfl : b81 = false := h81.symm.trans (by kernel_rfl)
      refine Pool.v 7 rfl rfl rfl rfl rfl rfl rfl trivial ?_; refine Pool.ln 8 rfl rfl rfl rfl rfl rfl rfl rfl rfl rfl ?_; refine Pool.cp 9 rfl rfl rfl rfl rfl rfl rfl fun b86 h86 => ?_; refine Pool.v 10 rfl rfl rfl rfl rfl rfl rfl trivial ?_; refine Pool.v 11 rfl rfl rfl rfl rfl rfl rfl trivial ?_
      obtain rfl : b86 = false := h86.symm.trans (by kernel_rfl)
      refine Pool.v 12 rfl rfl rfl rfl rfl rfl rfl trivial ?_; refine Pool.v 13 rfl rfl rfl rfl rfl rfl rfl trivial ?_; refine Pool.ld 1 14 rfl rfl rfl rfl rfl rfl rfl rfl rfl rfl rfl ?_; refine Pool.fa 0 15 rfl rfl rfl rfl rfl rfl rfl rfl rfl ?_; refine Pool.ld 6 16 rfl rfl rfl rfl rfl rfl rfl rfl rfl rfl rfl ?_; refine Pool.q 17 rfl rfl rfl rfl rfl (q_ia rfl rfl rfl (by assumption)) rfl ?_; refine Pool.faE 18 rfl rfl rfl rfl rfl rfl rfl rfl ?_
      refine Pool.ldc 19 rfl rfl rfl rfl rfl rfl rfl (hc0.s 0 1 rfl) rfl rfl rfl ?_; refine Pool.cq 20 rfl rfl rfl rfl rfl rfl rfl rfl rfl (fun H hs => s49 L H) ?_; refine Pool.qb 21 rfl rfl rfl rfl rfl (q_neqS rfl rfl rfl rfl rfl rfl rfl rfl) rfl fun b98 h98 => ?_; refine Pool.v 22 rfl rfl rfl rfl rfl rfl rfl trivial ?_
      obtain rfl : b98 = false := h98.symm.trans (by simp)
      refine Pool.ld 0 23 rfl rfl rfl rfl rfl rfl rfl rfl rfl rfl rfl ?_; refine Pool.v 24 rfl rfl rfl rfl rfl rfl rfl trivial ?_; refine Pool.fa 1 25 rfl rfl rfl rfl rfl rfl rfl rfl rfl ?_; refine Pool.ld 2 26 rfl rfl rfl rfl rfl rfl rfl rfl rfl rfl rfl ?_; refine Pool.v 27 rfl rfl rfl rfl rfl rfl rfl (by omega) ?_; refine Pool.fa 0 28 rfl rfl rfl rfl rfl rfl rfl rfl rfl ?_; refine Pool.ld 1 29 rfl rfl rfl rfl rfl rfl rfl rfl rfl rfl rfl ?_; refine Pool.fa 0 30 rfl rfl rfl rfl rfl rfl rfl rfl rfl ?_
      refine Pool.ld 2 31 rfl rfl rfl rfl rfl rfl rfl rfl rfl rfl rfl ?_; refine Pool.v 32 rfl rfl rfl rfl rfl rfl rfl (by dsimp only; omega) ?_; refine Pool.v 33 rfl rfl rfl rfl rfl rfl rfl (by dsimp only; omega) ?_; refine Pool.fa 1 34 rfl rfl rfl rfl rfl rfl rfl rfl rfl ?_; refine Pool.ld 2 35 rfl rfl rfl rfl rfl rfl rfl rfl rfl rfl rfl ?_
      clear stop46
      refine Pool.cq 36 rfl rfl rfl rfl rfl rfl rfl rfl rfl (fun H_ hs_ => q46 H_) ?_
      have stop34 := trivial
      refine Pool.qb 37 rfl rfl rfl rfl rfl (q_neqS rfl rfl rfl rfl rfl rfl rfl rfl) rfl fun b114 h114 => ?_; refine Pool.v 38 rfl rfl rfl rfl rfl rfl rfl trivial ?_; refine Pool.v 39 rfl rfl rfl rfl rfl rfl rfl trivial ?_; refine Pool.v 40 rfl rfl rfl rfl rfl rfl rfl trivial ?_; refine pool_done rfl rfl ?_; refine At.regionEnd ?_
      obtain rfl : b114 = false := h114.symm.trans (by simp)
      refine At.cond rfl ?_; refine At.skip (At.seq (At.region ?_)); refine At.ld 3 rfl rfl rfl rfl rfl rfl rfl rfl rfl ?_; refine At.v rfl rfl rfl rfl rfl trivial ?_; refine At.ld 5 rfl rfl rfl rfl rfl rfl rfl rfl rfl ?_; refine At.ld 4 rfl rfl rfl rfl rfl rfl rfl rfl rfl ?_
      clear stop34
      refine At.cq rfl rfl rfl rfl rfl rfl rfl rfl (q34 _ hO'.a) ?_
      rcases hbu with ⟨hb1, hb2⟩ | hb1
      · obtain ⟨rfl, rfl, rfl⟩ := hb2
        (iterate 4 refine At.v rfl rfl rfl rfl rfl trivial ?_); refine At.al rfl rfl rfl rfl rfl fun r24 => ?_; refine At.v rfl rfl rfl rfl rfl trivial ?_; refine At.st 0 rfl rfl rfl rfl rfl rfl rfl rfl rfl rfl rfl rfl ?_; refine At.v rfl rfl rfl rfl rfl trivial ?_; refine At.regionEnd (At.seq (At.seq (At.region ?_))); refine At.v rfl rfl rfl rfl rfl trivial ?_; refine At.cp rfl rfl rfl rfl rfl fun b128 h128 => ?_; refine At.regionEnd ?_
        cases b128
        · simp at h128
          exact absurd h128 hb1
        refine At.cond rfl ?_; refine At.seq (At.region ?_); refine At.v rfl rfl rfl rfl rfl trivial ?_; refine At.cp rfl rfl rfl rfl rfl fun b130 h130 => ?_; refine At.v rfl rfl rfl rfl rfl trivial ?_
        obtain rfl : b130 = true := h130.symm.trans (by kernel_rfl)
        refine At.ld 0 rfl rfl rfl rfl rfl rfl rfl rfl rfl ?_; refine At.q rfl rfl rfl rfl (q_build rfl rfl rfl) ?_; refine At.qb rfl rfl rfl rfl (q_eqS rfl rfl rfl rfl rfl rfl rfl rfl) fun b134 h134 => ?_; (iterate 2 refine At.v rfl rfl rfl rfl rfl trivial ?_)
        obtain rfl : b134 = true := h134.symm.trans (by kernel_rfl)
        subst hL
        refine At.cq rfl rfl rfl rfl rfl rfl rfl rfl (s22 hG.a) ?_; (iterate 2 refine At.v rfl rfl rfl rfl rfl trivial ?_); refine At.regionEnd ?_
        exact hLB Tryz.func10 (.inr ⟨_, rfl⟩) rfl (.tmp rfl .nil) (⟨by rfl, rfl⟩)
      · cases hb1
        (iterate 4 refine At.v rfl rfl rfl rfl rfl trivial ?_); refine At.al rfl rfl rfl rfl rfl fun r24 => ?_; refine At.v rfl rfl rfl rfl rfl trivial ?_; refine At.st 0 rfl rfl rfl rfl rfl rfl rfl rfl rfl rfl rfl rfl ?_; refine At.v rfl rfl rfl rfl rfl trivial ?_; refine At.regionEnd (At.seq (At.seq (At.region ?_))); refine At.v rfl rfl rfl rfl rfl trivial ?_; refine At.cp rfl rfl rfl rfl rfl fun b128 h128 => ?_; refine At.regionEnd ?_
        obtain rfl : b128 = false := h128.symm.trans (by kernel_rfl)
        refine At.cond rfl ?_; refine At.skip (At.seq ?_); refine At.drawJ hmix [] rfl ?_; refine Pool.v 0 rfl rfl rfl rfl rfl rfl rfl trivial ?_; refine Pool.fa 0 1 rfl rfl rfl rfl rfl rfl rfl rfl rfl ?_; refine Pool.ld 6 2 rfl rfl rfl rfl rfl rfl rfl rfl rfl rfl rfl ?_; refine Pool.cp 3 rfl rfl rfl rfl rfl rfl rfl fun b142 h142 => ?_; refine Pool.v 4 rfl rfl rfl rfl rfl rfl rfl trivial ?_
        obtain rfl : b142 = true := h142.symm.trans (by simp)
        refine Pool.ld 0 5 rfl rfl rfl rfl rfl rfl rfl rfl rfl rfl rfl ?_; refine Pool.cq 6 rfl rfl rfl rfl rfl rfl rfl rfl rfl (fun H hs => s49 L H) ?_; refine Pool.qb 7 rfl rfl rfl rfl rfl (q_eqS rfl rfl rfl rfl rfl rfl rfl rfl) rfl fun b146 h146 => ?_; refine Pool.v 8 rfl rfl rfl rfl rfl rfl rfl trivial ?_; refine Pool.v 9 rfl rfl rfl rfl rfl rfl rfl trivial ?_
        obtain rfl : b146 = true := h146.symm.trans (by kernel_rfl)
        subst hL
        refine Pool.cq 10 rfl rfl rfl rfl rfl rfl rfl rfl rfl (fun H_ hs_ => s22 hG.a) ?_; refine Pool.v 11 rfl rfl rfl rfl rfl rfl rfl trivial ?_; refine Pool.v 12 rfl rfl rfl rfl rfl rfl rfl trivial ?_; refine pool_done rfl rfl ?_; refine At.regionEnd ?_
        exact hLB Tryz.func10 (.inr ⟨_, rfl⟩) rfl (.tmp rfl .nil) (⟨by rfl, rfl⟩)
  · have hlt : j < B.prof.length := by simp at h36; omega
    obtain ⟨b', off', e', hcj⟩ := hrp.el (List.getElem?_eq_getElem hlt)
    cases e'
    have hlj : (upM B).prof.take (j + 1) = l ++ [(B.prof[0].1, B.prof[j].2)] := by
      rw [List.take_succ_eq_append_getElem (by omega), ← hl]
      simp only [upM, List.getElem_map, eF]
    have stopDraw := trivial
    refine At.cond rfl ?_; refine At.skip (At.seq ?_); refine At.block ?_
    clear stopDraw
    refine At.drawS hmix 4 rfl ?_; refine Pool.fa 0 0 rfl rfl rfl rfl rfl rfl rfl rfl rfl ?_; refine Pool.ld 0 1 rfl rfl rfl rfl rfl rfl rfl rfl rfl rfl rfl ?_; refine Pool.fa 0 2 rfl rfl rfl rfl rfl rfl rfl rfl rfl ?_; refine Pool.ld 3 3 rfl rfl rfl rfl rfl rfl rfl rfl rfl rfl rfl ?_; refine Pool.q 4 rfl rfl rfl rfl rfl (q_ia rfl rfl rfl (by assumption)) rfl ?_; refine Pool.faE 5 rfl rfl rfl rfl rfl rfl rfl rfl ?_; refine Pool.ldc 6 rfl rfl rfl rfl rfl rfl rfl (hc0.s 0 1 rfl) rfl rfl rfl ?_
    refine Pool.fa 0 7 rfl rfl rfl rfl rfl rfl rfl rfl rfl ?_; refine Pool.ld 3 8 rfl rfl rfl rfl rfl rfl rfl rfl rfl rfl rfl ?_; refine Pool.v 9 rfl rfl rfl rfl rfl rfl rfl trivial ?_; refine Pool.q 10 rfl rfl rfl rfl rfl (q_ia rfl rfl rfl (by assumption)) rfl ?_; refine Pool.faE 11 rfl rfl rfl rfl rfl rfl rfl rfl ?_; refine Pool.ldc 12 rfl rfl rfl rfl rfl rfl rfl (hcj.s 1 1 rfl) rfl rfl rfl ?_; refine Pool.q 13 rfl rfl rfl rfl rfl (q_build rfl rfl rfl) rfl ?_
    refine Pool.bs 14 rfl rfl rfl rfl rfl rfl rfl rfl rfl rfl rfl rfl rfl rfl rfl sb fun r53 => ?_; refine Pool.fa 0 16 rfl rfl rfl rfl rfl rfl rfl rfl rfl ?_; refine Pool.push (x := ((B.prof[0].1, B.prof[j].2) : R2)) 15 0 5 rfl rfl rfl rfl rfl rfl rfl rfl rfl rfl rfl rfl rfl rfl rfl rfl rfl rfl rfl rfl rfl hsl rfl rfl rfl (by repeat (first | exact Sub.refl _ | exact Sub.pre _ _ | apply Sub.cons | apply Sub.drop | apply Sub.appL | apply Sub.dropL)) (by omega) fun v sf' hs' => ?_
    obtain ⟨a', cap', rfl⟩ := hs'.slice
    skip
    refine Pool.flush 17 (Hq' := H) rfl rfl rfl rfl rfl rfl (by repeat (first | exact Sub.refl _ | exact Sub.pre _ _ | apply Sub.cons | apply Sub.drop | apply Sub.appL | apply Sub.dropL)) ?_; refine Pool.st 1 17 rfl rfl rfl rfl rfl rfl rfl rfl rfl rfl rfl rfl rfl rfl rfl rfl rfl rfl sb ?_; refine pool_done rfl rfl ?_; refine At.regionEnd ?_; refine At.inBlock ?_; refine At.region ?_; refine At.v rfl rfl rfl rfl rfl trivial ?_; refine At.v rfl rfl rfl rfl rfl (by omega) ?_
    refine At.v rfl rfl rfl rfl rfl trivial ?_; refine At.regionEnd ?_
    refine At.tA ((again ⟨(j + 1, l ++ [(B.prof[0].1, B.prof[j].2)], a', cap', sf'), hlt, hlj.symm, hs'⟩ (by simp; omega)))
end Go.Gx
end

section
set_option linter.unusedSimpArgs false
set_option linter.unusedVariables false
namespace Go.Gx
open Go Go.Conc Go.Proofs Go.ChangeShapes Go.RowKit YtokdmiiejfmomaaGreatDoor
set_option maxRecDepth 100000
theorem ip10 : Tryz.prog.inPlace 10 = [] := by kernel_rfl
theorem uf10 : Tryz.prog.unfollowed 10 = true := by kernel_rfl
theorem rc10 : Tryz.prog.recurses 10 = true := by kernel_rfl
theorem vn10 : Tryz.prog.varsNamed 10 = ["velarium/canvas.checks"] := by kernel_rfl
theorem closed10 : joinedFacts Tryz.prog 10 Tryz.f10 Rows.canvasUprightSpec Rows.canvasUprightRow = true := by
  unfold joinedFacts
  rewrite [ip10, uf10, rc10, vn10, enter1, lf1, make1]
  kernel_rfl
theorem fnm10 : Tryz.prog.funcNamed "velarium/velariumlaw02.CanvasUpright" = some 10 := by kernel_rfl
theorem inst10 : Tryz.f10.isInstance Tryz.prog Rows.canvasUprightRow.origin Rows.canvasUprightRow.targs := of_decide_eq_true (by kernel_rfl)
theorem wrap10 : Tryz.f10.isWrapper Tryz.prog Rows.canvasUprightRow.wrapper Rows.canvasUprightRow.mainSum := by unfold Func.isWrapper; first | (rw [if_pos (by decide +kernel)]; kernel_rfl) | (rw [if_neg (by decide +kernel)]; exact ⟨rfl, rfl⟩)
theorem goes10 : Tryz.prog.goes 10 = true := by kernel_rfl
theorem wbt10 : Rows.canvasUprightRow.wfByText (OpenSpec.ofChange Rows.canvasUprightSpec) = true := by kernel_rfl
theorem wants10 : (Tryz.f10.params.toList.all fun t => !Tryz.prog.wantsStandIn t) = true := by kernel_rfl
theorem lifted10 (os : Os) (started : os.Started) (H : Type) (enc : TypeId × Value → H) :
    ReturnsInLeavingWide {} Tryz.checked os 10 .any (fun w args => (Rows.canvasUprightSpec.pre enc Tryz.prog Tryz.f10 [] false w args ∧ laidMetH Tryz.prog laid1 w) ∧ sizedMet enc Tryz.prog Tryz.f10 (OpenSpec.ofChange Rows.canvasUprightSpec) false w args) (Rows.canvasUprightSpec.post enc Tryz.prog Tryz.f10 false true false false) := by
  refine law_lift Tryz.func10 (by kernel_rfl) rfl rfl (by kernel_rfl) os started H enc #[.agg #[.slice none 0 0, .int .i64 0, .int .i64 0, .int .i64 0, .slice none 0 0], .int .u8 0, .int .u8 0, .int .i8 0, .agg #[.int .i64 0, .int .i64 0, .int .i64 0], .agg #[.int .i64 0, .int .i64 0, .int .i64 0]]
    (World.shaped_of_RefB (by kernel_rfl) (by kernel_rfl)) (by kernel_rfl) (by kernel_rfl) (by kernel_rfl) ?_
  intro W base args ds ps hval hA
  rw [Tryz.params10] at hval hA
  obtain ⟨v0, vs0, d0, ds0, p0, q0, e0, rfl, rfl, h0, hA⟩ := trodAll_cons hA
  obtain ⟨v1, vs1, d1, ds1, p1, q1, rfl, rfl, rfl, h1, hA⟩ := trodAll_cons hA
  obtain ⟨v2, vs2, d2, ds2, p2, q2, rfl, rfl, rfl, h2, hA⟩ := trodAll_cons hA
  obtain ⟨v3, vs3, d3, ds3, p3, q3, rfl, rfl, rfl, h3, hA⟩ := trodAll_cons hA
  obtain ⟨v4, vs4, d4, ds4, p4, q4, rfl, rfl, rfl, h4, hA⟩ := trodAll_cons hA
  obtain ⟨v5, vs5, d5, ds5, p5, q5, rfl, rfl, rfl, h5, hA⟩ := trodAll_cons hA
  obtain ⟨rfl, rfl, rfl⟩ := trodAll_nil hA
  obtain rfl : args = #[v0, v1, v2, v3, v4, v5] := Array.toList_inj.1 e0
  obtain ⟨B0, A0, Hs0, rfl, hsh0, hb0⟩ := open_book (hval 0 27 _ rfl rfl) h0
  obtain ⟨n1, rfl, rfl, rfl, w1⟩ := open_int Tryz.underlying5 (hval 1 5 _ rfl rfl) h1
  obtain ⟨n2, rfl, rfl, rfl, w2⟩ := open_int Tryz.underlying5 (hval 2 5 _ rfl rfl) h2
  obtain ⟨n3, rfl, rfl, rfl, w3⟩ := open_int Tryz.underlying53 (hval 3 53 _ rfl rfl) h3
  obtain ⟨x4, rfl⟩ := open_sight (hval 4 44 _ rfl rfl) h4
  obtain ⟨x5, rfl⟩ := open_sight (hval 5 44 _ rfl rfl) h5
  exact ⟨rfl, Hs0, hsh0, fun Post => law10 hsh0.glo hsh0.ro (hb0.a (Sub.append_left _ _)) (wf_u8 w1) (wf_u8 w2) (wf_i8 w3)⟩
theorem said10 : Rows.CanvasUprightSaid :=
  OpenClaim.holds_of_wide_leaving 10 Tryz.f10 rfl rfl rfl rfl rfl rfl rfl ⟨rfl, rfl, rfl, rfl, rfl⟩ rfl rfl rfl rfl rfl fnm10 Tryz.func10 closed10 inst10 wrap10
    (fun os started H enc _ => lifted10 os started H enc)
theorem card10 : Rows.CanvasUprightCardSaid :=
  ⟨Claim7.tied_new_at .later [.funcs] true (Claim7.new_of_sixth said10 (true, "2aeeda9e0b315eb022070bc88bc80a554dcd329f773ad53586088327a2b29430") false rfl ⟨rfl, rfl⟩ mi1 rfl
    (fun f fn hf hfn => by
      obtain rfl : f = 10 := Option.some.inj (hf.symm.trans fnm10)
      obtain rfl : fn = Tryz.f10 := Option.some.inj (hfn.symm.trans Tryz.func10)
      exact ⟨looks1.symm, wants_of wants10⟩)) wbt10, (fun _ h => by cases h), canvasUpright_row_tie, (fun h => by cases h), goes_of fnm10 goes10⟩
end Go.Gx
namespace Go.Proofs.YtokdmiiejfmomaaGreatDoor
/-- THE CARD OF CanvasUpright. -/
theorem canvasUpright_card : Rows.CanvasUprightCardSaid := Go.Gx.card10
#print axioms canvasUpright_card
end Go.Proofs.YtokdmiiejfmomaaGreatDoor
end
