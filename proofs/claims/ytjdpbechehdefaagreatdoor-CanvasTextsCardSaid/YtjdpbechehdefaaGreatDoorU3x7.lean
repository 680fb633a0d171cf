/-
  CanvasTexts: the logic of the walk, the contracts of the program's functions, the plain law and the card.
-/
import Derived.Test.YtjdpbechehdefaaGreatDoorU3x6
import Derived.OpenShut
import Derived.LaidSub
import Derived.MakeChecks
import Derived.Test.YtjdpbechehdefaaGreatDoorTie
import Derived.Test.YtjdpbechehdefaaGreatDoorCards
import Derived.LaidLaws
import Derived.Lay
import Derived.Test.YtjdpbechehdefaaGreatDoorRows
import Derived.Conc.LeavingOf
import Derived.SevenTiedAt
set_option linter.unusedSimpArgs false
set_option linter.unusedVariables false
section
namespace Go.Gx
open Go Go.Conc Go.Proofs
variable {main : Bool}
inductive LI
 | c (n lo hi : Int)
 | p (x : R2)
 | m (x : R2 × Int)
def ifV : LI → Value
 | .c n lo hi => .iface 104 (.agg #[.int .i64 n,.int .i64 lo,.int .i64 hi])
 | .p x => .iface 105 (.agg (List.toArray (c2 x)))
 | .m x => .iface 106 (.agg (List.toArray (c3 x)))
def kindI : LI → Int
 | .c _ _ _ => 0
 | .p _ => 1
 | .m _ => 2
def stepB (B : Bk) : LI → Bk
 | .c n lo hi => { B with size := n,lo := lo,hi := hi }
 | .p x => { B with prof := B.prof ++ [x] }
 | .m x => { B with marks := B.marks ++ [x] }
def bk0 : Bk := ⟨[],0,0,0,[]⟩
def preB (is : List LI) (j : Nat) : Bk := (is.take j).foldl stepB bk0
def lastK (is : List LI) (j : Nat) : Int := (is.take j).foldl (fun _ i => kindI i) 0
def cutE (w : List UInt8) : List UInt8 := if w.getLast? = some 10 then w.dropLast else w
instance : BoI Tryz.prog 4 := ⟨by kernel_rfl⟩
theorem preB_succ {is : List LI} {j : Nat} {it : LI} (h : is[j]? = some it) : preB is (j + 1) = stepB (preB is j) it := by
 obtain ⟨h1,h2⟩ := List.getElem?_eq_some_iff.1 h
 unfold preB
 rw [List.take_succ_eq_append_getElem h1,h2,List.foldl_append];rfl
theorem lastK_succ {is : List LI} {j : Nat} {it : LI} (h : is[j]? = some it) : lastK is (j + 1) = kindI it := by
 obtain ⟨h1,h2⟩ := List.getElem?_eq_some_iff.1 h
 unfold lastK
 rw [List.take_succ_eq_append_getElem h1,h2,List.foldl_append];rfl
theorem preB_len {is : List LI} : ∀ {j : Nat},(preB is j).prof.length ≤ j ∧ (preB is j).marks.length ≤ j
 | 0 => ⟨by simp [preB,bk0],by simp [preB,bk0]⟩
 | j + 1 => by
  have ih := preB_len (is := is) (j := j)
  cases h : is[j]? with
  | none =>
   have e : preB is (j + 1) = preB is j := by
    unfold preB
    rw [List.take_of_length_le (by rw [List.getElem?_eq_none_iff] at h;omega),List.take_of_length_le (by rw [List.getElem?_eq_none_iff] at h;omega)]
   rw [e];omega
  | some it =>
   rw [preB_succ h]
   cases it <;> simp [stepB] <;> omega
end Go.Gx
end
section
namespace Go.Gx
open Go Go.Conc Go.Proofs
variable {main : Bool}
def digs (n : Nat) : List UInt8 := if n < 10 then [(48 + n).toUInt8] else [(48 + n / 10).toUInt8,(48 + n % 10).toUInt8]
def dg36 : List UInt8 := [48,49,50,51,52,53,54,55,56,57,97,98,99,100,101,102,103,104,105,106,107,108,109,110,111,112,113,114,115,116,117,118,119,120,121,122]
def dg200 : List UInt8 := (([48,48,48,49,48,50,48,51,48,52,48,53,48,54,48,55,48,56,48,57,49,48,49,49,49,50,49,51,49,52,49,53,49,54,49,55,49,56,49,57,50,48,50,49,50,50,50,51,50,52].append [50,53,50,54,50,55,50,56,50,57,51,48,51,49,51,50,51,51,51,52,51,53,51,54,51,55,51,56,51,57,52,48,52,49,52,50,52,51,52,52,52,53,52,54,52,55,52,56,52,57]).append ([53,48,53,49,53,50,53,51,53,52,53,53,53,54,53,55,53,56,53,57,54,48,54,49,54,50,54,51,54,52,54,53,54,54,54,55,54,56,54,57,55,48,55,49,55,50,55,51,55,52].append [55,53,55,54,55,55,55,56,55,57,56,48,56,49,56,50,56,51,56,52,56,53,56,54,56,55,56,56,56,57,57,48,57,49,57,50,57,51,57,52,57,53,57,54,57,55,57,56,57,57]))
set_option maxRecDepth 100000 in
theorem dg36_at : ∀ n : _root_.Fin 10,(dg36.take (n.1 + 1)).drop n.1 = digs n.1 := by decide
set_option maxRecDepth 100000 in
theorem dg200_at : ∀ n : _root_.Fin 100,10 ≤ n.1 → (dg200.take (n.1 * 2 + 2)).drop (n.1 * 2) = digs n.1 := by decide
set_option maxRecDepth 100000 in
theorem dg200_len : dg200.length = 200 := by decide
set_option maxRecDepth 100000 in
theorem s152 (L : Lg Tryz.prog main) (H : Facts) {n : Nat} (hn : n < 100) : Pure L 152 #[.int .i64 (n : Int)] H (.string (S (digs n))) := by
 refine Spec.enter Tryz.func152 rfl (by simp [Tryz.f152]) fun c cs hc => ?_
 by_cases h10 : n < 10
 ·refine At.seq ?_
  refine At.region ?_;refine Aa Z Z Z Z Z O ?_;refine Ab (At.seq (At.seq (At.region ?_)));refine Aa Z Z Z Z Z O ?_;refine Ad Z Z Z Z Z fun b4 h4 => ?_;refine Ab ?_
  obtain rfl : b4 = true := h4.symm.trans (decide_eq_true (by omega))
  refine At.cond Z ?_;refine At.seq (At.region ?_);(iterate 2 refine Aa Z Z Z Z Z O ?_);refine Aa Z Z Z Z Z (by omega) ?_;refine Ae Z Z Z Z (q_cutLH (w := dg36) (l := n) (h := n + 1) Z Z Z Z (by omega) (by simp [dg36];omega)) ?_
  rw [dg36_at ⟨n,h10⟩]
  refine Aa Z Z Z Z Z O ?_;refine Ab ?_
  exact At.ret Tryz.func152 (.inr ⟨_,rfl⟩) rfl (.tmp rfl .nil) (wk (hc _ _ (⟨by rfl,rfl⟩)))
 ·refine At.seq ?_
  refine At.region ?_;refine Aa Z Z Z Z Z O ?_;refine Ab (At.seq (At.seq (At.region ?_)));refine Aa Z Z Z Z Z O ?_;refine Ad Z Z Z Z Z fun b4 h4 => ?_;refine Ab ?_
  obtain rfl : b4 = false := h4.symm.trans (decide_eq_false (by omega))
  refine At.cond Z ?_;refine At.skip (At.seq (At.region ?_));refine Aa Z Z Z Z Z O ?_;refine Aa Z Z Z Z Z (by omega) ?_;refine Aa Z Z Z Z Z O ?_;(iterate 2 refine Aa Z Z Z Z Z (by omega) ?_);refine Ae Z Z Z Z (q_cutLH (w := dg200) (l := n * 2) (h := n * 2 + 2) Z Z Z Z (by omega) (by rw [dg200_len];omega)) ?_
  rw [dg200_at ⟨n,hn⟩ (by simp;omega)]
  refine Aa Z Z Z Z Z O ?_;refine Ab ?_
  exact At.ret Tryz.func152 (.inr ⟨_,rfl⟩) rfl (.tmp rfl .nil) (wk (hc _ _ (⟨by rfl,rfl⟩)))
end Go.Gx
end
section
namespace Go.Gx
open Go Go.Conc Go.Proofs
variable {main : Bool}
def len8L : List UInt8 := (([0,1,2,2,3,3,3,3,4,4,4,4,4,4,4,4,5,5,5,5,5,5,5,5,5,5,5,5,5,5,5,5,6,6,6,6,6,6,6,6,6,6,6,6,6,6,6,6,6,6,6,6,6,6,6,6,6,6,6,6,6,6,6,6].append [7,7,7,7,7,7,7,7,7,7,7,7,7,7,7,7,7,7,7,7,7,7,7,7,7,7,7,7,7,7,7,7,7,7,7,7,7,7,7,7,7,7,7,7,7,7,7,7,7,7,7,7,7,7,7,7,7,7,7,7,7,7,7,7]).append ([8,8,8,8,8,8,8,8,8,8,8,8,8,8,8,8,8,8,8,8,8,8,8,8,8,8,8,8,8,8,8,8,8,8,8,8,8,8,8,8,8,8,8,8,8,8,8,8,8,8,8,8,8,8,8,8,8,8,8,8,8,8,8,8].append [8,8,8,8,8,8,8,8,8,8,8,8,8,8,8,8,8,8,8,8,8,8,8,8,8,8,8,8,8,8,8,8,8,8,8,8,8,8,8,8,8,8,8,8,8,8,8,8,8,8,8,8,8,8,8,8,8,8,8,8,8,8,8,8]))
def len8 (n : Nat) : Nat := if n = 0 then 0 else if n < 2 then 1 else if n < 4 then 2 else if n < 8 then 3 else if n < 16 then 4 else if n < 32 then 5 else if n < 64 then 6 else 7
set_option maxRecDepth 100000 in
theorem len8_at : ∀ n : _root_.Fin 100,len8L[n.1]? = some (len8 n.1).toUInt8 := by decide
set_option maxRecDepth 100000 in
theorem len8_nat : ∀ n : _root_.Fin 100,((len8 n.1).toUInt8).toNat = len8 n.1 := by decide
set_option maxRecDepth 100000 in
theorem t149 (L : Lg Tryz.prog main) (H : Facts) {n : Nat} (hn : n < 100) : Pure L 149 #[.int .u64 (n : Int)] H (.int .i64 (len8 n : Int)) := by
 refine Spec.enter Tryz.func149 rfl (by simp [Tryz.f149]) fun c cs hc => ?_;refine At.seq (At.region ?_);refine Aa Z Z Z Z Z O ?_;refine Ab (At.seq (At.seq (At.region ?_)));refine Aa Z Z Z Z Z O ?_;refine Ad Z Z Z Z Z fun b4 h4 => ?_;refine Ab ?_
 obtain rfl : b4 = false := h4.symm.trans (decide_eq_false (by omega))
 refine At.cond Z ?_;refine At.skip (At.seq (At.seq (At.region ?_)));refine Aa Z Z Z Z Z O ?_;refine Ad Z Z Z Z Z fun b8 h8 => ?_;refine Ab ?_
 obtain rfl : b8 = false := h8.symm.trans (decide_eq_false (by omega))
 refine At.cond Z ?_;refine At.skip (At.seq (At.seq (At.region ?_)));refine Aa Z Z Z Z Z O ?_;refine Ad Z Z Z Z Z fun b14 h14 => ?_;refine Ab ?_
 obtain rfl : b14 = false := h14.symm.trans (decide_eq_false (by omega))
 refine At.cond Z ?_;refine At.skip (At.seq (At.region ?_));(iterate 2 refine Aa Z Z Z Z Z O ?_);refine Ae Z Z Z Z (q_conv Z Z Z) ?_
 rw [wrap_u8 (n := (n : Int)) (by omega) (by omega)]
 refine Ae Z Z Z Z (q_at (w := len8L) (j := n) Z Z Z (len8_at ⟨n,hn⟩)) ?_
 rw [len8_nat ⟨n,hn⟩]
 have h7 : len8 n ≤ 7 := by unfold len8;(repeat' split) <;> omega
 simp only
 generalize len8 n = m at h7 hc ⊢
 have stop24 := trivial
 refine Ae Z Z Z Z (q_conv Z Z Z) ?_
 rw [wrap_in (n := (m : Int)) (by omega)]
 refine Aa Z Z Z Z Z (by omega) ?_;refine Aa Z Z Z Z Z O ?_;refine Ab ?_
 exact At.ret Tryz.func149 (.inr ⟨_,rfl⟩) rfl (.tmp rfl .nil) (wk (hc _ _ (⟨by (show Value.int .i64 (0 + (m : Int)) = _;rw [Int.zero_add]),rfl⟩)))
theorem s177 (L : Lg Tryz.prog main) (H : Facts) {n : Nat} (hn : n < 100) : Pure L 177 #[.int .i64 (n : Int)] H (.int .i64 ((n * 78913 / 2 ^ 18 : Nat) : Int)) := by
 refine Spec.enter Tryz.func177 rfl (by simp [Tryz.f177]) fun c cs hc => ?_;refine At.seq (At.region ?_);refine Aa Z Z Z Z Z O ?_;refine Ab (At.seq (At.region ?_));refine Aa Z Z Z Z Z O ?_;refine Aa Z Z Z Z Z (by omega) ?_;refine Ae Z Z Z Z (q_shr (m := n * 78913) (i := 18) Z Z Z (by decide)) ?_;refine Aa Z Z Z Z Z O ?_;refine Ab ?_
 exact At.ret Tryz.func177 (.inr ⟨_,rfl⟩) rfl (.tmp rfl .nil) (wk (hc _ _ (⟨by rfl,rfl⟩)))
theorem s178 (L : Lg Tryz.prog main) (H : Facts) {b : Bool} : Pure L 178 #[.bool b] H (.int .i64 (if b then 1 else 0)) := by
 refine Spec.enter Tryz.func178 rfl (by simp [Tryz.f178]) fun c cs hc => ?_
 cases b
 ·refine At.seq ?_
  refine At.region ?_;refine Aa Z Z Z Z Z O ?_;refine Ab (At.seq (At.seq (At.region ?_)));refine Aa Z Z Z Z Z O ?_;refine Ab ?_;refine At.cond Z ?_;refine At.skip (At.seq (At.region ?_));refine Aa Z Z Z Z Z O ?_;refine Ab ?_
  exact At.ret Tryz.func178 (.inr ⟨_,rfl⟩) rfl (.tmp rfl .nil) (wk (hc _ _ (⟨by rfl,rfl⟩)))
 ·refine At.seq ?_
  refine At.region ?_;refine Aa Z Z Z Z Z O ?_;refine Ab (At.seq (At.seq (At.region ?_)));refine Aa Z Z Z Z Z O ?_;refine Ab ?_;refine At.cond Z ?_;refine At.seq (At.region ?_);refine Aa Z Z Z Z Z O ?_;refine Ab ?_
  exact At.ret Tryz.func178 (.inr ⟨_,rfl⟩) rfl (.tmp rfl .nil) (wk (hc _ _ (⟨by rfl,rfl⟩)))
def tenC : List Value := [.int .u64 1,.int .u64 10,.int .u64 100,.int .u64 1000,.int .u64 10000,.int .u64 100000,.int .u64 1000000,.int .u64 10000000,.int .u64 100000000,.int .u64 1000000000,.int .u64 10000000000,.int .u64 100000000000,.int .u64 1000000000000,.int .u64 10000000000000,.int .u64 100000000000000,.int .u64 1000000000000000,.int .u64 10000000000000000,.int .u64 100000000000000000,.int .u64 1000000000000000000,.int .u64 10000000000000000000]
theorem digits_n : ∀ n : _root_.Fin 100,1 ≤ n.1 → len8 n.1 * 78913 / 2 ^ 18 ≤ 2 ∧ len8 n.1 < 100 ∧ len8 n.1 * 78913 / 2 ^ 18 + (if 10 ^ (len8 n.1 * 78913 / 2 ^ 18) ≤ n.1 then 1 else 0) = (digs n.1).length := by decide
theorem dg_fin {b : Bool} {n q m : Nat} {t : Int} (h : (m + if 10 ^ m ≤ n then 1 else 0) = q) (hb : decide (t ≤ (n : Int)) = b) (ht : t = ((10 ^ m : Nat) : Int)) : Value.int .i64 ((m : Int) + if b = true then 1 else 0) = .int .i64 (q : Int) := by
 subst hb ht h
 congr 1
 by_cases hh : 10 ^ m ≤ n
 ·rw [if_pos (by rw [decide_eq_true_eq];omega),if_pos hh];rfl
 ·rw [if_neg (by rw [decide_eq_true_eq];omega),if_neg hh];rfl
set_option maxRecDepth 100000 in
theorem s153 (L : Lg Tryz.prog main) (H : Facts) (ht : Cells H 4 0 tenC) {n : Nat} (h1 : 1 ≤ n) (hn : n < 100) : Pure L 153 #[.int .u64 (n : Int)] H (.int .i64 ((digs n).length : Int)) := by
 refine Spec.enter Tryz.func153 rfl (by simp [Tryz.f153]) fun c cs hc => ?_
 obtain ⟨hd1,hd2,hd3⟩ := digits_n ⟨n,hn⟩ h1
 simp only at hd1 hd2 hd3
 have stop149 := trivial
 refine At.seq (At.region ?_);refine Aa Z Z Z Z Z O ?_;refine Ab (At.seq (At.region ?_));refine Aa Z Z Z Z Z O ?_
 clear stop149
 refine Ai Z Z Z Z Z Z Z Z (t149 L _ hn) ?_;refine Ai Z Z Z Z Z Z Z Z (s177 L _ hd2) ?_
 generalize len8 n * 78913 / 2 ^ 18 = m at hd1 hd3
 generalize (digs n).length = q at hd3 hc
 rcases (show m = 0 ∨ m = 1 ∨ m = 2 by omega) with rfl | rfl | rfl
 ·have stop178 := trivial
  refine Aa Z Z Z Z Z O ?_;refine Ab (At.seq (At.region ?_));(iterate 3 refine Aa Z Z Z Z Z O ?_);refine Ae Z Z Z Z (q_iaA Z Z Z (by omega)) ?_;refine Au Z Z Z Z Z Z (ht.s 0 1 rfl) Z Z ?_;refine Ad Z Z Z Z Z fun b12 h12 => ?_
  clear stop178
  refine Ai Z Z Z Z Z Z Z Z (s178 L _) ?_;refine Aa Z Z Z Z Z (by omega) ?_;refine Aa Z Z Z Z Z O ?_;refine Ab ?_
  exact At.ret Tryz.func153 (.inr ⟨_,rfl⟩) rfl (.tmp rfl .nil) (wk (hc _ _ (⟨by exact dg_fin hd3 h12 rfl,rfl⟩)))
 ·have stop178 := trivial
  refine Aa Z Z Z Z Z O ?_;refine Ab (At.seq (At.region ?_));(iterate 3 refine Aa Z Z Z Z Z O ?_);refine Ae Z Z Z Z (q_iaA Z Z Z (by omega)) ?_;refine Au Z Z Z Z Z Z (ht.s 1 1 rfl) Z Z ?_;refine Ad Z Z Z Z Z fun b12 h12 => ?_
  clear stop178
  refine Ai Z Z Z Z Z Z Z Z (s178 L _) ?_;refine Aa Z Z Z Z Z (by omega) ?_;refine Aa Z Z Z Z Z O ?_;refine Ab ?_
  exact At.ret Tryz.func153 (.inr ⟨_,rfl⟩) rfl (.tmp rfl .nil) (wk (hc _ _ (⟨by exact dg_fin hd3 h12 rfl,rfl⟩)))
 ·have stop178 := trivial
  refine Aa Z Z Z Z Z O ?_;refine Ab (At.seq (At.region ?_));(iterate 3 refine Aa Z Z Z Z Z O ?_);refine Ae Z Z Z Z (q_iaA Z Z Z (by omega)) ?_;refine Au Z Z Z Z Z Z (ht.s 2 1 rfl) Z Z ?_;refine Ad Z Z Z Z Z fun b12 h12 => ?_
  clear stop178
  refine Ai Z Z Z Z Z Z Z Z (s178 L _) ?_;refine Aa Z Z Z Z Z (by omega) ?_;refine Aa Z Z Z Z Z O ?_;refine Ab ?_
  exact At.ret Tryz.func153 (.inr ⟨_,rfl⟩) rfl (.tmp rfl .nil) (wk (hc _ _ (⟨by exact dg_fin hd3 h12 rfl,rfl⟩)))
end Go.Gx
end
section
namespace Go.Gx
open Go Go.Conc Go.Proofs
variable {main : Bool}
instance : CvI Tryz.prog 230 228 .u32 := ⟨by kernel_rfl⟩
instance : CvI Tryz.prog 228 5 .u8 := ⟨by kernel_rfl⟩
def z24 (a b c : Int) : List Value := .int .u8 a :: .int .u8 b :: .int .u8 c :: List.replicate 21 (.int .u8 0)
set_option maxRecDepth 100000 in
theorem s154a (L : Lg Tryz.prog main) (H : Facts) {b n cap : Nat} {T : TypeId} (hn : n < 10) : Spec L 154 #[.slice (some ⟨b,1,none⟩) 1 cap,.int .u64 (n : Int)] (.own b (.cells (List.toArray (z24 0 0 0)) T (0,0)) :: H)
  (fun v H' => v = .tuple #[] ∧ H' = .own b (.cells (List.toArray (z24 0 ((48 : Int) + n) 0)) T (0,0)) :: H) := by
 refine Spec.enter Tryz.func154 rfl (by simp [Tryz.f154]) fun c cs hc => ?_
 have hw : IntKind.wrap .u32 (n : Int) = (n : Int) := wrap_u32 (by omega) (by omega)
 have hw8 : IntKind.wrap .u8 ((48 : Int) + n) = (48 : Int) + n := wrap_u8 (by omega) (by omega)
 refine At.seq (At.region ?_);refine Aa Z Z Z Z Z O ?_;refine Ao Z Z Z Z Z Z Z Z ?_;refine Aa Z Z Z Z Z O ?_;refine Ab (At.seq ?_);refine At.block ?_
 refine Az (X := Unit) [0] (fun _ => [(4,.int .i64 1),(1,.int .u64 (n : Int))]) (fun _ => .own b (.cells (List.toArray (z24 0 0 0)) T (0,0)) :: H) (fun _ => 0) (()) rfl ?_ (by repeat (first | exact trivial | refine ⟨rfl,?_⟩)) sb
 intro _ _
 refine At.seq (At.seq (At.region ?_));refine Aa Z Z Z Z Z O ?_;refine Ad Z Z Z Z Z fun b20 h20 => ?_;refine Ab ?_
 obtain rfl : b20 = false := h20.symm.trans (by kernel_rfl)
 refine At.cond Z ?_;refine At.exit rfl ?_;refine At.seq (At.region ?_);refine Aa Z Z Z Z Z O ?_;refine Ae Z Z Z Z (q_conv Z Z (by assumption)) ?_;refine Aa Z Z Z Z Z O ?_;refine Ab (At.seq (At.seq (At.region ?_)));refine Aa Z Z Z Z Z O ?_;refine Ad Z Z Z Z Z fun b99 h99 => ?_;refine Ab ?_
 obtain rfl : b99 = false := h99.symm.trans (by kernel_rfl)
 refine At.cond Z ?_;refine At.skip (At.seq (At.seq (At.region ?_)));refine Aa Z Z Z Z Z O ?_;refine Ad Z Z Z Z Z fun b139 h139 => ?_;refine Ab ?_
 obtain rfl : b139 = false := h139.symm.trans (by kernel_rfl)
 refine At.cond Z ?_;refine At.skip (At.seq (At.region ?_));refine Aa Z Z Z Z Z O ?_;refine Ad Z Z Z Z Z fun b161 h161 => ?_;refine Ab ?_
 obtain rfl : b161 = true := h161.symm.trans (by kernel_rfl)
 refine At.cond Z ?_;refine At.region ?_;(iterate 2 refine Aa Z Z Z Z Z O ?_);refine Ae Z Z Z Z (q_addK Z Z Z (wrap_u32 (by omega) (by omega))) ?_;refine Ae Z Z Z Z (q_conv Z Z (by assumption)) ?_;refine Ae Z Z Z Z (q_ia Z Z Z (by dsimp only;omega)) ?_;refine Ag 0 Z Z Z Z Z Z Z Z Z Z Z Z ?_;refine Ab ?_
 exact At.ret Tryz.func154 (.inl rfl) rfl .nil (wk (hc _ _ (⟨rfl,rfl⟩)))
set_option maxRecDepth 100000 in
theorem dg200_ix : ∀ n : _root_.Fin 100,dg200[n.1 * 2 + 1]? = some (48 + n.1 % 10).toUInt8 ∧ dg200[n.1 * 2]? = some (48 + n.1 / 10).toUInt8 ∧ (48 + n.1 % 10).toUInt8.toNat = 48 + n.1 % 10 ∧ (48 + n.1 / 10).toUInt8.toNat = 48 + n.1 / 10 := by decide
set_option maxRecDepth 100000 in
theorem s154b (L : Lg Tryz.prog main) (H : Facts) {b n cap : Nat} {T : TypeId} (h10 : 10 ≤ n) (hn : n < 100) : Spec L 154 #[.slice (some ⟨b,1,none⟩) 2 cap,.int .u64 (n : Int)] (.own b (.cells (List.toArray (z24 0 0 0)) T (0,0)) :: H)
  (fun v H' => v = .tuple #[] ∧ H' = .own b (.cells (List.toArray (z24 0 ((48 + n / 10 : Nat) : Int) ((48 + n % 10 : Nat) : Int))) T (0,0)) :: H) := by
 refine Spec.enter Tryz.func154 rfl (by simp [Tryz.f154]) fun c cs hc => ?_
 have hw : IntKind.wrap .u32 (n : Int) = (n : Int) := wrap_u32 (by omega) (by omega)
 refine At.seq (At.region ?_);refine Aa Z Z Z Z Z O ?_;refine Ao Z Z Z Z Z Z Z Z ?_;refine Aa Z Z Z Z Z O ?_;refine Ab (At.seq ?_);refine At.block ?_
 refine Az (X := Unit) [0] (fun _ => [(4,.int .i64 2),(1,.int .u64 (n : Int))]) (fun _ => .own b (.cells (List.toArray (z24 0 0 0)) T (0,0)) :: H) (fun _ => 0) (()) rfl ?_ (by repeat (first | exact trivial | refine ⟨rfl,?_⟩)) sb
 intro _ _
 have stopDraw := trivial
 refine At.seq (At.seq (At.region ?_));refine Aa Z Z Z Z Z O ?_;refine Ad Z Z Z Z Z fun b20 h20 => ?_;refine Ab ?_
 obtain rfl : b20 = false := h20.symm.trans (by kernel_rfl)
 refine At.cond Z ?_;refine At.exit rfl ?_;refine At.seq (At.region ?_);refine Aa Z Z Z Z Z O ?_;refine Ae Z Z Z Z (q_conv Z Z (by assumption)) ?_;refine Aa Z Z Z Z Z O ?_;refine Ab (At.seq (At.seq (At.region ?_)));refine Aa Z Z Z Z Z O ?_;refine Ad Z Z Z Z Z fun b99 h99 => ?_;refine Ab ?_
 obtain rfl : b99 = false := h99.symm.trans (by kernel_rfl)
 refine At.cond Z ?_;refine At.skip (At.seq (At.seq (At.region ?_)));refine Aa Z Z Z Z Z O ?_;refine Ad Z Z Z Z Z fun b139 h139 => ?_;refine Ab ?_
 obtain rfl : b139 = true := h139.symm.trans (by kernel_rfl)
 refine At.cond Z ?_;refine At.seq (At.region ?_);refine Aa Z Z Z Z Z O ?_;refine Ae Z Z Z Z (q_remK Z Z Z (by omega) (by omega)) ?_;refine Ae Z Z Z Z (q_mulK Z Z Z (wrap_u32 (by omega) (by omega))) ?_;refine Aa Z Z Z Z Z O ?_;refine Ab (At.seq (At.region ?_));refine Aa Z Z Z Z Z O ?_;refine Ae Z Z Z Z (q_quoK Z Z Z (by omega) (by omega) (wrap_u32 (by omega) (by omega))) ?_
 refine Aa Z Z Z Z Z O ?_;refine Ab (At.seq ?_)
 clear stopDraw
 refine Aw hmix [0] rfl ?_;refine Ac 0 Z Z Z Z Z Z Z O ?_;refine Ac 1 Z Z Z Z Z Z Z O ?_;refine Ac 2 Z Z Z Z Z Z Z (by omega) ?_;refine Ac 3 Z Z Z Z Z Z Z O ?_;refine Ac 4 Z Z Z Z Z Z Z O ?_;refine Ac 5 Z Z Z Z Z Z Z (by omega) ?_;refine Ac 6 Z Z Z Z Z Z Z O ?_
 refine Ak 7 Z Z Z Z Z (q_addK Z Z Z (wrap_u32 (by omega) (by omega))) rfl ?_;refine Ac 9 Z Z Z Z Z Z Z O ?_;refine Ak 11 Z Z Z Z Z (q_ia Z Z Z (by dsimp only;omega)) rfl ?_;refine Ak 13 Z Z Z Z Z (q_ia Z Z Z (by dsimp only;omega)) rfl ?_
 obtain ⟨e1,e2,e3,e4⟩ := dg200_ix ⟨n,hn⟩
 refine Ak 8 Z Z Z Z Z (q_atN (w := dg200) (j := n * 2 + 1) Z Z Z (by omega) e1) rfl ?_;refine Ak 10 Z Z Z Z Z (q_atN (w := dg200) (j := n * 2) Z Z Z (by omega) e2) rfl ?_
 rw [e3,e4]
 refine Ba 0 12 Z Z Z Z Z Z Z Z Z Z Z Z Z Z Z Z Z Z sb ?_;refine Ba 0 14 Z Z Z Z Z Z Z Z Z Z Z Z Z Z Z Z Z Z sb ?_;refine pool_done Z Z ?_;refine Ab (At.region ?_);refine Aa Z Z Z Z Z O ?_;refine Aa Z Z Z Z Z (by omega) ?_;refine Aa Z Z Z Z Z O ?_;refine Ab (At.seq (At.region ?_));refine Aa Z Z Z Z Z O ?_
 refine Ad Z Z Z Z Z fun b161 h161 => ?_;refine Ab ?_
 obtain rfl : b161 = false := h161.symm.trans (by kernel_rfl)
 refine At.cond Z ?_;refine At.skip ?_
 exact At.ret Tryz.func154 (.inl rfl) rfl .nil (wk (hc _ _ (⟨rfl,rfl⟩)))
end Go.Gx
end
section
namespace Go.Gx
open Go Go.Conc
section
variable {P : Program} {H : Facts} {E : Env} {o : Oper}
theorem q_sliceALH {t e : TypeId} {x y z : Operand} {ag : Bool} {n sz b off : Nat} {l h : Nat} {kd kd' : IntKind} [har : ArI P t n e ag sz] (ho : o.op = .slice t x (some y) (some z) none) (hx : ev E x = some (.pointer (some ⟨b,off,none⟩))) (hy : ev E y = some (.int kd (l : Int))) (hz : ev E z = some (.int kd' (h : Int))) (h1 : l ≤ h) (h2 : h ≤ n) (h3 : l < n) :
  QOp P o E H (.slice (some ⟨b,off + l * sz,none⟩) (h - l) (n - l)) := by
 obtain ⟨zz,by_,e1,e2⟩ := har.parts
 obtain ⟨d,i,_,e4,_,e6,_,_⟩ := tyF_parts e2
 refine ⟨nd ho (by intro c h;cases h),fun φ hA Q hQ => ?_⟩
 unfold execOp;rw [ho];simp only [Option.map_some,Option.map_none,hA x _ hx,Instr.sliceAt,Instr.sureAddr,K.bind,k_underlying e1,K.pure]
 unfold Instr.sliceBounds
 simp only [K.bind,K.pure]
 refine k_bound hA hz h2 ?_;refine k_bound hA hy h1 ?_
 rw [k_sizeOf e4,e6]
 have e : (if n = l then (⟨b,off,none⟩ : Addr) else (⟨b,off,none⟩ : Addr).add (l * sz)) = ⟨b,off + l * sz,none⟩ := by
  rw [if_neg (by omega),add_none]
 rw [e]
 exact hQ
theorem q_negK {t : TypeId} {x : Operand} {k : IntKind} {a b : Int} (ho : o.op = .unOp .neg t x) (hx : ev E x = some (.int k a)) (hb : k.wrap (-a) = b) : QOp P o E H (.int k b) :=
 ⟨nd ho (by intro c h;cases h),fun φ hA Q hQ => by
  unfold execOp;rw [ho];simp only [hA x _ hx,Op.unary,Op.intArith,K.bind,K.pure]
  rw [show (0 : Int) - a = -a from by omega,hb];exact hQ⟩
end
end Go.Gx
end
section
namespace Go.Gx
open Go Go.Conc Go.Proofs
variable {main : Bool}
def sayI (i : Int) : List UInt8 := if i < 0 then 45 :: digs i.natAbs else digs i.natAbs
theorem rd_say1 {H : Facts} {r n : Nat} {T : TypeId} {fr : Nat × Nat} (hn : n < 10) (h : .own r (.cells (List.toArray (z24 45 ((48 : Int) + n) 0)) T fr) ∈ H) : Rd H (some ⟨r,0,none⟩) ((45 :: digs n).flatMap cB) := by
 refine .inr ⟨r,0,rfl,cells_own h ?_⟩
 have e : ((48 + n).toUInt8).toNat = 48 + n := by
  show (48 + n) % 256 = _
  omega
 unfold digs z24
 rw [if_pos hn]
 simp [cB,e]
 omega
theorem rd_say2 {H : Facts} {r n : Nat} {T : TypeId} {fr : Nat × Nat} (h10 : ¬ n < 10) (hn : n < 100) (h : .own r (.cells (List.toArray (z24 45 ((48 + n / 10 : Nat) : Int) ((48 + n % 10 : Nat) : Int))) T fr) ∈ H) : Rd H (some ⟨r,0,none⟩) ((45 :: digs n).flatMap cB) := by
 refine .inr ⟨r,0,rfl,cells_own h ?_⟩
 have e : ((48 + n / 10).toUInt8).toNat = 48 + n / 10 := by
  show (48 + n / 10) % 256 = _
  omega
 have e2 : ((48 + n % 10).toUInt8).toNat = 48 + n % 10 := by
  show (48 + n % 10) % 256 = _
  omega
 unfold digs z24
 rw [if_neg h10]
 simp [cB,e,e2]
 omega
instance : CvI Tryz.prog 2 230 .u64 := ⟨by kernel_rfl⟩
set_option maxRecDepth 100000 in
theorem s127 (L : Lg Tryz.prog main) (H : Facts) (ht : Cells H 4 0 tenC) {i : Int} (h0 : -100 < i) (h1 : i < 100) : Pure L 127 #[.int .i64 i,.int .i64 10] H (.string (S (sayI i))) := by
 refine Spec.enter Tryz.func127 rfl (by simp [Tryz.f127]) fun c cs hc => ?_
 by_cases hi : 0 ≤ i
 ·obtain ⟨n,rfl⟩ := Int.eq_ofNat_of_zero_le hi
  rw [show sayI (n : Int) = digs n from by unfold sayI;rw [if_neg (by omega)];rfl] at hc
  have stop152 := trivial
  refine At.seq (At.region ?_);refine Aa Z Z Z Z Z O ?_;refine Ab (At.seq (At.seq (At.region ?_)));refine Aa Z Z Z Z Z O ?_;refine Ad Z Z Z Z Z fun b11 h11 => ?_;refine Ab ?_
  obtain rfl : b11 = true := h11.symm.trans (by kernel_rfl)
  refine At.cond Z ?_;refine At.seq (At.seq (At.region ?_));refine Aa Z Z Z Z Z O ?_;refine Ad Z Z Z Z Z fun b13 h13 => ?_;refine Aa Z Z Z Z Z O ?_
  obtain rfl : b13 = true := h13.symm.trans (by kernel_rfl)
  refine Aa Z Z Z Z Z O ?_;refine Ad Z Z Z Z Z fun b16 h16 => ?_;refine Aa Z Z Z Z Z O ?_;refine Ab ?_
  obtain rfl : b16 = true := h16.symm.trans (decide_eq_true (by omega))
  refine At.cond Z ?_;refine At.seq (At.region ?_);refine Aa Z Z Z Z Z O ?_
  clear stop152
  refine Ai Z Z Z Z Z Z Z Z (s152 L _ (n := n) (by omega)) ?_;refine Aa Z Z Z Z Z O ?_;refine Ab ?_
  exact At.ret Tryz.func127 (.inr ⟨_,rfl⟩) rfl (.tmp rfl .nil) (wk (hc _ _ (⟨by rfl,rfl⟩)))
 ·obtain ⟨n,rfl⟩ : ∃ n : Nat,i = -(n : Int) := ⟨i.natAbs,by omega⟩
  rw [show sayI (-(n : Int)) = 45 :: digs n from by unfold sayI;rw [if_pos (by omega)];rw [Int.natAbs_neg];rfl] at hc
  have hw : IntKind.wrap .u64 (-(n : Int)) = 18446744073709551616 - (n : Int) := by
   show (-(n : Int)) % 18446744073709551616 = _
   omega
  have hw2 : IntKind.wrap .u64 (-(18446744073709551616 - (n : Int))) = (n : Int) := by
   show (-(18446744073709551616 - (n : Int))) % 18446744073709551616 = _
   omega
  have stop153 := trivial
  refine At.seq (At.region ?_);refine Aa Z Z Z Z Z O ?_;refine Ab (At.seq (At.seq (At.region ?_)));refine Aa Z Z Z Z Z O ?_;refine Ad Z Z Z Z Z fun b11 h11 => ?_;refine Ab ?_
  obtain rfl : b11 = true := h11.symm.trans (by kernel_rfl)
  refine At.cond Z ?_;refine At.seq (At.seq (At.region ?_));refine Aa Z Z Z Z Z O ?_;refine Ad Z Z Z Z Z fun b13 h13 => ?_;refine Aa Z Z Z Z Z O ?_
  obtain rfl : b13 = false := h13.symm.trans (decide_eq_false (by omega))
  (iterate 2 refine Ar Z Z Z Z ?_);refine Aa Z Z Z Z Z O ?_;refine Ab ?_;refine At.cond Z ?_;refine At.skip (At.seq (At.region ?_));refine Al Z Z Z Z Z fun r5 => ?_;refine Ab (At.seq (At.region ?_));refine Aa Z Z Z Z Z O ?_;refine Ae Z Z Z Z (q_conv Z Z (by assumption)) ?_;refine Aa Z Z Z Z Z O ?_;refine Ab (At.seq (At.seq (At.region ?_)))
  refine Aa Z Z Z Z Z O ?_;refine Ad Z Z Z Z Z fun b23 h23 => ?_;refine Ab ?_
  obtain rfl : b23 = true := h23.symm.trans (decide_eq_true (by omega))
  refine At.cond Z ?_;refine At.region ?_;refine Aa Z Z Z Z Z O ?_;refine Ae Z Z Z Z (q_negK Z Z hw2) ?_;refine Aa Z Z Z Z Z O ?_;refine Ab (At.seq (At.region ?_));refine Aa Z Z Z Z Z O ?_
  clear stop153
  refine Ai Z Z Z Z Z Z Z Z (s153 L _ ht.a (n := n) (by omega) (by omega)) ?_
  have stop154 := trivial
  by_cases h10 : n < 10
  ·rw [show (digs n).length = 1 from by unfold digs;rw [if_pos h10];rfl]
   refine Aa Z Z Z Z Z O ?_;refine Ab (At.seq (At.region ?_));refine Aa Z Z Z Z Z O ?_;refine Aa Z Z Z Z Z (by omega) ?_;refine Ae Z Z Z Z (q_sliceALH (l := 1) (h := 2) Z Z Z Z (by omega) (by omega) (by omega)) ?_
   clear stop154
   refine Aa Z Z Z Z Z O ?_;refine Ay Z Z Z Z Z Z Z Z (s154a L _ (n := n) h10) ?_
   rintro _ _ ⟨rfl,rfl⟩
   have stop38 := trivial
   refine Ab (At.seq (At.seq (At.region ?_)));refine Aa Z Z Z Z Z O ?_;refine Ad Z Z Z Z Z fun b34 h34 => ?_;refine Ab ?_
   obtain rfl : b34 = true := h34.symm.trans (decide_eq_true (by omega))
   refine At.cond Z ?_;refine At.seq (At.region ?_);refine Ae Z Z Z Z (q_iaA Z Z Z (by dsimp only;omega)) ?_;refine Ag 0 Z Z Z Z Z Z Z Z Z Z Z Z ?_;refine Ab (At.seq (At.region ?_));refine Aa Z Z Z Z Z O ?_;refine Aa Z Z Z Z Z (by omega) ?_;refine Ae Z Z Z Z (q_sliceAH (h := 2) Z Z Z (by omega)) ?_
   refine Ae Z Z Z Z (q_bytesStr (w := 45 :: digs n) Z Z (rd_say1 h10 (List.mem_cons_self ..)) (by simp [digs,h10]) (by omega)) ?_;refine Aa Z Z Z Z Z O ?_;refine Ab ?_
   exact At.ret Tryz.func127 (.inr ⟨_,rfl⟩) rfl (.tmp rfl .nil) (wk (hc _ _ (⟨by rfl,rfl⟩)))
  ·rw [show (digs n).length = 2 from by unfold digs;rw [if_neg h10];rfl]
   refine Aa Z Z Z Z Z O ?_;refine Ab (At.seq (At.region ?_));refine Aa Z Z Z Z Z O ?_;refine Aa Z Z Z Z Z (by omega) ?_;refine Ae Z Z Z Z (q_sliceALH (l := 1) (h := 3) Z Z Z Z (by omega) (by omega) (by omega)) ?_
   clear stop154
   refine Aa Z Z Z Z Z O ?_;refine Ay Z Z Z Z Z Z Z Z (s154b L _ (n := n) (by omega) (by omega)) ?_
   rintro _ _ ⟨rfl,rfl⟩
   have stop38 := trivial
   refine Ab (At.seq (At.seq (At.region ?_)));refine Aa Z Z Z Z Z O ?_;refine Ad Z Z Z Z Z fun b34 h34 => ?_;refine Ab ?_
   obtain rfl : b34 = true := h34.symm.trans (decide_eq_true (by omega))
   refine At.cond Z ?_;refine At.seq (At.region ?_);refine Ae Z Z Z Z (q_iaA Z Z Z (by dsimp only;omega)) ?_;refine Ag 0 Z Z Z Z Z Z Z Z Z Z Z Z ?_;refine Ab (At.seq (At.region ?_));refine Aa Z Z Z Z Z O ?_;refine Aa Z Z Z Z Z (by omega) ?_;refine Ae Z Z Z Z (q_sliceAH (h := 3) Z Z Z (by omega)) ?_
   refine Ae Z Z Z Z (q_bytesStr (w := 45 :: digs n) Z Z (rd_say2 h10 (by omega) (List.mem_cons_self ..)) (by simp [digs,h10]) (by omega)) ?_;refine Aa Z Z Z Z Z O ?_;refine Ab ?_
   exact At.ret Tryz.func127 (.inr ⟨_,rfl⟩) rfl (.tmp rfl .nil) (wk (hc _ _ (⟨by rfl,rfl⟩)))
theorem s92 (L : Lg Tryz.prog main) (H : Facts) (ht : Cells H 4 0 tenC) {i : Int} (h0 : -100 < i) (h1 : i < 100) : Pure L 92 #[.int .i64 i] H (.string (S (sayI i))) := by
 refine Spec.enter Tryz.func92 rfl (by simp [Tryz.f92]) fun c cs hc => ?_
 have stop127 := trivial
 refine At.seq (At.region ?_);refine Aa Z Z Z Z Z O ?_;refine Ab (At.seq (At.region ?_));refine Aa Z Z Z Z Z O ?_;refine Ai Z Z Z Z Z Z Z Z (s127 L _ ht.a h0 h1) ?_;refine Aa Z Z Z Z Z O ?_;refine Ab ?_
 exact At.ret Tryz.func92 (.inr ⟨_,rfl⟩) rfl (.tmp rfl .nil) (wk (hc _ _ (⟨by rfl,rfl⟩)))
theorem s36 (L : Lg Tryz.prog main) (H : Facts) (ht : Cells H 4 0 tenC) {i : Int} (h0 : -100 < i) (h1 : i < 100) : Pure L 36 #[.int .i64 i] H (.string (S (sayI i))) := by
 refine Spec.enter Tryz.func36 rfl (by simp [Tryz.f36]) fun c cs hc => ?_
 have stop92 := trivial
 refine At.seq (At.region ?_);refine Aa Z Z Z Z Z O ?_;refine Ab (At.seq (At.region ?_));refine Aa Z Z Z Z Z O ?_;refine Ai Z Z Z Z Z Z Z Z (s92 L _ ht.a h0 h1) ?_;refine Aa Z Z Z Z Z O ?_;refine Ab ?_
 exact At.ret Tryz.func36 (.inr ⟨_,rfl⟩) rfl (.tmp rfl .nil) (wk (hc _ _ (⟨by rfl,rfl⟩)))
theorem sayI_len {i : Int} : (sayI i).length ≤ 3 := by
 unfold sayI digs
 split <;> split <;> simp
def bandL2 (lo hi : Int) : List UInt8 := if lo = hi then sayI lo else sayI lo ++ [58] ++ sayI hi
set_option maxRecDepth 100000 in
theorem s37 (L : Lg Tryz.prog main) (H : Facts) (ht : Cells H 4 0 tenC) {lo hi : Int} (h0 : -100 < lo) (h1 : lo < 100) (h2 : -100 < hi) (h3 : hi < 100) : Pure L 37 #[.agg #[.int .i64 lo,.int .i64 hi]] H (.string (S (bandL2 lo hi))) := by
 refine Spec.enter Tryz.func37 rfl (by simp [Tryz.f37]) fun c cs hc => ?_
 have hl1 := @sayI_len lo
 have hl2 := @sayI_len hi
 unfold bandL2 at hc
 by_cases he : lo = hi
 ·rw [if_pos he] at hc
  have stop36 := trivial
  refine At.seq (At.region ?_);refine An Z Z Z Z Z Z Z fun r1 => ?_;refine Aa Z Z Z Z Z O ?_;refine Ab (At.seq (At.seq (At.region ?_)));refine Ah 0 Z Z Z Z Z Z Z ?_;refine Af 0 Z Z Z Z Z Z Z Z Z ?_;refine Ah 1 Z Z Z Z Z Z Z ?_;refine Af 0 Z Z Z Z Z Z Z Z Z ?_;refine Ad Z Z Z Z Z fun b7 h7 => ?_;refine Ab ?_
  obtain rfl : b7 = true := h7.symm.trans (decide_eq_true (by omega))
  refine At.cond Z ?_;refine At.seq (At.region ?_);refine Ah 0 Z Z Z Z Z Z Z ?_;refine Af 0 Z Z Z Z Z Z Z Z Z ?_
  clear stop36
  refine Ai Z Z Z Z Z Z Z Z (s36 L _ ht.a h0 h1) ?_;refine Aa Z Z Z Z Z O ?_;refine Ab ?_
  exact At.ret Tryz.func37 (.inr ⟨_,rfl⟩) rfl (.tmp rfl .nil) (wk (hc _ _ (⟨by rfl,rfl⟩)))
 ·rw [if_neg he] at hc
  have stop36 := trivial
  refine At.seq (At.region ?_);refine An Z Z Z Z Z Z Z fun r1 => ?_;refine Aa Z Z Z Z Z O ?_;refine Ab (At.seq (At.seq (At.region ?_)));refine Ah 0 Z Z Z Z Z Z Z ?_;refine Af 0 Z Z Z Z Z Z Z Z Z ?_;refine Ah 1 Z Z Z Z Z Z Z ?_;refine Af 0 Z Z Z Z Z Z Z Z Z ?_;refine Ad Z Z Z Z Z fun b7 h7 => ?_;refine Ab ?_
  obtain rfl : b7 = false := h7.symm.trans (decide_eq_false (by omega))
  refine At.cond Z ?_;refine At.skip (At.seq ?_);refine Aw hmix [] rfl ?_;refine Am 0 0 Z Z Z Z Z Z Z Z Z ?_;refine Aj 0 1 Z Z Z Z Z Z Z Z Z Z Z ?_;refine Am 1 4 Z Z Z Z Z Z Z Z Z ?_;refine Aj 0 5 Z Z Z Z Z Z Z Z Z Z Z ?_
  clear stop36
  refine Ap 2 Z Z Z Z Z Z Z Z Z (fun H_ hs_ => s36 L H_ (ht.a) h0 h1) ?_
  have stop36 := trivial
  refine Ak 3 Z Z Z Z Z (q_cat Z Z Z (by simp;omega)) rfl ?_
  clear stop36
  refine Ap 6 Z Z Z Z Z Z Z Z Z (fun H_ hs_ => s36 L H_ (ht.a) h2 h3) ?_;refine Ak 7 Z Z Z Z Z (q_cat Z Z Z (by simp;omega)) rfl ?_;refine Ac 8 Z Z Z Z Z Z Z O ?_;refine pool_done Z Z ?_;refine Ab ?_
  exact At.ret Tryz.func37 (.inr ⟨_,rfl⟩) rfl (.tmp rfl .nil) (wk (hc _ _ (⟨by rfl,rfl⟩)))
end Go.Gx
end
section
namespace Go.Gx
open Go Go.Conc
section
variable {P : Program} {H : Facts} {E : Env} {o : Oper}
theorem q_cap {az : Array Operand} {ats : Array TypeId} {x : Operand} {t e sz by_ : Nat} {ag : Bool} {z : List Value} {a : Option Addr} {len cap : Nat} [hel : ElI P t e ag sz by_ z] (ho : o.op = .call { callee := .builtin .cap,args := az,argTypes := ats }) (has : az.toList = [x]) (hats : ats.toList = [t]) (hx : ev E x = some (.slice a len cap)) : QOp P o E H (.int .i64 cap) :=
 ⟨nd ho (by intro c h;cases h),fun φ hA Q hQ => by
  obtain ⟨zv,ht,_⟩ := hel.parts
  have hat : ats[0]? = some t := by rw [← Array.getElem?_toList,hats];rfl
  have e0 : az.map φ = #[.slice a len cap] := by
   apply Array.ext'
   simp [has,hA x _ hx]
  unfold execOp;rw [ho];simp only [resolve,K.bind,K.pure,invoke,builtin,Builtin.cap_,e0,hat]
  have e1 : (#[Value.slice a len cap] : Array Value)[0]? = some (.slice a len cap) := rfl
  simp only [e1,K.bind]
  first
   | exact hQ
   | (rw [k_underlying ht];exact hQ)⟩
end
end Go.Gx
end
section
namespace Go.Gx
open Go Go.Conc Go.Proofs
variable {main : Bool}
theorem fnx125 : (Extern.findNext Tryz.f125).isNone = true := by kernel_rfl
theorem fx125 : Extern.find Tryz.f125 = some Extern.AbiNoEscape.same := by kernel_rfl
instance : ExI Tryz.prog 125 Extern.AbiNoEscape.same := ⟨_,Tryz.func125,by kernel_rfl,rfl,fnx125,fx125⟩
instance : PtrI Tryz.prog 74 77 := ⟨by kernel_rfl⟩
instance : UnI Tryz.prog 206 := ⟨by kernel_rfl⟩
theorem k_same {P : Program} {H : Facts} {Q : Value → Facts → Prop} {v : Value} (hq : Q v H) : K P (Extern.AbiNoEscape.same #[v]) Q H := hq
set_option maxRecDepth 100000 in
theorem s90 (L : Lg Tryz.prog main) (H : Facts) {b : Nat} {pa v : Value} (hp : pa = .pointer none ∨ pa = .pointer (some ⟨b,0,none⟩)) : Spec L 90 #[.pointer (some ⟨b,0,none⟩)] (.own b (.cells #[pa,v] 77 (0,0)) :: H)
  (fun u H' => u = .tuple #[] ∧ H' = .own b (.cells #[.pointer (some ⟨b,0,none⟩),v] 77 (0,0)) :: H) := by
 refine Spec.enter Tryz.func90 rfl (by simp [Tryz.f90]) fun c cs hc => ?_
 rcases hp with rfl | rfl
 ·refine At.seq ?_
  refine At.region ?_;refine Aa Z Z Z Z Z O ?_;refine Ae Z Z Z Z (q_nilP Z Z) ?_;refine Ah 0 Z Z Z Z Z Z Z ?_;refine Af 0 Z Z Z Z Z Z Z Z Z ?_;refine Ae Z Z Z Z (q_ptrNil Z Z) ?_;refine Ab ?_;refine At.cond Z ?_;refine At.region ?_;(iterate 2 refine Aa Z Z Z Z Z O ?_);refine Ae Z Z Z Z (q_toUnsafe Z Z (List.mem_cons_self ..) rfl (by simp)) ?_
  refine Ae Z Z Z Z (q_ext (g := 125) Z Z Z fun Q hQ => k_same hQ) ?_;refine Ae Z Z Z Z (q_fromUnsafe Z Z (List.mem_cons_self ..) (by kernel_rfl)) ?_;refine Ae Z Z Z Z (q_nilP Z Z) ?_;refine Ah 0 Z Z Z Z Z Z Z ?_;refine Ag 0 Z Z Z Z Z Z Z Z Z Z Z Z ?_;refine Ab ?_
  exact At.ret Tryz.func90 (.inl rfl) rfl .nil (wk (hc _ _ (⟨rfl,rfl⟩)))
 ·refine At.seq ?_
  refine At.region ?_;refine Aa Z Z Z Z Z O ?_;refine Ae Z Z Z Z (q_nilP Z Z) ?_;refine Ah 0 Z Z Z Z Z Z Z ?_;refine Af 0 Z Z Z Z Z Z Z Z Z ?_;refine Ae Z Z Z Z (q_ptrNil Z Z) ?_;refine Ab ?_;refine At.cond Z ?_;refine At.seq (At.region ?_);refine Aa Z Z Z Z Z O ?_;refine Ae Z Z Z Z (q_nilP Z Z) ?_;refine Ah 0 Z Z Z Z Z Z Z ?_
  refine Af 0 Z Z Z Z Z Z Z Z Z ?_;refine Aa Z Z Z Z Z O ?_;refine Ae Z Z Z Z (q_ptrNe Z Z Z Z) ?_;refine Ab ?_;refine At.cond Z ?_;refine At.skip ?_
  exact At.ret Tryz.func90 (.inl rfl) rfl .nil (wk (hc _ _ (⟨rfl,rfl⟩)))
set_option maxRecDepth 100000 in
theorem s34 (L : Lg Tryz.prog main) (H sf : Facts) {b : Nat} {pa v : Value} {xs w : List UInt8} (hp : pa = .pointer none ∨ pa = .pointer (some ⟨b,0,none⟩)) (hs : Sl cB 5 v xs sf) (hw : 0 < w.length) (hl : xs.length + w.length ≤ 100000) : Spec L 34 #[.pointer (some ⟨b,0,none⟩),.string (S w)] (.own b (.cells #[pa,v] 77 (0,0)) :: (sf ++ H))
  (fun u H' => ∃ v' sf',u = .tuple #[.int .i64 w.length,.nilIface] ∧ Sl cB 5 v' (xs ++ w) sf' ∧ H' = .own b (.cells #[.pointer (some ⟨b,0,none⟩),v'] 77 (0,0)) :: (sf' ++ H)) := by
 refine Spec.enter Tryz.func34 rfl (by simp [Tryz.f34]) fun c cs hc => ?_
 have stop90 := trivial
 refine At.seq (At.region ?_);(iterate 2 refine Aa Z Z Z Z Z O ?_);refine Ab (At.seq (At.region ?_));refine Aa Z Z Z Z Z O ?_
 clear stop90
 refine Ay Z Z Z Z Z Z Z Z (s90 L _ (v := v) hp) ?_
 rintro _ _ ⟨rfl,rfl⟩
 obtain ⟨a,cap,rfl⟩ := hs.slice
 refine Ab (At.seq (At.region ?_));(iterate 2 refine Aa Z Z Z Z Z O ?_);refine Ae Z Z Z Z (q_nilP Z Z) ?_;refine Ah 1 Z Z Z Z Z Z Z ?_;refine Af 0 Z Z Z Z Z Z Z Z Z ?_;refine Aa Z Z Z Z Z O ?_;refine At.appS Z Z Z Z Z Z Z Z Z Z Z Z hs List.perm_middle hw hl fun v' sf' hs' => ?_
 refine At.weakH (H' := .own b (.cells #[.pointer (some ⟨b,0,none⟩),.slice a xs.length cap] 77 (0,0)) :: (sf' ++ H)) ?_ (Sub.of_perm List.perm_middle.symm)
 obtain ⟨a2,cap2,rfl⟩ := hs'.slice
 refine Ae Z Z Z Z (q_nilP Z Z) ?_;refine Ah 1 Z Z Z Z Z Z Z ?_;refine Ag 0 Z Z Z Z Z Z Z Z Z Z Z Z ?_;refine Ab (At.seq (At.region ?_));refine Aa Z Z Z Z Z O ?_;refine Ae Z Z Z Z (q_lenSS Z Z Z Z) ?_;(iterate 2 refine Aa Z Z Z Z Z O ?_);refine Ab ?_
 exact At.ret Tryz.func34 (.inr ⟨_,rfl⟩) rfl (.tmp rfl (.tmp rfl .nil)) (wk (hc _ _ (⟨_,sf',rfl,hs',rfl⟩)))
theorem fnx151 : (Extern.findNext Tryz.f151).isNone = true := by kernel_rfl
theorem fx151 : Extern.find Tryz.f151 = some (Extern.BytealgMakeNoZero.makeNoZero #[3] #[75]) := by kernel_rfl
instance : ExI Tryz.prog 151 (Extern.BytealgMakeNoZero.makeNoZero #[3] #[75]) := ⟨_,Tryz.func151,by kernel_rfl,rfl,fnx151,fx151⟩
set_option maxRecDepth 100000 in
theorem s126 (L : Lg Tryz.prog main) (H : Facts) {b n : Nat} {pa : Value} (hn : 0 < n ∧ n ≤ 100000) : Spec L 126 #[.pointer (some ⟨b,0,none⟩),.int .i64 (n : Int)] (.own b (.cells #[pa,.slice none 0 0] 77 (0,0)) :: H)
  (fun u H' => ∃ v' sf',u = .tuple #[] ∧ Sl cB 5 v' [] sf' ∧ H' = .own b (.cells #[pa,v'] 77 (0,0)) :: (sf' ++ H)) := by
 refine Spec.enter Tryz.func126 rfl (by simp [Tryz.f126]) fun c cs hc => ?_;refine At.seq ?_;refine Bd hmix (_) sb ?_;refine Ac 0 Z Z Z Z Z Z Z O ?_;refine Ak 1 Z Z Z Z Z (q_nilP Z Z) rfl ?_;refine Am 1 2 Z Z Z Z Z Z Z Z Z ?_;refine Aj 0 3 Z Z Z Z Z Z Z Z Z Z Z ?_;refine Ak 4 Z Z Z Z Z (q_cap Z Z Z Z) rfl ?_;refine Ac 5 Z Z Z Z Z Z Z (by omega) ?_
 refine Ac 6 Z Z Z Z Z Z Z O ?_;refine Ac 7 Z Z Z Z Z Z Z (by omega) ?_;refine Ac 9 Z Z Z Z Z Z Z O ?_;refine Ak 10 Z Z Z Z Z (q_nilP Z Z) rfl ?_;refine Am 1 11 Z Z Z Z Z Z Z Z Z ?_;refine Aj 0 12 Z Z Z Z Z Z Z Z Z Z Z ?_;refine Pool.ln 13 Z Z Z Z Z Z Z Z Z Z ?_
 refine Pool.lo 8 (Post := fun v H' => ∃ r cap l,n ≤ cap ∧ l.length = cap ∧ v = .slice (some ⟨r,0,none⟩) n cap ∧ H' = .own r (.cells (List.toArray l) 5 (0,0)) :: .own b (.cells #[pa,.slice none 0 0] 77 (0,0)) :: H) Z Z Z Z Z Z Z Z Z Z Z (l_ext (g := 151) Z Z Z (by
  rw [show (2 * ((0 : Nat) : Int) + (n : Int)) = ((n : Nat) : Int) by omega]
  exact k_makeNoZero Z Z (by omega) fun r cap l h1 h2 => ⟨r,cap,l,h1,h2,rfl,rfl⟩)) ?_
 rintro _ _ ⟨r,cap,l,hcap,hlen,rfl,rfl⟩
 refine ⟨(Sub.refl _).drop _,?_⟩
 have hc0 : cap ≠ 0 := by omega
 refine Ak 14 Z Z Z Z Z (q_sliceH (h := (0)) Z Z Z (by omega)) rfl ?_;refine Ac 15 Z Z Z Z Z Z Z O ?_;refine pool_done Z Z ?_;refine Ab (At.seq (At.region ?_));(iterate 2 refine Aa Z Z Z Z Z O ?_);refine Ae Z Z Z Z (q_nilP Z Z) ?_;refine Ah 1 Z Z Z Z Z Z Z ?_;refine Af 1 Z Z Z Z Z Z Z Z Z ?_
 rw [show slA (some ⟨r,0,none⟩) cap 0 1 = some ⟨r,0,none⟩ from by unfold slA;rw [if_neg hc0];rfl]
 obtain ⟨x,l,rfl⟩ : ∃ x l',l = x :: l' := by
  cases l with
  | nil => simp at hlen;omega
  | cons x l => exact ⟨x,l,rfl⟩
 refine At.l Z Z Z Z (l_copy 0 (t := 75) (vs := []) Z Z Z Z Z (by omega) (.inl rfl) (by simp) rfl (by simp) Z Z) ?_
 rintro _ _ ⟨rfl,rfl⟩
 refine Ab (At.region ?_);(iterate 2 refine Aa Z Z Z Z Z O ?_);refine Ae Z Z Z Z (q_nilP Z Z) ?_;refine Ah 1 Z Z Z Z Z Z Z ?_;refine Ag 1 Z Z Z Z Z Z Z Z Z Z Z Z ?_;refine Ab ?_
 refine At.weakH (H' := .own b (.cells #[pa,.slice (some ⟨r,0,none⟩) 0 cap] 77 (0,0)) :: .own r (.cells (List.toArray (x :: l)) 5 (0,0)) :: H) ?_ (Sub.of_perm (List.Perm.swap ..))
 exact At.ret Tryz.func126 (.inl rfl) rfl .nil (wk (hc _ _ (⟨.slice (some ⟨r,0,none⟩) 0 cap,[_],rfl,IsSl.own r cap 0 [] (x :: l) rfl (by simpa using hlen) (by omega),rfl⟩)))
end Go.Gx
end
section
namespace Go.Gx
open Go Go.Conc Go.Proofs
variable {main : Bool}
set_option maxRecDepth 100000 in
theorem s91 (L : Lg Tryz.prog main) (H : Facts) {b n : Nat} {pa : Value} (hp : pa = .pointer none ∨ pa = .pointer (some ⟨b,0,none⟩)) (hn : 0 < n ∧ n ≤ 100000) : Spec L 91 #[.pointer (some ⟨b,0,none⟩),.int .i64 (n : Int)] (.own b (.cells #[pa,.slice none 0 0] 77 (0,0)) :: H)
  (fun u H' => ∃ v' sf',u = .tuple #[] ∧ Sl cB 5 v' [] sf' ∧ H' = .own b (.cells #[.pointer (some ⟨b,0,none⟩),v'] 77 (0,0)) :: (sf' ++ H)) := by
 refine Spec.enter Tryz.func91 rfl (by simp [Tryz.f91]) fun c cs hc => ?_
 have stop90 := trivial
 refine At.seq (At.region ?_);refine Aa Z Z Z Z Z O ?_
 clear stop90
 refine Ay Z Z Z Z Z Z Z Z (s90 L _ (v := .slice none 0 0) hp) ?_
 rintro _ _ ⟨rfl,rfl⟩
 have stop126 := trivial
 refine Ab (At.seq (At.seq (At.region ?_)));refine Aa Z Z Z Z Z O ?_;refine Ad Z Z Z Z Z fun b7 h7 => ?_;refine Ab ?_
 obtain rfl : b7 = false := h7.symm.trans (by kernel_rfl)
 refine At.cond Z ?_;refine At.skip (At.seq ?_);refine Aw hmix [] rfl ?_;refine Ac 0 Z Z Z Z Z Z Z O ?_;refine Ak 1 Z Z Z Z Z (q_nilP Z Z) rfl ?_;refine Am 1 2 Z Z Z Z Z Z Z Z Z ?_;refine Aj 0 3 Z Z Z Z Z Z Z Z Z Z Z ?_;refine Ak 4 Z Z Z Z Z (q_cap Z Z Z Z) rfl ?_;refine Ac 5 Z Z Z Z Z Z Z O ?_
 refine Ak 6 Z Z Z Z Z (q_nilP Z Z) rfl ?_;refine Am 1 7 Z Z Z Z Z Z Z Z Z ?_;refine Aj 0 8 Z Z Z Z Z Z Z Z Z Z Z ?_;refine Pool.ln 9 Z Z Z Z Z Z Z Z Z Z ?_;refine Ac 10 Z Z Z Z Z Z Z (by omega) ?_;refine Ac 11 Z Z Z Z Z Z Z O ?_;refine Bb 12 Z Z Z Z Z Z Z fun b21 h21 => ?_;refine pool_done Z Z ?_;refine Ab ?_
 obtain rfl : b21 = true := h21.symm.trans (decide_eq_true (by omega))
 refine At.cond Z ?_;refine At.region ?_;(iterate 2 refine Aa Z Z Z Z Z O ?_)
 clear stop126
 refine Ay Z Z Z Z Z Z Z Z (s126 L _ (n := n) hn) ?_
 rintro _ _ ⟨v',sf',rfl,hs,rfl⟩
 refine Ab ?_
 exact At.ret Tryz.func91 (.inl rfl) rfl .nil (wk (hc _ _ (⟨v',sf',rfl,hs,rfl⟩)))
theorem depth_ne (p : Program) : p.depth ≠ 0 := by unfold Program.depth;omega
instance : BytI Tryz.prog 5 := ⟨by kernel_rfl,by kernel_rfl,depth_ne _⟩
instance : PtrI Tryz.prog 168 5 := ⟨by kernel_rfl⟩
set_option maxRecDepth 100000 in
theorem s38 (L : Lg Tryz.prog main) (H sf : Facts) {b : Nat} {pa v : Value} {xs : List UInt8} (hs : Sl cB 5 v xs sf) (hx : 0 < xs.length) (hl : xs.length ≤ 100000) : Spec L 38 #[.pointer (some ⟨b,0,none⟩)] (.own b (.cells #[pa,v] 77 (0,0)) :: (sf ++ H))
  (fun u H' => u = .string (S xs) ∧ H' = H) := by
 refine Spec.enter Tryz.func38 rfl (by simp [Tryz.f38]) fun c cs hc => ?_
 unfold Sl at hs
 generalize hvs : xs.flatMap cB = vs at hs
 generalize hm : xs.length = m at hs hx hl
 cases hs with
 | nil => omega
 | own r cap _ _ rest hl2 hc2 hm2 =>
  subst hvs
  have stopDraw := trivial
  refine At.seq (At.region ?_);refine Aa Z Z Z Z Z O ?_;refine Ab (At.seq ?_)
  clear stopDraw
  refine Aw hmix [1] rfl ?_;refine Ac 0 Z Z Z Z Z Z Z O ?_;refine Ak 1 Z Z Z Z Z (q_nilP Z Z) rfl ?_;refine Am 1 2 Z Z Z Z Z Z Z Z Z ?_;refine Aj 0 3 Z Z Z Z Z Z Z Z Z Z Z ?_;refine Ac 5 Z Z Z Z Z Z Z O ?_;refine Ak 6 Z Z Z Z Z (q_nilP Z Z) rfl ?_;refine Am 1 7 Z Z Z Z Z Z Z Z Z ?_
  refine Aj 0 8 Z Z Z Z Z Z Z Z Z Z Z ?_;refine Pool.ln 9 Z Z Z Z Z Z Z Z Z Z ?_;refine Ak 4 Z Z Z Z Z (q_sliceData Z Z Z (by omega)) rfl ?_;refine Pool.lo 10 Z Z Z Z Z Z Z Z Z Z Z (l_unsafeString (t := 168) (w := xs) (rest := rest) Z Z Z Z Z hm.symm hx (by omega) (setF_upd (i := 1) Z Z)) ?_
  rintro _ _ ⟨rfl,rfl⟩
  refine ⟨Sub.cons _ ((Sub.refl _).drop _),?_⟩
  refine Ac 11 Z Z Z Z Z Z Z O ?_;refine pool_done Z Z ?_;refine Ab ?_
  exact At.ret Tryz.func38 (.inr ⟨_,rfl⟩) rfl (.tmp rfl .nil) (wk (hc _ _ (⟨rfl,rfl⟩)))
end Go.Gx
end
section
namespace Go.Gx
open Go Go.Conc Go.Proofs
variable {main : Bool}
theorem joinB_snoc {b : UInt8} {f : List UInt8} : ∀ {fs : List (List UInt8)},fs ≠ [] → joinB b (fs ++ [f]) = joinB b fs ++ [b] ++ f
 | [],h => absurd rfl h
 | [g],_ => by simp [joinB]
 | g :: g' :: fs,_ => by
  have ih := joinB_snoc (b := b) (f := f) (fs := g' :: fs) (by simp)
  show g ++ b :: joinB b ((g' :: fs) ++ [f]) = _
  rw [ih]
  simp [joinB]
theorem joinB_take {b : UInt8} {fs : List (List UInt8)} {j : Nat} {f : List UInt8} (h : fs[j + 1]? = some f) : joinB b (fs.take (j + 1 + 1)) = joinB b (fs.take (j + 1)) ++ [b] ++ f := by
 obtain ⟨h1,h2⟩ := List.getElem?_eq_some_iff.1 h
 rw [List.take_succ_eq_append_getElem h1,h2]
 exact joinB_snoc (by intro e;have := congrArg List.length e;rw [List.length_take,List.length_nil] at this;omega)
theorem joinB_small {b : UInt8} : ∀ {fs : List (List UInt8)},(∀ f ∈ fs,f.length ≤ 50) → (joinB b fs).length ≤ 51 * fs.length
 | [],_ => by simp [joinB]
 | [f],h => by have := h f (by simp);simp only [joinB,List.length_cons,List.length_nil];omega
 | f :: g :: fs,h => by
  have ih := joinB_small (b := b) (fs := g :: fs) fun x hx => h x (List.mem_cons_of_mem _ hx)
  have := h f (by simp)
  simp only [joinB,List.length_append,List.length_cons] at ih ⊢
  omega
theorem quo_big {k : Int} (h1 : 1 ≤ k) (h2 : k ≤ 9) : 2 ≤ Int.tdiv 9223372036854775807 k ∧ Int.tdiv 9223372036854775807 k ≤ 9223372036854775807 := by
 rcases (show k = 1 ∨ k = 2 ∨ k = 3 ∨ k = 4 ∨ k = 5 ∨ k = 6 ∨ k = 7 ∨ k = 8 ∨ k = 9 by omega) with rfl | rfl | rfl | rfl | rfl | rfl | rfl | rfl | rfl <;> decide
set_option maxRecDepth 100000 in
theorem s35 (L : Lg Tryz.prog main) (H : Facts) {a : Option Addr} {n cap : Nat} {fs : List (List UInt8)} (hn : n = fs.length) (hr : Rd H a (fs.flatMap cS)) (h2 : 2 ≤ fs.length) (h10 : fs.length ≤ 10) (hcap : n ≤ cap) (hf : ∀ f ∈ fs,0 < f.length ∧ f.length ≤ 50) :
  Pure L 35 #[.slice a n cap,.string (S [32])] H (.string (S (joinB 32 fs))) := by
 refine Spec.enter Tryz.func35 rfl (by simp [Tryz.f35]) fun c cs hc => ?_
 subst hn
 obtain ⟨f0,hf0⟩ : ∃ f,fs[0]? = some f := ⟨_,List.getElem?_eq_getElem (show 0 < fs.length by omega)⟩
 obtain ⟨b,off,rfl,hc0⟩ := hr.el hf0
 have hf0' := hf f0 (List.mem_of_getElem? hf0)
 obtain ⟨hq1,hq2⟩ := quo_big (k := (fs.length : Int) - 1) (by omega) (by omega)
 have hl1 : ([32] : List UInt8).length = 1 := rfl
 refine At.seq (At.region ?_);refine Aa Z Z Z Z Z O ?_;refine Ab (At.seq (At.seq (At.region ?_)));refine Aa Z Z Z Z Z O ?_;refine Ao Z Z Z Z Z Z Z Z ?_;refine Ab ?_;refine At.block ?_;refine At.seq (At.region ?_);refine Ad Z Z Z Z Z fun b14 h14 => ?_;refine Aa Z Z Z Z Z O ?_;refine Ab ?_
 obtain rfl : b14 = false := h14.symm.trans (decide_eq_false (by omega))
 refine At.cond Z ?_;refine At.seq (At.region ?_);refine Ad Z Z Z Z Z fun b16 h16 => ?_;refine Aa Z Z Z Z Z O ?_;refine Ab ?_
 obtain rfl : b16 = false := h16.symm.trans (decide_eq_false (by omega))
 refine At.cond Z ?_;refine At.skip ?_;refine At.inBlock ?_;refine At.seq (At.region ?_);refine Aa Z Z Z Z Z O ?_;refine Ab (At.seq (At.seq (At.region ?_)));refine Aa Z Z Z Z Z O ?_;refine Ae Z Z Z Z (q_lenSS Z Z Z Z) ?_;refine Ad Z Z Z Z Z fun b22 h22 => ?_;refine Ab ?_
 obtain rfl : b22 = true := h22.symm.trans (by kernel_rfl)
 refine At.cond Z ?_;refine At.seq (At.seq (At.region ?_));refine Aa Z Z Z Z Z O ?_;refine Ae Z Z Z Z (q_lenSS Z Z Z Z) ?_;refine Aa Z Z Z Z Z O ?_;refine Ao Z Z Z Z Z Z Z Z ?_;(iterate 2 refine Aa Z Z Z Z Z (by omega) ?_);refine Ad Z Z Z Z Z fun b29 h29 => ?_;refine Ab ?_
 obtain rfl : b29 = false := h29.symm.trans (decide_eq_false (by omega))
 refine At.cond Z ?_;refine At.skip (At.region ?_);(iterate 2 refine Aa Z Z Z Z Z O ?_);refine Ae Z Z Z Z (q_lenSS Z Z Z Z) ?_;refine Aa Z Z Z Z Z O ?_;refine Ao Z Z Z Z Z Z Z Z ?_;refine Aa Z Z Z Z Z (by omega) ?_;refine Ae Z Z Z Z (q_mulW Z Z Z) ?_
 rw [show wr ((([32] : List UInt8).length : Int) * ((fs.length : Int) - 1)) = ((fs.length - 1 : Nat) : Int) from by
  rw [hl1,show ((1 : Nat) : Int) * ((fs.length : Int) - 1) = ((fs.length - 1 : Nat) : Int) by omega]
  exact wrap_in (by omega)]
 refine Aa Z Z Z Z Z (by omega) ?_;refine Aa Z Z Z Z Z O ?_;refine Ab (At.seq (At.seq (At.region ?_)));refine Aa Z Z Z Z Z O ?_;refine Ao Z Z Z Z Z Z Z Z ?_;refine Aa Z Z Z Z Z O ?_;refine Ab ?_;refine At.block ?_
 rw [show (0 : Int) + ((fs.length - 1 : Nat) : Int) = ((fs.length - 1 : Nat) : Int) by omega]
 refine Az (X := { x : Nat × Nat // x.1 ≤ fs.length ∧ x.2 ≤ 10 + 50 * x.1 ∧ 1 ≤ x.2 }) [0,1,4,39,40] (fun x => [(41,.int .i64 (x.1.1 : Int)),(5,.int .i64 (x.1.2 : Int))]) (fun _ => H) (fun x => fs.length - x.1.1) (⟨(0,fs.length - 1),by omega,by simp only;omega,by simp only;omega⟩) rfl ?_ (by repeat (first | exact trivial | refine ⟨rfl,?_⟩)) sb
 rintro ⟨⟨j,m⟩,hj,hm,hm1⟩ again
 simp only at again hj hm hm1 ⊢
 rcases Nat.lt_or_ge j fs.length with hlt | hge
 ·obtain ⟨f,hfj⟩ : ∃ f,fs[j]? = some f := ⟨_,List.getElem?_eq_getElem hlt⟩
  have hff := hf f (List.mem_of_getElem? hfj)
  obtain ⟨b',off',e,hcj⟩ := hr.el hfj
  cases e
  refine At.seq (At.region ?_);refine Ad Z Z Z Z Z fun b42 h42 => ?_;refine Ab (At.seq ?_)
  obtain rfl : b42 = true := h42.symm.trans (decide_eq_true (by omega))
  refine At.cond Z ?_;refine At.skip (At.seq ?_);refine At.block ?_;refine At.seq (At.region ?_);refine Ae Z Z Z Z (q_ia Z Z Z (by assumption)) ?_;refine Au Z Z Z Z Z Z hcj.a Z Z ?_;refine Aa Z Z Z Z Z O ?_;refine Ab (At.seq (At.seq (At.region ?_)));refine Aa Z Z Z Z Z O ?_;refine Ae Z Z Z Z (q_lenSS Z Z Z Z) ?_;refine Aa Z Z Z Z Z O ?_
  refine Aa Z Z Z Z Z (by omega) ?_;refine Ad Z Z Z Z Z fun b49 h49 => ?_;refine Ab ?_
  obtain rfl : b49 = false := h49.symm.trans (decide_eq_false (by omega))
  refine At.cond Z ?_;refine At.skip (At.region ?_);(iterate 2 refine Aa Z Z Z Z Z O ?_);refine Ae Z Z Z Z (q_lenSS Z Z Z Z) ?_;refine Aa Z Z Z Z Z (by omega) ?_;refine Aa Z Z Z Z Z O ?_;refine Ab ?_;refine At.inBlock ?_;refine At.region ?_;refine Aa Z Z Z Z Z (by omega) ?_;refine Aa Z Z Z Z Z O ?_;refine Ab ?_
  refine Aq ((again ⟨(j + 1,m + f.length),by omega,by simp only;omega,by simp only;omega⟩ (by simp only;omega)))
 ·have stop91 := trivial
  refine At.seq (At.region ?_);refine Ad Z Z Z Z Z fun b42 h42 => ?_;refine Ab (At.seq ?_)
  obtain rfl : b42 = false := h42.symm.trans (decide_eq_false (by omega))
  refine At.cond Z ?_;refine At.exit rfl ?_;refine At.seq (At.region ?_);refine Al Z Z Z Z Z fun r8 => ?_;refine Ab (At.seq (At.region ?_));refine Aa Z Z Z Z Z O ?_
  clear stop91
  refine Ay Z Z Z Z Z Z Z Z (s91 L _ (n := m) (.inl rfl) (by omega)) ?_
  rintro _ _ ⟨v1,sf1,rfl,hs1,rfl⟩
  have stop34 := trivial
  refine Ab (At.seq (At.region ?_));refine Aa Z Z Z Z Z O ?_;refine Ae Z Z Z Z (q_ia Z Z Z (by dsimp only;omega)) ?_;refine Au Z Z Z Z Z Z hc0.a Z Z ?_
  clear stop34
  refine Ay Z Z Z Z Z Z Z Z (s34 L _ sf1 (w := f0) (.inr rfl) hs1 (by omega) (by simp;omega)) ?_
  rintro _ _ ⟨v2,sf2,rfl,hs2,rfl⟩
  refine Ab (At.seq (At.seq (At.region ?_)));refine Aa Z Z Z Z Z O ?_;refine Ae Z Z Z Z (q_sliceL (l := 1) Z Z Z (by omega)) ?_;refine Ao Z Z Z Z Z Z Z Z ?_;refine Aa Z Z Z Z Z O ?_;refine Ab ?_;refine At.block ?_
  rw [show slA (some ⟨b,off,none⟩) cap 1 1 = some ⟨b,off + 1 * 1,none⟩ from by unfold slA;rw [if_neg (by omega)];rfl]
  have hs2' : Sl cB 5 v2 (joinB 32 (fs.take (0 + 1))) sf2 := by
   have e : fs.take (0 + 1) = [f0] := by
    obtain ⟨h1,h2⟩ := List.getElem?_eq_some_iff.1 hf0
    rw [List.take_succ_eq_append_getElem h1,h2];rfl
   rw [e];exact hs2
  refine Az (X := { x : Nat × Value × Facts // x.1 + 1 ≤ fs.length ∧ Sl cB 5 x.2.1 (joinB 32 (fs.take (x.1 + 1))) x.2.2 }) [1,4,8,63,64] (fun x => [(65,.int .i64 (x.1.1 : Int))]) (fun x => .own r8 (.cells #[.pointer (some ⟨r8,0,none⟩),x.1.2.1] 77 (0,0)) :: (x.1.2.2 ++ H)) (fun x => fs.length - x.1.1) (⟨(0,v2,sf2),by omega,hs2'⟩) rfl ?_ (by repeat (first | exact trivial | refine ⟨rfl,?_⟩)) sb
  rintro ⟨⟨j2,v3,sf3⟩,hj2,hs3⟩ again2
  simp only at again2 hj2 hs3 ⊢
  have hsm : (joinB 32 (fs.take (j2 + 1))).length ≤ 51 * 10 := by
   have := joinB_small (b := 32) (fs := fs.take (j2 + 1)) fun f hm => (hf f (List.mem_of_mem_take hm)).2
   rw [List.length_take] at this
   omega
  rcases Nat.lt_or_ge (j2 + 1) fs.length with hlt | hge2
  ·obtain ⟨f,hfj⟩ : ∃ f,fs[j2 + 1]? = some f := ⟨_,List.getElem?_eq_getElem hlt⟩
   have hff := hf f (List.mem_of_getElem? hfj)
   obtain ⟨b',off',e,hcj⟩ := hr.el hfj
   cases e
   have hcj' : Cells H b (off + 1 * 1 + j2 * 1) (cS f) := by
    rwa [show off + (j2 + 1) * 1 = off + 1 * 1 + j2 * 1 by omega] at hcj
   have hjt := joinB_take (b := 32) hfj
   have stop34 := trivial
   refine At.seq (At.region ?_);refine Ad Z Z Z Z Z fun b66 h66 => ?_;refine Ab (At.seq ?_)
   obtain rfl : b66 = true := h66.symm.trans (decide_eq_true (by omega))
   refine At.cond Z ?_;refine At.skip (At.seq ?_);refine At.block ?_;refine At.seq (At.region ?_);refine Ae Z Z Z Z (q_ia Z Z Z (by omega)) ?_;refine Au Z Z Z Z Z Z hcj'.a Z Z ?_;refine Aa Z Z Z Z Z O ?_;refine Ab (At.seq (At.region ?_));refine Aa Z Z Z Z Z O ?_
   clear stop34
   refine Ay Z Z Z Z Z Z Z Z (s34 L _ sf3 (w := [32]) (.inr rfl) hs3 (by simp) (by simp only [List.length_cons,List.length_nil];omega)) ?_
   rintro _ _ ⟨v4,sf4,rfl,hs4,rfl⟩
   have stop34 := trivial
   refine Ab (At.region ?_);refine Aa Z Z Z Z Z O ?_
   clear stop34
   refine Ay Z Z Z Z Z Z Z Z (s34 L _ sf4 (w := f) (.inr rfl) hs4 (by omega) (by simp only [List.length_append,List.length_cons,List.length_nil];omega)) ?_
   rintro _ _ ⟨v5,sf5,rfl,hs5,rfl⟩
   refine Ab ?_;refine At.inBlock ?_;refine At.region ?_;refine Aa Z Z Z Z Z (by omega) ?_;refine Aa Z Z Z Z Z O ?_;refine Ab ?_
   refine Aq ((again2 ⟨(j2 + 1,v5,sf5),by simp only;omega,by simp only;rw [hjt];exact hs5⟩ (by simp only;omega)))
  ·have stop38 := trivial
   refine At.seq (At.region ?_);refine Ad Z Z Z Z Z fun b66 h66 => ?_;refine Ab (At.seq ?_)
   obtain rfl : b66 = false := h66.symm.trans (decide_eq_false (by omega))
   refine At.cond Z ?_;refine At.exit rfl ?_;refine At.seq (At.region ?_)
   clear stop38
   rw [List.take_of_length_le hge2] at hs3 hsm
   refine Ay Z Z Z Z Z Z Z Z (s38 L _ sf3 hs3 (by have := @joinB_len 32 fs;omega) (by omega)) ?_
   rintro _ _ ⟨rfl,rfl⟩
   refine Aa Z Z Z Z Z O ?_;refine Ab ?_
   exact At.ret Tryz.func35 (.inr ⟨_,rfl⟩) rfl (.tmp rfl .nil) (wk (hc _ _ (⟨by rfl,rfl⟩)))
end Go.Gx
end
section
namespace Go.Gx
open Go Go.Conc Go.Proofs
variable {main : Bool}
def lineB (k : Nat) (fs : List (List UInt8)) : List UInt8 := joinB 32 (wordL k :: fs) ++ [10]
theorem lineB_eq {k : Nat} {fs : List (List UInt8)} (h : fs ≠ []) : wordL k ++ [32] ++ joinB 32 fs ++ [10] = lineB k fs := by
 cases fs with
 | nil => exact absurd rfl h
 | cons f fs => simp [lineB,joinB]
theorem wordL_len (k : Nat) : 0 < (wordL k).length ∧ (wordL k).length ≤ 6 := by
 unfold wordL
 split <;> decide
set_option maxRecDepth 100000 in
theorem s33 (L : Lg Tryz.prog main) (H sf : Facts) (ht : TabT H) {b k n cap : Nat} {pa v : Value} {xs : List UInt8} {a : Option Addr} {fs : List (List UInt8)} (hk : k < 3) (hp : pa = .pointer none ∨ pa = .pointer (some ⟨b,0,none⟩)) (hs : Sl cB 5 v xs sf) (hn : n = fs.length) (hr : Rd H a (fs.flatMap cS)) (h2 : 2 ≤ fs.length) (h10 : fs.length ≤ 10) (hcap : n ≤ cap) (hf : ∀ f ∈ fs,0 < f.length ∧ f.length ≤ 50) (hx : xs.length ≤ 50000) :
  Spec L 33 #[.int .i64 (k : Int),.slice a n cap,.pointer (some ⟨b,0,none⟩)] (.own b (.cells #[pa,v] 77 (0,0)) :: (sf ++ H)) (fun u H' => ∃ v' sf',u = .tuple #[] ∧ Sl cB 5 v' (xs ++ lineB k fs) sf' ∧ H' = .own b (.cells #[.pointer (some ⟨b,0,none⟩),v'] 77 (0,0)) :: (sf' ++ H)) := by
 refine Spec.enter Tryz.func33 rfl (by simp [Tryz.f33]) fun c cs hc => ?_
 have hjl := joinB_small (b := 32) (fs := fs) fun f hm => (hf f hm).2
 have hjl0 := @joinB_len 32 fs
 have hwl := wordL_len k
 have htw := ht.w
 have hck : Cells H 0 (0 + k * 1) [.string (S (wordL k))] := by
  rcases (show k = 0 ∨ k = 1 ∨ k = 2 by omega) with rfl | rfl | rfl
  ·exact htw.s 0 1 rfl
  ·exact htw.s 1 1 rfl
  ·exact htw.s 2 1 rfl
 clear htw
 skip
 refine Bd hmix (H) sb ?_
 have stop35 := trivial
 refine Ac 0 Z Z Z Z Z Z Z O ?_;refine Ak 1 Z Z Z Z Z (q_iaA Z Z Z (by assumption)) rfl ?_;refine Ax 2 Z Z Z Z Z Z Z hck.a Z Z Z ?_;refine Ak 3 Z Z Z Z Z (q_cat Z Z Z (by simp;omega)) rfl ?_;refine Ac 4 Z Z Z Z Z Z Z O ?_
 clear stop35
 refine Ap 5 Z Z Z Z Z Z Z Z Z (fun H_ hs_ => s35 L H_ hn (hr.more hs_) h2 h10 hcap hf) ?_
 have stop34 := trivial
 refine Ak 6 Z Z Z Z Z (q_cat Z Z Z (by simp;omega)) rfl ?_;refine Ak 7 Z Z Z Z Z (q_cat Z Z Z (by simp;omega)) rfl ?_;refine pool_lastI 8 Z Z Z Z Z ?_
 clear stop34
 have hfe : fs ≠ [] := fun e => by rw [e] at h2;simp at h2
 rw [lineB_eq hfe]
 have hll : 0 < (lineB k fs).length ∧ (lineB k fs).length ≤ 1000 := by
  rw [← lineB_eq hfe]
  simp only [List.length_append,List.length_cons,List.length_nil];omega
 refine Ay Z Z Z Z Z Z Z Z (s34 L _ sf (w := lineB k fs) hp hs hll.1 (by omega)) ?_
 rintro _ _ ⟨v',sf',rfl,hs',rfl⟩
 refine Ab ?_
 exact At.ret Tryz.func33 (.inl rfl) rfl .nil (wk (hc _ _ (⟨v',sf',rfl,hs',rfl⟩)))
end Go.Gx
end
section
namespace Go.Gx
open Go Go.Conc Go.Proofs
variable {main : Bool}
def pieces : LI → List (List UInt8)
 | .c n lo hi => [sayI n,bandL2 lo hi]
 | .p x => [sayI x.1,sayI x.2]
 | .m x => [sayI x.1.1,sayI x.1.2,sayI x.2]
def kindN : LI → Nat
 | .c _ _ _ => 0
 | .p _ => 1
 | .m _ => 2
def lineI (i : LI) : List UInt8 := lineB (kindN i) (pieces i)
def itemsB (B : Bk) : List LI := .c B.size B.lo B.hi :: (B.prof.map .p ++ B.marks.map .m)
def textB (B : Bk) : List UInt8 := (itemsB B).flatMap lineI
theorem sayI_pos {i : Int} : 0 < (sayI i).length := by
 unfold sayI digs
 split <;> split <;> simp
theorem bandL2_len {lo hi : Int} : 0 < (bandL2 lo hi).length ∧ (bandL2 lo hi).length ≤ 7 := by
 have h1 := @sayI_len lo
 have h2 := @sayI_len hi
 have h3 := @sayI_pos lo
 unfold bandL2
 split
 ·omega
 ·simp only [List.length_append,List.length_cons,List.length_nil];omega
theorem pieces_ok {i : LI} : ∀ f ∈ pieces i,0 < f.length ∧ f.length ≤ 50 := by
 intro f hf
 cases i with
 | c n lo hi =>
  simp only [pieces,List.mem_cons,List.not_mem_nil,or_false] at hf
  rcases hf with rfl | rfl
  ·exact ⟨sayI_pos,by have := @sayI_len n;omega⟩
  ·exact ⟨bandL2_len.1,by have := (@bandL2_len lo hi).2;omega⟩
 | p x =>
  simp only [pieces,List.mem_cons,List.not_mem_nil,or_false] at hf
  rcases hf with rfl | rfl
  ·exact ⟨sayI_pos,by have := @sayI_len x.1;omega⟩
  ·exact ⟨sayI_pos,by have := @sayI_len x.2;omega⟩
 | m x =>
  simp only [pieces,List.mem_cons,List.not_mem_nil,or_false] at hf
  rcases hf with rfl | rfl | rfl
  ·exact ⟨sayI_pos,by have := @sayI_len x.1.1;omega⟩
  ·exact ⟨sayI_pos,by have := @sayI_len x.1.2;omega⟩
  ·exact ⟨sayI_pos,by have := @sayI_len x.2;omega⟩
theorem lineI_len {i : LI} : 0 < (lineI i).length ∧ (lineI i).length ≤ 400 := by
 have h1 := wordL_len (kindN i)
 have h2 : (joinB 32 (wordL (kindN i) :: pieces i)).length ≤ 51 * (wordL (kindN i) :: pieces i).length := joinB_small fun f hf => by
  rcases List.mem_cons.1 hf with rfl | hf
  ·omega
  ·exact (pieces_ok f hf).2
 have h3 : (pieces i).length ≤ 3 := by cases i <;> simp [pieces]
 unfold lineI lineB
 simp only [List.length_append,List.length_cons,List.length_nil] at h2 ⊢
 omega
theorem flatL_len {α : Type} {f : α → List UInt8} (h : ∀ x,(f x).length ≤ 400) : ∀ l : List α,(l.flatMap f).length ≤ 400 * l.length
 | [] => by simp
 | x :: l => by
  have := flatL_len h l
  have := h x
  simp only [List.flatMap_cons,List.length_append,List.length_cons];omega
theorem flatL_take {α : Type} {f : α → List UInt8} {l : List α} {j : Nat} {x : α} (h : l[j]? = some x) : (l.take (j + 1)).flatMap f = (l.take j).flatMap f ++ f x := by
 obtain ⟨h1,h2⟩ := List.getElem?_eq_some_iff.1 h
 rw [List.take_succ_eq_append_getElem h1,h2,List.flatMap_append,List.flatMap_singleton]
section
variable {P : Program} {L : Lg P main} {f : FuncId} {ro : Option Nat} {ds : Dz} {cs : List Frame} {n : Nat} {E : Env} {todo : List Item}
theorem At.bld1 {a g : Fact} {sf X : Facts} (h : At L f ro ds cs n E (g :: (sf ++ (a :: X))) todo) : At L f ro ds cs n E (a :: g :: (sf ++ X)) todo :=
 h.weakH (Sub.of_perm (((List.perm_append_comm_assoc sf [a] X).cons g).trans (List.perm_middle (l₁ := [a]) (a := g) (l₂ := sf ++ X)).symm))
theorem At.bld3 {a b c g : Fact} {sf X : Facts} (h : At L f ro ds cs n E (g :: (sf ++ (a :: b :: c :: X))) todo) : At L f ro ds cs n E (a :: b :: c :: g :: (sf ++ X)) todo :=
 h.weakH (Sub.of_perm (((List.perm_append_comm_assoc sf [a,b,c] X).cons g).trans (List.perm_middle (l₁ := [a,b,c]) (a := g) (l₂ := sf ++ X)).symm))
theorem At.fwd1 {a c g : Fact} {sf X : Facts} (h : At L f ro ds cs n E (c :: g :: (sf ++ X)) todo) : At L f ro ds cs n E (g :: (sf ++ (a :: c :: X))) todo :=
 h.weakH (((Sub.of_perm ((List.perm_middle (l₁ := [c]) (a := g) (l₂ := sf ++ X)).trans ((List.perm_append_comm_assoc sf [c] X).symm.cons g)))).trans ((((Sub.refl _).drop a).appL sf).cons g))
theorem At.fwd2 {a b c g : Fact} {sf X : Facts} (h : At L f ro ds cs n E (c :: g :: (sf ++ X)) todo) : At L f ro ds cs n E (g :: (sf ++ (a :: b :: c :: X))) todo :=
 h.weakH (((Sub.of_perm ((List.perm_middle (l₁ := [c]) (a := g) (l₂ := sf ++ X)).trans ((List.perm_append_comm_assoc sf [c] X).symm.cons g)))).trans (((((Sub.refl _).drop b).drop a).appL sf).cons g))
end
theorem markBar_bd {m : R2 × Int} (h : markBar m = 0) : (-20 ≤ m.1.1 ∧ m.1.1 ≤ 20 ∧ 1 ≤ m.1.2 ∧ m.1.2 ≤ 20) ∧ 0 ≤ m.2 ∧ m.2 ≤ 90 := by
 unfold markBar at h
 split at h
 ·next h' => exact absurd h h'
 ·next h' =>
  have h1 := slOk_of_bar (s := m.1) (by simpa using h')
  refine ⟨h1,?_⟩
  unfold hBar at h
  split at h
  ·next hh => exact hh
  ·cases h
set_option maxRecDepth 100000 in
theorem s7 (L : Lg Tryz.prog main) (H : Facts) (hg : Cells H 1 0 chkC) (ht : TabT H) (hten : Cells H 4 0 tenC) {B : Bk} {A : BkA} (hB : BkR H B A) (hz : bookBar B = 0) : Pure L 7 #[bkV B A] H (.tuple #[.string (S (textB B)),.int .i64 0]) := by
 refine Spec.enter Tryz.func7 rfl (by simp [Tryz.f7]) fun c cs hc => ?_
 obtain ⟨hp2,hp5,hpp,hs1,hs30,hlo,hlh,hhi,hd,hm4,hmm⟩ := bounds_of_bar hz
 have stop32 := trivial
 refine At.seq (At.region ?_);refine An Z Z Z Z Z Z Z fun r1 => ?_;(iterate 2 refine Aa Z Z Z Z Z O ?_);refine Ab (At.seq (At.seq (At.region ?_)));refine Af 0 Z Z Z Z Z Z Z Z Z ?_
 clear stop32
 refine Ai Z Z Z Z Z Z Z Z (s32 L _ (B := B) (A := A) hg.a hB.a (by omega) (by omega)) ?_
 rw [hz]
 have stopDraw := trivial
 refine Aa Z Z Z Z Z O ?_;refine Ab (At.seq (At.region ?_));refine Aa Z Z Z Z Z O ?_;refine Ad Z Z Z Z Z fun b15 h15 => ?_;refine Ab ?_
 obtain rfl : b15 = false := h15.symm.trans (by kernel_rfl)
 refine At.cond Z ?_;refine At.skip (At.seq (At.region ?_));refine Al Z Z Z Z Z fun r5 => ?_;refine Ab (At.seq (At.region ?_));(iterate 2 refine Aa Z Z Z Z Z O ?_);refine Ab (At.seq (At.region ?_));refine Aa Z Z Z Z Z O ?_;refine Ab (At.seq ?_)
 clear stopDraw
 refine Aw hmix [0] rfl ?_
 have stop36 := trivial
 have stop37 := trivial
 refine Ac 0 Z Z Z Z Z Z Z O ?_;refine Ac 1 Z Z Z Z Z Z Z O ?_;refine Am 1 2 Z Z Z Z Z Z Z Z Z ?_;refine Aj 0 3 Z Z Z Z Z Z Z Z Z Z Z ?_;refine Am 2 5 Z Z Z Z Z Z Z Z Z ?_;refine Aj 0 6 Z Z Z Z Z Z Z Z Z Z Z ?_
 clear stop36
 refine Ap 4 Z Z Z Z Z Z Z Z Z (fun H_ hs_ => s36 L H_ hten.a (by omega) (by omega)) ?_
 clear stop37
 refine Ap 7 Z Z Z Z Z Z Z Z Z (fun H_ hs_ => s37 L H_ hten.a (by omega) (by omega) (by omega) (by omega)) ?_
 have stop33 := trivial
 refine Pool.bs 8 Z Z Z Z Z Z Z Z Z Z Z Z Z Z Z sb fun r26 => ?_;refine pool_lastI 9 Z Z Z Z Z ?_
 clear stop33
 refine At.bld1 (sf := []) ?_;refine Ay Z Z Z Z Z Z Z Z (s33 L _ [] (k := 0) (fs := [sayI B.size,bandL2 B.lo B.hi]) ht.a (by omega) (.inl rfl) Sl.nil rfl (rd_cells (cells_all (List.mem_cons_self ..))) (by simp) (by simp) (by simp) (pieces_ok (i := .c B.size B.lo B.hi)) (by simp)) ?_
 rintro _ _ ⟨v1,sf1,rfl,hv1,rfl⟩
 refine At.fwd1 ?_;refine Ab (At.seq (At.seq (At.region ?_)));refine Ah 0 Z Z Z Z Z Z Z ?_;refine Af 0 Z Z Z Z Z Z Z Z Z ?_;refine Ao Z Z Z Z Z Z Z Z ?_;refine Aa Z Z Z Z Z O ?_;refine Ab ?_;refine At.block ?_
 have hv1' : Sl cB 5 v1 (lineI (.c B.size B.lo B.hi) ++ (B.prof.take 0).flatMap fun p => lineI (.p p)) sf1 := by
  rw [List.take_zero,List.flatMap_nil,List.append_nil]
  exact hv1
 refine Az (X := { x : Nat × Value × Facts // x.1 ≤ B.prof.length ∧ Sl cB 5 x.2.1 (lineI (.c B.size B.lo B.hi) ++ (B.prof.take x.1).flatMap fun p => lineI (.p p)) x.2.2 }) [1,2,3,5,6,7,29,30] (fun x => [(31,.int .i64 (x.1.1 : Int))]) (fun x => .own r1 (.cells (List.toArray (bkC B A)) 27 (0,0)) :: .own r5 (.cells #[.pointer (some ⟨r5,0,none⟩),x.1.2.1] 77 (0,0)) :: (x.1.2.2 ++ H)) (fun x => B.prof.length - x.1.1) (⟨(0,v1,sf1),Nat.zero_le _,hv1'⟩) rfl ?_ (by repeat (first | exact trivial | refine ⟨rfl,?_⟩)) sb
 rintro ⟨⟨j,v2,sf2⟩,hj,hv2⟩ again
 simp only at again hj hv2 ⊢
 rcases Nat.lt_or_ge j B.prof.length with hlt | hge
 ·obtain ⟨p,hpj⟩ : ∃ p,B.prof[j]? = some p := ⟨_,List.getElem?_eq_getElem hlt⟩
  have hpo := hpp p (List.mem_of_getElem? hpj)
  unfold PtOk at hpo
  obtain ⟨b',off',epa,hcj⟩ := hB.p.el hpj
  have hln := (@lineI_len (.c B.size B.lo B.hi)).2
  have htl := flatL_len (f := fun p => lineI (.p p)) (fun x => (@lineI_len (.p x)).2) (B.prof.take j)
  rw [List.length_take] at htl
  have stopDraw := trivial
  refine At.seq (At.region ?_);refine Ad Z Z Z Z Z fun b32 h32 => ?_;refine Ab (At.seq ?_)
  obtain rfl : b32 = true := h32.symm.trans (decide_eq_true (by omega))
  refine At.cond Z ?_;refine At.skip (At.seq ?_);refine At.block ?_;refine At.seq (At.region ?_);refine Ae Z Z Z Z (q_iaQ (k := (j)) Z Z Z (by assumption) rfl (by assumption)) ?_;refine Au Z Z Z Z Z Z hcj.a Z Z ?_;refine Al Z Z Z Z Z fun r9 => ?_;refine Ag 0 Z Z Z Z Z Z Z Z Z Z Z Z ?_;refine Ab ?_
  clear stopDraw
  refine Bd hmix ((.own r9 (.cells (List.toArray (c2 p)) 89 (0,0)) :: H)) sb ?_
  have stop36 := trivial
  refine Ac 0 Z Z Z Z Z Z Z O ?_;refine Ac 1 Z Z Z Z Z Z Z O ?_;refine Am 0 2 Z Z Z Z Z Z Z Z Z ?_;refine Aj 0 3 Z Z Z Z Z Z Z Z Z Z Z ?_;refine Ac 5 Z Z Z Z Z Z Z O ?_;refine Am 1 6 Z Z Z Z Z Z Z Z Z ?_;refine Aj 0 7 Z Z Z Z Z Z Z Z Z Z Z ?_
  clear stop36
  refine Ap 4 Z Z Z Z Z Z Z Z Z (fun H_ hs_ => s36 L H_ hten.a (by omega) (by omega)) ?_
  have stop36 := trivial
  skip
  clear stop36
  refine Ap 8 Z Z Z Z Z Z Z Z Z (fun H_ hs_ => s36 L H_ hten.a (by omega) (by omega)) ?_
  have stop33 := trivial
  refine Pool.bs 9 Z Z Z Z Z Z Z Z Z Z Z Z Z Z Z sb fun r44 => ?_;refine pool_lastI 10 Z Z Z Z Z ?_
  clear stop33
  refine At.bld3 ?_;refine Ay Z Z Z Z Z Z Z Z (s33 L _ sf2 (k := 1) (fs := [sayI p.1,sayI p.2]) ht.a (by omega) (.inr rfl) hv2 rfl (rd_cells (cells_all (List.mem_cons_self ..))) (by simp) (by simp) (by simp) (pieces_ok (i := .p p)) (by simp only [List.length_append];omega)) ?_
  rintro _ _ ⟨v3,sf3,rfl,hv3,rfl⟩
  refine At.fwd2 ?_;refine Ab ?_;refine At.inBlock ?_;refine At.region ?_;refine Aa Z Z Z Z Z (by omega) ?_;refine Aa Z Z Z Z Z O ?_;refine Ab ?_
  rw [List.append_assoc] at hv3
  refine Aq ((again ⟨(j + 1,v3,sf3),by simp only;omega,by simp only;rw [flatL_take hpj];exact hv3⟩ (by simp only;omega)))
 ·rw [List.take_of_length_le hge] at hv2
  have hln := (@lineI_len (.c B.size B.lo B.hi)).2
  have htl0 := flatL_len (f := fun p => lineI (.p p)) (fun x => (@lineI_len (.p x)).2) B.prof
  refine At.seq (At.region ?_);refine Ad Z Z Z Z Z fun b32 h32 => ?_;refine Ab (At.seq ?_)
  obtain rfl : b32 = false := h32.symm.trans (decide_eq_false (by omega))
  refine At.cond Z ?_;refine At.exit rfl ?_;refine At.seq (At.seq (At.region ?_));refine Ah 4 Z Z Z Z Z Z Z ?_;refine Af 0 Z Z Z Z Z Z Z Z Z ?_;refine Ao Z Z Z Z Z Z Z Z ?_;refine Aa Z Z Z Z Z O ?_;refine Ab ?_;refine At.block ?_
  have hv2' : Sl cB 5 v2 (lineI (.c B.size B.lo B.hi) ++ (B.prof.flatMap fun p => lineI (.p p)) ++ (B.marks.take 0).flatMap fun p => lineI (.m p)) sf2 := by
   rw [List.take_zero,List.flatMap_nil,List.append_nil]
   exact hv2
  refine Az (X := { x : Nat × Value × Facts // x.1 ≤ B.marks.length ∧ Sl cB 5 x.2.1 (lineI (.c B.size B.lo B.hi) ++ (B.prof.flatMap fun p => lineI (.p p)) ++ (B.marks.take x.1).flatMap fun p => lineI (.m p)) x.2.2 }) [2,3,5,6,7,48,49] (fun x => [(50,.int .i64 (x.1.1 : Int))]) (fun x => .own r1 (.cells (List.toArray (bkC B A)) 27 (0,0)) :: .own r5 (.cells #[.pointer (some ⟨r5,0,none⟩),x.1.2.1] 77 (0,0)) :: (x.1.2.2 ++ H)) (fun x => B.marks.length - x.1.1) (⟨(0,v2,sf2),Nat.zero_le _,hv2'⟩) rfl ?_ (by repeat (first | exact trivial | refine ⟨rfl,?_⟩)) sb
  rintro ⟨⟨j3,v4,sf4⟩,hj3,hv4⟩ again3
  simp only at again3 hj3 hv4 ⊢
  rcases Nat.lt_or_ge j3 B.marks.length with hlt | hge3
  ·obtain ⟨m,hmj⟩ : ∃ p,B.marks[j3]? = some p := ⟨_,List.getElem?_eq_getElem hlt⟩
   obtain ⟨hmb1,hmb2⟩ := markBar_bd (hmm m (List.mem_of_getElem? hmj))
   obtain ⟨b',off',epa,hcj⟩ := hB.m.el hmj
   have htl := flatL_len (f := fun p => lineI (.m p)) (fun x => (@lineI_len (.m x)).2) (B.marks.take j3)
   rw [List.length_take] at htl
   have stopDraw := trivial
   refine At.seq (At.region ?_);refine Ad Z Z Z Z Z fun b51 h51 => ?_;refine Ab (At.seq ?_)
   obtain rfl : b51 = true := h51.symm.trans (decide_eq_true (by omega))
   refine At.cond Z ?_;refine At.skip (At.seq ?_);refine At.block ?_;refine At.seq (At.region ?_);refine Ae Z Z Z Z (q_iaQ (k := (j3)) Z Z Z (by assumption) rfl (by assumption)) ?_;refine Au Z Z Z Z Z Z hcj.a Z Z ?_;refine Al Z Z Z Z Z fun r11 => ?_;refine Ag 0 Z Z Z Z Z Z Z Z Z Z Z Z ?_;refine Ab ?_
   clear stopDraw
   refine Bd hmix ((.own r11 (.cells (List.toArray (c3 m)) 72 (0,0)) :: H)) sb ?_
   have stop36 := trivial
   refine Ac 0 Z Z Z Z Z Z Z O ?_;refine Ac 1 Z Z Z Z Z Z Z O ?_;refine Am 0 2 Z Z Z Z Z Z Z Z Z ?_;refine Am 0 3 Z Z Z Z Z Z Z Z Z ?_;refine Aj 0 4 Z Z Z Z Z Z Z Z Z Z Z ?_;refine Ac 6 Z Z Z Z Z Z Z O ?_;refine Am 0 7 Z Z Z Z Z Z Z Z Z ?_;refine Am 1 8 Z Z Z Z Z Z Z Z Z ?_
   refine Aj 0 9 Z Z Z Z Z Z Z Z Z Z Z ?_;refine Ac 11 Z Z Z Z Z Z Z O ?_;refine Am 2 12 Z Z Z Z Z Z Z Z Z ?_;refine Aj 0 13 Z Z Z Z Z Z Z Z Z Z Z ?_
   clear stop36
   refine Ap 5 Z Z Z Z Z Z Z Z Z (fun H_ hs_ => s36 L H_ hten.a (by omega) (by omega)) ?_
   have stop36 := trivial
   skip
   clear stop36
   refine Ap 10 Z Z Z Z Z Z Z Z Z (fun H_ hs_ => s36 L H_ hten.a (by omega) (by omega)) ?_
   have stop36 := trivial
   skip
   clear stop36
   refine Ap 14 Z Z Z Z Z Z Z Z Z (fun H_ hs_ => s36 L H_ hten.a (by omega) (by omega)) ?_
   have stop33 := trivial
   refine Pool.bs 15 Z Z Z Z Z Z Z Z Z Z Z Z Z Z Z sb fun r69 => ?_;refine pool_lastI 16 Z Z Z Z Z ?_
   clear stop33
   refine At.bld3 ?_;refine Ay Z Z Z Z Z Z Z Z (s33 L _ sf4 (k := 2) (fs := [sayI m.1.1,sayI m.1.2,sayI m.2]) ht.a (by omega) (.inr rfl) hv4 rfl (rd_cells (cells_all (List.mem_cons_self ..))) (by simp) (by simp) (by simp) (pieces_ok (i := .m m)) (by simp only [List.length_append];omega)) ?_
   rintro _ _ ⟨v5,sf5,rfl,hv5,rfl⟩
   refine At.fwd2 ?_;refine Ab ?_;refine At.inBlock ?_;refine At.region ?_;refine Aa Z Z Z Z Z (by omega) ?_;refine Aa Z Z Z Z Z O ?_;refine Ab ?_
   rw [List.append_assoc] at hv5
   refine Aq ((again3 ⟨(j3 + 1,v5,sf5),by simp only;omega,by simp only;rw [flatL_take hmj];exact hv5⟩ (by simp only;omega)))
  ·rw [List.take_of_length_le hge3] at hv4
   have htl := flatL_len (f := fun p => lineI (.m p)) (fun x => (@lineI_len (.m x)).2) B.marks
   have hln0 := (@lineI_len (.c B.size B.lo B.hi)).1
   have hte : lineI (.c B.size B.lo B.hi) ++ (B.prof.flatMap fun p => lineI (.p p)) ++ (B.marks.flatMap fun p => lineI (.m p)) = textB B := by
    simp [textB,itemsB,List.flatMap_map]
   have hls : 0 < (textB B).length ∧ (textB B).length ≤ 100000 := by
    rw [← hte]
    simp only [List.length_append];omega
   rw [hte] at hv4
   refine At.bld1 ?_
   have stop38 := trivial
   refine At.seq (At.region ?_);refine Ad Z Z Z Z Z fun b51 h51 => ?_;refine Ab (At.seq ?_)
   obtain rfl : b51 = false := h51.symm.trans (decide_eq_false (by omega))
   refine At.cond Z ?_;refine At.exit rfl ?_;refine At.seq (At.region ?_)
   clear stop38
   refine Ay Z Z Z Z Z Z Z Z (s38 L _ sf4 hv4 hls.1 hls.2) ?_
   rintro _ _ ⟨rfl,rfl⟩
   (iterate 2 refine Aa Z Z Z Z Z O ?_);refine Ab ?_
   exact At.ret Tryz.func7 (.inr ⟨_,rfl⟩) rfl (.tmp rfl (.tmp rfl .nil)) (wk (hc _ _ (⟨by rfl,rfl⟩)))
end Go.Gx
end
section
namespace Go.Gx
open Go Go.Conc
class Back (sf X : Facts) (Y : outParam Facts) : Prop where
 s : Sub Y (sf ++ X)
instance (priority := low) backNil {sf X : Facts} : Back sf X (sf ++ X) := ⟨Sub.refl _⟩
instance backCons {sf X Y : Facts} {r : Nat} {o : Obj} [h : Back sf X Y] : Back sf (.own r o :: X) (.own r o :: Y) :=
 ⟨(Sub.cons _ h.s).trans (Sub.of_perm List.perm_middle.symm)⟩
theorem At.back {P : Program} {main : Bool} {L : Lg P main} {f : FuncId} {ro : Option Nat} {ds : Dz} {cs : List Frame} {n : Nat} {E : Env} {k : List Item} {sf X Y : Facts} [hb : Back sf X Y] (h : At L f ro ds cs n E Y k) : At L f ro ds cs n E (sf ++ X) k :=
 h.weakH hb.s
end Go.Gx
end
section
namespace Go.Gx
open Go Go.Conc
theorem Sl.share {α : Type} {c : α → List Value} {sz : Nat} [he : Enc c sz] {T : TypeId} {v : Value} {xs : List α} {sf : Facts} (h : Sl c T v xs sf) :
  ∃ sg : Facts,(∀ f ∈ sg,f.isOwn = false) ∧ (∀ a n cap,v = .slice a n cap → Rd sg a (xs.flatMap c)) ∧
   ∀ {P : Program} {main : Bool} {L : Lg P main} {f : FuncId} {ro : Option Nat} {ds : Dz} {cs : List Frame} {n : Nat} {E : Env} {k : List Item} {H : Facts},At L f ro ds cs n E (sg ++ H) k → At L f ro ds cs n E (sf ++ H) k := by
 unfold Sl at h
 generalize hvs : xs.flatMap c = vs at h
 generalize hk : xs.length = k at h
 cases h with
 | nil => exact ⟨[],by simp,fun a n cap e => by cases e;exact .inl rfl,fun h => h⟩
 | own b cap _ _ rest hl hc hm =>
  refine ⟨[.seg b 0 (vs ++ rest)],?_,?_,fun h => At.share h⟩
  ·intro f hf
   rw [List.mem_singleton] at hf
   subst hf
   rfl
  ·intro a n cap' e
   cases e
   exact rd_cells (by have := cells_seg (H := [.seg b 0 (vs ++ rest)]) (vs := vs) (us := vs ++ rest) (b := b) (off := 0) 0 (by simp) (by simp);simpa using this)
end Go.Gx
end
section
namespace Go.Gx
open Go Go.Conc Go.Proofs
variable {main : Bool}
theorem s5 (L : Lg Tryz.prog main) (H : Facts) {B : Bk} {A : BkA} : Pure L 5 #[bkV B A] H (.bool (decide (20 < B.prof.length ∨ 20 < B.marks.length))) := by
 refine Spec.enter Tryz.func5 rfl (by simp [Tryz.f5]) fun c cs hc => ?_
 obtain ⟨prof,size,lo,hi,marks⟩ := B
 obtain ⟨pa,pc,ma,mc⟩ := A
 simp only at hc ⊢
 refine At.seq (At.region ?_);refine An Z Z Z Z Z Z Z fun r1 => ?_;refine Aa Z Z Z Z Z O ?_;refine Ab (At.seq (At.region ?_));refine Ah 0 Z Z Z Z Z Z Z ?_;refine Af 0 Z Z Z Z Z Z Z Z Z ?_;refine Ao Z Z Z Z Z Z Z Z ?_;refine Ad Z Z Z Z Z fun b6 h6 => ?_;refine Aa Z Z Z Z Z O ?_
 cases b6
 ·have e : ¬ 20 < prof.length := by simp at h6;omega
  refine Ah 4 Z Z Z Z Z Z Z ?_;refine Af 0 Z Z Z Z Z Z Z Z Z ?_;refine Ao Z Z Z Z Z Z Z Z ?_;refine Ad Z Z Z Z Z fun b11 h11 => ?_;(iterate 2 refine Aa Z Z Z Z Z O ?_);refine Ab ?_
  exact At.ret Tryz.func5 (.inr ⟨_,rfl⟩) rfl (.tmp rfl .nil) (wk (hc _ _ (⟨by rw [← h11];exact congrArg Value.bool (decide_eq_decide.2 (by dsimp only;omega)),rfl⟩)))
 ·refine Ar Z Z Z Z ?_
  (iterate 3 refine Ar Z Z Z Z ?_);(iterate 2 refine Aa Z Z Z Z Z O ?_);refine Ab ?_
  exact At.ret Tryz.func5 (.inr ⟨_,rfl⟩) rfl (.tmp rfl .nil) (wk (hc _ _ (⟨by simp_all [resVal];try omega,rfl⟩)))
set_option maxRecDepth 100000 in
set_option maxHeartbeats 4000000 in
theorem s12 (L : Lg Tryz.prog main) (H : Facts) {B : Bk} {A : BkA} (hB : BkR H B A) (hl : B.prof.length ≤ 100000) (hm : B.marks.length ≤ 100000) : Pure L 12 #[bkV B A] H (.int .i64 (bookBar B)) := by
 refine Spec.enter Tryz.func12 rfl (by simp [Tryz.f12]) fun c cs hc => ?_
 obtain ⟨prof,size,lo,hi,marks⟩ := B
 obtain ⟨pa,pc,ma,mc⟩ := A
 obtain ⟨hrp,hrm⟩ := hB
 simp only at hrp hrm hl hm
 simp only [bookBar] at hc
 refine At.seq (At.region ?_);refine An Z Z Z Z Z Z Z fun r1 => ?_;refine Aa Z Z Z Z Z O ?_;refine Ab (At.seq (At.seq (At.region ?_)));refine Ah 0 Z Z Z Z Z Z Z ?_;refine Af 0 Z Z Z Z Z Z Z Z Z ?_;refine Ao Z Z Z Z Z Z Z Z ?_;refine Bc Z Z Z Z Z Z Z Z (s49 L _) fun b10 h10 => ?_;refine Aa Z Z Z Z Z O ?_;refine Ab ?_
 cases b10
 ·have e : profBar prof = 2 := by simp at h10;unfold profBar;rw [if_pos (by omega)]
  refine At.cond Z ?_;refine At.seq (At.region ?_);refine Aa Z Z Z Z Z O ?_;refine Ab ?_
  exact At.ret Tryz.func12 (.inr ⟨_,rfl⟩) rfl (.tmp rfl .nil) (wk (hc _ _ (⟨by simp [resVal,e],rfl⟩)))
 have hpb : profBar prof = ptsBar none prof := by simp at h10;unfold profBar;rw [if_neg (by omega)]
 simp only [hpb] at hc
 refine At.cond Z ?_;refine At.skip (At.seq (At.seq (At.region ?_)));refine Aa Z Z Z Z Z O ?_;refine Ab ?_;refine At.block ?_
 refine Az (X := { j : Nat // j ≤ prof.length ∧ ptsBar (prevO prof j) (prof.drop j) = ptsBar none prof }) [1] (fun x => [(3,.int .i64 (x.1 : Int))]) (fun _ => .own r1 (.cells (List.toArray (bkC ⟨prof,size,lo,hi,marks⟩ ⟨pa,pc,ma,mc⟩)) 27 (0,0)) :: H) (fun x => prof.length - x.1) (⟨0,Nat.zero_le _,rfl⟩) rfl ?_ (by repeat (first | exact trivial | refine ⟨rfl,?_⟩)) sb
 rintro ⟨j,hj,hd⟩ again
 simp only at again ⊢
 refine At.seq (At.seq (At.region ?_));refine Aa Z Z Z Z Z O ?_;refine Ah 0 Z Z Z Z Z Z Z ?_;refine Af 0 Z Z Z Z Z Z Z Z Z ?_;refine Ao Z Z Z Z Z Z Z Z ?_;refine Ad Z Z Z Z Z fun b16 h16 => ?_;refine Ab ?_
 cases b16
 rotate_left
 ·have hlt : j < prof.length := by simp at h16;omega
  obtain ⟨b,off,rfl,hc1⟩ := hrp.el (List.getElem?_eq_getElem hlt)
  rw [List.drop_eq_getElem_cons hlt,ptsBar_cons] at hd
  refine At.cond Z ?_;refine At.skip (At.seq ?_);refine At.block ?_;refine At.seq (At.region ?_);refine Ah 0 Z Z Z Z Z Z Z ?_;refine Af 0 Z Z Z Z Z Z Z Z Z ?_;refine Aa Z Z Z Z Z O ?_;refine Ae Z Z Z Z (q_ia Z Z Z (by assumption)) ?_;refine Au Z Z Z Z Z Z hc1.a Z Z ?_;refine Al Z Z Z Z Z fun r4 => ?_;refine Ag 0 Z Z Z Z Z Z Z Z Z Z Z Z ?_
  refine Ab (At.seq (At.seq (At.region ?_)));refine Ah 0 Z Z Z Z Z Z Z ?_;refine Af 0 Z Z Z Z Z Z Z Z Z ?_;refine Bc Z Z Z Z Z Z Z Z (s49 L _) fun b26 h26 => ?_;(iterate 2 refine Aa Z Z Z Z Z O ?_)
  cases b26
  ·rw [if_pos (by simp at h26;omega)] at hd
   (iterate 4 refine Ar Z Z Z Z ?_);refine Aa Z Z Z Z Z O ?_;refine Ab ?_;refine At.cond Z ?_;refine At.seq (At.region ?_);refine Aa Z Z Z Z Z O ?_;refine Ab ?_
   exact At.ret Tryz.func12 (.inr ⟨_,rfl⟩) rfl (.tmp rfl .nil) (wk (hc _ _ (⟨by rw [← hd];rfl,rfl⟩)))
  ·refine Ah 1 Z Z Z Z Z Z Z ?_
   refine Af 0 Z Z Z Z Z Z Z Z Z ?_;refine Bc Z Z Z Z Z Z Z Z (s49 L _) fun b31 h31 => ?_;(iterate 2 refine Aa Z Z Z Z Z O ?_);refine Ab ?_
   cases b31
   ·rw [if_pos (by simp at h31;omega)] at hd
    refine At.cond Z ?_;refine At.seq (At.region ?_);refine Aa Z Z Z Z Z O ?_;refine Ab ?_
    exact At.ret Tryz.func12 (.inr ⟨_,rfl⟩) rfl (.tmp rfl .nil) (wk (hc _ _ (⟨by rw [← hd];rfl,rfl⟩)))
   ·rw [if_neg (by simp at h26 h31;omega)] at hd
    cases j with
    | zero =>
     refine At.cond Z ?_;refine At.skip (At.seq ?_);refine Aw hmix [] rfl ?_;refine Ac 0 Z Z Z Z Z Z Z O ?_;refine Bb 1 Z Z Z Z Z Z Z fun b35 h35 => ?_;refine Ac 2 Z Z Z Z Z Z Z O ?_
     cases b35
     ·rw [if_neg (by simp [prevO])] at hd
      refine Av 3 Z Z Z Z Z Z ?_;refine Av 4 Z Z Z Z Z Z ?_;refine Av 5 Z Z Z Z Z Z ?_;refine Av 6 Z Z Z Z Z Z ?_;refine Av 7 Z Z Z Z Z Z ?_;refine Av 8 Z Z Z Z Z Z ?_;refine Av 9 Z Z Z Z Z Z ?_;refine Av 10 Z Z Z Z Z Z ?_;refine Av 11 Z Z Z Z Z Z ?_;refine Av 12 Z Z Z Z Z Z ?_
      refine Ac 13 Z Z Z Z Z Z Z O ?_;refine pool_done Z Z ?_;refine Ab ?_;refine At.cond Z ?_;refine At.skip ?_;refine At.inBlock ?_;refine At.region ?_;refine Aa Z Z Z Z Z O ?_;refine Aa Z Z Z Z Z (by omega) ?_;refine Aa Z Z Z Z Z O ?_;refine Ab ?_
      refine Aq ((again ⟨0 + 1,hlt,by rw [← hd];simp [prevO,hlt]⟩ (by simp;omega)))
     ·simp at h35
    | succ i =>
     have hlt' : i < prof.length := by omega
     obtain ⟨b',off',e',hc2⟩ := hrp.el (List.getElem?_eq_getElem hlt')
     cases e'
     have hpr : prevO prof (i + 1) = some prof[i].2 := by simp [prevO,hlt']
     rw [hpr] at hd
     refine At.cond Z ?_;refine At.skip (At.seq ?_);refine Aw hmix [] rfl ?_;refine Ac 0 Z Z Z Z Z Z Z O ?_;refine Bb 1 Z Z Z Z Z Z Z fun b35 h35 => ?_;refine Ac 2 Z Z Z Z Z Z Z O ?_
     cases b35
     ·simp at h35 <;> omega
     ·refine Am 1 3 Z Z Z Z Z Z Z Z Z ?_
      refine Aj 0 4 Z Z Z Z Z Z Z Z Z Z Z ?_;refine Am 0 5 Z Z Z Z Z Z Z Z Z ?_;refine Aj 1 6 Z Z Z Z Z Z Z Z Z Z Z ?_;refine Ac 7 Z Z Z Z Z Z Z O ?_;refine Ac 8 Z Z Z Z Z Z Z (by omega) ?_;refine Ak 9 Z Z Z Z Z (q_iaN (k := (i + 1 - 1)) Z Z Z (by omega) (by assumption)) rfl ?_;refine Pool.faE 10 Z Z Z Z Z Z Z Z ?_
      refine Ax 11 Z Z Z Z Z Z Z (hc2.s 1 1 rfl) Z Z Z ?_;refine Bb 12 Z Z Z Z Z Z Z fun b46 h46 => ?_;refine Ac 13 Z Z Z Z Z Z Z O ?_;refine pool_done Z Z ?_;refine Ab ?_
      cases b46
      ·rw [if_neg (by simpa using h46)] at hd
       refine At.cond Z ?_;refine At.skip ?_;refine At.inBlock ?_;refine At.region ?_;refine Aa Z Z Z Z Z O ?_;refine Aa Z Z Z Z Z (by omega) ?_;refine Aa Z Z Z Z Z O ?_;refine Ab ?_
       refine Aq ((again ⟨i + 1 + 1,hlt,by rw [← hd];simp [prevO,hlt]⟩ (by simp;omega)))
      ·rw [if_pos (by simpa using h46)] at hd
       refine At.cond Z ?_;refine At.seq (At.region ?_);refine Aa Z Z Z Z Z O ?_;refine Ab ?_
       exact At.ret Tryz.func12 (.inr ⟨_,rfl⟩) rfl (.tmp rfl .nil) (wk (hc _ _ (⟨by rw [← hd];rfl,rfl⟩)))
 ·have e : j = prof.length := by simp at h16;omega
  subst e
  rw [List.drop_length] at hd
  have hz : ptsBar none prof = 0 := hd.symm
  simp only [hz] at hc
  refine At.cond Z ?_;refine At.exit rfl ?_;refine At.seq (At.seq (At.region ?_));refine Ah 1 Z Z Z Z Z Z Z ?_;refine Af 0 Z Z Z Z Z Z Z Z Z ?_;refine Bc Z Z Z Z Z Z Z Z (s49 L _) fun b50 h50 => ?_;(iterate 2 refine Aa Z Z Z Z Z O ?_)
  cases b50
  ·have e : sizeBar ⟨prof,size,lo,hi,marks⟩ = 1 := by simp at h50;unfold sizeBar;rw [if_pos (by simp only;omega)]
   (iterate 4 refine Ar Z Z Z Z ?_);(iterate 2 refine Aa Z Z Z Z Z O ?_);(iterate 8 refine Ar Z Z Z Z ?_);refine Aa Z Z Z Z Z O ?_;refine Ab ?_;refine At.cond Z ?_;refine At.seq (At.region ?_);refine Aa Z Z Z Z Z O ?_;refine Ab ?_
   exact At.ret Tryz.func12 (.inr ⟨_,rfl⟩) rfl (.tmp rfl .nil) (wk (hc _ _ (⟨by simp [resVal,e],rfl⟩)))
  refine Ah 2 Z Z Z Z Z Z Z ?_;refine Af 0 Z Z Z Z Z Z Z Z Z ?_;refine Bc Z Z Z Z Z Z Z Z (s50 L _) fun b55 h55 => ?_;(iterate 3 refine Aa Z Z Z Z Z O ?_)
  cases b55
  ·have e : sizeBar ⟨prof,size,lo,hi,marks⟩ = 1 := by simp at h55;unfold sizeBar;rw [if_pos (by simp only;omega)]
   (iterate 8 refine Ar Z Z Z Z ?_);refine Aa Z Z Z Z Z O ?_;refine Ab ?_;refine At.cond Z ?_;refine At.seq (At.region ?_);refine Aa Z Z Z Z Z O ?_;refine Ab ?_
   exact At.ret Tryz.func12 (.inr ⟨_,rfl⟩) rfl (.tmp rfl .nil) (wk (hc _ _ (⟨by simp [resVal,e],rfl⟩)))
  have e55 : 0 ≤ lo ∧ lo ≤ hi ∧ hi ≤ 90 := by simpa using h55
  have e50 : 1 ≤ size ∧ size ≤ 30 := by simpa using h50
  refine Ah 2 Z Z Z Z Z Z Z ?_;refine Ah 3 Z Z Z Z Z Z Z ?_;refine Af 0 Z Z Z Z Z Z Z Z Z ?_;(iterate 2 refine Ah 2 Z Z Z Z Z Z Z ?_);refine Af 0 Z Z Z Z Z Z Z Z Z ?_;refine Aa Z Z Z Z Z (by dsimp only;omega) ?_;refine Ad Z Z Z Z Z fun b66 h66 => ?_;refine Aa Z Z Z Z Z O ?_;refine Ab ?_
  dsimp only
  skip
  cases b66
  rotate_left
  ·have e : sizeBar ⟨prof,size,lo,hi,marks⟩ = 1 := by simp at h66;unfold sizeBar;rw [if_pos (by simp only;omega)]
   refine At.cond Z ?_;refine At.seq (At.region ?_);refine Aa Z Z Z Z Z O ?_;refine Ab ?_
   exact At.ret Tryz.func12 (.inr ⟨_,rfl⟩) rfl (.tmp rfl .nil) (wk (hc _ _ (⟨by simp [resVal,e],rfl⟩)))
  have hz2 : sizeBar ⟨prof,size,lo,hi,marks⟩ = 0 := by simp at h66;unfold sizeBar;rw [if_neg (by simp only;omega)]
  simp only [hz2] at hc
  refine At.cond Z ?_;refine At.skip (At.seq (At.seq (At.region ?_)));refine Ah 4 Z Z Z Z Z Z Z ?_;refine Af 0 Z Z Z Z Z Z Z Z Z ?_;refine Ao Z Z Z Z Z Z Z Z ?_;refine Ad Z Z Z Z Z fun b71 h71 => ?_;refine Ab ?_
  cases b71
  rotate_left
  ·have e : mksBar marks = 2 := by simp at h71;unfold mksBar;rw [if_pos (by omega)]
   refine At.cond Z ?_;refine At.seq (At.region ?_);refine Aa Z Z Z Z Z O ?_;refine Ab ?_
   exact At.ret Tryz.func12 (.inr ⟨_,rfl⟩) rfl (.tmp rfl .nil) (wk (hc _ _ (⟨by simp [resVal,e],rfl⟩)))
  have hpm : mksBar marks = marksBar marks := by simp at h71;unfold mksBar;rw [if_neg (by omega)]
  simp only [hpm] at hc
  refine At.cond Z ?_;refine At.skip (At.seq (At.seq (At.region ?_)));refine Aa Z Z Z Z Z O ?_;refine Ab ?_;refine At.block ?_
  refine Az (X := { j : Nat // j ≤ marks.length ∧ marksBar (marks.drop j) = marksBar marks }) [1] (fun x => [(5,.int .i64 (x.1 : Int))]) (fun _ => .own r1 (.cells (List.toArray (bkC ⟨prof,size,lo,hi,marks⟩ ⟨pa,pc,ma,mc⟩)) 27 (0,0)) :: H) (fun x => marks.length - x.1) (⟨0,Nat.zero_le _,rfl⟩) rfl ?_ (by repeat (first | exact trivial | refine ⟨rfl,?_⟩)) sb
  rintro ⟨j,hj,hd⟩ again2
  simp only at again2 ⊢
  refine At.seq (At.seq (At.region ?_));refine Aa Z Z Z Z Z O ?_;refine Ah 4 Z Z Z Z Z Z Z ?_;refine Af 0 Z Z Z Z Z Z Z Z Z ?_;refine Ao Z Z Z Z Z Z Z Z ?_;refine Ad Z Z Z Z Z fun b76 h76 => ?_;refine Ab ?_
  cases b76
  ·have e : j = marks.length := by simp at h76;omega
   subst e
   rw [List.drop_length] at hd
   refine At.cond Z ?_;refine At.exit rfl ?_;refine At.seq (At.region ?_);refine Aa Z Z Z Z Z O ?_;refine Ab ?_
   exact At.ret Tryz.func12 (.inr ⟨_,rfl⟩) rfl (.tmp rfl .nil) (wk (hc _ _ (⟨by rw [← hd];rfl,rfl⟩)))
  ·have hlt : j < marks.length := by simp at h76;omega
   obtain ⟨b,off,rfl,hc1⟩ := hrm.el (List.getElem?_eq_getElem hlt)
   rw [List.drop_eq_getElem_cons hlt,marksBar] at hd
   refine At.cond Z ?_;refine At.skip (At.seq ?_);refine At.block ?_;refine At.seq (At.seq (At.region ?_));refine Ah 4 Z Z Z Z Z Z Z ?_;refine Af 0 Z Z Z Z Z Z Z Z Z ?_;refine Aa Z Z Z Z Z O ?_;refine Ae Z Z Z Z (q_ia Z Z Z (by assumption)) ?_;refine At.faE Z Z Z Z Z Z ?_;refine Au Z Z Z Z Z Z (hc1.s 0 2 rfl) Z Z ?_;refine Ai Z Z Z Z Z Z Z Z (s51 L _) ?_
   refine Aa Z Z Z Z Z O ?_;refine Ab (At.seq (At.region ?_));refine Aa Z Z Z Z Z O ?_;refine Ad Z Z Z Z Z fun b87 h87 => ?_;refine Ab ?_
   cases b87
   rotate_left
   ·have e : slopeBar marks[j].1.1 marks[j].1.2 ≠ 0 := by simpa using h87
    have e2 : markBar marks[j] = slopeBar marks[j].1.1 marks[j].1.2 := by simp [markBar,e]
    rw [if_pos (by rw [e2];exact e),e2] at hd
    refine At.cond Z ?_;refine At.seq (At.region ?_);(iterate 2 refine Aa Z Z Z Z Z O ?_);refine Ab ?_
    exact At.ret Tryz.func12 (.inr ⟨_,rfl⟩) rfl (.tmp rfl .nil) (wk (hc _ _ (⟨by rw [← hd];rfl,rfl⟩)))
   ·have e : slopeBar marks[j].1.1 marks[j].1.2 = 0 := by simpa using h87
    have e2 : markBar marks[j] = hBar marks[j].2 := by simp [markBar,e]
    rw [e2] at hd
    refine At.cond Z ?_;refine At.skip (At.seq (At.region ?_));refine Ah 4 Z Z Z Z Z Z Z ?_;refine Af 0 Z Z Z Z Z Z Z Z Z ?_;refine Aa Z Z Z Z Z O ?_;refine Ae Z Z Z Z (q_ia Z Z Z (by assumption)) ?_;refine At.faE Z Z Z Z Z Z ?_;refine Au Z Z Z Z Z Z (hc1.s 2 1 rfl) Z Z ?_;refine Bc Z Z Z Z Z Z Z Z (s52 L _) fun b95 h95 => ?_;refine Aa Z Z Z Z Z O ?_
    refine Ab ?_
    cases b95
    ·have e3 : hBar marks[j].2 = 1 := by simp at h95;unfold hBar;rw [if_neg (by omega)]
     rw [if_pos (by omega),e3] at hd
     refine At.cond Z ?_;refine At.seq (At.region ?_);refine Aa Z Z Z Z Z O ?_;refine Ab ?_
     exact At.ret Tryz.func12 (.inr ⟨_,rfl⟩) rfl (.tmp rfl .nil) (wk (hc _ _ (⟨by rw [← hd];rfl,rfl⟩)))
    ·have e3 : hBar marks[j].2 = 0 := by simp at h95;unfold hBar;rw [if_pos (by omega)]
     rw [if_neg (by omega)] at hd
     refine At.cond Z ?_;refine At.skip ?_;refine At.inBlock ?_;refine At.region ?_;refine Aa Z Z Z Z Z O ?_;refine Aa Z Z Z Z Z (by omega) ?_;refine Aa Z Z Z Z Z O ?_;refine Ab ?_
     refine Aq ((again2 ⟨j + 1,hlt,hd⟩ (by simp;omega)))
def sameM (B C : Bk) : Bool := decide (B.size = C.size ∧ (B.lo = C.lo ∧ B.hi = C.hi) ∧ B.prof = C.prof ∧ B.marks = C.marks)
set_option maxRecDepth 100000 in
set_option maxHeartbeats 4000000 in
theorem s11 (L : Lg Tryz.prog main) (H : Facts) {B C : Bk} {A D : BkA} (hB : BkR H B A) (hC : BkR H C D) (hl : B.prof.length ≤ 100000) (hm : B.marks.length ≤ 100000) : Pure L 11 #[bkV B A,bkV C D] H (.bool (sameM B C)) := by
 refine Spec.enter Tryz.func11 rfl (by simp [Tryz.f11]) fun c cs hc => ?_
 have hp1 := hB.p
 have hp2 := hC.p
 have hm1 := hB.m
 have hm2 := hC.m
 unfold sameM at hc
 refine At.seq (At.region ?_);refine An Z Z Z Z Z Z Z fun r2 => ?_;refine An Z Z Z Z Z Z Z fun r3 => ?_;refine Aa Z Z Z Z Z O ?_;refine Ab (At.seq (At.seq (At.region ?_)));refine Ah 1 Z Z Z Z Z Z Z ?_;refine Af 1 Z Z Z Z Z Z Z Z Z ?_;refine Ah 1 Z Z Z Z Z Z Z ?_;refine Af 0 Z Z Z Z Z Z Z Z Z ?_;refine Ad Z Z Z Z Z fun b11 h11 => ?_
 refine Aa Z Z Z Z Z O ?_
 cases b11
 rotate_left
 ·have e : B.size ≠ C.size := by simpa using h11
  rw [decide_eq_false (fun h => e h.1)] at hc
  (iterate 5 refine Ar Z Z Z Z ?_);(iterate 2 refine Aa Z Z Z Z Z O ?_);(iterate 7 refine Ar Z Z Z Z ?_);(iterate 2 refine Aa Z Z Z Z Z O ?_);(iterate 7 refine Ar Z Z Z Z ?_);refine Aa Z Z Z Z Z O ?_;refine Ab ?_;refine At.cond Z ?_;refine At.seq (At.region ?_);refine Aa Z Z Z Z Z O ?_;refine Ab ?_
  exact At.ret Tryz.func11 (.inr ⟨_,rfl⟩) rfl (.tmp rfl .nil) (wk (hc _ _ (⟨by rfl,rfl⟩)))
 have q1 : B.size = C.size := by simpa using h11
 refine Ah 2 Z Z Z Z Z Z Z ?_;refine Af 1 Z Z Z Z Z Z Z Z Z ?_;refine Ah 2 Z Z Z Z Z Z Z ?_;refine Af 0 Z Z Z Z Z Z Z Z Z ?_;refine At.qb Z Z Z Z (q_neqS Z Z Z Z Z Z Z Z) fun b17 h17 => ?_;(iterate 2 refine Aa Z Z Z Z Z O ?_)
 cases b17
 rotate_left
 ·have e : ¬ (B.lo = C.lo ∧ B.hi = C.hi) := by
   rintro ⟨h1,h2⟩
   rw [h1,h2] at h17
   simp at h17
  rw [decide_eq_false (fun h => e h.2.1)] at hc
  (iterate 7 refine Ar Z Z Z Z ?_);(iterate 2 refine Aa Z Z Z Z Z O ?_);(iterate 7 refine Ar Z Z Z Z ?_);refine Aa Z Z Z Z Z O ?_;refine Ab ?_;refine At.cond Z ?_;refine At.seq (At.region ?_);refine Aa Z Z Z Z Z O ?_;refine Ab ?_
  exact At.ret Tryz.func11 (.inr ⟨_,rfl⟩) rfl (.tmp rfl .nil) (wk (hc _ _ (⟨by rfl,rfl⟩)))
 have q2 : B.lo = C.lo ∧ B.hi = C.hi := by simpa using h17
 refine Ah 0 Z Z Z Z Z Z Z ?_;refine Af 1 Z Z Z Z Z Z Z Z Z ?_;refine Ao Z Z Z Z Z Z Z Z ?_;refine Ah 0 Z Z Z Z Z Z Z ?_;refine Af 0 Z Z Z Z Z Z Z Z Z ?_;refine Ao Z Z Z Z Z Z Z Z ?_;refine Ad Z Z Z Z Z fun b26 h26 => ?_;(iterate 2 refine Aa Z Z Z Z Z O ?_)
 cases b26
 rotate_left
 ·have e : B.prof.length ≠ C.prof.length := by simp at h26;omega
  rw [decide_eq_false (fun h => e (by rw [h.2.2.1]))] at hc
  (iterate 7 refine Ar Z Z Z Z ?_);refine Aa Z Z Z Z Z O ?_;refine Ab ?_;refine At.cond Z ?_;refine At.seq (At.region ?_);refine Aa Z Z Z Z Z O ?_;refine Ab ?_
  exact At.ret Tryz.func11 (.inr ⟨_,rfl⟩) rfl (.tmp rfl .nil) (wk (hc _ _ (⟨by rfl,rfl⟩)))
 have q3 : B.prof.length = C.prof.length := by simp at h26;omega
 refine Ah 4 Z Z Z Z Z Z Z ?_;refine Af 1 Z Z Z Z Z Z Z Z Z ?_;refine Ao Z Z Z Z Z Z Z Z ?_;refine Ah 4 Z Z Z Z Z Z Z ?_;refine Af 0 Z Z Z Z Z Z Z Z Z ?_;refine Ao Z Z Z Z Z Z Z Z ?_;refine Ad Z Z Z Z Z fun b35 h35 => ?_;refine Aa Z Z Z Z Z O ?_;refine Ab ?_
 cases b35
 rotate_left
 ·have e : B.marks.length ≠ C.marks.length := by simp at h35;omega
  rw [decide_eq_false (fun h => e (by rw [h.2.2.2]))] at hc
  refine At.cond Z ?_;refine At.seq (At.region ?_);refine Aa Z Z Z Z Z O ?_;refine Ab ?_
  exact At.ret Tryz.func11 (.inr ⟨_,rfl⟩) rfl (.tmp rfl .nil) (wk (hc _ _ (⟨by rfl,rfl⟩)))
 have q4 : B.marks.length = C.marks.length := by simp at h35;omega
 refine At.cond Z ?_;refine At.skip (At.seq (At.seq (At.region ?_)));refine Aa Z Z Z Z Z O ?_;refine Ab ?_;refine At.block ?_
 refine Az (X := { j : Nat // j ≤ B.prof.length ∧ (B.prof.drop j = C.prof.drop j ↔ B.prof = C.prof) }) [2,3] (fun x => [(5,.int .i64 (x.1 : Int))]) (fun _ => .own r3 (.cells (List.toArray (bkC C D)) 27 (0,0)) :: .own r2 (.cells (List.toArray (bkC B A)) 27 (0,0)) :: H) (fun x => B.prof.length - x.1) (⟨0,Nat.zero_le _,Iff.rfl⟩) rfl ?_ (by repeat (first | exact trivial | refine ⟨rfl,?_⟩)) sb
 rintro ⟨j,hj,hd⟩ again
 simp only at again ⊢
 refine At.seq (At.seq (At.region ?_));refine Aa Z Z Z Z Z O ?_;refine Ah 0 Z Z Z Z Z Z Z ?_;refine Af 1 Z Z Z Z Z Z Z Z Z ?_;refine Ao Z Z Z Z Z Z Z Z ?_;refine Ad Z Z Z Z Z fun b41 h41 => ?_;refine Ab ?_
 cases b41
 rotate_left
 ·have h1 : j < B.prof.length := by simp at h41;omega
  have h2 : j < C.prof.length := by omega
  obtain ⟨pa,pc,ma,mc⟩ := A
  obtain ⟨pa',pc',ma',mc'⟩ := D
  obtain ⟨b,off,e1,c1⟩ := hp1.el (List.getElem?_eq_getElem h1)
  obtain ⟨b',off',e2,c2⟩ := hp2.el (List.getElem?_eq_getElem h2)
  simp only at e1 e2
  subst e1 e2
  rw [ext_drop q3 h1 h2] at hd
  refine At.cond Z ?_;refine At.skip (At.seq ?_);refine At.block ?_;refine At.seq ?_;refine Aw hmix [] rfl ?_;refine Am 0 0 Z Z Z Z Z Z Z Z Z ?_;refine Aj 1 1 Z Z Z Z Z Z Z Z Z Z Z ?_;refine Ac 2 Z Z Z Z Z Z Z O ?_;refine Ak 3 Z Z Z Z Z (q_ia Z Z Z (by assumption)) rfl ?_;refine Ax 4 Z Z Z Z Z Z Z c1.a Z Z Z ?_
  refine Am 0 5 Z Z Z Z Z Z Z Z Z ?_;refine Aj 0 6 Z Z Z Z Z Z Z Z Z Z Z ?_;refine Ac 7 Z Z Z Z Z Z Z O ?_;refine Ak 8 Z Z Z Z Z (q_ia Z Z Z (by assumption)) rfl ?_;refine Ax 9 Z Z Z Z Z Z Z c2.a Z Z Z ?_;refine Pool.qb 10 Z Z Z Z Z (q_neqS Z Z Z Z Z Z Z Z) rfl fun b54 h54 => ?_;refine pool_done Z Z ?_;refine Ab ?_
  cases b54
  ·have e : B.prof[j] = C.prof[j] := by
    simp at h54
    exact Prod.ext h54.1 h54.2
   refine At.cond Z ?_;refine At.skip ?_;refine At.inBlock ?_;refine At.region ?_;refine Aa Z Z Z Z Z O ?_;refine Aa Z Z Z Z Z (by omega) ?_;refine Aa Z Z Z Z Z O ?_;refine Ab ?_
   refine Aq ((again ⟨j + 1,h1,by rw [← hd];simp [e]⟩ (by simp;omega)))
  ·have e : B.prof[j] ≠ C.prof[j] := by
    intro e
    rw [e] at h54
    simp at h54
   rw [decide_eq_false (fun h => e (hd.2 h.2.2.1).1)] at hc
   refine At.cond Z ?_;refine At.seq (At.region ?_);refine Aa Z Z Z Z Z O ?_;refine Ab ?_
   exact At.ret Tryz.func11 (.inr ⟨_,rfl⟩) rfl (.tmp rfl .nil) (wk (hc _ _ (⟨by rfl,rfl⟩)))
 ·have e : j = B.prof.length := by simp at h41;omega
  subst e
  have q5 : B.prof = C.prof := by
   rw [← hd,List.drop_length,q3,List.drop_length]
  refine At.cond Z ?_;refine At.exit rfl ?_;refine At.seq (At.seq (At.region ?_));refine Aa Z Z Z Z Z O ?_;refine Ab ?_;refine At.block ?_
  refine Az (X := { j : Nat // j ≤ B.marks.length ∧ (B.marks.drop j = C.marks.drop j ↔ B.marks = C.marks) }) [2,3] (fun x => [(6,.int .i64 (x.1 : Int))]) (fun _ => .own r3 (.cells (List.toArray (bkC C D)) 27 (0,0)) :: .own r2 (.cells (List.toArray (bkC B A)) 27 (0,0)) :: H) (fun x => B.marks.length - x.1) (⟨0,Nat.zero_le _,Iff.rfl⟩) rfl ?_ (by repeat (first | exact trivial | refine ⟨rfl,?_⟩)) sb
  rintro ⟨j,hj,hd2⟩ again2
  simp only at again2 ⊢
  refine At.seq (At.seq (At.region ?_));refine Aa Z Z Z Z Z O ?_;refine Ah 4 Z Z Z Z Z Z Z ?_;refine Af 1 Z Z Z Z Z Z Z Z Z ?_;refine Ao Z Z Z Z Z Z Z Z ?_;refine Ad Z Z Z Z Z fun b59 h59 => ?_;refine Ab ?_
  cases b59
  rotate_left
  ·have h1 : j < B.marks.length := by simp at h59;omega
   have h2 : j < C.marks.length := by omega
   obtain ⟨pa,pc,ma,mc⟩ := A
   obtain ⟨pa',pc',ma',mc'⟩ := D
   obtain ⟨b,off,e1,c1⟩ := hm1.el (List.getElem?_eq_getElem h1)
   obtain ⟨b',off',e2,c2⟩ := hm2.el (List.getElem?_eq_getElem h2)
   simp only at e1 e2
   subst e1 e2
   rw [ext_drop q4 h1 h2] at hd2
   refine At.cond Z ?_;refine At.skip (At.seq ?_);refine At.block ?_;refine At.seq ?_;refine Aw hmix [] rfl ?_;refine Am 4 0 Z Z Z Z Z Z Z Z Z ?_;refine Aj 1 1 Z Z Z Z Z Z Z Z Z Z Z ?_;refine Ac 2 Z Z Z Z Z Z Z O ?_;refine Ak 3 Z Z Z Z Z (q_ia Z Z Z (by assumption)) rfl ?_;refine Ax 4 Z Z Z Z Z Z Z c1.a Z Z Z ?_
   refine Am 4 5 Z Z Z Z Z Z Z Z Z ?_;refine Aj 0 6 Z Z Z Z Z Z Z Z Z Z Z ?_;refine Ac 7 Z Z Z Z Z Z Z O ?_;refine Ak 8 Z Z Z Z Z (q_ia Z Z Z (by assumption)) rfl ?_;refine Ax 9 Z Z Z Z Z Z Z c2.a Z Z Z ?_;refine Pool.qb 10 Z Z Z Z Z (q_neqS Z Z Z Z Z Z Z Z) rfl fun b72 h72 => ?_;refine pool_done Z Z ?_;refine Ab ?_
   cases b72
   ·have e : B.marks[j] = C.marks[j] := by
     simp at h72
     exact Prod.ext (Prod.ext h72.1 h72.2.1) h72.2.2
    refine At.cond Z ?_;refine At.skip ?_;refine At.inBlock ?_;refine At.region ?_;refine Aa Z Z Z Z Z O ?_;refine Aa Z Z Z Z Z (by omega) ?_;refine Aa Z Z Z Z Z O ?_;refine Ab ?_
    refine Aq ((again2 ⟨j + 1,h1,by rw [← hd2];simp [e]⟩ (by simp;omega)))
   ·have e : B.marks[j] ≠ C.marks[j] := by
     intro e
     rw [e] at h72
     simp at h72
    rw [decide_eq_false (fun h => e (hd2.2 h.2.2.2).1)] at hc
    refine At.cond Z ?_;refine At.seq (At.region ?_);refine Aa Z Z Z Z Z O ?_;refine Ab ?_
    exact At.ret Tryz.func11 (.inr ⟨_,rfl⟩) rfl (.tmp rfl .nil) (wk (hc _ _ (⟨by rfl,rfl⟩)))
  ·have e : j = B.marks.length := by simp at h59;omega
   subst e
   have q6 : B.marks = C.marks := by
    rw [← hd2,List.drop_length,q4,List.drop_length]
   rw [decide_eq_true ⟨q1,q2,q5,q6⟩] at hc
   refine At.cond Z ?_;refine At.exit rfl ?_;refine At.seq (At.region ?_);refine Aa Z Z Z Z Z O ?_;refine Ab ?_
   exact At.ret Tryz.func11 (.inr ⟨_,rfl⟩) rfl (.tmp rfl .nil) (wk (hc _ _ (⟨by rfl,rfl⟩)))
end Go.Gx
end
section
namespace Go.Gx
open Go Go.Conc Go.Proofs
variable {main : Bool}
instance : DecidablePred isDig := fun d => by unfold isDig;infer_instance
def Fld (f : List UInt8) : Prop := (32 : UInt8) ∉ f ∧ (10 : UInt8) ∉ f ∧ f ≠ []
theorem fld_word (k : Nat) : Fld (wordL k) := by
 unfold wordL Fld
 split <;> decide
end Go.Gx
end
section
namespace Go.Gx
open Go Go.Conc Go.Proofs
variable {main : Bool}
end Go.Gx
end
section
namespace Go.Gx
open Go Go.Conc Go.Proofs Go.ChangeShapes Go.RowKit YtjdpbechehdefaaGreatDoor
set_option maxRecDepth 100000
theorem own : ownKnob Tryz.prog.godebug = none := by kernel_rfl
abbrev laid1 : List (String × DataW Unit) := Rows.canvasBackRow.laid
theorem fnName {W : World} {fuel : Nat} {cs : List Value} {b : UInt8} {r : List UInt8} {q : List MemPlace} {f0 : FuncId} (hone : ((List.range Tryz.prog.funcs.size).filter fun f => (Tryz.prog.funcs[f]?).any (·.name.toUTF8.data.toList == b :: r)) = [f0])
  (h : DataW.trod (funcToken Tryz.prog) Tryz.prog W 0 (fun _ => true) true fuel 165 cs = some (.agg [.held (b :: r)],q)) : cs = [.func (.func f0) #[] #[]] := by
 obtain ⟨xs,n,rfl,e,hl,hx,hf⟩ := DataW.trod_struct Tryz.underlying165 h
 have hl' : cs.length = 1 := hl.trans (show Tryz.prog.cellsOf 165 = 1 by kernel_rfl)
 match cs,hl',xs,hx,e with
 | [u],_,[y0],_,e =>
  have g0 : DataW.trod (funcToken Tryz.prog) Tryz.prog W 0 (fun _ => true) true n 163 ((List.drop 0 [u]).take (Tryz.prog.cellsOf 163)) = some y0 := hf 0 _ rfl
  rw [show Tryz.prog.cellsOf 163 = 1 by kernel_rfl] at g0
  have e2 : y0.1 = .held (b :: r) := by
   simp only [Prod.mk.injEq,List.map_cons,List.map_nil,DataW.agg.injEq,List.cons.injEq,and_true] at e
   exact e.1.symm
  have k : u = .func (.func f0) #[] #[] := func_of_trod (q := y0.2) Tryz.underlying163 hone (by rw [← e2];exact g0)
  rw [k]
theorem mem_checks : ("velarium/canvas.checks", Rows.laid_velarium_canvas_checks) ∈ laid1 := by simp [laid1,Rows.canvasBackRow]
theorem of_checks {W : World} (h : laidMetH Tryz.prog laid1 W) : Shr W [.seg 1 0 chkC] := by
 obtain ⟨g,t,cs,fuel,p,hg,ht,hv,hd⟩ := h.funcs mem_checks
 obtain rfl := Option.some.inj ((show Tryz.prog.globalNamed "velarium/canvas.checks" = some 1 by kernel_rfl).symm.trans hg)
 obtain rfl := Option.some.inj ((show (Tryz.prog.globals[1]?).map (·.type) = some 166 by kernel_rfl).symm.trans ht)
 obtain ⟨xs,m,rfl,e,hl,hx,hf⟩ := DataW.trod_array Tryz.underlying166 hd
 have hl' : cs.toList.length = 3 := hl.trans (show Tryz.prog.cellsOf 166 = 3 by kernel_rfl)
 obtain ⟨l⟩ := cs
 match l,hl',xs,hx,e with
 | [u0,u1,u2],_,[y0,y1,y2],_,e =>
  have g0 : DataW.trod (funcToken Tryz.prog) Tryz.prog W 0 (fun _ => true) true m 165 ((List.drop (0 * Tryz.prog.cellsOf 165) [u0,u1,u2]).take (Tryz.prog.cellsOf 165)) = some y0 := hf 0 (by decide)
  have g1 : DataW.trod (funcToken Tryz.prog) Tryz.prog W 0 (fun _ => true) true m 165 ((List.drop (1 * Tryz.prog.cellsOf 165) [u0,u1,u2]).take (Tryz.prog.cellsOf 165)) = some y1 := hf 1 (by decide)
  have g2 : DataW.trod (funcToken Tryz.prog) Tryz.prog W 0 (fun _ => true) true m 165 ((List.drop (2 * Tryz.prog.cellsOf 165) [u0,u1,u2]).take (Tryz.prog.cellsOf 165)) = some y2 := hf 2 (by decide)
  rw [show Tryz.prog.cellsOf 165 = 1 by kernel_rfl] at g0 g1 g2
  have e' : [y0.1,y1.1,y2.1] = [.agg [.held [118,101,108,97,114,105,117,109,47,99,97,110,118,97,115,46,99,104,101,99,107,115,36,49]],.agg [.held [118,101,108,97,114,105,117,109,47,99,97,110,118,97,115,46,99,104,101,99,107,115,36,50]],.agg [.held [118,101,108,97,114,105,117,109,47,99,97,110,118,97,115,46,99,104,101,99,107,115,36,51]]] := by
   have := (Prod.mk.inj e).1
   exact (DataW.agg.inj this).symm
  simp only [List.cons.injEq,and_true] at e'
  have k0 := fnName (f0 := 233) (q := y0.2) (by kernel_rfl) (by rw [← e'.1];exact g0)
  have k1 := fnName (f0 := 234) (q := y1.2) (by kernel_rfl) (by rw [← e'.2.1];exact g1)
  have k2 := fnName (f0 := 236) (q := y2.2) (by kernel_rfl) (by rw [← e'.2.2];exact g2)
  cases k0
  cases k1
  cases k2
  intro f hf
  rw [List.mem_singleton] at hf
  subst hf
  have hc := World.var?_cell hg hv
  refine ⟨rfl,?_,fun k v hk => ?_⟩
  ·have := hc 0
   rcases Nat.lt_or_ge 1 W.heap.size with h | h
   ·exact h
   ·simp [World.cell?,Array.getElem?_eq_none h] at this
  ·have := hc k
   rw [Nat.zero_add,this]
   rw [← Array.getElem?_toList]
   exact hk
theorem var_seg {W : World} {n : String} {g : Nat} {cs : Array Value} {l : List Value} (hg : Tryz.prog.globalNamed n = some g) (hv : W.var? Tryz.prog n = some cs) (hl : cs.toList = l) (h0 : 0 < l.length) : Shr W [.seg g 0 l] := by
 intro f hf
 rw [List.mem_singleton] at hf
 subst hf
 have hc := World.var?_cell hg hv
 have hlen : cs.size = l.length := by rw [← hl];simp
 refine ⟨rfl,?_,fun k v hk => ?_⟩
 ·have := hc 0
  rw [Array.getElem?_eq_getElem (show 0 < cs.size by omega)] at this
  rcases Nat.lt_or_ge g W.heap.size with h | h
  ·exact h
  ·simp [World.cell?,Array.getElem?_eq_none h] at this
 ·have := hc k
  rw [Nat.zero_add,this,← Array.getElem?_toList,hl]
  exact hk
theorem arr_of {H : Type} {enc : TypeId × Value → H} {W : World} {base : Nat} {sp : Nat → Bool} {held : Bool} {T e n : Nat} (ht : Tryz.prog.underlying T = some (.array n e)) (h1 : Tryz.prog.cellsOf e = 1) (hc : Tryz.prog.cellsOf T = n) {α : Type} {D : α → DataW H} {V : α → Value}
  (hR : ∀ m u y a,DataW.trod enc Tryz.prog W base sp held m e [u] = some y → y.1 = D a → u = V a) {zs : List α} {fuel : Nat} {cs : List Value} {x : DataW H × List MemPlace} (h : DataW.trod enc Tryz.prog W base sp held fuel T cs = some x) (hx : x.1 = .agg (zs.map D)) : cs = zs.map V := by
 obtain ⟨xs,m,rfl,rfl,hl,hn,hel⟩ := DataW.trod_array ht h
 have hmap : xs.map (·.1) = zs.map D := DataW.agg.inj hx
 have hlen : zs.length = n := by
  have := congrArg List.length hmap
  simp at this;omega
 rw [hc] at hl
 refine List.ext_getElem? fun i => ?_
 by_cases hi : i < n
 ·have h2 := hel i hi
  rw [h1,Nat.mul_one] at h2
  have hcs : cs[i]? = some (cs[i]'(by omega)) := List.getElem?_eq_getElem (by omega)
  have hd : (cs.drop i).take 1 = [cs[i]'(by omega)] := by
   rw [List.drop_eq_getElem_cons (by omega)];rfl
  have hxi : xs[i]? = some (xs[i]'(by omega)) := List.getElem?_eq_getElem (by omega)
  have hai : zs[i]? = some (zs[i]'(by omega)) := List.getElem?_eq_getElem (by omega)
  rw [hd,hxi] at h2
  have h3 : (xs[i]'(by omega)).1 = D (zs[i]'(by omega)) := by
   have := congrArg (fun l => l[i]?) hmap
   simp only [List.getElem?_map,hxi,hai,Option.map_some,Option.some.injEq] at this
   exact this
  rw [hcs,List.getElem?_map,hai,Option.map_some,hR _ _ _ _ h2 h3]
 ·rw [List.getElem?_eq_none (by omega),List.getElem?_eq_none (by rw [List.length_map];omega)]
theorem rd_int {H : Type} {enc : TypeId × Value → H} {W : World} {base : Nat} {sp : Nat → Bool} {held : Bool} {e : TypeId} {k : IntKind} (he : Tryz.prog.underlying e = some (.int k)) : ∀ m u y (a : Int),DataW.trod enc Tryz.prog W base sp held m e [u] = some y → y.1 = DataW.lit (.int k a) → u = .int k a := by
 intro m u y a h hy
 obtain ⟨n,h1,rfl,_⟩ := DataW.trod_int he h
 cases h1
 cases hy
 rfl
theorem rd_str {H : Type} {enc : TypeId × Value → H} {W : World} {base : Nat} {sp : Nat → Bool} {held : Bool} {e : TypeId} (he : Tryz.prog.underlying e = some .string) : ∀ m u y (a : List UInt8),DataW.trod enc Tryz.prog W base sp held m e [u] = some y → y.1 = DataW.lit (.string a) → u = .string (S a) := by
 intro m u y a h hy
 obtain ⟨s,h1,rfl,_⟩ := DataW.trod_string he h
 cases h1
 cases hy
 rfl
def keep3 (x : String × DataW Unit) : Bool := x.1 == "internal/strconv.uint64pow10" || (x.1 == "velarium/canvas.words" || x.1 == "velarium/canvas.fields")
theorem kept3 : laid1.filter keep3 = [("internal/strconv.uint64pow10", Rows.laid_internal_strconv_uint64pow10),("velarium/canvas.words", Rows.laid_velarium_canvas_words),("velarium/canvas.fields", Rows.laid_velarium_canvas_fields)] := by kernel_rfl
def tenL : List Int := [1,10,100,1000,10000,100000,1000000,10000000,100000000,1000000000,10000000000,100000000000,1000000000000,10000000000000,100000000000000,1000000000000000,10000000000000000,100000000000000000,1000000000000000000,10000000000000000000]
def tabF : Facts := [.seg 4 0 tenC,.seg 0 0 wordsC,.seg 2 0 fieldsC]
theorem of_data {W : World} (h : laidMetH Tryz.prog laid1 W) : Shr W tabF := by
 have h3 := laidMetH.filter keep3 h
 rw [kept3,MakeChecks.laidMetH_plain _ _ _ (by kernel_rfl)] at h3
 obtain ⟨ps,⟨g0,t0,cs0,f0,p0,q0,hg0,ht0,hv0,hd0,⟨g1,t1,cs1,f1,p1,q1,hg1,ht1,hv1,hd1,⟨g2,t2,cs2,f2,p2,q2,hg2,ht2,hv2,hd2,_,_⟩,_⟩,_⟩,_,_⟩ := h3
 obtain rfl := Option.some.inj ((show Tryz.prog.globalNamed "internal/strconv.uint64pow10" = some 4 by kernel_rfl).symm.trans hg0)
 obtain rfl := Option.some.inj ((show Tryz.prog.globalNamed "velarium/canvas.words" = some 0 by kernel_rfl).symm.trans hg1)
 obtain rfl := Option.some.inj ((show Tryz.prog.globalNamed "velarium/canvas.fields" = some 2 by kernel_rfl).symm.trans hg2)
 obtain rfl := Option.some.inj ((show (Tryz.prog.globals[4]?).map (·.type) = some 254 by kernel_rfl).symm.trans ht0)
 obtain rfl := Option.some.inj ((show (Tryz.prog.globals[0]?).map (·.type) = some 83 by kernel_rfl).symm.trans ht1)
 obtain rfl := Option.some.inj ((show (Tryz.prog.globals[2]?).map (·.type) = some 155 by kernel_rfl).symm.trans ht2)
 have e0 := arr_of Tryz.underlying254 (by kernel_rfl) (by kernel_rfl) (D := fun i => DataW.lit (.int .u64 i)) (V := fun i => .int .u64 i) (rd_int Tryz.underlying230) (zs := tenL) hd0 rfl
 have e1 := arr_of Tryz.underlying83 (by kernel_rfl) (by kernel_rfl) (D := fun i => DataW.lit (.string i)) (V := fun i => .string (S i)) (rd_str Tryz.underlying9) (zs := [wordL 0,wordL 1,wordL 2]) hd1 rfl
 have e2 := arr_of Tryz.underlying155 (by kernel_rfl) (by kernel_rfl) (D := fun i => DataW.lit (.int .i64 i)) (V := fun i => .int .i64 i) (rd_int Tryz.underlying3) (zs := [2,2,3]) hd2 rfl
 have s0 := var_seg hg0 hv0 e0 (by decide)
 have s1 := var_seg hg1 hv1 e1 (by decide)
 have s2 := var_seg hg2 hv2 e2 (by decide)
 exact s0.app (s1.app s2)
end Go.Gx
end
section
namespace Go.Gx
open Go Go.Conc Go.Proofs Go.ChangeShapes Go.RowKit YtjdpbechehdefaaGreatDoor
set_option maxRecDepth 100000
def gF : Facts := .seg 1 0 chkC :: tabF
theorem Shr.glo {W : World} {Hs : Facts} (h : Shr W Hs) : Glo (gF ++ Hs) (gF ++ Hs) := by
 refine ⟨Sub.refl _,?_,?_⟩
 ·intro f hf
  rcases List.mem_append.1 hf with hf | hf
  ·simp only [gF,tabF,List.mem_cons,List.not_mem_nil,or_false] at hf
   rcases hf with rfl | rfl | rfl | rfl <;> rfl
  ·exact (h f hf).1
 ·exact (cells_seg (H := gF ++ Hs) (b := 1) (off := 0) (us := chkC) (vs := chkC) 0 (by simp [gF]) (by rw [List.drop_zero,List.take_length]) :)
theorem gF_tab {Hs : Facts} : TabT (gF ++ Hs) :=
 ⟨(cells_seg (H := gF ++ Hs) (b := 0) (off := 0) (us := wordsC) (vs := wordsC) 0 (by simp [gF,tabF]) (by rw [List.drop_zero,List.take_length]) :),(cells_seg (H := gF ++ Hs) (b := 2) (off := 0) (us := fieldsC) (vs := fieldsC) 0 (by simp [gF,tabF]) (by rw [List.drop_zero,List.take_length]) :)⟩
theorem gF_ten {Hs : Facts} : Cells (gF ++ Hs) 4 0 tenC :=
 (cells_seg (H := gF ++ Hs) (b := 4) (off := 0) (us := tenC) (vs := tenC) 0 (by simp [gF,tabF]) (by rw [List.drop_zero,List.take_length]) :)
def plainL : List (String × DataW Unit) := laid1.filter fun x => x.2.handleName?.isNone
noncomputable def w0L (os : Os) : World := (World.doorLaid Tryz.prog 90 os).layVars Tryz.prog plainL
theorem w0_os (os : Os) : (w0L os).os = os := (World.layVars_os _ _ _).trans rfl
theorem fits0 (os : Os) : (World.doorLaid Tryz.prog 90 os).layFits Tryz.prog plainL [] = true := by kernel_rfl
theorem ifs0 (os : Os) : (World.doorLaid Tryz.prog 90 os).layIfaces Tryz.prog plainL (w0L os) = true := by kernel_rfl
theorem plain_met (os : Os) (args : Array Value) : laidMet Tryz.prog plainL ((w0L os).forCall (fun _ _ => 0) ⟨#[],args,[]⟩).memory := by
 have e1 : (plainL.filter fun x => (plainL.map (·.1)).contains x.1) = plainL := List.filter_eq_self.2 fun x hx => List.contains_iff_mem.2 (List.mem_map.2 ⟨x,hx,rfl⟩)
 have e2 : (plainL.filter fun x => !(plainL.map (·.1)).contains x.1) = [] := List.filter_eq_nil_iff.2 fun x hx => by rw [List.contains_iff_mem.2 (List.mem_map.2 ⟨x,hx,rfl⟩)];simp
 have h : laidMet Tryz.prog plainL (w0L os) := laidMet_layVars (w0 := World.doorLaid Tryz.prog 90 os) (plainL.map (·.1)) [] (by rw [e1];rfl) (by rw [e1];exact fits0 os) (by rw [e1];exact ifs0 os) (by rw [e2];exact LaidIn.none)
 exact h.of_heap (by simp [World.memory,World.forCall,Input.heap])
theorem door_met (os : Os) (args : Array Value) : laidMetH Tryz.prog laid1 ((w0L os).forCall (fun _ _ => 0) ⟨#[],args,[]⟩).memory :=
 laidMetH_of_parts3 (fuel := 8) (plain_met os args) (by kernel_rfl) (by kernel_rfl)
theorem law_lift {f : FuncId} {fn : Func} {s : ChangeSpec} (hfn : Tryz.prog.funcs[f]? = some fn) (hr : fn.params.toList.all (rowed Tryz.prog) = true) (hres : fn.resultTypes = #[4]) (hvars : s.vars = []) (hi : Tryz.prog.inits.idxOf? f = none)
  (os : Os) (started : os.Started) (H : Type) (enc : TypeId × Value → H) (args0 : Array Value)
  (w1 : ((w0L os).forCall (fun _ _ => 0) ⟨#[],args0,[]⟩).Shaped Tryz.prog)
  (w2 : Input.okWideB Tryz.prog ((w0L os).forCall (fun _ _ => 0) ⟨#[],args0,[]⟩) f ⟨#[],args0,[]⟩ = true)
  (w3 : s.preB enc Tryz.prog fn [] false ((w0L os).forCall (fun _ _ => 0) ⟨#[],args0,[]⟩).memory args0 8 = true)
  (w4 : s.sizedB enc Tryz.prog fn false ((w0L os).forCall (fun _ _ => 0) ⟨#[],args0,[]⟩).memory args0 8 = true)
  (walk : ∀ (W : World) (base : Nat) (args : Array Value) (ds : List (DataW H)) (ps : List MemPlace),(∀ (j : Nat) t v,fn.params[j]? = some t → args[j]? = some v → Value.okWide Tryz.prog W .any base t v) →
   DataW.TrodAll enc Tryz.prog W 0 (fun _ => true) true fn.params.toList args.toList ds ps →
   s.fn H ds = { results := [.lit (.bool true)],args := ds } ∧ ∃ Hs,Shr W Hs ∧ ∀ Post,LawAt (mainLg Tryz.prog Post W [] []) f args (gF ++ Hs) (.bool true)) :
  ReturnsInLeavingWide {} Tryz.checked os f .any (fun w args => (s.pre enc Tryz.prog fn [] false w args ∧ laidMetH Tryz.prog laid1 w) ∧ sizedMet enc Tryz.prog fn (OpenSpec.ofChange s) false w args) (s.post enc Tryz.prog fn false true false false) := by
 refine returnsInLeavingWide_of_change_and (C := Tryz.checked) (X := fun w _ => laidMetH Tryz.prog laid1 w) (fun _ _ _ hh h => h.of_heap hh) own started hfn
  (ChangeSpec.witness_shaped (enc := enc) (C := Tryz.checked) (os := os) (X := fun w _ => laidMetH Tryz.prog laid1 w) false (w0L os) args0 8 (w0_os os) w1 w2 w3 w4 (door_met os _)) ?_
 intro W base args ds gs before hval hW hL
 obtain ⟨p,q,hA,hV,_,_,_⟩ := id hW
 obtain ⟨hs,Hs,hsh,hw⟩ := walk W base args ds p hval hA
 have hall : Shr W (gF ++ Hs) := ((show Shr W gF from (of_checks hL).app (of_data hL))).app hsh
 exact (hw _).ends hi (fun w hf => law_post (by kernel_rfl) hr hres Tryz.underlying4 hvars hW hs hf) hall.holds fun f hf => (hall f hf).1
end Go.Gx
end
section
namespace Go.Gx
open Go Go.Proofs YtjdpbechehdefaaGreatDoor
set_option maxRecDepth 100000
def ioL : List Char := [.ofNat 104,.ofNat 97,.ofNat 114,.ofNat 110,.ofNat 101,.ofNat 115,.ofNat 115,.ofNat 32,.ofNat 54,.ofNat 102,.ofNat 53,.ofNat 102,.ofNat 97,.ofNat 98,.ofNat 56,.ofNat 102,.ofNat 49,.ofNat 52,.ofNat 54,.ofNat 99,.ofNat 51,.ofNat 98,.ofNat 48,.ofNat 48,.ofNat 54,.ofNat 102,.ofNat 99,.ofNat 102,.ofNat 102,.ofNat 57,.ofNat 49,.ofNat 51,.ofNat 100,.ofNat 100,.ofNat 56,.ofNat 97,.ofNat 55,.ofNat 54,.ofNat 56,.ofNat 57,.ofNat 52,.ofNat 99,.ofNat 49,.ofNat 100,.ofNat 100,.ofNat 99,.ofNat 56,.ofNat 56,.ofNat 102,.ofNat 51,.ofNat 48,.ofNat 100,.ofNat 97,.ofNat 99,.ofNat 50,.ofNat 50,.ofNat 101,.ofNat 99,.ofNat 99,.ofNat 54,.ofNat 98,.ofNat 49,.ofNat 99,.ofNat 101,.ofNat 101,.ofNat 102,.ofNat 100,.ofNat 97,.ofNat 98,.ofNat 50,.ofNat 52,.ofNat 98,.ofNat 32,.ofNat 99,.ofNat 117,.ofNat 116,.ofNat 32,.ofNat 97,.ofNat 116,.ofNat 32,.ofNat 118,.ofNat 101,.ofNat 108,.ofNat 97,.ofNat 114,.ofNat 105,.ofNat 117,.ofNat 109,.ofNat 47,.ofNat 118,.ofNat 101,.ofNat 108,.ofNat 97,.ofNat 114,.ofNat 105,.ofNat 117,.ofNat 109,.ofNat 108,.ofNat 97,.ofNat 119,.ofNat 48,.ofNat 50,.ofNat 46,.ofNat 67,.ofNat 97,.ofNat 110,.ofNat 118,.ofNat 97,.ofNat 115,.ofNat 84,.ofNat 101,.ofNat 120,.ofNat 116,.ofNat 115,.ofNat 32,.ofNat 118,.ofNat 101,.ofNat 108,.ofNat 97,.ofNat 114,.ofNat 105,.ofNat 117,.ofNat 109,.ofNat 47,.ofNat 118,.ofNat 101,.ofNat 108,.ofNat 97,.ofNat 114,.ofNat 105,.ofNat 117,.ofNat 109,.ofNat 108,.ofNat 97,.ofNat 119,.ofNat 48,.ofNat 50,.ofNat 46,.ofNat 67,.ofNat 97,.ofNat 110,.ofNat 118,.ofNat 97,.ofNat 115,.ofNat 66,.ofNat 97,.ofNat 99,.ofNat 107]
theorem io_of : Tryz.prog.initOrder = String.ofList ioL := by kernel_rfl
theorem io_l : Tryz.prog.initOrder.toList = ioL := by rw [io_of];exact String.toList_ofList
def wsL : List (List Char) := [[.ofNat 104,.ofNat 97,.ofNat 114,.ofNat 110,.ofNat 101,.ofNat 115,.ofNat 115],[.ofNat 54,.ofNat 102,.ofNat 53,.ofNat 102,.ofNat 97,.ofNat 98,.ofNat 56,.ofNat 102,.ofNat 49,.ofNat 52,.ofNat 54,.ofNat 99,.ofNat 51,.ofNat 98,.ofNat 48,.ofNat 48,.ofNat 54,.ofNat 102,.ofNat 99,.ofNat 102,.ofNat 102,.ofNat 57,.ofNat 49,.ofNat 51,.ofNat 100,.ofNat 100,.ofNat 56,.ofNat 97,.ofNat 55,.ofNat 54,.ofNat 56,.ofNat 57,.ofNat 52,.ofNat 99,.ofNat 49,.ofNat 100,.ofNat 100,.ofNat 99,.ofNat 56,.ofNat 56,.ofNat 102,.ofNat 51,.ofNat 48,.ofNat 100,.ofNat 97,.ofNat 99,.ofNat 50,.ofNat 50,.ofNat 101,.ofNat 99,.ofNat 99,.ofNat 54,.ofNat 98,.ofNat 49,.ofNat 99,.ofNat 101,.ofNat 101,.ofNat 102,.ofNat 100,.ofNat 97,.ofNat 98,.ofNat 50,.ofNat 52,.ofNat 98],[.ofNat 99,.ofNat 117,.ofNat 116],[.ofNat 97,.ofNat 116],[.ofNat 118,.ofNat 101,.ofNat 108,.ofNat 97,.ofNat 114,.ofNat 105,.ofNat 117,.ofNat 109,.ofNat 47,.ofNat 118,.ofNat 101,.ofNat 108,.ofNat 97,.ofNat 114,.ofNat 105,.ofNat 117,.ofNat 109,.ofNat 108,.ofNat 97,.ofNat 119,.ofNat 48,.ofNat 50,.ofNat 46,.ofNat 67,.ofNat 97,.ofNat 110,.ofNat 118,.ofNat 97,.ofNat 115,.ofNat 84,.ofNat 101,.ofNat 120,.ofNat 116,.ofNat 115],[.ofNat 118,.ofNat 101,.ofNat 108,.ofNat 97,.ofNat 114,.ofNat 105,.ofNat 117,.ofNat 109,.ofNat 47,.ofNat 118,.ofNat 101,.ofNat 108,.ofNat 97,.ofNat 114,.ofNat 105,.ofNat 117,.ofNat 109,.ofNat 108,.ofNat 97,.ofNat 119,.ofNat 48,.ofNat 50,.ofNat 46,.ofNat 67,.ofNat 97,.ofNat 110,.ofNat 118,.ofNat 97,.ofNat 115,.ofNat 66,.ofNat 97,.ofNat 99,.ofNat 107]]
theorem ws1 : wordsSigns ioL = wsL := by kernel_rfl
def rsL : List (List Char) := [[.ofNat 99,.ofNat 117,.ofNat 116],[.ofNat 97,.ofNat 116],[.ofNat 118,.ofNat 101,.ofNat 108,.ofNat 97,.ofNat 114,.ofNat 105,.ofNat 117,.ofNat 109,.ofNat 47,.ofNat 118,.ofNat 101,.ofNat 108,.ofNat 97,.ofNat 114,.ofNat 105,.ofNat 117,.ofNat 109,.ofNat 108,.ofNat 97,.ofNat 119,.ofNat 48,.ofNat 50,.ofNat 46,.ofNat 67,.ofNat 97,.ofNat 110,.ofNat 118,.ofNat 97,.ofNat 115,.ofNat 84,.ofNat 101,.ofNat 120,.ofNat 116,.ofNat 115],[.ofNat 118,.ofNat 101,.ofNat 108,.ofNat 97,.ofNat 114,.ofNat 105,.ofNat 117,.ofNat 109,.ofNat 47,.ofNat 118,.ofNat 101,.ofNat 108,.ofNat 97,.ofNat 114,.ofNat 105,.ofNat 117,.ofNat 109,.ofNat 108,.ofNat 97,.ofNat 119,.ofNat 48,.ofNat 50,.ofNat 46,.ofNat 67,.ofNat 97,.ofNat 110,.ofNat 118,.ofNat 97,.ofNat 115,.ofNat 66,.ofNat 97,.ofNat 99,.ofNat 107]]
theorem b1 : behindMainWord wsL = rsL := by kernel_rfl
theorem lf1 : Tryz.prog.liftsFinal = false := by
 unfold Program.liftsFinal Program.headLifts
 rw [io_l,ws1,b1]
 kernel_rfl
theorem make_cut {P : Program} {rest : List (List Char)} (h : behindMainWord (wordsSigns P.initOrder.toList) = "cut".toList :: rest) : P.make = some .cut := by
 unfold Program.make
 rw [h]
 rfl
theorem hrs : rsL = "cut".toList :: rsL.tail := by kernel_rfl
theorem make1 : Tryz.prog.make = some .cut := make_cut (by rw [io_l,ws1,b1];exact hrs)
theorem enter_cut {P : Program} {rest : List (List Char)} (h : behindMainWord (wordsSigns P.initOrder.toList) = "cut".toList :: rest) (h1 : P.laysLater = false) (h2 : P.bearsReflect = false) (h3 : P.doorFits [] = true) : P.mayEnter = true := by
 have e : stripLifts liftWords ("cut".toList :: rest) = ([], "cut".toList :: rest) := rfl
 unfold Program.mayEnter
 rw [h]
 simp only [e,h1,h2,h3]
 simp
theorem ll1 : Tryz.prog.laysLater = false := by kernel_rfl
theorem br1 : Tryz.prog.bearsReflect = false := by kernel_rfl
theorem df1 : Tryz.prog.doorFits [] = true := by kernel_rfl
theorem enter1 : Tryz.prog.mayEnter = true := enter_cut (by rw [io_l,ws1,b1];exact hrs) ll1 br1 df1
theorem main_of {P : Program} {h s : List Char} {r : List (List Char)} (e : wordsSigns P.initOrder.toList = h :: s :: r) (h1 : isSumSigns s = true) (h2 : h = "harness".toList) : P.mainIs = some (true,s) := by
 subst h2
 unfold Program.mainIs
 rw [e]
 simp [h1]
theorem mi1 : Tryz.prog.mainIs = some (true, "6f5fab8f146c3b006fcff913dd8a76894c1ddc88f30dac22ecc6b1ceefdab24b".toList) := main_of (r := wsL.drop 2) (by rw [io_l,ws1];kernel_rfl) (by kernel_rfl) rfl
theorem looks1 : Tryz.prog.looks [] = true := by kernel_rfl
theorem goes_of {P : Program} {f : FuncId} {c : OpenClaim} (hf : P.funcNamed c.func = some f) (h : P.goes f = true) : true = c.goesBy P := by
 unfold OpenClaim.goesBy Program.goesAt Program.goesFrom
 rw [hf]
 simp [h]
theorem wants_of {P : Program} {fn : Func} (h : (fn.params.toList.all fun t => !P.wantsStandIn t) = true) (j : Nat) (t : TypeId) (ht : fn.params[j]? = some t) : P.wantsStandIn t = false := by
 have := List.all_eq_true.1 h t (List.mem_of_getElem? (by simpa using ht))
 simpa using this
end Go.Gx
end
section
namespace Go.Gx
open Go Go.Conc
section
variable {P : Program} {H : Facts} {E : Env} {o : Oper}
theorem q_intStr {s t : TypeId} {x : Operand} {k k' : IntKind} {n : Int} {w : List UInt8} [hs : StI P t] (hu : P.underlying s = some (.int k')) (ho : o.op = .convert s t x) (hx : ev E x = some (.int k n)) (hw : Utf8.encode n = S w) : QOp P o E H (.string (S w)) :=
 ⟨nd ho (by intro c h;cases h),fun φ hA Q hQ => by
  unfold execOp;rw [ho];simp only [hA x _ hx,K.bind]
  unfold convert
  rw [K.bind,k_underlying hu,K.bind,k_underlying hs.h]
  simp only
  unfold Conv.intToString
  rw [hw]
  exact hQ⟩
end
theorem enc_dig : ∀ n : _root_.Fin 10,Utf8.encode (48 + (n.1 : Int)) = S [(48 + n.1).toUInt8] := by decide
end Go.Gx
end
section
namespace Go.Gx
open Go Go.Conc Go.Proofs
variable {main : Bool}
theorem und21 : Tryz.prog.underlying 21 = some (.int .i32) := by kernel_rfl
instance : CvI Tryz.prog 3 21 .i32 := ⟨by kernel_rfl⟩
theorem wrap_i32 {n : Int} (h0 : 0 ≤ n) (h1 : n < 1000) : IntKind.wrap .i32 n = n := IntWalk.i32_in n (by omega)
theorem tdiv10 {n : Nat} : ((n : Int)).tdiv 10 = ((n / 10 : Nat) : Int) := by
 rw [Int.tdiv_eq_ediv_of_nonneg (by omega)];rfl
theorem tmod10 {n : Nat} : ((n : Int)).tmod 10 = ((n % 10 : Nat) : Int) := by
 rw [Int.tmod_eq_emod_of_nonneg (by omega)];rfl
set_option maxRecDepth 100000 in
theorem s40d (L : Lg Tryz.prog main) (H : Facts) {n : Nat} (hn : n < 10) : Pure L 40 #[.int .i64 (n : Int)] H (.string (S (digs n))) := by
 refine Spec.enter Tryz.func40 rfl (by simp [Tryz.f40]) fun c cs hc => ?_
 have hw : IntKind.wrap .i32 ((48 : Int) + n) = (48 : Int) + n := wrap_i32 (by omega) (by omega)
 rw [show digs n = [(48 + n).toUInt8] from by unfold digs;rw [if_pos hn]] at hc
 refine At.seq (At.region ?_);refine Aa Z Z Z Z Z O ?_;refine Ab (At.seq (At.seq (At.region ?_)));refine Aa Z Z Z Z Z O ?_;refine Ad Z Z Z Z Z fun b4 h4 => ?_;refine Ab ?_
 obtain rfl : b4 = false := h4.symm.trans (by kernel_rfl)
 refine At.cond Z ?_;refine At.skip (At.seq (At.seq (At.region ?_)));refine Aa Z Z Z Z Z O ?_;refine Ad Z Z Z Z Z fun b14 h14 => ?_;refine Ab ?_
 obtain rfl : b14 = false := h14.symm.trans (by kernel_rfl)
 refine At.cond Z ?_;refine At.skip (At.seq (At.seq (At.region ?_)));refine Aa Z Z Z Z Z O ?_;refine Ad Z Z Z Z Z fun b20 h20 => ?_;refine Ab ?_
 obtain rfl : b20 = false := h20.symm.trans (decide_eq_false (by omega))
 refine At.cond Z ?_;refine At.skip (At.seq (At.region ?_));refine Aa Z Z Z Z Z O ?_;refine Aa Z Z Z Z Z (by omega) ?_;refine Ae Z Z Z Z (q_conv Z Z (by assumption)) ?_;refine Ae Z Z Z Z (q_intStr und21 Z Z (enc_dig ⟨n,hn⟩)) ?_;refine Aa Z Z Z Z Z O ?_;refine Ab ?_
 exact At.ret Tryz.func40 (.inr ⟨_,rfl⟩) rfl (.tmp rfl .nil) (wk (hc _ _ (⟨by rfl,rfl⟩)))
set_option maxRecDepth 100000 in
theorem s40t (L : Lg Tryz.prog main) (H : Facts) {n : Nat} (h10 : 10 ≤ n) (hn : n < 100) : Pure L 40 #[.int .i64 (n : Int)] H (.string (S (digs n))) := by
 refine Spec.enter Tryz.func40 rfl (by simp [Tryz.f40]) fun c cs hc => ?_
 rw [show digs n = digs (n / 10) ++ digs (n % 10) from by unfold digs;rw [if_neg (by omega),if_pos (by omega),if_pos (by omega)];rfl] at hc
 have hin : (10 : Int) ≠ 0 ∧ InI ((n : Int).tdiv 10) := ⟨by decide,by rw [tdiv10];exact ⟨by omega,by omega⟩⟩
 have stop40 := trivial
 refine At.seq (At.region ?_);refine Aa Z Z Z Z Z O ?_;refine Ab (At.seq (At.seq (At.region ?_)));refine Aa Z Z Z Z Z O ?_;refine Ad Z Z Z Z Z fun b4 h4 => ?_;refine Ab ?_
 obtain rfl : b4 = false := h4.symm.trans (by kernel_rfl)
 refine At.cond Z ?_;refine At.skip (At.seq (At.seq (At.region ?_)));refine Aa Z Z Z Z Z O ?_;refine Ad Z Z Z Z Z fun b14 h14 => ?_;refine Ab ?_
 obtain rfl : b14 = false := h14.symm.trans (by kernel_rfl)
 refine At.cond Z ?_;refine At.skip (At.seq (At.seq (At.region ?_)));refine Aa Z Z Z Z Z O ?_;refine Ad Z Z Z Z Z fun b20 h20 => ?_;refine Ab ?_
 obtain rfl : b20 = true := h20.symm.trans (decide_eq_true (by omega))
 refine At.cond Z ?_;refine At.seq (At.region ?_);refine Aa Z Z Z Z Z O ?_;refine Aa Z Z Z Z Z (by assumption) ?_
 rw [tdiv10]
 refine Ai Z Z Z Z Z Z Z Z (s40d L _ (n := n / 10) (by omega)) ?_
 clear stop40
 have stop40 := trivial
 refine Aa Z Z Z Z Z O ?_;refine Aa Z Z Z Z Z (by omega) ?_
 rw [tmod10]
 refine Ai Z Z Z Z Z Z Z Z (s40d L _ (n := n % 10) (by omega)) ?_
 have hl1 : (digs (n / 10)).length ≤ 2 := by unfold digs;split <;> simp
 have hl2 : (digs (n % 10)).length ≤ 2 := by unfold digs;split <;> simp
 refine Ae Z Z Z Z (q_cat Z Z Z (by omega)) ?_;refine Aa Z Z Z Z Z O ?_;refine Ab ?_
 exact At.ret Tryz.func40 (.inr ⟨_,rfl⟩) rfl (.tmp rfl .nil) (wk (hc _ _ (⟨by rfl,rfl⟩)))
theorem s40p (L : Lg Tryz.prog main) (H : Facts) {n : Nat} (hn : n < 100) : Pure L 40 #[.int .i64 (n : Int)] H (.string (S (digs n))) := by
 by_cases h : n < 10
 ·exact s40d L H h
 ·exact s40t L H (by omega) hn
set_option maxRecDepth 100000 in
theorem s40m (L : Lg Tryz.prog main) (H : Facts) {n : Nat} (h1 : 1 ≤ n) (hn : n < 10) : Pure L 40 #[.int .i64 (-(n : Int))] H (.string (S (45 :: digs n))) := by
 refine Spec.enter Tryz.func40 rfl (by simp [Tryz.f40]) fun c cs hc => ?_
 rw [show (45 :: digs n : List UInt8) = [45] ++ digs n from rfl] at hc
 have hl2 : (digs n).length ≤ 2 := by unfold digs;split <;> simp
 have stop40 := trivial
 refine At.seq (At.region ?_);refine Aa Z Z Z Z Z O ?_;refine Ab (At.seq (At.seq (At.region ?_)));refine Aa Z Z Z Z Z O ?_;refine Ad Z Z Z Z Z fun b4 h4 => ?_;refine Ab ?_
 obtain rfl : b4 = false := h4.symm.trans (decide_eq_false (by omega))
 refine At.cond Z ?_;refine At.skip (At.seq (At.seq (At.region ?_)));refine Aa Z Z Z Z Z O ?_;refine Ad Z Z Z Z Z fun b14 h14 => ?_;refine Ab ?_
 obtain rfl : b14 = true := h14.symm.trans (decide_eq_true (by omega))
 refine At.cond Z ?_;refine At.seq (At.region ?_);refine Aa Z Z Z Z Z O ?_;refine Aa Z Z Z Z Z (by omega) ?_
 rw [show -(-(n : Int)) = (n : Int) by omega]
 refine Ai Z Z Z Z Z Z Z Z (s40d L _ (n := n) hn) ?_;refine Ae Z Z Z Z (q_cat Z Z Z (by simp;omega)) ?_;refine Aa Z Z Z Z Z O ?_;refine Ab ?_
 exact At.ret Tryz.func40 (.inr ⟨_,rfl⟩) rfl (.tmp rfl .nil) (wk (hc _ _ (⟨by rfl,rfl⟩)))
theorem tdivm {n : Nat} : (-(n : Int)).tdiv 10 = -((n / 10 : Nat) : Int) := by
 rw [Int.neg_tdiv,tdiv10]
theorem tmodm {n : Nat} : -((-(n : Int)).tmod 10) = ((n % 10 : Nat) : Int) := by
 rw [Int.neg_tmod,tmod10];omega
set_option maxRecDepth 100000 in
theorem s40n (L : Lg Tryz.prog main) (H : Facts) {n : Nat} (h10 : 10 ≤ n) (hn : n < 100) : Pure L 40 #[.int .i64 (-(n : Int))] H (.string (S (45 :: digs n))) := by
 refine Spec.enter Tryz.func40 rfl (by simp [Tryz.f40]) fun c cs hc => ?_
 rw [show (45 :: digs n : List UInt8) = (45 :: digs (n / 10)) ++ digs (n % 10) from by unfold digs;rw [if_neg (by omega),if_pos (by omega),if_pos (by omega)];rfl] at hc
 have hl1 : (45 :: digs (n / 10)).length ≤ 3 := by unfold digs;split <;> simp
 have hl2 : (digs (n % 10)).length ≤ 2 := by unfold digs;split <;> simp
 have hin : (10 : Int) ≠ 0 ∧ InI ((-(n : Int)).tdiv 10) := ⟨by decide,by rw [tdivm];exact ⟨by omega,by omega⟩⟩
 have hin2 : InI (-((-(n : Int)).tmod 10)) := by rw [tmodm];exact ⟨by omega,by omega⟩
 have stop40 := trivial
 refine At.seq (At.region ?_);refine Aa Z Z Z Z Z O ?_;refine Ab (At.seq (At.seq (At.region ?_)));refine Aa Z Z Z Z Z O ?_;refine Ad Z Z Z Z Z fun b4 h4 => ?_;refine Ab ?_
 obtain rfl : b4 = true := h4.symm.trans (decide_eq_true (by omega))
 refine At.cond Z ?_;refine At.seq (At.region ?_);refine Aa Z Z Z Z Z O ?_;refine Aa Z Z Z Z Z (by assumption) ?_
 rw [tdivm]
 refine Ai Z Z Z Z Z Z Z Z (s40m L _ (n := n / 10) (by omega) (by omega)) ?_
 clear stop40
 have stop40 := trivial
 refine Aa Z Z Z Z Z O ?_;refine Aa Z Z Z Z Z (by omega) ?_;refine Aa Z Z Z Z Z (by assumption) ?_
 rw [tmodm]
 refine Ai Z Z Z Z Z Z Z Z (s40d L _ (n := n % 10) (by omega)) ?_;refine Ae Z Z Z Z (q_cat Z Z Z (by omega)) ?_;refine Aa Z Z Z Z Z O ?_;refine Ab ?_
 exact At.ret Tryz.func40 (.inr ⟨_,rfl⟩) rfl (.tmp rfl .nil) (wk (hc _ _ (⟨by rfl,rfl⟩)))
theorem s40 (L : Lg Tryz.prog main) (H : Facts) {i : Int} (h0 : -100 < i) (h1 : i < 100) : Pure L 40 #[.int .i64 i] H (.string (S (sayI i))) := by
 by_cases hi : 0 ≤ i
 ·obtain ⟨n,rfl⟩ := Int.eq_ofNat_of_zero_le hi
  rw [show sayI (n : Int) = digs n from by unfold sayI;rw [if_neg (by omega)];rfl]
  exact s40p L H (by omega)
 ·obtain ⟨n,rfl⟩ : ∃ n : Nat,i = -(n : Int) := ⟨i.natAbs,by omega⟩
  rw [show sayI (-(n : Int)) = 45 :: digs n from by unfold sayI;rw [if_pos (by omega)];rw [Int.natAbs_neg];rfl]
  by_cases h : n < 10
  ·exact s40m L H (by omega) h
  ·exact s40n L H (by omega) (by omega)
end Go.Gx
end
section
namespace Go.Gx
open Go Go.Conc Go.Proofs
variable {main : Bool}
set_option maxRecDepth 100000 in
theorem s41 (L : Lg Tryz.prog main) (H : Facts) {lo hi : Int} (h0 : -100 < lo) (h1 : lo < 100) (h2 : -100 < hi) (h3 : hi < 100) : Pure L 41 #[.agg #[.int .i64 lo,.int .i64 hi]] H (.string (S (bandL2 lo hi))) := by
 refine Spec.enter Tryz.func41 rfl (by simp [Tryz.f41]) fun c cs hc => ?_
 have hl1 := @sayI_len lo
 have hl2 := @sayI_len hi
 unfold bandL2 at hc
 by_cases he : lo = hi
 ·rw [if_pos he] at hc
  have stop40 := trivial
  refine At.seq (At.region ?_);refine An Z Z Z Z Z Z Z fun r1 => ?_;refine Aa Z Z Z Z Z O ?_;refine Ab (At.seq (At.seq (At.region ?_)));refine Ah 0 Z Z Z Z Z Z Z ?_;refine Af 0 Z Z Z Z Z Z Z Z Z ?_;refine Ah 1 Z Z Z Z Z Z Z ?_;refine Af 0 Z Z Z Z Z Z Z Z Z ?_;refine Ad Z Z Z Z Z fun b7 h7 => ?_;refine Ab ?_
  obtain rfl : b7 = true := h7.symm.trans (decide_eq_true (by omega))
  refine At.cond Z ?_;refine At.seq (At.region ?_);refine Ah 0 Z Z Z Z Z Z Z ?_;refine Af 0 Z Z Z Z Z Z Z Z Z ?_
  clear stop40
  refine Ai Z Z Z Z Z Z Z Z (s40 L _ h0 h1) ?_;refine Aa Z Z Z Z Z O ?_;refine Ab ?_
  exact At.ret Tryz.func41 (.inr ⟨_,rfl⟩) rfl (.tmp rfl .nil) (wk (hc _ _ (⟨by rfl,rfl⟩)))
 ·rw [if_neg he] at hc
  have stop40 := trivial
  refine At.seq (At.region ?_);refine An Z Z Z Z Z Z Z fun r1 => ?_;refine Aa Z Z Z Z Z O ?_;refine Ab (At.seq (At.seq (At.region ?_)));refine Ah 0 Z Z Z Z Z Z Z ?_;refine Af 0 Z Z Z Z Z Z Z Z Z ?_;refine Ah 1 Z Z Z Z Z Z Z ?_;refine Af 0 Z Z Z Z Z Z Z Z Z ?_;refine Ad Z Z Z Z Z fun b7 h7 => ?_;refine Ab ?_
  obtain rfl : b7 = false := h7.symm.trans (decide_eq_false (by omega))
  refine At.cond Z ?_;refine At.skip (At.seq ?_);refine Aw hmix [] rfl ?_;refine Am 0 0 Z Z Z Z Z Z Z Z Z ?_;refine Aj 0 1 Z Z Z Z Z Z Z Z Z Z Z ?_;refine Am 1 4 Z Z Z Z Z Z Z Z Z ?_;refine Aj 0 5 Z Z Z Z Z Z Z Z Z Z Z ?_
  clear stop40
  refine Ap 2 Z Z Z Z Z Z Z Z Z (fun H_ hs_ => s40 L H_ h0 h1) ?_
  have stop40 := trivial
  refine Ak 3 Z Z Z Z Z (q_cat Z Z Z (by simp;omega)) rfl ?_
  clear stop40
  refine Ap 6 Z Z Z Z Z Z Z Z Z (fun H_ hs_ => s40 L H_ h2 h3) ?_;refine Ak 7 Z Z Z Z Z (q_cat Z Z Z (by simp;omega)) rfl ?_;refine Ac 8 Z Z Z Z Z Z Z O ?_;refine pool_done Z Z ?_;refine Ab ?_
  exact At.ret Tryz.func41 (.inr ⟨_,rfl⟩) rfl (.tmp rfl .nil) (wk (hc _ _ (⟨by rfl,rfl⟩)))
theorem joinB_take' {b : UInt8} {w : List UInt8} {fs : List (List UInt8)} {j : Nat} {f : List UInt8} (h : fs[j]? = some f) : joinB b (w :: fs.take (j + 1)) = joinB b (w :: fs.take j) ++ [b] ++ f := by
 obtain ⟨h1,h2⟩ := List.getElem?_eq_some_iff.1 h
 rw [List.take_succ_eq_append_getElem h1,h2,← List.cons_append]
 exact joinB_snoc (by simp)
set_option maxRecDepth 100000 in
theorem s39 (L : Lg Tryz.prog main) (H : Facts) {w : List UInt8} {a : Option Addr} {n cap : Nat} {fs : List (List UInt8)} (hn : n = fs.length) (hr : Rd H a (fs.flatMap cS)) (h10 : fs.length ≤ 10) (hw : w.length ≤ 50) (hf : ∀ f ∈ fs,0 < f.length ∧ f.length ≤ 50) :
  Pure L 39 #[.string (S w),.slice a n cap] H (.string (S (joinB 32 (w :: fs) ++ [10]))) := by
 refine Spec.enter Tryz.func39 rfl (by simp [Tryz.f39]) fun c cs hc => ?_
 subst hn
 refine At.seq (At.region ?_);refine Aa Z Z Z Z Z O ?_;refine Ab (At.seq (At.region ?_));(iterate 2 refine Aa Z Z Z Z Z O ?_);refine Ab (At.seq (At.seq (At.region ?_)));refine Aa Z Z Z Z Z O ?_;refine Ab ?_;refine At.block ?_
 have hj0 : joinB 32 (w :: fs.take 0) = w := by simp [joinB]
 rw [← hj0]
 refine Az (X := { j : Nat // j ≤ fs.length }) [1,4] (fun x => [(6,.int .i64 (x.1 : Int)),(5,.string (S (joinB 32 (w :: fs.take x.1))))]) (fun _ => H) (fun x => fs.length - x.1) (⟨0,Nat.zero_le _⟩) rfl ?_ (by repeat (first | exact trivial | refine ⟨rfl,?_⟩)) sb
 rintro ⟨j,hj⟩ again
 simp only at again hj ⊢
 have hsm : (joinB 32 (w :: fs.take j)).length ≤ 51 * 11 := by
  have := joinB_small (b := 32) (fs := w :: fs.take j) fun f hm => by
   rcases List.mem_cons.1 hm with rfl | hm
   ·exact hw
   ·exact (hf f (List.mem_of_mem_take hm)).2
  rw [List.length_cons,List.length_take] at this
  omega
 rcases Nat.lt_or_ge j fs.length with hlt | hge
 ·obtain ⟨f,hfj⟩ : ∃ f,fs[j]? = some f := ⟨_,List.getElem?_eq_getElem hlt⟩
  have hff := hf f (List.mem_of_getElem? hfj)
  obtain ⟨b',off',rfl,hcj⟩ := hr.el hfj
  have hjt := joinB_take' (b := 32) (w := w) hfj
  refine At.seq (At.seq (At.region ?_));(iterate 2 refine Aa Z Z Z Z Z O ?_);refine Ao Z Z Z Z Z Z Z Z ?_;refine Ad Z Z Z Z Z fun b11 h11 => ?_;refine Ab ?_
  obtain rfl : b11 = true := h11.symm.trans (decide_eq_true (by omega))
  refine At.cond Z ?_;refine At.skip (At.seq ?_);refine At.block ?_;refine At.region ?_;refine Aa Z Z Z Z Z O ?_;refine Ae Z Z Z Z (q_cat Z Z Z (by simp;omega)) ?_;(iterate 2 refine Aa Z Z Z Z Z O ?_);refine Ae Z Z Z Z (q_ia Z Z Z (by assumption)) ?_;refine Au Z Z Z Z Z Z hcj.a Z Z ?_;refine Ae Z Z Z Z (q_cat Z Z Z (by simp;omega)) ?_;refine Aa Z Z Z Z Z O ?_
  refine Ab ?_;refine At.inBlock ?_;refine At.region ?_;refine Aa Z Z Z Z Z O ?_;refine Aa Z Z Z Z Z (by omega) ?_;refine Aa Z Z Z Z Z O ?_;refine Ab ?_
  rw [← hjt]
  refine Aq ((again ⟨j + 1,hlt⟩ (by simp only;omega)))
 ·rw [List.take_of_length_le hge] at hsm ⊢
  refine At.seq (At.seq (At.region ?_));(iterate 2 refine Aa Z Z Z Z Z O ?_);refine Ao Z Z Z Z Z Z Z Z ?_;refine Ad Z Z Z Z Z fun b11 h11 => ?_;refine Ab ?_
  obtain rfl : b11 = false := h11.symm.trans (decide_eq_false (by omega))
  refine At.cond Z ?_;refine At.exit rfl ?_;refine At.seq (At.region ?_);refine Aa Z Z Z Z Z O ?_;refine Ae Z Z Z Z (q_cat Z Z Z (by simp;omega)) ?_;refine Aa Z Z Z Z Z O ?_;refine Ab ?_
  exact At.ret Tryz.func39 (.inr ⟨_,rfl⟩) rfl (.tmp rfl .nil) (wk (hc _ _ (⟨by rfl,rfl⟩)))
end Go.Gx
end
section
namespace Go.Gx
open Go Go.Conc Go.Proofs
variable {main : Bool}
set_option maxRecDepth 100000 in
theorem s8 (L : Lg Tryz.prog main) (H : Facts) {B : Bk} {A : BkA} (hB : BkR H B A) (hz : bookBar B = 0) : Pure L 8 #[bkV B A] H (.tuple #[.string (S (textB B)),.int .i64 0]) := by
 refine Spec.enter Tryz.func8 rfl (by simp [Tryz.f8]) fun c cs hc => ?_
 obtain ⟨hp2,hp5,hpp,hs1,hs30,hlo,hlh,hhi,hd,hm4,hmm⟩ := bounds_of_bar hz
 have hln := (@lineI_len (.c B.size B.lo B.hi)).2
 have stop12 := trivial
 refine At.seq (At.region ?_);refine An Z Z Z Z Z Z Z fun r1 => ?_;(iterate 2 refine Aa Z Z Z Z Z O ?_);refine Ab (At.seq (At.seq (At.region ?_)));refine Af 0 Z Z Z Z Z Z Z Z Z ?_
 clear stop12
 refine Ai Z Z Z Z Z Z Z Z (s12 L _ (B := B) (A := A) hB.a (by omega) (by omega)) ?_
 rw [hz]
 have stop40 := trivial
 have stop41 := trivial
 refine Aa Z Z Z Z Z O ?_;refine Ab (At.seq (At.region ?_));refine Aa Z Z Z Z Z O ?_;refine Ad Z Z Z Z Z fun b12 h12 => ?_;refine Ab ?_
 obtain rfl : b12 = false := h12.symm.trans (by kernel_rfl)
 refine At.cond Z ?_;refine At.skip (At.seq ?_);refine Aw hmix [] rfl ?_;refine Am 1 0 Z Z Z Z Z Z Z Z Z ?_;refine Aj 0 1 Z Z Z Z Z Z Z Z Z Z Z ?_;refine Am 2 3 Z Z Z Z Z Z Z Z Z ?_;refine Aj 0 4 Z Z Z Z Z Z Z Z Z Z Z ?_
 clear stop40
 refine Ap 2 Z Z Z Z Z Z Z Z Z (fun H_ hs_ => s40 L H_ (by omega) (by omega)) ?_
 clear stop41
 refine Ap 5 Z Z Z Z Z Z Z Z Z (fun H_ hs_ => s41 L H_ (by omega) (by omega) (by omega) (by omega)) ?_
 have stop39 := trivial
 refine Pool.bs 6 Z Z Z Z Z Z Z Z Z Z Z Z Z Z Z sb fun r20 => ?_
 clear stop39
 refine Pool.cx 7 Z Z Z Z Z Z Z Z Z Z Z Z Z Z (show ([] ++ _ : Facts).Perm _ from List.Perm.refl _) (fun R_ => (s39 L _ (w := wordL 0) (fs := [sayI B.size,bandL2 B.lo B.hi]) rfl (rd_cells (cells_all (List.mem_cons_self ..))) (by simp) (by simp [wordL]) (pieces_ok (i := .c B.size B.lo B.hi))).grows) sb ?_
 rintro _ _ ⟨rfl,rfl⟩
 rw [show joinB 32 (wordL 0 :: [sayI B.size,bandL2 B.lo B.hi]) ++ [10] = lineI (.c B.size B.lo B.hi) from rfl]
 refine Ac 8 Z Z Z Z Z Z Z O ?_;refine pool_done Z Z ?_;refine Ab (At.seq (At.seq (At.region ?_)));refine Aa Z Z Z Z Z O ?_;refine Ab ?_;refine At.block ?_
 have h0 : lineI (.c B.size B.lo B.hi) = lineI (.c B.size B.lo B.hi) ++ (B.prof.take 0).flatMap fun p => lineI (.p p) := by
  rw [List.take_zero,List.flatMap_nil,List.append_nil]
 rw [h0]
 refine Az (X := { j : Nat // j ≤ B.prof.length }) [1,2,3] (fun x => [(6,.int .i64 (x.1 : Int)),(5,.string (S (lineI (.c B.size B.lo B.hi) ++ (B.prof.take x.1).flatMap fun p => lineI (.p p))))]) (fun _ => .own r1 (.cells (List.toArray (bkC B A)) 27 (0,0)) :: H) (fun x => B.prof.length - x.1) (⟨0,Nat.zero_le _⟩) rfl ?_ (by repeat (first | exact trivial | refine ⟨rfl,?_⟩)) sb
 rintro ⟨j,hj⟩ again
 simp only at again hj ⊢
 rcases Nat.lt_or_ge j B.prof.length with hlt | hge
 ·obtain ⟨p,hpj⟩ : ∃ p,B.prof[j]? = some p := ⟨_,List.getElem?_eq_getElem hlt⟩
  have hpo := hpp p (List.mem_of_getElem? hpj)
  unfold PtOk at hpo
  obtain ⟨b',off',epa,hcj⟩ := hB.p.el hpj
  have htl := flatL_len (f := fun p => lineI (.p p)) (fun x => (@lineI_len (.p x)).2) (B.prof.take j)
  rw [List.length_take] at htl
  have hfl := flatL_take (f := fun p => lineI (.p p)) hpj
  have hlp := (@lineI_len (.p p)).2
  generalize hX : lineI (.c B.size B.lo B.hi) ++ (B.prof.take j).flatMap (fun p => lineI (.p p)) = X at again ⊢
  have hXl : X.length ≤ 10000 := by rw [← hX,List.length_append];omega
  have stop40 := trivial
  refine At.seq (At.seq (At.region ?_));refine Aa Z Z Z Z Z O ?_;refine Ah 0 Z Z Z Z Z Z Z ?_;refine Af 0 Z Z Z Z Z Z Z Z Z ?_;refine Ao Z Z Z Z Z Z Z Z ?_;refine Ad Z Z Z Z Z fun b26 h26 => ?_;refine Ab ?_
  obtain rfl : b26 = true := h26.symm.trans (decide_eq_true (by omega))
  refine At.cond Z ?_;refine At.skip (At.seq ?_);refine At.block ?_;refine Aw hmix [] rfl ?_;refine Ac 0 Z Z Z Z Z Z Z O ?_;refine Am 0 1 Z Z Z Z Z Z Z Z Z ?_;refine Aj 0 2 Z Z Z Z Z Z Z Z Z Z Z ?_;refine Ac 3 Z Z Z Z Z Z Z O ?_;refine Ak 4 Z Z Z Z Z (q_iaQ (k := (j)) Z Z Z (by assumption) rfl (by assumption)) rfl ?_
  refine Pool.faE 5 Z Z Z Z Z Z Z Z ?_;refine Ax 6 Z Z Z Z Z Z Z (hcj.s 0 1 rfl) Z Z Z ?_;refine Am 0 8 Z Z Z Z Z Z Z Z Z ?_;refine Aj 0 9 Z Z Z Z Z Z Z Z Z Z Z ?_;refine Ac 10 Z Z Z Z Z Z Z O ?_;refine Ak 11 Z Z Z Z Z (q_iaQ (k := (j)) Z Z Z (by assumption) rfl (by assumption)) rfl ?_;refine Pool.faE 12 Z Z Z Z Z Z Z Z ?_
  refine Ax 13 Z Z Z Z Z Z Z (hcj.s 1 1 rfl) Z Z Z ?_
  clear stop40
  refine Ap 7 Z Z Z Z Z Z Z Z Z (fun H_ hs_ => s40 L H_ (by omega) (by omega)) ?_
  have stop40 := trivial
  skip
  clear stop40
  refine Ap 14 Z Z Z Z Z Z Z Z Z (fun H_ hs_ => s40 L H_ (by omega) (by omega)) ?_
  have stop39 := trivial
  refine Pool.bs 15 Z Z Z Z Z Z Z Z Z Z Z Z Z Z Z sb fun r44 => ?_
  clear stop39
  refine Pool.cx 16 Z Z Z Z Z Z Z Z Z Z Z Z Z Z (show ([] ++ _ : Facts).Perm _ from List.Perm.refl _) (fun R_ => (s39 L _ (w := wordL 1) (fs := [sayI p.1,sayI p.2]) rfl (rd_cells (cells_all (List.mem_cons_self ..))) (by simp) (by simp [wordL]) (pieces_ok (i := .p p))).grows) sb ?_
  rintro _ _ ⟨rfl,rfl⟩
  rw [show joinB 32 (wordL 1 :: [sayI p.1,sayI p.2]) ++ [10] = lineI (.p p) from rfl]
  refine Ak 17 Z Z Z Z Z (q_cat Z Z Z (by omega)) rfl ?_;refine Ac 18 Z Z Z Z Z Z Z O ?_;refine pool_done Z Z ?_;refine Ab ?_;refine At.inBlock ?_;refine At.region ?_;refine Aa Z Z Z Z Z O ?_;refine Aa Z Z Z Z Z (by omega) ?_;refine Aa Z Z Z Z Z O ?_;refine Ab ?_
  have e : X ++ lineI (.p p) = lineI (.c B.size B.lo B.hi) ++ (B.prof.take (j + 1)).flatMap fun p => lineI (.p p) := by
   rw [hfl,← List.append_assoc,hX]
  rw [e]
  refine Aq ((again ⟨j + 1,hlt⟩ (by simp only;omega)))
 ·rw [List.take_of_length_le hge]
  have htl0 := flatL_len (f := fun p => lineI (.p p)) (fun x => (@lineI_len (.p x)).2) B.prof
  refine At.seq (At.seq (At.region ?_));refine Aa Z Z Z Z Z O ?_;refine Ah 0 Z Z Z Z Z Z Z ?_;refine Af 0 Z Z Z Z Z Z Z Z Z ?_;refine Ao Z Z Z Z Z Z Z Z ?_;refine Ad Z Z Z Z Z fun b26 h26 => ?_;refine Ab ?_
  obtain rfl : b26 = false := h26.symm.trans (decide_eq_false (by omega))
  refine At.cond Z ?_;refine At.exit rfl ?_;refine At.seq (At.seq (At.region ?_));refine Aa Z Z Z Z Z O ?_;refine Ab ?_;refine At.block ?_
  generalize hY : lineI (.c B.size B.lo B.hi) ++ B.prof.flatMap (fun p => lineI (.p p)) = Y
  have hYl : Y.length ≤ 5000 := by rw [← hY,List.length_append];omega
  have h1 : Y = Y ++ (B.marks.take 0).flatMap fun p => lineI (.m p) := by
   rw [List.take_zero,List.flatMap_nil,List.append_nil]
  rw [h1]
  refine Az (X := { j : Nat // j ≤ B.marks.length }) [1,2,3] (fun x => [(7,.int .i64 (x.1 : Int)),(5,.string (S (Y ++ (B.marks.take x.1).flatMap fun p => lineI (.m p))))]) (fun _ => .own r1 (.cells (List.toArray (bkC B A)) 27 (0,0)) :: H) (fun x => B.marks.length - x.1) (⟨0,Nat.zero_le _⟩) rfl ?_ (by repeat (first | exact trivial | refine ⟨rfl,?_⟩)) sb
  rintro ⟨j3,hj3⟩ again3
  simp only at again3 hj3 ⊢
  rcases Nat.lt_or_ge j3 B.marks.length with hlt | hge3
  ·obtain ⟨m,hmj⟩ : ∃ p,B.marks[j3]? = some p := ⟨_,List.getElem?_eq_getElem hlt⟩
   obtain ⟨hmb1,hmb2⟩ := markBar_bd (hmm m (List.mem_of_getElem? hmj))
   obtain ⟨b',off',epa,hcj⟩ := hB.m.el hmj
   have htl := flatL_len (f := fun p => lineI (.m p)) (fun x => (@lineI_len (.m x)).2) (B.marks.take j3)
   rw [List.length_take] at htl
   have hfl := flatL_take (f := fun p => lineI (.m p)) hmj
   have hlp := (@lineI_len (.m m)).2
   generalize hX : Y ++ (B.marks.take j3).flatMap (fun p => lineI (.m p)) = X at again3 ⊢
   have hXl : X.length ≤ 10000 := by rw [← hX,List.length_append];omega
   have stop40 := trivial
   refine At.seq (At.seq (At.region ?_));refine Aa Z Z Z Z Z O ?_;refine Ah 4 Z Z Z Z Z Z Z ?_;refine Af 0 Z Z Z Z Z Z Z Z Z ?_;refine Ao Z Z Z Z Z Z Z Z ?_;refine Ad Z Z Z Z Z fun b51 h51 => ?_;refine Ab ?_
   obtain rfl : b51 = true := h51.symm.trans (decide_eq_true (by omega))
   refine At.cond Z ?_;refine At.skip (At.seq ?_);refine At.block ?_;refine At.seq (At.region ?_);refine Ah 4 Z Z Z Z Z Z Z ?_;refine Af 0 Z Z Z Z Z Z Z Z Z ?_;refine Aa Z Z Z Z Z O ?_;refine Ae Z Z Z Z (q_iaQ (k := (j3)) Z Z Z (by assumption) rfl (by assumption)) ?_;refine Au Z Z Z Z Z Z hcj.a Z Z ?_;refine Al Z Z Z Z Z fun r8 => ?_
   refine Ag 0 Z Z Z Z Z Z Z Z Z Z Z Z ?_;refine Ab ?_;refine Aw hmix [] rfl ?_;refine Ac 0 Z Z Z Z Z Z Z O ?_;refine Am 0 1 Z Z Z Z Z Z Z Z Z ?_;refine Am 0 2 Z Z Z Z Z Z Z Z Z ?_;refine Aj 0 3 Z Z Z Z Z Z Z Z Z Z Z ?_;refine Am 0 5 Z Z Z Z Z Z Z Z Z ?_;refine Am 1 6 Z Z Z Z Z Z Z Z Z ?_
   refine Aj 0 7 Z Z Z Z Z Z Z Z Z Z Z ?_;refine Am 2 9 Z Z Z Z Z Z Z Z Z ?_;refine Aj 0 10 Z Z Z Z Z Z Z Z Z Z Z ?_
   clear stop40
   refine Ap 4 Z Z Z Z Z Z Z Z Z (fun H_ hs_ => s40 L H_ (by omega) (by omega)) ?_
   have stop40 := trivial
   skip
   clear stop40
   refine Ap 8 Z Z Z Z Z Z Z Z Z (fun H_ hs_ => s40 L H_ (by omega) (by omega)) ?_
   have stop40 := trivial
   skip
   clear stop40
   refine Ap 11 Z Z Z Z Z Z Z Z Z (fun H_ hs_ => s40 L H_ (by omega) (by omega)) ?_
   have stop39 := trivial
   refine Pool.bs 12 Z Z Z Z Z Z Z Z Z Z Z Z Z Z Z sb fun r71 => ?_
   clear stop39
   refine Pool.cx 13 Z Z Z Z Z Z Z Z Z Z Z Z Z Z (show ([] ++ _ : Facts).Perm _ from List.Perm.refl _) (fun R_ => (s39 L _ (w := wordL 2) (fs := [sayI m.1.1,sayI m.1.2,sayI m.2]) rfl (rd_cells (cells_all (List.mem_cons_self ..))) (by simp) (by simp [wordL]) (pieces_ok (i := .m m))).grows) sb ?_
   rintro _ _ ⟨rfl,rfl⟩
   rw [show joinB 32 (wordL 2 :: [sayI m.1.1,sayI m.1.2,sayI m.2]) ++ [10] = lineI (.m m) from rfl]
   refine Ak 14 Z Z Z Z Z (q_cat Z Z Z (by omega)) rfl ?_;refine Ac 15 Z Z Z Z Z Z Z O ?_;refine pool_done Z Z ?_;refine Ab ?_;refine At.inBlock ?_;refine At.region ?_;refine Aa Z Z Z Z Z O ?_;refine Aa Z Z Z Z Z (by omega) ?_;refine Aa Z Z Z Z Z O ?_;refine Ab ?_
   have e : X ++ lineI (.m m) = Y ++ (B.marks.take (j3 + 1)).flatMap fun p => lineI (.m p) := by
    rw [hfl,← List.append_assoc,hX]
   rw [e]
   refine Aq ((again3 ⟨j3 + 1,hlt⟩ (by simp only;omega)))
  ·rw [List.take_of_length_le hge3]
   have hte : Y ++ (B.marks.flatMap fun p => lineI (.m p)) = textB B := by
    rw [← hY]
    simp [textB,itemsB,List.flatMap_map]
   rw [hte]
   refine At.seq (At.seq (At.region ?_));refine Aa Z Z Z Z Z O ?_;refine Ah 4 Z Z Z Z Z Z Z ?_;refine Af 0 Z Z Z Z Z Z Z Z Z ?_;refine Ao Z Z Z Z Z Z Z Z ?_;refine Ad Z Z Z Z Z fun b51 h51 => ?_;refine Ab ?_
   obtain rfl : b51 = false := h51.symm.trans (decide_eq_false (by omega))
   refine At.cond Z ?_;refine At.exit rfl ?_;refine At.seq (At.region ?_);(iterate 3 refine Aa Z Z Z Z Z O ?_);refine Ab ?_
   exact At.ret Tryz.func8 (.inr ⟨_,rfl⟩) rfl (.tmp rfl (.tmp rfl .nil)) (wk (hc _ _ (⟨by rfl,rfl⟩)))
set_option maxRecDepth 100000 in
theorem s8z (L : Lg Tryz.prog main) (H : Facts) {B : Bk} {A : BkA} (hB : BkR H B A) (hl : B.prof.length ≤ 100000) (hm : B.marks.length ≤ 100000) (hz : bookBar B ≠ 0) : Pure L 8 #[bkV B A] H (.tuple #[.string (S []),.int .i64 (bookBar B)]) := by
 refine Spec.enter Tryz.func8 rfl (by simp [Tryz.f8]) fun c cs hc => ?_
 have stop12 := trivial
 refine At.seq (At.region ?_);refine An Z Z Z Z Z Z Z fun r1 => ?_;(iterate 2 refine Aa Z Z Z Z Z O ?_);refine Ab (At.seq (At.seq (At.region ?_)));refine Af 0 Z Z Z Z Z Z Z Z Z ?_
 clear stop12
 refine Ai Z Z Z Z Z Z Z Z (s12 L _ (B := B) (A := A) hB.a hl hm) ?_;refine Aa Z Z Z Z Z O ?_;refine Ab (At.seq (At.region ?_));refine Aa Z Z Z Z Z O ?_;refine Ad Z Z Z Z Z fun b12 h12 => ?_;refine Ab ?_
 obtain rfl : b12 = true := h12.symm.trans (decide_eq_true (by omega))
 refine At.cond Z ?_;refine At.seq (At.region ?_);(iterate 3 refine Aa Z Z Z Z Z O ?_);refine Ab ?_
 exact At.ret Tryz.func8 (.inr ⟨_,rfl⟩) rfl (.tmp rfl (.tmp rfl .nil)) (wk (hc _ _ (⟨by rfl,rfl⟩)))
end Go.Gx
end
section
namespace Go.Gx
open Go Go.Conc
def pe (v : Value) : List PanicEntry := [{ v,recovered := false }]
section
variable {P : Program} {main : Bool} {L : Lg P main} {f : FuncId} {ro : Option Nat} {ds : Dz} {cs : List Frame} {n : Nat} {E : Env} {H : Facts} {k : List Item} {c : Frame}
def SpecP (L : Lg P main) (g : FuncId) (args : Array Value) (H : Facts) (Post : Value → Facts → Prop) (v : Value) (Pan : Facts → Prop) : Prop :=
 ∀ (c : Frame) (cs : List Frame),(∀ u H',Post u H' → L.J (G (c.finish u) cs) H') → (∀ H',Pan H' → L.J (G (c.raise (pe v)) cs) H') → L.J (G (Frame.enter P g args .normal) (c :: cs)) H
theorem SpecP.of {g : FuncId} {args : Array Value} {Post : Value → Facts → Prop} {v : Value} {Pan : Facts → Prop} (h : Spec L g args H Post) : SpecP L g args H Post v Pan := fun c cs hc _ => h c cs hc
theorem no_catch {fr : Frame} (hb : HasBody P fr.fn) : fr.catches P = false := by
 obtain ⟨fn,h,_⟩ := hb
 unfold Frame.catches
 rw [h]
theorem pop_raise [hb : HB P f] {tmps : Array Value} {todo : List Item} {v : Value} (h : L.J (G (c.raise (pe v)) cs) H) : L.J (G ((Fr f ro d0 tmps todo).raise (pe v)) (c :: cs)) H := by
 refine L.same (g' := G (c.raise (pe v)) cs) rfl (fun W => ?_) h
 have e : (Fr f ro d0 tmps todo).raise (pe v) = { Fr f ro d0 tmps todo with mode := .panicking (pe v) } := rfl
 have hc : Frame.catches P { Fr f ro d0 tmps todo with mode := .panicking (pe v) } = false := no_catch hb.h
 rw [e]
 simp only [G,stepG,Fr,d0] at hc ⊢
 simp only [unwind,hc]
 rfl
variable {ops : Array Oper} {i : Nat} {rest : List Nat} {o : Oper} {d : Nat}
theorem At.callP {x : Operand} {az : Array Operand} {ats : Array TypeId} {g : FuncId} {first cap : List Value} {vs args : List Value} {Post : Value → Facts → Prop} {v : Value} {Pan : Facts → Prop} [hf : HB P f] (ho : ops[i]? = some o) (hop : o.op = .call { callee := .value x,args := az,argTypes := ats }) (hw : wantE ops o E = some true) (hd : o.dst = some d) (hn : Nat.blt d n = true)
  (hx : ev E x = some (.func (.func g) ⟨first⟩ ⟨cap⟩)) (has : evs E az.toList = some vs) (hcat : cat3 first vs cap = some args) [hb : HB P g] (hc : SpecP L g (List.toArray args) H Post v Pan)
  (hp : ∀ H',Pan H' → L.J (G (c.raise (pe v)) cs) H')
  (h : ∀ u H',Post u H' → At L f ro d0 (c :: cs) n ((d,u) :: E) H' (.inRegion ops rest :: k)) : At L f ro d0 (c :: cs) n E H (.inRegion ops (i :: rest) :: k) := by
 refine At.opG ho hw (by rw [hop];intro c;simp) (by rw [hd];rintro t ⟨⟩;simpa [Nat.blt_eq] using hn) fun φ hA => ?_
 unfold execOp
 rw [hop]
 simp only
 have e : az.map φ = vs.toArray := by
  have := evs_map hA has
  apply Array.ext'
  simpa using this
 simp only [resolve,hA x _ hx,Deferred.ofValue,e]
 rw [K.bind]
 show K P (invoke _ _) _ H
 simp only [invoke]
 refine K.callFunc hb.h ?_
 intro tmps hs hE
 rw [show ((⟨first⟩ : Array Value) ++ vs.toArray ++ (⟨cap⟩ : Array Value)) = List.toArray args from by rw [← cat3_eq hcat]]
 refine hc _ _ (fun u H' hv => ?_) (fun H' hv => pop_raise (hp H' hv))
 rw [fr_finish,ho]
 have hd' : ∀ t,o.dst = some t → t < n := by rw [hd];rintro t ⟨⟩;simpa [Nat.blt_eq] using hn
 have h' : At L f ro d0 (c :: cs) n (putE o.dst u E) H' (.inRegion ops rest :: k) := by rw [hd];exact h u H' hv
 exact at_put hd' h' tmps hs hE
theorem At.raise {x : Operand} {t : TypeId} {u : Value} [hf : HB P f] (ho : ops[i]? = some o) (hop : o.op = .panic x) (hw : wantE ops o E = some true) (hx : ev E x = some (.iface t u)) (hp : L.J (G (c.raise (pe (.iface t u))) cs) H) : At L f ro d0 (c :: cs) n E H (.inRegion ops (i :: rest) :: k) := by
 intro tmps hs hE
 refine L.same (g' := G ((Fr f ro d0 tmps (.inRegion ops (i :: rest) :: k)).raise (pe (.iface t u))) (c :: cs)) rfl (fun W => ?_) (pop_raise hp)
 rw [stepG_opF ho (wantE_ok hw hE) (by rw [hop];intro c;simp)]
 have hr : (execOp (Fr f ro d0 tmps (.inRegion ops (i :: rest) :: k)).eval o).runT P W #[] = (.halt (.panic (.iface t u)) W,#[]) := by
  unfold execOp
  rw [hop]
  simp only [ev_fr hE _ _ _ _ hx]
  rfl
 unfold stepG.apply
 simp only [if_true,hr,fr_kind]
 simp [GStep.after,G,seen,pe,d0]
def Boom (L : Lg P main) (g : FuncId) (args : Array Value) (H : Facts) (v : Value) : Prop := SpecP L g args H (fun _ _ => False) v fun H' => H' = H
theorem At.callB {x : Operand} {az : Array Operand} {ats : Array TypeId} {g : FuncId} {first cap : List Value} {vs args : List Value} {v : Value} [hf : HB P f] (ho : ops[i]? = some o) (hop : o.op = .call { callee := .value x,args := az,argTypes := ats }) (hw : wantE ops o E = some true) (hd : o.dst = some d) (hn : Nat.blt d n = true)
  (hx : ev E x = some (.func (.func g) ⟨first⟩ ⟨cap⟩)) (has : evs E az.toList = some vs) (hcat : cat3 first vs cap = some args) [hb : HB P g] (hc : Boom L g (List.toArray args) H v)
  (hp : L.J (G (c.raise (pe v)) cs) H) : At L f ro d0 (c :: cs) n E H (.inRegion ops (i :: rest) :: k) :=
 At.callP ho hop hw hd hn hx has hcat hc (by rintro _ rfl;exact hp) fun _ _ h => h.elim
theorem SpecP.enter {g : FuncId} {fn : Func} {body : Code} {args : Array Value} {Post : Value → Facts → Prop} {v : Value} {Pan : Facts → Prop} (hf : P.funcs[g]? = some fn) (hb : fn.body = some body) (hn : args.size ≤ fn.ntmps)
  (h : ∀ c cs,(∀ u H',Post u H' → L.J (G (c.finish u) cs) H') → (∀ H',Pan H' → L.J (G (c.raise (pe v)) cs) H') → At L g none d0 (c :: cs) fn.ntmps (envOf 0 args.toList) H [.code body]) : SpecP L g args H Post v Pan := by
 intro c cs hc hp
 have e : Frame.enter P g args .normal = Fr g none d0 (args ++ Array.replicate (fn.ntmps - args.size) undef) [.code body] := by
  simp [Frame.enter,Fr,hf,hb]
 rw [e]
 refine h c cs hc hp _ (by simp;omega) ?_;refine envOf_ok fun j v hj => ?_
 have hlt : j < args.size := by
  have := (List.getElem?_eq_some_iff.1 hj).1
  simpa using this
 rw [Nat.zero_add,Array.getElem?_append_left hlt]
 rw [← Array.getElem?_toList];exact hj
theorem Boom.enter {g : FuncId} {fn : Func} {body : Code} {args : Array Value} {v : Value} (hf : P.funcs[g]? = some fn) (hb : fn.body = some body) (hn : args.size ≤ fn.ntmps)
  (h : ∀ c cs,L.J (G (c.raise (pe v)) cs) H → At L g none d0 (c :: cs) fn.ntmps (envOf 0 args.toList) H [.code body]) : Boom L g args H v :=
 SpecP.enter hf hb hn fun c cs _ hp => h c cs (hp H rfl)
variable {Hq : Facts} {R : List Reg} {Ls : List Nat} {Fs : List Flo}
theorem loud_b {l : Nat} {x : Operand} {az : Array Operand} {ats : Array TypeId} {g : FuncId} {first cap : List Value} {vs args : List Value} {v : Value} [hf : HB P f] (ho : ops[l]? = some o) (hop : o.op = .call { callee := .value x,args := az,argTypes := ats }) (hw : wantE ops o E = some true) (hdst : dstOk o.dst n = true) (hc : checkReg R Ls Fs ops l o = true)
  (hx : ev E x = some (.func (.func g) ⟨first⟩ ⟨cap⟩)) (has : evs E az.toList = some vs) (hcat : cat3 first vs cap = some args) [hb : HB P g] (hB : ∀ H',Sub H H' → Boom L g (List.toArray args) H' v) (hp : L.J (G (c.raise (pe v)) cs) H) : Loud L f ro d0 (c :: cs) n ops k Hq R Ls Fs E H l := by
 refine ⟨o,fun _ _ => False,ho,dstOk_lt hdst,hc,fun F rest tmps hs hr hn => ?_,fun _ _ h => h.elim⟩
 refine step_core (E := E) (Q := fun nx H' => nx = .enter g (List.toArray args) ∧ H' = F ++ H) ho hs (by unfold noSel;rw [hop]) (by rw [hop];intro c;simp) hr hw (fun φ hA => ?_) ?_ ?_ ?_ ?_ ?_
 ·unfold execOp
  rw [hop]
  simp only
  have e : az.map φ = vs.toArray := by
   have := evs_map hA has
   apply Array.ext'
   simpa using this
  simp only [resolve,hA x _ hx,Deferred.ofValue,e]
  rw [K.bind]
  show K P (invoke _ _) _ (F ++ H)
  simp only [invoke]
  exact K.callFunc hb.h ⟨by rw [← cat3_eq hcat],rfl⟩
 ·rintro v H' ⟨h,_⟩;cases h
 ·rintro H' ⟨h,_⟩;cases h
 ·rintro g' args' H' ⟨h,rfl⟩
  cases h
  refine hB (F ++ H) (Sub.append_left F H) _ _ (fun _ _ h => h.elim) ?_
  rintro _ rfl
  exact pop_raise (L.weak _ _ _ (Sub.append_left F H) hp)
 ·rintro l g t x y H' ⟨h,_⟩;cases h
 ·rintro nx H' ⟨h,_⟩;subst h;trivial
theorem Pool.boom (C : List Nat) (l : Nat) (hdn : downOk ops = true) (honly : onlyIn R Ls Fs ops C = true) (hlt : Nat.blt l ops.size = true) (hr : regd R Ls l = false) (hfl : flod Fs l = false) (h : ∀ l ∈ C,Loud L f ro ds cs n ops k Hq R Ls Fs E H l) : Pool L f ro ds cs n ops k Hq R Ls Fs E H :=
 pool_any C hdn honly (blt_lt hlt) hr hfl h
end
end Go.Gx
end
section
namespace Go.Gx
open Go Go.Conc
section
variable {P : Program} {main : Bool} {L : Lg P main} {f : FuncId} {ro : Option Nat} {ds : Dz} {cs : List Frame} {n : Nat} {E : Env} {H lit Hk : Facts} {k : List Item} {ops : Array Oper} {i : Nat} {rest : List Nat} {o : Oper} {d : Nat} {c : Frame}
theorem At.calls {x : Operand} {az : Array Operand} {ats : Array TypeId} {fv : Value} {vs : List Value} (ho : ops[i]? = some o) (hop : o.op = .call { callee := .value x,args := az,argTypes := ats }) (hw : wantE ops o E = some true) (hx : ev E x = some fv) (has : evs E az.toList = some vs)
  (hc : ∀ tmps : Array Value,tmps.size = n → E.ok tmps → Calls L fv vs.toArray (Fr f ro ds tmps (.inRegion ops (i :: rest) :: k)) cs H) : At L f ro ds cs n E H (.inRegion ops (i :: rest) :: k) := by
 intro tmps hs hE
 refine L.closed _ _ rfl fun W hW => ?_
 have hA : Agree E (Fr f ro ds tmps (.inRegion ops (i :: rest) :: k)).eval := fun x v hx => ev_fr hE _ _ _ _ hx
 have hK : K P (execOp (Fr f ro ds tmps (.inRegion ops (i :: rest) :: k)).eval o) (CallN L (Fr f ro ds tmps (.inRegion ops (i :: rest) :: k)) cs) H := by
  unfold execOp
  rw [hop]
  simp only
  have e : az.map (Fr f ro ds tmps (.inRegion ops (i :: rest) :: k)).eval = vs.toArray := by
   have := evs_map hA has
   apply Array.ext'
   simpa using this
  simp only [resolve,hA x _ hx,e]
  exact hc tmps hs hE
 obtain ⟨nx,W',es,H',hr,ht,hq⟩ := K.sound hK (Tr.refl hW)
 rw [stepG_opF ho (wantE_ok hw hE) (by rw [hop];intro c;simp)]
 have ht' : Tr H W (seen P f es) W' H' := ⟨ht.holds,ht.os,ht.tape,ht.output,ht.size,ht.keep,ht.mine,ht.seen,fun e he => ht.evs e (mem_seen he)⟩
 cases nx with
 | enter g az => exact ⟨_,W',seen P f es,H',apply_enter fr_kind (by intro d r sv k h;simp [Fr] at h) hr,ht',hq⟩
 | round l g t x y => exact ⟨_,W',seen P f es,H',apply_round fr_kind hr,ht',hq⟩
 | _ => exact hq.elim
def HandP (L : Lg P main) (y : Value) (is : List Value) (I D : Nat → Facts → Prop) (v : Value) (B : Facts → Prop) : Prop :=
 ∀ k u Hk R c cs,is[k]? = some u → I k Hk → (∀ Hk',I (k + 1) Hk' → L.J (G (c.finish (.bool true)) cs) (Hk' ++ R)) → (∀ Hk',D k Hk' → L.J (G (c.finish (.bool false)) cs) (Hk' ++ R)) → (∀ Hk',B Hk' → L.J (G (c.raise (pe v)) cs) (Hk' ++ R)) →
  Calls L y #[u] c cs (Hk ++ R)
def SeqP (L : Lg P main) (g : FuncId) (cap : List Value) (is : List Value) (C0 H0 : Facts) : Prop :=
 ∀ (ly : Nat) I D v B,(∀ k Hk,I k Hk → Sub H0 Hk) → (∀ k Hk,D k Hk → Sub H0 Hk) → HandP L (.func (.yield ly) #[] #[]) is I D v B → ∀ Hs,I 0 Hs → SpecP L g (List.toArray (.func (.yield ly) #[] #[] :: cap)) (C0 ++ Hs) (fun _ H' => ∃ Hk',Sub Hk' H' ∧ (I is.length Hk' ∨ ∃ q,q < is.length ∧ D q Hk')) v (fun H' => ∃ Hk',Sub Hk' H' ∧ B Hk')
theorem At.yieldB {j : Nat} {x : Operand} {az : Array Operand} {ats : Array TypeId} {y u : Value} {is : List Value} {I D : Nat → Facts → Prop} {v : Value} {B : Facts → Prop} [hf : HB P f] (q : Nat) (ho : ops[i]? = some o) (hop : o.op = .call { callee := .value x,args := az,argTypes := ats }) (hw : wantE ops o E = some true) (hd : o.dst = some d) (hn : Nat.blt d n = true)
  (hx : ev E x = some y) (has : evs E az.toList = some [u]) (hh : HandP L y is I D v B) (hu : is[j]? = some u) (hI : I j Hk) (hH : splitF q H = some (lit,Hk)) (hb : ∀ Hk' H',B Hk' → Sub Hk' H' → L.J (G (c.raise (pe v)) cs) H')
  (h1 : ∀ Hk',I (j + 1) Hk' → At L f ro d0 (c :: cs) n ((d,.bool true) :: E) (joinF lit Hk') (.inRegion ops rest :: k))
  (h2 : ∀ Hk',D j Hk' → At L f ro d0 (c :: cs) n ((d,.bool false) :: E) (joinF lit Hk') (.inRegion ops rest :: k)) : At L f ro d0 (c :: cs) n E H (.inRegion ops (i :: rest) :: k) := by
 have eH := splitF_eq hH
 refine At.weakH (H' := Hk ++ lit) ?_ (Sub.of_perm (by rw [eH];exact List.perm_append_comm))
 refine At.calls ho hop hw hx has fun tmps hs hE => ?_
 have hd' : ∀ t,o.dst = some t → t < n := by rw [hd];rintro t ⟨⟩;simpa [Nat.blt_eq] using hn
 refine hh j u Hk lit _ _ hu hI (fun Hk' hI' => ?_) (fun Hk' hD => ?_) (fun Hk' hB => ?_)
 ·rw [fr_finish,ho]
  have h' : At L f ro d0 (c :: cs) n (putE o.dst (.bool true) E) (Hk' ++ lit) (.inRegion ops rest :: k) := by
   rw [hd];exact (h1 Hk' hI').weakH (Sub.of_perm (by rw [joinF_eq];exact List.perm_append_comm))
  exact at_put hd' h' tmps hs hE
 ·rw [fr_finish,ho]
  have h' : At L f ro d0 (c :: cs) n (putE o.dst (.bool false) E) (Hk' ++ lit) (.inRegion ops rest :: k) := by
   rw [hd];exact (h2 Hk' hD).weakH (Sub.of_perm (by rw [joinF_eq];exact List.perm_append_comm))
  exact at_put hd' h' tmps hs hE
 ·exact pop_raise (hb Hk' _ hB (Sub.pre _ _))
theorem calls_enter {g : FuncId} {first cap args : Array Value} (hb : HasBody P g) (h : L.J (G (Frame.enter P g (first ++ args ++ cap) .normal) (c :: cs)) H) : Calls L (.func (.func g) first cap) args c cs H := by
 unfold Calls
 simp only [Deferred.ofValue]
 rw [K.bind]
 show K P (invoke _ _) _ H
 simp only [invoke]
 exact K.callFunc hb h
theorem At.rngB {x : Operand} {t : Tmp} {assign body : Code} {g : FuncId} {cap : List Value} {is : List Value} {C0 H0 H1 : Facts} {v : Value} (hx : ev E x = some (.func (.func g) #[] ⟨cap⟩)) (ht : Nat.blt t n = true) [hb : HB P g] (hH : (C0 ++ H1).Perm H)
  (hseq : SeqP L g cap is C0 H0) (I : Nat → Facts → Prop) (D : Nat → Code → Facts → Prop) (B : Facts → Prop) (hsub : ∀ k Hk,I k Hk → Sub H0 Hk) (hsubD : ∀ k jp Hk,D k jp Hk → Sub H0 Hk) (hI : I 0 H1)
  (hround : ∀ (tmps : Array Value) (l r j : Nat) (u : Value) (Hk R : Facts) (c : Frame) (cs' : List Frame),is[j]? = some u → I j Hk →
   (∀ Hk',I (j + 1) Hk' → L.J (G (c.finish (.bool true)) cs') (.own l (.loop (lrec f tmps t assign body r .ready none)) :: .own r (.deferred (some [])) :: (Hk' ++ R))) →
   (∀ jp Hk',D j jp Hk' → L.J (G (c.finish (.bool false)) cs') (.own l (.loop (lrec f tmps t assign body r .done (some jp))) :: .own r (.deferred (some [])) :: (Hk' ++ R))) →
   (∀ Hk',B Hk' → L.J (G (c.raise (pe v)) cs') (.own r (.deferred (some [])) :: (Hk' ++ R))) →
   At L f (some l) d0 (c :: cs') n ((t,u) :: E) (.own l (.loop (lrec f tmps t assign body r .ready none)) :: .own r (.deferred (some [])) :: (Hk ++ R)) [.code assign,.beginRound,.code body])
  (hend : ∀ (tmps : Array Value) (l r : Nat) (Hk : Facts),I is.length Hk → At L f none ⟨ds.late,mark r :: ds.ds⟩ cs n E (.own l (.loop (lrec f tmps t assign body r .exhausted none)) :: .own r (.deferred (some [])) :: Hk) k)
  (hjump : ∀ (tmps : Array Value) (l r q : Nat) (jp : Code) (Hk : Facts),q < is.length → D q jp Hk → At L f none ⟨ds.late,mark r :: ds.ds⟩ cs n E (.own l (.loop (lrec f tmps t assign body r .exhausted (some jp))) :: .own r (.deferred (some [])) :: Hk) (.code jp :: k))
  (hcatch : ∀ (tmps : Array Value) (todo : List Item) (r : Nat) (Hk : Facts),tmps.size = n → E.ok tmps → B Hk → L.J (G ((Fr f none ⟨ds.late,mark r :: ds.ds⟩ tmps todo).raise (pe v)) cs) (.own r (.deferred (some [])) :: Hk)) :
  At L f none ds cs n E H (.code (.rangeFunc x #[t] assign body) :: k) := by
 refine At.rfunc (Post := fun _ _ => True) hx fun l r tmps hs hE => ?_
 have key := hseq l (fun j Hf => ∃ Hk,Hf = .own l (.loop (lrec f tmps t assign body r .ready none)) :: .own r (.deferred (some [])) :: Hk ∧ I j Hk)
  (fun j Hf => ∃ jp Hk,Hf = .own l (.loop (lrec f tmps t assign body r .done (some jp))) :: .own r (.deferred (some [])) :: Hk ∧ D j jp Hk) v (fun Hf => ∃ Hk,Hf = .own r (.deferred (some [])) :: Hk ∧ B Hk) (by
   rintro j _ ⟨Hk,rfl,hk⟩
   exact ((hsub j Hk hk).drop _).drop _) (by
   rintro j _ ⟨jp,Hk,rfl,hk⟩
   exact ((hsubD j jp Hk hk).drop _).drop _) (by
   rintro j u _ R c cs' hu ⟨Hk,rfl,hk⟩ h1 h2 h3
   refine calls_yield (rc := lrec f tmps t assign body r .ready none) (by simp) rfl ?_;refine round1 rfl hs ht rfl hE ?_
   refine hround tmps l r j u Hk R c cs' hu hk (fun Hk' h' => h1 _ ⟨_,rfl,h'⟩) (fun jp Hk' h' => h2 _ ⟨jp,Hk',rfl,h'⟩) (fun Hk' hB => h3 _ ⟨Hk',rfl,hB⟩)) _ ⟨H1,rfl,hI⟩
 have hp : (C0 ++ (.own l (.loop (lrec f tmps t assign body r .ready none)) :: .own r (.deferred (some [])) :: H1)).Perm (.own l (.loop (lrec f tmps t assign body r .ready none)) :: .own r (.deferred (some [])) :: H) :=
  List.perm_middle.trans (List.Perm.cons _ (List.perm_middle.trans (List.Perm.cons _ hH)))
 refine calls_enter (first := #[]) (cap := ⟨cap⟩) hb.h ?_
 rw [show (#[] ++ #[.func (.yield l) #[] #[]] ++ (⟨cap⟩ : Array Value)) = List.toArray (.func (.yield l) #[] #[] :: cap) from by simp]
 refine L.weak _ _ _ (Sub.of_perm hp) (key _ _ ?_ ?_)
 ·rintro v H' ⟨Hk',hsub',hor⟩
  rw [fr_finish_loop]
  refine L.weak _ _ _ hsub' ?_
  rcases hor with ⟨Hk,rfl,hk⟩ | ⟨q,hq,jp,Hk,rfl,hk⟩
  ·exact (At.endLoop (rc := lrec f tmps t assign body r .ready none) 0 rfl (by simp) rfl (hend tmps l r Hk hk)) tmps hs hE
  ·exact (At.endLoop (rc := lrec f tmps t assign body r .done (some jp)) 0 rfl (by simp) rfl (hjump tmps l r q jp Hk hq hk)) tmps hs hE
 ·rintro H' ⟨_,hs',Hk,rfl,hB⟩
  exact L.weak _ _ _ hs' (hcatch tmps _ r Hk hs hE hB)
end
end Go.Gx
end
section
namespace Go.Gx
open Go Go.Conc
section
variable {P : Program} {main : Bool} {L : Lg P main} {f : FuncId} {ro : Option Nat} {ds : Dz} {c : Frame} {cs : List Frame} {n : Nat} {k : List Item} {ops : Array Oper} {i : Nat} {rest : List Nat} {E : Env} {H H₀ sf : Facts} {o : Oper} {d : Nat}
def recd (c : Frame) (v : Value) : Frame := { c with mode := .panicking [{ v,recovered := true }] }
def retd (c : Frame) : Frame := { c with mode := .returning }
theorem At.recoverP {az : Array Operand} {ats : Array TypeId} {v : Value} (hc : c.mode = .panicking (pe v)) (ho : ops[i]? = some o) (hop : o.op = .call { callee := .builtin .recover,args := az,argTypes := ats }) (hw : wantE ops o E = some true) (hd : o.dst = some d) (hn : Nat.blt d n = true)
  (h : At L f none ⟨true,[]⟩ (recd c v :: cs) n ((d,v) :: E) H (.inRegion ops rest :: k)) : At L f none ⟨true,[]⟩ (c :: cs) n E H (.inRegion ops (i :: rest) :: k) := by
 intro tmps hs hE
 refine L.same (g' := G (Fr f none ⟨true,[]⟩ (tmps.setIfInBounds d v) (.inRegion ops rest :: k)) (recd c v :: cs)) rfl (fun W => ?_) (h _ (by rw [Array.size_setIfInBounds];exact hs) (Env.ok_put hE (by rw [hs];exact blt_lt hn) _))
 rw [stepG_opF ho (wantE_ok hw hE) (by rw [hop];intro c;simp)]
 have hr : (execOp (Fr f none ⟨true,[]⟩ tmps (.inRegion ops (i :: rest) :: k)).eval o).runT P W #[] = (.ok .recover W,#[]) := by
  unfold execOp
  rw [hop]
  rfl
 unfold stepG.apply
 simp only [if_true,hr,fr_kind]
 have ht : tryRecover (Fr f none ⟨true,[]⟩ tmps (.inRegion ops (i :: rest) :: k)) (c :: cs) = some (v,recd c v :: cs) := by
  unfold tryRecover
  simp [Fr,hc,pe,recd]
 have e : (Fr f none ⟨true,[]⟩ tmps (.inRegion ops (i :: rest) :: k)).roundOf = none := rfl
 simp only [e,ht]
 rw [fr_finish,ho]
 simp [GStep.after,G,hd,putT,seen]
theorem At.lateEndP {fn : Func} {todo : List Item} {v : Value} (hc : c.mode = .panicking [{ v,recovered := true }]) (hf : P.funcs[f]? = some fn) (hres : fn.results = #[]) (hs : todo = [] ∨ ∃ k',todo = .code .ret :: k') (h : L.J (G (retd c) cs) H) : At L f none ⟨true,[]⟩ (c :: cs) n E H todo := by
 intro tmps hn hE
 refine L.same (g' := G (retMode (Fr f none ⟨true,[]⟩ tmps todo)) (c :: cs)) rfl (fun W => ?_) ?_
 ·rcases hs with rfl | ⟨k',rfl⟩ <;> simp [G,stepG,stepG.exec,Fr,retMode]
 refine L.same (g' := G (retd c) cs) rfl (fun W => ?_) h
 have h : (results fn tmps).runT P W #[] = (.ok (.tuple #[]) W,#[]) := by
  unfold results
  rw [hres,Array.mapM_eq_mapM_toList,show (#[] : Array ResultVar).toList = [] from rfl,List.mapM_nil]
  refine PureT.bind (a := #[]) ?_ ?_ W #[]
  ·exact PureT.map (PureT.pure [])
  ·exact PureT.pure _
 simp only [G,stepG,retMode,Fr,unwind,hf,h]
 simp [doReturn,hc,seen_nil,GStep.after,G,retd]
theorem catchD (j : Nat) {fn fg : Func} {body : Code} {todo : List Item} {r : Nat} {g : FuncId} {first cap : List Value} {H' : Facts} {rs : List ResultVar} {vs : List Value} {v : Value} {tmps : Array Value} {Q : Facts → Prop} (hn : tmps.size = n) (hE : E.ok tmps) (hf : P.funcs[f]? = some fn)
  (hm : nthF H j = some (.own r (.deferred (some [])))) (hH : setF H j (.own r (.deferred none)) = some H')
  (hg : P.funcs[g]? = some fg) (hgb : fg.body = some body) [hB : HB P g] (hgn : (first ++ cap).length ≤ fg.ntmps)
  (hdef : ∀ (c' : Frame) (cs' : List Frame),c'.mode = .panicking (pe v) → (∀ H₂,Q H₂ → L.J (G (retd c') cs') H₂) → At L g none ⟨true,[]⟩ (c' :: cs') fg.ntmps (envOf 0 (first ++ cap)) H' [.code body])
  (hr : fn.results.toList = rs) (hres : ∀ H₂,Q H₂ → ResVs P E H₂ rs vs ∧ L.J (G (c.finish (resVal vs)) cs) H₂) : L.J (G ((Fr f none ⟨false,[mark r,dcall g first cap]⟩ tmps todo).raise (pe v)) (c :: cs)) H := by
 have er : ∀ ds',(Fr f none ⟨false,ds'⟩ tmps todo).raise (pe v) = { Fr f none ⟨false,ds'⟩ tmps todo with mode := .panicking (pe v) } := fun _ => rfl
 rw [er]
 refine L.closed _ _ rfl fun W hW => ?_
 have hK : K P (Instr.takeDeferred r) (fun ds H'' => ds = [] ∧ H'' = H') H := by
  unfold Instr.takeDeferred
  rw [K.bind]
  refine ⟨_,nthF_mem hm,rfl,?_⟩
  show K P (setObj r (Obj.deferred none) >>= fun _ => Pure.pure []) _ H
  rw [K.bind]
  exact ⟨_,H',rfl,rfl,setF_upd hm hH,rfl,rfl⟩
 obtain ⟨p,W',es,H'',hrr,ht,rfl,rfl⟩ := K.sound hK (Tr.refl hW)
 refine ⟨G { Fr f none ⟨false,[dcall g first cap]⟩ tmps todo with mode := .panicking (pe v) } (c :: cs),W',seen P f es,H'',?_,⟨ht.holds,ht.os,ht.tape,ht.output,ht.size,ht.keep,ht.mine,ht.seen,fun e he => ht.evs e (mem_seen he)⟩,?_⟩
 ·simp only [G,stepG,Fr,mark]
  simp only [unwind,hrr]
  simp [GStep.after]
 have henter : Frame.enter P g (List.toArray first ++ List.toArray cap) .deferred = Fr g none ⟨true,[]⟩ (List.toArray (first ++ cap) ++ Array.replicate (fg.ntmps - (List.toArray (first ++ cap)).size) undef) [.code body] := by
  simp [Frame.enter,Fr,hg,hgb]
 refine L.same (g' := G (Fr g none ⟨true,[]⟩ (List.toArray (first ++ cap) ++ Array.replicate (fg.ntmps - (List.toArray (first ++ cap)).size) undef) [.code body]) ({ Fr f none d0 tmps todo with mode := .panicking (pe v) } :: c :: cs)) rfl (fun W => ?_) ?_
 ·obtain ⟨fn',h1,h2,h3⟩ := hB.h
  rw [hg] at h1
  cases h1
  have hi : (invoke (.fn (.func g) (List.toArray cap)) (List.toArray first)).runT P W #[] = (.ok (.enter g (List.toArray first ++ List.toArray cap)) W,#[]) := by
   have h4 : fg.body.isNone = false := by rw [hgb];rfl
   simp only [invoke,callFunc]
   show (do let p ← program;_ : Sem Next).runT P W #[] = _
   rw [runT_bind]
   simp only [program,Sem.runT,hg,h2,Bool.false_eq_true,if_false,h4]
   rfl
  rw [← henter]
  simp only [G,stepG,Fr,dcall]
  simp only [unwind,callDeferred,hi]
  simp [GStep.after,seen,G,Fr]
 refine hdef { Fr f none d0 tmps todo with mode := .panicking (pe v) } (c :: cs) rfl (fun H₂ hQ => ?_) _ (by simp at hgn ⊢;omega) ?_
 ·obtain ⟨hv,h⟩ := hres H₂ hQ
  refine L.closed _ _ rfl fun W hW => ?_
  obtain ⟨v',W',es,H₃,hr2,ht2,rfl,rfl⟩ := K.sound (k_results (Q := fun v' H₃ => v' = resVal vs ∧ H₃ = H₂) hE hr hv ⟨rfl,rfl⟩) (Tr.refl hW)
  refine ⟨G (c.finish (resVal vs)) cs,W',seen P f es,_,?_,⟨ht2.holds,ht2.os,ht2.tape,ht2.output,ht2.size,ht2.keep,ht2.mine,ht2.seen,fun e he => ht2.evs e (mem_seen he)⟩,h⟩
  simp only [G,stepG,retd,Fr]
  simp only [unwind,hf,hr2,doReturn]
  simp [GStep.after]
 ·refine envOf_ok fun j v hj => ?_
  have hlt : j < (List.toArray (first ++ cap)).size := by
   have := (List.getElem?_eq_some_iff.1 hj).1
   simpa using this
  rw [Nat.zero_add,Array.getElem?_append_left hlt]
  rw [← Array.getElem?_toList];exact hj
end
end Go.Gx
end
section
namespace Go.Gx
open Go Go.Conc Go.Proofs
variable {main : Bool}
def refV : Value := .iface 93 (.agg #[])
instance : NifI Tryz.prog 93 := ⟨by kernel_rfl⟩
theorem b46 (L : Lg Tryz.prog main) (H : Facts) : Boom L 46 #[.bool false] H refV := by
 refine Boom.enter Tryz.func46 rfl (by simp [Tryz.f46]) fun c cs hp => ?_;refine At.seq (At.region ?_);(iterate 2 refine Aa Z Z Z Z Z O ?_);refine Ab ?_;refine At.cond Z ?_;refine At.region ?_;refine Ae Z Z Z Z (q_build Z Z Z) ?_;refine Ae Z Z Z Z (q_mkIface Z Z) ?_
 refine At.raise Z Z Z Z hp
end Go.Gx
end
section
namespace Go.Gx
open Go Go.Conc Go.Proofs
variable {main : Bool}
def restN (w : List UInt8) : List UInt8 := if w.head? = some 45 then w.drop 1 else w
def negN (w : List UInt8) : Bool := w.head? == some 45
theorem sgn_restN (w : List UInt8) : sgn (negN w) (restN w) = w := by
 unfold sgn negN restN
 cases w with
 | nil => rfl
 | cons x w =>
  by_cases h : x = 45
  ·subst h;rfl
  ·have hx : (x == (45 : UInt8)) = false := by simpa using h
   simp [h,hx]
theorem dw_nil {p : UInt8 → Bool} : ∀ l : List UInt8,(∀ x ∈ l.dropWhile p,p x = true) → l.dropWhile p = []
 | [],_ => rfl
 | x :: l,h => by
  by_cases hx : p x = true
  ·rw [List.dropWhile_cons_of_pos hx] at h ⊢
   exact dw_nil l h
  ·rw [List.dropWhile_cons_of_neg hx] at h
   exact absurd (h x (List.mem_cons_self ..)) hx
theorem dw_all {p : UInt8 → Bool} : ∀ l : List UInt8,l.dropWhile p = [] → ∀ x ∈ l,p x = true
 | [],_,x,hx => by cases hx
 | y :: l,h,x,hx => by
  by_cases hy : p y = true
  ·rw [List.dropWhile_cons_of_pos hy] at h
   rcases List.mem_cons.1 hx with rfl | hx
   ·exact hy
   ·exact dw_all l h x hx
  ·rw [List.dropWhile_cons_of_neg hy] at h
   cases h
theorem trim_all {ch w : List UInt8} (h : trimL ch (trimR ch w) = []) : ∀ x ∈ w,x ∈ ch := by
 unfold trimL trimR at h
 have h1 := dw_all _ h
 have h2 : w.reverse.dropWhile (fun x => decide (x ∈ ch)) = [] := dw_nil _ fun x hx => h1 x (List.mem_reverse.2 hx)
 intro x hx
 simpa using dw_all _ h2 x (List.mem_reverse.2 hx)
theorem dig_of_mem {d : UInt8} (h : d ∈ digs10) : isDig d := by
 simp only [digs10,List.mem_cons,List.not_mem_nil,or_false] at h
 rcases h with rfl | rfl | rfl | rfl | rfl | rfl | rfl | rfl | rfl | rfl <;> decide
set_option maxRecDepth 100000 in
theorem b98 (L : Lg Tryz.prog main) (H : Facts) {w : List UInt8} (hl : w.length ≤ 100000) (hn : ¬ NumOk (negN w) (restN w)) : Boom L 98 #[.string (S w)] H refV := by
 refine Boom.enter Tryz.func98 rfl (by simp [Tryz.f98]) fun c cs hp => ?_
 have stop130 := trivial
 refine At.seq (At.region ?_);refine Aa Z Z Z Z Z O ?_;refine Ab (At.seq (At.region ?_));refine Aa Z Z Z Z Z O ?_
 clear stop130
 refine Ai Z Z Z Z Z Z Z Z (s130 L _ (w := w) (b := 45)) ?_
 rw [show (if w.head? = some 45 then w.drop 1 else w) = restN w from rfl,show (w.head? == some 45) = negN w from rfl]
 have hrl : (restN w).length ≤ 100000 := by
  unfold restN
  split
  ·rw [List.length_drop];omega
  ·exact hl
 have hnn : ∀ (h1 : 1 ≤ (restN w).length) (h9 : (restN w).length ≤ 9) (hd : ∀ d ∈ restN w,isDig d),¬ ((restN w).head? ≠ some 48 ∨ ((restN w).length = 1 ∧ negN w = false)) := fun h1 h9 hd hh => hn ⟨h1,h9,hd,hh⟩
 generalize restN w = r at hrl hnn ⊢
 generalize negN w = ng at hnn ⊢
 have stop131 := trivial
 have stop46 := trivial
 (iterate 5 refine Aa Z Z Z Z Z O ?_);refine Ab (At.seq (At.region ?_));refine Aa Z Z Z Z Z O ?_;refine Ae Z Z Z Z (q_lenSS Z Z Z Z) ?_;refine Bc Z Z Z Z Z Z Z Z (s115 L _) fun b14 h14 => ?_;refine Aa Z Z Z Z Z O ?_
 cases b14
 ·refine Ar Z Z Z Z ?_
  (iterate 2 refine Ar Z Z Z Z ?_);(iterate 2 refine Aa Z Z Z Z Z O ?_);(iterate 12 refine Ar Z Z Z Z ?_);refine Aa Z Z Z Z Z O ?_
  clear stop46
  refine At.callB Z Z Z Z Z Z Z Z (b46 L _) hp
 ·refine Aa Z Z Z Z Z O ?_
  have h14' : 1 ≤ r.length ∧ r.length ≤ 9 := by simp at h14;omega
  clear stop131
  refine Ai Z Z Z Z Z Z Z Z (s131 L _ (w := r) (ch := digs10) (by omega) (by decide) (by decide) (by decide)) ?_;refine At.qb Z Z Z Z (q_strEqS Z Z Z) fun b18 h18 => ?_;(iterate 2 refine Aa Z Z Z Z Z O ?_)
  cases b18
  ·refine Ar Z Z Z Z ?_
   (iterate 11 refine Ar Z Z Z Z ?_);refine Aa Z Z Z Z Z O ?_
   clear stop46
   refine At.callB Z Z Z Z Z Z Z Z (b46 L _) hp
  ·have htr : trimL digs10 (trimR digs10 r) = [] := by simpa using h18
   have hd : ∀ d ∈ r,isDig d := fun d hd => dig_of_mem (trim_all htr d hd)
   have hh := hnn h14'.1 h14'.2 hd
   obtain ⟨d0,ds1,rfl⟩ := List.exists_cons_of_length_pos (show 0 < r.length by omega)
   have h48 : d0 = 48 := by
    by_cases e : d0 = 48
    ·exact e
    ·exact absurd (.inl (by simpa using e)) hh
   subst h48
   refine Aa Z Z Z Z Z O ?_;refine Ae Z Z Z Z (q_at (j := 0) Z Z Z Z) ?_;refine Ad Z Z Z Z Z fun b23 h23 => ?_;refine Aa Z Z Z Z Z O ?_
   obtain rfl : b23 = false := by rw [← h23];decide
   refine Aa Z Z Z Z Z O ?_;refine Ae Z Z Z Z (q_lenSS Z Z Z Z) ?_;refine Ad Z Z Z Z Z fun b27 h27 => ?_;refine Aa Z Z Z Z Z O ?_
   cases b27
   ·refine Ar Z Z Z Z ?_
    refine Ar Z Z Z Z ?_;(iterate 3 refine Aa Z Z Z Z Z O ?_)
    clear stop46
    refine At.callB Z Z Z Z Z Z Z Z (b46 L _) hp
   ·have h27' : ds1.length + 1 = 1 := by have := of_decide_eq_true h27;rw [List.length_cons] at this;omega
    have hng : ng = true := by
     cases ng
     ·exact absurd (.inr ⟨h27',rfl⟩) hh
     ·rfl
    subst hng
    (iterate 5 refine Aa Z Z Z Z Z O ?_)
    clear stop46
    refine At.callB Z Z Z Z Z Z Z Z (b46 L _) hp
end Go.Gx
end
section
namespace Go.Gx
open Go Go.Conc Go.Proofs
variable {main : Bool}
def NumW (w : List UInt8) : Prop := NumOk (negN w) (restN w)
def numV (w : List UInt8) : Int := sval (negN w) (restN w)
theorem s98w (L : Lg Tryz.prog main) (H : Facts) {w : List UInt8} (hn : NumW w) : Pure L 98 #[.string (S w)] H (.int .i64 (numV w)) := by
 have := s98 L H hn
 rwa [sgn_restN] at this
def BandIs (w : List UInt8) (x : Int × Int) : Prop := ((58 : UInt8) ∉ w ∧ NumW w ∧ x = (numV w,numV w)) ∨ ∃ a r,w = a ++ 58 :: r ∧ (58 : UInt8) ∉ a ∧ NumW a ∧ NumW r ∧ numV a ≠ numV r ∧ x = (numV a,numV r)
theorem s99w (L : Lg Tryz.prog main) (H : Facts) {w : List UInt8} {x : Int × Int} (h : BandIs w x) : Pure L 99 #[.string (S w)] H (.agg #[.int .i64 x.1,.int .i64 x.2]) := by
 rcases h with ⟨_,hn,rfl⟩ | ⟨a,r,rfl,_,ha,hr,hne,rfl⟩
 ·have := s99a L H hn
  rwa [sgn_restN] at this
 ·have := s99b L H ha hr hne
  rwa [sgn_restN,sgn_restN] at this
theorem first_split {b : UInt8} : ∀ {w : List UInt8},b ∈ w → ∃ a r,w = a ++ b :: r ∧ b ∉ a
 | x :: w,h => by
  by_cases e : x = b
  ·subst e;exact ⟨[],w,rfl,by simp⟩
  ·have hw : b ∈ w := by
    rcases List.mem_cons.1 h with rfl | h
    ·exact absurd rfl e
    ·exact h
   obtain ⟨a,r,rfl,ha⟩ := first_split hw
   refine ⟨x :: a,r,rfl,?_⟩
   simp only [List.mem_cons,not_or]
   exact ⟨fun e' => e e'.symm,ha⟩
set_option maxRecDepth 100000 in
theorem b99 (L : Lg Tryz.prog main) (H : Facts) {w : List UInt8} (hl : w.length ≤ 100000) (h : ¬ ∃ x,BandIs w x) : Boom L 99 #[.string (S w)] H refV := by
 refine Boom.enter Tryz.func99 rfl (by simp [Tryz.f99]) fun c cs hp => ?_
 by_cases h58 : (58 : UInt8) ∈ w
 ·obtain ⟨a,r,rfl,ha⟩ : ∃ a r,w = a ++ 58 :: r ∧ (58 : UInt8) ∉ a := by
   exact first_split h58
  have hla : a.length ≤ 100000 ∧ r.length ≤ 100000 := by simp at hl;omega
  have stop133 := trivial
  refine At.seq (At.region ?_);refine Al Z Z Z Z Z fun r2 => ?_;refine Ab (At.seq (At.region ?_));refine Aa Z Z Z Z Z O ?_
  clear stop133
  refine Ai Z Z Z Z Z Z Z Z (s133y L _ ha (by omega)) ?_
  have stop98 := trivial
  (iterate 7 refine Aa Z Z Z Z Z O ?_);refine Ab (At.seq (At.region ?_));refine Aa Z Z Z Z Z O ?_
  clear stop98
  by_cases hna : NumW a
  ·refine Ai Z Z Z Z Z Z Z Z (s98w L _ hna) ?_
   have stop98 := trivial
   refine Ae Z Z Z Z (q_build Z Z Z) ?_;refine Al Z Z Z Z Z fun r6 => ?_;refine Ag 0 Z Z Z Z Z Z Z Z Z Z Z Z ?_;refine Ab (At.seq (At.region ?_));refine Ah 0 Z Z Z Z Z Z Z ?_;refine Af 0 Z Z Z Z Z Z Z Z Z ?_;refine Ah 1 Z Z Z Z Z Z Z ?_;refine Ag 0 Z Z Z Z Z Z Z Z Z Z Z Z ?_;refine Ab (At.seq (At.seq (At.region ?_)))
   refine Aa Z Z Z Z Z O ?_;refine Ab ?_;refine At.cond Z ?_;refine At.seq (At.region ?_);refine Aa Z Z Z Z Z O ?_
   clear stop98
   by_cases hnr : NumW r
   ·refine Ai Z Z Z Z Z Z Z Z (s98w L _ hnr) ?_
    have heq : numV a = numV r := by
     by_cases e : numV a = numV r
     ·exact e
     ·exact absurd ⟨_,.inr ⟨a,r,rfl,ha,hna,hnr,e,rfl⟩⟩ h
    have stop46 := trivial
    refine Ah 1 Z Z Z Z Z Z Z ?_;refine Ag 0 Z Z Z Z Z Z Z Z Z Z Z Z ?_;refine Ab (At.region ?_);refine Ah 0 Z Z Z Z Z Z Z ?_;refine Af 0 Z Z Z Z Z Z Z Z Z ?_;refine Ah 1 Z Z Z Z Z Z Z ?_;refine Af 0 Z Z Z Z Z Z Z Z Z ?_;refine Ad Z Z Z Z Z fun b27 h27 => ?_
    clear stop46
    obtain rfl : b27 = false := by rw [← h27,heq];simp
    refine At.callB Z Z Z Z Z Z Z Z (b46 L _) (wk hp)
   ·refine At.callB Z Z Z Z Z Z Z Z (b98 L _ hla.2 hnr) (wk hp)
  ·refine At.callB Z Z Z Z Z Z Z Z (b98 L _ hla.1 hna) (wk hp)
 ·have hn : ¬ NumW w := fun hn => h ⟨_,.inl ⟨h58,hn,rfl⟩⟩
  have stop133 := trivial
  refine At.seq (At.region ?_);refine Al Z Z Z Z Z fun r2 => ?_;refine Ab (At.seq (At.region ?_));refine Aa Z Z Z Z Z O ?_
  clear stop133
  refine Ai Z Z Z Z Z Z Z Z (s133n L _ h58) ?_
  have stop98 := trivial
  (iterate 7 refine Aa Z Z Z Z Z O ?_);refine Ab (At.seq (At.region ?_));refine Aa Z Z Z Z Z O ?_
  clear stop98
  refine At.callB Z Z Z Z Z Z Z Z (b98 L _ hl hn) (wk hp)
end Go.Gx
end
