/-
  CanvasBack: the logic of the walk, the contracts of the program's functions, the plain law and the card.
-/
import Derived.Test.YtjdpbechehdefaaGreatDoorU4x6
import Derived.OpenShut
import Derived.LaidSub
import Derived.MakeChecks
import Derived.Test.YtjdpbechehdefaaGreatDoorTie
import Derived.Test.YtjdpbechehdefaaGreatDoorCards
import Derived.LaidLaws
import Derived.Lay
import Derived.Test.YtjdpbechehdefaaGreatDoorRows
import Derived.Conc.LeavingOf
import Derived.SevenTiedAt
set_option linter.unusedSimpArgs false
set_option linter.unusedVariables false
section
namespace Go.Gx
open Go Go.Conc Go.Proofs
variable {main : Bool}

inductive LnOk : List (List UInt8) → Prop
  | nil : LnOk []
  | last {u : List UInt8} (h : (10 : UInt8) ∉ u) (h0 : u ≠ []) : LnOk [u]
  | cons {u : List UInt8} {ls : List (List UInt8)} (h : (10 : UInt8) ∉ u) (hs : LnOk ls) : LnOk ((u ++ [10]) :: ls)
theorem LnOk.drop {ls : List (List UInt8)} (h : LnOk ls) : ∀ j, LnOk (ls.drop j) := by
  induction h with
  | nil => intro j; simp; exact .nil
  | last h h0 =>
    intro j
    cases j with
    | zero => exact .last h h0
    | succ j => simp; exact .nil
  | cons h hs ih =>
    intro j
    cases j with
    | zero => exact .cons h hs
    | succ j => exact ih j
theorem drop_cons {α : Type} {ls : List α} {j : Nat} {x : α} {rest : List α} (h : ls.drop j = x :: rest) : j < ls.length ∧ ls[j]? = some x ∧ ls.drop (j + 1) = rest := by
  have hj : j < ls.length := by
    rcases Nat.lt_or_ge j ls.length with h' | h'
    · exact h'
    · rw [List.drop_eq_nil_of_le h'] at h; cases h
  rw [List.drop_eq_getElem_cons hj] at h
  cases h
  exact ⟨hj, List.getElem?_eq_getElem hj, rfl⟩
def strV (l : List UInt8) : Value := .string (S l)
set_option maxRecDepth 100000 in
theorem s93 (L : Lg Tryz.prog main) {ls : List (List UInt8)} (hls : LnOk ls) (hlen : ls.flatten.length ≤ 50000) {b : Nat} :
    SeqC L 93 [.pointer (some ⟨b, 0, none⟩)] (ls.map strV) [.own b (.cells #[.string (S ls.flatten)] 9 (0, 0))] [] := by
  intro ly I D hsub hsubD hh Hs hI0
  refine Spec.enter Tryz.func93 rfl (by simp [Tryz.f93]) fun c cs hc => ?_; refine At.block ?_
  refine At.lpk (X := { x : Nat × Facts // x.1 ≤ ls.length ∧ I x.1 x.2 }) [0, 1] (fun _ => []) (fun x => .own b (.cells #[.string (S (ls.drop x.1.1).flatten)] 9 (0, 0)) :: x.1.2) (fun x => ls.length - x.1.1) (⟨(0, Hs), Nat.zero_le _, hI0⟩) rfl ?_ (by repeat (first | exact trivial | refine ⟨rfl, ?_⟩)) sb
  rintro ⟨⟨j, Hk⟩, hj, hI⟩ again
  simp only at again hj hI ⊢
  have hd := hls.drop j
  have hdl : (ls.drop j).flatten.length ≤ 50000 := by
    have : ls.flatten = (ls.take j).flatten ++ (ls.drop j).flatten := by rw [← List.flatten_append, List.take_append_drop]
    rw [this] at hlen
    simp only [List.length_append] at hlen; omega
  generalize hR : ls.drop j = R at hd hdl ⊢
  cases hd with
  | nil =>
    have e : j = ls.length := by
      have := congrArg List.length hR
      simp at this; omega
    subst e
    refine At.seq (At.seq (At.region ?_)); refine At.ld 0 rfl rfl rfl rfl rfl rfl rfl rfl rfl ?_; refine At.q rfl rfl rfl rfl (q_lenSS rfl rfl rfl rfl) ?_; refine At.cp rfl rfl rfl rfl rfl fun b7 h7 => ?_; refine At.regionEnd ?_
    obtain rfl : b7 = false := h7.symm.trans (by kernel_rfl)
    refine At.cond rfl ?_; refine At.exit rfl ?_
    exact At.ret Tryz.func93 (.inl rfl) rfl .nil (wk (hc _ _ (⟨_, Sub.tail _ _, .inl (by rw [List.length_map]; exact hI)⟩)))
  | last h h0 =>
    rename_i u
    obtain ⟨hlt, hget, hdr⟩ := drop_cons hR
    have hu : (ls.map strV)[j]? = some (strV u) := by rw [List.getElem?_map, hget]; rfl
    have hp : 0 < u.length := List.length_pos_iff.2 h0
    rw [show [u].flatten = u by simp] at hdl ⊢
    have stop94 := trivial
    refine At.seq (At.seq (At.region ?_)); refine At.ld 0 rfl rfl rfl rfl rfl rfl rfl rfl rfl ?_; refine At.q rfl rfl rfl rfl (q_lenSS rfl rfl rfl rfl) ?_; refine At.cp rfl rfl rfl rfl rfl fun b7 h7 => ?_; refine At.regionEnd ?_
    obtain rfl : b7 = true := h7.symm.trans (decide_eq_true (by omega))
    refine At.cond rfl ?_; refine At.skip ?_; refine At.block ?_; refine At.seq (At.region ?_); refine At.v rfl rfl rfl rfl rfl trivial ?_; refine At.regionEnd (At.seq (At.seq (At.region ?_))); refine At.ld 0 rfl rfl rfl rfl rfl rfl rfl rfl rfl ?_
    clear stop94
    refine At.cq rfl rfl rfl rfl rfl rfl rfl rfl (s94 L _ (w := u) (b := 10)) ?_
    rw [ixI_none h]
    refine At.v rfl rfl rfl rfl rfl trivial ?_; refine At.regionEnd (At.seq (At.region ?_)); refine At.v rfl rfl rfl rfl rfl trivial ?_; refine At.cp rfl rfl rfl rfl rfl fun b11 h11 => ?_; refine At.regionEnd ?_
    obtain rfl : b11 = false := h11.symm.trans (by kernel_rfl)
    refine At.cond rfl ?_; refine At.region ?_; refine At.ld 0 rfl rfl rfl rfl rfl rfl rfl rfl rfl ?_; refine At.v rfl rfl rfl rfl rfl trivial ?_; refine At.st 0 rfl rfl rfl rfl rfl rfl rfl rfl rfl rfl rfl rfl ?_; refine At.regionEnd (At.seq (At.region ?_)); (iterate 2 refine At.v rfl rfl rfl rfl rfl trivial ?_)
    refine At.yield 1 rfl rfl rfl rfl rfl rfl rfl hh hu hI rfl (fun Hk hI => ?_) (fun Hk hD => ?_)
    · refine At.v rfl rfl rfl rfl rfl trivial ?_
      refine At.regionEnd ?_; refine At.cond rfl ?_; refine At.skip ?_; refine At.inBlock ?_
      have ag := again ⟨(j + 1, Hk), hlt, hI⟩ (by simp only; omega)
      simp only [hdr, List.flatten_nil] at ag
      refine At.tA (ag)
    · refine At.v rfl rfl rfl rfl rfl trivial ?_
      refine At.regionEnd ?_; refine At.cond rfl ?_
      exact At.ret Tryz.func93 (.inr ⟨_, rfl⟩) rfl .nil (wk (hc _ _ (⟨_, Sub.tail _ _, .inr ⟨j, by rw [List.length_map]; exact hlt, hD⟩⟩)))
  | cons h hs =>
    rename_i u rest
    obtain ⟨hlt, hget, hdr⟩ := drop_cons hR
    have hu : (ls.map strV)[j]? = some (strV (u ++ [10])) := by rw [List.getElem?_map, hget]; rfl
    rw [show ((u ++ [10]) :: rest).flatten = u ++ 10 :: rest.flatten by simp] at hdl ⊢
    have hle : (u ++ 10 :: rest.flatten).length = u.length + rest.flatten.length + 1 := by simp; omega
    have stop94 := trivial
    refine At.seq (At.seq (At.region ?_)); refine At.ld 0 rfl rfl rfl rfl rfl rfl rfl rfl rfl ?_; refine At.q rfl rfl rfl rfl (q_lenSS rfl rfl rfl rfl) ?_; refine At.cp rfl rfl rfl rfl rfl fun b7 h7 => ?_; refine At.regionEnd ?_
    obtain rfl : b7 = true := h7.symm.trans (decide_eq_true (by omega))
    refine At.cond rfl ?_; refine At.skip ?_; refine At.block ?_; refine At.seq (At.region ?_); refine At.v rfl rfl rfl rfl rfl trivial ?_; refine At.regionEnd (At.seq (At.seq (At.region ?_))); refine At.ld 0 rfl rfl rfl rfl rfl rfl rfl rfl rfl ?_
    clear stop94
    refine At.cq rfl rfl rfl rfl rfl rfl rfl rfl (s94 L _ (w := u ++ 10 :: rest.flatten) (b := 10)) ?_
    rw [ixI_some h]
    have stopDraw := trivial
    refine At.v rfl rfl rfl rfl rfl trivial ?_; refine At.regionEnd (At.seq (At.region ?_)); refine At.v rfl rfl rfl rfl rfl trivial ?_; refine At.cp rfl rfl rfl rfl rfl fun b11 h11 => ?_; refine At.regionEnd ?_
    obtain rfl : b11 = true := h11.symm.trans (by kernel_rfl)
    refine At.cond rfl ?_
    clear stopDraw
    refine At.draw hmix (_) sb ?_; refine Pool.ld 0 0 rfl rfl rfl rfl rfl rfl rfl rfl rfl rfl rfl ?_; refine Pool.v 1 rfl rfl rfl rfl rfl rfl rfl trivial ?_; refine Pool.v 2 rfl rfl rfl rfl rfl rfl rfl (by omega) ?_; refine Pool.q 3 rfl rfl rfl rfl rfl (q_cutH (h := (u.length + 1)) rfl rfl rfl (by omega)) rfl ?_; refine Pool.ld 0 4 rfl rfl rfl rfl rfl rfl rfl rfl rfl rfl rfl ?_; refine Pool.v 5 rfl rfl rfl rfl rfl rfl rfl trivial ?_; refine Pool.v 6 rfl rfl rfl rfl rfl rfl rfl (by omega) ?_
    refine Pool.q 7 rfl rfl rfl rfl rfl (q_cutL (l := (u.length + 1)) rfl rfl rfl (by omega)) rfl ?_; refine Pool.v 8 rfl rfl rfl rfl rfl rfl rfl trivial ?_; refine pool_lastI 9 rfl rfl rfl rfl rfl ?_
    rw [show (u ++ 10 :: rest.flatten).take (u.length + 1) = u ++ [10] by simp [List.take_append, List.take_of_length_le (show u.length ≤ u.length + 1 by omega)], show (u ++ 10 :: rest.flatten).drop (u.length + 1) = rest.flatten by simp [List.drop_append]]
    refine At.st 0 rfl rfl rfl rfl rfl rfl rfl rfl rfl rfl rfl rfl ?_; refine At.regionEnd (At.seq (At.region ?_)); (iterate 2 refine At.v rfl rfl rfl rfl rfl trivial ?_)
    refine At.yield 1 rfl rfl rfl rfl rfl rfl rfl hh hu hI rfl (fun Hk hI => ?_) (fun Hk hD => ?_)
    · refine At.v rfl rfl rfl rfl rfl trivial ?_
      refine At.regionEnd ?_; refine At.cond rfl ?_; refine At.skip ?_; refine At.inBlock ?_
      have ag := again ⟨(j + 1, Hk), hlt, hI⟩ (by simp only; omega)
      simp only [hdr] at ag
      refine At.tA (ag)
    · refine At.v rfl rfl rfl rfl rfl trivial ?_
      refine At.regionEnd ?_; refine At.cond rfl ?_
      exact At.ret Tryz.func93 (.inr ⟨_, rfl⟩) rfl .nil (wk (hc _ _ (⟨_, Sub.tail _ _, .inr ⟨j, by rw [List.length_map]; exact hlt, hD⟩⟩)))
end Go.Gx
end

section
namespace Go.Gx
open Go Go.Conc

section
variable {P : Program} {main : Bool} {L : Lg P main} {f : FuncId} {ro : Option Nat} {ds : Dz} {cs : List Frame} {n : Nat} {k : List Item} {ops : Array Oper} {Hq H : Facts} {R : List Reg} {Ls : List Nat} {Fs : List Flo} {E : Env} {o : Oper} {d : Nat}
theorem reg_inv {i : Nat} {x : Operand} {az : Array Operand} {ats : Array TypeId} {t : TypeId} {name : String} {g : FuncId} {v0 v : Value} {vs : List Value} [hm : MtI P t name g] (ho : ops[i]? = some o) (hw : wantE ops o E = some true) (hop : o.op = .call { callee := .invoke x name, args := az, argTypes := ats }) (hdst : dstOk o.dst n = true)
    (hx : ev E x = some (.iface t v0)) (has : evs E az.toList = some vs) (hb : HasBody P g) (hsp : ∀ H, Sub Hq H → Spec L g (#[v0] ++ vs.toArray) H fun u H' => u = v ∧ H' = H) : Reg.ok L f ro ds cs n ops k Hq ⟨i, o, E, v⟩ := by
  refine ⟨ho, dstOk_lt hdst, fun {H} hs {rest tmps} hn hr h => ?_⟩
  refine step_core (E := E) (Q := fun nx H' => nx = .enter g (#[v0] ++ vs.toArray) ∧ H' = H) ho hn (by unfold noSel; rw [hop]) (by rw [hop]; intro c; simp) hr hw (fun φ hA => ?_) ?_ ?_ ?_ ?_ ?_
  · unfold execOp
    rw [hop]
    simp only
    have e : az.map φ = vs.toArray := by
      have := evs_map hA has
      apply Array.ext'
      simpa using this
    simp only [resolve, hA x _ hx, e]
    rw [K.bind, K.pure]
    show K P (invoke _ _) _ H
    simp only [invoke]
    have e1 : (#[Value.iface t v0] ++ vs.toArray)[0]? = some (.iface t v0) := by simp
    have e2 : (#[Value.iface t v0] ++ vs.toArray).extract 1 (#[Value.iface t v0] ++ vs.toArray).size = vs.toArray := by
      apply Array.ext'
      simp
    simp only [e1, e2, callMethod]
    rw [K.bind]
    show K P program _ H
    simp only [program, K]
    rw [K.bind]
    refine k_method ?_
    exact K.callFunc hb ⟨rfl, rfl⟩
  · rintro v H' ⟨h, _⟩; cases h
  · rintro H' ⟨h, _⟩; cases h
  · rintro g' args' H' ⟨e1, e2⟩
    cases e1
    subst e2
    refine hsp _ hs _ _ fun u H' hu => ?_
    obtain ⟨rfl, rfl⟩ := hu
    rw [fr_finish, ho]
    exact h
  · rintro l g t x y H' ⟨h, _⟩; cases h
  · rintro nx H' ⟨h, _⟩; subst h; trivial
theorem Pool.inv (i : Nat) {x : Operand} {az : Array Operand} {ats : Array TypeId} {t : TypeId} {name : String} {g : FuncId} {v0 v : Value} {vs args : List Value} [hm : MtI P t name g] (ho : ops[i]? = some o) (hdst : dstOk o.dst n = true) (hw : wantE ops o E = some true) (hd : o.dst = some d) (hop : o.op = .call { callee := .invoke x name, args := az, argTypes := ats })
    (hx : ev E x = some (.iface t v0)) (has : evs E az.toList = some vs) (hcat : cat3 [v0] vs [] = some args) [hb : HB P g] (hc : checkReg R Ls Fs ops i o = true) (hsp : ∀ H, Sub Hq H → Pure L g (List.toArray args) H v)
    (h : Pool L f ro ds cs n ops k Hq (⟨i, o, E, v⟩ :: R) Ls Fs ((d, v) :: E) H) : Pool L f ro ds cs n ops k Hq R Ls Fs E H :=
  pool_reg (reg_inv ho hw hop hdst hx has hb.h fun H hs => by
    have := cat3_eq hcat
    rw [show (#[v0] ++ vs.toArray) = List.toArray args from by rw [← this]; simp]; exact hsp H hs) hc (by rw [hd]; exact h)
theorem At.invq {i : Nat} {rest : List Nat} {x : Operand} {az : Array Operand} {ats : Array TypeId} {t : TypeId} {name : String} {g : FuncId} {v0 v : Value} {vs args : List Value} [hm : MtI P t name g] (ho : ops[i]? = some o) (hop : o.op = .call { callee := .invoke x name, args := az, argTypes := ats }) (hw : wantE ops o E = some true) (hd : o.dst = some d) (hn : Nat.blt d n = true)
    (hx : ev E x = some (.iface t v0)) (has : evs E az.toList = some vs) (hcat : cat3 [v0] vs [] = some args) [hb : HB P g] (hc : Pure L g (List.toArray args) H v)
    (h : At L f ro ds cs n ((d, v) :: E) H (.inRegion ops rest :: k)) : At L f ro ds cs n E H (.inRegion ops (i :: rest) :: k) :=
  At.inv ho hop hw hd hn hx has (Post := fun u H' => u = v ∧ H' = H) (by
    have := cat3_eq hcat
    rw [show (#[v0] ++ vs.toArray) = List.toArray args from by rw [← this]; simp]; exact hc) (by rintro _ _ ⟨rfl, rfl⟩; exact h)
end
end Go.Gx
end

section
namespace Go.Gx
open Go Go.Conc Go.Proofs
variable {main : Bool}

theorem types_ne : Tryz.prog.types.size + Made.depth ≠ 0 := by
  have : Made.depth ≠ 0 := by decide
  omega
instance : MtI Tryz.prog 104 "velarium/canvas.kind" 226 := ⟨by kernel_rfl, types_ne⟩
instance : MtI Tryz.prog 105 "velarium/canvas.kind" 227 := ⟨by kernel_rfl, types_ne⟩
instance : MtI Tryz.prog 106 "velarium/canvas.kind" 228 := ⟨by kernel_rfl, types_ne⟩
theorem s226 (L : Lg Tryz.prog main) (H : Facts) {x y z : Value} : Pure L 226 #[.agg #[x, y, z]] H (.int .i64 0) := by
  refine Spec.enter Tryz.func226 rfl (by simp [Tryz.f226]) fun c cs hc => ?_; refine At.seq (At.region ?_); refine At.bx rfl rfl rfl rfl rfl rfl rfl fun r1 => ?_; refine At.v rfl rfl rfl rfl rfl trivial ?_; refine At.regionEnd (At.seq (At.region ?_)); refine At.v rfl rfl rfl rfl rfl trivial ?_; refine At.regionEnd ?_
  exact At.ret Tryz.func226 (.inr ⟨_, rfl⟩) rfl (.tmp rfl .nil) (wk (hc _ _ (⟨by rfl, rfl⟩)))
theorem s227 (L : Lg Tryz.prog main) (H : Facts) {x y : Value} : Pure L 227 #[.agg #[x, y]] H (.int .i64 1) := by
  refine Spec.enter Tryz.func227 rfl (by simp [Tryz.f227]) fun c cs hc => ?_; refine At.seq (At.region ?_); refine At.bx rfl rfl rfl rfl rfl rfl rfl fun r1 => ?_; refine At.v rfl rfl rfl rfl rfl trivial ?_; refine At.regionEnd (At.seq (At.region ?_)); refine At.v rfl rfl rfl rfl rfl trivial ?_; refine At.regionEnd ?_
  exact At.ret Tryz.func227 (.inr ⟨_, rfl⟩) rfl (.tmp rfl .nil) (wk (hc _ _ (⟨by rfl, rfl⟩)))
theorem s228 (L : Lg Tryz.prog main) (H : Facts) {x y z : Value} : Pure L 228 #[.agg #[x, y, z]] H (.int .i64 2) := by
  refine Spec.enter Tryz.func228 rfl (by simp [Tryz.f228]) fun c cs hc => ?_; refine At.seq (At.region ?_); refine At.bx rfl rfl rfl rfl rfl rfl rfl fun r1 => ?_; refine At.v rfl rfl rfl rfl rfl trivial ?_; refine At.regionEnd (At.seq (At.region ?_)); refine At.v rfl rfl rfl rfl rfl trivial ?_; refine At.regionEnd ?_
  exact At.ret Tryz.func228 (.inr ⟨_, rfl⟩) rfl (.tmp rfl .nil) (wk (hc _ _ (⟨by rfl, rfl⟩)))
theorem s43 (L : Lg Tryz.prog main) (H : Facts) {w : List UInt8} : Grows L 43 #[.string (S w)] H (fun v sf => ∃ r, v = .func (.func 93) #[] #[.pointer (some ⟨r, 0, none⟩)] ∧ sf = [.own r (.cells #[.string (S w)] 9 (0, 0))]) := by
  refine Spec.enter Tryz.func43 rfl (by simp [Tryz.f43]) fun c cs hc => ?_; refine At.seq (At.region ?_); refine At.bx rfl rfl rfl rfl rfl rfl rfl fun r1 => ?_; refine At.v rfl rfl rfl rfl rfl trivial ?_; refine At.regionEnd (At.seq (At.region ?_)); (iterate 2 refine At.v rfl rfl rfl rfl rfl trivial ?_); refine At.regionEnd ?_
  exact At.ret Tryz.func43 (.inr ⟨_, rfl⟩) rfl (.tmp rfl .nil) (wk (hc _ _ (⟨[_], ⟨r1, rfl, rfl⟩, rfl⟩)))
end Go.Gx
end

section
namespace Go.Gx
open Go Go.Conc

section
variable {P : Program} {main : Bool} {L : Lg P main} {f : FuncId} {ro : Option Nat} {ds : Dz} {cs : List Frame} {n : Nat} {k : List Item} {ops : Array Oper} {Hq H : Facts} {R : List Reg} {Ls : List Nat} {Fs : List Flo} {E : Env}
theorem At.swp {todo : List Item} {lit s1 s2 X : Facts} (q : Nat) (hH : splitF q H = some (lit, s1 ++ (s2 ++ X))) (h : At L f ro ds cs n E (joinF lit (s2 ++ (s1 ++ X))) todo) : At L f ro ds cs n E H todo := by
  refine h.weakH (Sub.of_perm ?_)
  rw [joinF_eq, splitF_eq hH]
  exact List.Perm.append_left _ (List.perm_append_comm_assoc _ _ _)
end
end Go.Gx
end

section
namespace Go.Gx
open Go Go.Conc Go.Proofs
variable {main : Bool}
inductive LI
  | c (n lo hi : Int)
  | p (x : R2)
  | m (x : R2 × Int)
def ifV : LI → Value
  | .c n lo hi => .iface 104 (.agg #[.int .i64 n, .int .i64 lo, .int .i64 hi])
  | .p x => .iface 105 (.agg (List.toArray (c2 x)))
  | .m x => .iface 106 (.agg (List.toArray (c3 x)))
def kindI : LI → Int
  | .c _ _ _ => 0
  | .p _ => 1
  | .m _ => 2
def stepB (B : Bk) : LI → Bk
  | .c n lo hi => { B with size := n, lo := lo, hi := hi }
  | .p x => { B with prof := B.prof ++ [x] }
  | .m x => { B with marks := B.marks ++ [x] }
def bk0 : Bk := ⟨[], 0, 0, 0, []⟩
def preB (is : List LI) (j : Nat) : Bk := (is.take j).foldl stepB bk0
def lastK (is : List LI) (j : Nat) : Int := (is.take j).foldl (fun _ i => kindI i) 0
def cutE (w : List UInt8) : List UInt8 := if w.getLast? = some 10 then w.dropLast else w
instance : BoI Tryz.prog 4 := ⟨by kernel_rfl⟩
instance : IfI Tryz.prog 20 := ⟨by kernel_rfl⟩
theorem preB_succ {is : List LI} {j : Nat} {it : LI} (h : is[j]? = some it) : preB is (j + 1) = stepB (preB is j) it := by
  obtain ⟨h1, h2⟩ := List.getElem?_eq_some_iff.1 h
  unfold preB
  rw [List.take_succ_eq_append_getElem h1, h2, List.foldl_append]; rfl
theorem lastK_succ {is : List LI} {j : Nat} {it : LI} (h : is[j]? = some it) : lastK is (j + 1) = kindI it := by
  obtain ⟨h1, h2⟩ := List.getElem?_eq_some_iff.1 h
  unfold lastK
  rw [List.take_succ_eq_append_getElem h1, h2, List.foldl_append]; rfl
theorem preB_len {is : List LI} : ∀ {j : Nat}, (preB is j).prof.length ≤ j ∧ (preB is j).marks.length ≤ j
  | 0 => ⟨by simp [preB, bk0], by simp [preB, bk0]⟩
  | j + 1 => by
    have ih := preB_len (is := is) (j := j)
    cases h : is[j]? with
    | none =>
      have e : preB is (j + 1) = preB is j := by
        unfold preB
        rw [List.take_of_length_le (by rw [List.getElem?_eq_none_iff] at h; omega), List.take_of_length_le (by rw [List.getElem?_eq_none_iff] at h; omega)]
      rw [e]; omega
    | some it =>
      rw [preB_succ h]
      cases it <;> simp [stepB] <;> omega
set_option maxRecDepth 100000 in
set_option maxHeartbeats 4000000 in
theorem s9 (L : Lg Tryz.prog main) (H : Facts) {ws : List (List UInt8)} {is : List LI} {B : Bk} (hls : LnOk ws) (hlen : ws.flatten.length ≤ 40000) (hn : is.length = ws.length) (h0 : 0 < ws.length) (hw40 : ws.length ≤ 1000)
    (hline : ∀ (j : Nat) (w : List UInt8) (it : LI), ws[j]? = some w → is[j]? = some it → ∀ H', Sub H H' → Pure L 44 #[.string (S (cutE w))] H' (ifV it))
    (hord : ∀ (j : Nat) (it : LI), is[j]? = some it → lastK is j ≤ kindI it ∧ (kindI it = 0 ↔ j = 0)) (hB : preB is is.length = B) (hbar : bookBar B = 0) (hg : Cells H 1 0 chkC) :
    Grows L 9 #[.string (S ws.flatten)] H (fun v sf => ∃ A, v = .tuple #[bkV B A, .int .i64 0, .int .i64 0] ∧ BkO B A sf) := by
  refine Spec.enter Tryz.func9 rfl (by simp [Tryz.f9]) fun c cs hc => ?_; refine At.seq (At.region ?_); refine At.al rfl rfl rfl rfl rfl fun r2 => ?_; refine At.al rfl rfl rfl rfl rfl fun r3 => ?_; refine At.al rfl rfl rfl rfl rfl fun r4 => ?_; refine At.regionEnd (At.seq (At.seq (At.region ?_))); refine At.v rfl rfl rfl rfl rfl trivial ?_; refine At.q rfl rfl rfl rfl (q_lenSS rfl rfl rfl rfl) ?_; refine At.cp rfl rfl rfl rfl rfl fun b14 h14 => ?_; refine At.regionEnd ?_
  obtain rfl : b14 = false := h14.symm.trans (decide_eq_false (by omega))
  refine At.cond rfl ?_; refine At.skip (At.seq (At.region ?_)); refine At.v rfl rfl rfl rfl rfl trivial ?_; refine At.defer rfl rfl rfl rfl rfl rfl ?_
  have stop43 := trivial
  refine At.regionEnd (At.seq (At.region ?_)); refine At.al rfl rfl rfl rfl rfl fun r5 => ?_; refine At.st 0 rfl rfl rfl rfl rfl rfl rfl rfl rfl rfl rfl rfl ?_; refine At.regionEnd (At.seq (At.seq (At.region ?_))); refine At.v rfl rfl rfl rfl rfl trivial ?_
  clear stop43
  refine At.cl rfl rfl rfl rfl rfl rfl rfl rfl (s43 L _ (w := ws.flatten)) ?_
  rintro _ _ ⟨_, ⟨r6, rfl, rfl⟩, rfl⟩
  refine At.regionEnd ?_; refine At.block ?_
  refine At.rngC (C0 := [.own r6 (.cells #[.string (S ws.flatten)] 9 (0, 0))]) (H1 := .own r5 (.cells #[.int .i64 0] 3 (0, 0)) :: .own r4 (.cells #[.int .i64 0] 30 (0, 0)) :: .own r3 (.cells #[.int .i64 0] 3 (0, 0)) :: .own r2 (.cells (List.toArray (bkC bk0 ⟨none, 0, none, 0⟩)) 27 (0, 0)) :: H) rfl rfl (List.Perm.refl _) (s93 L hls (by omega))
    (fun k Hk => ∃ A sp sm, Hk = .own r5 (.cells #[.int .i64 (lastK is k)] 3 (0, 0)) :: .own r4 (.cells #[.int .i64 0] 30 (0, 0)) :: .own r3 (.cells #[.int .i64 (k : Int)] 3 (0, 0)) :: .own r2 (.cells (List.toArray (bkC (preB is k) A)) 27 (0, 0)) :: (sm ++ (sp ++ H)) ∧ Sl c2 89 (.slice A.pa (preB is k).prof.length A.pc) (preB is k).prof sp ∧ Sl c3 72 (.slice A.ma (preB is k).marks.length A.mc) (preB is k).marks sm)
    (fun _ _ _ => False) (fun _ _ _ => ⟨_, List.Perm.refl _⟩) (fun _ _ _ h => h.elim) ?_ ?_ ?_ (fun _ _ _ _ _ _ _ h => h.elim)
  · exact ⟨⟨none, 0, none, 0⟩, [], [], rfl, Sl.nil, Sl.nil⟩
  · rintro tmps l r j u _ R c cs' hu ⟨A, sp, sm, rfl, hsp, hsm⟩ hgo _
    rw [List.getElem?_map] at hu
    obtain ⟨w, hw, rfl⟩ := Option.map_eq_some_iff.1 hu
    have hlt := (List.getElem?_eq_some_iff.1 hw).1
    have hit : is[j]? = some is[j] := List.getElem?_eq_getElem (by omega)
    have hor := hord j _ hit
    have hL := hline j w _ hw hit
    have hP := preB_succ hit
    have hK := lastK_succ hit
    have hpl := preB_len (is := is) (j := j)
    have hwl : w.length ≤ 40000 := by
      obtain ⟨h1, h2⟩ := List.getElem?_eq_some_iff.1 hw
      have e : ws = ws.take j ++ w :: ws.drop (j + 1) := by rw [← h2, ← List.drop_eq_getElem_cons h1, List.take_append_drop]
      rw [e] at hlen
      simp only [List.flatten_append, List.flatten_cons, List.length_append] at hlen; omega
    generalize is[j] = it at hor hL hP hK
    simp only [List.cons_append, List.append_assoc]
    have stop45 := trivial
    refine At.region ?_; refine At.v rfl rfl rfl rfl rfl trivial ?_; refine At.regionEnd ?_; refine At.beginRound 0 rfl rfl rfl ?_; refine At.block ?_; refine At.seq (At.region ?_); refine At.ld 4 rfl rfl rfl rfl rfl rfl rfl rfl rfl ?_; refine At.v rfl rfl rfl rfl rfl (by omega) ?_; refine At.st 4 rfl rfl rfl rfl rfl rfl rfl rfl rfl rfl rfl rfl ?_; refine At.regionEnd (At.seq (At.region ?_)); refine At.v rfl rfl rfl rfl rfl trivial ?_
    clear stop45
    refine At.cq rfl rfl rfl rfl rfl rfl rfl rfl (s45 L _ (w := w) (b := 10) (by omega)) ?_
    rw [show (if w.getLast? = some 10 then w.dropLast else w) = cutE w from rfl]
    refine At.cq rfl rfl rfl rfl rfl rfl rfl rfl (hL _ (((((((((Sub.pre H R).dropL sp).dropL sm).drop _).drop _).drop _).drop _).drop _).drop _)) ?_
    cases it with
    | c n lo hi =>
      obtain ⟨ho1, ho2⟩ := hor
      change lastK is j ≤ 0 at ho1
      have ej : j = 0 := ho2.1 rfl
      simp only [ifV]
      have stop46 := trivial
      refine At.v rfl rfl rfl rfl rfl trivial ?_; refine At.regionEnd (At.seq ?_); refine At.drawJ hmix [] rfl ?_; refine Pool.v 0 rfl rfl rfl rfl rfl rfl rfl trivial ?_; refine Pool.inv 1 rfl rfl rfl rfl rfl rfl rfl rfl rfl (fun H hs => s226 L H) ?_; refine Pool.ld 2 2 rfl rfl rfl rfl rfl rfl rfl rfl rfl rfl rfl ?_; refine Pool.cp 3 rfl rfl rfl rfl rfl rfl rfl fun b28 h28 => ?_; refine Pool.v 4 rfl rfl rfl rfl rfl rfl rfl trivial ?_
      obtain rfl : b28 = true := h28.symm.trans (decide_eq_true (by omega))
      refine Pool.v 5 rfl rfl rfl rfl rfl rfl rfl trivial ?_; refine Pool.inv 6 rfl rfl rfl rfl rfl rfl rfl rfl rfl (fun H hs => s226 L H) ?_; refine Pool.cp 7 rfl rfl rfl rfl rfl rfl rfl fun b32 h32 => ?_; refine Pool.ld 4 8 rfl rfl rfl rfl rfl rfl rfl rfl rfl rfl rfl ?_; refine Pool.cp 9 rfl rfl rfl rfl rfl rfl rfl fun b34 h34 => ?_; refine Pool.qb 10 rfl rfl rfl rfl rfl (q_eqlB rfl rfl rfl) rfl fun b35 h35 => ?_; refine Pool.v 11 rfl rfl rfl rfl rfl rfl rfl trivial ?_
      clear stop46
      obtain rfl : b35 = true := by rw [← h35, ← h34, ← h32]; first | (simp; done) | (simp; omega)
      refine Pool.cq 12 rfl rfl rfl rfl rfl rfl rfl rfl rfl (fun H_ hs_ => s46 L H_) ?_
      have stopDraw := trivial
      refine pool_done rfl rfl ?_; refine At.regionEnd (At.seq (At.region ?_)); refine At.v rfl rfl rfl rfl rfl trivial ?_; refine At.invq rfl rfl rfl rfl rfl rfl rfl rfl (s226 L _) ?_; refine At.st 2 rfl rfl rfl rfl rfl rfl rfl rfl rfl rfl rfl rfl ?_; refine At.regionEnd (At.seq (At.region ?_)); refine At.v rfl rfl rfl rfl rfl trivial ?_; refine At.regionEnd ?_; refine At.block ?_; refine At.seq (At.region ?_); refine At.q rfl rfl rfl rfl (q_taY rfl rfl) ?_
      (iterate 2 refine At.v rfl rfl rfl rfl rfl trivial ?_); refine At.regionEnd ?_; refine At.cond rfl ?_; refine At.seq (At.region ?_); refine At.al rfl rfl rfl rfl rfl fun r8 => ?_; refine At.st 0 rfl rfl rfl rfl rfl rfl rfl rfl rfl rfl rfl rfl ?_; refine At.regionEnd ?_
      clear stopDraw
      refine At.drawJ hmix [6] rfl ?_; refine Pool.fa 0 0 rfl rfl rfl rfl rfl rfl rfl rfl rfl ?_; refine Pool.ld 0 1 rfl rfl rfl rfl rfl rfl rfl rfl rfl rfl rfl ?_; refine Pool.fa 1 2 rfl rfl rfl rfl rfl rfl rfl rfl rfl ?_; refine Pool.ld 0 3 rfl rfl rfl rfl rfl rfl rfl rfl rfl rfl rfl ?_; refine Pool.fa 1 4 rfl rfl rfl rfl rfl rfl rfl rfl rfl ?_; refine Pool.st 6 5 rfl rfl rfl rfl rfl rfl rfl rfl rfl rfl rfl rfl rfl rfl rfl rfl rfl rfl sb ?_; refine Pool.fa 2 6 rfl rfl rfl rfl rfl rfl rfl rfl rfl ?_
      refine Pool.st 6 7 rfl rfl rfl rfl rfl rfl rfl rfl rfl rfl rfl rfl rfl rfl rfl rfl rfl rfl sb ?_; refine pool_done rfl rfl ?_; refine At.regionEnd ?_; (iterate 2 refine At.inBlock ?_)
      have hg := hgo (.own r5 (.cells #[.int .i64 0] 3 (0, 0)) :: .own r4 (.cells #[.int .i64 0] 30 (0, 0)) :: .own r3 (.cells #[.int .i64 ((j : Int) + 1)] 3 (0, 0)) :: .own r2 (.cells (List.toArray (bkC (stepB (preB is j) (.c n lo hi)) A)) 27 (0, 0)) :: (sm ++ (sp ++ H))) ⟨A, sp, sm, by rw [hP, hK]; rfl, by rw [hP]; exact hsp, by rw [hP]; exact hsm⟩
      simp only [List.cons_append, List.append_assoc] at hg
      exact At.endRound 1 (.inl ⟨rfl, rfl⟩) rfl rfl rfl (wk hg)
    | p x =>
      obtain ⟨ho1, ho2⟩ := hor
      change lastK is j ≤ 1 at ho1
      have ej : j ≠ 0 := fun e => by have := ho2.2 e; simp [kindI] at this
      simp only [ifV]
      have stop46 := trivial
      refine At.v rfl rfl rfl rfl rfl trivial ?_; refine At.regionEnd (At.seq ?_); refine At.drawJ hmix [] rfl ?_; refine Pool.v 0 rfl rfl rfl rfl rfl rfl rfl trivial ?_; refine Pool.inv 1 rfl rfl rfl rfl rfl rfl rfl rfl rfl (fun H hs => s227 L H) ?_; refine Pool.ld 2 2 rfl rfl rfl rfl rfl rfl rfl rfl rfl rfl rfl ?_; refine Pool.cp 3 rfl rfl rfl rfl rfl rfl rfl fun b28 h28 => ?_; refine Pool.v 4 rfl rfl rfl rfl rfl rfl rfl trivial ?_
      obtain rfl : b28 = true := h28.symm.trans (decide_eq_true (by omega))
      refine Pool.v 5 rfl rfl rfl rfl rfl rfl rfl trivial ?_; refine Pool.inv 6 rfl rfl rfl rfl rfl rfl rfl rfl rfl (fun H hs => s227 L H) ?_; refine Pool.cp 7 rfl rfl rfl rfl rfl rfl rfl fun b32 h32 => ?_; refine Pool.ld 4 8 rfl rfl rfl rfl rfl rfl rfl rfl rfl rfl rfl ?_; refine Pool.cp 9 rfl rfl rfl rfl rfl rfl rfl fun b34 h34 => ?_; refine Pool.qb 10 rfl rfl rfl rfl rfl (q_eqlB rfl rfl rfl) rfl fun b35 h35 => ?_; refine Pool.v 11 rfl rfl rfl rfl rfl rfl rfl trivial ?_
      clear stop46
      obtain rfl : b35 = true := by rw [← h35, ← h34, ← h32]; first | (simp; done) | (simp; omega)
      refine Pool.cq 12 rfl rfl rfl rfl rfl rfl rfl rfl rfl (fun H_ hs_ => s46 L H_) ?_; refine pool_done rfl rfl ?_; refine At.regionEnd (At.seq (At.region ?_)); refine At.v rfl rfl rfl rfl rfl trivial ?_; refine At.invq rfl rfl rfl rfl rfl rfl rfl rfl (s227 L _) ?_; refine At.st 2 rfl rfl rfl rfl rfl rfl rfl rfl rfl rfl rfl rfl ?_; refine At.regionEnd (At.seq (At.region ?_)); refine At.v rfl rfl rfl rfl rfl trivial ?_; refine At.regionEnd ?_; refine At.block ?_; refine At.seq (At.region ?_)
      refine At.q rfl rfl rfl rfl (q_taN rfl rfl rfl tf104) ?_; (iterate 2 refine At.v rfl rfl rfl rfl rfl trivial ?_); refine At.regionEnd ?_; refine At.cond rfl ?_; refine At.seq (At.region ?_); refine At.q rfl rfl rfl rfl (q_taY rfl rfl) ?_; (iterate 2 refine At.v rfl rfl rfl rfl rfl trivial ?_); refine At.regionEnd ?_; refine At.cond rfl ?_; refine At.seq (At.region ?_); refine At.al rfl rfl rfl rfl rfl fun r9 => ?_; refine At.st 0 rfl rfl rfl rfl rfl rfl rfl rfl rfl rfl rfl rfl ?_
      refine At.regionEnd (At.region ?_); refine At.fa 0 rfl rfl rfl rfl rfl rfl rfl ?_; refine At.ld 6 rfl rfl rfl rfl rfl rfl rfl rfl rfl ?_; refine At.ld 0 rfl rfl rfl rfl rfl rfl rfl rfl rfl ?_
      (refine At.l rfl rfl rfl rfl (l_buildSlice rfl rfl rfl rfl rfl) ?_; rintro _ _ ⟨r56, rfl, rfl⟩)
      refine At.swp 8 rfl ?_; refine At.push (x := x) 0 8 rfl rfl rfl rfl rfl rfl rfl rfl rfl rfl rfl rfl rfl rfl hsp rfl rfl rfl ?_ fun v sf hs => ?_
      · omega
      · obtain ⟨a2, cap2, rfl⟩ := hs.slice
        refine At.swp 8 rfl ?_; refine At.fa 0 rfl rfl rfl rfl rfl rfl rfl ?_; refine At.st 7 rfl rfl rfl rfl rfl rfl rfl rfl rfl rfl rfl rfl ?_; refine At.regionEnd ?_; (iterate 2 refine At.inBlock ?_)
        have hg := hgo (.own r5 (.cells #[.int .i64 1] 3 (0, 0)) :: .own r4 (.cells #[.int .i64 0] 30 (0, 0)) :: .own r3 (.cells #[.int .i64 ((j : Int) + 1)] 3 (0, 0)) :: .own r2 (.cells (List.toArray (bkC (stepB (preB is j) (.p x)) ⟨a2, cap2, A.ma, A.mc⟩)) 27 (0, 0)) :: (sm ++ (sf ++ H))) ⟨⟨a2, cap2, A.ma, A.mc⟩, sf, sm, by rw [hP, hK]; rfl, by rw [hP]; exact hs, by rw [hP]; exact hsm⟩
        simp only [List.cons_append, List.append_assoc] at hg
        exact At.endRound 2 (.inl ⟨rfl, rfl⟩) rfl rfl rfl (wk hg)
    | m x => 
      obtain ⟨ho1, ho2⟩ := hor
      change lastK is j ≤ 2 at ho1
      have ej : j ≠ 0 := fun e => by have := ho2.2 e; simp [kindI] at this
      simp only [ifV]
      have stop46 := trivial
      refine At.v rfl rfl rfl rfl rfl trivial ?_; refine At.regionEnd (At.seq ?_); refine At.drawJ hmix [] rfl ?_; refine Pool.v 0 rfl rfl rfl rfl rfl rfl rfl trivial ?_; refine Pool.inv 1 rfl rfl rfl rfl rfl rfl rfl rfl rfl (fun H hs => s228 L H) ?_; refine Pool.ld 2 2 rfl rfl rfl rfl rfl rfl rfl rfl rfl rfl rfl ?_; refine Pool.cp 3 rfl rfl rfl rfl rfl rfl rfl fun b28 h28 => ?_; refine Pool.v 4 rfl rfl rfl rfl rfl rfl rfl trivial ?_
      obtain rfl : b28 = true := h28.symm.trans (decide_eq_true (by omega))
      refine Pool.v 5 rfl rfl rfl rfl rfl rfl rfl trivial ?_; refine Pool.inv 6 rfl rfl rfl rfl rfl rfl rfl rfl rfl (fun H hs => s228 L H) ?_; refine Pool.cp 7 rfl rfl rfl rfl rfl rfl rfl fun b32 h32 => ?_; refine Pool.ld 4 8 rfl rfl rfl rfl rfl rfl rfl rfl rfl rfl rfl ?_; refine Pool.cp 9 rfl rfl rfl rfl rfl rfl rfl fun b34 h34 => ?_; refine Pool.qb 10 rfl rfl rfl rfl rfl (q_eqlB rfl rfl rfl) rfl fun b35 h35 => ?_; refine Pool.v 11 rfl rfl rfl rfl rfl rfl rfl trivial ?_
      clear stop46
      obtain rfl : b35 = true := by rw [← h35, ← h34, ← h32]; first | (simp; done) | (simp; omega)
      refine Pool.cq 12 rfl rfl rfl rfl rfl rfl rfl rfl rfl (fun H_ hs_ => s46 L H_) ?_; refine pool_done rfl rfl ?_; refine At.regionEnd (At.seq (At.region ?_)); refine At.v rfl rfl rfl rfl rfl trivial ?_; refine At.invq rfl rfl rfl rfl rfl rfl rfl rfl (s228 L _) ?_; refine At.st 2 rfl rfl rfl rfl rfl rfl rfl rfl rfl rfl rfl rfl ?_; refine At.regionEnd (At.seq (At.region ?_)); refine At.v rfl rfl rfl rfl rfl trivial ?_; refine At.regionEnd ?_; refine At.block ?_; refine At.seq (At.region ?_)
      refine At.q rfl rfl rfl rfl (q_taN rfl rfl rfl tf104) ?_; (iterate 2 refine At.v rfl rfl rfl rfl rfl trivial ?_); refine At.regionEnd ?_; refine At.cond rfl ?_; refine At.seq (At.region ?_); refine At.q rfl rfl rfl rfl (q_taN rfl rfl rfl tf105) ?_; (iterate 2 refine At.v rfl rfl rfl rfl rfl trivial ?_); refine At.regionEnd ?_; refine At.cond rfl ?_; refine At.seq (At.region ?_); refine At.q rfl rfl rfl rfl (q_taY rfl rfl) ?_; (iterate 2 refine At.v rfl rfl rfl rfl rfl trivial ?_)
      refine At.regionEnd ?_; refine At.cond rfl ?_; refine At.seq (At.region ?_); refine At.al rfl rfl rfl rfl rfl fun r10 => ?_; refine At.st 0 rfl rfl rfl rfl rfl rfl rfl rfl rfl rfl rfl rfl ?_; refine At.regionEnd (At.region ?_); refine At.fa 4 rfl rfl rfl rfl rfl rfl rfl ?_; refine At.ld 6 rfl rfl rfl rfl rfl rfl rfl rfl rfl ?_; refine At.ld 0 rfl rfl rfl rfl rfl rfl rfl rfl rfl ?_
      (refine At.l rfl rfl rfl rfl (l_buildSlice rfl rfl rfl rfl rfl) ?_; rintro _ _ ⟨r65, rfl, rfl⟩)
      refine At.push (x := x) 0 8 rfl rfl rfl rfl rfl rfl rfl rfl rfl rfl rfl rfl rfl rfl hsm rfl rfl rfl ?_ fun v sf hs => ?_
      · omega
      · obtain ⟨a2, cap2, rfl⟩ := hs.slice
        refine At.fa 4 rfl rfl rfl rfl rfl rfl rfl ?_; refine At.st 7 rfl rfl rfl rfl rfl rfl rfl rfl rfl rfl rfl rfl ?_; refine At.regionEnd ?_; (iterate 2 refine At.inBlock ?_)
        have hg := hgo (.own r5 (.cells #[.int .i64 2] 3 (0, 0)) :: .own r4 (.cells #[.int .i64 0] 30 (0, 0)) :: .own r3 (.cells #[.int .i64 ((j : Int) + 1)] 3 (0, 0)) :: .own r2 (.cells (List.toArray (bkC (stepB (preB is j) (.m x)) ⟨A.pa, A.pc, a2, cap2⟩)) 27 (0, 0)) :: (sf ++ (sp ++ H))) ⟨⟨A.pa, A.pc, a2, cap2⟩, sp, sf, by rw [hP, hK]; rfl, by rw [hP]; exact hsp, by rw [hP]; exact hs⟩
        simp only [List.cons_append, List.append_assoc] at hg
        exact At.endRound 2 (.inl ⟨rfl, rfl⟩) rfl rfl rfl (wk hg)
  · rintro tmps l r _ ⟨A, sp, sm, rfl, hsp, hsm⟩
    rw [List.length_map, ← hn, hB] at hsp hsm ⊢
    have hnn : 0 < is.length := by omega
    have hb := bounds_of_bar hbar
    have stop46 := trivial
    refine At.inBlock ?_; refine At.seq (At.region ?_); refine At.ld 4 rfl rfl rfl rfl rfl rfl rfl rfl rfl ?_; refine At.cp rfl rfl rfl rfl rfl fun b69 h69 => ?_
    clear stop46
    obtain rfl : b69 = true := by rw [← h69]; simp; omega
    refine At.cq rfl rfl rfl rfl rfl rfl rfl rfl (s46 L _) ?_
    have stop32 := trivial
    refine At.regionEnd (At.seq (At.seq (At.region ?_))); refine At.ld 5 rfl rfl rfl rfl rfl rfl rfl rfl rfl ?_
    clear stop32
    have hsp' := hsp.rd.2.1
    have hsm' := hsm.rd.2.1
    refine At.cq rfl rfl rfl rfl rfl rfl rfl rfl (s32 L _ (B := B) (A := A) hg.a ⟨hsp'.more (((((((Sub.pre sp H).dropL sm).drop _).drop _).drop _).drop _).drop _ |>.drop _), hsm'.more (((((((Sub.pre sm (sp ++ H)).drop _).drop _).drop _).drop _).drop _).drop _)⟩ (by omega) (by omega)) ?_
    rw [hbar]
    refine At.v rfl rfl rfl rfl rfl trivial ?_; refine At.regionEnd (At.seq (At.region ?_)); refine At.v rfl rfl rfl rfl rfl trivial ?_; refine At.cp rfl rfl rfl rfl rfl fun b74 h74 => ?_; refine At.regionEnd ?_
    obtain rfl : b74 = false := h74.symm.trans (by kernel_rfl)
    refine At.cond rfl ?_; refine At.skip (At.seq (At.region ?_)); refine At.ld 5 rfl rfl rfl rfl rfl rfl rfl rfl rfl ?_; refine At.st 5 rfl rfl rfl rfl rfl rfl rfl rfl rfl rfl rfl rfl ?_; refine At.st 4 rfl rfl rfl rfl rfl rfl rfl rfl rfl rfl rfl rfl ?_; refine At.st 3 rfl rfl rfl rfl rfl rfl rfl rfl rfl rfl rfl rfl ?_; refine At.regionEnd ?_
    refine At.retD 1 (rs := [.cell 2 27, .cell 3 3, .cell 4 30]) (vs := [bkV B A, .int .i64 0, .int .i64 0]) Tryz.func9 (.inr ⟨_, rfl⟩) rfl rfl Tryz.func42 (by simp [Tryz.f42]; rfl) (by simp [Tryz.f42]) (fun c' cs' hc' hJ => ?_) (by simp [Tryz.f9]) (ResVs.aggJ 5 rfl rfl rfl (ResVs.oneJ 4 rfl rfl rfl (ResVs.oneJ 3 rfl rfl rfl .nil))) ?_
    · refine At.seq ?_
      refine At.region ?_; refine At.recover hc' rfl rfl rfl rfl rfl ?_; refine At.regionEnd ?_; refine At.block ?_; refine At.seq (At.region ?_); refine At.q rfl rfl rfl rfl (q_nilEq rfl rfl) ?_; refine At.regionEnd ?_; refine At.cond rfl ?_; refine At.region ?_; refine At.v rfl rfl rfl rfl rfl trivial ?_; refine At.regionEnd ?_; refine At.inBlock ?_
      refine At.lateEnd hc' Tryz.func42 (by simp [Tryz.f42]) (.inl rfl) hJ
    · refine L.weak _ _ _ ?_ (hc _ _ ⟨sm ++ sp, ⟨A, rfl, sp, sm, rfl, hsp, hsm⟩, rfl⟩)
      rw [List.append_assoc]
      exact ((((((Sub.refl _).drop _).drop _).drop _).drop _).drop _).drop _
end Go.Gx
end

section
namespace Go.Gx
open Go Go.Conc Go.Proofs
variable {main : Bool}
def digs (n : Nat) : List UInt8 := if n < 10 then [(48 + n).toUInt8] else [(48 + n / 10).toUInt8, (48 + n % 10).toUInt8]
def dg36 : List UInt8 := [48, 49, 50, 51, 52, 53, 54, 55, 56, 57, 97, 98, 99, 100, 101, 102, 103, 104, 105, 106, 107, 108, 109, 110, 111, 112, 113, 114, 115, 116, 117, 118, 119, 120, 121, 122]
def dg200 : List UInt8 := (([48, 48, 48, 49, 48, 50, 48, 51, 48, 52, 48, 53, 48, 54, 48, 55, 48, 56, 48, 57, 49, 48, 49, 49, 49, 50, 49, 51, 49, 52, 49, 53, 49, 54, 49, 55, 49, 56, 49, 57, 50, 48, 50, 49, 50, 50, 50, 51, 50, 52].append [50, 53, 50, 54, 50, 55, 50, 56, 50, 57, 51, 48, 51, 49, 51, 50, 51, 51, 51, 52, 51, 53, 51, 54, 51, 55, 51, 56, 51, 57, 52, 48, 52, 49, 52, 50, 52, 51, 52, 52, 52, 53, 52, 54, 52, 55, 52, 56, 52, 57]).append ([53, 48, 53, 49, 53, 50, 53, 51, 53, 52, 53, 53, 53, 54, 53, 55, 53, 56, 53, 57, 54, 48, 54, 49, 54, 50, 54, 51, 54, 52, 54, 53, 54, 54, 54, 55, 54, 56, 54, 57, 55, 48, 55, 49, 55, 50, 55, 51, 55, 52].append [55, 53, 55, 54, 55, 55, 55, 56, 55, 57, 56, 48, 56, 49, 56, 50, 56, 51, 56, 52, 56, 53, 56, 54, 56, 55, 56, 56, 56, 57, 57, 48, 57, 49, 57, 50, 57, 51, 57, 52, 57, 53, 57, 54, 57, 55, 57, 56, 57, 57]))
set_option maxRecDepth 100000 in
theorem dg36_at : ∀ n : _root_.Fin 10, (dg36.take (n.1 + 1)).drop n.1 = digs n.1 := by decide
set_option maxRecDepth 100000 in
theorem dg200_at : ∀ n : _root_.Fin 100, 10 ≤ n.1 → (dg200.take (n.1 * 2 + 2)).drop (n.1 * 2) = digs n.1 := by decide
set_option maxRecDepth 100000 in
theorem dg200_len : dg200.length = 200 := by decide
set_option maxRecDepth 100000 in
theorem s152 (L : Lg Tryz.prog main) (H : Facts) {n : Nat} (hn : n < 100) : Pure L 152 #[.int .i64 (n : Int)] H (.string (S (digs n))) := by
  refine Spec.enter Tryz.func152 rfl (by simp [Tryz.f152]) fun c cs hc => ?_
  by_cases h10 : n < 10
  · refine At.seq ?_
    refine At.region ?_; refine At.v rfl rfl rfl rfl rfl trivial ?_; refine At.regionEnd (At.seq (At.seq (At.region ?_))); refine At.v rfl rfl rfl rfl rfl trivial ?_; refine At.cp rfl rfl rfl rfl rfl fun b4 h4 => ?_; refine At.regionEnd ?_
    obtain rfl : b4 = true := h4.symm.trans (decide_eq_true (by omega))
    refine At.cond rfl ?_; refine At.seq (At.region ?_); (iterate 2 refine At.v rfl rfl rfl rfl rfl trivial ?_); refine At.v rfl rfl rfl rfl rfl (by omega) ?_; refine At.q rfl rfl rfl rfl (q_cutLH (w := dg36) (l := n) (h := n + 1) rfl rfl rfl rfl (by omega) (by simp [dg36]; omega)) ?_
    rw [dg36_at ⟨n, h10⟩]
    refine At.v rfl rfl rfl rfl rfl trivial ?_; refine At.regionEnd ?_
    exact At.ret Tryz.func152 (.inr ⟨_, rfl⟩) rfl (.tmp rfl .nil) (wk (hc _ _ (⟨by rfl, rfl⟩)))
  · refine At.seq ?_
    refine At.region ?_; refine At.v rfl rfl rfl rfl rfl trivial ?_; refine At.regionEnd (At.seq (At.seq (At.region ?_))); refine At.v rfl rfl rfl rfl rfl trivial ?_; refine At.cp rfl rfl rfl rfl rfl fun b4 h4 => ?_; refine At.regionEnd ?_
    obtain rfl : b4 = false := h4.symm.trans (decide_eq_false (by omega))
    refine At.cond rfl ?_; refine At.skip (At.seq (At.region ?_)); refine At.v rfl rfl rfl rfl rfl trivial ?_; refine At.v rfl rfl rfl rfl rfl (by omega) ?_; refine At.v rfl rfl rfl rfl rfl trivial ?_; (iterate 2 refine At.v rfl rfl rfl rfl rfl (by omega) ?_); refine At.q rfl rfl rfl rfl (q_cutLH (w := dg200) (l := n * 2) (h := n * 2 + 2) rfl rfl rfl rfl (by omega) (by rw [dg200_len]; omega)) ?_
    rw [dg200_at ⟨n, hn⟩ (by simp; omega)]
    refine At.v rfl rfl rfl rfl rfl trivial ?_; refine At.regionEnd ?_
    exact At.ret Tryz.func152 (.inr ⟨_, rfl⟩) rfl (.tmp rfl .nil) (wk (hc _ _ (⟨by rfl, rfl⟩)))
end Go.Gx
end

section
namespace Go.Gx
open Go Go.Conc Go.Proofs
variable {main : Bool}
def len8L : List UInt8 := (([0, 1, 2, 2, 3, 3, 3, 3, 4, 4, 4, 4, 4, 4, 4, 4, 5, 5, 5, 5, 5, 5, 5, 5, 5, 5, 5, 5, 5, 5, 5, 5, 6, 6, 6, 6, 6, 6, 6, 6, 6, 6, 6, 6, 6, 6, 6, 6, 6, 6, 6, 6, 6, 6, 6, 6, 6, 6, 6, 6, 6, 6, 6, 6].append [7, 7, 7, 7, 7, 7, 7, 7, 7, 7, 7, 7, 7, 7, 7, 7, 7, 7, 7, 7, 7, 7, 7, 7, 7, 7, 7, 7, 7, 7, 7, 7, 7, 7, 7, 7, 7, 7, 7, 7, 7, 7, 7, 7, 7, 7, 7, 7, 7, 7, 7, 7, 7, 7, 7, 7, 7, 7, 7, 7, 7, 7, 7, 7]).append ([8, 8, 8, 8, 8, 8, 8, 8, 8, 8, 8, 8, 8, 8, 8, 8, 8, 8, 8, 8, 8, 8, 8, 8, 8, 8, 8, 8, 8, 8, 8, 8, 8, 8, 8, 8, 8, 8, 8, 8, 8, 8, 8, 8, 8, 8, 8, 8, 8, 8, 8, 8, 8, 8, 8, 8, 8, 8, 8, 8, 8, 8, 8, 8].append [8, 8, 8, 8, 8, 8, 8, 8, 8, 8, 8, 8, 8, 8, 8, 8, 8, 8, 8, 8, 8, 8, 8, 8, 8, 8, 8, 8, 8, 8, 8, 8, 8, 8, 8, 8, 8, 8, 8, 8, 8, 8, 8, 8, 8, 8, 8, 8, 8, 8, 8, 8, 8, 8, 8, 8, 8, 8, 8, 8, 8, 8, 8, 8]))
def len8 (n : Nat) : Nat := if n = 0 then 0 else if n < 2 then 1 else if n < 4 then 2 else if n < 8 then 3 else if n < 16 then 4 else if n < 32 then 5 else if n < 64 then 6 else 7
set_option maxRecDepth 100000 in
theorem len8_at : ∀ n : _root_.Fin 100, len8L[n.1]? = some (len8 n.1).toUInt8 := by decide
set_option maxRecDepth 100000 in
theorem len8_nat : ∀ n : _root_.Fin 100, ((len8 n.1).toUInt8).toNat = len8 n.1 := by decide
set_option maxRecDepth 100000 in
theorem t149 (L : Lg Tryz.prog main) (H : Facts) {n : Nat} (hn : n < 100) : Pure L 149 #[.int .u64 (n : Int)] H (.int .i64 (len8 n : Int)) := by
  refine Spec.enter Tryz.func149 rfl (by simp [Tryz.f149]) fun c cs hc => ?_; refine At.seq (At.region ?_); refine At.v rfl rfl rfl rfl rfl trivial ?_; refine At.regionEnd (At.seq (At.seq (At.region ?_))); refine At.v rfl rfl rfl rfl rfl trivial ?_; refine At.cp rfl rfl rfl rfl rfl fun b4 h4 => ?_; refine At.regionEnd ?_
  obtain rfl : b4 = false := h4.symm.trans (decide_eq_false (by omega))
  refine At.cond rfl ?_; refine At.skip (At.seq (At.seq (At.region ?_))); refine At.v rfl rfl rfl rfl rfl trivial ?_; refine At.cp rfl rfl rfl rfl rfl fun b8 h8 => ?_; refine At.regionEnd ?_
  obtain rfl : b8 = false := h8.symm.trans (decide_eq_false (by omega))
  refine At.cond rfl ?_; refine At.skip (At.seq (At.seq (At.region ?_))); refine At.v rfl rfl rfl rfl rfl trivial ?_; refine At.cp rfl rfl rfl rfl rfl fun b14 h14 => ?_; refine At.regionEnd ?_
  obtain rfl : b14 = false := h14.symm.trans (decide_eq_false (by omega))
  refine At.cond rfl ?_; refine At.skip (At.seq (At.region ?_)); (iterate 2 refine At.v rfl rfl rfl rfl rfl trivial ?_); refine At.q rfl rfl rfl rfl (q_conv rfl rfl rfl) ?_
  rw [wrap_u8 (n := (n : Int)) (by omega) (by omega)]
  refine At.q rfl rfl rfl rfl (q_at (w := len8L) (j := n) rfl rfl rfl (len8_at ⟨n, hn⟩)) ?_
  rw [len8_nat ⟨n, hn⟩]
  have h7 : len8 n ≤ 7 := by unfold len8; (repeat' split) <;> omega
  simp only
  generalize len8 n = m at h7 hc ⊢
  have stop24 := trivial
  refine At.q rfl rfl rfl rfl (q_conv rfl rfl rfl) ?_
  rw [wrap_in (n := (m : Int)) (by omega)]
  refine At.v rfl rfl rfl rfl rfl (by omega) ?_; refine At.v rfl rfl rfl rfl rfl trivial ?_; refine At.regionEnd ?_
  exact At.ret Tryz.func149 (.inr ⟨_, rfl⟩) rfl (.tmp rfl .nil) (wk (hc _ _ (⟨by (show Value.int .i64 (0 + (m : Int)) = _; rw [Int.zero_add]), rfl⟩)))
theorem s177 (L : Lg Tryz.prog main) (H : Facts) {n : Nat} (hn : n < 100) : Pure L 177 #[.int .i64 (n : Int)] H (.int .i64 ((n * 78913 / 2 ^ 18 : Nat) : Int)) := by
  refine Spec.enter Tryz.func177 rfl (by simp [Tryz.f177]) fun c cs hc => ?_; refine At.seq (At.region ?_); refine At.v rfl rfl rfl rfl rfl trivial ?_; refine At.regionEnd (At.seq (At.region ?_)); refine At.v rfl rfl rfl rfl rfl trivial ?_; refine At.v rfl rfl rfl rfl rfl (by omega) ?_; refine At.q rfl rfl rfl rfl (q_shr (m := n * 78913) (i := 18) rfl rfl rfl (by decide)) ?_; refine At.v rfl rfl rfl rfl rfl trivial ?_; refine At.regionEnd ?_
  exact At.ret Tryz.func177 (.inr ⟨_, rfl⟩) rfl (.tmp rfl .nil) (wk (hc _ _ (⟨by rfl, rfl⟩)))
theorem s178 (L : Lg Tryz.prog main) (H : Facts) {b : Bool} : Pure L 178 #[.bool b] H (.int .i64 (if b then 1 else 0)) := by
  refine Spec.enter Tryz.func178 rfl (by simp [Tryz.f178]) fun c cs hc => ?_
  cases b
  · refine At.seq ?_
    refine At.region ?_; refine At.v rfl rfl rfl rfl rfl trivial ?_; refine At.regionEnd (At.seq (At.seq (At.region ?_))); refine At.v rfl rfl rfl rfl rfl trivial ?_; refine At.regionEnd ?_; refine At.cond rfl ?_; refine At.skip (At.seq (At.region ?_)); refine At.v rfl rfl rfl rfl rfl trivial ?_; refine At.regionEnd ?_
    exact At.ret Tryz.func178 (.inr ⟨_, rfl⟩) rfl (.tmp rfl .nil) (wk (hc _ _ (⟨by rfl, rfl⟩)))
  · refine At.seq ?_
    refine At.region ?_; refine At.v rfl rfl rfl rfl rfl trivial ?_; refine At.regionEnd (At.seq (At.seq (At.region ?_))); refine At.v rfl rfl rfl rfl rfl trivial ?_; refine At.regionEnd ?_; refine At.cond rfl ?_; refine At.seq (At.region ?_); refine At.v rfl rfl rfl rfl rfl trivial ?_; refine At.regionEnd ?_
    exact At.ret Tryz.func178 (.inr ⟨_, rfl⟩) rfl (.tmp rfl .nil) (wk (hc _ _ (⟨by rfl, rfl⟩)))
def tenC : List Value := [.int .u64 1, .int .u64 10, .int .u64 100, .int .u64 1000, .int .u64 10000, .int .u64 100000, .int .u64 1000000, .int .u64 10000000, .int .u64 100000000, .int .u64 1000000000, .int .u64 10000000000, .int .u64 100000000000, .int .u64 1000000000000, .int .u64 10000000000000, .int .u64 100000000000000, .int .u64 1000000000000000, .int .u64 10000000000000000, .int .u64 100000000000000000, .int .u64 1000000000000000000, .int .u64 10000000000000000000]
theorem digits_n : ∀ n : _root_.Fin 100, 1 ≤ n.1 → len8 n.1 * 78913 / 2 ^ 18 ≤ 2 ∧ len8 n.1 < 100 ∧ len8 n.1 * 78913 / 2 ^ 18 + (if 10 ^ (len8 n.1 * 78913 / 2 ^ 18) ≤ n.1 then 1 else 0) = (digs n.1).length := by decide
theorem dg_fin {b : Bool} {n q m : Nat} {t : Int} (h : (m + if 10 ^ m ≤ n then 1 else 0) = q) (hb : decide (t ≤ (n : Int)) = b) (ht : t = ((10 ^ m : Nat) : Int)) : Value.int .i64 ((m : Int) + if b = true then 1 else 0) = .int .i64 (q : Int) := by
  subst hb ht h
  congr 1
  by_cases hh : 10 ^ m ≤ n
  · rw [if_pos (by rw [decide_eq_true_eq]; omega), if_pos hh]; rfl
  · rw [if_neg (by rw [decide_eq_true_eq]; omega), if_neg hh]; rfl
set_option maxRecDepth 100000 in
theorem s153 (L : Lg Tryz.prog main) (H : Facts) (ht : Cells H 4 0 tenC) {n : Nat} (h1 : 1 ≤ n) (hn : n < 100) : Pure L 153 #[.int .u64 (n : Int)] H (.int .i64 ((digs n).length : Int)) := by
  refine Spec.enter Tryz.func153 rfl (by simp [Tryz.f153]) fun c cs hc => ?_
  obtain ⟨hd1, hd2, hd3⟩ := digits_n ⟨n, hn⟩ h1
  simp only at hd1 hd2 hd3
  have stop149 := trivial
  refine At.seq (At.region ?_); refine At.v rfl rfl rfl rfl rfl trivial ?_; refine At.regionEnd (At.seq (At.region ?_)); refine At.v rfl rfl rfl rfl rfl trivial ?_
  clear stop149
  refine At.cq rfl rfl rfl rfl rfl rfl rfl rfl (t149 L _ hn) ?_; refine At.cq rfl rfl rfl rfl rfl rfl rfl rfl (s177 L _ hd2) ?_
  generalize len8 n * 78913 / 2 ^ 18 = m at hd1 hd3
  generalize (digs n).length = q at hd3 hc
  rcases (show m = 0 ∨ m = 1 ∨ m = 2 by omega) with rfl | rfl | rfl
  · have stop178 := trivial
    refine At.v rfl rfl rfl rfl rfl trivial ?_; refine At.regionEnd (At.seq (At.region ?_)); (iterate 3 refine At.v rfl rfl rfl rfl rfl trivial ?_); refine At.q rfl rfl rfl rfl (q_iaA rfl rfl rfl (by omega)) ?_; refine At.ldc rfl rfl rfl rfl rfl rfl (ht.s 0 1 rfl) rfl rfl ?_; refine At.cp rfl rfl rfl rfl rfl fun b12 h12 => ?_
    clear stop178
    refine At.cq rfl rfl rfl rfl rfl rfl rfl rfl (s178 L _) ?_; refine At.v rfl rfl rfl rfl rfl (by omega) ?_; refine At.v rfl rfl rfl rfl rfl trivial ?_; refine At.regionEnd ?_
    exact At.ret Tryz.func153 (.inr ⟨_, rfl⟩) rfl (.tmp rfl .nil) (wk (hc _ _ (⟨by exact dg_fin hd3 h12 rfl, rfl⟩)))
  · have stop178 := trivial
    refine At.v rfl rfl rfl rfl rfl trivial ?_; refine At.regionEnd (At.seq (At.region ?_)); (iterate 3 refine At.v rfl rfl rfl rfl rfl trivial ?_); refine At.q rfl rfl rfl rfl (q_iaA rfl rfl rfl (by omega)) ?_; refine At.ldc rfl rfl rfl rfl rfl rfl (ht.s 1 1 rfl) rfl rfl ?_; refine At.cp rfl rfl rfl rfl rfl fun b12 h12 => ?_
    clear stop178
    refine At.cq rfl rfl rfl rfl rfl rfl rfl rfl (s178 L _) ?_; refine At.v rfl rfl rfl rfl rfl (by omega) ?_; refine At.v rfl rfl rfl rfl rfl trivial ?_; refine At.regionEnd ?_
    exact At.ret Tryz.func153 (.inr ⟨_, rfl⟩) rfl (.tmp rfl .nil) (wk (hc _ _ (⟨by exact dg_fin hd3 h12 rfl, rfl⟩)))
  · have stop178 := trivial
    refine At.v rfl rfl rfl rfl rfl trivial ?_; refine At.regionEnd (At.seq (At.region ?_)); (iterate 3 refine At.v rfl rfl rfl rfl rfl trivial ?_); refine At.q rfl rfl rfl rfl (q_iaA rfl rfl rfl (by omega)) ?_; refine At.ldc rfl rfl rfl rfl rfl rfl (ht.s 2 1 rfl) rfl rfl ?_; refine At.cp rfl rfl rfl rfl rfl fun b12 h12 => ?_
    clear stop178
    refine At.cq rfl rfl rfl rfl rfl rfl rfl rfl (s178 L _) ?_; refine At.v rfl rfl rfl rfl rfl (by omega) ?_; refine At.v rfl rfl rfl rfl rfl trivial ?_; refine At.regionEnd ?_
    exact At.ret Tryz.func153 (.inr ⟨_, rfl⟩) rfl (.tmp rfl .nil) (wk (hc _ _ (⟨by exact dg_fin hd3 h12 rfl, rfl⟩)))
end Go.Gx
end

section
namespace Go.Gx
open Go Go.Conc Go.Proofs
variable {main : Bool}

instance : CvI Tryz.prog 230 228 .u32 := ⟨by kernel_rfl⟩
instance : CvI Tryz.prog 228 5 .u8 := ⟨by kernel_rfl⟩
def z24 (a b c : Int) : List Value := .int .u8 a :: .int .u8 b :: .int .u8 c :: List.replicate 21 (.int .u8 0)
set_option maxRecDepth 100000 in
theorem s154a (L : Lg Tryz.prog main) (H : Facts) {b n cap : Nat} {T : TypeId} (hn : n < 10) : Spec L 154 #[.slice (some ⟨b, 1, none⟩) 1 cap, .int .u64 (n : Int)] (.own b (.cells (List.toArray (z24 0 0 0)) T (0, 0)) :: H)
    (fun v H' => v = .tuple #[] ∧ H' = .own b (.cells (List.toArray (z24 0 ((48 : Int) + n) 0)) T (0, 0)) :: H) := by
  refine Spec.enter Tryz.func154 rfl (by simp [Tryz.f154]) fun c cs hc => ?_
  have hw : IntKind.wrap .u32 (n : Int) = (n : Int) := wrap_u32 (by omega) (by omega)
  have hw8 : IntKind.wrap .u8 ((48 : Int) + n) = (48 : Int) + n := wrap_u8 (by omega) (by omega)
  refine At.seq (At.region ?_); refine At.v rfl rfl rfl rfl rfl trivial ?_; refine At.ln rfl rfl rfl rfl rfl rfl rfl rfl ?_; refine At.v rfl rfl rfl rfl rfl trivial ?_; refine At.regionEnd (At.seq ?_); refine At.block ?_
  refine At.lpk (X := Unit) [0] (fun _ => [(4, .int .i64 1), (1, .int .u64 (n : Int))]) (fun _ => .own b (.cells (List.toArray (z24 0 0 0)) T (0, 0)) :: H) (fun _ => 0) (()) rfl ?_ (by repeat (first | exact trivial | refine ⟨rfl, ?_⟩)) sb
  intro _ _
  refine At.seq (At.seq (At.region ?_)); refine At.v rfl rfl rfl rfl rfl trivial ?_; refine At.cp rfl rfl rfl rfl rfl fun b20 h20 => ?_; refine At.regionEnd ?_
  obtain rfl : b20 = false := h20.symm.trans (by kernel_rfl)
  refine At.cond rfl ?_; refine At.exit rfl ?_; refine At.seq (At.region ?_); refine At.v rfl rfl rfl rfl rfl trivial ?_; refine At.q rfl rfl rfl rfl (q_conv rfl rfl (by assumption)) ?_; refine At.v rfl rfl rfl rfl rfl trivial ?_; refine At.regionEnd (At.seq (At.seq (At.region ?_))); refine At.v rfl rfl rfl rfl rfl trivial ?_; refine At.cp rfl rfl rfl rfl rfl fun b99 h99 => ?_; refine At.regionEnd ?_
  obtain rfl : b99 = false := h99.symm.trans (by kernel_rfl)
  refine At.cond rfl ?_; refine At.skip (At.seq (At.seq (At.region ?_))); refine At.v rfl rfl rfl rfl rfl trivial ?_; refine At.cp rfl rfl rfl rfl rfl fun b139 h139 => ?_; refine At.regionEnd ?_
  obtain rfl : b139 = false := h139.symm.trans (by kernel_rfl)
  refine At.cond rfl ?_; refine At.skip (At.seq (At.region ?_)); refine At.v rfl rfl rfl rfl rfl trivial ?_; refine At.cp rfl rfl rfl rfl rfl fun b161 h161 => ?_; refine At.regionEnd ?_
  obtain rfl : b161 = true := h161.symm.trans (by kernel_rfl)
  refine At.cond rfl ?_; refine At.region ?_; (iterate 2 refine At.v rfl rfl rfl rfl rfl trivial ?_); refine At.q rfl rfl rfl rfl (q_addK rfl rfl rfl (wrap_u32 (by omega) (by omega))) ?_; refine At.q rfl rfl rfl rfl (q_conv rfl rfl (by assumption)) ?_; refine At.q rfl rfl rfl rfl (q_ia rfl rfl rfl (by dsimp only; omega)) ?_; refine At.st 0 rfl rfl rfl rfl rfl rfl rfl rfl rfl rfl rfl rfl ?_; refine At.regionEnd ?_
  exact At.ret Tryz.func154 (.inl rfl) rfl .nil (wk (hc _ _ (⟨rfl, rfl⟩)))
set_option maxRecDepth 100000 in
theorem dg200_ix : ∀ n : _root_.Fin 100, dg200[n.1 * 2 + 1]? = some (48 + n.1 % 10).toUInt8 ∧ dg200[n.1 * 2]? = some (48 + n.1 / 10).toUInt8 ∧ (48 + n.1 % 10).toUInt8.toNat = 48 + n.1 % 10 ∧ (48 + n.1 / 10).toUInt8.toNat = 48 + n.1 / 10 := by decide
set_option maxRecDepth 100000 in
theorem s154b (L : Lg Tryz.prog main) (H : Facts) {b n cap : Nat} {T : TypeId} (h10 : 10 ≤ n) (hn : n < 100) : Spec L 154 #[.slice (some ⟨b, 1, none⟩) 2 cap, .int .u64 (n : Int)] (.own b (.cells (List.toArray (z24 0 0 0)) T (0, 0)) :: H)
    (fun v H' => v = .tuple #[] ∧ H' = .own b (.cells (List.toArray (z24 0 ((48 + n / 10 : Nat) : Int) ((48 + n % 10 : Nat) : Int))) T (0, 0)) :: H) := by
  refine Spec.enter Tryz.func154 rfl (by simp [Tryz.f154]) fun c cs hc => ?_
  have hw : IntKind.wrap .u32 (n : Int) = (n : Int) := wrap_u32 (by omega) (by omega)
  refine At.seq (At.region ?_); refine At.v rfl rfl rfl rfl rfl trivial ?_; refine At.ln rfl rfl rfl rfl rfl rfl rfl rfl ?_; refine At.v rfl rfl rfl rfl rfl trivial ?_; refine At.regionEnd (At.seq ?_); refine At.block ?_
  refine At.lpk (X := Unit) [0] (fun _ => [(4, .int .i64 2), (1, .int .u64 (n : Int))]) (fun _ => .own b (.cells (List.toArray (z24 0 0 0)) T (0, 0)) :: H) (fun _ => 0) (()) rfl ?_ (by repeat (first | exact trivial | refine ⟨rfl, ?_⟩)) sb
  intro _ _
  have stopDraw := trivial
  refine At.seq (At.seq (At.region ?_)); refine At.v rfl rfl rfl rfl rfl trivial ?_; refine At.cp rfl rfl rfl rfl rfl fun b20 h20 => ?_; refine At.regionEnd ?_
  obtain rfl : b20 = false := h20.symm.trans (by kernel_rfl)
  refine At.cond rfl ?_; refine At.exit rfl ?_; refine At.seq (At.region ?_); refine At.v rfl rfl rfl rfl rfl trivial ?_; refine At.q rfl rfl rfl rfl (q_conv rfl rfl (by assumption)) ?_; refine At.v rfl rfl rfl rfl rfl trivial ?_; refine At.regionEnd (At.seq (At.seq (At.region ?_))); refine At.v rfl rfl rfl rfl rfl trivial ?_; refine At.cp rfl rfl rfl rfl rfl fun b99 h99 => ?_; refine At.regionEnd ?_
  obtain rfl : b99 = false := h99.symm.trans (by kernel_rfl)
  refine At.cond rfl ?_; refine At.skip (At.seq (At.seq (At.region ?_))); refine At.v rfl rfl rfl rfl rfl trivial ?_; refine At.cp rfl rfl rfl rfl rfl fun b139 h139 => ?_; refine At.regionEnd ?_
  obtain rfl : b139 = true := h139.symm.trans (by kernel_rfl)
  refine At.cond rfl ?_; refine At.seq (At.region ?_); refine At.v rfl rfl rfl rfl rfl trivial ?_; refine At.q rfl rfl rfl rfl (q_remK rfl rfl rfl (by omega) (by omega)) ?_; refine At.q rfl rfl rfl rfl (q_mulK rfl rfl rfl (wrap_u32 (by omega) (by omega))) ?_; refine At.v rfl rfl rfl rfl rfl trivial ?_; refine At.regionEnd (At.seq (At.region ?_)); refine At.v rfl rfl rfl rfl rfl trivial ?_; refine At.q rfl rfl rfl rfl (q_quoK rfl rfl rfl (by omega) (by omega) (wrap_u32 (by omega) (by omega))) ?_
  refine At.v rfl rfl rfl rfl rfl trivial ?_; refine At.regionEnd (At.seq ?_)
  clear stopDraw
  refine At.drawJ hmix [0] rfl ?_; refine Pool.v 0 rfl rfl rfl rfl rfl rfl rfl trivial ?_; refine Pool.v 1 rfl rfl rfl rfl rfl rfl rfl trivial ?_; refine Pool.v 2 rfl rfl rfl rfl rfl rfl rfl (by omega) ?_; refine Pool.v 3 rfl rfl rfl rfl rfl rfl rfl trivial ?_; refine Pool.v 4 rfl rfl rfl rfl rfl rfl rfl trivial ?_; refine Pool.v 5 rfl rfl rfl rfl rfl rfl rfl (by omega) ?_; refine Pool.v 6 rfl rfl rfl rfl rfl rfl rfl trivial ?_
  refine Pool.q 7 rfl rfl rfl rfl rfl (q_addK rfl rfl rfl (wrap_u32 (by omega) (by omega))) rfl ?_; refine Pool.v 9 rfl rfl rfl rfl rfl rfl rfl trivial ?_; refine Pool.q 11 rfl rfl rfl rfl rfl (q_ia rfl rfl rfl (by dsimp only; omega)) rfl ?_; refine Pool.q 13 rfl rfl rfl rfl rfl (q_ia rfl rfl rfl (by dsimp only; omega)) rfl ?_
  obtain ⟨e1, e2, e3, e4⟩ := dg200_ix ⟨n, hn⟩
  refine Pool.q 8 rfl rfl rfl rfl rfl (q_atN (w := dg200) (j := n * 2 + 1) rfl rfl rfl (by omega) e1) rfl ?_; refine Pool.q 10 rfl rfl rfl rfl rfl (q_atN (w := dg200) (j := n * 2) rfl rfl rfl (by omega) e2) rfl ?_
  rw [e3, e4]
  refine Pool.st 0 12 rfl rfl rfl rfl rfl rfl rfl rfl rfl rfl rfl rfl rfl rfl rfl rfl rfl rfl sb ?_; refine Pool.st 0 14 rfl rfl rfl rfl rfl rfl rfl rfl rfl rfl rfl rfl rfl rfl rfl rfl rfl rfl sb ?_; refine pool_done rfl rfl ?_; refine At.regionEnd (At.region ?_); refine At.v rfl rfl rfl rfl rfl trivial ?_; refine At.v rfl rfl rfl rfl rfl (by omega) ?_; refine At.v rfl rfl rfl rfl rfl trivial ?_; refine At.regionEnd (At.seq (At.region ?_)); refine At.v rfl rfl rfl rfl rfl trivial ?_
  refine At.cp rfl rfl rfl rfl rfl fun b161 h161 => ?_; refine At.regionEnd ?_
  obtain rfl : b161 = false := h161.symm.trans (by kernel_rfl)
  refine At.cond rfl ?_; refine At.skip ?_
  exact At.ret Tryz.func154 (.inl rfl) rfl .nil (wk (hc _ _ (⟨rfl, rfl⟩)))
end Go.Gx
end

section
namespace Go.Gx
open Go Go.Conc

section
variable {P : Program} {H : Facts} {E : Env} {o : Oper}
theorem q_sliceALH {t e : TypeId} {x y z : Operand} {ag : Bool} {n sz b off : Nat} {l h : Nat} {kd kd' : IntKind} [har : ArI P t n e ag sz] (ho : o.op = .slice t x (some y) (some z) none) (hx : ev E x = some (.pointer (some ⟨b, off, none⟩))) (hy : ev E y = some (.int kd (l : Int))) (hz : ev E z = some (.int kd' (h : Int))) (h1 : l ≤ h) (h2 : h ≤ n) (h3 : l < n) :
    QOp P o E H (.slice (some ⟨b, off + l * sz, none⟩) (h - l) (n - l)) := by
  obtain ⟨zz, by_, e1, e2⟩ := har.parts
  obtain ⟨d, i, _, e4, _, e6, _, _⟩ := tyF_parts e2
  refine ⟨nd ho (by intro c h; cases h), fun φ hA Q hQ => ?_⟩
  unfold execOp; rw [ho]; simp only [Option.map_some, Option.map_none, hA x _ hx, Instr.sliceAt, Instr.sureAddr, K.bind, k_underlying e1, K.pure]
  unfold Instr.sliceBounds
  simp only [K.bind, K.pure]
  refine k_bound hA hz h2 ?_; refine k_bound hA hy h1 ?_
  rw [k_sizeOf e4, e6]
  have e : (if n = l then (⟨b, off, none⟩ : Addr) else (⟨b, off, none⟩ : Addr).add (l * sz)) = ⟨b, off + l * sz, none⟩ := by
    rw [if_neg (by omega), add_none]
  rw [e]
  exact hQ
theorem q_negK {t : TypeId} {x : Operand} {k : IntKind} {a b : Int} (ho : o.op = .unOp .neg t x) (hx : ev E x = some (.int k a)) (hb : k.wrap (-a) = b) : QOp P o E H (.int k b) :=
  ⟨nd ho (by intro c h; cases h), fun φ hA Q hQ => by
    unfold execOp; rw [ho]; simp only [hA x _ hx, Op.unary, Op.intArith, K.bind, K.pure]
    rw [show (0 : Int) - a = -a from by omega, hb]; exact hQ⟩
end
end Go.Gx
end

section
namespace Go.Gx
open Go Go.Conc Go.Proofs
variable {main : Bool}

def sayI (i : Int) : List UInt8 := if i < 0 then 45 :: digs i.natAbs else digs i.natAbs
theorem rd_say1 {H : Facts} {r n : Nat} {T : TypeId} {fr : Nat × Nat} (hn : n < 10) (h : .own r (.cells (List.toArray (z24 45 ((48 : Int) + n) 0)) T fr) ∈ H) : Rd H (some ⟨r, 0, none⟩) ((45 :: digs n).flatMap cB) := by
  refine .inr ⟨r, 0, rfl, cells_own h ?_⟩
  have e : ((48 + n).toUInt8).toNat = 48 + n := by
    show (48 + n) % 256 = _
    omega
  unfold digs z24
  rw [if_pos hn]
  simp [cB, e]
  omega
theorem rd_say2 {H : Facts} {r n : Nat} {T : TypeId} {fr : Nat × Nat} (h10 : ¬ n < 10) (hn : n < 100) (h : .own r (.cells (List.toArray (z24 45 ((48 + n / 10 : Nat) : Int) ((48 + n % 10 : Nat) : Int))) T fr) ∈ H) : Rd H (some ⟨r, 0, none⟩) ((45 :: digs n).flatMap cB) := by
  refine .inr ⟨r, 0, rfl, cells_own h ?_⟩
  have e : ((48 + n / 10).toUInt8).toNat = 48 + n / 10 := by
    show (48 + n / 10) % 256 = _
    omega
  have e2 : ((48 + n % 10).toUInt8).toNat = 48 + n % 10 := by
    show (48 + n % 10) % 256 = _
    omega
  unfold digs z24
  rw [if_neg h10]
  simp [cB, e, e2]
  omega
instance : CvI Tryz.prog 2 230 .u64 := ⟨by kernel_rfl⟩
set_option maxRecDepth 100000 in
theorem s127 (L : Lg Tryz.prog main) (H : Facts) (ht : Cells H 4 0 tenC) {i : Int} (h0 : -100 < i) (h1 : i < 100) : Pure L 127 #[.int .i64 i, .int .i64 10] H (.string (S (sayI i))) := by
  refine Spec.enter Tryz.func127 rfl (by simp [Tryz.f127]) fun c cs hc => ?_
  by_cases hi : 0 ≤ i
  · obtain ⟨n, rfl⟩ := Int.eq_ofNat_of_zero_le hi
    rw [show sayI (n : Int) = digs n from by unfold sayI; rw [if_neg (by omega)]; rfl] at hc
    have stop152 := trivial
    refine At.seq (At.region ?_); refine At.v rfl rfl rfl rfl rfl trivial ?_; refine At.regionEnd (At.seq (At.seq (At.region ?_))); refine At.v rfl rfl rfl rfl rfl trivial ?_; refine At.cp rfl rfl rfl rfl rfl fun b11 h11 => ?_; refine At.regionEnd ?_
    obtain rfl : b11 = true := h11.symm.trans (by kernel_rfl)
    refine At.cond rfl ?_; refine At.seq (At.seq (At.region ?_)); refine At.v rfl rfl rfl rfl rfl trivial ?_; refine At.cp rfl rfl rfl rfl rfl fun b13 h13 => ?_; refine At.v rfl rfl rfl rfl rfl trivial ?_
    obtain rfl : b13 = true := h13.symm.trans (by kernel_rfl)
    refine At.v rfl rfl rfl rfl rfl trivial ?_; refine At.cp rfl rfl rfl rfl rfl fun b16 h16 => ?_; refine At.v rfl rfl rfl rfl rfl trivial ?_; refine At.regionEnd ?_
    obtain rfl : b16 = true := h16.symm.trans (decide_eq_true (by omega))
    refine At.cond rfl ?_; refine At.seq (At.region ?_); refine At.v rfl rfl rfl rfl rfl trivial ?_
    clear stop152
    refine At.cq rfl rfl rfl rfl rfl rfl rfl rfl (s152 L _ (n := n) (by omega)) ?_; refine At.v rfl rfl rfl rfl rfl trivial ?_; refine At.regionEnd ?_
    exact At.ret Tryz.func127 (.inr ⟨_, rfl⟩) rfl (.tmp rfl .nil) (wk (hc _ _ (⟨by rfl, rfl⟩)))
  · obtain ⟨n, rfl⟩ : ∃ n : Nat, i = -(n : Int) := ⟨i.natAbs, by omega⟩
    rw [show sayI (-(n : Int)) = 45 :: digs n from by unfold sayI; rw [if_pos (by omega)]; rw [Int.natAbs_neg]; rfl] at hc
    have hw : IntKind.wrap .u64 (-(n : Int)) = 18446744073709551616 - (n : Int) := by
      show (-(n : Int)) % 18446744073709551616 = _
      omega
    have hw2 : IntKind.wrap .u64 (-(18446744073709551616 - (n : Int))) = (n : Int) := by
      show (-(18446744073709551616 - (n : Int))) % 18446744073709551616 = _
      omega
    have stop153 := trivial
    refine At.seq (At.region ?_); refine At.v rfl rfl rfl rfl rfl trivial ?_; refine At.regionEnd (At.seq (At.seq (At.region ?_))); refine At.v rfl rfl rfl rfl rfl trivial ?_; refine At.cp rfl rfl rfl rfl rfl fun b11 h11 => ?_; refine At.regionEnd ?_
    obtain rfl : b11 = true := h11.symm.trans (by kernel_rfl)
    refine At.cond rfl ?_; refine At.seq (At.seq (At.region ?_)); refine At.v rfl rfl rfl rfl rfl trivial ?_; refine At.cp rfl rfl rfl rfl rfl fun b13 h13 => ?_; refine At.v rfl rfl rfl rfl rfl trivial ?_
    obtain rfl : b13 = false := h13.symm.trans (decide_eq_false (by omega))
    (iterate 2 refine At.un rfl rfl rfl rfl ?_); refine At.v rfl rfl rfl rfl rfl trivial ?_; refine At.regionEnd ?_; refine At.cond rfl ?_; refine At.skip (At.seq (At.region ?_)); refine At.al rfl rfl rfl rfl rfl fun r5 => ?_; refine At.regionEnd (At.seq (At.region ?_)); refine At.v rfl rfl rfl rfl rfl trivial ?_; refine At.q rfl rfl rfl rfl (q_conv rfl rfl (by assumption)) ?_; refine At.v rfl rfl rfl rfl rfl trivial ?_; refine At.regionEnd (At.seq (At.seq (At.region ?_)))
    refine At.v rfl rfl rfl rfl rfl trivial ?_; refine At.cp rfl rfl rfl rfl rfl fun b23 h23 => ?_; refine At.regionEnd ?_
    obtain rfl : b23 = true := h23.symm.trans (decide_eq_true (by omega))
    refine At.cond rfl ?_; refine At.region ?_; refine At.v rfl rfl rfl rfl rfl trivial ?_; refine At.q rfl rfl rfl rfl (q_negK rfl rfl hw2) ?_; refine At.v rfl rfl rfl rfl rfl trivial ?_; refine At.regionEnd (At.seq (At.region ?_)); refine At.v rfl rfl rfl rfl rfl trivial ?_
    clear stop153
    refine At.cq rfl rfl rfl rfl rfl rfl rfl rfl (s153 L _ ht.a (n := n) (by omega) (by omega)) ?_
    have stop154 := trivial
    by_cases h10 : n < 10
    · rw [show (digs n).length = 1 from by unfold digs; rw [if_pos h10]; rfl]
      refine At.v rfl rfl rfl rfl rfl trivial ?_; refine At.regionEnd (At.seq (At.region ?_)); refine At.v rfl rfl rfl rfl rfl trivial ?_; refine At.v rfl rfl rfl rfl rfl (by omega) ?_; refine At.q rfl rfl rfl rfl (q_sliceALH (l := 1) (h := 2) rfl rfl rfl rfl (by omega) (by omega) (by omega)) ?_
      clear stop154
      refine At.v rfl rfl rfl rfl rfl trivial ?_; refine At.cl rfl rfl rfl rfl rfl rfl rfl rfl (s154a L _ (n := n) h10) ?_
      rintro _ _ ⟨rfl, rfl⟩
      have stop38 := trivial
      refine At.regionEnd (At.seq (At.seq (At.region ?_))); refine At.v rfl rfl rfl rfl rfl trivial ?_; refine At.cp rfl rfl rfl rfl rfl fun b34 h34 => ?_; refine At.regionEnd ?_
      obtain rfl : b34 = true := h34.symm.trans (decide_eq_true (by omega))
      refine At.cond rfl ?_; refine At.seq (At.region ?_); refine At.q rfl rfl rfl rfl (q_iaA rfl rfl rfl (by dsimp only; omega)) ?_; refine At.st 0 rfl rfl rfl rfl rfl rfl rfl rfl rfl rfl rfl rfl ?_; refine At.regionEnd (At.seq (At.region ?_)); refine At.v rfl rfl rfl rfl rfl trivial ?_; refine At.v rfl rfl rfl rfl rfl (by omega) ?_; refine At.q rfl rfl rfl rfl (q_sliceAH (h := 2) rfl rfl rfl (by omega)) ?_
      refine At.q rfl rfl rfl rfl (q_bytesStr (w := 45 :: digs n) rfl rfl (rd_say1 h10 (List.mem_cons_self ..)) (by simp [digs, h10]) (by omega)) ?_; refine At.v rfl rfl rfl rfl rfl trivial ?_; refine At.regionEnd ?_
      exact At.ret Tryz.func127 (.inr ⟨_, rfl⟩) rfl (.tmp rfl .nil) (wk (hc _ _ (⟨by rfl, rfl⟩)))
    · rw [show (digs n).length = 2 from by unfold digs; rw [if_neg h10]; rfl]
      refine At.v rfl rfl rfl rfl rfl trivial ?_; refine At.regionEnd (At.seq (At.region ?_)); refine At.v rfl rfl rfl rfl rfl trivial ?_; refine At.v rfl rfl rfl rfl rfl (by omega) ?_; refine At.q rfl rfl rfl rfl (q_sliceALH (l := 1) (h := 3) rfl rfl rfl rfl (by omega) (by omega) (by omega)) ?_
      clear stop154
      refine At.v rfl rfl rfl rfl rfl trivial ?_; refine At.cl rfl rfl rfl rfl rfl rfl rfl rfl (s154b L _ (n := n) (by omega) (by omega)) ?_
      rintro _ _ ⟨rfl, rfl⟩
      have stop38 := trivial
      refine At.regionEnd (At.seq (At.seq (At.region ?_))); refine At.v rfl rfl rfl rfl rfl trivial ?_; refine At.cp rfl rfl rfl rfl rfl fun b34 h34 => ?_; refine At.regionEnd ?_
      obtain rfl : b34 = true := h34.symm.trans (decide_eq_true (by omega))
      refine At.cond rfl ?_; refine At.seq (At.region ?_); refine At.q rfl rfl rfl rfl (q_iaA rfl rfl rfl (by dsimp only; omega)) ?_; refine At.st 0 rfl rfl rfl rfl rfl rfl rfl rfl rfl rfl rfl rfl ?_; refine At.regionEnd (At.seq (At.region ?_)); refine At.v rfl rfl rfl rfl rfl trivial ?_; refine At.v rfl rfl rfl rfl rfl (by omega) ?_; refine At.q rfl rfl rfl rfl (q_sliceAH (h := 3) rfl rfl rfl (by omega)) ?_
      refine At.q rfl rfl rfl rfl (q_bytesStr (w := 45 :: digs n) rfl rfl (rd_say2 h10 (by omega) (List.mem_cons_self ..)) (by simp [digs, h10]) (by omega)) ?_; refine At.v rfl rfl rfl rfl rfl trivial ?_; refine At.regionEnd ?_
      exact At.ret Tryz.func127 (.inr ⟨_, rfl⟩) rfl (.tmp rfl .nil) (wk (hc _ _ (⟨by rfl, rfl⟩)))
theorem s92 (L : Lg Tryz.prog main) (H : Facts) (ht : Cells H 4 0 tenC) {i : Int} (h0 : -100 < i) (h1 : i < 100) : Pure L 92 #[.int .i64 i] H (.string (S (sayI i))) := by
  refine Spec.enter Tryz.func92 rfl (by simp [Tryz.f92]) fun c cs hc => ?_
  have stop127 := trivial
  refine At.seq (At.region ?_); refine At.v rfl rfl rfl rfl rfl trivial ?_; refine At.regionEnd (At.seq (At.region ?_)); refine At.v rfl rfl rfl rfl rfl trivial ?_; refine At.cq rfl rfl rfl rfl rfl rfl rfl rfl (s127 L _ ht.a h0 h1) ?_; refine At.v rfl rfl rfl rfl rfl trivial ?_; refine At.regionEnd ?_
  exact At.ret Tryz.func92 (.inr ⟨_, rfl⟩) rfl (.tmp rfl .nil) (wk (hc _ _ (⟨by rfl, rfl⟩)))
theorem s36 (L : Lg Tryz.prog main) (H : Facts) (ht : Cells H 4 0 tenC) {i : Int} (h0 : -100 < i) (h1 : i < 100) : Pure L 36 #[.int .i64 i] H (.string (S (sayI i))) := by
  refine Spec.enter Tryz.func36 rfl (by simp [Tryz.f36]) fun c cs hc => ?_
  have stop92 := trivial
  refine At.seq (At.region ?_); refine At.v rfl rfl rfl rfl rfl trivial ?_; refine At.regionEnd (At.seq (At.region ?_)); refine At.v rfl rfl rfl rfl rfl trivial ?_; refine At.cq rfl rfl rfl rfl rfl rfl rfl rfl (s92 L _ ht.a h0 h1) ?_; refine At.v rfl rfl rfl rfl rfl trivial ?_; refine At.regionEnd ?_
  exact At.ret Tryz.func36 (.inr ⟨_, rfl⟩) rfl (.tmp rfl .nil) (wk (hc _ _ (⟨by rfl, rfl⟩)))
theorem sayI_len {i : Int} : (sayI i).length ≤ 3 := by
  unfold sayI digs
  split <;> split <;> simp
def bandL2 (lo hi : Int) : List UInt8 := if lo = hi then sayI lo else sayI lo ++ [58] ++ sayI hi
set_option maxRecDepth 100000 in
theorem s37 (L : Lg Tryz.prog main) (H : Facts) (ht : Cells H 4 0 tenC) {lo hi : Int} (h0 : -100 < lo) (h1 : lo < 100) (h2 : -100 < hi) (h3 : hi < 100) : Pure L 37 #[.agg #[.int .i64 lo, .int .i64 hi]] H (.string (S (bandL2 lo hi))) := by
  refine Spec.enter Tryz.func37 rfl (by simp [Tryz.f37]) fun c cs hc => ?_
  have hl1 := @sayI_len lo
  have hl2 := @sayI_len hi
  unfold bandL2 at hc
  by_cases he : lo = hi
  · rw [if_pos he] at hc
    have stop36 := trivial
    refine At.seq (At.region ?_); refine At.bx rfl rfl rfl rfl rfl rfl rfl fun r1 => ?_; refine At.v rfl rfl rfl rfl rfl trivial ?_; refine At.regionEnd (At.seq (At.seq (At.region ?_))); refine At.fa 0 rfl rfl rfl rfl rfl rfl rfl ?_; refine At.ld 0 rfl rfl rfl rfl rfl rfl rfl rfl rfl ?_; refine At.fa 1 rfl rfl rfl rfl rfl rfl rfl ?_; refine At.ld 0 rfl rfl rfl rfl rfl rfl rfl rfl rfl ?_; refine At.cp rfl rfl rfl rfl rfl fun b7 h7 => ?_; refine At.regionEnd ?_
    obtain rfl : b7 = true := h7.symm.trans (decide_eq_true (by omega))
    refine At.cond rfl ?_; refine At.seq (At.region ?_); refine At.fa 0 rfl rfl rfl rfl rfl rfl rfl ?_; refine At.ld 0 rfl rfl rfl rfl rfl rfl rfl rfl rfl ?_
    clear stop36
    refine At.cq rfl rfl rfl rfl rfl rfl rfl rfl (s36 L _ ht.a h0 h1) ?_; refine At.v rfl rfl rfl rfl rfl trivial ?_; refine At.regionEnd ?_
    exact At.ret Tryz.func37 (.inr ⟨_, rfl⟩) rfl (.tmp rfl .nil) (wk (hc _ _ (⟨by rfl, rfl⟩)))
  · rw [if_neg he] at hc
    have stop36 := trivial
    refine At.seq (At.region ?_); refine At.bx rfl rfl rfl rfl rfl rfl rfl fun r1 => ?_; refine At.v rfl rfl rfl rfl rfl trivial ?_; refine At.regionEnd (At.seq (At.seq (At.region ?_))); refine At.fa 0 rfl rfl rfl rfl rfl rfl rfl ?_; refine At.ld 0 rfl rfl rfl rfl rfl rfl rfl rfl rfl ?_; refine At.fa 1 rfl rfl rfl rfl rfl rfl rfl ?_; refine At.ld 0 rfl rfl rfl rfl rfl rfl rfl rfl rfl ?_; refine At.cp rfl rfl rfl rfl rfl fun b7 h7 => ?_; refine At.regionEnd ?_
    obtain rfl : b7 = false := h7.symm.trans (decide_eq_false (by omega))
    refine At.cond rfl ?_; refine At.skip (At.seq ?_); refine At.drawJ hmix [] rfl ?_; refine Pool.fa 0 0 rfl rfl rfl rfl rfl rfl rfl rfl rfl ?_; refine Pool.ld 0 1 rfl rfl rfl rfl rfl rfl rfl rfl rfl rfl rfl ?_; refine Pool.fa 1 4 rfl rfl rfl rfl rfl rfl rfl rfl rfl ?_; refine Pool.ld 0 5 rfl rfl rfl rfl rfl rfl rfl rfl rfl rfl rfl ?_
    clear stop36
    refine Pool.cq 2 rfl rfl rfl rfl rfl rfl rfl rfl rfl (fun H_ hs_ => s36 L H_ (ht.a) h0 h1) ?_
    have stop36 := trivial
    refine Pool.q 3 rfl rfl rfl rfl rfl (q_cat rfl rfl rfl (by simp; omega)) rfl ?_
    clear stop36
    refine Pool.cq 6 rfl rfl rfl rfl rfl rfl rfl rfl rfl (fun H_ hs_ => s36 L H_ (ht.a) h2 h3) ?_; refine Pool.q 7 rfl rfl rfl rfl rfl (q_cat rfl rfl rfl (by simp; omega)) rfl ?_; refine Pool.v 8 rfl rfl rfl rfl rfl rfl rfl trivial ?_; refine pool_done rfl rfl ?_; refine At.regionEnd ?_
    exact At.ret Tryz.func37 (.inr ⟨_, rfl⟩) rfl (.tmp rfl .nil) (wk (hc _ _ (⟨by rfl, rfl⟩)))
end Go.Gx
end

section
namespace Go.Gx
open Go Go.Conc

section
variable {P : Program} {H : Facts} {E : Env} {o : Oper}
theorem q_cap {az : Array Operand} {ats : Array TypeId} {x : Operand} {t e sz by_ : Nat} {ag : Bool} {z : List Value} {a : Option Addr} {len cap : Nat} [hel : ElI P t e ag sz by_ z] (ho : o.op = .call { callee := .builtin .cap, args := az, argTypes := ats }) (has : az.toList = [x]) (hats : ats.toList = [t]) (hx : ev E x = some (.slice a len cap)) : QOp P o E H (.int .i64 cap) :=
  ⟨nd ho (by intro c h; cases h), fun φ hA Q hQ => by
    obtain ⟨zv, ht, _⟩ := hel.parts
    have hat : ats[0]? = some t := by rw [← Array.getElem?_toList, hats]; rfl
    have e0 : az.map φ = #[.slice a len cap] := by
      apply Array.ext'
      simp [has, hA x _ hx]
    unfold execOp; rw [ho]; simp only [resolve, K.bind, K.pure, invoke, builtin, Builtin.cap_, e0, hat]
    have e1 : (#[Value.slice a len cap] : Array Value)[0]? = some (.slice a len cap) := rfl
    simp only [e1, K.bind]
    first
      | exact hQ
      | (rw [k_underlying ht]; exact hQ)⟩
end
end Go.Gx
end

section
namespace Go.Gx
open Go Go.Conc Go.Proofs
variable {main : Bool}

theorem fnx125 : (Extern.findNext Tryz.f125).isNone = true := by kernel_rfl
theorem fx125 : Extern.find Tryz.f125 = some Extern.AbiNoEscape.same := by kernel_rfl
instance : ExI Tryz.prog 125 Extern.AbiNoEscape.same := ⟨_, Tryz.func125, by kernel_rfl, rfl, fnx125, fx125⟩
instance : PtrI Tryz.prog 74 77 := ⟨by kernel_rfl⟩
instance : UnI Tryz.prog 206 := ⟨by kernel_rfl⟩
theorem k_same {P : Program} {H : Facts} {Q : Value → Facts → Prop} {v : Value} (hq : Q v H) : K P (Extern.AbiNoEscape.same #[v]) Q H := hq
set_option maxRecDepth 100000 in
theorem s90 (L : Lg Tryz.prog main) (H : Facts) {b : Nat} {pa v : Value} (hp : pa = .pointer none ∨ pa = .pointer (some ⟨b, 0, none⟩)) : Spec L 90 #[.pointer (some ⟨b, 0, none⟩)] (.own b (.cells #[pa, v] 77 (0, 0)) :: H)
    (fun u H' => u = .tuple #[] ∧ H' = .own b (.cells #[.pointer (some ⟨b, 0, none⟩), v] 77 (0, 0)) :: H) := by
  refine Spec.enter Tryz.func90 rfl (by simp [Tryz.f90]) fun c cs hc => ?_
  rcases hp with rfl | rfl
  · refine At.seq ?_
    refine At.region ?_; refine At.v rfl rfl rfl rfl rfl trivial ?_; refine At.q rfl rfl rfl rfl (q_nilP rfl rfl) ?_; refine At.fa 0 rfl rfl rfl rfl rfl rfl rfl ?_; refine At.ld 0 rfl rfl rfl rfl rfl rfl rfl rfl rfl ?_; refine At.q rfl rfl rfl rfl (q_ptrNil rfl rfl) ?_; refine At.regionEnd ?_; refine At.cond rfl ?_; refine At.region ?_; (iterate 2 refine At.v rfl rfl rfl rfl rfl trivial ?_); refine At.q rfl rfl rfl rfl (q_toUnsafe rfl rfl (List.mem_cons_self ..) rfl (by simp)) ?_
    refine At.q rfl rfl rfl rfl (q_ext (g := 125) rfl rfl rfl fun Q hQ => k_same hQ) ?_; refine At.q rfl rfl rfl rfl (q_fromUnsafe rfl rfl (List.mem_cons_self ..) (by kernel_rfl)) ?_; refine At.q rfl rfl rfl rfl (q_nilP rfl rfl) ?_; refine At.fa 0 rfl rfl rfl rfl rfl rfl rfl ?_; refine At.st 0 rfl rfl rfl rfl rfl rfl rfl rfl rfl rfl rfl rfl ?_; refine At.regionEnd ?_
    exact At.ret Tryz.func90 (.inl rfl) rfl .nil (wk (hc _ _ (⟨rfl, rfl⟩)))
  · refine At.seq ?_
    refine At.region ?_; refine At.v rfl rfl rfl rfl rfl trivial ?_; refine At.q rfl rfl rfl rfl (q_nilP rfl rfl) ?_; refine At.fa 0 rfl rfl rfl rfl rfl rfl rfl ?_; refine At.ld 0 rfl rfl rfl rfl rfl rfl rfl rfl rfl ?_; refine At.q rfl rfl rfl rfl (q_ptrNil rfl rfl) ?_; refine At.regionEnd ?_; refine At.cond rfl ?_; refine At.seq (At.region ?_); refine At.v rfl rfl rfl rfl rfl trivial ?_; refine At.q rfl rfl rfl rfl (q_nilP rfl rfl) ?_; refine At.fa 0 rfl rfl rfl rfl rfl rfl rfl ?_
    refine At.ld 0 rfl rfl rfl rfl rfl rfl rfl rfl rfl ?_; refine At.v rfl rfl rfl rfl rfl trivial ?_; refine At.q rfl rfl rfl rfl (q_ptrNe rfl rfl rfl rfl) ?_; refine At.regionEnd ?_; refine At.cond rfl ?_; refine At.skip ?_
    exact At.ret Tryz.func90 (.inl rfl) rfl .nil (wk (hc _ _ (⟨rfl, rfl⟩)))
set_option maxRecDepth 100000 in
theorem s34 (L : Lg Tryz.prog main) (H sf : Facts) {b : Nat} {pa v : Value} {xs w : List UInt8} (hp : pa = .pointer none ∨ pa = .pointer (some ⟨b, 0, none⟩)) (hs : Sl cB 5 v xs sf) (hw : 0 < w.length) (hl : xs.length + w.length ≤ 100000) : Spec L 34 #[.pointer (some ⟨b, 0, none⟩), .string (S w)] (.own b (.cells #[pa, v] 77 (0, 0)) :: (sf ++ H))
    (fun u H' => ∃ v' sf', u = .tuple #[.int .i64 w.length, .nilIface] ∧ Sl cB 5 v' (xs ++ w) sf' ∧ H' = .own b (.cells #[.pointer (some ⟨b, 0, none⟩), v'] 77 (0, 0)) :: (sf' ++ H)) := by
  refine Spec.enter Tryz.func34 rfl (by simp [Tryz.f34]) fun c cs hc => ?_
  have stop90 := trivial
  refine At.seq (At.region ?_); (iterate 2 refine At.v rfl rfl rfl rfl rfl trivial ?_); refine At.regionEnd (At.seq (At.region ?_)); refine At.v rfl rfl rfl rfl rfl trivial ?_
  clear stop90
  refine At.cl rfl rfl rfl rfl rfl rfl rfl rfl (s90 L _ (v := v) hp) ?_
  rintro _ _ ⟨rfl, rfl⟩
  obtain ⟨a, cap, rfl⟩ := hs.slice
  refine At.regionEnd (At.seq (At.region ?_)); (iterate 2 refine At.v rfl rfl rfl rfl rfl trivial ?_); refine At.q rfl rfl rfl rfl (q_nilP rfl rfl) ?_; refine At.fa 1 rfl rfl rfl rfl rfl rfl rfl ?_; refine At.ld 0 rfl rfl rfl rfl rfl rfl rfl rfl rfl ?_; refine At.v rfl rfl rfl rfl rfl trivial ?_; refine At.appS rfl rfl rfl rfl rfl rfl rfl rfl rfl rfl rfl rfl hs List.perm_middle hw hl fun v' sf' hs' => ?_
  refine At.weakH (H' := .own b (.cells #[.pointer (some ⟨b, 0, none⟩), .slice a xs.length cap] 77 (0, 0)) :: (sf' ++ H)) ?_ (Sub.of_perm List.perm_middle.symm)
  obtain ⟨a2, cap2, rfl⟩ := hs'.slice
  refine At.q rfl rfl rfl rfl (q_nilP rfl rfl) ?_; refine At.fa 1 rfl rfl rfl rfl rfl rfl rfl ?_; refine At.st 0 rfl rfl rfl rfl rfl rfl rfl rfl rfl rfl rfl rfl ?_; refine At.regionEnd (At.seq (At.region ?_)); refine At.v rfl rfl rfl rfl rfl trivial ?_; refine At.q rfl rfl rfl rfl (q_lenSS rfl rfl rfl rfl) ?_; (iterate 2 refine At.v rfl rfl rfl rfl rfl trivial ?_); refine At.regionEnd ?_
  exact At.ret Tryz.func34 (.inr ⟨_, rfl⟩) rfl (.tmp rfl (.tmp rfl .nil)) (wk (hc _ _ (⟨_, sf', rfl, hs', rfl⟩)))
theorem fnx151 : (Extern.findNext Tryz.f151).isNone = true := by kernel_rfl
theorem fx151 : Extern.find Tryz.f151 = some (Extern.BytealgMakeNoZero.makeNoZero #[3] #[75]) := by kernel_rfl
instance : ExI Tryz.prog 151 (Extern.BytealgMakeNoZero.makeNoZero #[3] #[75]) := ⟨_, Tryz.func151, by kernel_rfl, rfl, fnx151, fx151⟩
set_option maxRecDepth 100000 in
theorem s126 (L : Lg Tryz.prog main) (H : Facts) {b n : Nat} {pa : Value} (hn : 0 < n ∧ n ≤ 100000) : Spec L 126 #[.pointer (some ⟨b, 0, none⟩), .int .i64 (n : Int)] (.own b (.cells #[pa, .slice none 0 0] 77 (0, 0)) :: H)
    (fun u H' => ∃ v' sf', u = .tuple #[] ∧ Sl cB 5 v' [] sf' ∧ H' = .own b (.cells #[pa, v'] 77 (0, 0)) :: (sf' ++ H)) := by
  refine Spec.enter Tryz.func126 rfl (by simp [Tryz.f126]) fun c cs hc => ?_; refine At.seq ?_; refine At.draw hmix (_) sb ?_; refine Pool.v 0 rfl rfl rfl rfl rfl rfl rfl trivial ?_; refine Pool.q 1 rfl rfl rfl rfl rfl (q_nilP rfl rfl) rfl ?_; refine Pool.fa 1 2 rfl rfl rfl rfl rfl rfl rfl rfl rfl ?_; refine Pool.ld 0 3 rfl rfl rfl rfl rfl rfl rfl rfl rfl rfl rfl ?_; refine Pool.q 4 rfl rfl rfl rfl rfl (q_cap rfl rfl rfl rfl) rfl ?_; refine Pool.v 5 rfl rfl rfl rfl rfl rfl rfl (by omega) ?_
  refine Pool.v 6 rfl rfl rfl rfl rfl rfl rfl trivial ?_; refine Pool.v 7 rfl rfl rfl rfl rfl rfl rfl (by omega) ?_; refine Pool.v 9 rfl rfl rfl rfl rfl rfl rfl trivial ?_; refine Pool.q 10 rfl rfl rfl rfl rfl (q_nilP rfl rfl) rfl ?_; refine Pool.fa 1 11 rfl rfl rfl rfl rfl rfl rfl rfl rfl ?_; refine Pool.ld 0 12 rfl rfl rfl rfl rfl rfl rfl rfl rfl rfl rfl ?_; refine Pool.ln 13 rfl rfl rfl rfl rfl rfl rfl rfl rfl rfl ?_
  refine Pool.lo 8 (Post := fun v H' => ∃ r cap l, n ≤ cap ∧ l.length = cap ∧ v = .slice (some ⟨r, 0, none⟩) n cap ∧ H' = .own r (.cells (List.toArray l) 5 (0, 0)) :: .own b (.cells #[pa, .slice none 0 0] 77 (0, 0)) :: H) rfl rfl rfl rfl rfl rfl rfl rfl rfl rfl rfl (l_ext (g := 151) rfl rfl rfl (by
    rw [show (2 * ((0 : Nat) : Int) + (n : Int)) = ((n : Nat) : Int) by omega]
    exact k_makeNoZero rfl rfl (by omega) fun r cap l h1 h2 => ⟨r, cap, l, h1, h2, rfl, rfl⟩)) ?_
  rintro _ _ ⟨r, cap, l, hcap, hlen, rfl, rfl⟩
  refine ⟨(Sub.refl _).drop _, ?_⟩
  have hc0 : cap ≠ 0 := by omega
  refine Pool.q 14 rfl rfl rfl rfl rfl (q_sliceH (h := (0)) rfl rfl rfl (by omega)) rfl ?_; refine Pool.v 15 rfl rfl rfl rfl rfl rfl rfl trivial ?_; refine pool_done rfl rfl ?_; refine At.regionEnd (At.seq (At.region ?_)); (iterate 2 refine At.v rfl rfl rfl rfl rfl trivial ?_); refine At.q rfl rfl rfl rfl (q_nilP rfl rfl) ?_; refine At.fa 1 rfl rfl rfl rfl rfl rfl rfl ?_; refine At.ld 1 rfl rfl rfl rfl rfl rfl rfl rfl rfl ?_
  rw [show slA (some ⟨r, 0, none⟩) cap 0 1 = some ⟨r, 0, none⟩ from by unfold slA; rw [if_neg hc0]; rfl]
  obtain ⟨x, l, rfl⟩ : ∃ x l', l = x :: l' := by
    cases l with
    | nil => simp at hlen; omega
    | cons x l => exact ⟨x, l, rfl⟩
  refine At.l rfl rfl rfl rfl (l_copy 0 (t := 75) (vs := []) rfl rfl rfl rfl rfl (by omega) (.inl rfl) (by simp) rfl (by simp) rfl rfl) ?_
  rintro _ _ ⟨rfl, rfl⟩
  refine At.regionEnd (At.region ?_); (iterate 2 refine At.v rfl rfl rfl rfl rfl trivial ?_); refine At.q rfl rfl rfl rfl (q_nilP rfl rfl) ?_; refine At.fa 1 rfl rfl rfl rfl rfl rfl rfl ?_; refine At.st 1 rfl rfl rfl rfl rfl rfl rfl rfl rfl rfl rfl rfl ?_; refine At.regionEnd ?_
  refine At.weakH (H' := .own b (.cells #[pa, .slice (some ⟨r, 0, none⟩) 0 cap] 77 (0, 0)) :: .own r (.cells (List.toArray (x :: l)) 5 (0, 0)) :: H) ?_ (Sub.of_perm (List.Perm.swap ..))
  exact At.ret Tryz.func126 (.inl rfl) rfl .nil (wk (hc _ _ (⟨.slice (some ⟨r, 0, none⟩) 0 cap, [_], rfl, IsSl.own r cap 0 [] (x :: l) rfl (by simpa using hlen) (by omega), rfl⟩)))
end Go.Gx
end

section
namespace Go.Gx
open Go Go.Conc Go.Proofs
variable {main : Bool}

set_option maxRecDepth 100000 in
theorem s91 (L : Lg Tryz.prog main) (H : Facts) {b n : Nat} {pa : Value} (hp : pa = .pointer none ∨ pa = .pointer (some ⟨b, 0, none⟩)) (hn : 0 < n ∧ n ≤ 100000) : Spec L 91 #[.pointer (some ⟨b, 0, none⟩), .int .i64 (n : Int)] (.own b (.cells #[pa, .slice none 0 0] 77 (0, 0)) :: H)
    (fun u H' => ∃ v' sf', u = .tuple #[] ∧ Sl cB 5 v' [] sf' ∧ H' = .own b (.cells #[.pointer (some ⟨b, 0, none⟩), v'] 77 (0, 0)) :: (sf' ++ H)) := by
  refine Spec.enter Tryz.func91 rfl (by simp [Tryz.f91]) fun c cs hc => ?_
  have stop90 := trivial
  refine At.seq (At.region ?_); refine At.v rfl rfl rfl rfl rfl trivial ?_
  clear stop90
  refine At.cl rfl rfl rfl rfl rfl rfl rfl rfl (s90 L _ (v := .slice none 0 0) hp) ?_
  rintro _ _ ⟨rfl, rfl⟩
  have stop126 := trivial
  refine At.regionEnd (At.seq (At.seq (At.region ?_))); refine At.v rfl rfl rfl rfl rfl trivial ?_; refine At.cp rfl rfl rfl rfl rfl fun b7 h7 => ?_; refine At.regionEnd ?_
  obtain rfl : b7 = false := h7.symm.trans (by kernel_rfl)
  refine At.cond rfl ?_; refine At.skip (At.seq ?_); refine At.drawJ hmix [] rfl ?_; refine Pool.v 0 rfl rfl rfl rfl rfl rfl rfl trivial ?_; refine Pool.q 1 rfl rfl rfl rfl rfl (q_nilP rfl rfl) rfl ?_; refine Pool.fa 1 2 rfl rfl rfl rfl rfl rfl rfl rfl rfl ?_; refine Pool.ld 0 3 rfl rfl rfl rfl rfl rfl rfl rfl rfl rfl rfl ?_; refine Pool.q 4 rfl rfl rfl rfl rfl (q_cap rfl rfl rfl rfl) rfl ?_; refine Pool.v 5 rfl rfl rfl rfl rfl rfl rfl trivial ?_
  refine Pool.q 6 rfl rfl rfl rfl rfl (q_nilP rfl rfl) rfl ?_; refine Pool.fa 1 7 rfl rfl rfl rfl rfl rfl rfl rfl rfl ?_; refine Pool.ld 0 8 rfl rfl rfl rfl rfl rfl rfl rfl rfl rfl rfl ?_; refine Pool.ln 9 rfl rfl rfl rfl rfl rfl rfl rfl rfl rfl ?_; refine Pool.v 10 rfl rfl rfl rfl rfl rfl rfl (by omega) ?_; refine Pool.v 11 rfl rfl rfl rfl rfl rfl rfl trivial ?_; refine Pool.cp 12 rfl rfl rfl rfl rfl rfl rfl fun b21 h21 => ?_; refine pool_done rfl rfl ?_; refine At.regionEnd ?_
  obtain rfl : b21 = true := h21.symm.trans (decide_eq_true (by omega))
  refine At.cond rfl ?_; refine At.region ?_; (iterate 2 refine At.v rfl rfl rfl rfl rfl trivial ?_)
  clear stop126
  refine At.cl rfl rfl rfl rfl rfl rfl rfl rfl (s126 L _ (n := n) hn) ?_
  rintro _ _ ⟨v', sf', rfl, hs, rfl⟩
  refine At.regionEnd ?_
  exact At.ret Tryz.func91 (.inl rfl) rfl .nil (wk (hc _ _ (⟨v', sf', rfl, hs, rfl⟩)))
theorem depth_ne (p : Program) : p.depth ≠ 0 := by unfold Program.depth; omega
instance : BytI Tryz.prog 5 := ⟨by kernel_rfl, by kernel_rfl, depth_ne _⟩
instance : PtrI Tryz.prog 168 5 := ⟨by kernel_rfl⟩
set_option maxRecDepth 100000 in
theorem s38 (L : Lg Tryz.prog main) (H sf : Facts) {b : Nat} {pa v : Value} {xs : List UInt8} (hs : Sl cB 5 v xs sf) (hx : 0 < xs.length) (hl : xs.length ≤ 100000) : Spec L 38 #[.pointer (some ⟨b, 0, none⟩)] (.own b (.cells #[pa, v] 77 (0, 0)) :: (sf ++ H))
    (fun u H' => u = .string (S xs) ∧ H' = H) := by
  refine Spec.enter Tryz.func38 rfl (by simp [Tryz.f38]) fun c cs hc => ?_
  unfold Sl at hs
  generalize hvs : xs.flatMap cB = vs at hs
  generalize hm : xs.length = m at hs hx hl
  cases hs with
  | nil => omega
  | own r cap _ _ rest hl2 hc2 hm2 =>
    subst hvs
    have stopDraw := trivial
    refine At.seq (At.region ?_); refine At.v rfl rfl rfl rfl rfl trivial ?_; refine At.regionEnd (At.seq ?_)
    clear stopDraw
    refine At.drawJ hmix [1] rfl ?_; refine Pool.v 0 rfl rfl rfl rfl rfl rfl rfl trivial ?_; refine Pool.q 1 rfl rfl rfl rfl rfl (q_nilP rfl rfl) rfl ?_; refine Pool.fa 1 2 rfl rfl rfl rfl rfl rfl rfl rfl rfl ?_; refine Pool.ld 0 3 rfl rfl rfl rfl rfl rfl rfl rfl rfl rfl rfl ?_; refine Pool.v 5 rfl rfl rfl rfl rfl rfl rfl trivial ?_; refine Pool.q 6 rfl rfl rfl rfl rfl (q_nilP rfl rfl) rfl ?_; refine Pool.fa 1 7 rfl rfl rfl rfl rfl rfl rfl rfl rfl ?_
    refine Pool.ld 0 8 rfl rfl rfl rfl rfl rfl rfl rfl rfl rfl rfl ?_; refine Pool.ln 9 rfl rfl rfl rfl rfl rfl rfl rfl rfl rfl ?_; refine Pool.q 4 rfl rfl rfl rfl rfl (q_sliceData rfl rfl rfl (by omega)) rfl ?_; refine Pool.lo 10 rfl rfl rfl rfl rfl rfl rfl rfl rfl rfl rfl (l_unsafeString (t := 168) (w := xs) (rest := rest) rfl rfl rfl rfl rfl hm.symm hx (by omega) (setF_upd (i := 1) rfl rfl)) ?_
    rintro _ _ ⟨rfl, rfl⟩
    refine ⟨Sub.cons _ ((Sub.refl _).drop _), ?_⟩
    refine Pool.v 11 rfl rfl rfl rfl rfl rfl rfl trivial ?_; refine pool_done rfl rfl ?_; refine At.regionEnd ?_
    exact At.ret Tryz.func38 (.inr ⟨_, rfl⟩) rfl (.tmp rfl .nil) (wk (hc _ _ (⟨rfl, rfl⟩)))
end Go.Gx
end

section
namespace Go.Gx
open Go Go.Conc Go.Proofs
variable {main : Bool}

theorem joinB_snoc {b : UInt8} {f : List UInt8} : ∀ {fs : List (List UInt8)}, fs ≠ [] → joinB b (fs ++ [f]) = joinB b fs ++ [b] ++ f
  | [], h => absurd rfl h
  | [g], _ => by simp [joinB]
  | g :: g' :: fs, _ => by
    have ih := joinB_snoc (b := b) (f := f) (fs := g' :: fs) (by simp)
    show g ++ b :: joinB b ((g' :: fs) ++ [f]) = _
    rw [ih]
    simp [joinB]
theorem joinB_take {b : UInt8} {fs : List (List UInt8)} {j : Nat} {f : List UInt8} (h : fs[j + 1]? = some f) : joinB b (fs.take (j + 1 + 1)) = joinB b (fs.take (j + 1)) ++ [b] ++ f := by
  obtain ⟨h1, h2⟩ := List.getElem?_eq_some_iff.1 h
  rw [List.take_succ_eq_append_getElem h1, h2]
  exact joinB_snoc (by intro e; have := congrArg List.length e; rw [List.length_take, List.length_nil] at this; omega)
theorem joinB_small {b : UInt8} : ∀ {fs : List (List UInt8)}, (∀ f ∈ fs, f.length ≤ 50) → (joinB b fs).length ≤ 51 * fs.length
  | [], _ => by simp [joinB]
  | [f], h => by have := h f (by simp); simp only [joinB, List.length_cons, List.length_nil]; omega
  | f :: g :: fs, h => by
    have ih := joinB_small (b := b) (fs := g :: fs) fun x hx => h x (List.mem_cons_of_mem _ hx)
    have := h f (by simp)
    simp only [joinB, List.length_append, List.length_cons] at ih ⊢
    omega
theorem quo_big {k : Int} (h1 : 1 ≤ k) (h2 : k ≤ 9) : 2 ≤ Int.tdiv 9223372036854775807 k ∧ Int.tdiv 9223372036854775807 k ≤ 9223372036854775807 := by
  rcases (show k = 1 ∨ k = 2 ∨ k = 3 ∨ k = 4 ∨ k = 5 ∨ k = 6 ∨ k = 7 ∨ k = 8 ∨ k = 9 by omega) with rfl | rfl | rfl | rfl | rfl | rfl | rfl | rfl | rfl <;> decide
set_option maxRecDepth 100000 in
theorem s35 (L : Lg Tryz.prog main) (H : Facts) {a : Option Addr} {n cap : Nat} {fs : List (List UInt8)} (hn : n = fs.length) (hr : Rd H a (fs.flatMap cS)) (h2 : 2 ≤ fs.length) (h10 : fs.length ≤ 10) (hcap : n ≤ cap) (hf : ∀ f ∈ fs, 0 < f.length ∧ f.length ≤ 50) :
    Pure L 35 #[.slice a n cap, .string (S [32])] H (.string (S (joinB 32 fs))) := by
  refine Spec.enter Tryz.func35 rfl (by simp [Tryz.f35]) fun c cs hc => ?_
  subst hn
  obtain ⟨f0, hf0⟩ : ∃ f, fs[0]? = some f := ⟨_, List.getElem?_eq_getElem (show 0 < fs.length by omega)⟩
  obtain ⟨b, off, rfl, hc0⟩ := hr.el hf0
  have hf0' := hf f0 (List.mem_of_getElem? hf0)
  obtain ⟨hq1, hq2⟩ := quo_big (k := (fs.length : Int) - 1) (by omega) (by omega)
  have hl1 : ([32] : List UInt8).length = 1 := rfl
  refine At.seq (At.region ?_); refine At.v rfl rfl rfl rfl rfl trivial ?_; refine At.regionEnd (At.seq (At.seq (At.region ?_))); refine At.v rfl rfl rfl rfl rfl trivial ?_; refine At.ln rfl rfl rfl rfl rfl rfl rfl rfl ?_; refine At.regionEnd ?_; refine At.block ?_; refine At.seq (At.region ?_); refine At.cp rfl rfl rfl rfl rfl fun b14 h14 => ?_; refine At.v rfl rfl rfl rfl rfl trivial ?_; refine At.regionEnd ?_
  obtain rfl : b14 = false := h14.symm.trans (decide_eq_false (by omega))
  refine At.cond rfl ?_; refine At.seq (At.region ?_); refine At.cp rfl rfl rfl rfl rfl fun b16 h16 => ?_; refine At.v rfl rfl rfl rfl rfl trivial ?_; refine At.regionEnd ?_
  obtain rfl : b16 = false := h16.symm.trans (decide_eq_false (by omega))
  refine At.cond rfl ?_; refine At.skip ?_; refine At.inBlock ?_; refine At.seq (At.region ?_); refine At.v rfl rfl rfl rfl rfl trivial ?_; refine At.regionEnd (At.seq (At.seq (At.region ?_))); refine At.v rfl rfl rfl rfl rfl trivial ?_; refine At.q rfl rfl rfl rfl (q_lenSS rfl rfl rfl rfl) ?_; refine At.cp rfl rfl rfl rfl rfl fun b22 h22 => ?_; refine At.regionEnd ?_
  obtain rfl : b22 = true := h22.symm.trans (by kernel_rfl)
  refine At.cond rfl ?_; refine At.seq (At.seq (At.region ?_)); refine At.v rfl rfl rfl rfl rfl trivial ?_; refine At.q rfl rfl rfl rfl (q_lenSS rfl rfl rfl rfl) ?_; refine At.v rfl rfl rfl rfl rfl trivial ?_; refine At.ln rfl rfl rfl rfl rfl rfl rfl rfl ?_; (iterate 2 refine At.v rfl rfl rfl rfl rfl (by omega) ?_); refine At.cp rfl rfl rfl rfl rfl fun b29 h29 => ?_; refine At.regionEnd ?_
  obtain rfl : b29 = false := h29.symm.trans (decide_eq_false (by omega))
  refine At.cond rfl ?_; refine At.skip (At.region ?_); (iterate 2 refine At.v rfl rfl rfl rfl rfl trivial ?_); refine At.q rfl rfl rfl rfl (q_lenSS rfl rfl rfl rfl) ?_; refine At.v rfl rfl rfl rfl rfl trivial ?_; refine At.ln rfl rfl rfl rfl rfl rfl rfl rfl ?_; refine At.v rfl rfl rfl rfl rfl (by omega) ?_; refine At.q rfl rfl rfl rfl (q_mulW rfl rfl rfl) ?_
  rw [show wr ((([32] : List UInt8).length : Int) * ((fs.length : Int) - 1)) = ((fs.length - 1 : Nat) : Int) from by
    rw [hl1, show ((1 : Nat) : Int) * ((fs.length : Int) - 1) = ((fs.length - 1 : Nat) : Int) by omega]
    exact wrap_in (by omega)]
  refine At.v rfl rfl rfl rfl rfl (by omega) ?_; refine At.v rfl rfl rfl rfl rfl trivial ?_; refine At.regionEnd (At.seq (At.seq (At.region ?_))); refine At.v rfl rfl rfl rfl rfl trivial ?_; refine At.ln rfl rfl rfl rfl rfl rfl rfl rfl ?_; refine At.v rfl rfl rfl rfl rfl trivial ?_; refine At.regionEnd ?_; refine At.block ?_
  rw [show (0 : Int) + ((fs.length - 1 : Nat) : Int) = ((fs.length - 1 : Nat) : Int) by omega]
  refine At.lpk (X := { x : Nat × Nat // x.1 ≤ fs.length ∧ x.2 ≤ 10 + 50 * x.1 ∧ 1 ≤ x.2 }) [0, 1, 4, 39, 40] (fun x => [(41, .int .i64 (x.1.1 : Int)), (5, .int .i64 (x.1.2 : Int))]) (fun _ => H) (fun x => fs.length - x.1.1) (⟨(0, fs.length - 1), by omega, by simp only; omega, by simp only; omega⟩) rfl ?_ (by repeat (first | exact trivial | refine ⟨rfl, ?_⟩)) sb
  rintro ⟨⟨j, m⟩, hj, hm, hm1⟩ again
  simp only at again hj hm hm1 ⊢
  rcases Nat.lt_or_ge j fs.length with hlt | hge
  · obtain ⟨f, hfj⟩ : ∃ f, fs[j]? = some f := ⟨_, List.getElem?_eq_getElem hlt⟩
    have hff := hf f (List.mem_of_getElem? hfj)
    obtain ⟨b', off', e, hcj⟩ := hr.el hfj
    cases e
    refine At.seq (At.region ?_); refine At.cp rfl rfl rfl rfl rfl fun b42 h42 => ?_; refine At.regionEnd (At.seq ?_)
    obtain rfl : b42 = true := h42.symm.trans (decide_eq_true (by omega))
    refine At.cond rfl ?_; refine At.skip (At.seq ?_); refine At.block ?_; refine At.seq (At.region ?_); refine At.q rfl rfl rfl rfl (q_ia rfl rfl rfl (by assumption)) ?_; refine At.ldc rfl rfl rfl rfl rfl rfl hcj.a rfl rfl ?_; refine At.v rfl rfl rfl rfl rfl trivial ?_; refine At.regionEnd (At.seq (At.seq (At.region ?_))); refine At.v rfl rfl rfl rfl rfl trivial ?_; refine At.q rfl rfl rfl rfl (q_lenSS rfl rfl rfl rfl) ?_; refine At.v rfl rfl rfl rfl rfl trivial ?_
    refine At.v rfl rfl rfl rfl rfl (by omega) ?_; refine At.cp rfl rfl rfl rfl rfl fun b49 h49 => ?_; refine At.regionEnd ?_
    obtain rfl : b49 = false := h49.symm.trans (decide_eq_false (by omega))
    refine At.cond rfl ?_; refine At.skip (At.region ?_); (iterate 2 refine At.v rfl rfl rfl rfl rfl trivial ?_); refine At.q rfl rfl rfl rfl (q_lenSS rfl rfl rfl rfl) ?_; refine At.v rfl rfl rfl rfl rfl (by omega) ?_; refine At.v rfl rfl rfl rfl rfl trivial ?_; refine At.regionEnd ?_; refine At.inBlock ?_; refine At.region ?_; refine At.v rfl rfl rfl rfl rfl (by omega) ?_; refine At.v rfl rfl rfl rfl rfl trivial ?_; refine At.regionEnd ?_
    refine At.tA ((again ⟨(j + 1, m + f.length), by omega, by simp only; omega, by simp only; omega⟩ (by simp only; omega)))
  · have stop91 := trivial
    refine At.seq (At.region ?_); refine At.cp rfl rfl rfl rfl rfl fun b42 h42 => ?_; refine At.regionEnd (At.seq ?_)
    obtain rfl : b42 = false := h42.symm.trans (decide_eq_false (by omega))
    refine At.cond rfl ?_; refine At.exit rfl ?_; refine At.seq (At.region ?_); refine At.al rfl rfl rfl rfl rfl fun r8 => ?_; refine At.regionEnd (At.seq (At.region ?_)); refine At.v rfl rfl rfl rfl rfl trivial ?_
    clear stop91
    refine At.cl rfl rfl rfl rfl rfl rfl rfl rfl (s91 L _ (n := m) (.inl rfl) (by omega)) ?_
    rintro _ _ ⟨v1, sf1, rfl, hs1, rfl⟩
    have stop34 := trivial
    refine At.regionEnd (At.seq (At.region ?_)); refine At.v rfl rfl rfl rfl rfl trivial ?_; refine At.q rfl rfl rfl rfl (q_ia rfl rfl rfl (by dsimp only; omega)) ?_; refine At.ldc rfl rfl rfl rfl rfl rfl hc0.a rfl rfl ?_
    clear stop34
    refine At.cl rfl rfl rfl rfl rfl rfl rfl rfl (s34 L _ sf1 (w := f0) (.inr rfl) hs1 (by omega) (by simp; omega)) ?_
    rintro _ _ ⟨v2, sf2, rfl, hs2, rfl⟩
    refine At.regionEnd (At.seq (At.seq (At.region ?_))); refine At.v rfl rfl rfl rfl rfl trivial ?_; refine At.q rfl rfl rfl rfl (q_sliceL (l := 1) rfl rfl rfl (by omega)) ?_; refine At.ln rfl rfl rfl rfl rfl rfl rfl rfl ?_; refine At.v rfl rfl rfl rfl rfl trivial ?_; refine At.regionEnd ?_; refine At.block ?_
    rw [show slA (some ⟨b, off, none⟩) cap 1 1 = some ⟨b, off + 1 * 1, none⟩ from by unfold slA; rw [if_neg (by omega)]; rfl]
    have hs2' : Sl cB 5 v2 (joinB 32 (fs.take (0 + 1))) sf2 := by
      have e : fs.take (0 + 1) = [f0] := by
        obtain ⟨h1, h2⟩ := List.getElem?_eq_some_iff.1 hf0
        rw [List.take_succ_eq_append_getElem h1, h2]; rfl
      rw [e]; exact hs2
    refine At.lpk (X := { x : Nat × Value × Facts // x.1 + 1 ≤ fs.length ∧ Sl cB 5 x.2.1 (joinB 32 (fs.take (x.1 + 1))) x.2.2 }) [1, 4, 8, 63, 64] (fun x => [(65, .int .i64 (x.1.1 : Int))]) (fun x => .own r8 (.cells #[.pointer (some ⟨r8, 0, none⟩), x.1.2.1] 77 (0, 0)) :: (x.1.2.2 ++ H)) (fun x => fs.length - x.1.1) (⟨(0, v2, sf2), by omega, hs2'⟩) rfl ?_ (by repeat (first | exact trivial | refine ⟨rfl, ?_⟩)) sb
    rintro ⟨⟨j2, v3, sf3⟩, hj2, hs3⟩ again2
    simp only at again2 hj2 hs3 ⊢
    have hsm : (joinB 32 (fs.take (j2 + 1))).length ≤ 51 * 10 := by
      have := joinB_small (b := 32) (fs := fs.take (j2 + 1)) fun f hm => (hf f (List.mem_of_mem_take hm)).2
      rw [List.length_take] at this
      omega
    rcases Nat.lt_or_ge (j2 + 1) fs.length with hlt | hge2
    · obtain ⟨f, hfj⟩ : ∃ f, fs[j2 + 1]? = some f := ⟨_, List.getElem?_eq_getElem hlt⟩
      have hff := hf f (List.mem_of_getElem? hfj)
      obtain ⟨b', off', e, hcj⟩ := hr.el hfj
      cases e
      have hcj' : Cells H b (off + 1 * 1 + j2 * 1) (cS f) := by
        rwa [show off + (j2 + 1) * 1 = off + 1 * 1 + j2 * 1 by omega] at hcj
      have hjt := joinB_take (b := 32) hfj
      have stop34 := trivial
      refine At.seq (At.region ?_); refine At.cp rfl rfl rfl rfl rfl fun b66 h66 => ?_; refine At.regionEnd (At.seq ?_)
      obtain rfl : b66 = true := h66.symm.trans (decide_eq_true (by omega))
      refine At.cond rfl ?_; refine At.skip (At.seq ?_); refine At.block ?_; refine At.seq (At.region ?_); refine At.q rfl rfl rfl rfl (q_ia rfl rfl rfl (by omega)) ?_; refine At.ldc rfl rfl rfl rfl rfl rfl hcj'.a rfl rfl ?_; refine At.v rfl rfl rfl rfl rfl trivial ?_; refine At.regionEnd (At.seq (At.region ?_)); refine At.v rfl rfl rfl rfl rfl trivial ?_
      clear stop34
      refine At.cl rfl rfl rfl rfl rfl rfl rfl rfl (s34 L _ sf3 (w := [32]) (.inr rfl) hs3 (by simp) (by simp only [List.length_cons, List.length_nil]; omega)) ?_
      rintro _ _ ⟨v4, sf4, rfl, hs4, rfl⟩
      have stop34 := trivial
      refine At.regionEnd (At.region ?_); refine At.v rfl rfl rfl rfl rfl trivial ?_
      clear stop34
      refine At.cl rfl rfl rfl rfl rfl rfl rfl rfl (s34 L _ sf4 (w := f) (.inr rfl) hs4 (by omega) (by simp only [List.length_append, List.length_cons, List.length_nil]; omega)) ?_
      rintro _ _ ⟨v5, sf5, rfl, hs5, rfl⟩
      refine At.regionEnd ?_; refine At.inBlock ?_; refine At.region ?_; refine At.v rfl rfl rfl rfl rfl (by omega) ?_; refine At.v rfl rfl rfl rfl rfl trivial ?_; refine At.regionEnd ?_
      refine At.tA ((again2 ⟨(j2 + 1, v5, sf5), by simp only; omega, by simp only; rw [hjt]; exact hs5⟩ (by simp only; omega)))
    · have stop38 := trivial
      refine At.seq (At.region ?_); refine At.cp rfl rfl rfl rfl rfl fun b66 h66 => ?_; refine At.regionEnd (At.seq ?_)
      obtain rfl : b66 = false := h66.symm.trans (decide_eq_false (by omega))
      refine At.cond rfl ?_; refine At.exit rfl ?_; refine At.seq (At.region ?_)
      clear stop38
      rw [List.take_of_length_le hge2] at hs3 hsm
      refine At.cl rfl rfl rfl rfl rfl rfl rfl rfl (s38 L _ sf3 hs3 (by have := @joinB_len 32 fs; omega) (by omega)) ?_
      rintro _ _ ⟨rfl, rfl⟩
      refine At.v rfl rfl rfl rfl rfl trivial ?_; refine At.regionEnd ?_
      exact At.ret Tryz.func35 (.inr ⟨_, rfl⟩) rfl (.tmp rfl .nil) (wk (hc _ _ (⟨by rfl, rfl⟩)))
end Go.Gx
end

section
namespace Go.Gx
open Go Go.Conc Go.Proofs
variable {main : Bool}

def lineB (k : Nat) (fs : List (List UInt8)) : List UInt8 := joinB 32 (wordL k :: fs) ++ [10]
theorem lineB_eq {k : Nat} {fs : List (List UInt8)} (h : fs ≠ []) : wordL k ++ [32] ++ joinB 32 fs ++ [10] = lineB k fs := by
  cases fs with
  | nil => exact absurd rfl h
  | cons f fs => simp [lineB, joinB]
theorem wordL_len (k : Nat) : 0 < (wordL k).length ∧ (wordL k).length ≤ 6 := by
  unfold wordL
  split <;> decide
set_option maxRecDepth 100000 in
theorem s33 (L : Lg Tryz.prog main) (H sf : Facts) (ht : TabT H) {b k n cap : Nat} {pa v : Value} {xs : List UInt8} {a : Option Addr} {fs : List (List UInt8)} (hk : k < 3) (hp : pa = .pointer none ∨ pa = .pointer (some ⟨b, 0, none⟩)) (hs : Sl cB 5 v xs sf) (hn : n = fs.length) (hr : Rd H a (fs.flatMap cS)) (h2 : 2 ≤ fs.length) (h10 : fs.length ≤ 10) (hcap : n ≤ cap) (hf : ∀ f ∈ fs, 0 < f.length ∧ f.length ≤ 50) (hx : xs.length ≤ 50000) :
    Spec L 33 #[.int .i64 (k : Int), .slice a n cap, .pointer (some ⟨b, 0, none⟩)] (.own b (.cells #[pa, v] 77 (0, 0)) :: (sf ++ H)) (fun u H' => ∃ v' sf', u = .tuple #[] ∧ Sl cB 5 v' (xs ++ lineB k fs) sf' ∧ H' = .own b (.cells #[.pointer (some ⟨b, 0, none⟩), v'] 77 (0, 0)) :: (sf' ++ H)) := by
  refine Spec.enter Tryz.func33 rfl (by simp [Tryz.f33]) fun c cs hc => ?_
  have hjl := joinB_small (b := 32) (fs := fs) fun f hm => (hf f hm).2
  have hjl0 := @joinB_len 32 fs
  have hwl := wordL_len k
  have htw := ht.w
  have hck : Cells H 0 (0 + k * 1) [.string (S (wordL k))] := by
    rcases (show k = 0 ∨ k = 1 ∨ k = 2 by omega) with rfl | rfl | rfl
    · exact htw.s 0 1 rfl
    · exact htw.s 1 1 rfl
    · exact htw.s 2 1 rfl
  clear htw
  skip
  refine At.draw hmix (H) sb ?_
  have stop35 := trivial
  refine Pool.v 0 rfl rfl rfl rfl rfl rfl rfl trivial ?_; refine Pool.q 1 rfl rfl rfl rfl rfl (q_iaA rfl rfl rfl (by assumption)) rfl ?_; refine Pool.ldc 2 rfl rfl rfl rfl rfl rfl rfl hck.a rfl rfl rfl ?_; refine Pool.q 3 rfl rfl rfl rfl rfl (q_cat rfl rfl rfl (by simp; omega)) rfl ?_; refine Pool.v 4 rfl rfl rfl rfl rfl rfl rfl trivial ?_
  clear stop35
  refine Pool.cq 5 rfl rfl rfl rfl rfl rfl rfl rfl rfl (fun H_ hs_ => s35 L H_ hn (hr.more hs_) h2 h10 hcap hf) ?_
  have stop34 := trivial
  refine Pool.q 6 rfl rfl rfl rfl rfl (q_cat rfl rfl rfl (by simp; omega)) rfl ?_; refine Pool.q 7 rfl rfl rfl rfl rfl (q_cat rfl rfl rfl (by simp; omega)) rfl ?_; refine pool_lastI 8 rfl rfl rfl rfl rfl ?_
  clear stop34
  have hfe : fs ≠ [] := fun e => by rw [e] at h2; simp at h2
  rw [lineB_eq hfe]
  have hll : 0 < (lineB k fs).length ∧ (lineB k fs).length ≤ 1000 := by
    rw [← lineB_eq hfe]
    simp only [List.length_append, List.length_cons, List.length_nil]; omega
  refine At.cl rfl rfl rfl rfl rfl rfl rfl rfl (s34 L _ sf (w := lineB k fs) hp hs hll.1 (by omega)) ?_
  rintro _ _ ⟨v', sf', rfl, hs', rfl⟩
  refine At.regionEnd ?_
  exact At.ret Tryz.func33 (.inl rfl) rfl .nil (wk (hc _ _ (⟨v', sf', rfl, hs', rfl⟩)))
end Go.Gx
end

section
namespace Go.Gx
open Go Go.Conc Go.Proofs
variable {main : Bool}

def pieces : LI → List (List UInt8)
  | .c n lo hi => [sayI n, bandL2 lo hi]
  | .p x => [sayI x.1, sayI x.2]
  | .m x => [sayI x.1.1, sayI x.1.2, sayI x.2]
def kindN : LI → Nat
  | .c _ _ _ => 0
  | .p _ => 1
  | .m _ => 2
def lineI (i : LI) : List UInt8 := lineB (kindN i) (pieces i)
def itemsB (B : Bk) : List LI := .c B.size B.lo B.hi :: (B.prof.map .p ++ B.marks.map .m)
def textB (B : Bk) : List UInt8 := (itemsB B).flatMap lineI
theorem sayI_pos {i : Int} : 0 < (sayI i).length := by
  unfold sayI digs
  split <;> split <;> simp
theorem bandL2_len {lo hi : Int} : 0 < (bandL2 lo hi).length ∧ (bandL2 lo hi).length ≤ 7 := by
  have h1 := @sayI_len lo
  have h2 := @sayI_len hi
  have h3 := @sayI_pos lo
  unfold bandL2
  split
  · omega
  · simp only [List.length_append, List.length_cons, List.length_nil]; omega
theorem pieces_ok {i : LI} : ∀ f ∈ pieces i, 0 < f.length ∧ f.length ≤ 50 := by
  intro f hf
  cases i with
  | c n lo hi =>
    simp only [pieces, List.mem_cons, List.not_mem_nil, or_false] at hf
    rcases hf with rfl | rfl
    · exact ⟨sayI_pos, by have := @sayI_len n; omega⟩
    · exact ⟨bandL2_len.1, by have := (@bandL2_len lo hi).2; omega⟩
  | p x =>
    simp only [pieces, List.mem_cons, List.not_mem_nil, or_false] at hf
    rcases hf with rfl | rfl
    · exact ⟨sayI_pos, by have := @sayI_len x.1; omega⟩
    · exact ⟨sayI_pos, by have := @sayI_len x.2; omega⟩
  | m x =>
    simp only [pieces, List.mem_cons, List.not_mem_nil, or_false] at hf
    rcases hf with rfl | rfl | rfl
    · exact ⟨sayI_pos, by have := @sayI_len x.1.1; omega⟩
    · exact ⟨sayI_pos, by have := @sayI_len x.1.2; omega⟩
    · exact ⟨sayI_pos, by have := @sayI_len x.2; omega⟩
theorem lineI_len {i : LI} : 0 < (lineI i).length ∧ (lineI i).length ≤ 400 := by
  have h1 := wordL_len (kindN i)
  have h2 : (joinB 32 (wordL (kindN i) :: pieces i)).length ≤ 51 * (wordL (kindN i) :: pieces i).length := joinB_small fun f hf => by
    rcases List.mem_cons.1 hf with rfl | hf
    · omega
    · exact (pieces_ok f hf).2
  have h3 : (pieces i).length ≤ 3 := by cases i <;> simp [pieces]
  unfold lineI lineB
  simp only [List.length_append, List.length_cons, List.length_nil] at h2 ⊢
  omega
theorem flatL_len {α : Type} {f : α → List UInt8} (h : ∀ x, (f x).length ≤ 400) : ∀ l : List α, (l.flatMap f).length ≤ 400 * l.length
  | [] => by simp
  | x :: l => by
    have := flatL_len h l
    have := h x
    simp only [List.flatMap_cons, List.length_append, List.length_cons]; omega
theorem flatL_take {α : Type} {f : α → List UInt8} {l : List α} {j : Nat} {x : α} (h : l[j]? = some x) : (l.take (j + 1)).flatMap f = (l.take j).flatMap f ++ f x := by
  obtain ⟨h1, h2⟩ := List.getElem?_eq_some_iff.1 h
  rw [List.take_succ_eq_append_getElem h1, h2, List.flatMap_append, List.flatMap_singleton]
section
variable {P : Program} {L : Lg P main} {f : FuncId} {ro : Option Nat} {ds : Dz} {cs : List Frame} {n : Nat} {E : Env} {todo : List Item}
theorem At.bld1 {a g : Fact} {sf X : Facts} (h : At L f ro ds cs n E (g :: (sf ++ (a :: X))) todo) : At L f ro ds cs n E (a :: g :: (sf ++ X)) todo :=
  h.weakH (Sub.of_perm (((List.perm_append_comm_assoc sf [a] X).cons g).trans (List.perm_middle (l₁ := [a]) (a := g) (l₂ := sf ++ X)).symm))
theorem At.bld3 {a b c g : Fact} {sf X : Facts} (h : At L f ro ds cs n E (g :: (sf ++ (a :: b :: c :: X))) todo) : At L f ro ds cs n E (a :: b :: c :: g :: (sf ++ X)) todo :=
  h.weakH (Sub.of_perm (((List.perm_append_comm_assoc sf [a, b, c] X).cons g).trans (List.perm_middle (l₁ := [a, b, c]) (a := g) (l₂ := sf ++ X)).symm))
theorem At.fwd1 {a c g : Fact} {sf X : Facts} (h : At L f ro ds cs n E (c :: g :: (sf ++ X)) todo) : At L f ro ds cs n E (g :: (sf ++ (a :: c :: X))) todo :=
  h.weakH (((Sub.of_perm ((List.perm_middle (l₁ := [c]) (a := g) (l₂ := sf ++ X)).trans ((List.perm_append_comm_assoc sf [c] X).symm.cons g)))).trans ((((Sub.refl _).drop a).appL sf).cons g))
theorem At.fwd2 {a b c g : Fact} {sf X : Facts} (h : At L f ro ds cs n E (c :: g :: (sf ++ X)) todo) : At L f ro ds cs n E (g :: (sf ++ (a :: b :: c :: X))) todo :=
  h.weakH (((Sub.of_perm ((List.perm_middle (l₁ := [c]) (a := g) (l₂ := sf ++ X)).trans ((List.perm_append_comm_assoc sf [c] X).symm.cons g)))).trans (((((Sub.refl _).drop b).drop a).appL sf).cons g))
end
theorem markBar_bd {m : R2 × Int} (h : markBar m = 0) : (-20 ≤ m.1.1 ∧ m.1.1 ≤ 20 ∧ 1 ≤ m.1.2 ∧ m.1.2 ≤ 20) ∧ 0 ≤ m.2 ∧ m.2 ≤ 90 := by
  unfold markBar at h
  split at h
  · next h' => exact absurd h h'
  · next h' =>
    have h1 := slOk_of_bar (s := m.1) (by simpa using h')
    refine ⟨h1, ?_⟩
    unfold hBar at h
    split at h
    · next hh => exact hh
    · cases h
set_option maxRecDepth 100000 in
theorem s7 (L : Lg Tryz.prog main) (H : Facts) (hg : Cells H 1 0 chkC) (ht : TabT H) (hten : Cells H 4 0 tenC) {B : Bk} {A : BkA} (hB : BkR H B A) (hz : bookBar B = 0) : Pure L 7 #[bkV B A] H (.tuple #[.string (S (textB B)), .int .i64 0]) := by
  refine Spec.enter Tryz.func7 rfl (by simp [Tryz.f7]) fun c cs hc => ?_
  obtain ⟨hp2, hp5, hpp, hs1, hs30, hlo, hlh, hhi, hd, hm4, hmm⟩ := bounds_of_bar hz
  have stop32 := trivial
  refine At.seq (At.region ?_); refine At.bx rfl rfl rfl rfl rfl rfl rfl fun r1 => ?_; (iterate 2 refine At.v rfl rfl rfl rfl rfl trivial ?_); refine At.regionEnd (At.seq (At.seq (At.region ?_))); refine At.ld 0 rfl rfl rfl rfl rfl rfl rfl rfl rfl ?_
  clear stop32
  refine At.cq rfl rfl rfl rfl rfl rfl rfl rfl (s32 L _ (B := B) (A := A) hg.a hB.a (by omega) (by omega)) ?_
  rw [hz]
  have stopDraw := trivial
  refine At.v rfl rfl rfl rfl rfl trivial ?_; refine At.regionEnd (At.seq (At.region ?_)); refine At.v rfl rfl rfl rfl rfl trivial ?_; refine At.cp rfl rfl rfl rfl rfl fun b15 h15 => ?_; refine At.regionEnd ?_
  obtain rfl : b15 = false := h15.symm.trans (by kernel_rfl)
  refine At.cond rfl ?_; refine At.skip (At.seq (At.region ?_)); refine At.al rfl rfl rfl rfl rfl fun r5 => ?_; refine At.regionEnd (At.seq (At.region ?_)); (iterate 2 refine At.v rfl rfl rfl rfl rfl trivial ?_); refine At.regionEnd (At.seq (At.region ?_)); refine At.v rfl rfl rfl rfl rfl trivial ?_; refine At.regionEnd (At.seq ?_)
  clear stopDraw
  refine At.drawJ hmix [0] rfl ?_
  have stop36 := trivial
  have stop37 := trivial
  refine Pool.v 0 rfl rfl rfl rfl rfl rfl rfl trivial ?_; refine Pool.v 1 rfl rfl rfl rfl rfl rfl rfl trivial ?_; refine Pool.fa 1 2 rfl rfl rfl rfl rfl rfl rfl rfl rfl ?_; refine Pool.ld 0 3 rfl rfl rfl rfl rfl rfl rfl rfl rfl rfl rfl ?_; refine Pool.fa 2 5 rfl rfl rfl rfl rfl rfl rfl rfl rfl ?_; refine Pool.ld 0 6 rfl rfl rfl rfl rfl rfl rfl rfl rfl rfl rfl ?_
  clear stop36
  refine Pool.cq 4 rfl rfl rfl rfl rfl rfl rfl rfl rfl (fun H_ hs_ => s36 L H_ hten.a (by omega) (by omega)) ?_
  clear stop37
  refine Pool.cq 7 rfl rfl rfl rfl rfl rfl rfl rfl rfl (fun H_ hs_ => s37 L H_ hten.a (by omega) (by omega) (by omega) (by omega)) ?_
  have stop33 := trivial
  refine Pool.bs 8 rfl rfl rfl rfl rfl rfl rfl rfl rfl rfl rfl rfl rfl rfl rfl sb fun r26 => ?_; refine pool_lastI 9 rfl rfl rfl rfl rfl ?_
  clear stop33
  refine At.bld1 (sf := []) ?_; refine At.cl rfl rfl rfl rfl rfl rfl rfl rfl (s33 L _ [] (k := 0) (fs := [sayI B.size, bandL2 B.lo B.hi]) ht.a (by omega) (.inl rfl) Sl.nil rfl (rd_cells (cells_all (List.mem_cons_self ..))) (by simp) (by simp) (by simp) (pieces_ok (i := .c B.size B.lo B.hi)) (by simp)) ?_
  rintro _ _ ⟨v1, sf1, rfl, hv1, rfl⟩
  refine At.fwd1 ?_; refine At.regionEnd (At.seq (At.seq (At.region ?_))); refine At.fa 0 rfl rfl rfl rfl rfl rfl rfl ?_; refine At.ld 0 rfl rfl rfl rfl rfl rfl rfl rfl rfl ?_; refine At.ln rfl rfl rfl rfl rfl rfl rfl rfl ?_; refine At.v rfl rfl rfl rfl rfl trivial ?_; refine At.regionEnd ?_; refine At.block ?_
  have hv1' : Sl cB 5 v1 (lineI (.c B.size B.lo B.hi) ++ (B.prof.take 0).flatMap fun p => lineI (.p p)) sf1 := by
    rw [List.take_zero, List.flatMap_nil, List.append_nil]
    exact hv1
  refine At.lpk (X := { x : Nat × Value × Facts // x.1 ≤ B.prof.length ∧ Sl cB 5 x.2.1 (lineI (.c B.size B.lo B.hi) ++ (B.prof.take x.1).flatMap fun p => lineI (.p p)) x.2.2 }) [1, 2, 3, 5, 6, 7, 29, 30] (fun x => [(31, .int .i64 (x.1.1 : Int))]) (fun x => .own r1 (.cells (List.toArray (bkC B A)) 27 (0, 0)) :: .own r5 (.cells #[.pointer (some ⟨r5, 0, none⟩), x.1.2.1] 77 (0, 0)) :: (x.1.2.2 ++ H)) (fun x => B.prof.length - x.1.1) (⟨(0, v1, sf1), Nat.zero_le _, hv1'⟩) rfl ?_ (by repeat (first | exact trivial | refine ⟨rfl, ?_⟩)) sb
  rintro ⟨⟨j, v2, sf2⟩, hj, hv2⟩ again
  simp only at again hj hv2 ⊢
  rcases Nat.lt_or_ge j B.prof.length with hlt | hge
  · obtain ⟨p, hpj⟩ : ∃ p, B.prof[j]? = some p := ⟨_, List.getElem?_eq_getElem hlt⟩
    have hpo := hpp p (List.mem_of_getElem? hpj)
    unfold PtOk at hpo
    obtain ⟨b', off', epa, hcj⟩ := hB.p.el hpj
    have hln := (@lineI_len (.c B.size B.lo B.hi)).2
    have htl := flatL_len (f := fun p => lineI (.p p)) (fun x => (@lineI_len (.p x)).2) (B.prof.take j)
    rw [List.length_take] at htl
    have stopDraw := trivial
    refine At.seq (At.region ?_); refine At.cp rfl rfl rfl rfl rfl fun b32 h32 => ?_; refine At.regionEnd (At.seq ?_)
    obtain rfl : b32 = true := h32.symm.trans (decide_eq_true (by omega))
    refine At.cond rfl ?_; refine At.skip (At.seq ?_); refine At.block ?_; refine At.seq (At.region ?_); refine At.q rfl rfl rfl rfl (q_iaQ (k := (j)) rfl rfl rfl (by assumption) rfl (by assumption)) ?_; refine At.ldc rfl rfl rfl rfl rfl rfl hcj.a rfl rfl ?_; refine At.al rfl rfl rfl rfl rfl fun r9 => ?_; refine At.st 0 rfl rfl rfl rfl rfl rfl rfl rfl rfl rfl rfl rfl ?_; refine At.regionEnd ?_
    clear stopDraw
    refine At.draw hmix ((.own r9 (.cells (List.toArray (c2 p)) 89 (0, 0)) :: H)) sb ?_
    have stop36 := trivial
    refine Pool.v 0 rfl rfl rfl rfl rfl rfl rfl trivial ?_; refine Pool.v 1 rfl rfl rfl rfl rfl rfl rfl trivial ?_; refine Pool.fa 0 2 rfl rfl rfl rfl rfl rfl rfl rfl rfl ?_; refine Pool.ld 0 3 rfl rfl rfl rfl rfl rfl rfl rfl rfl rfl rfl ?_; refine Pool.v 5 rfl rfl rfl rfl rfl rfl rfl trivial ?_; refine Pool.fa 1 6 rfl rfl rfl rfl rfl rfl rfl rfl rfl ?_; refine Pool.ld 0 7 rfl rfl rfl rfl rfl rfl rfl rfl rfl rfl rfl ?_
    clear stop36
    refine Pool.cq 4 rfl rfl rfl rfl rfl rfl rfl rfl rfl (fun H_ hs_ => s36 L H_ hten.a (by omega) (by omega)) ?_
    have stop36 := trivial
    skip
    clear stop36
    refine Pool.cq 8 rfl rfl rfl rfl rfl rfl rfl rfl rfl (fun H_ hs_ => s36 L H_ hten.a (by omega) (by omega)) ?_
    have stop33 := trivial
    refine Pool.bs 9 rfl rfl rfl rfl rfl rfl rfl rfl rfl rfl rfl rfl rfl rfl rfl sb fun r44 => ?_; refine pool_lastI 10 rfl rfl rfl rfl rfl ?_
    clear stop33
    refine At.bld3 ?_; refine At.cl rfl rfl rfl rfl rfl rfl rfl rfl (s33 L _ sf2 (k := 1) (fs := [sayI p.1, sayI p.2]) ht.a (by omega) (.inr rfl) hv2 rfl (rd_cells (cells_all (List.mem_cons_self ..))) (by simp) (by simp) (by simp) (pieces_ok (i := .p p)) (by simp only [List.length_append]; omega)) ?_
    rintro _ _ ⟨v3, sf3, rfl, hv3, rfl⟩
    refine At.fwd2 ?_; refine At.regionEnd ?_; refine At.inBlock ?_; refine At.region ?_; refine At.v rfl rfl rfl rfl rfl (by omega) ?_; refine At.v rfl rfl rfl rfl rfl trivial ?_; refine At.regionEnd ?_
    rw [List.append_assoc] at hv3
    refine At.tA ((again ⟨(j + 1, v3, sf3), by simp only; omega, by simp only; rw [flatL_take hpj]; exact hv3⟩ (by simp only; omega)))
  · rw [List.take_of_length_le hge] at hv2
    have hln := (@lineI_len (.c B.size B.lo B.hi)).2
    have htl0 := flatL_len (f := fun p => lineI (.p p)) (fun x => (@lineI_len (.p x)).2) B.prof
    refine At.seq (At.region ?_); refine At.cp rfl rfl rfl rfl rfl fun b32 h32 => ?_; refine At.regionEnd (At.seq ?_)
    obtain rfl : b32 = false := h32.symm.trans (decide_eq_false (by omega))
    refine At.cond rfl ?_; refine At.exit rfl ?_; refine At.seq (At.seq (At.region ?_)); refine At.fa 4 rfl rfl rfl rfl rfl rfl rfl ?_; refine At.ld 0 rfl rfl rfl rfl rfl rfl rfl rfl rfl ?_; refine At.ln rfl rfl rfl rfl rfl rfl rfl rfl ?_; refine At.v rfl rfl rfl rfl rfl trivial ?_; refine At.regionEnd ?_; refine At.block ?_
    have hv2' : Sl cB 5 v2 (lineI (.c B.size B.lo B.hi) ++ (B.prof.flatMap fun p => lineI (.p p)) ++ (B.marks.take 0).flatMap fun p => lineI (.m p)) sf2 := by
      rw [List.take_zero, List.flatMap_nil, List.append_nil]
      exact hv2
    refine At.lpk (X := { x : Nat × Value × Facts // x.1 ≤ B.marks.length ∧ Sl cB 5 x.2.1 (lineI (.c B.size B.lo B.hi) ++ (B.prof.flatMap fun p => lineI (.p p)) ++ (B.marks.take x.1).flatMap fun p => lineI (.m p)) x.2.2 }) [2, 3, 5, 6, 7, 48, 49] (fun x => [(50, .int .i64 (x.1.1 : Int))]) (fun x => .own r1 (.cells (List.toArray (bkC B A)) 27 (0, 0)) :: .own r5 (.cells #[.pointer (some ⟨r5, 0, none⟩), x.1.2.1] 77 (0, 0)) :: (x.1.2.2 ++ H)) (fun x => B.marks.length - x.1.1) (⟨(0, v2, sf2), Nat.zero_le _, hv2'⟩) rfl ?_ (by repeat (first | exact trivial | refine ⟨rfl, ?_⟩)) sb
    rintro ⟨⟨j3, v4, sf4⟩, hj3, hv4⟩ again3
    simp only at again3 hj3 hv4 ⊢
    rcases Nat.lt_or_ge j3 B.marks.length with hlt | hge3
    · obtain ⟨m, hmj⟩ : ∃ p, B.marks[j3]? = some p := ⟨_, List.getElem?_eq_getElem hlt⟩
      obtain ⟨hmb1, hmb2⟩ := markBar_bd (hmm m (List.mem_of_getElem? hmj))
      obtain ⟨b', off', epa, hcj⟩ := hB.m.el hmj
      have htl := flatL_len (f := fun p => lineI (.m p)) (fun x => (@lineI_len (.m x)).2) (B.marks.take j3)
      rw [List.length_take] at htl
      have stopDraw := trivial
      refine At.seq (At.region ?_); refine At.cp rfl rfl rfl rfl rfl fun b51 h51 => ?_; refine At.regionEnd (At.seq ?_)
      obtain rfl : b51 = true := h51.symm.trans (decide_eq_true (by omega))
      refine At.cond rfl ?_; refine At.skip (At.seq ?_); refine At.block ?_; refine At.seq (At.region ?_); refine At.q rfl rfl rfl rfl (q_iaQ (k := (j3)) rfl rfl rfl (by assumption) rfl (by assumption)) ?_; refine At.ldc rfl rfl rfl rfl rfl rfl hcj.a rfl rfl ?_; refine At.al rfl rfl rfl rfl rfl fun r11 => ?_; refine At.st 0 rfl rfl rfl rfl rfl rfl rfl rfl rfl rfl rfl rfl ?_; refine At.regionEnd ?_
      clear stopDraw
      refine At.draw hmix ((.own r11 (.cells (List.toArray (c3 m)) 72 (0, 0)) :: H)) sb ?_
      have stop36 := trivial
      refine Pool.v 0 rfl rfl rfl rfl rfl rfl rfl trivial ?_; refine Pool.v 1 rfl rfl rfl rfl rfl rfl rfl trivial ?_; refine Pool.fa 0 2 rfl rfl rfl rfl rfl rfl rfl rfl rfl ?_; refine Pool.fa 0 3 rfl rfl rfl rfl rfl rfl rfl rfl rfl ?_; refine Pool.ld 0 4 rfl rfl rfl rfl rfl rfl rfl rfl rfl rfl rfl ?_; refine Pool.v 6 rfl rfl rfl rfl rfl rfl rfl trivial ?_; refine Pool.fa 0 7 rfl rfl rfl rfl rfl rfl rfl rfl rfl ?_; refine Pool.fa 1 8 rfl rfl rfl rfl rfl rfl rfl rfl rfl ?_
      refine Pool.ld 0 9 rfl rfl rfl rfl rfl rfl rfl rfl rfl rfl rfl ?_; refine Pool.v 11 rfl rfl rfl rfl rfl rfl rfl trivial ?_; refine Pool.fa 2 12 rfl rfl rfl rfl rfl rfl rfl rfl rfl ?_; refine Pool.ld 0 13 rfl rfl rfl rfl rfl rfl rfl rfl rfl rfl rfl ?_
      clear stop36
      refine Pool.cq 5 rfl rfl rfl rfl rfl rfl rfl rfl rfl (fun H_ hs_ => s36 L H_ hten.a (by omega) (by omega)) ?_
      have stop36 := trivial
      skip
      clear stop36
      refine Pool.cq 10 rfl rfl rfl rfl rfl rfl rfl rfl rfl (fun H_ hs_ => s36 L H_ hten.a (by omega) (by omega)) ?_
      have stop36 := trivial
      skip
      clear stop36
      refine Pool.cq 14 rfl rfl rfl rfl rfl rfl rfl rfl rfl (fun H_ hs_ => s36 L H_ hten.a (by omega) (by omega)) ?_
      have stop33 := trivial
      refine Pool.bs 15 rfl rfl rfl rfl rfl rfl rfl rfl rfl rfl rfl rfl rfl rfl rfl sb fun r69 => ?_; refine pool_lastI 16 rfl rfl rfl rfl rfl ?_
      clear stop33
      refine At.bld3 ?_; refine At.cl rfl rfl rfl rfl rfl rfl rfl rfl (s33 L _ sf4 (k := 2) (fs := [sayI m.1.1, sayI m.1.2, sayI m.2]) ht.a (by omega) (.inr rfl) hv4 rfl (rd_cells (cells_all (List.mem_cons_self ..))) (by simp) (by simp) (by simp) (pieces_ok (i := .m m)) (by simp only [List.length_append]; omega)) ?_
      rintro _ _ ⟨v5, sf5, rfl, hv5, rfl⟩
      refine At.fwd2 ?_; refine At.regionEnd ?_; refine At.inBlock ?_; refine At.region ?_; refine At.v rfl rfl rfl rfl rfl (by omega) ?_; refine At.v rfl rfl rfl rfl rfl trivial ?_; refine At.regionEnd ?_
      rw [List.append_assoc] at hv5
      refine At.tA ((again3 ⟨(j3 + 1, v5, sf5), by simp only; omega, by simp only; rw [flatL_take hmj]; exact hv5⟩ (by simp only; omega)))
    · rw [List.take_of_length_le hge3] at hv4
      have htl := flatL_len (f := fun p => lineI (.m p)) (fun x => (@lineI_len (.m x)).2) B.marks
      have hln0 := (@lineI_len (.c B.size B.lo B.hi)).1
      have hte : lineI (.c B.size B.lo B.hi) ++ (B.prof.flatMap fun p => lineI (.p p)) ++ (B.marks.flatMap fun p => lineI (.m p)) = textB B := by
        simp [textB, itemsB, List.flatMap_map]
      have hls : 0 < (textB B).length ∧ (textB B).length ≤ 100000 := by
        rw [← hte]
        simp only [List.length_append]; omega
      rw [hte] at hv4
      refine At.bld1 ?_
      have stop38 := trivial
      refine At.seq (At.region ?_); refine At.cp rfl rfl rfl rfl rfl fun b51 h51 => ?_; refine At.regionEnd (At.seq ?_)
      obtain rfl : b51 = false := h51.symm.trans (decide_eq_false (by omega))
      refine At.cond rfl ?_; refine At.exit rfl ?_; refine At.seq (At.region ?_)
      clear stop38
      refine At.cl rfl rfl rfl rfl rfl rfl rfl rfl (s38 L _ sf4 hv4 hls.1 hls.2) ?_
      rintro _ _ ⟨rfl, rfl⟩
      (iterate 2 refine At.v rfl rfl rfl rfl rfl trivial ?_); refine At.regionEnd ?_
      exact At.ret Tryz.func7 (.inr ⟨_, rfl⟩) rfl (.tmp rfl (.tmp rfl .nil)) (wk (hc _ _ (⟨by rfl, rfl⟩)))
end Go.Gx
end

section
namespace Go.Gx
open Go Go.Conc
end Go.Gx
end

section
namespace Go.Gx
open Go Go.Conc
theorem Sl.share {α : Type} {c : α → List Value} {sz : Nat} [he : Enc c sz] {T : TypeId} {v : Value} {xs : List α} {sf : Facts} (h : Sl c T v xs sf) :
    ∃ sg : Facts, (∀ f ∈ sg, f.isOwn = false) ∧ (∀ a n cap, v = .slice a n cap → Rd sg a (xs.flatMap c)) ∧
      ∀ {P : Program} {main : Bool} {L : Lg P main} {f : FuncId} {ro : Option Nat} {ds : Dz} {cs : List Frame} {n : Nat} {E : Env} {k : List Item} {H : Facts}, At L f ro ds cs n E (sg ++ H) k → At L f ro ds cs n E (sf ++ H) k := by
  unfold Sl at h
  generalize hvs : xs.flatMap c = vs at h
  generalize hk : xs.length = k at h
  cases h with
  | nil => exact ⟨[], by simp, fun a n cap e => by cases e; exact .inl rfl, fun h => h⟩
  | own b cap _ _ rest hl hc hm =>
    refine ⟨[.seg b 0 (vs ++ rest)], ?_, ?_, fun h => At.share h⟩
    · intro f hf
      rw [List.mem_singleton] at hf
      subst hf
      rfl
    · intro a n cap' e
      cases e
      exact rd_cells (by have := cells_seg (H := [.seg b 0 (vs ++ rest)]) (vs := vs) (us := vs ++ rest) (b := b) (off := 0) 0 (by simp) (by simp); simpa using this)
end Go.Gx
end

section
namespace Go.Gx
open Go Go.Conc Go.Proofs
variable {main : Bool}

theorem s5 (L : Lg Tryz.prog main) (H : Facts) {B : Bk} {A : BkA} : Pure L 5 #[bkV B A] H (.bool (decide (20 < B.prof.length ∨ 20 < B.marks.length))) := by
  refine Spec.enter Tryz.func5 rfl (by simp [Tryz.f5]) fun c cs hc => ?_
  obtain ⟨prof, size, lo, hi, marks⟩ := B
  obtain ⟨pa, pc, ma, mc⟩ := A
  simp only at hc ⊢
  refine At.seq (At.region ?_); refine At.bx rfl rfl rfl rfl rfl rfl rfl fun r1 => ?_; refine At.v rfl rfl rfl rfl rfl trivial ?_; refine At.regionEnd (At.seq (At.region ?_)); refine At.fa 0 rfl rfl rfl rfl rfl rfl rfl ?_; refine At.ld 0 rfl rfl rfl rfl rfl rfl rfl rfl rfl ?_; refine At.ln rfl rfl rfl rfl rfl rfl rfl rfl ?_; refine At.cp rfl rfl rfl rfl rfl fun b6 h6 => ?_; refine At.v rfl rfl rfl rfl rfl trivial ?_
  cases b6
  · have e : ¬ 20 < prof.length := by simp at h6; omega
    refine At.fa 4 rfl rfl rfl rfl rfl rfl rfl ?_; refine At.ld 0 rfl rfl rfl rfl rfl rfl rfl rfl rfl ?_; refine At.ln rfl rfl rfl rfl rfl rfl rfl rfl ?_; refine At.cp rfl rfl rfl rfl rfl fun b11 h11 => ?_; (iterate 2 refine At.v rfl rfl rfl rfl rfl trivial ?_); refine At.regionEnd ?_
    exact At.ret Tryz.func5 (.inr ⟨_, rfl⟩) rfl (.tmp rfl .nil) (wk (hc _ _ (⟨by rw [← h11]; exact congrArg Value.bool (decide_eq_decide.2 (by dsimp only; omega)), rfl⟩)))
  · refine At.un rfl rfl rfl rfl ?_
    (iterate 3 refine At.un rfl rfl rfl rfl ?_); (iterate 2 refine At.v rfl rfl rfl rfl rfl trivial ?_); refine At.regionEnd ?_
    exact At.ret Tryz.func5 (.inr ⟨_, rfl⟩) rfl (.tmp rfl .nil) (wk (hc _ _ (⟨by simp_all [resVal]; try omega, rfl⟩)))
set_option maxRecDepth 100000 in
set_option maxHeartbeats 4000000 in
theorem s12 (L : Lg Tryz.prog main) (H : Facts) {B : Bk} {A : BkA} (hB : BkR H B A) (hl : B.prof.length ≤ 100000) (hm : B.marks.length ≤ 100000) : Pure L 12 #[bkV B A] H (.int .i64 (bookBar B)) := by
  refine Spec.enter Tryz.func12 rfl (by simp [Tryz.f12]) fun c cs hc => ?_
  obtain ⟨prof, size, lo, hi, marks⟩ := B
  obtain ⟨pa, pc, ma, mc⟩ := A
  obtain ⟨hrp, hrm⟩ := hB
  simp only at hrp hrm hl hm
  simp only [bookBar] at hc
  refine At.seq (At.region ?_); refine At.bx rfl rfl rfl rfl rfl rfl rfl fun r1 => ?_; refine At.v rfl rfl rfl rfl rfl trivial ?_; refine At.regionEnd (At.seq (At.seq (At.region ?_))); refine At.fa 0 rfl rfl rfl rfl rfl rfl rfl ?_; refine At.ld 0 rfl rfl rfl rfl rfl rfl rfl rfl rfl ?_; refine At.ln rfl rfl rfl rfl rfl rfl rfl rfl ?_; refine At.cqb rfl rfl rfl rfl rfl rfl rfl rfl (s49 L _) fun b10 h10 => ?_; refine At.v rfl rfl rfl rfl rfl trivial ?_; refine At.regionEnd ?_
  cases b10
  · have e : profBar prof = 2 := by simp at h10; unfold profBar; rw [if_pos (by omega)]
    refine At.cond rfl ?_; refine At.seq (At.region ?_); refine At.v rfl rfl rfl rfl rfl trivial ?_; refine At.regionEnd ?_
    exact At.ret Tryz.func12 (.inr ⟨_, rfl⟩) rfl (.tmp rfl .nil) (wk (hc _ _ (⟨by simp [resVal, e], rfl⟩)))
  have hpb : profBar prof = ptsBar none prof := by simp at h10; unfold profBar; rw [if_neg (by omega)]
  simp only [hpb] at hc
  refine At.cond rfl ?_; refine At.skip (At.seq (At.seq (At.region ?_))); refine At.v rfl rfl rfl rfl rfl trivial ?_; refine At.regionEnd ?_; refine At.block ?_
  refine At.lpk (X := { j : Nat // j ≤ prof.length ∧ ptsBar (prevO prof j) (prof.drop j) = ptsBar none prof }) [1] (fun x => [(3, .int .i64 (x.1 : Int))]) (fun _ => .own r1 (.cells (List.toArray (bkC ⟨prof, size, lo, hi, marks⟩ ⟨pa, pc, ma, mc⟩)) 27 (0, 0)) :: H) (fun x => prof.length - x.1) (⟨0, Nat.zero_le _, rfl⟩) rfl ?_ (by repeat (first | exact trivial | refine ⟨rfl, ?_⟩)) sb
  rintro ⟨j, hj, hd⟩ again
  simp only at again ⊢
  refine At.seq (At.seq (At.region ?_)); refine At.v rfl rfl rfl rfl rfl trivial ?_; refine At.fa 0 rfl rfl rfl rfl rfl rfl rfl ?_; refine At.ld 0 rfl rfl rfl rfl rfl rfl rfl rfl rfl ?_; refine At.ln rfl rfl rfl rfl rfl rfl rfl rfl ?_; refine At.cp rfl rfl rfl rfl rfl fun b16 h16 => ?_; refine At.regionEnd ?_
  cases b16
  rotate_left
  · have hlt : j < prof.length := by simp at h16; omega
    obtain ⟨b, off, rfl, hc1⟩ := hrp.el (List.getElem?_eq_getElem hlt)
    rw [List.drop_eq_getElem_cons hlt, ptsBar_cons] at hd
    refine At.cond rfl ?_; refine At.skip (At.seq ?_); refine At.block ?_; refine At.seq (At.region ?_); refine At.fa 0 rfl rfl rfl rfl rfl rfl rfl ?_; refine At.ld 0 rfl rfl rfl rfl rfl rfl rfl rfl rfl ?_; refine At.v rfl rfl rfl rfl rfl trivial ?_; refine At.q rfl rfl rfl rfl (q_ia rfl rfl rfl (by assumption)) ?_; refine At.ldc rfl rfl rfl rfl rfl rfl hc1.a rfl rfl ?_; refine At.al rfl rfl rfl rfl rfl fun r4 => ?_; refine At.st 0 rfl rfl rfl rfl rfl rfl rfl rfl rfl rfl rfl rfl ?_
    refine At.regionEnd (At.seq (At.seq (At.region ?_))); refine At.fa 0 rfl rfl rfl rfl rfl rfl rfl ?_; refine At.ld 0 rfl rfl rfl rfl rfl rfl rfl rfl rfl ?_; refine At.cqb rfl rfl rfl rfl rfl rfl rfl rfl (s49 L _) fun b26 h26 => ?_; (iterate 2 refine At.v rfl rfl rfl rfl rfl trivial ?_)
    cases b26
    · rw [if_pos (by simp at h26; omega)] at hd
      (iterate 4 refine At.un rfl rfl rfl rfl ?_); refine At.v rfl rfl rfl rfl rfl trivial ?_; refine At.regionEnd ?_; refine At.cond rfl ?_; refine At.seq (At.region ?_); refine At.v rfl rfl rfl rfl rfl trivial ?_; refine At.regionEnd ?_
      exact At.ret Tryz.func12 (.inr ⟨_, rfl⟩) rfl (.tmp rfl .nil) (wk (hc _ _ (⟨by rw [← hd]; rfl, rfl⟩)))
    · refine At.fa 1 rfl rfl rfl rfl rfl rfl rfl ?_
      refine At.ld 0 rfl rfl rfl rfl rfl rfl rfl rfl rfl ?_; refine At.cqb rfl rfl rfl rfl rfl rfl rfl rfl (s49 L _) fun b31 h31 => ?_; (iterate 2 refine At.v rfl rfl rfl rfl rfl trivial ?_); refine At.regionEnd ?_
      cases b31
      · rw [if_pos (by simp at h31; omega)] at hd
        refine At.cond rfl ?_; refine At.seq (At.region ?_); refine At.v rfl rfl rfl rfl rfl trivial ?_; refine At.regionEnd ?_
        exact At.ret Tryz.func12 (.inr ⟨_, rfl⟩) rfl (.tmp rfl .nil) (wk (hc _ _ (⟨by rw [← hd]; rfl, rfl⟩)))
      · rw [if_neg (by simp at h26 h31; omega)] at hd
        cases j with
        | zero =>
          refine At.cond rfl ?_; refine At.skip (At.seq ?_); refine At.drawJ hmix [] rfl ?_; refine Pool.v 0 rfl rfl rfl rfl rfl rfl rfl trivial ?_; refine Pool.cp 1 rfl rfl rfl rfl rfl rfl rfl fun b35 h35 => ?_; refine Pool.v 2 rfl rfl rfl rfl rfl rfl rfl trivial ?_
          cases b35
          · rw [if_neg (by simp [prevO])] at hd
            refine Pool.un 3 rfl rfl rfl rfl rfl rfl ?_; refine Pool.un 4 rfl rfl rfl rfl rfl rfl ?_; refine Pool.un 5 rfl rfl rfl rfl rfl rfl ?_; refine Pool.un 6 rfl rfl rfl rfl rfl rfl ?_; refine Pool.un 7 rfl rfl rfl rfl rfl rfl ?_; refine Pool.un 8 rfl rfl rfl rfl rfl rfl ?_; refine Pool.un 9 rfl rfl rfl rfl rfl rfl ?_; refine Pool.un 10 rfl rfl rfl rfl rfl rfl ?_; refine Pool.un 11 rfl rfl rfl rfl rfl rfl ?_; refine Pool.un 12 rfl rfl rfl rfl rfl rfl ?_
            refine Pool.v 13 rfl rfl rfl rfl rfl rfl rfl trivial ?_; refine pool_done rfl rfl ?_; refine At.regionEnd ?_; refine At.cond rfl ?_; refine At.skip ?_; refine At.inBlock ?_; refine At.region ?_; refine At.v rfl rfl rfl rfl rfl trivial ?_; refine At.v rfl rfl rfl rfl rfl (by omega) ?_; refine At.v rfl rfl rfl rfl rfl trivial ?_; refine At.regionEnd ?_
            refine At.tA ((again ⟨0 + 1, hlt, by rw [← hd]; simp [prevO, hlt]⟩ (by simp; omega)))
          · simp at h35
        | succ i =>
          have hlt' : i < prof.length := by omega
          obtain ⟨b', off', e', hc2⟩ := hrp.el (List.getElem?_eq_getElem hlt')
          cases e'
          have hpr : prevO prof (i + 1) = some prof[i].2 := by simp [prevO, hlt']
          rw [hpr] at hd
          refine At.cond rfl ?_; refine At.skip (At.seq ?_); refine At.drawJ hmix [] rfl ?_; refine Pool.v 0 rfl rfl rfl rfl rfl rfl rfl trivial ?_; refine Pool.cp 1 rfl rfl rfl rfl rfl rfl rfl fun b35 h35 => ?_; refine Pool.v 2 rfl rfl rfl rfl rfl rfl rfl trivial ?_
          cases b35
          · simp at h35 <;> omega
          · refine Pool.fa 1 3 rfl rfl rfl rfl rfl rfl rfl rfl rfl ?_
            refine Pool.ld 0 4 rfl rfl rfl rfl rfl rfl rfl rfl rfl rfl rfl ?_; refine Pool.fa 0 5 rfl rfl rfl rfl rfl rfl rfl rfl rfl ?_; refine Pool.ld 1 6 rfl rfl rfl rfl rfl rfl rfl rfl rfl rfl rfl ?_; refine Pool.v 7 rfl rfl rfl rfl rfl rfl rfl trivial ?_; refine Pool.v 8 rfl rfl rfl rfl rfl rfl rfl (by omega) ?_; refine Pool.q 9 rfl rfl rfl rfl rfl (q_iaN (k := (i + 1 - 1)) rfl rfl rfl (by omega) (by assumption)) rfl ?_; refine Pool.faE 10 rfl rfl rfl rfl rfl rfl rfl rfl ?_
            refine Pool.ldc 11 rfl rfl rfl rfl rfl rfl rfl (hc2.s 1 1 rfl) rfl rfl rfl ?_; refine Pool.cp 12 rfl rfl rfl rfl rfl rfl rfl fun b46 h46 => ?_; refine Pool.v 13 rfl rfl rfl rfl rfl rfl rfl trivial ?_; refine pool_done rfl rfl ?_; refine At.regionEnd ?_
            cases b46
            · rw [if_neg (by simpa using h46)] at hd
              refine At.cond rfl ?_; refine At.skip ?_; refine At.inBlock ?_; refine At.region ?_; refine At.v rfl rfl rfl rfl rfl trivial ?_; refine At.v rfl rfl rfl rfl rfl (by omega) ?_; refine At.v rfl rfl rfl rfl rfl trivial ?_; refine At.regionEnd ?_
              refine At.tA ((again ⟨i + 1 + 1, hlt, by rw [← hd]; simp [prevO, hlt]⟩ (by simp; omega)))
            · rw [if_pos (by simpa using h46)] at hd
              refine At.cond rfl ?_; refine At.seq (At.region ?_); refine At.v rfl rfl rfl rfl rfl trivial ?_; refine At.regionEnd ?_
              exact At.ret Tryz.func12 (.inr ⟨_, rfl⟩) rfl (.tmp rfl .nil) (wk (hc _ _ (⟨by rw [← hd]; rfl, rfl⟩)))
  · have e : j = prof.length := by simp at h16; omega
    subst e
    rw [List.drop_length] at hd
    have hz : ptsBar none prof = 0 := hd.symm
    simp only [hz] at hc
    refine At.cond rfl ?_; refine At.exit rfl ?_; refine At.seq (At.seq (At.region ?_)); refine At.fa 1 rfl rfl rfl rfl rfl rfl rfl ?_; refine At.ld 0 rfl rfl rfl rfl rfl rfl rfl rfl rfl ?_; refine At.cqb rfl rfl rfl rfl rfl rfl rfl rfl (s49 L _) fun b50 h50 => ?_; (iterate 2 refine At.v rfl rfl rfl rfl rfl trivial ?_)
    cases b50
    · have e : sizeBar ⟨prof, size, lo, hi, marks⟩ = 1 := by simp at h50; unfold sizeBar; rw [if_pos (by simp only; omega)]
      (iterate 4 refine At.un rfl rfl rfl rfl ?_); (iterate 2 refine At.v rfl rfl rfl rfl rfl trivial ?_); (iterate 8 refine At.un rfl rfl rfl rfl ?_); refine At.v rfl rfl rfl rfl rfl trivial ?_; refine At.regionEnd ?_; refine At.cond rfl ?_; refine At.seq (At.region ?_); refine At.v rfl rfl rfl rfl rfl trivial ?_; refine At.regionEnd ?_
      exact At.ret Tryz.func12 (.inr ⟨_, rfl⟩) rfl (.tmp rfl .nil) (wk (hc _ _ (⟨by simp [resVal, e], rfl⟩)))
    refine At.fa 2 rfl rfl rfl rfl rfl rfl rfl ?_; refine At.ld 0 rfl rfl rfl rfl rfl rfl rfl rfl rfl ?_; refine At.cqb rfl rfl rfl rfl rfl rfl rfl rfl (s50 L _) fun b55 h55 => ?_; (iterate 3 refine At.v rfl rfl rfl rfl rfl trivial ?_)
    cases b55
    · have e : sizeBar ⟨prof, size, lo, hi, marks⟩ = 1 := by simp at h55; unfold sizeBar; rw [if_pos (by simp only; omega)]
      (iterate 8 refine At.un rfl rfl rfl rfl ?_); refine At.v rfl rfl rfl rfl rfl trivial ?_; refine At.regionEnd ?_; refine At.cond rfl ?_; refine At.seq (At.region ?_); refine At.v rfl rfl rfl rfl rfl trivial ?_; refine At.regionEnd ?_
      exact At.ret Tryz.func12 (.inr ⟨_, rfl⟩) rfl (.tmp rfl .nil) (wk (hc _ _ (⟨by simp [resVal, e], rfl⟩)))
    have e55 : 0 ≤ lo ∧ lo ≤ hi ∧ hi ≤ 90 := by simpa using h55
    have e50 : 1 ≤ size ∧ size ≤ 30 := by simpa using h50
    refine At.fa 2 rfl rfl rfl rfl rfl rfl rfl ?_; refine At.fa 3 rfl rfl rfl rfl rfl rfl rfl ?_; refine At.ld 0 rfl rfl rfl rfl rfl rfl rfl rfl rfl ?_; (iterate 2 refine At.fa 2 rfl rfl rfl rfl rfl rfl rfl ?_); refine At.ld 0 rfl rfl rfl rfl rfl rfl rfl rfl rfl ?_; refine At.v rfl rfl rfl rfl rfl (by dsimp only; omega) ?_; refine At.cp rfl rfl rfl rfl rfl fun b66 h66 => ?_; refine At.v rfl rfl rfl rfl rfl trivial ?_; refine At.regionEnd ?_
    dsimp only
    skip
    cases b66
    rotate_left
    · have e : sizeBar ⟨prof, size, lo, hi, marks⟩ = 1 := by simp at h66; unfold sizeBar; rw [if_pos (by simp only; omega)]
      refine At.cond rfl ?_; refine At.seq (At.region ?_); refine At.v rfl rfl rfl rfl rfl trivial ?_; refine At.regionEnd ?_
      exact At.ret Tryz.func12 (.inr ⟨_, rfl⟩) rfl (.tmp rfl .nil) (wk (hc _ _ (⟨by simp [resVal, e], rfl⟩)))
    have hz2 : sizeBar ⟨prof, size, lo, hi, marks⟩ = 0 := by simp at h66; unfold sizeBar; rw [if_neg (by simp only; omega)]
    simp only [hz2] at hc
    refine At.cond rfl ?_; refine At.skip (At.seq (At.seq (At.region ?_))); refine At.fa 4 rfl rfl rfl rfl rfl rfl rfl ?_; refine At.ld 0 rfl rfl rfl rfl rfl rfl rfl rfl rfl ?_; refine At.ln rfl rfl rfl rfl rfl rfl rfl rfl ?_; refine At.cp rfl rfl rfl rfl rfl fun b71 h71 => ?_; refine At.regionEnd ?_
    cases b71
    rotate_left
    · have e : mksBar marks = 2 := by simp at h71; unfold mksBar; rw [if_pos (by omega)]
      refine At.cond rfl ?_; refine At.seq (At.region ?_); refine At.v rfl rfl rfl rfl rfl trivial ?_; refine At.regionEnd ?_
      exact At.ret Tryz.func12 (.inr ⟨_, rfl⟩) rfl (.tmp rfl .nil) (wk (hc _ _ (⟨by simp [resVal, e], rfl⟩)))
    have hpm : mksBar marks = marksBar marks := by simp at h71; unfold mksBar; rw [if_neg (by omega)]
    simp only [hpm] at hc
    refine At.cond rfl ?_; refine At.skip (At.seq (At.seq (At.region ?_))); refine At.v rfl rfl rfl rfl rfl trivial ?_; refine At.regionEnd ?_; refine At.block ?_
    refine At.lpk (X := { j : Nat // j ≤ marks.length ∧ marksBar (marks.drop j) = marksBar marks }) [1] (fun x => [(5, .int .i64 (x.1 : Int))]) (fun _ => .own r1 (.cells (List.toArray (bkC ⟨prof, size, lo, hi, marks⟩ ⟨pa, pc, ma, mc⟩)) 27 (0, 0)) :: H) (fun x => marks.length - x.1) (⟨0, Nat.zero_le _, rfl⟩) rfl ?_ (by repeat (first | exact trivial | refine ⟨rfl, ?_⟩)) sb
    rintro ⟨j, hj, hd⟩ again2
    simp only at again2 ⊢
    refine At.seq (At.seq (At.region ?_)); refine At.v rfl rfl rfl rfl rfl trivial ?_; refine At.fa 4 rfl rfl rfl rfl rfl rfl rfl ?_; refine At.ld 0 rfl rfl rfl rfl rfl rfl rfl rfl rfl ?_; refine At.ln rfl rfl rfl rfl rfl rfl rfl rfl ?_; refine At.cp rfl rfl rfl rfl rfl fun b76 h76 => ?_; refine At.regionEnd ?_
    cases b76
    · have e : j = marks.length := by simp at h76; omega
      subst e
      rw [List.drop_length] at hd
      refine At.cond rfl ?_; refine At.exit rfl ?_; refine At.seq (At.region ?_); refine At.v rfl rfl rfl rfl rfl trivial ?_; refine At.regionEnd ?_
      exact At.ret Tryz.func12 (.inr ⟨_, rfl⟩) rfl (.tmp rfl .nil) (wk (hc _ _ (⟨by rw [← hd]; rfl, rfl⟩)))
    · have hlt : j < marks.length := by simp at h76; omega
      obtain ⟨b, off, rfl, hc1⟩ := hrm.el (List.getElem?_eq_getElem hlt)
      rw [List.drop_eq_getElem_cons hlt, marksBar] at hd
      refine At.cond rfl ?_; refine At.skip (At.seq ?_); refine At.block ?_; refine At.seq (At.seq (At.region ?_)); refine At.fa 4 rfl rfl rfl rfl rfl rfl rfl ?_; refine At.ld 0 rfl rfl rfl rfl rfl rfl rfl rfl rfl ?_; refine At.v rfl rfl rfl rfl rfl trivial ?_; refine At.q rfl rfl rfl rfl (q_ia rfl rfl rfl (by assumption)) ?_; refine At.faE rfl rfl rfl rfl rfl rfl ?_; refine At.ldc rfl rfl rfl rfl rfl rfl (hc1.s 0 2 rfl) rfl rfl ?_; refine At.cq rfl rfl rfl rfl rfl rfl rfl rfl (s51 L _) ?_
      refine At.v rfl rfl rfl rfl rfl trivial ?_; refine At.regionEnd (At.seq (At.region ?_)); refine At.v rfl rfl rfl rfl rfl trivial ?_; refine At.cp rfl rfl rfl rfl rfl fun b87 h87 => ?_; refine At.regionEnd ?_
      cases b87
      rotate_left
      · have e : slopeBar marks[j].1.1 marks[j].1.2 ≠ 0 := by simpa using h87
        have e2 : markBar marks[j] = slopeBar marks[j].1.1 marks[j].1.2 := by simp [markBar, e]
        rw [if_pos (by rw [e2]; exact e), e2] at hd
        refine At.cond rfl ?_; refine At.seq (At.region ?_); (iterate 2 refine At.v rfl rfl rfl rfl rfl trivial ?_); refine At.regionEnd ?_
        exact At.ret Tryz.func12 (.inr ⟨_, rfl⟩) rfl (.tmp rfl .nil) (wk (hc _ _ (⟨by rw [← hd]; rfl, rfl⟩)))
      · have e : slopeBar marks[j].1.1 marks[j].1.2 = 0 := by simpa using h87
        have e2 : markBar marks[j] = hBar marks[j].2 := by simp [markBar, e]
        rw [e2] at hd
        refine At.cond rfl ?_; refine At.skip (At.seq (At.region ?_)); refine At.fa 4 rfl rfl rfl rfl rfl rfl rfl ?_; refine At.ld 0 rfl rfl rfl rfl rfl rfl rfl rfl rfl ?_; refine At.v rfl rfl rfl rfl rfl trivial ?_; refine At.q rfl rfl rfl rfl (q_ia rfl rfl rfl (by assumption)) ?_; refine At.faE rfl rfl rfl rfl rfl rfl ?_; refine At.ldc rfl rfl rfl rfl rfl rfl (hc1.s 2 1 rfl) rfl rfl ?_; refine At.cqb rfl rfl rfl rfl rfl rfl rfl rfl (s52 L _) fun b95 h95 => ?_; refine At.v rfl rfl rfl rfl rfl trivial ?_
        refine At.regionEnd ?_
        cases b95
        · have e3 : hBar marks[j].2 = 1 := by simp at h95; unfold hBar; rw [if_neg (by omega)]
          rw [if_pos (by omega), e3] at hd
          refine At.cond rfl ?_; refine At.seq (At.region ?_); refine At.v rfl rfl rfl rfl rfl trivial ?_; refine At.regionEnd ?_
          exact At.ret Tryz.func12 (.inr ⟨_, rfl⟩) rfl (.tmp rfl .nil) (wk (hc _ _ (⟨by rw [← hd]; rfl, rfl⟩)))
        · have e3 : hBar marks[j].2 = 0 := by simp at h95; unfold hBar; rw [if_pos (by omega)]
          rw [if_neg (by omega)] at hd
          refine At.cond rfl ?_; refine At.skip ?_; refine At.inBlock ?_; refine At.region ?_; refine At.v rfl rfl rfl rfl rfl trivial ?_; refine At.v rfl rfl rfl rfl rfl (by omega) ?_; refine At.v rfl rfl rfl rfl rfl trivial ?_; refine At.regionEnd ?_
          refine At.tA ((again2 ⟨j + 1, hlt, hd⟩ (by simp; omega)))
def sameM (B C : Bk) : Bool := decide (B.size = C.size ∧ (B.lo = C.lo ∧ B.hi = C.hi) ∧ B.prof = C.prof ∧ B.marks = C.marks)
set_option maxRecDepth 100000 in
set_option maxHeartbeats 4000000 in
theorem s11 (L : Lg Tryz.prog main) (H : Facts) {B C : Bk} {A D : BkA} (hB : BkR H B A) (hC : BkR H C D) (hl : B.prof.length ≤ 100000) (hm : B.marks.length ≤ 100000) : Pure L 11 #[bkV B A, bkV C D] H (.bool (sameM B C)) := by
  refine Spec.enter Tryz.func11 rfl (by simp [Tryz.f11]) fun c cs hc => ?_
  have hp1 := hB.p
  have hp2 := hC.p
  have hm1 := hB.m
  have hm2 := hC.m
  unfold sameM at hc
  refine At.seq (At.region ?_); refine At.bx rfl rfl rfl rfl rfl rfl rfl fun r2 => ?_; refine At.bx rfl rfl rfl rfl rfl rfl rfl fun r3 => ?_; refine At.v rfl rfl rfl rfl rfl trivial ?_; refine At.regionEnd (At.seq (At.seq (At.region ?_))); refine At.fa 1 rfl rfl rfl rfl rfl rfl rfl ?_; refine At.ld 1 rfl rfl rfl rfl rfl rfl rfl rfl rfl ?_; refine At.fa 1 rfl rfl rfl rfl rfl rfl rfl ?_; refine At.ld 0 rfl rfl rfl rfl rfl rfl rfl rfl rfl ?_; refine At.cp rfl rfl rfl rfl rfl fun b11 h11 => ?_
  refine At.v rfl rfl rfl rfl rfl trivial ?_
  cases b11
  rotate_left
  · have e : B.size ≠ C.size := by simpa using h11
    rw [decide_eq_false (fun h => e h.1)] at hc
    (iterate 5 refine At.un rfl rfl rfl rfl ?_); (iterate 2 refine At.v rfl rfl rfl rfl rfl trivial ?_); (iterate 7 refine At.un rfl rfl rfl rfl ?_); (iterate 2 refine At.v rfl rfl rfl rfl rfl trivial ?_); (iterate 7 refine At.un rfl rfl rfl rfl ?_); refine At.v rfl rfl rfl rfl rfl trivial ?_; refine At.regionEnd ?_; refine At.cond rfl ?_; refine At.seq (At.region ?_); refine At.v rfl rfl rfl rfl rfl trivial ?_; refine At.regionEnd ?_
    exact At.ret Tryz.func11 (.inr ⟨_, rfl⟩) rfl (.tmp rfl .nil) (wk (hc _ _ (⟨by rfl, rfl⟩)))
  have q1 : B.size = C.size := by simpa using h11
  refine At.fa 2 rfl rfl rfl rfl rfl rfl rfl ?_; refine At.ld 1 rfl rfl rfl rfl rfl rfl rfl rfl rfl ?_; refine At.fa 2 rfl rfl rfl rfl rfl rfl rfl ?_; refine At.ld 0 rfl rfl rfl rfl rfl rfl rfl rfl rfl ?_; refine At.qb rfl rfl rfl rfl (q_neqS rfl rfl rfl rfl rfl rfl rfl rfl) fun b17 h17 => ?_; (iterate 2 refine At.v rfl rfl rfl rfl rfl trivial ?_)
  cases b17
  rotate_left
  · have e : ¬ (B.lo = C.lo ∧ B.hi = C.hi) := by
      rintro ⟨h1, h2⟩
      rw [h1, h2] at h17
      simp at h17
    rw [decide_eq_false (fun h => e h.2.1)] at hc
    (iterate 7 refine At.un rfl rfl rfl rfl ?_); (iterate 2 refine At.v rfl rfl rfl rfl rfl trivial ?_); (iterate 7 refine At.un rfl rfl rfl rfl ?_); refine At.v rfl rfl rfl rfl rfl trivial ?_; refine At.regionEnd ?_; refine At.cond rfl ?_; refine At.seq (At.region ?_); refine At.v rfl rfl rfl rfl rfl trivial ?_; refine At.regionEnd ?_
    exact At.ret Tryz.func11 (.inr ⟨_, rfl⟩) rfl (.tmp rfl .nil) (wk (hc _ _ (⟨by rfl, rfl⟩)))
  have q2 : B.lo = C.lo ∧ B.hi = C.hi := by simpa using h17
  refine At.fa 0 rfl rfl rfl rfl rfl rfl rfl ?_; refine At.ld 1 rfl rfl rfl rfl rfl rfl rfl rfl rfl ?_; refine At.ln rfl rfl rfl rfl rfl rfl rfl rfl ?_; refine At.fa 0 rfl rfl rfl rfl rfl rfl rfl ?_; refine At.ld 0 rfl rfl rfl rfl rfl rfl rfl rfl rfl ?_; refine At.ln rfl rfl rfl rfl rfl rfl rfl rfl ?_; refine At.cp rfl rfl rfl rfl rfl fun b26 h26 => ?_; (iterate 2 refine At.v rfl rfl rfl rfl rfl trivial ?_)
  cases b26
  rotate_left
  · have e : B.prof.length ≠ C.prof.length := by simp at h26; omega
    rw [decide_eq_false (fun h => e (by rw [h.2.2.1]))] at hc
    (iterate 7 refine At.un rfl rfl rfl rfl ?_); refine At.v rfl rfl rfl rfl rfl trivial ?_; refine At.regionEnd ?_; refine At.cond rfl ?_; refine At.seq (At.region ?_); refine At.v rfl rfl rfl rfl rfl trivial ?_; refine At.regionEnd ?_
    exact At.ret Tryz.func11 (.inr ⟨_, rfl⟩) rfl (.tmp rfl .nil) (wk (hc _ _ (⟨by rfl, rfl⟩)))
  have q3 : B.prof.length = C.prof.length := by simp at h26; omega
  refine At.fa 4 rfl rfl rfl rfl rfl rfl rfl ?_; refine At.ld 1 rfl rfl rfl rfl rfl rfl rfl rfl rfl ?_; refine At.ln rfl rfl rfl rfl rfl rfl rfl rfl ?_; refine At.fa 4 rfl rfl rfl rfl rfl rfl rfl ?_; refine At.ld 0 rfl rfl rfl rfl rfl rfl rfl rfl rfl ?_; refine At.ln rfl rfl rfl rfl rfl rfl rfl rfl ?_; refine At.cp rfl rfl rfl rfl rfl fun b35 h35 => ?_; refine At.v rfl rfl rfl rfl rfl trivial ?_; refine At.regionEnd ?_
  cases b35
  rotate_left
  · have e : B.marks.length ≠ C.marks.length := by simp at h35; omega
    rw [decide_eq_false (fun h => e (by rw [h.2.2.2]))] at hc
    refine At.cond rfl ?_; refine At.seq (At.region ?_); refine At.v rfl rfl rfl rfl rfl trivial ?_; refine At.regionEnd ?_
    exact At.ret Tryz.func11 (.inr ⟨_, rfl⟩) rfl (.tmp rfl .nil) (wk (hc _ _ (⟨by rfl, rfl⟩)))
  have q4 : B.marks.length = C.marks.length := by simp at h35; omega
  refine At.cond rfl ?_; refine At.skip (At.seq (At.seq (At.region ?_))); refine At.v rfl rfl rfl rfl rfl trivial ?_; refine At.regionEnd ?_; refine At.block ?_
  refine At.lpk (X := { j : Nat // j ≤ B.prof.length ∧ (B.prof.drop j = C.prof.drop j ↔ B.prof = C.prof) }) [2, 3] (fun x => [(5, .int .i64 (x.1 : Int))]) (fun _ => .own r3 (.cells (List.toArray (bkC C D)) 27 (0, 0)) :: .own r2 (.cells (List.toArray (bkC B A)) 27 (0, 0)) :: H) (fun x => B.prof.length - x.1) (⟨0, Nat.zero_le _, Iff.rfl⟩) rfl ?_ (by repeat (first | exact trivial | refine ⟨rfl, ?_⟩)) sb
  rintro ⟨j, hj, hd⟩ again
  simp only at again ⊢
  refine At.seq (At.seq (At.region ?_)); refine At.v rfl rfl rfl rfl rfl trivial ?_; refine At.fa 0 rfl rfl rfl rfl rfl rfl rfl ?_; refine At.ld 1 rfl rfl rfl rfl rfl rfl rfl rfl rfl ?_; refine At.ln rfl rfl rfl rfl rfl rfl rfl rfl ?_; refine At.cp rfl rfl rfl rfl rfl fun b41 h41 => ?_; refine At.regionEnd ?_
  cases b41
  rotate_left
  · have h1 : j < B.prof.length := by simp at h41; omega
    have h2 : j < C.prof.length := by omega
    obtain ⟨pa, pc, ma, mc⟩ := A
    obtain ⟨pa', pc', ma', mc'⟩ := D
    obtain ⟨b, off, e1, c1⟩ := hp1.el (List.getElem?_eq_getElem h1)
    obtain ⟨b', off', e2, c2⟩ := hp2.el (List.getElem?_eq_getElem h2)
    simp only at e1 e2
    subst e1 e2
    rw [ext_drop q3 h1 h2] at hd
    refine At.cond rfl ?_; refine At.skip (At.seq ?_); refine At.block ?_; refine At.seq ?_; refine At.drawJ hmix [] rfl ?_; refine Pool.fa 0 0 rfl rfl rfl rfl rfl rfl rfl rfl rfl ?_; refine Pool.ld 1 1 rfl rfl rfl rfl rfl rfl rfl rfl rfl rfl rfl ?_; refine Pool.v 2 rfl rfl rfl rfl rfl rfl rfl trivial ?_; refine Pool.q 3 rfl rfl rfl rfl rfl (q_ia rfl rfl rfl (by assumption)) rfl ?_; refine Pool.ldc 4 rfl rfl rfl rfl rfl rfl rfl c1.a rfl rfl rfl ?_
    refine Pool.fa 0 5 rfl rfl rfl rfl rfl rfl rfl rfl rfl ?_; refine Pool.ld 0 6 rfl rfl rfl rfl rfl rfl rfl rfl rfl rfl rfl ?_; refine Pool.v 7 rfl rfl rfl rfl rfl rfl rfl trivial ?_; refine Pool.q 8 rfl rfl rfl rfl rfl (q_ia rfl rfl rfl (by assumption)) rfl ?_; refine Pool.ldc 9 rfl rfl rfl rfl rfl rfl rfl c2.a rfl rfl rfl ?_; refine Pool.qb 10 rfl rfl rfl rfl rfl (q_neqS rfl rfl rfl rfl rfl rfl rfl rfl) rfl fun b54 h54 => ?_; refine pool_done rfl rfl ?_; refine At.regionEnd ?_
    cases b54
    · have e : B.prof[j] = C.prof[j] := by
        simp at h54
        exact Prod.ext h54.1 h54.2
      refine At.cond rfl ?_; refine At.skip ?_; refine At.inBlock ?_; refine At.region ?_; refine At.v rfl rfl rfl rfl rfl trivial ?_; refine At.v rfl rfl rfl rfl rfl (by omega) ?_; refine At.v rfl rfl rfl rfl rfl trivial ?_; refine At.regionEnd ?_
      refine At.tA ((again ⟨j + 1, h1, by rw [← hd]; simp [e]⟩ (by simp; omega)))
    · have e : B.prof[j] ≠ C.prof[j] := by
        intro e
        rw [e] at h54
        simp at h54
      rw [decide_eq_false (fun h => e (hd.2 h.2.2.1).1)] at hc
      refine At.cond rfl ?_; refine At.seq (At.region ?_); refine At.v rfl rfl rfl rfl rfl trivial ?_; refine At.regionEnd ?_
      exact At.ret Tryz.func11 (.inr ⟨_, rfl⟩) rfl (.tmp rfl .nil) (wk (hc _ _ (⟨by rfl, rfl⟩)))
  · have e : j = B.prof.length := by simp at h41; omega
    subst e
    have q5 : B.prof = C.prof := by
      rw [← hd, List.drop_length, q3, List.drop_length]
    refine At.cond rfl ?_; refine At.exit rfl ?_; refine At.seq (At.seq (At.region ?_)); refine At.v rfl rfl rfl rfl rfl trivial ?_; refine At.regionEnd ?_; refine At.block ?_
    refine At.lpk (X := { j : Nat // j ≤ B.marks.length ∧ (B.marks.drop j = C.marks.drop j ↔ B.marks = C.marks) }) [2, 3] (fun x => [(6, .int .i64 (x.1 : Int))]) (fun _ => .own r3 (.cells (List.toArray (bkC C D)) 27 (0, 0)) :: .own r2 (.cells (List.toArray (bkC B A)) 27 (0, 0)) :: H) (fun x => B.marks.length - x.1) (⟨0, Nat.zero_le _, Iff.rfl⟩) rfl ?_ (by repeat (first | exact trivial | refine ⟨rfl, ?_⟩)) sb
    rintro ⟨j, hj, hd2⟩ again2
    simp only at again2 ⊢
    refine At.seq (At.seq (At.region ?_)); refine At.v rfl rfl rfl rfl rfl trivial ?_; refine At.fa 4 rfl rfl rfl rfl rfl rfl rfl ?_; refine At.ld 1 rfl rfl rfl rfl rfl rfl rfl rfl rfl ?_; refine At.ln rfl rfl rfl rfl rfl rfl rfl rfl ?_; refine At.cp rfl rfl rfl rfl rfl fun b59 h59 => ?_; refine At.regionEnd ?_
    cases b59
    rotate_left
    · have h1 : j < B.marks.length := by simp at h59; omega
      have h2 : j < C.marks.length := by omega
      obtain ⟨pa, pc, ma, mc⟩ := A
      obtain ⟨pa', pc', ma', mc'⟩ := D
      obtain ⟨b, off, e1, c1⟩ := hm1.el (List.getElem?_eq_getElem h1)
      obtain ⟨b', off', e2, c2⟩ := hm2.el (List.getElem?_eq_getElem h2)
      simp only at e1 e2
      subst e1 e2
      rw [ext_drop q4 h1 h2] at hd2
      refine At.cond rfl ?_; refine At.skip (At.seq ?_); refine At.block ?_; refine At.seq ?_; refine At.drawJ hmix [] rfl ?_; refine Pool.fa 4 0 rfl rfl rfl rfl rfl rfl rfl rfl rfl ?_; refine Pool.ld 1 1 rfl rfl rfl rfl rfl rfl rfl rfl rfl rfl rfl ?_; refine Pool.v 2 rfl rfl rfl rfl rfl rfl rfl trivial ?_; refine Pool.q 3 rfl rfl rfl rfl rfl (q_ia rfl rfl rfl (by assumption)) rfl ?_; refine Pool.ldc 4 rfl rfl rfl rfl rfl rfl rfl c1.a rfl rfl rfl ?_
      refine Pool.fa 4 5 rfl rfl rfl rfl rfl rfl rfl rfl rfl ?_; refine Pool.ld 0 6 rfl rfl rfl rfl rfl rfl rfl rfl rfl rfl rfl ?_; refine Pool.v 7 rfl rfl rfl rfl rfl rfl rfl trivial ?_; refine Pool.q 8 rfl rfl rfl rfl rfl (q_ia rfl rfl rfl (by assumption)) rfl ?_; refine Pool.ldc 9 rfl rfl rfl rfl rfl rfl rfl c2.a rfl rfl rfl ?_; refine Pool.qb 10 rfl rfl rfl rfl rfl (q_neqS rfl rfl rfl rfl rfl rfl rfl rfl) rfl fun b72 h72 => ?_; refine pool_done rfl rfl ?_; refine At.regionEnd ?_
      cases b72
      · have e : B.marks[j] = C.marks[j] := by
          simp at h72
          exact Prod.ext (Prod.ext h72.1 h72.2.1) h72.2.2
        refine At.cond rfl ?_; refine At.skip ?_; refine At.inBlock ?_; refine At.region ?_; refine At.v rfl rfl rfl rfl rfl trivial ?_; refine At.v rfl rfl rfl rfl rfl (by omega) ?_; refine At.v rfl rfl rfl rfl rfl trivial ?_; refine At.regionEnd ?_
        refine At.tA ((again2 ⟨j + 1, h1, by rw [← hd2]; simp [e]⟩ (by simp; omega)))
      · have e : B.marks[j] ≠ C.marks[j] := by
          intro e
          rw [e] at h72
          simp at h72
        rw [decide_eq_false (fun h => e (hd2.2 h.2.2.2).1)] at hc
        refine At.cond rfl ?_; refine At.seq (At.region ?_); refine At.v rfl rfl rfl rfl rfl trivial ?_; refine At.regionEnd ?_
        exact At.ret Tryz.func11 (.inr ⟨_, rfl⟩) rfl (.tmp rfl .nil) (wk (hc _ _ (⟨by rfl, rfl⟩)))
    · have e : j = B.marks.length := by simp at h59; omega
      subst e
      have q6 : B.marks = C.marks := by
        rw [← hd2, List.drop_length, q4, List.drop_length]
      rw [decide_eq_true ⟨q1, q2, q5, q6⟩] at hc
      refine At.cond rfl ?_; refine At.exit rfl ?_; refine At.seq (At.region ?_); refine At.v rfl rfl rfl rfl rfl trivial ?_; refine At.regionEnd ?_
      exact At.ret Tryz.func11 (.inr ⟨_, rfl⟩) rfl (.tmp rfl .nil) (wk (hc _ _ (⟨by rfl, rfl⟩)))
end Go.Gx
end

section
namespace Go.Gx
open Go Go.Conc Go.Proofs
variable {main : Bool}

instance : DecidablePred isDig := fun d => by unfold isDig; infer_instance
set_option maxRecDepth 100000 in
theorem digs_ok : ∀ n : _root_.Fin 100, (∀ d ∈ digs n.1, isDig d) ∧ ((digs n.1).head? ≠ some 48 ∨ ((digs n.1).length = 1 ∧ n.1 = 0)) ∧ dval (digs n.1) = (n.1 : Int) ∧ 0 < (digs n.1).length ∧ (digs n.1).length ≤ 9 := by decide
theorem num_ok {i : Int} (h0 : -100 < i) (h1 : i < 100) : NumOk (decide (i < 0)) (digs i.natAbs) ∧ sgn (decide (i < 0)) (digs i.natAbs) = sayI i ∧ sval (decide (i < 0)) (digs i.natAbs) = i := by
  obtain ⟨a1, a2, a3, a4, a5⟩ := digs_ok ⟨i.natAbs, by omega⟩
  simp only at a1 a2 a3 a4 a5
  refine ⟨⟨a4, a5, a1, ?_⟩, ?_, ?_⟩
  · rcases a2 with h | ⟨h, h'⟩
    · exact .inl h
    · exact .inr ⟨h, decide_eq_false (by omega)⟩
  · unfold sgn sayI
    by_cases h : i < 0
    · rw [decide_eq_true h, if_pos h]; rfl
    · rw [decide_eq_false h, if_neg h]; rfl
  · unfold sval
    rw [a3]
    by_cases h : i < 0
    · rw [decide_eq_true h]; show -(i.natAbs : Int) = i; omega
    · rw [decide_eq_false h]; show (i.natAbs : Int) = i; omega
def Fld (f : List UInt8) : Prop := (32 : UInt8) ∉ f ∧ (10 : UInt8) ∉ f ∧ f ≠ []
theorem dig_no {ds : List UInt8} (h : ∀ d ∈ ds, isDig d) {b : UInt8} (hb : ¬ isDig b) : b ∉ ds := fun hm => hb (h b hm)
theorem fld_say {i : Int} (h0 : -100 < i) (h1 : i < 100) : Fld (sayI i) := by
  obtain ⟨a1, _, _, a4, _⟩ := digs_ok ⟨i.natAbs, by omega⟩
  simp only at a1 a4
  have n32 := dig_no a1 (b := 32) (by decide)
  have n10 := dig_no a1 (b := 10) (by decide)
  have p := @sayI_pos i
  refine ⟨?_, ?_, fun e => by rw [e] at p; simp at p⟩
  · unfold sayI
    split
    · simp [n32]
    · exact n32
  · unfold sayI
    split
    · simp [n10]
    · exact n10
theorem fld_band {lo hi : Int} (h0 : -100 < lo) (h1 : lo < 100) (h2 : -100 < hi) (h3 : hi < 100) : Fld (bandL2 lo hi) := by
  obtain ⟨a1, a2, a3⟩ := fld_say h0 h1
  obtain ⟨b1, b2, b3⟩ := fld_say h2 h3
  unfold bandL2
  split
  · exact ⟨a1, a2, a3⟩
  · refine ⟨by simp [a1, b1], by simp [a2, b2], by simp⟩
theorem fld_word (k : Nat) : Fld (wordL k) := by
  unfold wordL Fld
  split <;> decide
def OkI : LI → Prop
  | .c n lo hi => (-100 < n ∧ n < 100) ∧ (-100 < lo ∧ lo < 100) ∧ (-100 < hi ∧ hi < 100)
  | .p x => (-100 < x.1 ∧ x.1 < 100) ∧ (-100 < x.2 ∧ x.2 < 100)
  | .m x => (-100 < x.1.1 ∧ x.1.1 < 100) ∧ (-100 < x.1.2 ∧ x.1.2 < 100) ∧ (-100 < x.2 ∧ x.2 < 100)
def bodyI (i : LI) : List UInt8 := joinB 32 (wordL (kindN i) :: pieces i)
theorem fld_pieces {i : LI} (h : OkI i) : ∀ f ∈ wordL (kindN i) :: pieces i, Fld f := by
  intro f hf
  rcases List.mem_cons.1 hf with rfl | hf
  · exact fld_word _
  cases i with
  | c n lo hi =>
    obtain ⟨⟨h1, h2⟩, ⟨h3, h4⟩, h5, h6⟩ := h
    simp only [pieces, List.mem_cons, List.not_mem_nil, or_false] at hf
    rcases hf with rfl | rfl
    · exact fld_say h1 h2
    · exact fld_band h3 h4 h5 h6
  | p x =>
    obtain ⟨⟨h1, h2⟩, h3, h4⟩ := h
    simp only [pieces, List.mem_cons, List.not_mem_nil, or_false] at hf
    rcases hf with rfl | rfl
    · exact fld_say h1 h2
    · exact fld_say h3 h4
  | m x =>
    obtain ⟨⟨h1, h2⟩, ⟨h3, h4⟩, h5, h6⟩ := h
    simp only [pieces, List.mem_cons, List.not_mem_nil, or_false] at hf
    rcases hf with rfl | rfl | rfl
    · exact fld_say h1 h2
    · exact fld_say h3 h4
    · exact fld_say h5 h6
theorem joinB_no {b x : UInt8} (hb : x ≠ b) : ∀ {fs : List (List UInt8)}, (∀ f ∈ fs, x ∉ f) → x ∉ joinB b fs
  | [], _ => by simp [joinB]
  | [f], h => h f (by simp)
  | f :: g :: fs, h => by
    have ih := joinB_no hb (fs := g :: fs) fun y hy => h y (List.mem_cons_of_mem _ hy)
    have := h f (by simp)
    simp only [joinB, List.mem_append, List.mem_cons, not_or]
    exact ⟨this, hb, ih⟩
theorem body_no {i : LI} (h : OkI i) : (10 : UInt8) ∉ bodyI i := joinB_no (by decide) fun f hf => (fld_pieces h f hf).2.1
theorem body_len {i : LI} : 0 < (bodyI i).length ∧ (bodyI i).length ≤ 399 := by
  have h1 := @lineI_len i
  have h2 := wordL_len (kindN i)
  have e : lineI i = bodyI i ++ [10] := rfl
  have h3 : (lineI i).length = (bodyI i).length + 1 := by rw [e, List.length_append]; rfl
  refine ⟨?_, by omega⟩
  unfold bodyI
  cases hp : pieces i with
  | nil => simp only [joinB]; omega
  | cons f fs => simp only [joinB, List.length_append, List.length_cons]; omega
theorem cut_line {u : List UInt8} : cutE (u ++ [10]) = u := by
  unfold cutE
  rw [if_pos (by simp)]
  simp
theorem cut_body {u : List UInt8} (h : (10 : UInt8) ∉ u) : cutE u = u := by
  unfold cutE
  rw [if_neg]
  intro e
  exact h (List.mem_of_getLast? e)
theorem line_ok (L : Lg Tryz.prog main) (H : Facts) (ht : TabT H) {i : LI} (h : OkI i) : Pure L 44 #[.string (S (bodyI i))] H (ifV i) := by
  have hf : ∀ f ∈ wordL (kindN i) :: pieces i, (32 : UInt8) ∉ f ∧ f ≠ [] := fun f hm => ⟨(fld_pieces h f hm).1, (fld_pieces h f hm).2.2⟩
  have hl : (joinB 32 (wordL (kindN i) :: pieces i)).length ≤ 50000 := by have := (@body_len i).2; unfold bodyI at this; omega
  cases i with
  | c n lo hi =>
    obtain ⟨⟨h1, h2⟩, ⟨h3, h4⟩, h5, h6⟩ := h
    obtain ⟨a1, a2, a3⟩ := num_ok h1 h2
    obtain ⟨b1, b2, b3⟩ := num_ok h3 h4
    obtain ⟨c1, c2, c3⟩ := num_ok h5 h6
    have hb : ∀ H, Pure L 99 #[.string (S (bandL2 lo hi))] H (.agg #[.int .i64 lo, .int .i64 hi]) := by
      intro H
      unfold bandL2
      by_cases e : lo = hi
      · subst e
        rw [if_pos rfl]
        have := s99a L H b1
        rw [b2, b3] at this
        exact this
      · rw [if_neg e]
        have := s99b L H b1 c1 (by rw [b3, c3]; exact e)
        rw [b2, c2, b3, c3] at this
        rw [List.append_assoc]
        exact this
    have hf' : ∀ f ∈ [wordL 0, sgn (decide (n < 0)) (digs n.natAbs), bandL2 lo hi], (32 : UInt8) ∉ f ∧ f ≠ [] := by rw [a2]; exact hf
    have := s44c L H ht a1 hb hf' (by rw [a2]; exact hl)
    rw [a2, a3] at this
    exact this
  | p x =>
    obtain ⟨⟨h1, h2⟩, h3, h4⟩ := h
    obtain ⟨a1, a2, a3⟩ := num_ok h1 h2
    obtain ⟨b1, b2, b3⟩ := num_ok h3 h4
    have := s44p L H ht a1 b1 (by rw [a2, b2]; exact hf) (by rw [a2, b2]; exact hl)
    rw [a2, b2, a3, b3] at this
    exact this
  | m x =>
    obtain ⟨⟨h1, h2⟩, ⟨h3, h4⟩, h5, h6⟩ := h
    obtain ⟨a1, a2, a3⟩ := num_ok h1 h2
    obtain ⟨b1, b2, b3⟩ := num_ok h3 h4
    obtain ⟨c1, c2, c3⟩ := num_ok h5 h6
    have := s44m L H ht a1 b1 c1 (by rw [a2, b2, c2]; exact hf) (by rw [a2, b2, c2]; exact hl)
    rw [a2, b2, c2, a3, b3, c3] at this
    exact this
end Go.Gx
end

section
namespace Go.Gx
open Go Go.Conc Go.Proofs
variable {main : Bool}

def wsA (is : List LI) : List (List UInt8) := is.map lineI
def wsB : List LI → List (List UInt8)
  | [] => []
  | [i] => [bodyI i]
  | i :: j :: is => lineI i :: wsB (j :: is)
theorem wsA_ok : ∀ {is : List LI}, (∀ i ∈ is, OkI i) → LnOk (wsA is)
  | [], _ => .nil
  | i :: is, h => .cons (u := bodyI i) (body_no (h i (List.mem_cons_self ..))) (wsA_ok fun x hx => h x (List.mem_cons_of_mem _ hx))
theorem wsB_ok : ∀ {is : List LI}, (∀ i ∈ is, OkI i) → LnOk (wsB is)
  | [], _ => .nil
  | [i], h => .last (body_no (h i (List.mem_cons_self ..))) (fun e => by have := (@body_len i).1; rw [e] at this; simp at this)
  | i :: j :: is, h => .cons (u := bodyI i) (body_no (h i (List.mem_cons_self ..))) (wsB_ok fun x hx => h x (List.mem_cons_of_mem _ hx))
theorem wsB_flat : ∀ {is : List LI}, is ≠ [] → (wsB is).flatten ++ [10] = (wsA is).flatten
  | [], h => absurd rfl h
  | [i], _ => by simp [wsB, wsA, lineI, lineB, bodyI]
  | i :: j :: is, _ => by
    have ih := wsB_flat (is := j :: is) (by simp)
    show (lineI i :: wsB (j :: is)).flatten ++ [10] = (lineI i :: wsA (j :: is)).flatten
    rw [List.flatten_cons, List.flatten_cons, List.append_assoc, ih]
theorem wsB_len : ∀ {is : List LI}, (wsB is).length = is.length
  | [] => rfl
  | [i] => rfl
  | i :: j :: is => by
    have ih := wsB_len (is := j :: is)
    show (wsB (j :: is)).length + 1 = _
    rw [ih]; rfl
theorem wsA_len {is : List LI} : (wsA is).length = is.length := by simp [wsA]
theorem wsA_cut {is : List LI} {j : Nat} {w : List UInt8} {it : LI} (hw : (wsA is)[j]? = some w) (hi : is[j]? = some it) : cutE w = bodyI it := by
  unfold wsA at hw
  rw [List.getElem?_map, hi] at hw
  cases hw
  exact cut_line
theorem wsB_cut : ∀ {is : List LI} {j : Nat} {w : List UInt8} {it : LI}, (∀ i ∈ is, OkI i) → (wsB is)[j]? = some w → is[j]? = some it → cutE w = bodyI it
  | [], j, w, it, _, hw, _ => by simp [wsB] at hw
  | [i], 0, w, it, h, hw, hi => by
    cases hw
    cases hi
    exact cut_body (body_no (h i (List.mem_cons_self ..)))
  | [i], j + 1, w, it, _, hw, _ => by simp [wsB] at hw
  | i :: i' :: is, 0, w, it, h, hw, hi => by
    cases hw
    cases hi
    exact cut_line
  | i :: i' :: is, j + 1, w, it, h, hw, hi => wsB_cut (is := i' :: is) (j := j) (fun x hx => h x (List.mem_cons_of_mem _ hx)) hw hi
theorem fold_p : ∀ (ps : List R2) (B : Bk), (ps.map LI.p).foldl stepB B = { B with prof := B.prof ++ ps }
  | [], B => by simp
  | p :: ps, B => by
    rw [List.map_cons, List.foldl_cons, fold_p ps]
    simp [stepB]
theorem fold_m : ∀ (ms : List (R2 × Int)) (B : Bk), (ms.map LI.m).foldl stepB B = { B with marks := B.marks ++ ms }
  | [], B => by simp
  | m :: ms, B => by
    rw [List.map_cons, List.foldl_cons, fold_m ms]
    simp [stepB]
theorem preB_all (B : Bk) : preB (itemsB B) (itemsB B).length = B := by
  unfold preB
  rw [List.take_length]
  unfold itemsB
  rw [List.foldl_cons, List.foldl_append, fold_p, fold_m]
  simp [stepB, bk0]
theorem kind_at {B : Bk} {j : Nat} {it : LI} (h : (itemsB B)[j]? = some it) : kindI it = if j = 0 then 0 else if j ≤ B.prof.length then 1 else 2 := by
  unfold itemsB at h
  cases j with
  | zero => cases h; rfl
  | succ j =>
    rw [List.getElem?_cons_succ] at h
    rw [if_neg (by omega)]
    by_cases hj : j < B.prof.length
    · rw [if_pos (by omega)]
      rw [List.getElem?_append_left (by simpa using hj), List.getElem?_map] at h
      obtain ⟨x, _, rfl⟩ := Option.map_eq_some_iff.1 h
      rfl
    · rw [if_neg (by omega)]
      rw [List.getElem?_append_right (by simpa using hj), List.getElem?_map] at h
      obtain ⟨x, _, rfl⟩ := Option.map_eq_some_iff.1 h
      rfl
theorem ord_items {B : Bk} (j : Nat) (it : LI) (h : (itemsB B)[j]? = some it) : lastK (itemsB B) j ≤ kindI it ∧ (kindI it = 0 ↔ j = 0) := by
  have hk := kind_at h
  cases j with
  | zero =>
    rw [hk]
    exact ⟨by simp [lastK], by simp⟩
  | succ j =>
    have hlt := (List.getElem?_eq_some_iff.1 h).1
    have hj : (itemsB B)[j]? = some (itemsB B)[j] := List.getElem?_eq_getElem (by omega)
    rw [lastK_succ hj, kind_at hj, hk]
    refine ⟨?_, ?_⟩
    · repeat' split
      all_goals omega
    · repeat' split
      all_goals omega
theorem items_ok {B : Bk} (hz : bookBar B = 0) : ∀ i ∈ itemsB B, OkI i := by
  obtain ⟨hp2, hp5, hpp, hs1, hs30, hlo, hlh, hhi, hd, hm4, hmm⟩ := bounds_of_bar hz
  intro i hi
  unfold itemsB at hi
  simp only [List.mem_cons, List.mem_append, List.mem_map] at hi
  rcases hi with rfl | ⟨p, hp, rfl⟩ | ⟨m, hm, rfl⟩
  · exact ⟨⟨by omega, by omega⟩, ⟨by omega, by omega⟩, by omega, by omega⟩
  · have := hpp p hp
    unfold PtOk at this
    exact ⟨⟨by omega, by omega⟩, by omega, by omega⟩
  · obtain ⟨h1, h2⟩ := markBar_bd (hmm m hm)
    exact ⟨⟨by omega, by omega⟩, ⟨by omega, by omega⟩, by omega, by omega⟩
theorem items_len {B : Bk} : (itemsB B).length = 1 + B.prof.length + B.marks.length := by
  unfold itemsB
  simp; omega
theorem textB_flat (B : Bk) : (wsA (itemsB B)).flatten = textB B := by
  unfold wsA textB
  rw [List.flatMap_def]
theorem textB_cut (B : Bk) : (wsB (itemsB B)).flatten ++ [10] = textB B := by
  rw [wsB_flat (by simp [itemsB]), textB_flat]
theorem textB_len {B : Bk} (hz : bookBar B = 0) : 0 < (textB B).length ∧ (textB B).length ≤ 4000 := by
  obtain ⟨hp2, hp5, hpp, hs1, hs30, hlo, hlh, hhi, hd, hm4, hmm⟩ := bounds_of_bar hz
  have h1 := flatL_len (f := lineI) (fun x => (@lineI_len x).2) (itemsB B)
  rw [items_len] at h1
  refine ⟨?_, by unfold textB; omega⟩
  have := (@lineI_len (.c B.size B.lo B.hi)).1
  unfold textB itemsB
  rw [List.flatMap_cons, List.length_append]; omega
theorem back1 (L : Lg Tryz.prog main) (H : Facts) {B : Bk} (hz : bookBar B = 0) (hg : Cells H 1 0 chkC) (ht : TabT H) :
    Grows L 9 #[.string (S (textB B))] H (fun v sf => ∃ A, v = .tuple #[bkV B A, .int .i64 0, .int .i64 0] ∧ BkO B A sf) := by
  obtain ⟨hp2, hp5, hpp, hs1, hs30, hlo, hlh, hhi, hd, hm4, hmm⟩ := bounds_of_bar hz
  have hl := textB_len hz
  have hil := @items_len B
  have hok := items_ok hz
  have := s9 L H (ws := wsA (itemsB B)) (is := itemsB B) (B := B) (wsA_ok hok) (by rw [textB_flat]; omega) wsA_len.symm (by rw [wsA_len]; omega) (by rw [wsA_len]; omega)
    (fun j w it hw hi H' hs => by rw [wsA_cut hw hi]; exact line_ok L H' (ht.a hs) (hok it (List.mem_of_getElem? hi))) ord_items (preB_all B) hz hg
  rw [textB_flat] at this
  exact this
theorem back2 (L : Lg Tryz.prog main) (H : Facts) {B : Bk} (hz : bookBar B = 0) (hg : Cells H 1 0 chkC) (ht : TabT H) :
    Grows L 9 #[.string (S ((textB B).take ((textB B).length - 1)))] H (fun v sf => ∃ A, v = .tuple #[bkV B A, .int .i64 0, .int .i64 0] ∧ BkO B A sf) := by
  obtain ⟨hp2, hp5, hpp, hs1, hs30, hlo, hlh, hhi, hd, hm4, hmm⟩ := bounds_of_bar hz
  have hl := textB_len hz
  have hil := @items_len B
  have hok := items_ok hz
  have e : (textB B).take ((textB B).length - 1) = (wsB (itemsB B)).flatten := by
    rw [← textB_cut, List.length_append]
    simp
  have hll : (wsB (itemsB B)).flatten.length ≤ 40000 := by
    rw [← e, List.length_take]; omega
  rw [e]
  exact s9 L H (ws := wsB (itemsB B)) (is := itemsB B) (B := B) (wsB_ok hok) hll wsB_len.symm (by rw [wsB_len]; omega) (by rw [wsB_len]; omega)
    (fun j w it hw hi H' hs => by rw [wsB_cut hok hw hi]; exact line_ok L H' (ht.a hs) (hok it (List.mem_of_getElem? hi))) ord_items (preB_all B) hz hg
end Go.Gx
end

section
namespace Go.Gx
open Go Go.Conc Go.Proofs Go.ChangeShapes Go.RowKit YtjdpbechehdefaaGreatDoor

set_option maxRecDepth 100000
theorem own : ownKnob Tryz.prog.godebug = none := by kernel_rfl
abbrev laid1 : List (String × DataW Unit) := Rows.canvasBackRow.laid
theorem fnName {W : World} {fuel : Nat} {cs : List Value} {b : UInt8} {r : List UInt8} {q : List MemPlace} {f0 : FuncId} (hone : ((List.range Tryz.prog.funcs.size).filter fun f => (Tryz.prog.funcs[f]?).any (·.name.toUTF8.data.toList == b :: r)) = [f0])
    (h : DataW.trod (funcToken Tryz.prog) Tryz.prog W 0 (fun _ => true) true fuel 165 cs = some (.agg [.held (b :: r)], q)) : cs = [.func (.func f0) #[] #[]] := by
  obtain ⟨xs, n, rfl, e, hl, hx, hf⟩ := DataW.trod_struct Tryz.underlying165 h
  have hl' : cs.length = 1 := hl.trans (show Tryz.prog.cellsOf 165 = 1 by kernel_rfl)
  match cs, hl', xs, hx, e with
  | [u], _, [y0], _, e =>
    have g0 : DataW.trod (funcToken Tryz.prog) Tryz.prog W 0 (fun _ => true) true n 163 ((List.drop 0 [u]).take (Tryz.prog.cellsOf 163)) = some y0 := hf 0 _ rfl
    rw [show Tryz.prog.cellsOf 163 = 1 by kernel_rfl] at g0
    have e2 : y0.1 = .held (b :: r) := by
      simp only [Prod.mk.injEq, List.map_cons, List.map_nil, DataW.agg.injEq, List.cons.injEq, and_true] at e
      exact e.1.symm
    have k : u = .func (.func f0) #[] #[] := func_of_trod (q := y0.2) Tryz.underlying163 hone (by rw [← e2]; exact g0)
    rw [k]
theorem mem_checks : ("velarium/canvas.checks", Rows.laid_velarium_canvas_checks) ∈ laid1 := by simp [laid1, Rows.canvasBackRow]
theorem of_checks {W : World} (h : laidMetH Tryz.prog laid1 W) : Shr W [.seg 1 0 chkC] := by
  obtain ⟨g, t, cs, fuel, p, hg, ht, hv, hd⟩ := h.funcs mem_checks
  obtain rfl := Option.some.inj ((show Tryz.prog.globalNamed "velarium/canvas.checks" = some 1 by kernel_rfl).symm.trans hg)
  obtain rfl := Option.some.inj ((show (Tryz.prog.globals[1]?).map (·.type) = some 166 by kernel_rfl).symm.trans ht)
  obtain ⟨xs, m, rfl, e, hl, hx, hf⟩ := DataW.trod_array Tryz.underlying166 hd
  have hl' : cs.toList.length = 3 := hl.trans (show Tryz.prog.cellsOf 166 = 3 by kernel_rfl)
  obtain ⟨l⟩ := cs
  match l, hl', xs, hx, e with
  | [u0, u1, u2], _, [y0, y1, y2], _, e =>
    have g0 : DataW.trod (funcToken Tryz.prog) Tryz.prog W 0 (fun _ => true) true m 165 ((List.drop (0 * Tryz.prog.cellsOf 165) [u0, u1, u2]).take (Tryz.prog.cellsOf 165)) = some y0 := hf 0 (by decide)
    have g1 : DataW.trod (funcToken Tryz.prog) Tryz.prog W 0 (fun _ => true) true m 165 ((List.drop (1 * Tryz.prog.cellsOf 165) [u0, u1, u2]).take (Tryz.prog.cellsOf 165)) = some y1 := hf 1 (by decide)
    have g2 : DataW.trod (funcToken Tryz.prog) Tryz.prog W 0 (fun _ => true) true m 165 ((List.drop (2 * Tryz.prog.cellsOf 165) [u0, u1, u2]).take (Tryz.prog.cellsOf 165)) = some y2 := hf 2 (by decide)
    rw [show Tryz.prog.cellsOf 165 = 1 by kernel_rfl] at g0 g1 g2
    have e' : [y0.1, y1.1, y2.1] = [.agg [.held [118, 101, 108, 97, 114, 105, 117, 109, 47, 99, 97, 110, 118, 97, 115, 46, 99, 104, 101, 99, 107, 115, 36, 49]], .agg [.held [118, 101, 108, 97, 114, 105, 117, 109, 47, 99, 97, 110, 118, 97, 115, 46, 99, 104, 101, 99, 107, 115, 36, 50]], .agg [.held [118, 101, 108, 97, 114, 105, 117, 109, 47, 99, 97, 110, 118, 97, 115, 46, 99, 104, 101, 99, 107, 115, 36, 51]]] := by
      have := (Prod.mk.inj e).1
      exact (DataW.agg.inj this).symm
    simp only [List.cons.injEq, and_true] at e'
    have k0 := fnName (f0 := 233) (q := y0.2) (by kernel_rfl) (by rw [← e'.1]; exact g0)
    have k1 := fnName (f0 := 234) (q := y1.2) (by kernel_rfl) (by rw [← e'.2.1]; exact g1)
    have k2 := fnName (f0 := 236) (q := y2.2) (by kernel_rfl) (by rw [← e'.2.2]; exact g2)
    cases k0
    cases k1
    cases k2
    intro f hf
    rw [List.mem_singleton] at hf
    subst hf
    have hc := World.var?_cell hg hv
    refine ⟨rfl, ?_, fun k v hk => ?_⟩
    · have := hc 0
      rcases Nat.lt_or_ge 1 W.heap.size with h | h
      · exact h
      · simp [World.cell?, Array.getElem?_eq_none h] at this
    · have := hc k
      rw [Nat.zero_add, this]
      rw [← Array.getElem?_toList]
      exact hk
theorem var_seg {W : World} {n : String} {g : Nat} {cs : Array Value} {l : List Value} (hg : Tryz.prog.globalNamed n = some g) (hv : W.var? Tryz.prog n = some cs) (hl : cs.toList = l) (h0 : 0 < l.length) : Shr W [.seg g 0 l] := by
  intro f hf
  rw [List.mem_singleton] at hf
  subst hf
  have hc := World.var?_cell hg hv
  have hlen : cs.size = l.length := by rw [← hl]; simp
  refine ⟨rfl, ?_, fun k v hk => ?_⟩
  · have := hc 0
    rw [Array.getElem?_eq_getElem (show 0 < cs.size by omega)] at this
    rcases Nat.lt_or_ge g W.heap.size with h | h
    · exact h
    · simp [World.cell?, Array.getElem?_eq_none h] at this
  · have := hc k
    rw [Nat.zero_add, this, ← Array.getElem?_toList, hl]
    exact hk
theorem arr_of {H : Type} {enc : TypeId × Value → H} {W : World} {base : Nat} {sp : Nat → Bool} {held : Bool} {T e n : Nat} (ht : Tryz.prog.underlying T = some (.array n e)) (h1 : Tryz.prog.cellsOf e = 1) (hc : Tryz.prog.cellsOf T = n) {α : Type} {D : α → DataW H} {V : α → Value}
    (hR : ∀ m u y a, DataW.trod enc Tryz.prog W base sp held m e [u] = some y → y.1 = D a → u = V a) {zs : List α} {fuel : Nat} {cs : List Value} {x : DataW H × List MemPlace} (h : DataW.trod enc Tryz.prog W base sp held fuel T cs = some x) (hx : x.1 = .agg (zs.map D)) : cs = zs.map V := by
  obtain ⟨xs, m, rfl, rfl, hl, hn, hel⟩ := DataW.trod_array ht h
  have hmap : xs.map (·.1) = zs.map D := DataW.agg.inj hx
  have hlen : zs.length = n := by
    have := congrArg List.length hmap
    simp at this; omega
  rw [hc] at hl
  refine List.ext_getElem? fun i => ?_
  by_cases hi : i < n
  · have h2 := hel i hi
    rw [h1, Nat.mul_one] at h2
    have hcs : cs[i]? = some (cs[i]'(by omega)) := List.getElem?_eq_getElem (by omega)
    have hd : (cs.drop i).take 1 = [cs[i]'(by omega)] := by
      rw [List.drop_eq_getElem_cons (by omega)]; rfl
    have hxi : xs[i]? = some (xs[i]'(by omega)) := List.getElem?_eq_getElem (by omega)
    have hai : zs[i]? = some (zs[i]'(by omega)) := List.getElem?_eq_getElem (by omega)
    rw [hd, hxi] at h2
    have h3 : (xs[i]'(by omega)).1 = D (zs[i]'(by omega)) := by
      have := congrArg (fun l => l[i]?) hmap
      simp only [List.getElem?_map, hxi, hai, Option.map_some, Option.some.injEq] at this
      exact this
    rw [hcs, List.getElem?_map, hai, Option.map_some, hR _ _ _ _ h2 h3]
  · rw [List.getElem?_eq_none (by omega), List.getElem?_eq_none (by rw [List.length_map]; omega)]
theorem rd_int {H : Type} {enc : TypeId × Value → H} {W : World} {base : Nat} {sp : Nat → Bool} {held : Bool} {e : TypeId} {k : IntKind} (he : Tryz.prog.underlying e = some (.int k)) : ∀ m u y (a : Int), DataW.trod enc Tryz.prog W base sp held m e [u] = some y → y.1 = DataW.lit (.int k a) → u = .int k a := by
  intro m u y a h hy
  obtain ⟨n, h1, rfl, _⟩ := DataW.trod_int he h
  cases h1
  cases hy
  rfl
theorem rd_str {H : Type} {enc : TypeId × Value → H} {W : World} {base : Nat} {sp : Nat → Bool} {held : Bool} {e : TypeId} (he : Tryz.prog.underlying e = some .string) : ∀ m u y (a : List UInt8), DataW.trod enc Tryz.prog W base sp held m e [u] = some y → y.1 = DataW.lit (.string a) → u = .string (S a) := by
  intro m u y a h hy
  obtain ⟨s, h1, rfl, _⟩ := DataW.trod_string he h
  cases h1
  cases hy
  rfl
def keep3 (x : String × DataW Unit) : Bool := x.1 == "internal/strconv.uint64pow10" || (x.1 == "velarium/canvas.words" || x.1 == "velarium/canvas.fields")
theorem kept3 : laid1.filter keep3 = [("internal/strconv.uint64pow10", Rows.laid_internal_strconv_uint64pow10), ("velarium/canvas.words", Rows.laid_velarium_canvas_words), ("velarium/canvas.fields", Rows.laid_velarium_canvas_fields)] := by kernel_rfl
def tenL : List Int := [1, 10, 100, 1000, 10000, 100000, 1000000, 10000000, 100000000, 1000000000, 10000000000, 100000000000, 1000000000000, 10000000000000, 100000000000000, 1000000000000000, 10000000000000000, 100000000000000000, 1000000000000000000, 10000000000000000000]
def tabF : Facts := [.seg 4 0 tenC, .seg 0 0 wordsC, .seg 2 0 fieldsC]
theorem of_data {W : World} (h : laidMetH Tryz.prog laid1 W) : Shr W tabF := by
  have h3 := laidMetH.filter keep3 h
  rw [kept3, MakeChecks.laidMetH_plain _ _ _ (by kernel_rfl)] at h3
  obtain ⟨ps, ⟨g0, t0, cs0, f0, p0, q0, hg0, ht0, hv0, hd0, ⟨g1, t1, cs1, f1, p1, q1, hg1, ht1, hv1, hd1, ⟨g2, t2, cs2, f2, p2, q2, hg2, ht2, hv2, hd2, _, _⟩, _⟩, _⟩, _, _⟩ := h3
  obtain rfl := Option.some.inj ((show Tryz.prog.globalNamed "internal/strconv.uint64pow10" = some 4 by kernel_rfl).symm.trans hg0)
  obtain rfl := Option.some.inj ((show Tryz.prog.globalNamed "velarium/canvas.words" = some 0 by kernel_rfl).symm.trans hg1)
  obtain rfl := Option.some.inj ((show Tryz.prog.globalNamed "velarium/canvas.fields" = some 2 by kernel_rfl).symm.trans hg2)
  obtain rfl := Option.some.inj ((show (Tryz.prog.globals[4]?).map (·.type) = some 254 by kernel_rfl).symm.trans ht0)
  obtain rfl := Option.some.inj ((show (Tryz.prog.globals[0]?).map (·.type) = some 83 by kernel_rfl).symm.trans ht1)
  obtain rfl := Option.some.inj ((show (Tryz.prog.globals[2]?).map (·.type) = some 155 by kernel_rfl).symm.trans ht2)
  have e0 := arr_of Tryz.underlying254 (by kernel_rfl) (by kernel_rfl) (D := fun i => DataW.lit (.int .u64 i)) (V := fun i => .int .u64 i) (rd_int Tryz.underlying230) (zs := tenL) hd0 rfl
  have e1 := arr_of Tryz.underlying83 (by kernel_rfl) (by kernel_rfl) (D := fun i => DataW.lit (.string i)) (V := fun i => .string (S i)) (rd_str Tryz.underlying9) (zs := [wordL 0, wordL 1, wordL 2]) hd1 rfl
  have e2 := arr_of Tryz.underlying155 (by kernel_rfl) (by kernel_rfl) (D := fun i => DataW.lit (.int .i64 i)) (V := fun i => .int .i64 i) (rd_int Tryz.underlying3) (zs := [2, 2, 3]) hd2 rfl
  have s0 := var_seg hg0 hv0 e0 (by decide)
  have s1 := var_seg hg1 hv1 e1 (by decide)
  have s2 := var_seg hg2 hv2 e2 (by decide)
  exact s0.app (s1.app s2)
end Go.Gx
end

section
namespace Go.Gx
open Go Go.Conc Go.Proofs Go.ChangeShapes Go.RowKit YtjdpbechehdefaaGreatDoor
set_option maxRecDepth 100000

def gF : Facts := .seg 1 0 chkC :: tabF
theorem Shr.glo {W : World} {Hs : Facts} (h : Shr W Hs) : Glo (gF ++ Hs) (gF ++ Hs) := by
  refine ⟨Sub.refl _, ?_, ?_⟩
  · intro f hf
    rcases List.mem_append.1 hf with hf | hf
    · simp only [gF, tabF, List.mem_cons, List.not_mem_nil, or_false] at hf
      rcases hf with rfl | rfl | rfl | rfl <;> rfl
    · exact (h f hf).1
  · exact (cells_seg (H := gF ++ Hs) (b := 1) (off := 0) (us := chkC) (vs := chkC) 0 (by simp [gF]) (by rw [List.drop_zero, List.take_length]) :)
theorem gF_tab {Hs : Facts} : TabT (gF ++ Hs) :=
  ⟨(cells_seg (H := gF ++ Hs) (b := 0) (off := 0) (us := wordsC) (vs := wordsC) 0 (by simp [gF, tabF]) (by rw [List.drop_zero, List.take_length]) :), (cells_seg (H := gF ++ Hs) (b := 2) (off := 0) (us := fieldsC) (vs := fieldsC) 0 (by simp [gF, tabF]) (by rw [List.drop_zero, List.take_length]) :)⟩
theorem gF_ten {Hs : Facts} : Cells (gF ++ Hs) 4 0 tenC :=
  (cells_seg (H := gF ++ Hs) (b := 4) (off := 0) (us := tenC) (vs := tenC) 0 (by simp [gF, tabF]) (by rw [List.drop_zero, List.take_length]) :)
def plainL : List (String × DataW Unit) := laid1.filter fun x => x.2.handleName?.isNone
noncomputable def w0L (os : Os) : World := (World.doorLaid Tryz.prog 90 os).layVars Tryz.prog plainL
theorem w0_os (os : Os) : (w0L os).os = os := (World.layVars_os _ _ _).trans rfl
theorem fits0 (os : Os) : (World.doorLaid Tryz.prog 90 os).layFits Tryz.prog plainL [] = true := by kernel_rfl
theorem ifs0 (os : Os) : (World.doorLaid Tryz.prog 90 os).layIfaces Tryz.prog plainL (w0L os) = true := by kernel_rfl
theorem plain_met (os : Os) (args : Array Value) : laidMet Tryz.prog plainL ((w0L os).forCall (fun _ _ => 0) ⟨#[], args, []⟩).memory := by
  have e1 : (plainL.filter fun x => (plainL.map (·.1)).contains x.1) = plainL := List.filter_eq_self.2 fun x hx => List.contains_iff_mem.2 (List.mem_map.2 ⟨x, hx, rfl⟩)
  have e2 : (plainL.filter fun x => !(plainL.map (·.1)).contains x.1) = [] := List.filter_eq_nil_iff.2 fun x hx => by rw [List.contains_iff_mem.2 (List.mem_map.2 ⟨x, hx, rfl⟩)]; simp
  have h : laidMet Tryz.prog plainL (w0L os) := laidMet_layVars (w0 := World.doorLaid Tryz.prog 90 os) (plainL.map (·.1)) [] (by rw [e1]; rfl) (by rw [e1]; exact fits0 os) (by rw [e1]; exact ifs0 os) (by rw [e2]; exact LaidIn.none)
  exact h.of_heap (by simp [World.memory, World.forCall, Input.heap])
theorem door_met (os : Os) (args : Array Value) : laidMetH Tryz.prog laid1 ((w0L os).forCall (fun _ _ => 0) ⟨#[], args, []⟩).memory :=
  laidMetH_of_parts3 (fuel := 8) (plain_met os args) (by kernel_rfl) (by kernel_rfl)
theorem law_lift {f : FuncId} {fn : Func} {s : ChangeSpec} (hfn : Tryz.prog.funcs[f]? = some fn) (hr : fn.params.toList.all (rowed Tryz.prog) = true) (hres : fn.resultTypes = #[4]) (hvars : s.vars = []) (hi : Tryz.prog.inits.idxOf? f = none)
    (os : Os) (started : os.Started) (H : Type) (enc : TypeId × Value → H) (args0 : Array Value)
    (w1 : ((w0L os).forCall (fun _ _ => 0) ⟨#[], args0, []⟩).Shaped Tryz.prog)
    (w2 : Input.okWideB Tryz.prog ((w0L os).forCall (fun _ _ => 0) ⟨#[], args0, []⟩) f ⟨#[], args0, []⟩ = true)
    (w3 : s.preB enc Tryz.prog fn [] false ((w0L os).forCall (fun _ _ => 0) ⟨#[], args0, []⟩).memory args0 8 = true)
    (w4 : s.sizedB enc Tryz.prog fn false ((w0L os).forCall (fun _ _ => 0) ⟨#[], args0, []⟩).memory args0 8 = true)
    (walk : ∀ (W : World) (base : Nat) (args : Array Value) (ds : List (DataW H)) (ps : List MemPlace), (∀ (j : Nat) t v, fn.params[j]? = some t → args[j]? = some v → Value.okWide Tryz.prog W .any base t v) →
      DataW.TrodAll enc Tryz.prog W 0 (fun _ => true) true fn.params.toList args.toList ds ps →
      s.fn H ds = { results := [.lit (.bool true)], args := ds } ∧ ∃ Hs, Shr W Hs ∧ ∀ Post, LawAt (mainLg Tryz.prog Post W [] []) f args (gF ++ Hs) (.bool true)) :
    ReturnsInLeavingWide {} Tryz.checked os f .any (fun w args => (s.pre enc Tryz.prog fn [] false w args ∧ laidMetH Tryz.prog laid1 w) ∧ sizedMet enc Tryz.prog fn (OpenSpec.ofChange s) false w args) (s.post enc Tryz.prog fn false true false false) := by
  refine returnsInLeavingWide_of_change_and (C := Tryz.checked) (X := fun w _ => laidMetH Tryz.prog laid1 w) (fun _ _ _ hh h => h.of_heap hh) own started hfn
    (ChangeSpec.witness_shaped (enc := enc) (C := Tryz.checked) (os := os) (X := fun w _ => laidMetH Tryz.prog laid1 w) false (w0L os) args0 8 (w0_os os) w1 w2 w3 w4 (door_met os _)) ?_
  intro W base args ds gs before hval hW hL
  obtain ⟨p, q, hA, hV, _, _, _⟩ := id hW
  obtain ⟨hs, Hs, hsh, hw⟩ := walk W base args ds p hval hA
  have hall : Shr W (gF ++ Hs) := ((show Shr W gF from (of_checks hL).app (of_data hL))).app hsh
  exact (hw _).ends hi (fun w hf => law_post (by kernel_rfl) hr hres Tryz.underlying4 hvars hW hs hf) hall.holds fun f hf => (hall f hf).1
end Go.Gx
end

section
namespace Go.Gx
open Go Go.Proofs YtjdpbechehdefaaGreatDoor
set_option maxRecDepth 100000
def ioL : List Char := [.ofNat 104, .ofNat 97, .ofNat 114, .ofNat 110, .ofNat 101, .ofNat 115, .ofNat 115, .ofNat 32, .ofNat 54, .ofNat 102, .ofNat 53, .ofNat 102, .ofNat 97, .ofNat 98, .ofNat 56, .ofNat 102, .ofNat 49, .ofNat 52, .ofNat 54, .ofNat 99, .ofNat 51, .ofNat 98, .ofNat 48, .ofNat 48, .ofNat 54, .ofNat 102, .ofNat 99, .ofNat 102, .ofNat 102, .ofNat 57, .ofNat 49, .ofNat 51, .ofNat 100, .ofNat 100, .ofNat 56, .ofNat 97, .ofNat 55, .ofNat 54, .ofNat 56, .ofNat 57, .ofNat 52, .ofNat 99, .ofNat 49, .ofNat 100, .ofNat 100, .ofNat 99, .ofNat 56, .ofNat 56, .ofNat 102, .ofNat 51, .ofNat 48, .ofNat 100, .ofNat 97, .ofNat 99, .ofNat 50, .ofNat 50, .ofNat 101, .ofNat 99, .ofNat 99, .ofNat 54, .ofNat 98, .ofNat 49, .ofNat 99, .ofNat 101, .ofNat 101, .ofNat 102, .ofNat 100, .ofNat 97, .ofNat 98, .ofNat 50, .ofNat 52, .ofNat 98, .ofNat 32, .ofNat 99, .ofNat 117, .ofNat 116, .ofNat 32, .ofNat 97, .ofNat 116, .ofNat 32, .ofNat 118, .ofNat 101, .ofNat 108, .ofNat 97, .ofNat 114, .ofNat 105, .ofNat 117, .ofNat 109, .ofNat 47, .ofNat 118, .ofNat 101, .ofNat 108, .ofNat 97, .ofNat 114, .ofNat 105, .ofNat 117, .ofNat 109, .ofNat 108, .ofNat 97, .ofNat 119, .ofNat 48, .ofNat 50, .ofNat 46, .ofNat 67, .ofNat 97, .ofNat 110, .ofNat 118, .ofNat 97, .ofNat 115, .ofNat 84, .ofNat 101, .ofNat 120, .ofNat 116, .ofNat 115, .ofNat 32, .ofNat 118, .ofNat 101, .ofNat 108, .ofNat 97, .ofNat 114, .ofNat 105, .ofNat 117, .ofNat 109, .ofNat 47, .ofNat 118, .ofNat 101, .ofNat 108, .ofNat 97, .ofNat 114, .ofNat 105, .ofNat 117, .ofNat 109, .ofNat 108, .ofNat 97, .ofNat 119, .ofNat 48, .ofNat 50, .ofNat 46, .ofNat 67, .ofNat 97, .ofNat 110, .ofNat 118, .ofNat 97, .ofNat 115, .ofNat 66, .ofNat 97, .ofNat 99, .ofNat 107]
theorem io_of : Tryz.prog.initOrder = String.ofList ioL := by kernel_rfl
theorem io_l : Tryz.prog.initOrder.toList = ioL := by rw [io_of]; exact String.toList_ofList
def wsL : List (List Char) := [[.ofNat 104, .ofNat 97, .ofNat 114, .ofNat 110, .ofNat 101, .ofNat 115, .ofNat 115], [.ofNat 54, .ofNat 102, .ofNat 53, .ofNat 102, .ofNat 97, .ofNat 98, .ofNat 56, .ofNat 102, .ofNat 49, .ofNat 52, .ofNat 54, .ofNat 99, .ofNat 51, .ofNat 98, .ofNat 48, .ofNat 48, .ofNat 54, .ofNat 102, .ofNat 99, .ofNat 102, .ofNat 102, .ofNat 57, .ofNat 49, .ofNat 51, .ofNat 100, .ofNat 100, .ofNat 56, .ofNat 97, .ofNat 55, .ofNat 54, .ofNat 56, .ofNat 57, .ofNat 52, .ofNat 99, .ofNat 49, .ofNat 100, .ofNat 100, .ofNat 99, .ofNat 56, .ofNat 56, .ofNat 102, .ofNat 51, .ofNat 48, .ofNat 100, .ofNat 97, .ofNat 99, .ofNat 50, .ofNat 50, .ofNat 101, .ofNat 99, .ofNat 99, .ofNat 54, .ofNat 98, .ofNat 49, .ofNat 99, .ofNat 101, .ofNat 101, .ofNat 102, .ofNat 100, .ofNat 97, .ofNat 98, .ofNat 50, .ofNat 52, .ofNat 98], [.ofNat 99, .ofNat 117, .ofNat 116], [.ofNat 97, .ofNat 116], [.ofNat 118, .ofNat 101, .ofNat 108, .ofNat 97, .ofNat 114, .ofNat 105, .ofNat 117, .ofNat 109, .ofNat 47, .ofNat 118, .ofNat 101, .ofNat 108, .ofNat 97, .ofNat 114, .ofNat 105, .ofNat 117, .ofNat 109, .ofNat 108, .ofNat 97, .ofNat 119, .ofNat 48, .ofNat 50, .ofNat 46, .ofNat 67, .ofNat 97, .ofNat 110, .ofNat 118, .ofNat 97, .ofNat 115, .ofNat 84, .ofNat 101, .ofNat 120, .ofNat 116, .ofNat 115], [.ofNat 118, .ofNat 101, .ofNat 108, .ofNat 97, .ofNat 114, .ofNat 105, .ofNat 117, .ofNat 109, .ofNat 47, .ofNat 118, .ofNat 101, .ofNat 108, .ofNat 97, .ofNat 114, .ofNat 105, .ofNat 117, .ofNat 109, .ofNat 108, .ofNat 97, .ofNat 119, .ofNat 48, .ofNat 50, .ofNat 46, .ofNat 67, .ofNat 97, .ofNat 110, .ofNat 118, .ofNat 97, .ofNat 115, .ofNat 66, .ofNat 97, .ofNat 99, .ofNat 107]]
theorem ws1 : wordsSigns ioL = wsL := by kernel_rfl
def rsL : List (List Char) := [[.ofNat 99, .ofNat 117, .ofNat 116], [.ofNat 97, .ofNat 116], [.ofNat 118, .ofNat 101, .ofNat 108, .ofNat 97, .ofNat 114, .ofNat 105, .ofNat 117, .ofNat 109, .ofNat 47, .ofNat 118, .ofNat 101, .ofNat 108, .ofNat 97, .ofNat 114, .ofNat 105, .ofNat 117, .ofNat 109, .ofNat 108, .ofNat 97, .ofNat 119, .ofNat 48, .ofNat 50, .ofNat 46, .ofNat 67, .ofNat 97, .ofNat 110, .ofNat 118, .ofNat 97, .ofNat 115, .ofNat 84, .ofNat 101, .ofNat 120, .ofNat 116, .ofNat 115], [.ofNat 118, .ofNat 101, .ofNat 108, .ofNat 97, .ofNat 114, .ofNat 105, .ofNat 117, .ofNat 109, .ofNat 47, .ofNat 118, .ofNat 101, .ofNat 108, .ofNat 97, .ofNat 114, .ofNat 105, .ofNat 117, .ofNat 109, .ofNat 108, .ofNat 97, .ofNat 119, .ofNat 48, .ofNat 50, .ofNat 46, .ofNat 67, .ofNat 97, .ofNat 110, .ofNat 118, .ofNat 97, .ofNat 115, .ofNat 66, .ofNat 97, .ofNat 99, .ofNat 107]]
theorem b1 : behindMainWord wsL = rsL := by kernel_rfl
theorem lf1 : Tryz.prog.liftsFinal = false := by
  unfold Program.liftsFinal Program.headLifts
  rw [io_l, ws1, b1]
  kernel_rfl
theorem make_cut {P : Program} {rest : List (List Char)} (h : behindMainWord (wordsSigns P.initOrder.toList) = "cut".toList :: rest) : P.make = some .cut := by
  unfold Program.make
  rw [h]
  rfl
theorem hrs : rsL = "cut".toList :: rsL.tail := by kernel_rfl
theorem make1 : Tryz.prog.make = some .cut := make_cut (by rw [io_l, ws1, b1]; exact hrs)
theorem enter_cut {P : Program} {rest : List (List Char)} (h : behindMainWord (wordsSigns P.initOrder.toList) = "cut".toList :: rest) (h1 : P.laysLater = false) (h2 : P.bearsReflect = false) (h3 : P.doorFits [] = true) : P.mayEnter = true := by
  have e : stripLifts liftWords ("cut".toList :: rest) = ([], "cut".toList :: rest) := rfl
  unfold Program.mayEnter
  rw [h]
  simp only [e, h1, h2, h3]
  simp
theorem ll1 : Tryz.prog.laysLater = false := by kernel_rfl
theorem br1 : Tryz.prog.bearsReflect = false := by kernel_rfl
theorem df1 : Tryz.prog.doorFits [] = true := by kernel_rfl
theorem enter1 : Tryz.prog.mayEnter = true := enter_cut (by rw [io_l, ws1, b1]; exact hrs) ll1 br1 df1
theorem main_of {P : Program} {h s : List Char} {r : List (List Char)} (e : wordsSigns P.initOrder.toList = h :: s :: r) (h1 : isSumSigns s = true) (h2 : h = "harness".toList) : P.mainIs = some (true, s) := by
  subst h2
  unfold Program.mainIs
  rw [e]
  simp [h1]
theorem mi1 : Tryz.prog.mainIs = some (true, "6f5fab8f146c3b006fcff913dd8a76894c1ddc88f30dac22ecc6b1ceefdab24b".toList) := main_of (r := wsL.drop 2) (by rw [io_l, ws1]; kernel_rfl) (by kernel_rfl) rfl
theorem looks1 : Tryz.prog.looks [] = true := by kernel_rfl
theorem goes_of {P : Program} {f : FuncId} {c : OpenClaim} (hf : P.funcNamed c.func = some f) (h : P.goes f = true) : true = c.goesBy P := by
  unfold OpenClaim.goesBy Program.goesAt Program.goesFrom
  rw [hf]
  simp [h]
theorem wants_of {P : Program} {fn : Func} (h : (fn.params.toList.all fun t => !P.wantsStandIn t) = true) (j : Nat) (t : TypeId) (ht : fn.params[j]? = some t) : P.wantsStandIn t = false := by
  have := List.all_eq_true.1 h t (List.mem_of_getElem? (by simpa using ht))
  simpa using this
end Go.Gx
end

section
namespace Go.Gx
open Go Go.Conc Go.Proofs

set_option maxRecDepth 100000 in
theorem s7z {main : Bool} (L : Lg Tryz.prog main) (H : Facts) (hg : Cells H 1 0 chkC) {B : Bk} {A : BkA} (hB : BkR H B A) (hl : B.prof.length ≤ 100000) (hm : B.marks.length ≤ 100000) (hz : bookBar B ≠ 0) : Pure L 7 #[bkV B A] H (.tuple #[.string (S []), .int .i64 (bookBar B)]) := by
  refine Spec.enter Tryz.func7 rfl (by simp [Tryz.f7]) fun c cs hc => ?_
  have stop32 := trivial
  refine At.seq (At.region ?_); refine At.bx rfl rfl rfl rfl rfl rfl rfl fun r1 => ?_; (iterate 2 refine At.v rfl rfl rfl rfl rfl trivial ?_); refine At.regionEnd (At.seq (At.seq (At.region ?_))); refine At.ld 0 rfl rfl rfl rfl rfl rfl rfl rfl rfl ?_
  clear stop32
  refine At.cq rfl rfl rfl rfl rfl rfl rfl rfl (s32 L _ (B := B) (A := A) hg.a hB.a hl hm) ?_; refine At.v rfl rfl rfl rfl rfl trivial ?_; refine At.regionEnd (At.seq (At.region ?_)); refine At.v rfl rfl rfl rfl rfl trivial ?_; refine At.cp rfl rfl rfl rfl rfl fun b15 h15 => ?_; refine At.regionEnd ?_
  obtain rfl : b15 = true := h15.symm.trans (decide_eq_true (by omega))
  refine At.cond rfl ?_; refine At.seq (At.region ?_); (iterate 3 refine At.v rfl rfl rfl rfl rfl trivial ?_); refine At.regionEnd ?_
  exact At.ret Tryz.func7 (.inr ⟨_, rfl⟩) rfl (.tmp rfl (.tmp rfl .nil)) (wk (hc _ _ (⟨by rfl, rfl⟩)))
set_option maxRecDepth 100000 in
set_option maxHeartbeats 1000000 in
theorem law4 {Post : Value → World → Prop} {W₀ : World} {H Hg : Facts} (hG : Glo H Hg) (ht : TabT H) (hten : Cells H 4 0 tenC) {B : Bk} {A : BkA} (hBk : BkR H B A) :
    LawAt (mainLg Tryz.prog Post W₀ [] []) 4 #[bkV B A] H (.bool true) := by
  refine LawAt.enter Tryz.func4 rfl (by simp [Tryz.f4]) fun cs hLB => ?_
  generalize hL : mainLg Tryz.prog Post W₀ [] [] = L at hLB ⊢
  refine At.seq (At.region ?_); refine At.bx rfl rfl rfl rfl rfl rfl rfl fun r1 => ?_; refine At.v rfl rfl rfl rfl rfl trivial ?_; refine At.regionEnd (At.seq (At.seq (At.region ?_))); refine At.ld 0 rfl rfl rfl rfl rfl rfl rfl rfl rfl ?_; refine At.cqb rfl rfl rfl rfl rfl rfl rfl rfl (s5 L _) fun b8 h8 => ?_; refine At.regionEnd ?_
  cases b8
  rotate_left
  · have stop6 := trivial
    refine At.cond rfl ?_; refine At.seq (At.region ?_)
    subst hL
    refine At.cq rfl rfl rfl rfl rfl rfl rfl rfl (s6 hG.a) ?_; refine At.v rfl rfl rfl rfl rfl trivial ?_; refine At.regionEnd ?_
    exact hLB Tryz.func4 (.inr ⟨_, rfl⟩) rfl (.tmp rfl .nil) (⟨by rfl, rfl⟩)
  have hl : B.prof.length ≤ 20 ∧ B.marks.length ≤ 20 := by simp at h8; omega
  by_cases hz : bookBar B = 0
  · have hlen := textB_len hz
    have stop7 := trivial
    refine At.cond rfl ?_; refine At.skip (At.seq (At.region ?_)); refine At.ld 0 rfl rfl rfl rfl rfl rfl rfl rfl rfl ?_
    clear stop7
    refine At.cq rfl rfl rfl rfl rfl rfl rfl rfl (s7 L _ (hG.g.a hG.sub).a ht.a hten.a hBk.a hz) ?_
    have stop12 := trivial
    (iterate 5 refine At.v rfl rfl rfl rfl rfl trivial ?_); refine At.regionEnd (At.seq (At.seq (At.region ?_))); refine At.ld 0 rfl rfl rfl rfl rfl rfl rfl rfl rfl ?_
    clear stop12
    refine At.cq rfl rfl rfl rfl rfl rfl rfl rfl (s12 L _ hBk.a (by omega) (by omega)) ?_
    rw [hz]
    have hl0 : ((textB B).length : Int) ≠ 0 := by omega
    have hsm : sameM B B = true := decide_eq_true ⟨rfl, ⟨rfl, rfl⟩, rfl, rfl⟩
    have stop9 := trivial
    refine At.cp rfl rfl rfl rfl rfl fun b17 h17 => ?_; refine At.regionEnd ?_
    obtain rfl : b17 = false := h17.symm.trans (by kernel_rfl)
    refine At.cond rfl ?_; refine At.skip (At.seq (At.seq (At.region ?_))); refine At.v rfl rfl rfl rfl rfl trivial ?_; refine At.cp rfl rfl rfl rfl rfl fun b28 h28 => ?_; refine At.v rfl rfl rfl rfl rfl trivial ?_
    obtain rfl : b28 = false := h28.symm.trans (by kernel_rfl)
    refine At.v rfl rfl rfl rfl rfl trivial ?_; refine At.q rfl rfl rfl rfl (q_lenSS rfl rfl rfl rfl) ?_; refine At.cp rfl rfl rfl rfl rfl fun b32 h32 => ?_; refine At.v rfl rfl rfl rfl rfl trivial ?_; refine At.regionEnd ?_
    obtain rfl : b32 = false := h32.symm.trans (by kernel_rfl)
    refine At.cond rfl ?_; refine At.skip (At.seq (At.region ?_)); refine At.v rfl rfl rfl rfl rfl trivial ?_
    clear stop9
    refine At.cl rfl rfl rfl rfl rfl rfl rfl rfl (back1 L _ hz (hG.g.a hG.sub).a ht.a) ?_
    rintro _ _ ⟨sf1, ⟨A1, rfl, hO1⟩, rfl⟩
    refine At.rot 1 rfl ?_
    have hr1 := hO1.r
    have stop11 := trivial
    (iterate 4 refine At.v rfl rfl rfl rfl rfl trivial ?_); refine At.al rfl rfl rfl rfl rfl fun r5 => ?_; refine At.st 0 rfl rfl rfl rfl rfl rfl rfl rfl rfl rfl rfl rfl ?_; (iterate 2 refine At.v rfl rfl rfl rfl rfl trivial ?_); refine At.regionEnd (At.seq (At.seq (At.region ?_))); refine At.v rfl rfl rfl rfl rfl trivial ?_; refine At.cp rfl rfl rfl rfl rfl fun b41 h41 => ?_; refine At.v rfl rfl rfl rfl rfl trivial ?_
    obtain rfl : b41 = false := h41.symm.trans (by kernel_rfl)
    refine At.v rfl rfl rfl rfl rfl trivial ?_; refine At.cp rfl rfl rfl rfl rfl fun b44 h44 => ?_; (iterate 2 refine At.v rfl rfl rfl rfl rfl trivial ?_)
    obtain rfl : b44 = false := h44.symm.trans (by kernel_rfl)
    refine At.ld 0 rfl rfl rfl rfl rfl rfl rfl rfl rfl ?_; refine At.ld 1 rfl rfl rfl rfl rfl rfl rfl rfl rfl ?_
    clear stop11
    refine At.cq rfl rfl rfl rfl rfl rfl rfl rfl (s11 L _ (B := B) (C := B) hr1.a hBk.a (by omega) (by omega)) ?_
    rw [hsm]
    have stop9 := trivial
    (iterate 2 refine At.v rfl rfl rfl rfl rfl trivial ?_); refine At.regionEnd ?_; refine At.cond rfl ?_; refine At.skip (At.seq (At.region ?_)); (iterate 2 refine At.v rfl rfl rfl rfl rfl trivial ?_); refine At.q rfl rfl rfl rfl (q_lenSS rfl rfl rfl rfl) ?_; refine At.v rfl rfl rfl rfl rfl (by omega) ?_; refine At.q rfl rfl rfl rfl (q_cutHN (h := ((textB B).length - 1)) rfl rfl rfl (by omega) (by omega)) ?_
    clear stop9
    refine At.cl rfl rfl rfl rfl rfl rfl rfl rfl (back2 L _ hz (hG.g.a hG.sub).a ht.a) ?_
    rintro _ _ ⟨sf2, ⟨A2, rfl, hO2⟩, rfl⟩
    refine At.rot 2 rfl ?_
    have hr2 := hO2.r
    have stop11 := trivial
    (iterate 4 refine At.v rfl rfl rfl rfl rfl trivial ?_); refine At.st 0 rfl rfl rfl rfl rfl rfl rfl rfl rfl rfl rfl rfl ?_; (iterate 2 refine At.v rfl rfl rfl rfl rfl trivial ?_); refine At.regionEnd (At.seq (At.region ?_)); refine At.v rfl rfl rfl rfl rfl trivial ?_; refine At.cp rfl rfl rfl rfl rfl fun b63 h63 => ?_; refine At.v rfl rfl rfl rfl rfl trivial ?_
    obtain rfl : b63 = true := h63.symm.trans (by kernel_rfl)
    refine At.v rfl rfl rfl rfl rfl trivial ?_; refine At.cp rfl rfl rfl rfl rfl fun b66 h66 => ?_; (iterate 2 refine At.v rfl rfl rfl rfl rfl trivial ?_)
    obtain rfl : b66 = true := h66.symm.trans (by kernel_rfl)
    refine At.ld 0 rfl rfl rfl rfl rfl rfl rfl rfl rfl ?_; refine At.ld 1 rfl rfl rfl rfl rfl rfl rfl rfl rfl ?_
    clear stop11
    refine At.cq rfl rfl rfl rfl rfl rfl rfl rfl (s11 L _ (B := B) (C := B) hr2.a hBk.a (by omega) (by omega)) ?_
    rw [hsm]
    have stop6 := trivial
    (iterate 2 refine At.v rfl rfl rfl rfl rfl trivial ?_)
    clear stop6
    subst hL
    refine At.cq rfl rfl rfl rfl rfl rfl rfl rfl (s6 hG.a) ?_; (iterate 2 refine At.v rfl rfl rfl rfl rfl trivial ?_); refine At.regionEnd ?_
    exact hLB Tryz.func4 (.inr ⟨_, rfl⟩) rfl (.tmp rfl .nil) (⟨by rfl, rfl⟩)
  · have stop7 := trivial
    refine At.cond rfl ?_; refine At.skip (At.seq (At.region ?_)); refine At.ld 0 rfl rfl rfl rfl rfl rfl rfl rfl rfl ?_
    clear stop7
    refine At.cq rfl rfl rfl rfl rfl rfl rfl rfl (s7z L _ (hG.g.a hG.sub).a hBk.a (by omega) (by omega) hz) ?_
    have stop12 := trivial
    (iterate 5 refine At.v rfl rfl rfl rfl rfl trivial ?_); refine At.regionEnd (At.seq (At.seq (At.region ?_))); refine At.ld 0 rfl rfl rfl rfl rfl rfl rfl rfl rfl ?_
    clear stop12
    refine At.cq rfl rfl rfl rfl rfl rfl rfl rfl (s12 L _ hBk.a (by omega) (by omega)) ?_
    have stop6 := trivial
    refine At.cp rfl rfl rfl rfl rfl fun b17 h17 => ?_; refine At.regionEnd ?_
    obtain rfl : b17 = true := h17.symm.trans (decide_eq_true (by omega))
    refine At.cond rfl ?_; refine At.seq (At.region ?_); refine At.v rfl rfl rfl rfl rfl trivial ?_; refine At.cp rfl rfl rfl rfl rfl fun b19 h19 => ?_; refine At.v rfl rfl rfl rfl rfl trivial ?_
    obtain rfl : b19 = true := h19.symm.trans (decide_eq_true (by omega))
    refine At.v rfl rfl rfl rfl rfl trivial ?_; refine At.qb rfl rfl rfl rfl (q_strEqS rfl rfl rfl) fun b22 h22 => ?_; (iterate 2 refine At.v rfl rfl rfl rfl rfl trivial ?_)
    obtain rfl : b22 = true := h22.symm.trans (by kernel_rfl)
    clear stop6
    subst hL
    refine At.cq rfl rfl rfl rfl rfl rfl rfl rfl (s6 hG.a) ?_; (iterate 2 refine At.v rfl rfl rfl rfl rfl trivial ?_); refine At.regionEnd ?_
    exact hLB Tryz.func4 (.inr ⟨_, rfl⟩) rfl (.tmp rfl .nil) (⟨by rfl, rfl⟩)
end Go.Gx
end

section
namespace Go.Gx
open Go Go.Conc Go.Proofs Go.ChangeShapes Go.RowKit YtjdpbechehdefaaGreatDoor
set_option maxRecDepth 100000
theorem ip4 : Tryz.prog.inPlace 4 = ["internal/abi.NoEscape", "internal/bytealg.MakeNoZero", "internal/bytealg.IndexByteString", "internal/bytealg.CountString", "internal/bytealg.IndexString"] := by kernel_rfl
theorem uf4 : Tryz.prog.unfollowed 4 = true := by kernel_rfl
theorem rc4 : Tryz.prog.recurses 4 = true := by kernel_rfl
theorem vn4 : Tryz.prog.varsNamed 4 = ["velarium/canvas.checks", "velarium/canvas.words", "internal/strconv.uint64pow10", "math/bits.deBruijn32tab", "math/bits.deBruijn64tab", "velarium/canvas.fields", "unicode/utf8.first", "unicode/utf8.acceptRanges", "internal/bytealg.MaxLen", "strconv.ErrSyntax", "strconv.ErrRange"] := by kernel_rfl
theorem closed4 : joinedFacts Tryz.prog 4 Tryz.f4 Rows.canvasBackSpec Rows.canvasBackRow = true := by
  unfold joinedFacts
  rewrite [ip4, uf4, rc4, vn4, enter1, lf1, make1]
  kernel_rfl
theorem fnm4 : Tryz.prog.funcNamed "velarium/velariumlaw02.CanvasBack" = some 4 := by kernel_rfl
theorem inst4 : Tryz.f4.isInstance Tryz.prog Rows.canvasBackRow.origin Rows.canvasBackRow.targs := of_decide_eq_true (by kernel_rfl)
theorem wrap4 : Tryz.f4.isWrapper Tryz.prog Rows.canvasBackRow.wrapper Rows.canvasBackRow.mainSum := by unfold Func.isWrapper; first | (rw [if_pos (by decide +kernel)]; kernel_rfl) | (rw [if_neg (by decide +kernel)]; exact ⟨rfl, rfl⟩)
theorem goes4 : Tryz.prog.goes 4 = true := by kernel_rfl
theorem wbt4 : Rows.canvasBackRow.wfByText (OpenSpec.ofChange Rows.canvasBackSpec) = true := by kernel_rfl
theorem wants4 : (Tryz.f4.params.toList.all fun t => !Tryz.prog.wantsStandIn t) = true := by kernel_rfl
theorem lifted4 (os : Os) (started : os.Started) (H : Type) (enc : TypeId × Value → H) :
    ReturnsInLeavingWide {} Tryz.checked os 4 .any (fun w args => (Rows.canvasBackSpec.pre enc Tryz.prog Tryz.f4 [] false w args ∧ laidMetH Tryz.prog laid1 w) ∧ sizedMet enc Tryz.prog Tryz.f4 (OpenSpec.ofChange Rows.canvasBackSpec) false w args) (Rows.canvasBackSpec.post enc Tryz.prog Tryz.f4 false true false false) := by
  refine law_lift Tryz.func4 (by kernel_rfl) rfl rfl (by kernel_rfl) os started H enc #[.agg #[.slice none 0 0, .int .i64 0, .int .i64 0, .int .i64 0, .slice none 0 0]]
    (World.shaped_of_RefB (by kernel_rfl) (by kernel_rfl)) (by kernel_rfl) (by kernel_rfl) (by kernel_rfl) ?_
  intro W base args ds ps hval hA
  rw [Tryz.params4] at hval hA
  obtain ⟨v0, vs0, d0, ds0, p0, q0, e0, rfl, rfl, h0, hA⟩ := trodAll_cons hA
  obtain ⟨rfl, rfl, rfl⟩ := trodAll_nil hA
  obtain rfl : args = #[v0] := Array.toList_inj.1 e0
  obtain ⟨B0, A0, Hs0, rfl, hsh0, hb0⟩ := open_book (hval 0 27 _ rfl rfl) h0
  exact ⟨rfl, Hs0, hsh0, fun Post => law4 hsh0.glo gF_tab gF_ten (hb0.a (Sub.append_left _ _))⟩
theorem said4 : Rows.CanvasBackSaid :=
  OpenClaim.holds_of_wide_leaving 4 Tryz.f4 rfl rfl rfl rfl rfl rfl rfl ⟨rfl, rfl, rfl, rfl, rfl⟩ rfl rfl rfl rfl rfl fnm4 Tryz.func4 closed4 inst4 wrap4
    (fun os started H enc _ => lifted4 os started H enc)
theorem card4 : Rows.CanvasBackCardSaid :=
  ⟨Claim7.tied_new_at .later [.data, .data, .data, .data, .sentinel, .sentinel, .funcs, .widerDeep, .data, .pinned] true (Claim7.new_of_sixth said4 (true, "6f5fab8f146c3b006fcff913dd8a76894c1ddc88f30dac22ecc6b1ceefdab24b") true rfl ⟨rfl, rfl⟩ mi1 rfl
    (fun f fn hf hfn => by
      obtain rfl : f = 4 := Option.some.inj (hf.symm.trans fnm4)
      obtain rfl : fn = Tryz.f4 := Option.some.inj (hfn.symm.trans Tryz.func4)
      exact ⟨looks1.symm, wants_of wants4⟩)) wbt4, (fun _ h => by cases h), canvasBack_row_tie, (fun h => by cases h), goes_of fnm4 goes4⟩
end Go.Gx
namespace Go.Proofs.YtjdpbechehdefaaGreatDoor
theorem canvasBack_card : Rows.CanvasBackCardSaid := Go.Gx.card4
#print axioms canvasBack_card
end Go.Proofs.YtjdpbechehdefaaGreatDoor
end
