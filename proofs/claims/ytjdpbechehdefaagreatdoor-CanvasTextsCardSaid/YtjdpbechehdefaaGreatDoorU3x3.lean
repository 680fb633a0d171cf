/-
  CanvasTexts: the logic of the walk, the contracts of the program's functions, the plain law and the card.
-/
import Derived.Test.YtjdpbechehdefaaGreatDoorU3x2
import Derived.Test.YtjdpbechehdefaaGreatDoorRows
import Derived.Conc.LeavingOf
import Derived.Carry
import Derived.LaidMore
import Derived.Stop.Joined
import Derived.ChangeShapes
import Derived.RowKit
import Derived.Test.YtjdpbechehdefaaGreatDoorProg
import Derived.Test.YtjdpbechehdefaaGreatDoorChecked
import Derived.KernelRfl
set_option linter.unusedSimpArgs false
set_option linter.unusedVariables false
section
namespace Go.Gx
open Go Go.Conc
def ents (g : List Int → Value) (ks : List (List Int)) : List MapEntry := ks.zipIdx.map fun p => { key := .agg (List.toArray (ints p.1)),val := g p.1,born := p.2 }
def mapO (g : List Int → Value) (ks : List (List Int)) : Obj := .map (List.toArray (ents g ks)) ks.length
theorem ents_push {g : List Int → Value} {ks : List (List Int)} {k : List Int} : ents g (ks ++ [k]) = ents g ks ++ [{ key := .agg (List.toArray (ints k)),val := g k,born := ks.length }] := by
 simp [ents,List.zipIdx_append]
theorem ents_get {g : List Int → Value} {ks : List (List Int)} {k : List Int} {i : Nat} (h : ks[i]? = some k) : (ents g ks)[i]? = some { key := .agg (List.toArray (ints k)),val := g k,born := i } := by
 simp [ents,List.getElem?_zipIdx,h]
theorem sameBits_int {n : Nat} {j : IntKind} {a : Int} : Instr.sameBits n (.int j a) (.int j a) = true := by
 cases n <;> simp [Instr.sameBits]
theorem sameBits_ints {n : Nat} {xs : List Int} : Instr.sameBits (n + 1) (.agg (List.toArray (ints xs))) (.agg (List.toArray (ints xs))) = true := by
 unfold Instr.sameBits
 simp only [beq_self_eq_true,Bool.true_and,List.all_eq_true]
 rintro ⟨x,y⟩ h
 have h' : x = y ∧ ∃ a,x = .int .i64 a := by
  revert h
  simp only [ints]
  induction xs with
  | nil => intro h;simp at h
  | cons a xs ih =>
   intro h
   simp only [List.map_cons,List.zip_cons_cons,List.mem_cons,Prod.mk.injEq] at h
   rcases h with ⟨rfl,rfl⟩ | h
   ·exact ⟨rfl,a,rfl⟩
   ·exact ih h
 obtain ⟨rfl,a,rfl⟩ := h'
 exact sameBits_int
section
variable {P : Program} {H : Facts}
theorem k_loopU {β : Type} {st : β → PUnit → Sem (ForInStep PUnit)} : ∀ {l : List β},(∀ b ∈ l,∀ Q : ForInStep PUnit → Facts → Prop,Q (.yield PUnit.unit) H → K P (st b PUnit.unit) Q H) → ∀ {Q : PUnit → Facts → Prop},Q PUnit.unit H → K P (forIn l PUnit.unit st) Q H
 | [],_,Q,hq => hq
 | b :: l,h,Q,hq => by
  rw [List.forIn_cons,K.bind]
  refine h b (List.mem_cons_self ..) _ ?_
  exact k_loopU (l := l) (fun b' hb' => h b' (List.mem_cons_of_mem _ hb')) hq
def ChkOk (P : Program) (H : Facts) (D : Nat) (t : TypeId) (m : Nat) : Prop :=
 ∀ {ag : Bool} {sz by_ : Nat} {z : Option Value},tyF P t = some (ag,sz,z,by_) → sz = m → ∀ {em : Bool} {xs : List Int} {vx : Value},xs.length = m → mkV ag (ints xs) = some vx →
  ∀ {Q : Unit → Facts → Prop},Q () H → K P (Instr.checkKey em D t vx) Q H
theorem k_checks {xs : List Int} {D d : Nat} {em : Bool} (ih : ∀ t m,eqc P d t = some m → ChkOk P H D t m) : ∀ {fs : List Field} {acc m : Nat},eqcs P (eqc P d) fs acc = some m → m ≤ xs.length →
  ∀ f ∈ fs,∀ Q : ForInStep PUnit → Facts → Prop,Q (.yield PUnit.unit) H →
   K P (if f.name ≠ "_" then do
       let a ← part f.type (List.toArray (ints xs)) f.offset
       Instr.checkKey em D f.type a
       pure (ForInStep.yield PUnit.unit)
      else pure (ForInStep.yield PUnit.unit)) Q H
 | [],acc,m,h,_ => by simp
 | f :: fs,acc,m,h,hx => by
  have hle := eqcs_le h
  unfold eqcs at h
  cases hc : (f.name != "_" && f.offset == acc) with
  | false => rw [hc] at h;cases h
  | true =>
   rw [hc] at h
   simp only [cond_true] at h
   simp only [Bool.and_eq_true,bne_iff_ne,beq_iff_eq] at hc
   obtain ⟨hnm,hoff⟩ := hc
   split at h
   ·rename_i m1 ag sz z by_ e1 e2
    cases hm : (m1 == sz) with
    | false => rw [hm] at h;cases h
    | true =>
     rw [hm] at h
     simp only [cond_true] at h
     have hm' : m1 = sz := by simpa using hm
     subst hm'
     have hle2 := eqcs_le h
     have i2 := k_checks (em := em) ih h hx
     intro g hg Q hq
     rcases List.mem_cons.1 hg with rfl | hg
     ·rw [if_pos hnm]
      have l1 : ((xs.drop g.offset).take m1).length = m1 := by simp;omega
      obtain ⟨vx,hvx⟩ := mkV_some (ag := ag) (l := ints ((xs.drop g.offset).take m1)) (fun h0 => by rw [ints,List.length_map,l1];exact eqc_agg e1 e2 h0)
      rw [K.bind]
      refine k_partI e2 (by omega) hvx ?_
      rw [K.bind]
      exact ih _ _ e1 e2 rfl l1 hvx hq
     ·exact i2 g hg Q hq
   ·cases h
theorem k_chk : ∀ {d : Nat} {D : Nat},d ≤ D → ∀ t m,eqc P d t = some m → ChkOk P H D t m
 | 0,D,_,t,m,h => by simp [eqc] at h
 | d + 1,D,hD,t,m,h => by
  rename_i ag sz by_ z
  intro ht hsz em xs vx hx hvx Q hq
  subst hsz
  obtain ⟨D,rfl⟩ : ∃ D',D = D' + 1 := ⟨D - 1,by omega⟩
  unfold eqc at h
  unfold Instr.checkKey
  obtain ⟨dd,i,h1,_,h3,_⟩ := tyF_parts ht
  rw [K.bind,k_underlying h1]
  rw [h1] at h
  cases dd with
  | int k =>
   have hag : ag = false := by rw [← h3];rfl
   subst hag
   rcases mkV_ints hvx with ⟨h0,_⟩ | ⟨_,x,rfl,rfl⟩
   ·cases h0
   exact hq
  | struct fs =>
   have hag : ag = true := by rw [← h3];rfl
   subst hag
   obtain ⟨_,rfl⟩ := (mkV_ints hvx).resolve_right (fun x => by cases x.1)
   simp only at h ⊢
   cases hst : P.stoodInHeld t with
   | true => rw [hst] at h;cases h
   | false =>
    rw [hst] at h
    simp only [cond_false] at h
    rw [← Array.forIn_toList]
    have hall := k_checks (xs := xs) (D := D) (H := H) (em := em) (fun t m h => k_chk (by omega) t m h) h (by omega)
    rw [K.bind]
    exact k_loopU (fun f hf Q' hq' => hall f hf Q' hq') hq
  | array n e =>
   have hag : ag = true := by rw [← h3];rfl
   subst hag
   obtain ⟨_,rfl⟩ := (mkV_ints hvx).resolve_right (fun x => by cases x.1)
   simp only at h ⊢
   split at h
   ·rename_i m1 ag1 sz1 z1 by1 e1 e2
    cases hm : (m1 == sz1) with
    | false => rw [hm] at h;cases h
    | true =>
     rw [hm] at h
     simp only [cond_true,Option.some.injEq] at h
     have hm' : m1 = sz1 := by simpa using hm
     subst hm' h
     obtain ⟨dd',i',_,g2,_,g4,_,_⟩ := tyF_parts e2
     rw [Std.Legacy.Range.forIn_eq_forIn_range']
     have hb : ∀ i,i < n → i * m1 + m1 ≤ n * m1 := fun i hi => by
      have := Nat.mul_le_mul_right m1 (show i + 1 ≤ n from hi)
      rw [Nat.succ_mul] at this
      exact this
     rw [K.bind]
     refine k_loopU (fun i hi Q' hq' => ?_) hq
     have hin : i < n := by
      rw [List.mem_range'] at hi
      obtain ⟨j,hj,rfl⟩ := hi
      simp [Std.Legacy.Range.size] at hj ⊢
      omega
     have hbi := hb i hin
     have l1 : ((xs.drop (i * m1)).take m1).length = m1 := by simp;omega
     obtain ⟨vx,hvx'⟩ := mkV_some (ag := ag1) (l := ints ((xs.drop (i * m1)).take m1)) (fun h0 => by rw [ints,List.length_map,l1];exact eqc_agg e1 e2 h0)
     rw [K.bind,k_sizeOf g2,g4,K.bind]
     refine k_partI e2 (by omega) hvx' ?_
     rw [K.bind]
     exact k_chk (by omega) e m1 e1 e2 rfl l1 hvx' hq'
   ·cases h
  | _ => cases h
theorem k_check {t : TypeId} {m sz : Nat} {z : List Value} [he : EqI P t m] [ht : TyI P t true sz z] {em : Bool} {xs : List Int} (hx : xs.length = m) (hm : Nat.beq sz m = true) {Q : Unit → Facts → Prop} (hq : Q () H) : K P (Instr.checkKey em 10000 t (.agg (List.toArray (ints xs)))) Q H := by
 obtain ⟨zv,by_,h1,_⟩ := ht.h
 exact k_chk (H := H) (d := 20) (D := 10000) (by decide) t m he.h h1 (Nat.eq_of_beq_eq_true hm) hx rfl hq
theorem k_ask {t : TypeId} {m sz : Nat} {z : List Value} [he : EqI P t m] [ht : TyI P t true sz z] {g : List Int → Value} {k : List Int} (hk : k.length = m) (hm : Nat.beq sz m = true) : ∀ {ks : List (List Int)} {o i : Nat},(∀ x ∈ ks,x.length = m) →
  ∀ {Q : Option (Nat × Value) → Facts → Prop},(∀ j,ks[j]? = some k → Q (some (i + j,g k)) H) → (k ∉ ks → Q none H) →
  K P (Instr.findAsking t (.agg (List.toArray (ints k))) ((ks.zipIdx o).map fun p => { key := .agg (List.toArray (ints p.1)),val := g p.1,born := p.2 }) i) Q H
 | [],o,i,_,Q,_,hn => hn (by simp)
 | x :: ks,o,i,hl,Q,hy,hn => by
  obtain ⟨zv,by_,h1,_⟩ := ht.h
  rw [List.zipIdx_cons,List.map_cons]
  unfold Instr.findAsking
  rw [K.bind]
  refine k_eq (H := H) (d := 20) (D := Op.maxDepth) (by decide) t m he.h h1 (Nat.eq_of_beq_eq_true hm) hk (hl x (by simp)) Z Z ?_
  by_cases e : k = x
  ·subst e
   simp only [decide_true,if_true]
   exact hy 0 rfl
  ·simp only [e,decide_false,Bool.false_eq_true,if_false]
   refine k_ask hk hm (fun x hx => hl x (List.mem_cons_of_mem _ hx)) (fun j hj => ?_) (fun h => hn ?_)
   ·have := hy (j + 1) (by simpa using hj)
    rwa [show i + (j + 1) = i + 1 + j from by omega] at this
   ·simp [e,h]
theorem k_find {t : TypeId} {m sz : Nat} {z : List Value} [he : EqI P t m] [ht : TyI P t true sz z] {g : List Int → Value} {k : List Int} (hk : k.length = m) (hm : Nat.beq sz m = true) {ks : List (List Int)} (hl : ∀ x ∈ ks,x.length = m)
  {Q : Option (Nat × Value) → Facts → Prop} (hy : ∀ j,ks[j]? = some k → Q (some (j,g k)) H) (hn : k ∉ ks → Q none H) : K P (Instr.findKey t (.agg (List.toArray (ints k))) (ents g ks)) Q H := by
 obtain ⟨zv,by_,h1,_⟩ := ht.h
 obtain ⟨d,i,e1,_⟩ := tyF_parts h1
 unfold Instr.findKey
 rw [K.bind,k_underlying e1]
 have main : K P (Instr.findAsking t (.agg (List.toArray (ints k))) (ents g ks)) Q H := k_ask hk hm hl (fun j hj => by rw [Nat.zero_add];exact hy j hj) hn
 cases ks with
 | nil => simp only [ents,List.zipIdx_nil,List.map_nil,Instr.findNow];exact hn (by simp)
 | cons x ks =>
  have e : Instr.findNow d (.agg (List.toArray (ints k))) (ents g (x :: ks)) 0 = none := by
   rw [ents,List.zipIdx_cons,List.map_cons]
   unfold Instr.findNow
   cases d <;> simp [Instr.sameNow]
  rw [e]
  exact main
class MpI (P : Program) (t : TypeId) (key elem : outParam TypeId) : Prop where
 h : P.underlying t = some (.map key elem)
def chB (P : Program) (t : TypeId) : Bool :=
 match P.underlying t with
 | some (.chan _ e) => (P.info? e).isSome
 | _ => false
class ChI (P : Program) (t : TypeId) : Prop where
 b : chB P t = true
theorem ChI.h {P : Program} {t : TypeId} (hc : ChI P t) : ∃ d e i,P.underlying t = some (.chan d e) ∧ P.info? e = some i := by
 have h := hc.b
 unfold chB at h
 split at h
 ·rename_i d e e1
  obtain ⟨i,hi⟩ := Option.isSome_iff_exists.1 h
  exact ⟨d,e,i,e1,hi⟩
 ·cases h
variable {E : Env} {o : Oper}
theorem l_makeMap {g : List Int → Value} {t : TypeId} (ho : o.op = .makeMap t none) : LOp P o E H (fun v H' => ∃ r,v = .map (some r) ∧ H' = .own r (mapO g []) :: H) :=
 ⟨nd ho (by intro c h;cases h),fun φ hA Q hQ => by
  unfold execOp;rw [ho];simp only [Instr.makeMap,K.bind,newObj,Option.map_none]
  simp only [K.pure]
  intro r
  exact hQ _ _ ⟨r,rfl,rfl⟩⟩
theorem l_makeChan {t : TypeId} [ht : ChI P t] (ho : o.op = .makeChan t (.const (.int .i64 0))) : LOp P o E H (fun v H' => ∃ r,v = .chan (some r) ∧ H' = .own r (.chan 0 #[] false 0 0 false) :: H) :=
 ⟨nd ho (by intro c h;cases h),fun φ hA Q hQ => by
  obtain ⟨d,e,i,h1,h2⟩ := ht.h
  unfold execOp;rw [ho]
  simp only [hA _ _ (show ev E (.const (.int .i64 0)) = some (.int .i64 0) from rfl),Instr.makeChan,asInt,asIntOf,K.bind,K.pure,k_underlying h1,typeInfo,program]
  simp only [K,h2]
  simp [K,K.bind,K.pure,IntKind.max,IntKind.bits,IntKind.signed,newObj]
  intro r
  exact hQ _ _ ⟨r,rfl,rfl⟩⟩
theorem k_eqNil {D : Nat} {t e : TypeId} {a : Option Addr} {m cap : Nat} (hu : P.underlying t = some (.slice e)) {Q : Bool → Facts → Prop} (hq : Q a.isNone H) : K P (Op.equalIn (D + 1) t (.slice a m cap) (.slice none 0 0)) Q H := by
 unfold Op.equalIn
 rw [K.bind,k_underlying hu]
 cases a <;> exact hq
theorem q_isNil {t t' e : TypeId} {ag : Bool} {sz by_ : Nat} {z : List Value} {x : Operand} {a : Option Addr} {m cap : Nat} [he : ElI P t e ag sz by_ z] (ho : o.op = .binOp .eql t x (.const (.slice none 0 0)) t') (hx : ev E x = some (.slice a m cap)) : QOp P o E H (.bool a.isNone) :=
 ⟨nd ho (by intro c h;cases h),fun φ hA Q hQ => by
  obtain ⟨_,hu,_⟩ := he.parts
  unfold execOp;rw [ho];simp only [hA x _ hx,hA _ _ (show ev E (.const (.slice none 0 0)) = some (.slice none 0 0) from rfl),K.bind]
  unfold eqGuard
  simp only [Bool.not_true,Bool.not_false,Bool.false_eq_true,if_false,K.pure]
  simp only [binOp,K.bind]
  exact k_eqNil (D := 9999) hu hQ⟩
def cvF (P : Program) (s d : TypeId) : Option IntKind :=
 match P.underlying s,P.underlying d with
 | some (.int _),some (.int k) => some k
 | _,_ => none
class CvI (P : Program) (s d : TypeId) (kd : outParam IntKind) : Prop where
 h : cvF P s d = some kd
theorem q_conv {s t : TypeId} {kd ks : IntKind} {x : Operand} {a b : Int} [he : CvI P s t kd] (ho : o.op = .convert s t x) (hx : ev E x = some (.int ks a)) (hb : kd.wrap a = b) : QOp P o E H (.int kd b) :=
 ⟨nd ho (by intro c h;cases h),fun φ hA Q hQ => by
  have h := he.h
  unfold cvF at h
  split at h
  ·rename_i k0 k e1 e2
   cases h
   subst hb
   unfold execOp;rw [ho];simp only [hA x _ hx,K.bind]
   unfold convert
   rw [K.bind,k_underlying e1,K.bind,k_underlying e2]
   exact hQ
  ·cases h⟩
theorem q_ixs {t : TypeId} {ks : IntKind} {x y : Operand} {s : ByteArray} {a : Int} {b : UInt8} {v : Nat} (hu : P.underlying t = some .string) (ho : o.op = .index t x y) (hx : ev E x = some (.string s)) (hy : ev E y = some (.int ks a)) (h0 : 0 ≤ a) (hb : s[a.toNat]? = some b) (hv : b.toNat = v) : QOp P o E H (.int .u8 v) :=
 ⟨nd ho (by intro c h;cases h),fun φ hA Q hQ => by
  subst hv
  unfold execOp;rw [ho];simp only [hA x _ hx,hA y _ hy,Instr.index,asIntOf,K.bind,K.pure,k_underlying hu]
  rw [if_pos h0,hb]
  exact hQ⟩
theorem modify_id {α : Type} {a : Array α} {i : Nat} {f : α → α} (h : ∀ x,a[i]? = some x → f x = x) : a.modify i f = a := by
 apply Array.ext_getElem?
 intro j
 rw [Array.getElem?_modify]
 split
 ·rename_i e;subst e
  cases hx : a[i]? with
  | none => rfl
  | some x => simp [h x hx]
 ·rfl
theorem l_mapUpdate {r : Nat} {g : List Int → Value} {ks ks' : List (List Int)} {k : List Int} {t key elem : TypeId} {x y u : Operand} {m sz : Nat} {z : List Value} {H' : Facts} [hp : MpI P t key elem] [he : EqI P key m] [ht : TyI P key true sz z] (ho : o.op = .mapUpdate t x y u)
  (hx : ev E x = some (.map (some r))) (hy : ev E y = some (.agg (List.toArray (ints k)))) (hu : ev E u = some (g k)) (hk : k.length = m) (hm : Nat.beq sz m = true) (hl : ∀ x ∈ ks,x.length = m) (hks : ks' = if k ∈ ks then ks else ks ++ [k])
  (hup : Upd H (.own r (mapO g ks)) (.own r (mapO g ks')) H') : LOp P o E H (fun v H'' => v = undef ∧ H'' = H') :=
 ⟨nd ho (by intro c h;cases h),fun φ hA Q hQ => by
  unfold execOp;rw [ho];simp only [hA x _ hx,hA y _ hy,hA u _ hu,Instr.mapUpdate,K.bind,k_underlying hp.h,getObj]
  refine ⟨_,hup.mem,rfl,?_⟩
  simp only [mapO,K.bind,K.pure,K]
  refine k_check hk hm ?_
  refine k_find hk hm hl (fun j hj => ?_) (fun hn => ?_)
  ·have hin : k ∈ ks := List.mem_of_getElem? hj
   rw [if_pos hin] at hks
   rw [hks] at hup
   simp only [K.bind,Instr.keyThatStays]
   have e1 : (List.toArray (ents g ks))[j]? = some { key := .agg (List.toArray (ints k)),val := g k,born := j } := by rw [List.getElem?_toArray];exact ents_get hj
   simp only [e1,Option.map_some,Option.getD_some]
   rw [if_pos sameBits_ints]
   simp only [K.pure,setObj,K]
   refine ⟨mapO g ks,H',rfl,rfl,?_,hQ _ _ ⟨rfl,rfl⟩⟩
   rw [modify_id (fun x hx => ?_)]
   ·exact hup
   ·rw [e1] at hx;cases hx;rfl
  ·rw [if_neg hn] at hks
   rw [hks] at hup
   simp only [setObj,K]
   refine ⟨mapO g ks,H',rfl,rfl,?_,hQ _ _ ⟨rfl,rfl⟩⟩
   have e : (List.toArray (ents g ks)).push { key := .agg (List.toArray (ints k)),val := g k,born := ks.length } = List.toArray (ents g (ks ++ [k])) := by rw [ents_push];simp
   rw [e]
   have e2 : mapO g (ks ++ [k]) = .map (List.toArray (ents g (ks ++ [k]))) (ks.length + 1) := by simp [mapO]
   rw [← e2]
   exact hup⟩
theorem q_lookup {r : Nat} {g : List Int → Value} {ks : List (List Int)} {k : List Int} {t key elem : TypeId} {x y : Operand} {m sz : Nat} {z : List Value} {ag : Bool} {sz' by' : Nat} {zv : Value} [hp : MpI P t key elem] [he : EqI P key m] [ht : TyI P key true sz z] (ho : o.op = .lookup t x y false)
  (hx : ev E x = some (.map (some r))) (hy : ev E y = some (.agg (List.toArray (ints k)))) (hz : tyF P elem = some (ag,sz',some zv,by')) (hk : k.length = m) (hm : Nat.beq sz m = true) (hl : ∀ x ∈ ks,x.length = m)
  (hin : .own r (mapO g ks) ∈ H) : QOp P o E H (if k ∈ ks then g k else zv) :=
 ⟨nd ho (by intro c h;cases h),fun φ hA Q hQ => by
  obtain ⟨d,i,_,h2,_,_,h5,_⟩ := tyF_parts hz
  unfold execOp;rw [ho];simp only [hA x _ hx,hA y _ hy,Instr.lookup,K.bind,k_underlying hp.h,getObj]
  refine ⟨_,hin,rfl,?_⟩
  simp only [mapO,K.bind,K.pure,K]
  refine k_check hk hm ?_
  refine k_find hk hm hl (fun j hj => ?_) (fun hn => ?_)
  ·rw [if_pos (List.mem_of_getElem? hj)] at hQ
   exact hQ
  ·rw [if_neg hn] at hQ
   simp only [K.bind,k_zeroValue h2 h5]
   exact hQ⟩
end
section
variable {P : Program} {main : Bool} {L : Lg P main} {f : FuncId} {ro : Option Nat} {ds : Dz} {cs : List Frame} {n : Nat} {k : List Item} {H : Facts} {E Ek : Env}
theorem At.up {x : Fact} (A : Facts) {B : Facts} {todo : List Item} (h : At L f ro ds cs n E (x :: (A ++ B)) todo) : At L f ro ds cs n E (A ++ x :: B) todo :=
 h.weakH (Sub.of_perm List.perm_middle.symm)
theorem At.lpL {X : Type} {c : Code} (Li : X → Lg P main) (ks : List Nat) (mods : X → Env) (Hi : X → Facts) (μ : X → Nat) (x₀ : X) (hL : Li x₀ = L) (hk : selE ks E = some Ek)
  (h : ∀ x,(∀ y,μ y < μ x → At (Li y) f ro ds cs n (mods y ++ Ek) (Hi y) (.inLoop c :: k)) → At (Li x) f ro ds cs n (mods x ++ Ek) (Hi x) (.code c :: .inLoop c :: k))
  (hE : EnvIn E (mods x₀)) (hH : Sub (Hi x₀) H) : At L f ro ds cs n E H (.code (.loop c) :: k) := by
 have key : ∀ m x,μ x = m → At (Li x) f ro ds cs n (mods x ++ Ek) (Hi x) (.code c :: .inLoop c :: k) := by
  intro m
  induction m using Nat.strongRecOn with
  | _ m ih => exact fun x hx => h x fun y hy => At.inLoop (ih _ (hx ▸ hy) y rfl)
 subst hL
 exact At.loop1 (((key _ x₀ rfl).weakE (hE.app (selE_in hk)).look).weakH hH)
end
section
variable {P : Program} {Post : Value → World → Prop} {W₀ : World} {chs : List Nat} {Γ : List Script} {f : FuncId} {ro : Option Nat} {ds : Dz} {cs : List Frame} {n : Nat} {E : Env} {H : Facts} {todo : List Item}
theorem At.openC {c s : Nat} (h : At (mainLg P Post W₀ (c :: chs) Γ) f ro ds cs n E H todo) : At (mainLg P Post W₀ chs Γ) f ro ds cs n E (.own c (.chan 0 #[] false s s false) :: H) todo :=
 fun tmps hs hE => JJ.openC (h tmps hs hE)
theorem At.world (h : (∃ W,Holds H W) → At (mainLg P Post W₀ chs Γ) f ro ds cs n E H todo) : At (mainLg P Post W₀ chs Γ) f ro ds cs n E H todo := by
 intro tmps hn hE Γ₀ hΓ₀ F T gs w sl t hF hI hS h0
 exact h ⟨w,hF ▸ hI.holds 0 trivial⟩ tmps hn hE Γ₀ hΓ₀ F T gs w sl t hF hI hS h0
theorem At.closeAll (hΓ : ∀ s ∈ Γ,s = []) (h : At (mainLg P Post W₀ [] []) f ro ds cs n E H todo) : At (mainLg P Post W₀ chs Γ) f ro ds cs n E H todo :=
 fun tmps hs hE => JJ.closeAll hΓ (h tmps hs hE)
end
section
variable {P : Program} {main : Bool} {L : Lg P main} {f : FuncId} {ro : Option Nat} {ds : Dz} {cs : List Frame} {n : Nat} {k : List Item} {ops : Array Oper} {Hq H : Facts} {R : List Reg} {Ls : List Nat} {Fs : List Flo} {E : Env}
theorem Pool.flc (i : Nat) {o : Oper} {d : Nat} {t : TypeId} (ho : ops[i]? = some o) (hop : o.op = .makeChan t (.const (.int .i64 0))) (hd : o.dst = some d) (hn : Nat.blt d n = true) (hr0 : readsOf ops o = []) (hw : wantE ops o [] = some true) (hsel : noSel o = true) (he : look E d = none) (hc : checkReg R Ls Fs ops i o = true)
  (hr : R.all (fun q => !(readsOf ops q.o).contains d) = true) [ht : ChI P t]
  (h : Pool L f ro ds cs n ops k Hq R Ls (⟨i,o,fun r => .chan (some r),.chan 0 #[] false 0 0 false⟩ :: Fs) E H) : Pool L f ro ds cs n ops k Hq R Ls Fs E H :=
 pool_flo (flo_l ho ⟨d,hd,hn⟩ hr0 hw hsel (l_makeChan hop)) hd he hc hr h
theorem floF_perm {listed : Array Bool} {ρ : Nat → Nat} {Fs Fs' : List Flo} (h : Fs.Perm Fs') : (floF listed ρ Fs).Perm (floF listed ρ Fs') := by
 induction h with
 | nil => exact .refl _
 | cons F h ih =>
  unfold floF
  split
  ·exact ih.cons _
  ·exact ih
 | swap F F' l =>
  unfold floF
  unfold floF
  split <;> split <;> first | exact .swap _ _ _ | exact .refl _
 | trans h1 h2 ih1 ih2 => exact ih1.trans ih2
theorem FStat.perm {Fs Fs' : List Flo} (h : Fs.Perm Fs') (SF : FStat P ops n Hq R Fs E) : FStat P ops n Hq R Fs' E :=
  ⟨fun G hG => SF.ok G (h.mem_iff.2 hG), fun G hG => SF.ne G (h.mem_iff.2 hG),
   (List.Perm.pairwise_iff (R := fun F F' : Flo => F.i ≠ F'.i ∧ ∀ t, F.o.dst = some t → F'.o.dst ≠ some t) (fun {x y} hxy => ⟨hxy.1.symm, fun t ht ht' => hxy.2 t ht' ht⟩) h).1 SF.nF, fun G hG => SF.env G (h.mem_iff.2 hG)⟩
theorem PInv.perm {Fs Fs' : List Flo} {listed : Array Bool} {tmps : Array Value} {ρ : Nat → Nat} (h : Fs.Perm Fs') (I : PInv ops n R Ls Fs E listed tmps ρ) : PInv ops n R Ls Fs' E listed tmps ρ :=
 ⟨I.size,I.lsz,fun i hi => (I.reg i hi).imp id (.imp id fun ⟨F,hF,e⟩ => ⟨F,h.mem_iff.1 hF,e⟩),I.ls,I.env,I.pend,fun F hF => I.flo F (h.mem_iff.2 hF),I.cl⟩
theorem Pool.bs (i : Nat) {o : Oper} {d : Nat} {t e : TypeId} {len sz by_ : Nat} {ag : Bool} {z l : List Value} {parts : Array (Nat × Operand)} {ps : List (Nat × Value)} [hel : ElI P t e ag sz by_ z] (ho : ops[i]? = some o) (hdst : dstOk o.dst n = true) (hw : wantE ops o E = some true) (hd : o.dst = some d) (hop : o.op = .buildSlice t len parts) (hdn : downOk ops = true) (honly : onlyIn R Ls Fs ops [i] = true)
  (hlt : Nat.blt i ops.size = true) (hr : regd R Ls i = false) (hfl : flod Fs i = false) (hc : checkReg R Ls Fs ops i o = true) (hp : evP E parts.toList = some ps) (hlen : Nat.beq ps.length len = true) (hs : seqC sz 0 ps = some l) (hbig : Nat.ble (len * sz) 16777216 = true) (hq : Sub Hq H)
  (h : ∀ r,Pool L f ro ds cs n ops k Hq R (i :: Ls) Fs ((d,.slice (some ⟨r,0,none⟩) len len) :: E) (.own r (.cells (List.toArray l) e (0,0)) :: H)) : Pool L f ro ds cs n ops k Hq R Ls Fs E H := by
 refine Pool.lo i ho hdst hw (by unfold noSel;rw [hop]) hd hdn honly hlt hr hfl hc (l_buildSlice hop hp hlen hs hbig) ?_
 rintro _ _ ⟨r,rfl,rfl⟩
 exact ⟨hq.drop _,h r⟩
theorem Pool.qlo (i : Nat) {o : Oper} {d : Nat} {v : Value} (ho : ops[i]? = some o) (hdst : dstOk o.dst n = true) (hw : wantE ops o E = some true) (hsel : noSel o = true) (hd : o.dst = some d) (hdn : downOk ops = true) (honly : onlyIn R Ls Fs ops [i] = true)
  (hlt : Nat.blt i ops.size = true) (hr : regd R Ls i = false) (hfl : flod Fs i = false) (hc : checkReg R Ls Fs ops i o = true) (hQ : QOp P o E H v) (hq : Sub Hq H)
  (h : Pool L f ro ds cs n ops k Hq R (i :: Ls) Fs ((d,v) :: E) H) : Pool L f ro ds cs n ops k Hq R Ls Fs E H := by
 refine Pool.lo i ho hdst hw hsel hd hdn honly hlt hr hfl hc hQ.lop ?_
 rintro _ _ ⟨rfl,rfl⟩
 exact ⟨hq,h⟩
theorem pool_rot4 {F1 F2 F3 F4 : Flo} (h : Pool L f ro ds cs n ops k Hq R Ls [F2,F3,F4,F1] E H) : Pool L f ro ds cs n ops k Hq R Ls [F1,F2,F3,F4] E H := by
 have hp : [F1,F2,F3,F4].Perm [F2,F3,F4,F1] := List.perm_append_comm (l₁ := [F1]) (l₂ := [F2,F3,F4])
 intro S SF hsub fuel t listed tmps ρ I hfuel
 exact L.weak _ _ _ (Sub.of_perm ((floF_perm hp.symm).append_right _)) (h S (SF.perm hp) hsub fuel t listed tmps ρ (I.perm hp) hfuel)
end
section
variable {P : Program} {main : Bool} {L : Lg P main} {f : FuncId} {ro : Option Nat} {ds : Dz} {cs : List Frame} {n : Nat} {k : List Item} {ops : Array Oper} {i : Nat} {rest : List Nat} {E : Env} {H H₀ : Facts} {o : Oper} {d : Nat}
theorem At.appE {α : Type} {c : α → List Value} {sz : Nat} [he : Enc c sz] {xs : List α} {az : Array Operand} {ats : Array TypeId} {y z' : Operand} {t t' e e' : TypeId} {ag ag' : Bool} {sz₁ by_ sz' by_' b q cap' : Nat} {a' : Option Addr} {z z₂ : List Value} [hel : ElI P t e ag sz₁ by_ z] [hel' : ElI P t' e' ag' sz' by_' z₂]
  (ho : ops[i]? = some o) (hop : o.op = .call { callee := .builtin .append,args := az,argTypes := ats }) (hw : wantE ops o E = some true) (hd : o.dst = some d) (hn : Nat.blt d n = true) (has : az.toList = [y,z']) (hats : ats.toList = [t,t'])
  (hx : ev E y = some (.slice (some ⟨b,0,none⟩) 0 0)) (hy : ev E z' = some (.slice a' q cap')) (hsz : sz₁ = sz) (hz : Nat.beq z.length sz = true) (hby : Nat.ble by_ 1000 = true) (hb0 : Nat.beq by_ 0 = false)
  (hr : Rd H a' (xs.flatMap c)) (hq : xs.length = q) (h0 : 0 < xs.length) (hsm : xs.length ≤ 100000)
  (h : ∀ v' sf',Sl c e v' xs sf' → At L f ro ds cs n ((d,v') :: E) (sf' ++ H) (.inRegion ops rest :: k)) : At L f ro ds cs n E (.own b (.cells (List.toArray []) e (0,0)) :: H) (.inRegion ops (i :: rest) :: k) := by
 subst hq
 subst hsz
 refine At.app (vs := []) (ws := xs.flatMap c) (m := 0) (q := xs.length) (sf := [.own b (.cells (List.toArray []) e (0,0))]) (H₀ := H) ho hop hw hd hn has hats hx hy hz hby hb0 (IsSl.own b 0 0 [] [] (by simp) (by simp) (Nat.le_refl _)) (.refl _) (hr.more ((Sub.refl _).drop _)) ?_ ?_ h0 (by omega) fun v' sf' hs' => ?_
 ·exact flat_len xs
 ·intro v hv
  obtain ⟨x,_,hv⟩ := List.mem_flatMap.1 hv
  exact he.one x v hv
 ·refine h v' sf' ?_
  rw [List.nil_append,Nat.zero_add] at hs'
  exact hs'
end
end Go.Gx
end
section
namespace Go.Gx
open Go Go.Conc
section
variable {P : Program} {H : Facts} {E : Env} {o : Oper}
theorem l_range {r : Nat} {g : List Int → Value} {ks : List (List Int)} {t key elem : TypeId} {x : Operand} [hp : MpI P t key elem] (ho : o.op = .range t x) (hx : ev E x = some (.map (some r))) (hin : .own r (mapO g ks) ∈ H) :
  LOp P o E H (fun v H' => ∃ q,v = .pointer (some ⟨q,0,none⟩) ∧ H' = .own q (.mapIter (some r) ks.length #[] ks.length) :: H) :=
 ⟨nd ho (by intro c h;cases h),fun φ hA Q hQ => by
  unfold execOp;rw [ho];simp only [hA x _ hx,Instr.range,K.bind,k_underlying hp.h,getObj]
  refine ⟨_,hin,rfl,?_⟩
  simp only [mapO,K.bind,K.pure,K,newObj]
  intro q
  exact hQ _ _ ⟨q,rfl,rfl⟩⟩
theorem ents_mem {g : List Int → Value} {ks : List (List Int)} {e : MapEntry} (h : e ∈ ents g ks) : ∃ k,ks[e.born]? = some k ∧ e = { key := .agg (List.toArray (ints k)),val := g k,born := e.born } := by
 unfold ents at h
 obtain ⟨⟨k,i⟩,hk,rfl⟩ := List.mem_map.1 h
 have := List.mem_zipIdx' hk
 exact ⟨k,by simp [this],rfl⟩
theorem setF_some : ∀ {H : Facts} {j : Nat} {f g : Fact},nthF H j = some f → ∃ H',setF H j g = some H'
 | f :: H,0,_,g,_ => ⟨_,rfl⟩
 | x :: H,j + 1,f,g,h => by
  obtain ⟨H',e⟩ := setF_some (H := H) (j := j) (g := g) h
  exact ⟨x :: H',by unfold setF;rw [e]⟩
theorem l_next {r q : Nat} {g : List Int → Value} {ks : List (List Int)} {seen : Array Nat} {x : Operand} (j : Nat) (ho : o.op = .next x false) (hx : ev E x = some (.pointer (some ⟨q,0,none⟩))) (hin : .own r (mapO g ks) ∈ H)
  (hit : nthF H j = some (.own q (.mapIter (some r) ks.length seen ks.length))) :
  LOp P o E H (fun v H' => (∃ (i : Nat) (k : List Int),ks[i]? = some k ∧ i ∉ seen ∧ v = .tuple #[.bool true,.agg (List.toArray (ints k)),g k] ∧ setF H j (.own q (.mapIter (some r) ks.length (seen.push i) ks.length)) = some H') ∨
   ((∀ i < ks.length,i ∈ seen) ∧ v = .tuple #[.bool false] ∧ H' = H)) :=
 ⟨nd ho (by intro c h;cases h),fun φ hA Q hQ => by
  unfold execOp;rw [ho];simp only [hA x _ hx,Instr.next,K.bind,getObj]
  refine ⟨_,nthF_mem hit,rfl,?_⟩
  refine ⟨_,hin,rfl,?_⟩
  simp only [mapO,Sem.bind]
  have hbn : ∀ e ∈ List.toArray (ents g ks),e.born < ks.length := by
   intro e he
   obtain ⟨k,hk,_⟩ := ents_mem (by simpa using he)
   exact (List.getElem?_eq_some_iff.1 hk).1
  have hold : ((List.toArray (ents g ks)).filter fun e => !seen.contains e.born).filter (fun e => decide (e.born < ks.length)) = (List.toArray (ents g ks)).filter fun e => !seen.contains e.born := by
   rw [Array.filter_eq_self]
   intro e he
   simpa using hbn e (Array.mem_filter.1 he).1
  have hnew : ((List.toArray (ents g ks)).filter fun e => !seen.contains e.born).filter (fun e => decide (e.born ≥ ks.length)) = #[] := by
   rw [Array.filter_eq_empty_iff]
   intro e he
   have := hbn e (Array.mem_filter.1 he).1
   simp;omega
  have hcond : (!seen.isEmpty && !(List.toArray (ents g ks)).isEmpty && (List.toArray (ents g ks)).all (fun e => decide (e.born ≥ ks.length))) = false := by
   cases hks : ents g ks with
   | nil => simp
   | cons e es =>
    have := hbn e (by rw [hks];simp)
    simp;intro _ h;omega
  rw [hcond]
  simp only [Bool.false_eq_true,if_false,K.pure]
  rw [hold,hnew]
  generalize hl : ((List.toArray (ents g ks)).filter fun e => !seen.contains e.born) = left
  have hleft : ∀ e ∈ left,∃ k,ks[e.born]? = some k ∧ e.born ∉ seen ∧ e.key = .agg (List.toArray (ints k)) ∧ e.val = g k := by
   intro e he
   rw [← hl] at he
   obtain ⟨h1,h2⟩ := Array.mem_filter.1 he
   obtain ⟨k,hk,e1⟩ := ents_mem (by simpa using h1)
   exact ⟨k,hk,by simpa using h2,by rw [e1],by rw [e1]⟩
  by_cases hem : left = #[]
  ·subst hem
   simp only [Array.isEmpty_empty,if_true,Array.append_empty,Array.map_empty,choose]
   show K P (.choose (.mapNext 1) _) _ _
   rintro a (⟨_,rfl⟩ | ⟨hf,_⟩)
   ·show K P (Sem.pure _) _ _
    refine hQ _ _ (.inr ⟨fun i hi => ?_,rfl,rfl⟩)
    have hin2 : (⟨.agg (List.toArray (ints ks[i])),g ks[i],i⟩ : MapEntry) ∈ List.toArray (ents g ks) := by
     have := ents_get (g := g) (List.getElem?_eq_getElem hi)
     exact by simpa using List.mem_of_getElem? this
    by_cases hs : i ∈ seen
    ·exact hs
    ·exfalso
     have : (⟨.agg (List.toArray (ints ks[i])),g ks[i],i⟩ : MapEntry) ∈ (List.toArray (ents g ks)).filter fun e => !seen.contains e.born := Array.mem_filter.2 ⟨hin2,by simpa using hs⟩
     rw [hl] at this
     simp at this
   ·cases hf
  ·have hne : left.isEmpty = false := by
    cases h : left.isEmpty with
    | false => rfl
    | true => exact absurd (by simpa using h) hem
   rw [hne]
   simp only [Bool.false_eq_true,if_false,Array.append_empty,Array.empty_append,choose,Array.size_map]
   have hsz : 0 < left.size := by
    rcases Nat.eq_zero_or_pos left.size with h | h
    ·exact absurd (Array.eq_empty_of_size_eq_zero h) hem
    ·exact h
   show K P (.choose (.mapNext left.size) _) _ _
   intro a ha
   have hlt : a < left.size := by
    rcases ha with ⟨_,rfl⟩ | ⟨_,t,rfl⟩
    ·exact hsz
    ·exact Nat.mod_lt _ hsz
   obtain ⟨k,hk,hns,hkey,hval⟩ := hleft left[a] (Array.getElem_mem hlt)
   have hget : (left.map some)[a]? = some (some left[a]) := by simp [hlt]
   simp only [Sem.bind,K.pure,hget,setObj]
   obtain ⟨H',hH'⟩ := setF_some (g := .own q (.mapIter (some r) ks.length (seen.push left[a].born) ks.length)) hit
   refine ⟨_,H',rfl,rfl,setF_upd hit hH',?_⟩
   refine hQ _ _ (.inl ⟨_,k,hk,hns,?_,hH'⟩)
   rw [hkey,hval]⟩
theorem q_entry {r q i : Nat} {g : List Int → Value} {ks : List (List Int)} {k : List Int} {seen : Array Nat} {x : Operand} (ho : o.op = .entry x) (hx : ev E x = some (.pointer (some ⟨q,0,none⟩))) (hin : .own r (mapO g ks) ∈ H)
  (hit : .own q (.mapIter (some r) ks.length (seen.push i) ks.length) ∈ H) (hk : ks[i]? = some k) : QOp P o E H (.tuple #[.agg (List.toArray (ints k)),g k]) :=
 ⟨nd ho (by intro c h;cases h),fun φ hA Q hQ => by
  unfold execOp;rw [ho];simp only [hA x _ hx,Instr.entry,K.bind,getObj]
  refine ⟨_,hit,rfl,?_⟩
  have hb : (seen.push i).back? = some i := by simp
  simp only [K,hb,K.bind]
  refine ⟨_,hin,rfl,?_⟩
  simp only [mapO,K,bne_self_eq_false,Bool.false_eq_true,if_false]
  have hf : (List.toArray (ents g ks)).find? (fun e => e.born == i) = some { key := .agg (List.toArray (ints k)),val := g k,born := i } := by
   rw [List.find?_toArray]
   have hget := ents_get (g := g) hk
   have hlt := (List.getElem?_eq_some_iff.1 hget).1
   rw [List.find?_eq_some_iff_getElem]
   refine ⟨by simp,i,hlt,(List.getElem?_eq_some_iff.1 hget).2,fun j hj => ?_⟩
   have hjl : j < ks.length := by
    have : (ents g ks).length = ks.length := by simp [ents]
    omega
   have := ents_get (g := g) (List.getElem?_eq_getElem hjl)
   have e := (List.getElem?_eq_some_iff.1 this).2
   simp [e];omega
  rw [hf]
  simp only [K.pure]
  exact hQ⟩
theorem l_clear (j : Nat) {az : Array Operand} {ats : Array TypeId} {x : Operand} {t e T : TypeId} {ag : Bool} {sz by_ : Nat} {z l l' vs : List Value} {b off n cap : Nat} {H' : Facts} [hel : ElI P t e ag sz by_ z]
  (ho : o.op = .call { callee := .builtin .clear,args := az,argTypes := ats }) (has : az.toList = [x]) (hat : ats[0]? = some t) (hx : ev E x = some (.slice (some ⟨b,off,none⟩) (n + 1) cap))
  (hf : nthF H j = some (.own b (.cells (List.toArray l) T (0,0)))) (hv : (Builtin.zeroCells (List.toArray z) (n + 1)).toList = vs) (h1c : vs.all (·.oneCell') = true) (hs : setC l off vs = some l') (hH : setF H j (.own b (.cells (List.toArray l') T (0,0))) = some H') :
  LOp P o E H (fun v H'' => v = .tuple #[] ∧ H'' = H') :=
 ⟨nd ho (by intro c h;cases h),fun φ hA Q hQ => by
  obtain ⟨zv,h1,h2,h3⟩ := hel.parts
  obtain ⟨d,i,_,h4,_,h6,h7,h8⟩ := tyF_parts h2
  have e0 : az.map φ = #[.slice (some ⟨b,off,none⟩) (n + 1) cap] := by
   apply Array.ext'
   simp [has,hA x _ hx]
  unfold execOp;rw [ho];simp only [resolve,K.bind,K.pure,invoke,builtin,Builtin.clear_,e0,hat]
  have a0 : (#[Value.slice (some ⟨b,off,none⟩) (n + 1) cap] : Array Value)[0]? = some (Value.slice (some ⟨b,off,none⟩) (n + 1) cap) := rfl
  simp only [a0]
  rw [K.bind,k_underlying h1]
  simp only
  rw [K.bind,k_zeroValue h4 h7,K.bind]
  rw [cellsV_eq h3,hv]
  obtain ⟨es,hle⟩ := setC_eq hs
  subst es
  refine k_storeCells (T := T) vs 0 l.toArray H H' (by simpa using hle) (fun v hv => List.all_eq_true.1 h1c v hv) ?_ ?_
  ·have := foldl_splice vs l off hle
   simp only [Nat.add_zero]
   rw [this]
   exact setF_upd hf hH
  ·exact hQ _ _ ⟨rfl,rfl⟩⟩
end
section
variable {P : Program} {main : Bool} {L : Lg P main} {f : FuncId} {ro : Option Nat} {ds : Dz} {cs : List Frame} {n : Nat} {k : List Item} {H : Facts} {E : Env} {ops : Array Oper}
theorem At.nextM (j : Nat) {i : Nat} {rest : List Nat} {o : Oper} {d r q : Nat} {g : List Int → Value} {ks : List (List Int)} {seen : Array Nat} {x : Operand} {H' : Nat → Facts} (ho : ops[i]? = some o) (hw : wantE ops o E = some true) (hd : o.dst = some d) (hn : Nat.blt d n = true)
  (hop : o.op = .next x false) (hx : ev E x = some (.pointer (some ⟨q,0,none⟩))) (hit : nthF H j = some (.own q (.mapIter (some r) ks.length seen ks.length))) (hin : .own r (mapO g ks) ∈ H) (hH : ∀ i,setF H j (.own q (.mapIter (some r) ks.length (seen.push i) ks.length)) = some (H' i))
  (h1 : ∀ (e : Nat) (y : List Int),ks[e]? = some y → e ∉ seen → At L f ro ds cs n ((d,.tuple #[.bool true,.agg (List.toArray (ints y)),g y]) :: E) (H' e) (.inRegion ops rest :: k))
  (h2 : (∀ e < ks.length,e ∈ seen) → At L f ro ds cs n ((d,.tuple #[.bool false]) :: E) H (.inRegion ops rest :: k)) : At L f ro ds cs n E H (.inRegion ops (i :: rest) :: k) :=
 At.l ho hw hd hn (l_next j hop hx hin hit) fun v H'' hp => by
  rcases hp with ⟨e,y,hy,hns,rfl,hs⟩ | ⟨hall,rfl,rfl⟩
  ·rw [hH e] at hs
   cases hs
   exact h1 e y hy hns
  ·exact h2 hall
end
end Go.Gx
end
section
namespace Go.Gx
open Go Go.Conc
section
variable {P : Program} {H : Facts} {E : Env} {o : Oper}
theorem q_shl {t t' : TypeId} {x y : Operand} {yk : IntKind} {a : Int} {i : Nat} (ho : o.op = .binOp .shl t x y t') (hx : ev E x = some (.int .i64 a)) (hy : ev E y = some (.int yk (i : Int))) (h : i ≤ 62) (hr : InI (a * 2 ^ i)) : QOp P o E H (.int .i64 (a * 2 ^ i)) :=
 ⟨nd ho (by intro c h;cases h),fun φ hA Q hQ => by
  unfold execOp;rw [ho];simp only [hA x _ hx,hA y _ hy,eqGuard,binOp,Op.shift,K.bind,K.pure]
  have e : min (Int.toNat (i : Int)) (IntKind.bits .i64) = i := by simp [IntKind.bits];omega
  rw [if_neg (show ¬ (i : Int) < 0 from by omega),e,wrap_in hr]
  exact hQ⟩
theorem q_shr {t t' : TypeId} {x y : Operand} {k yk : IntKind} {m i : Nat} (ho : o.op = .binOp .shr t x y t') (hx : ev E x = some (.int k (m : Int))) (hy : ev E y = some (.int yk (i : Int))) (h : i ≤ k.bits) : QOp P o E H (.int k ((m / 2 ^ i : Nat) : Int)) :=
 ⟨nd ho (by intro c h;cases h),fun φ hA Q hQ => by
  unfold execOp;rw [ho];simp only [hA x _ hx,hA y _ hy,eqGuard,binOp,Op.shift,K.bind,K.pure]
  have e : min (Int.toNat (i : Int)) (IntKind.bits k) = i := by rw [Int.toNat_natCast];omega
  rw [if_neg (show ¬ (i : Int) < 0 from by omega),e]
  have e2 : Int.fdiv (m : Int) (2 ^ i) = ((m / 2 ^ i : Nat) : Int) := by
   rw [Int.natCast_ediv]
   rw [Int.fdiv_eq_ediv_of_nonneg _ (by exact Int.le_of_lt (Int.pow_pos (by omega)))]
   simp
  rw [e2]
  exact hQ⟩
theorem q_and1 {t t' : TypeId} {x y : Operand} {m : Nat} (ho : o.op = .binOp .and t x y t') (hx : ev E x = some (.int .i64 (m : Int))) (hy : ev E y = some (.int .i64 1)) : QOp P o E H (.int .i64 ((m % 2 : Nat) : Int)) :=
 ⟨nd ho (by intro c h;cases h),fun φ hA Q hQ => by
  unfold execOp;rw [ho];simp only [hA x _ hx,hA y _ hy,eqGuard,binOp,Op.intBits,K.bind,K.pure]
  have e : (BitVec.ofInt (IntKind.bits .i64) (m : Int) &&& BitVec.ofInt (IntKind.bits .i64) 1).toNat = m % 2 := by
   simp only [IntKind.bits,BitVec.ofInt_natCast]
   show (BitVec.ofNat 64 m &&& 1#64).toNat = m % 2
   rw [BitVec.toNat_and]
   simp
  rw [e,wrap_in (by have := Nat.mod_lt m (show 0 < 2 by omega);omega)]
  exact hQ⟩
end
section
variable {P : Program} {main : Bool} {L : Lg P main} {f : FuncId} {ro : Option Nat} {ds : Dz} {cs : List Frame} {n : Nat} {k : List Item} {ops : Array Oper} {Hq Hq' H : Facts} {R : List Reg} {Ls : List Nat} {E : Env}
theorem Pool.flush (i₀ : Nat) {o₀ : Oper} (hd : downOk ops = true) (ho₀ : ops[i₀]? = some o₀) (honly : onlyIn R Ls [] ops [i₀] = true) (hl₀ : Nat.blt i₀ ops.size = true) (hf₀ : regd R Ls i₀ = false) (hall : R.all (fun q => (predsOf o₀).contains q.i) = true) (hq : Sub Hq' H)
  (h : Pool L f ro ds cs n ops k Hq' [] (R.map (·.i) ++ Ls) [] E H) : Pool L f ro ds cs n ops k Hq R Ls [] E H := by
 intro S SF hsub fuel
 have un0 : ∀ {listed tmps ρ},PInv ops n R Ls [] E listed tmps ρ → listed.getD i₀ false = false := fun {listed tmps ρ} I => by
  cases hx : listed.getD i₀ false with
  | false => rfl
  | true =>
   exfalso
   rcases I.reg i₀ hx with h | h | h
   ·rw [regd_spec.2 (.inl h)] at hf₀;cases hf₀
   ·rw [regd_spec.2 (.inr h)] at hf₀;cases hf₀
   ·obtain ⟨_,h,_⟩ := h;cases h
 induction fuel with
 | zero =>
  intro t listed tmps ρ I hfuel
  exfalso
  have := unl_set I.lsz (blt_lt hl₀) (un0 I)
  omega
 | succ fuel ih =>
  intro t listed tmps ρ I hfuel
  have hne : Region.ready .any ops listed ≠ [] := ready_ne I.lsz hd (blt_lt hl₀) (un0 I)
  obtain ⟨i,m,t',hm,hi,hgo,hun⟩ := go_next (fuel + 1) t I.lsz hfuel hne
  obtain rfl : m = fuel := by omega
  obtain ⟨h1,h2,o,ho,hp⟩ := ready_spec I.lsz hi
  have honly' := honly
  unfold onlyIn at honly'
  rw [List.all_eq_true] at honly'
  have hcase := honly' i (by simpa using h1)
  simp only [Bool.or_eq_true,List.contains_eq_mem,decide_eq_true_eq] at hcase
  rcases hcase with ((hcase | hcase) | hcase) | hcase
  ·obtain rfl : i = i₀ := by simpa using hcase
   rw [ho₀] at ho
   obtain rfl := Option.some.inj ho
   have hR : ∀ r ∈ R,listed.getD r.i false = true := fun r hr => hp _ (by
    have := List.all_eq_true.1 hall r hr
    simpa using this)
   refine h ⟨by simp,by simp,by simp,by simp⟩ ⟨by simp,by simp,.nil,by simp⟩ hq _ t listed tmps ρ ⟨I.size,I.lsz,?_,?_,?_,by simp,by simp,I.cl⟩ hfuel
   ·intro j hj
    refine .inr (.inl ?_)
    rcases I.reg j hj with ⟨r,hr,rfl⟩ | hl | ⟨_,hF,_⟩
    ·exact List.mem_append_left _ (List.mem_map_of_mem hr)
    ·exact List.mem_append_right _ hl
    ·cases hF
   ·intro j hj
    rcases List.mem_append.1 hj with hj | hj
    ·obtain ⟨r,hr,rfl⟩ := List.mem_map.1 hj
     exact hR r hr
    ·exact I.ls j hj
   ·intro t u hu
    rcases I.env t u hu with h | ⟨q,hq,q1,_⟩
    ·exact .inl h
    ·rw [hR q hq] at q1;cases q1
  ·rw [hgo]
   rcases regd_spec.1 hcase with ⟨r,hr',rfl⟩ | hl
   ·have hro : r.o = o := by
     have := (S.ok r hr').get
     rw [ho] at this
     exact (Option.some.inj this).symm
    subst hro
    obtain ⟨I',hfl⟩ := I.exec S SF hr' h2 hp
    refine (S.ok r hr').go (hsub.trans (Sub.append_left _ _)) I.size (I.found S hr' h2 hp) ?_
    rw [← hfl]
    exact ih _ _ _ _ I' hun
   ·rw [I.ls i hl] at h2;cases h2
  ·obtain ⟨F,hF,rfl⟩ := flod_spec.1 hcase
   cases hF
  ·rw [ho] at hcase
   simp only [List.any_eq_true,Bool.and_eq_true,Bool.not_eq_true'] at hcase
   obtain ⟨p,hpm,hpr,hpf⟩ := hcase
   rcases I.reg p (hp p hpm) with h | h | h
   ·rw [regd_spec.2 (.inl h)] at hpr;cases hpr
   ·rw [regd_spec.2 (.inr h)] at hpr;cases hpr
   ·obtain ⟨_,h,_⟩ := h;cases h
variable {Fs : List Flo} {o : Oper} {d : Nat}
theorem Pool.two (i j : Nat) (hdn : downOk ops = true) (honly : onlyIn R Ls Fs ops [i,j] = true) (hlt : Nat.blt i ops.size = true) (hr : regd R Ls i = false) (hfl : flod Fs i = false)
  (h1 : Loud L f ro ds cs n ops k Hq R Ls Fs E H i) (h2 : Loud L f ro ds cs n ops k Hq R Ls Fs E H j) : Pool L f ro ds cs n ops k Hq R Ls Fs E H := by
 refine pool_any [i,j] hdn honly (blt_lt hlt) hr hfl fun l hl => ?_
 rcases List.mem_cons.1 hl with rfl | hl
 ·exact h1
 ·obtain rfl : l = j := by simpa using hl
  exact h2
theorem Pool.one (i : Nat) (hdn : downOk ops = true) (honly : onlyIn R Ls Fs ops [i] = true) (hlt : Nat.blt i ops.size = true) (hr : regd R Ls i = false) (hfl : flod Fs i = false)
  (h1 : Loud L f ro ds cs n ops k Hq R Ls Fs E H i) : Pool L f ro ds cs n ops k Hq R Ls Fs E H := by
 refine pool_any [i] hdn honly (blt_lt hlt) hr hfl fun l hl => ?_
 obtain rfl : l = i := by simpa using hl
 exact h1
theorem loud_gr {i : Nat} {x : Operand} {az : Array Operand} {ats : Array TypeId} {g : FuncId} {first cap : List Value} {vs args : List Value} {Q : Value → Facts → Prop} (ho : ops[i]? = some o) (hdst : dstOk o.dst n = true) (hw : wantE ops o E = some true) (hd : o.dst = some d) (hop : o.op = .call { callee := .value x,args := az,argTypes := ats })
  (hc : checkReg R Ls Fs ops i o = true)
  (hx : ev E x = some (.func (.func g) ⟨first⟩ ⟨cap⟩)) (has : evs E az.toList = some vs) (hcat : cat3 first vs cap = some args) [hb : HB P g] (hsp : ∀ H',Sub H H' → Grows L g (List.toArray args) H' Q) (hq : Sub Hq H)
  (h : ∀ v sf,Q v sf → Pool L f ro ds cs n ops k Hq R (i :: Ls) Fs ((d,v) :: E) (sf ++ H)) : Loud L f ro ds cs n ops k Hq R Ls Fs E H i := by
 refine loud_c (Post := fun v H₁ => ∃ sf,Q v sf ∧ H₁ = sf ++ H) ho hw hop hdst hc hx has hb.h (fun F => ?_) ?_
 ·rw [cat3_eq hcat]
  intro c cs hk
  refine hsp (F ++ H) (Sub.append_left F H) c cs ?_
  rintro v H' ⟨sf,hQ,rfl⟩
  refine L.weak _ _ _ (Sub.of_perm ?_) (hk v (F ++ (sf ++ H)) ⟨_,rfl,sf,hQ,rfl⟩)
  rw [← List.append_assoc,← List.append_assoc]
  exact List.perm_append_comm.append_right _
 ·rintro v H' ⟨sf,hQ,rfl⟩
  rw [hd]
  exact ⟨hq.trans (Sub.append_left sf H),h v sf hQ⟩
theorem Loud.weakH {i : Nat} {H' : Facts} (h : Loud L f ro ds cs n ops k Hq R Ls Fs E H' i) (hs : Sub H' H) : Loud L f ro ds cs n ops k Hq R Ls Fs E H i := by
 obtain ⟨o,Post,h1,h2,h3,h4,h5⟩ := h
 exact ⟨o,Post,h1,h2,h3,fun F rest tmps ht hr hn => L.weak _ _ _ (Sub.appL F hs) (h4 F rest tmps ht hr hn),h5⟩
theorem loud_app {i : Nat} {sf H₀ : Facts} {az : Array Operand} {ats : Array TypeId} {x y : Operand} {t t' e e' : TypeId} {ag ag' : Bool} {sz by_ sz' by_' : Nat} {z z' vs ws : List Value} {v : Value} {a' : Option Addr} {m q cap' : Nat} [hel : ElI P t e ag sz by_ z] [hel' : ElI P t' e' ag' sz' by_' z']
  (ho : ops[i]? = some o) (hdst : dstOk o.dst n = true) (hop : o.op = .call { callee := .builtin .append,args := az,argTypes := ats }) (hw : wantE ops o E = some true) (hsel : noSel o = true) (hd : o.dst = some d) (hc : checkReg R Ls Fs ops i o = true) (has : az.toList = [x,y]) (hats : ats.toList = [t,t'])
  (hx : ev E x = some v) (hy : ev E y = some (.slice a' q cap')) (hz : Nat.beq z.length sz = true) (hby : Nat.ble by_ 1000 = true) (hb0 : Nat.beq by_ 0 = false)
  (hs : IsSl sz e v vs m sf) (hp : (sf ++ H₀).Perm H) (hr' : Rd H a' ws) (hl' : ws.length = q * sz) (h1c : ∀ v ∈ ws,v.oneCell' = true) (hq : 0 < q ∨ ∃ p m c,v = .slice (some p) m c) (hsm : m + q ≤ 100000) (hqs : Sub Hq H₀)
  (h : ∀ v' sf',IsSl sz e v' (vs ++ ws) (m + q) sf' → Pool L f ro ds cs n ops k Hq R (i :: Ls) Fs ((d,v') :: E) (sf' ++ H₀)) : Loud L f ro ds cs n ops k Hq R Ls Fs E H i := by
 have hat : ats[0]? = some t := by rw [← Array.getElem?_toList,hats];rfl
 have hat' : ats[1]? = some t' := by rw [← Array.getElem?_toList,hats];rfl
 refine Loud.weakH ?_ (Sub.of_perm hp)
 have hrr : Rd (sf ++ H₀) a' ws := hr'.more (Sub.of_perm hp.symm)
 have hz' := Nat.eq_of_beq_eq_true hz
 have hby' := Nat.le_of_ble_eq_true hby
 have hb0' : by_ ≠ 0 := fun e => by subst e;cases hb0
 cases hs with
 | nil =>
  have hq : 0 < q := by
   rcases hq with h | ⟨_,_,_,h⟩
   ·exact h
   ·cases h
  refine loud_l ho hw hdst hc hsel (l_appG (vs := []) hop has hat hat' hx hy (.inl rfl) (by simp) hrr hl' (by omega) hsm hby' hb0') ?_
  rintro _ _ ⟨r,c,rs,rfl,hge,hrl,rfl⟩
  rw [hd]
  exact ⟨(hqs.drop _),h _ _ (.own r c (0 + q) ([] ++ ws) rs (by simpa using hl') (by rw [List.length_append,hrl,hz'];simp only [List.nil_append,hl',Nat.zero_add] at hge ⊢;rw [← Nat.add_mul];congr 1;omega) (by omega))⟩
 | own b cap _ _ rs hl hc' hm =>
  by_cases hroom : m + q ≤ cap
  ·refine loud_l ho hw hdst hc hsel (l_appI 0 hop has hat hat' hx hy rfl hl hc' hrr hl' h1c hroom rfl) ?_
   rintro _ _ ⟨rfl,rfl⟩
   rw [hd]
   refine ⟨hqs.drop _,h _ _ (.own b cap (m + q) (vs ++ ws) (rs.drop (q * sz)) (by rw [List.length_append,hl,hl',Nat.add_mul]) ?_ hroom)⟩
   have hle : (m + q) * sz ≤ cap * sz := Nat.mul_le_mul_right _ hroom
   rw [Nat.add_mul] at hle
   rw [List.length_append] at hc'
   simp only [List.length_append,List.length_drop,hl']
   omega
  ·refine loud_l ho hw hdst hc hsel (l_appG (vs := vs) hop has hat hat' hx hy (.inr ⟨b,0,rfl,cells_own (List.mem_cons_self ..) (by simp)⟩) hl hrr hl' (by omega) hsm hby' hb0') ?_
   rintro _ _ ⟨r,c,rs',rfl,hge,hrl,rfl⟩
   rw [hd]
   refine ⟨(hqs.drop _).drop _,Pool.weakH (h _ _ (.own r c (m + q) (vs ++ ws) rs' (by rw [List.length_append,hl,hl',Nat.add_mul]) ?_ hge)) (Sub.cons _ (Sub.tail _ _)) (hqs.drop _)⟩
   rw [List.length_append,hrl,hz',List.length_append,hl,hl',← Nat.add_mul,← Nat.add_mul]
   congr 1
   omega
theorem loud_push {α : Type} {c : α → List Value} {sz : Nat} [he : Enc c sz] {x : α} {xs : List α} {i : Nat} (j q : Nat) {sf H₀ lit : Facts} {az : Array Operand} {ats : Array TypeId} {y z' : Operand} {t t' e e' T' : TypeId} {ag ag' : Bool} {sz₁ by_ sz' by_' b' cap' : Nat} {z z₂ l : List Value} {v : Value} {fr : Nat × Nat} [hel : ElI P t e ag sz₁ by_ z] [hel' : ElI P t' e' ag' sz' by_' z₂]
  (ho : ops[i]? = some o) (hdst : dstOk o.dst n = true) (hop : o.op = .call { callee := .builtin .append,args := az,argTypes := ats }) (hw : wantE ops o E = some true) (hsel : noSel o = true) (hd : o.dst = some d) (hc : checkReg R Ls Fs ops i o = true) (has : az.toList = [y,z']) (hats : ats.toList = [t,t'])
  (hx : ev E y = some v) (hy : ev E z' = some (.slice (some ⟨b',0,none⟩) 1 cap')) (hsz : sz₁ = sz) (hsz' : sz' = sz) (hz : Nat.beq z.length sz = true) (hby : Nat.ble by_ 1000 = true) (hb0 : Nat.beq by_ 0 = false)
  (hs : Sl c e v xs sf) (hH : splitF q H = some (lit,sf ++ H₀)) (hf : nthF lit j = some (.own b' (.cells (List.toArray l) T' fr))) (hl : l = c x) (hqs : Sub Hq (lit ++ H₀)) (hsm : xs.length < 100000)
  (h : ∀ v' sf',Sl c e v' (xs ++ [x]) sf' → Pool L f ro ds cs n ops k Hq R (i :: Ls) Fs ((d,v') :: E) (joinF lit (sf' ++ H₀))) : Loud L f ro ds cs n ops k Hq R Ls Fs E H i := by
 subst hl
 subst hsz
 subst hsz'
 have eH := splitF_eq hH
 have hrd : Rd H (some ⟨b',0,none⟩) (c x) := by
  rw [eH]
  exact (rd_own j hf rfl).more (Sub.appR _ (Sub.refl _))
 refine loud_app (H₀ := lit ++ H₀) ho hdst hop hw hsel hd hc has hats hx hy hz hby hb0 hs ?_ hrd (by rw [he.len];simp) (he.one x) (.inl (by omega)) (by omega) hqs fun v' sf' hs' => ?_
 ·rw [eH,← List.append_assoc,← List.append_assoc]
  exact List.perm_append_comm.append_right _
 ·refine Pool.weakH (h v' sf' ?_) (Sub.of_perm ?_) ?_
  ·unfold Sl
   simpa using hs'
  ·rw [joinF_eq,← List.append_assoc,← List.append_assoc]
   exact List.perm_append_comm.append_right _
  ·rw [joinF_eq]
   exact hqs.trans (Sub.appL _ (Sub.append_left _ _))
theorem loud_bs {i : Nat} {t e : TypeId} {len sz by_ : Nat} {ag : Bool} {z l : List Value} {parts : Array (Nat × Operand)} {ps : List (Nat × Value)} [hel : ElI P t e ag sz by_ z] (ho : ops[i]? = some o) (hdst : dstOk o.dst n = true) (hw : wantE ops o E = some true) (hd : o.dst = some d) (hop : o.op = .buildSlice t len parts)
  (hc : checkReg R Ls Fs ops i o = true) (hp : evP E parts.toList = some ps) (hlen : Nat.beq ps.length len = true) (hs : seqC sz 0 ps = some l) (hbig : Nat.ble (len * sz) 16777216 = true) (hq : Sub Hq H)
  (h : ∀ r,Pool L f ro ds cs n ops k Hq R (i :: Ls) Fs ((d,.slice (some ⟨r,0,none⟩) len len) :: E) (.own r (.cells (List.toArray l) e (0,0)) :: H)) : Loud L f ro ds cs n ops k Hq R Ls Fs E H i := by
 refine loud_l ho hw hdst hc (by unfold noSel;rw [hop]) (l_buildSlice hop hp hlen hs hbig) ?_
 rintro _ _ ⟨r,rfl,rfl⟩
 rw [hd]
 exact ⟨hq.drop _,h r⟩
end
end Go.Gx
end
section
namespace Go.Gx
open Go Go.Conc
class BoI (P : Program) (t : TypeId) : Prop where
 h : P.underlying t = some .bool
section
variable {P : Program} {H : Facts} {E : Env} {o : Oper}
theorem k_eqB {t : TypeId} [he : BoI P t] {a b : Bool} {Q : Bool → Facts → Prop} (hq : Q (decide (a = b)) H) : K P (Op.equal t (.bool a) (.bool b)) Q H := by
 show K P (Op.equalIn 10000 t (.bool a) (.bool b)) Q H
 unfold Op.equalIn
 rw [K.bind,k_underlying he.h]
 have e : (a == b) = decide (a = b) := by cases a <;> cases b <;> rfl
 simp only [e,K.pure]
 exact hq
theorem q_eqlB {t t' : TypeId} {x y : Operand} {a b : Bool} [he : BoI P t] (ho : o.op = .binOp .eql t x y t') (hx : ev E x = some (.bool a)) (hy : ev E y = some (.bool b)) : QOp P o E H (.bool (decide (a = b))) :=
 ⟨nd ho (by intro c h;cases h),fun φ hA Q hQ => by
  unfold execOp;rw [ho];simp only [hA x _ hx,hA y _ hy,eqGuard,binOp,K.bind,K.pure,Bool.not_true,if_false,Bool.false_eq_true]
  exact k_eqB hQ⟩
theorem q_neqB {t t' : TypeId} {x y : Operand} {a b : Bool} [he : BoI P t] (ho : o.op = .binOp .neq t x y t') (hx : ev E x = some (.bool a)) (hy : ev E y = some (.bool b)) : QOp P o E H (.bool (!decide (a = b))) :=
 ⟨nd ho (by intro c h;cases h),fun φ hA Q hQ => by
  unfold execOp;rw [ho];simp only [hA x _ hx,hA y _ hy,eqGuard,binOp,K.bind,K.pure,Bool.not_true,if_false,Bool.false_eq_true]
  exact k_eqB hQ⟩
end
section
variable {P : Program} {main : Bool}
def Rets (L : Lg P main) (f : FuncId) (cs : List Frame) (v : Value) : Prop :=
 ∀ {fn : Func} {todo : List Item} {rs : List ResultVar} {vs : List Value} {n : Nat} {E : Env} {H : Facts},P.funcs[f]? = some fn → (todo = [] ∨ ∃ k',todo = .code .ret :: k') → fn.results.toList = rs → ResVs P E H rs vs →
  resVal vs = v ∧ (0 : Nat) = 0 → At L f none d0 cs n E H todo
def LawAt (L : Lg P main) (g : FuncId) (args : Array Value) (H : Facts) (v : Value) : Prop := ∀ cs,Rets L g cs v → L.J (G (Frame.enter P g args .normal) cs) H
theorem LawAt.enter {L : Lg P main} {g : FuncId} {fn : Func} {body : Code} {args : Array Value} {H : Facts} {v : Value} (hf : P.funcs[g]? = some fn) (hb : fn.body = some body) (hn : args.size ≤ fn.ntmps)
  (h : ∀ cs,Rets L g cs v → At L g none d0 cs fn.ntmps (envOf 0 args.toList) H [.code body]) : LawAt L g args H v := by
 intro cs hc
 have e : Frame.enter P g args .normal = Fr g none d0 (args ++ Array.replicate (fn.ntmps - args.size) undef) [.code body] := by
  simp [Frame.enter,Fr,hf,hb]
 rw [e]
 refine h cs hc _ (by simp;omega) ?_;refine envOf_ok fun j v hj => ?_
 have hlt : j < args.size := by
  have := (List.getElem?_eq_some_iff.1 hj).1
  simpa using this
 rw [Nat.zero_add,Array.getElem?_append_left hlt]
 rw [← Array.getElem?_toList];exact hj
theorem LawAt.ends {Post : Value → World → Prop} {W₀ : World} {g : FuncId} {args : Array Value} {H : Facts} {v : Value} (h : LawAt (mainLg P Post W₀ [] []) g args H v) (hi : P.inits.idxOf? g = none)
  (hp : ∀ w,Fin W₀ w → Post v w) (hH : Holds H W₀) (ho : ∀ f ∈ H,f.isOwn = false) : Ends P Post (solo (G (Frame.enter P g args .normal) []) W₀) #[] :=
 JJ.runs (h [] fun hf hs hr hv e => At.over hf hs hr hv hi fun w hw => by rw [e.1];exact hp w hw) hH ho
end
end Go.Gx
end
section
namespace Go.Gx
open Go Go.Conc Go.Proofs Go.ChangeShapes Go.RowKit
section
variable {H : Type} {enc : TypeId × Value → H} {P : Program}
theorem Fin.below {W w : World} (h : Fin W w) : Go.RowKit.Below W.heap.size W w := ⟨h.os,h.tape,h.output,h.size,h.keep⟩
def rowed (P : Program) (t : TypeId) : Bool := P.readableRec t && decide (t < P.types.size)
theorem below_trodAll (hl : laidOutB P = true) {W W' : World} (hb : Go.RowKit.Below W.heap.size W W') : ∀ {ts : List TypeId} {vs : List Value} {ds : List (DataW H)} {ps : List MemPlace},ts.all (rowed P) = true →
  DataW.TrodAll enc P W 0 (fun _ => true) true ts vs ds ps → DataW.TrodAll enc P W' 0 (fun b => decide (b < W.heap.size)) true ts vs ds ps
 | [],[],[],_,_,h => h
 | t :: ts,v :: vs,d :: ds,ps,hr,h => by
  have hlt := h.lt
  obtain ⟨p,q,h1,h2,rfl⟩ := h
  simp only [List.all_cons,Bool.and_eq_true,rowed,decide_eq_true_eq] at hr
  exact ⟨p,q,Go.RowKit.Below.trod hl hr.1.1 hr.1.2 h1 hb (fun x hx => hlt x (List.mem_append_left _ hx)),below_trodAll hl hb (by simpa [rowed] using hr.2) h2,rfl⟩
 | [],_ :: _,_,_,_,h => h.elim
 | [],[],_ :: _,_,_,h => h.elim
 | _ :: _,[],_,_,_,h => h.elim
 | _ :: _,_ :: _,[],_,_,h => h.elim
theorem law_post {fn : Func} {s : ChangeSpec} {tb : TypeId} (hl : laidOutB P = true) (hr : fn.params.toList.all (rowed P) = true) (hres : fn.resultTypes = #[tb]) (hb : P.underlying tb = some .bool) (hvars : s.vars = [])
  {W W' : World} {args : Array Value} {ds gs : List (DataW H)} {before : List MemPlace} (hW : DataW.Whole enc P fn.params.toList s.vars false W args.toList ds gs before)
  (hs : s.fn H ds = { results := [.lit (.bool true)],args := ds }) (hf : Fin W W') : s.post enc P fn false true false false W args (.bool true) W' := by
 have hW' := hW
 obtain ⟨p,q,hA,hV,rfl,_,_⟩ := hW
 rw [hvars] at hV
 obtain ⟨rfl,rfl⟩ := trodVars_none hV
 refine ⟨ds,[],_,[],p,[],hW',?_,?_,?_,hf.below.frame _,fun h => by cases h⟩
 ·rw [List.append_nil,hs,hres]
  exact trodAll_mk1 (shut_bool hb true)
 ·rw [List.append_nil,hs]
  exact below_trodAll hl hf.below hr hA
 ·rw [List.append_nil,hs,hvars]
  exact rfl
theorem returnsInLeavingWide_of_change_and {a : Assume} {C : Checked} {os : Os} {f : FuncId} {fn : Func} {s : ChangeSpec} {conds : List PathCond} {apart fresh handsOn again : Bool} {X : World → Array Value → Prop}
  (hX : ∀ (w w' : World) (args : Array Value),w.heap = w'.heap → X w args → X w' args)
  (own : ownKnob C.prog.godebug = none) (started : os.Started) (hfn : C.prog.funcs[f]? = some fn)
  (witness : ∃ (w : World) (tape : Tape) (i : Input),w.os = os ∧ (w.forCall tape i).Shaped C.prog ∧ i.vars = [] ∧ Input.okWide C.prog (w.forCall tape i) .any w.heap.size f i ∧
   ((s.pre enc C.prog fn conds apart (w.forCall tape i).memory i.args ∧ X (w.forCall tape i).memory i.args) ∧ sizedMet enc C.prog fn (OpenSpec.ofChange s) apart (w.forCall tape i).memory i.args) ∧ a.holds C.prog (lone (Frame.enter C.prog f i.args .normal) [] (w.forCall tape i)))
  (runs : ∀ (W : World) (base : Nat) (args : Array Value) (ds gs : List (DataW H)) (before : List MemPlace),
   (∀ (j : Nat) t v,fn.params[j]? = some t → args[j]? = some v → Value.okWide C.prog W .any base t v) →
   DataW.Whole enc C.prog fn.params.toList s.vars apart W args.toList ds gs before → X W args →
   Ends C.prog (fun v W' => s.post enc C.prog fn apart fresh handsOn again W args v W') (solo (G (Frame.enter C.prog f args .normal) []) W) #[]) :
  ReturnsInLeavingWide a C os f .any (fun w args => (s.pre enc C.prog fn conds apart w args ∧ X w args) ∧ sizedMet enc C.prog fn (OpenSpec.ofChange s) apart w args) (s.post enc C.prog fn apart fresh handsOn again) := by
 refine returnsInLeavingWide_of_good own started witness ?_
 intro w tape i _ _ _ hok hpre hholds
 obtain ⟨_,_,_,fn',hfn',_,_,_,_,hval⟩ := hok
 have e : fn' = fn := Option.some.inj (hfn'.symm.trans hfn)
 subst e
 obtain ⟨⟨⟨ds,gs,before,hw,hc⟩,hx⟩,hz⟩ := hpre
 have hw' := DataW.Whole.of_heap (w' := w.forCall tape i) (by rfl) hw
 obtain ⟨M,last,o,w',t',h1,h2,h3,h4⟩ := runs (w.forCall tape i) w.heap.size i.args ds gs before hval hw' (hX _ _ _ (by rfl) hx)
 exact ⟨M,last,o,w',t',h1,h2,h3,h4.mono fun v hp => ChangeSpec.post_blind hp⟩
end
end Go.Gx
end
section
namespace Go.Gx
open Go Go.Conc Go.Proofs
theorem hmix : Tryz.prog.follows .mixedOrders = true := Tryz.checked.mixed
theorem tf3 : tyF Tryz.prog 3 = some (false,1,some (.int .i64 0),8) := by kernel_rfl
instance : TyI Tryz.prog 3 false 1 [(.int .i64 0)] := ⟨_,_,tf3,rfl⟩
theorem tf4 : tyF Tryz.prog 4 = some (false,1,some (.bool false),1) := by kernel_rfl
instance : TyI Tryz.prog 4 false 1 [(.bool false)] := ⟨_,_,tf4,rfl⟩
theorem tf5 : tyF Tryz.prog 5 = some (false,1,some (.int .u8 0),1) := by kernel_rfl
instance : TyI Tryz.prog 5 false 1 [(.int .u8 0)] := ⟨_,_,tf5,rfl⟩
theorem tf9 : tyF Tryz.prog 9 = some (false,1,some (.string ⟨⟨[]⟩⟩),16) := by kernel_rfl
instance : TyI Tryz.prog 9 false 1 [(.string ⟨⟨[]⟩⟩)] := ⟨_,_,tf9,rfl⟩
theorem tf22 : tyF Tryz.prog 22 = some (false,1,some (.slice none 0 0),24) := by kernel_rfl
instance : TyI Tryz.prog 22 false 1 [(.slice none 0 0)] := ⟨_,_,tf22,rfl⟩
instance : ElI Tryz.prog 22 89 true 2 16 [(.int .i64 0),(.int .i64 0)] := ⟨(.agg #[(.int .i64 0),(.int .i64 0)]),by kernel_rfl,rfl⟩
theorem tf24 : tyF Tryz.prog 24 = some (true,2,some (.agg #[(.int .i64 0),(.int .i64 0)]),16) := by kernel_rfl
instance : TyI Tryz.prog 24 true 2 [(.int .i64 0),(.int .i64 0)] := ⟨_,_,tf24,rfl⟩
instance : EqI Tryz.prog 24 2 := ⟨by kernel_rfl,by kernel_rfl⟩
instance : BdI Tryz.prog 24 [(0,1),(1,1)] := ⟨by kernel_rfl⟩
instance : FdI Tryz.prog 24 0 0 false 1 := ⟨by kernel_rfl,by decide⟩
instance : FdI Tryz.prog 24 1 1 false 1 := ⟨by kernel_rfl,by decide⟩
theorem tf25 : tyF Tryz.prog 25 = some (false,1,some (.slice none 0 0),24) := by kernel_rfl
instance : TyI Tryz.prog 25 false 1 [(.slice none 0 0)] := ⟨_,_,tf25,rfl⟩
instance : ElI Tryz.prog 25 72 true 3 24 [(.int .i64 0),(.int .i64 0),(.int .i64 0)] := ⟨(.agg #[(.int .i64 0),(.int .i64 0),(.int .i64 0)]),by kernel_rfl,rfl⟩
theorem tf27 : tyF Tryz.prog 27 = some (true,5,some (.agg #[(.slice none 0 0),(.int .i64 0),(.int .i64 0),(.int .i64 0),(.slice none 0 0)]),72) := by kernel_rfl
instance : TyI Tryz.prog 27 true 5 [(.slice none 0 0),(.int .i64 0),(.int .i64 0),(.int .i64 0),(.slice none 0 0)] := ⟨_,_,tf27,rfl⟩
instance : BdI Tryz.prog 27 [(0,1),(1,1),(2,2),(4,1)] := ⟨by kernel_rfl⟩
instance : FdI Tryz.prog 27 0 0 false 1 := ⟨by kernel_rfl,by decide⟩
instance : FdI Tryz.prog 27 1 1 false 1 := ⟨by kernel_rfl,by decide⟩
instance : FdI Tryz.prog 27 2 2 true 2 := ⟨by kernel_rfl,by decide⟩
instance : FdI Tryz.prog 27 3 4 false 1 := ⟨by kernel_rfl,by decide⟩
theorem tf30 : tyF Tryz.prog 30 = some (false,1,some (.int .i64 0),8) := by kernel_rfl
instance : TyI Tryz.prog 30 false 1 [(.int .i64 0)] := ⟨_,_,tf30,rfl⟩
theorem tf40 : tyF Tryz.prog 40 = some (true,2,some (.agg #[(.int .i64 0),(.int .i64 0)]),16) := by kernel_rfl
instance : TyI Tryz.prog 40 true 2 [(.int .i64 0),(.int .i64 0)] := ⟨_,_,tf40,rfl⟩
instance : EqI Tryz.prog 40 2 := ⟨by kernel_rfl,by kernel_rfl⟩
instance : BdI Tryz.prog 40 [(0,1),(1,1)] := ⟨by kernel_rfl⟩
instance : FdI Tryz.prog 40 0 0 false 1 := ⟨by kernel_rfl,by decide⟩
instance : FdI Tryz.prog 40 1 1 false 1 := ⟨by kernel_rfl,by decide⟩
theorem tf46 : tyF Tryz.prog 46 = some (false,1,some (.slice none 0 0),24) := by kernel_rfl
instance : TyI Tryz.prog 46 false 1 [(.slice none 0 0)] := ⟨_,_,tf46,rfl⟩
instance : ElI Tryz.prog 46 3 false 1 8 [(.int .i64 0)] := ⟨(.int .i64 0),by kernel_rfl,rfl⟩
theorem tf50 : tyF Tryz.prog 50 = some (true,3,some (.agg #[(.int .i64 0),(.int .i64 0),(.int .i64 0)]),24) := by kernel_rfl
instance : TyI Tryz.prog 50 true 3 [(.int .i64 0),(.int .i64 0),(.int .i64 0)] := ⟨_,_,tf50,rfl⟩
instance : BdI Tryz.prog 50 [(0,1),(1,2)] := ⟨by kernel_rfl⟩
instance : FdI Tryz.prog 50 0 0 false 1 := ⟨by kernel_rfl,by decide⟩
instance : FdI Tryz.prog 50 1 1 true 2 := ⟨by kernel_rfl,by decide⟩
theorem tf51 : tyF Tryz.prog 51 = some (false,1,some (.slice none 0 0),24) := by kernel_rfl
instance : TyI Tryz.prog 51 false 1 [(.slice none 0 0)] := ⟨_,_,tf51,rfl⟩
instance : ElI Tryz.prog 51 40 true 2 16 [(.int .i64 0),(.int .i64 0)] := ⟨(.agg #[(.int .i64 0),(.int .i64 0)]),by kernel_rfl,rfl⟩
theorem tf72 : tyF Tryz.prog 72 = some (true,3,some (.agg #[(.int .i64 0),(.int .i64 0),(.int .i64 0)]),24) := by kernel_rfl
instance : TyI Tryz.prog 72 true 3 [(.int .i64 0),(.int .i64 0),(.int .i64 0)] := ⟨_,_,tf72,rfl⟩
instance : EqI Tryz.prog 72 3 := ⟨by kernel_rfl,by kernel_rfl⟩
instance : BdI Tryz.prog 72 [(0,2),(2,1)] := ⟨by kernel_rfl⟩
instance : FdI Tryz.prog 72 0 0 true 2 := ⟨by kernel_rfl,by decide⟩
instance : FdI Tryz.prog 72 1 2 false 1 := ⟨by kernel_rfl,by decide⟩
theorem tf74 : tyF Tryz.prog 74 = some (false,1,some (.pointer none),8) := by kernel_rfl
instance : TyI Tryz.prog 74 false 1 [(.pointer none)] := ⟨_,_,tf74,rfl⟩
theorem tf75 : tyF Tryz.prog 75 = some (false,1,some (.slice none 0 0),24) := by kernel_rfl
instance : TyI Tryz.prog 75 false 1 [(.slice none 0 0)] := ⟨_,_,tf75,rfl⟩
instance : ElI Tryz.prog 75 5 false 1 1 [(.int .u8 0)] := ⟨(.int .u8 0),by kernel_rfl,rfl⟩
theorem tf77 : tyF Tryz.prog 77 = some (true,2,some (.agg #[(.pointer none),(.slice none 0 0)]),32) := by kernel_rfl
instance : TyI Tryz.prog 77 true 2 [(.pointer none),(.slice none 0 0)] := ⟨_,_,tf77,rfl⟩
instance : FdI Tryz.prog 77 0 0 false 1 := ⟨by kernel_rfl,by decide⟩
instance : FdI Tryz.prog 77 1 1 false 1 := ⟨by kernel_rfl,by decide⟩
instance : ElI Tryz.prog 78 9 false 1 16 [(.string ⟨⟨[]⟩⟩)] := ⟨(.string ⟨⟨[]⟩⟩),by kernel_rfl,rfl⟩
instance : ArI Tryz.prog 83 3 9 false 1 := ⟨by kernel_rfl⟩
theorem tf89 : tyF Tryz.prog 89 = some (true,2,some (.agg #[(.int .i64 0),(.int .i64 0)]),16) := by kernel_rfl
instance : TyI Tryz.prog 89 true 2 [(.int .i64 0),(.int .i64 0)] := ⟨_,_,tf89,rfl⟩
instance : EqI Tryz.prog 89 2 := ⟨by kernel_rfl,by kernel_rfl⟩
instance : BdI Tryz.prog 89 [(0,1),(1,1)] := ⟨by kernel_rfl⟩
instance : FdI Tryz.prog 89 0 0 false 1 := ⟨by kernel_rfl,by decide⟩
instance : FdI Tryz.prog 89 1 1 false 1 := ⟨by kernel_rfl,by decide⟩
theorem tf93 : tyF Tryz.prog 93 = some (true,0,some (.agg #[]),0) := by kernel_rfl
instance : TyI Tryz.prog 93 true 0 [] := ⟨_,_,tf93,rfl⟩
instance : BdI Tryz.prog 93 [] := ⟨by kernel_rfl⟩
theorem tf104 : tyF Tryz.prog 104 = some (true,3,some (.agg #[(.int .i64 0),(.int .i64 0),(.int .i64 0)]),24) := by kernel_rfl
instance : TyI Tryz.prog 104 true 3 [(.int .i64 0),(.int .i64 0),(.int .i64 0)] := ⟨_,_,tf104,rfl⟩
instance : BdI Tryz.prog 104 [(0,1),(1,2)] := ⟨by kernel_rfl⟩
instance : FdI Tryz.prog 104 0 0 false 1 := ⟨by kernel_rfl,by decide⟩
instance : FdI Tryz.prog 104 1 1 true 2 := ⟨by kernel_rfl,by decide⟩
theorem tf105 : tyF Tryz.prog 105 = some (true,2,some (.agg #[(.int .i64 0),(.int .i64 0)]),16) := by kernel_rfl
instance : TyI Tryz.prog 105 true 2 [(.int .i64 0),(.int .i64 0)] := ⟨_,_,tf105,rfl⟩
instance : BdI Tryz.prog 105 [(0,1),(1,1)] := ⟨by kernel_rfl⟩
theorem tf106 : tyF Tryz.prog 106 = some (true,3,some (.agg #[(.int .i64 0),(.int .i64 0),(.int .i64 0)]),24) := by kernel_rfl
instance : TyI Tryz.prog 106 true 3 [(.int .i64 0),(.int .i64 0),(.int .i64 0)] := ⟨_,_,tf106,rfl⟩
instance : BdI Tryz.prog 106 [(0,2),(2,1)] := ⟨by kernel_rfl⟩
theorem tf113 : tyF Tryz.prog 113 = some (false,1,some .nilFunc,8) := by kernel_rfl
instance : TyI Tryz.prog 113 false 1 [.nilFunc] := ⟨_,_,tf113,rfl⟩
theorem tf115 : tyF Tryz.prog 115 = some (true,11,some (.agg #[(.int .i64 0),(.int .i64 0),(.int .i64 0),(.int .i64 0),(.slice none 0 0),(.int .i64 0),(.int .i64 0),(.int .i64 0),(.int .i64 0),(.int .i64 0),(.int .i64 0)]),104) := by kernel_rfl
instance : TyI Tryz.prog 115 true 11 [(.int .i64 0),(.int .i64 0),(.int .i64 0),(.int .i64 0),(.slice none 0 0),(.int .i64 0),(.int .i64 0),(.int .i64 0),(.int .i64 0),(.int .i64 0),(.int .i64 0)] := ⟨_,_,tf115,rfl⟩
instance : BdI Tryz.prog 115 [(0,1),(1,1),(2,2),(4,1),(5,3),(8,3)] := ⟨by kernel_rfl⟩
instance : FdI Tryz.prog 115 0 0 false 1 := ⟨by kernel_rfl,by decide⟩
instance : FdI Tryz.prog 115 1 1 false 1 := ⟨by kernel_rfl,by decide⟩
instance : FdI Tryz.prog 115 2 2 true 2 := ⟨by kernel_rfl,by decide⟩
instance : FdI Tryz.prog 115 3 4 false 1 := ⟨by kernel_rfl,by decide⟩
instance : FdI Tryz.prog 115 4 5 true 3 := ⟨by kernel_rfl,by decide⟩
instance : FdI Tryz.prog 115 5 8 true 3 := ⟨by kernel_rfl,by decide⟩
theorem tf117 : tyF Tryz.prog 117 = some (true,5,some (.agg #[(.slice none 0 0),(.int .i64 0),(.int .i64 0),(.int .i64 0),(.slice none 0 0)]),72) := by kernel_rfl
instance : TyI Tryz.prog 117 true 5 [(.slice none 0 0),(.int .i64 0),(.int .i64 0),(.int .i64 0),(.slice none 0 0)] := ⟨_,_,tf117,rfl⟩
instance : BdI Tryz.prog 117 [(0,5)] := ⟨by kernel_rfl⟩
instance : FdI Tryz.prog 117 0 0 true 5 := ⟨by kernel_rfl,by decide⟩
theorem tf120 : tyF Tryz.prog 120 = some (false,1,some .nilFunc,8) := by kernel_rfl
instance : TyI Tryz.prog 120 false 1 [.nilFunc] := ⟨_,_,tf120,rfl⟩
theorem tf122 : tyF Tryz.prog 122 = some (true,4,some (.agg #[(.int .i64 0),(.int .i64 0),(.int .i64 0),(.int .i64 0)]),32) := by kernel_rfl
instance : TyI Tryz.prog 122 true 4 [(.int .i64 0),(.int .i64 0),(.int .i64 0),(.int .i64 0)] := ⟨_,_,tf122,rfl⟩
instance : EqI Tryz.prog 122 4 := ⟨by kernel_rfl,by kernel_rfl⟩
instance : BdI Tryz.prog 122 [(0,2),(2,2)] := ⟨by kernel_rfl⟩
instance : FdI Tryz.prog 122 0 0 true 2 := ⟨by kernel_rfl,by decide⟩
instance : FdI Tryz.prog 122 1 2 true 2 := ⟨by kernel_rfl,by decide⟩
instance : ElI Tryz.prog 132 136 true 3 24 [(.int .i64 0),(.int .i64 0),(.int .i64 0)] := ⟨(.agg #[(.int .i64 0),(.int .i64 0),(.int .i64 0)]),by kernel_rfl,rfl⟩
theorem tf136 : tyF Tryz.prog 136 = some (true,3,some (.agg #[(.int .i64 0),(.int .i64 0),(.int .i64 0)]),24) := by kernel_rfl
instance : TyI Tryz.prog 136 true 3 [(.int .i64 0),(.int .i64 0),(.int .i64 0)] := ⟨_,_,tf136,rfl⟩
instance : BdI Tryz.prog 136 [(0,1),(1,2)] := ⟨by kernel_rfl⟩
instance : FdI Tryz.prog 136 0 0 false 1 := ⟨by kernel_rfl,by decide⟩
instance : FdI Tryz.prog 136 1 1 true 2 := ⟨by kernel_rfl,by decide⟩
theorem tf145 : tyF Tryz.prog 145 = some (true,6,some (.agg #[(.slice none 0 0),(.int .i64 0),(.int .i64 0),(.int .i64 0),(.slice none 0 0),(.slice none 0 0)]),96) := by kernel_rfl
instance : TyI Tryz.prog 145 true 6 [(.slice none 0 0),(.int .i64 0),(.int .i64 0),(.int .i64 0),(.slice none 0 0),(.slice none 0 0)] := ⟨_,_,tf145,rfl⟩
instance : BdI Tryz.prog 145 [(0,5),(5,1)] := ⟨by kernel_rfl⟩
instance : FdI Tryz.prog 145 0 0 true 5 := ⟨by kernel_rfl,by decide⟩
instance : FdI Tryz.prog 145 1 5 false 1 := ⟨by kernel_rfl,by decide⟩
instance : ArI Tryz.prog 155 3 3 false 1 := ⟨by kernel_rfl⟩
theorem tf156 : tyF Tryz.prog 156 = some (true,3,some (.agg #[(.int .i64 0),(.int .i64 0),(.int .i64 0)]),24) := by kernel_rfl
instance : TyI Tryz.prog 156 true 3 [(.int .i64 0),(.int .i64 0),(.int .i64 0)] := ⟨_,_,tf156,rfl⟩
instance : EqI Tryz.prog 156 3 := ⟨by kernel_rfl,by kernel_rfl⟩
instance : ArI Tryz.prog 156 3 3 false 1 := ⟨by kernel_rfl⟩
instance : ElI Tryz.prog 160 46 false 1 24 [(.slice none 0 0)] := ⟨(.slice none 0 0),by kernel_rfl,rfl⟩
theorem tf163 : tyF Tryz.prog 163 = some (false,1,some .nilFunc,8) := by kernel_rfl
instance : TyI Tryz.prog 163 false 1 [.nilFunc] := ⟨_,_,tf163,rfl⟩
theorem tf165 : tyF Tryz.prog 165 = some (true,1,some (.agg #[.nilFunc]),8) := by kernel_rfl
instance : TyI Tryz.prog 165 true 1 [.nilFunc] := ⟨_,_,tf165,rfl⟩
instance : FdI Tryz.prog 165 0 0 false 1 := ⟨by kernel_rfl,by decide⟩
theorem tf166 : tyF Tryz.prog 166 = some (true,3,some (.agg #[.nilFunc,.nilFunc,.nilFunc]),24) := by kernel_rfl
instance : TyI Tryz.prog 166 true 3 [.nilFunc,.nilFunc,.nilFunc] := ⟨_,_,tf166,rfl⟩
instance : ArI Tryz.prog 166 3 165 true 1 := ⟨by kernel_rfl⟩
instance : ElI Tryz.prog 185 120 false 1 8 [.nilFunc] := ⟨.nilFunc,by kernel_rfl,rfl⟩
theorem tf188 : tyF Tryz.prog 188 = some (false,1,some (.slice none 0 0),24) := by kernel_rfl
instance : TyI Tryz.prog 188 false 1 [(.slice none 0 0)] := ⟨_,_,tf188,rfl⟩
instance : ElI Tryz.prog 188 122 true 4 32 [(.int .i64 0),(.int .i64 0),(.int .i64 0),(.int .i64 0)] := ⟨(.agg #[(.int .i64 0),(.int .i64 0),(.int .i64 0),(.int .i64 0)]),by kernel_rfl,rfl⟩
theorem tf200 : tyF Tryz.prog 200 = some (false,1,some (.chan none),8) := by kernel_rfl
instance : TyI Tryz.prog 200 false 1 [(.chan none)] := ⟨_,_,tf200,rfl⟩
theorem tf201 : tyF Tryz.prog 201 = some (false,1,some (.chan none),8) := by kernel_rfl
instance : TyI Tryz.prog 201 false 1 [(.chan none)] := ⟨_,_,tf201,rfl⟩
theorem tf203 : tyF Tryz.prog 203 = some (true,5,some (.agg #[(.int .i64 0),(.int .i64 0),(.int .i64 0),(.int .i64 0),(.int .i64 0)]),40) := by kernel_rfl
instance : TyI Tryz.prog 203 true 5 [(.int .i64 0),(.int .i64 0),(.int .i64 0),(.int .i64 0),(.int .i64 0)] := ⟨_,_,tf203,rfl⟩
instance : BdI Tryz.prog 203 [(0,2),(2,3)] := ⟨by kernel_rfl⟩
instance : FdI Tryz.prog 203 0 0 true 2 := ⟨by kernel_rfl,by decide⟩
instance : FdI Tryz.prog 203 1 2 true 3 := ⟨by kernel_rfl,by decide⟩
theorem tf230 : tyF Tryz.prog 230 = some (false,1,some (.int .u64 0),8) := by kernel_rfl
instance : TyI Tryz.prog 230 false 1 [(.int .u64 0)] := ⟨_,_,tf230,rfl⟩
theorem tf232 : tyF Tryz.prog 232 = some (true,24,some (.agg #[(.int .u8 0),(.int .u8 0),(.int .u8 0),(.int .u8 0),(.int .u8 0),(.int .u8 0),(.int .u8 0),(.int .u8 0),(.int .u8 0),(.int .u8 0),(.int .u8 0),(.int .u8 0),(.int .u8 0),(.int .u8 0),(.int .u8 0),(.int .u8 0),(.int .u8 0),(.int .u8 0),(.int .u8 0),(.int .u8 0),(.int .u8 0),(.int .u8 0),(.int .u8 0),(.int .u8 0)]),24) := by kernel_rfl
instance : TyI Tryz.prog 232 true 24 [(.int .u8 0),(.int .u8 0),(.int .u8 0),(.int .u8 0),(.int .u8 0),(.int .u8 0),(.int .u8 0),(.int .u8 0),(.int .u8 0),(.int .u8 0),(.int .u8 0),(.int .u8 0),(.int .u8 0),(.int .u8 0),(.int .u8 0),(.int .u8 0),(.int .u8 0),(.int .u8 0),(.int .u8 0),(.int .u8 0),(.int .u8 0),(.int .u8 0),(.int .u8 0),(.int .u8 0)] := ⟨_,_,tf232,rfl⟩
instance : ArI Tryz.prog 232 24 5 false 1 := ⟨by kernel_rfl⟩
instance : ArI Tryz.prog 254 20 230 false 1 := ⟨by kernel_rfl⟩
instance : HB Tryz.prog 5 := ⟨_,Tryz.func5,rfl,rfl⟩
instance : HB Tryz.prog 6 := ⟨_,Tryz.func6,rfl,rfl⟩
instance : HB Tryz.prog 7 := ⟨_,Tryz.func7,rfl,rfl⟩
instance : HB Tryz.prog 8 := ⟨_,Tryz.func8,rfl,rfl⟩
instance : HB Tryz.prog 9 := ⟨_,Tryz.func9,rfl,rfl⟩
instance : HB Tryz.prog 10 := ⟨_,Tryz.func10,rfl,rfl⟩
instance : HB Tryz.prog 11 := ⟨_,Tryz.func11,rfl,rfl⟩
instance : HB Tryz.prog 12 := ⟨_,Tryz.func12,rfl,rfl⟩
instance : HB Tryz.prog 13 := ⟨_,Tryz.func13,rfl,rfl⟩
instance : HB Tryz.prog 14 := ⟨_,Tryz.func14,rfl,rfl⟩
instance : HB Tryz.prog 15 := ⟨_,Tryz.func15,rfl,rfl⟩
instance : HB Tryz.prog 16 := ⟨_,Tryz.func16,rfl,rfl⟩
instance : HB Tryz.prog 17 := ⟨_,Tryz.func17,rfl,rfl⟩
instance : HB Tryz.prog 18 := ⟨_,Tryz.func18,rfl,rfl⟩
instance : HB Tryz.prog 19 := ⟨_,Tryz.func19,rfl,rfl⟩
instance : HB Tryz.prog 20 := ⟨_,Tryz.func20,rfl,rfl⟩
instance : HB Tryz.prog 21 := ⟨_,Tryz.func21,rfl,rfl⟩
instance : HB Tryz.prog 22 := ⟨_,Tryz.func22,rfl,rfl⟩
instance : HB Tryz.prog 23 := ⟨_,Tryz.func23,rfl,rfl⟩
instance : HB Tryz.prog 24 := ⟨_,Tryz.func24,rfl,rfl⟩
instance : HB Tryz.prog 25 := ⟨_,Tryz.func25,rfl,rfl⟩
instance : HB Tryz.prog 26 := ⟨_,Tryz.func26,rfl,rfl⟩
instance : HB Tryz.prog 27 := ⟨_,Tryz.func27,rfl,rfl⟩
instance : HB Tryz.prog 28 := ⟨_,Tryz.func28,rfl,rfl⟩
instance : HB Tryz.prog 29 := ⟨_,Tryz.func29,rfl,rfl⟩
instance : HB Tryz.prog 30 := ⟨_,Tryz.func30,rfl,rfl⟩
instance : HB Tryz.prog 31 := ⟨_,Tryz.func31,rfl,rfl⟩
instance : HB Tryz.prog 32 := ⟨_,Tryz.func32,rfl,rfl⟩
instance : HB Tryz.prog 33 := ⟨_,Tryz.func33,rfl,rfl⟩
instance : HB Tryz.prog 34 := ⟨_,Tryz.func34,rfl,rfl⟩
instance : HB Tryz.prog 35 := ⟨_,Tryz.func35,rfl,rfl⟩
instance : HB Tryz.prog 36 := ⟨_,Tryz.func36,rfl,rfl⟩
instance : HB Tryz.prog 37 := ⟨_,Tryz.func37,rfl,rfl⟩
instance : HB Tryz.prog 38 := ⟨_,Tryz.func38,rfl,rfl⟩
instance : HB Tryz.prog 39 := ⟨_,Tryz.func39,rfl,rfl⟩
instance : HB Tryz.prog 40 := ⟨_,Tryz.func40,rfl,rfl⟩
instance : HB Tryz.prog 41 := ⟨_,Tryz.func41,rfl,rfl⟩
instance : HB Tryz.prog 42 := ⟨_,Tryz.func42,rfl,rfl⟩
instance : HB Tryz.prog 43 := ⟨_,Tryz.func43,rfl,rfl⟩
instance : HB Tryz.prog 44 := ⟨_,Tryz.func44,rfl,rfl⟩
instance : HB Tryz.prog 45 := ⟨_,Tryz.func45,rfl,rfl⟩
instance : HB Tryz.prog 46 := ⟨_,Tryz.func46,rfl,rfl⟩
instance : HB Tryz.prog 47 := ⟨_,Tryz.func47,rfl,rfl⟩
instance : HB Tryz.prog 48 := ⟨_,Tryz.func48,rfl,rfl⟩
instance : HB Tryz.prog 49 := ⟨_,Tryz.func49,rfl,rfl⟩
instance : HB Tryz.prog 50 := ⟨_,Tryz.func50,rfl,rfl⟩
instance : HB Tryz.prog 51 := ⟨_,Tryz.func51,rfl,rfl⟩
instance : HB Tryz.prog 52 := ⟨_,Tryz.func52,rfl,rfl⟩
instance : HB Tryz.prog 53 := ⟨_,Tryz.func53,rfl,rfl⟩
instance : HB Tryz.prog 54 := ⟨_,Tryz.func54,rfl,rfl⟩
instance : HB Tryz.prog 55 := ⟨_,Tryz.func55,rfl,rfl⟩
instance : HB Tryz.prog 56 := ⟨_,Tryz.func56,rfl,rfl⟩
instance : HB Tryz.prog 57 := ⟨_,Tryz.func57,rfl,rfl⟩
instance : HB Tryz.prog 58 := ⟨_,Tryz.func58,rfl,rfl⟩
instance : HB Tryz.prog 59 := ⟨_,Tryz.func59,rfl,rfl⟩
instance : HB Tryz.prog 60 := ⟨_,Tryz.func60,rfl,rfl⟩
instance : HB Tryz.prog 61 := ⟨_,Tryz.func61,rfl,rfl⟩
instance : HB Tryz.prog 62 := ⟨_,Tryz.func62,rfl,rfl⟩
instance : HB Tryz.prog 63 := ⟨_,Tryz.func63,rfl,rfl⟩
instance : HB Tryz.prog 64 := ⟨_,Tryz.func64,rfl,rfl⟩
instance : HB Tryz.prog 65 := ⟨_,Tryz.func65,rfl,rfl⟩
instance : HB Tryz.prog 66 := ⟨_,Tryz.func66,rfl,rfl⟩
instance : HB Tryz.prog 67 := ⟨_,Tryz.func67,rfl,rfl⟩
instance : HB Tryz.prog 68 := ⟨_,Tryz.func68,rfl,rfl⟩
instance : HB Tryz.prog 69 := ⟨_,Tryz.func69,rfl,rfl⟩
instance : HB Tryz.prog 70 := ⟨_,Tryz.func70,rfl,rfl⟩
instance : HB Tryz.prog 71 := ⟨_,Tryz.func71,rfl,rfl⟩
instance : HB Tryz.prog 72 := ⟨_,Tryz.func72,rfl,rfl⟩
instance : HB Tryz.prog 73 := ⟨_,Tryz.func73,rfl,rfl⟩
instance : HB Tryz.prog 74 := ⟨_,Tryz.func74,rfl,rfl⟩
instance : HB Tryz.prog 75 := ⟨_,Tryz.func75,rfl,rfl⟩
instance : HB Tryz.prog 76 := ⟨_,Tryz.func76,rfl,rfl⟩
instance : HB Tryz.prog 77 := ⟨_,Tryz.func77,rfl,rfl⟩
instance : HB Tryz.prog 78 := ⟨_,Tryz.func78,rfl,rfl⟩
instance : HB Tryz.prog 79 := ⟨_,Tryz.func79,rfl,rfl⟩
instance : HB Tryz.prog 80 := ⟨_,Tryz.func80,rfl,rfl⟩
instance : HB Tryz.prog 81 := ⟨_,Tryz.func81,rfl,rfl⟩
instance : HB Tryz.prog 82 := ⟨_,Tryz.func82,rfl,rfl⟩
instance : HB Tryz.prog 83 := ⟨_,Tryz.func83,rfl,rfl⟩
instance : HB Tryz.prog 84 := ⟨_,Tryz.func84,rfl,rfl⟩
instance : HB Tryz.prog 85 := ⟨_,Tryz.func85,rfl,rfl⟩
instance : HB Tryz.prog 86 := ⟨_,Tryz.func86,rfl,rfl⟩
instance : HB Tryz.prog 87 := ⟨_,Tryz.func87,rfl,rfl⟩
instance : HB Tryz.prog 88 := ⟨_,Tryz.func88,rfl,rfl⟩
instance : HB Tryz.prog 89 := ⟨_,Tryz.func89,rfl,rfl⟩
instance : HB Tryz.prog 90 := ⟨_,Tryz.func90,rfl,rfl⟩
instance : HB Tryz.prog 91 := ⟨_,Tryz.func91,rfl,rfl⟩
instance : HB Tryz.prog 92 := ⟨_,Tryz.func92,rfl,rfl⟩
instance : HB Tryz.prog 93 := ⟨_,Tryz.func93,rfl,rfl⟩
instance : HB Tryz.prog 94 := ⟨_,Tryz.func94,rfl,rfl⟩
instance : HB Tryz.prog 95 := ⟨_,Tryz.func95,rfl,rfl⟩
instance : HB Tryz.prog 96 := ⟨_,Tryz.func96,rfl,rfl⟩
instance : HB Tryz.prog 97 := ⟨_,Tryz.func97,rfl,rfl⟩
instance : HB Tryz.prog 98 := ⟨_,Tryz.func98,rfl,rfl⟩
instance : HB Tryz.prog 99 := ⟨_,Tryz.func99,rfl,rfl⟩
instance : HB Tryz.prog 100 := ⟨_,Tryz.func100,rfl,rfl⟩
instance : HB Tryz.prog 101 := ⟨_,Tryz.func101,rfl,rfl⟩
instance : HB Tryz.prog 102 := ⟨_,Tryz.func102,rfl,rfl⟩
instance : HB Tryz.prog 103 := ⟨_,Tryz.func103,rfl,rfl⟩
instance : HB Tryz.prog 104 := ⟨_,Tryz.func104,rfl,rfl⟩
instance : HB Tryz.prog 105 := ⟨_,Tryz.func105,rfl,rfl⟩
instance : HB Tryz.prog 106 := ⟨_,Tryz.func106,rfl,rfl⟩
instance : HB Tryz.prog 107 := ⟨_,Tryz.func107,rfl,rfl⟩
instance : HB Tryz.prog 108 := ⟨_,Tryz.func108,rfl,rfl⟩
instance : HB Tryz.prog 109 := ⟨_,Tryz.func109,rfl,rfl⟩
instance : HB Tryz.prog 110 := ⟨_,Tryz.func110,rfl,rfl⟩
instance : HB Tryz.prog 111 := ⟨_,Tryz.func111,rfl,rfl⟩
instance : HB Tryz.prog 112 := ⟨_,Tryz.func112,rfl,rfl⟩
instance : HB Tryz.prog 113 := ⟨_,Tryz.func113,rfl,rfl⟩
instance : HB Tryz.prog 114 := ⟨_,Tryz.func114,rfl,rfl⟩
instance : HB Tryz.prog 115 := ⟨_,Tryz.func115,rfl,rfl⟩
instance : HB Tryz.prog 116 := ⟨_,Tryz.func116,rfl,rfl⟩
instance : HB Tryz.prog 117 := ⟨_,Tryz.func117,rfl,rfl⟩
instance : HB Tryz.prog 118 := ⟨_,Tryz.func118,rfl,rfl⟩
instance : HB Tryz.prog 119 := ⟨_,Tryz.func119,rfl,rfl⟩
instance : HB Tryz.prog 120 := ⟨_,Tryz.func120,rfl,rfl⟩
instance : HB Tryz.prog 121 := ⟨_,Tryz.func121,rfl,rfl⟩
instance : HB Tryz.prog 123 := ⟨_,Tryz.func123,rfl,rfl⟩
instance : HB Tryz.prog 124 := ⟨_,Tryz.func124,rfl,rfl⟩
instance : HB Tryz.prog 126 := ⟨_,Tryz.func126,rfl,rfl⟩
instance : HB Tryz.prog 127 := ⟨_,Tryz.func127,rfl,rfl⟩
instance : HB Tryz.prog 128 := ⟨_,Tryz.func128,rfl,rfl⟩
instance : HB Tryz.prog 129 := ⟨_,Tryz.func129,rfl,rfl⟩
instance : HB Tryz.prog 130 := ⟨_,Tryz.func130,rfl,rfl⟩
instance : HB Tryz.prog 131 := ⟨_,Tryz.func131,rfl,rfl⟩
instance : HB Tryz.prog 132 := ⟨_,Tryz.func132,rfl,rfl⟩
instance : HB Tryz.prog 133 := ⟨_,Tryz.func133,rfl,rfl⟩
instance : HB Tryz.prog 134 := ⟨_,Tryz.func134,rfl,rfl⟩
instance : HB Tryz.prog 135 := ⟨_,Tryz.func135,rfl,rfl⟩
instance : HB Tryz.prog 136 := ⟨_,Tryz.func136,rfl,rfl⟩
instance : HB Tryz.prog 137 := ⟨_,Tryz.func137,rfl,rfl⟩
instance : HB Tryz.prog 138 := ⟨_,Tryz.func138,rfl,rfl⟩
instance : HB Tryz.prog 139 := ⟨_,Tryz.func139,rfl,rfl⟩
instance : HB Tryz.prog 145 := ⟨_,Tryz.func145,rfl,rfl⟩
instance : HB Tryz.prog 149 := ⟨_,Tryz.func149,rfl,rfl⟩
instance : HB Tryz.prog 150 := ⟨_,Tryz.func150,rfl,rfl⟩
instance : HB Tryz.prog 152 := ⟨_,Tryz.func152,rfl,rfl⟩
instance : HB Tryz.prog 153 := ⟨_,Tryz.func153,rfl,rfl⟩
instance : HB Tryz.prog 154 := ⟨_,Tryz.func154,rfl,rfl⟩
instance : HB Tryz.prog 158 := ⟨_,Tryz.func158,rfl,rfl⟩
instance : HB Tryz.prog 159 := ⟨_,Tryz.func159,rfl,rfl⟩
instance : HB Tryz.prog 160 := ⟨_,Tryz.func160,rfl,rfl⟩
instance : HB Tryz.prog 163 := ⟨_,Tryz.func163,rfl,rfl⟩
instance : HB Tryz.prog 164 := ⟨_,Tryz.func164,rfl,rfl⟩
instance : HB Tryz.prog 165 := ⟨_,Tryz.func165,rfl,rfl⟩
instance : HB Tryz.prog 168 := ⟨_,Tryz.func168,rfl,rfl⟩
instance : HB Tryz.prog 170 := ⟨_,Tryz.func170,rfl,rfl⟩
instance : HB Tryz.prog 171 := ⟨_,Tryz.func171,rfl,rfl⟩
instance : HB Tryz.prog 177 := ⟨_,Tryz.func177,rfl,rfl⟩
instance : HB Tryz.prog 178 := ⟨_,Tryz.func178,rfl,rfl⟩
instance : HB Tryz.prog 184 := ⟨_,Tryz.func184,rfl,rfl⟩
instance : HB Tryz.prog 185 := ⟨_,Tryz.func185,rfl,rfl⟩
instance : HB Tryz.prog 186 := ⟨_,Tryz.func186,rfl,rfl⟩
instance : HB Tryz.prog 226 := ⟨_,Tryz.func226,rfl,rfl⟩
instance : HB Tryz.prog 227 := ⟨_,Tryz.func227,rfl,rfl⟩
instance : HB Tryz.prog 228 := ⟨_,Tryz.func228,rfl,rfl⟩
instance : HB Tryz.prog 233 := ⟨_,Tryz.func233,rfl,rfl⟩
instance : HB Tryz.prog 234 := ⟨_,Tryz.func234,rfl,rfl⟩
instance : HB Tryz.prog 235 := ⟨_,Tryz.func235,rfl,rfl⟩
instance : HB Tryz.prog 236 := ⟨_,Tryz.func236,rfl,rfl⟩
end Go.Gx
end
section
namespace Go.Gx
open Go Go.Conc
section
variable {P : Program} {main : Bool} {L : Lg P main} {f : FuncId} {ro : Option Nat} {ds : Dz} {cs : List Frame} {n : Nat} {k : List Item} {ops : Array Oper} {Hq H : Facts} {R : List Reg} {Ls : List Nat} {Fs : List Flo} {E : Env}
theorem Pool.weakE {E' : Env} (h : Pool L f ro ds cs n ops k Hq R Ls Fs E' H) (hE : ∀ t,look E' t = look E t) : Pool L f ro ds cs n ops k Hq R Ls Fs E H := by
 intro S SF hsub fuel t listed tmps ρ I hfuel
 exact h ⟨S.ok,fun q hq t ht => by rw [hE];exact S.env q hq t ht,S.uniq,S.pair⟩ ⟨SF.ok,SF.ne,SF.nF,fun F hF t ht => by rw [hE];exact SF.env F hF t ht⟩ hsub fuel t listed tmps ρ ⟨I.size,I.lsz,I.reg,I.ls,fun t v hv => I.env t v (by rw [← hE];exact hv),I.pend,I.flo,I.cl⟩ hfuel
theorem Pool.qlo2 (i i' : Nat) {o o' : Oper} {d d' : Nat} {v v' : Value} (ho : ops[i]? = some o) (ho' : ops[i']? = some o') (hdst : dstOk o.dst n = true) (hdst' : dstOk o'.dst n = true) (hw : wantE ops o E = some true) (hw' : wantE ops o' E = some true)
  (hw1 : wantE ops o' ((d,v) :: E) = some true) (hw2 : wantE ops o ((d',v') :: E) = some true) (hsel : noSel o = true) (hsel' : noSel o' = true) (hd : o.dst = some d) (hd' : o'.dst = some d') (hdd : Nat.beq d d' = false) (hdn : downOk ops = true)
  (honly : onlyIn R Ls Fs ops [i,i'] = true) (hon1 : onlyIn R (i :: Ls) Fs ops [i'] = true) (hon2 : onlyIn R (i' :: Ls) Fs ops [i] = true) (hlt : Nat.blt i ops.size = true) (hlt' : Nat.blt i' ops.size = true)
  (hr : regd R Ls i = false) (hr2 : regd R (i' :: Ls) i = false) (hr1 : regd R (i :: Ls) i' = false) (hfl : flod Fs i = false) (hfl' : flod Fs i' = false)
  (hc : checkReg R Ls Fs ops i o = true) (hc' : checkReg R Ls Fs ops i' o' = true) (hc2 : checkReg R (i' :: Ls) Fs ops i o = true) (hc1 : checkReg R (i :: Ls) Fs ops i' o' = true)
  (hQ : ∀ E',(∀ x,x ≠ d' → look E' x = look E x) → QOp P o E' H v) (hQ' : ∀ E',(∀ x,x ≠ d → look E' x = look E x) → QOp P o' E' H v') (hq : Sub Hq H)
  (h : Pool L f ro ds cs n ops k Hq R (i' :: i :: Ls) Fs ((d',v') :: (d,v) :: E) H) : Pool L f ro ds cs n ops k Hq R Ls Fs E H := by
 have hne : d ≠ d' := fun e => by subst e;simp at hdd
 have g1 : Pool L f ro ds cs n ops k Hq R (i :: Ls) Fs ((d,v) :: E) H :=
  Pool.qlo i' ho' hdst' hw1 hsel' hd' hdn hon1 hlt' hr1 hfl' hc1 (hQ' _ fun x hx => by rw [look_cons,if_neg (Ne.symm hx)]) hq h
 have g2 : Pool L f ro ds cs n ops k Hq R (i' :: Ls) Fs ((d',v') :: E) H := by
  refine Pool.qlo i ho hdst hw2 hsel hd hdn hon2 hlt hr2 hfl hc2 (hQ _ fun x hx => by rw [look_cons,if_neg (Ne.symm hx)]) hq (Pool.swap (Pool.weakE h fun t => ?_))
  simp only [look_cons]
  by_cases e1 : d' = t <;> by_cases e2 : d = t <;> simp [e1,e2]
  exact absurd (e2.trans e1.symm) hne
 refine pool_any [i,i'] hdn honly (blt_lt hlt) hr hfl fun l hl => ?_
 rcases (by simpa using hl : l = i ∨ l = i') with rfl | rfl
 ·refine loud_l ho hw hdst hc hsel (hQ _ fun _ _ => rfl).lop ?_
  rintro _ _ ⟨rfl,rfl⟩
  rw [hd];exact ⟨hq,g1⟩
 ·refine loud_l ho' hw' hdst' hc' hsel' (hQ' _ fun _ _ => rfl).lop ?_
  rintro _ _ ⟨rfl,rfl⟩
  rw [hd'];exact ⟨hq,g2⟩
theorem Pool.stN (j i q : Nat) {o : Oper} {t : TypeId} {x y : Operand} {b off : Nat} {z l : List Value} {v : Value} {T : TypeId} {H' : Facts} (ho : ops[i]? = some o) (hw : wantE ops o E = some true) (hd : o.dst = none) (hop : o.op = .store t x y) (hdn : downOk ops = true) (honly : onlyIn R Ls Fs ops [i] = true)
  (hlt : Nat.blt i ops.size = true) (hr : regd R Ls i = false) (hfl : flod Fs i = false) (hc : checkReg R Ls Fs ops i o = true) (hx : ev E x = some (.pointer (some ⟨b,off,none⟩))) (hy : ev E y = some v)
  [ht : TyI P t false 1 z] (hv : cellsV v = some [v]) (h1 : v.oneCell' = true) (hf : nthF H j = some (.own b (.cells (List.toArray l) T (0,0)))) (hoff : off = q) (hs : q < l.length) (hH : setF H j (.own b (.cells (List.toArray (l.set q v)) T (0,0))) = some H') (hq : Sub Hq H')
  (h : Pool L f ro ds cs n ops k Hq R (i :: Ls) Fs E H') : Pool L f ro ds cs n ops k Hq R Ls Fs E H := by
 subst hoff
 obtain ⟨zv,by_,e1,_⟩ := ht.h
 have e2 := cellsV_eq hv
 refine pool_any [i] hdn honly (blt_lt hlt) hr hfl fun l'' hl'' => ?_
 obtain rfl : l'' = i := by simpa using hl''
 refine loud_l ho hw (by rw [hd];rfl) hc (by unfold noSel;rw [hop]) (l_store hop hx hy e1 (T := T) (c := l.toArray) (c' := (l.set off v).toArray) (by rw [e2];rfl) (by rw [e2];simpa using h1) (by simp;omega) (by rw [e2];simp) (setF_upd hf hH)) ?_
 rintro _ _ ⟨rfl,rfl⟩
 rw [hd]
 exact ⟨hq,h⟩
end
end Go.Gx
end
section
namespace Go.Gx
open Go
theorem mul_bd {a b : Int} {A B : Nat} (h1 : a.natAbs ≤ A) (h2 : b.natAbs ≤ B) : (a * b).natAbs ≤ A * B := by
 rw [Int.natAbs_mul];exact Nat.mul_le_mul h1 h2
def lowN (n d : Int) : Int := (if d < 0 then -n else n).tdiv (Int.gcd n d)
def lowD (n d : Int) : Int := (if d < 0 then -d else d).tdiv (Int.gcd n d)
def slopeBar (n d : Int) : Int := if ¬ (1 ≤ d ∧ d ≤ 20) ∨ ¬ (-20 ≤ n ∧ n ≤ 20) then 1 else if lowN n d ≠ n ∨ lowD n d ≠ d then 3 else 0
abbrev R2 := Int × Int
abbrev Spot := R2 × R2
def low (n d : Int) : R2 := (lowN n d,lowD n d)
def lessW (a b : R2) : Bool := decide (wr (a.1 * b.2) < wr (b.1 * a.2))
def evenlyM (a z : R2) (k n : Int) : R2 := low (a.1 * z.2 * (n - k) + z.1 * a.2 * k) (a.2 * z.2 * n)
def minusM (a b : R2) : R2 := low (a.1 * b.2 - b.1 * a.2) (a.2 * b.2)
def offL (p : R2) (eye : Int) (s : R2) : Int := (p.2 - eye) * s.2 - s.1 * p.1
def crossM (p q : R2) (eye : Int) (s : R2) : List Spot :=
 if p = q then []
 else if offL p eye s = 0 ∧ offL q eye s = 0 then [((p.1,1),(p.2,1)),((q.1,1),(q.2,1))]
 else if (offL p eye s ≤ 0 ∧ 0 ≤ offL q eye s) ∨ (0 ≤ offL p eye s ∧ offL q eye s ≤ 0) then
  [(low (p.1 * (offL p eye s - offL q eye s) + (q.1 - p.1) * offL p eye s) (offL p eye s - offL q eye s),low (p.2 * (offL p eye s - offL q eye s) + (q.2 - p.2) * offL p eye s) (offL p eye s - offL q eye s))]
 else []
def bestM {α : Type} (better : α → α → Bool) : α → List α → α
 | one,[] => one
 | one,x :: l => bestM better (if better x one then x else one) l
def piecesM (ps : List R2) (eye : Int) (s : R2) : List Spot := (ps.zip ps.tail).flatMap fun x => crossM x.1 x.2 eye s
def meetM (ps : List R2) (eye : Int) (s : R2) : Option Spot :=
 match piecesM ps eye s with
 | [] => none
 | x :: l => some (bestM (fun a b => lessW a.1 b.1) x l)
def PtOk (p : R2) : Prop := 1 ≤ p.1 ∧ p.1 ≤ 60 ∧ 0 ≤ p.2 ∧ p.2 ≤ 90
def EyeOk (n : Int) : Prop := 0 ≤ n ∧ n ≤ 90
def SlOk (s : R2) : Prop := -10000 ≤ s.1 ∧ s.1 ≤ 10000 ∧ 1 ≤ s.2 ∧ s.2 ≤ 10000
theorem offL_bd {p : R2} {eye : Int} {s : R2} (hp : PtOk p) (he : EyeOk eye) (hs : SlOk s) : (offL p eye s).natAbs ≤ 1500000 := by
 unfold PtOk at hp
 unfold EyeOk at he
 unfold SlOk at hs
 have h1 := mul_bd (a := p.2 - eye) (b := s.2) (A := 90) (B := 10000) (by omega) (by omega)
 have h2 := mul_bd (a := s.1) (b := p.1) (A := 10000) (B := 60) (by omega) (by omega)
 unfold offL
 omega
def hBar (n : Int) : Int := if 0 ≤ n ∧ n ≤ 90 then 0 else 1
structure Bk where
 prof : List R2
 size : Int
 lo : Int
 hi : Int
 marks : List (R2 × Int)
def ptsBar : Option Int → List R2 → Int
 | _,[] => 0
 | pr,p :: ps =>
  if ¬ (1 ≤ p.1 ∧ p.1 ≤ 60) ∨ ¬ (0 ≤ p.2 ∧ p.2 ≤ 90) then 1
  else if (match pr with | some h => decide (p.2 ≤ h) | none => false) = true then 7
  else ptsBar (some p.2) ps
def profBar (ps : List R2) : Int := if ¬ (2 ≤ ps.length ∧ ps.length ≤ 5) then 2 else ptsBar none ps
def sizeBar (B : Bk) : Int := if ¬ (1 ≤ B.size ∧ B.size ≤ 30) ∨ ¬ (0 ≤ B.lo ∧ B.lo ≤ B.hi ∧ B.hi ≤ 90) ∨ 3 ≤ B.hi - B.lo then 1 else 0
def markBar (m : R2 × Int) : Int := if slopeBar m.1.1 m.1.2 ≠ 0 then slopeBar m.1.1 m.1.2 else hBar m.2
def marksBar : List (R2 × Int) → Int
 | [] => 0
 | m :: ms => if markBar m ≠ 0 then markBar m else marksBar ms
def mksBar (ms : List (R2 × Int)) : Int := if 4 < ms.length then 2 else marksBar ms
def bookBar (B : Bk) : Int := if profBar B.prof ≠ 0 then profBar B.prof else if sizeBar B ≠ 0 then sizeBar B else mksBar B.marks
def firstBar : List Int → Int
 | [] => 0
 | r :: rs => if r ≠ 0 then r else firstBar rs
end Go.Gx
end
section
namespace Go.Gx
open Go Go.Conc Go.Proofs
variable {main : Bool}
theorem s68 (L : Lg Tryz.prog main) (H : Facts) {n : Int} (hn : InI (-n)) : Pure L 68 #[.int .i64 n] H (.int .i64 (if -n > n then -n else n)) := by
 refine Spec.enter Tryz.func68 rfl (by simp [Tryz.f68]) fun c cs hc => ?_;refine At.seq (At.region ?_);refine Aa Z Z Z Z Z O ?_;refine Ab (At.seq (At.region ?_));(iterate 2 refine Aa Z Z Z Z Z O ?_);refine Aa Z Z Z Z Z (by assumption) ?_;(iterate 2 refine Aa Z Z Z Z Z O ?_);refine Ab ?_
 exact At.ret Tryz.func68 (.inr ⟨_,rfl⟩) rfl (.tmp rfl .nil) (wk (hc _ _ (⟨by simp_all [resVal];try omega,rfl⟩)))
theorem s115 (L : Lg Tryz.prog main) (H : Facts) {n lo hi : Int} : Pure L 115 #[.int .i64 n,.int .i64 lo,.int .i64 hi] H (.bool (decide (lo ≤ n ∧ n ≤ hi))) := by
 refine Spec.enter Tryz.func115 rfl (by simp [Tryz.f115]) fun c cs hc => ?_;refine At.seq (At.region ?_);refine Aa Z Z Z Z Z O ?_;refine Ab (At.seq (At.region ?_));(iterate 2 refine Aa Z Z Z Z Z O ?_);refine Ad Z Z Z Z Z fun b9 h9 => ?_;refine Aa Z Z Z Z Z O ?_
 cases b9
 ·refine Ar Z Z Z Z ?_
  (iterate 2 refine Ar Z Z Z Z ?_);(iterate 2 refine Aa Z Z Z Z Z O ?_);refine Ab ?_
  exact At.ret Tryz.func115 (.inr ⟨_,rfl⟩) rfl (.tmp rfl .nil) (wk (hc _ _ (⟨by simp_all [resVal];try omega,rfl⟩)))
 ·refine Aa Z Z Z Z Z O ?_
  refine Aa Z Z Z Z Z O ?_;refine Ad Z Z Z Z Z fun b13 h13 => ?_;(iterate 2 refine Aa Z Z Z Z Z O ?_);refine Ab ?_
  exact At.ret Tryz.func115 (.inr ⟨_,rfl⟩) rfl (.tmp rfl .nil) (wk (hc _ _ (⟨by simp_all [resVal];try omega,rfl⟩)))
theorem s60 (L : Lg Tryz.prog main) (H : Facts) {a b c d : Int} : Pure L 60 #[.agg #[.int .i64 a,.int .i64 b],.agg #[.int .i64 c,.int .i64 d]] H (.bool (lessW (a,b) (c,d))) := by
 refine Spec.enter Tryz.func60 rfl (by simp [Tryz.f60]) fun c cs hc => ?_;refine At.seq (At.region ?_);refine An Z Z Z Z Z Z Z fun r2 => ?_;refine An Z Z Z Z Z Z Z fun r3 => ?_;refine Aa Z Z Z Z Z O ?_;refine Ab (At.seq (At.region ?_));refine Ah 0 Z Z Z Z Z Z Z ?_;refine Af 1 Z Z Z Z Z Z Z Z Z ?_;refine Ah 1 Z Z Z Z Z Z Z ?_
 refine Af 0 Z Z Z Z Z Z Z Z Z ?_;refine Ae Z Z Z Z (q_mulW Z Z Z) ?_;refine Ah 0 Z Z Z Z Z Z Z ?_;refine Af 0 Z Z Z Z Z Z Z Z Z ?_;refine Ah 1 Z Z Z Z Z Z Z ?_;refine Af 1 Z Z Z Z Z Z Z Z Z ?_;refine Ae Z Z Z Z (q_mulW Z Z Z) ?_;refine Ad Z Z Z Z Z fun b15 h15 => ?_;refine Aa Z Z Z Z Z O ?_;refine Ab ?_
 exact At.ret Tryz.func60 (.inr ⟨_,rfl⟩) rfl (.tmp rfl .nil) (wk (hc _ _ (⟨by simp_all [resVal,lessW],rfl⟩)))
theorem s61 (L : Lg Tryz.prog main) (H : Facts) {n : Int} : Pure L 61 #[.int .i64 n] H (.agg #[.int .i64 n,.int .i64 1]) := by
 refine Spec.enter Tryz.func61 rfl (by simp [Tryz.f61]) fun c cs hc => ?_;refine At.seq (At.region ?_);refine Al Z Z Z Z Z fun r2 => ?_;refine Ab (At.seq (At.region ?_));refine Aa Z Z Z Z Z O ?_;refine Ae Z Z Z Z (q_build Z Z Z) ?_;refine Ag 0 Z Z Z Z Z Z Z Z Z Z Z Z ?_;refine Ab ?_
 exact At.ret Tryz.func61 (.inr ⟨_,rfl⟩) rfl (.aggJ 0 Z Z Z .nil) (wk (hc _ _ (⟨by rfl,rfl⟩)))
theorem s59 (L : Lg Tryz.prog main) (H : Facts) {a b : Int} : Pure L 59 #[.agg #[.int .i64 a,.int .i64 b]] H (.agg #[.int .i64 a,.int .i64 1,.int .i64 b,.int .i64 1]) := by
 refine Spec.enter Tryz.func59 rfl (by simp [Tryz.f59]) fun c cs hc => ?_;refine At.seq (At.region ?_);refine An Z Z Z Z Z Z Z fun r1 => ?_;refine Al Z Z Z Z Z fun r2 => ?_;refine Ab (At.seq ?_);refine Aw hmix [0] rfl ?_;refine Am 0 0 Z Z Z Z Z Z Z Z Z ?_;refine Aj 0 1 Z Z Z Z Z Z Z Z Z Z Z ?_;refine Ap 2 Z Z Z Z Z Z Z Z Z (fun H hs => s61 L H) ?_
 refine Am 1 3 Z Z Z Z Z Z Z Z Z ?_;refine Aj 0 4 Z Z Z Z Z Z Z Z Z Z Z ?_;refine Ap 5 Z Z Z Z Z Z Z Z Z (fun H hs => s61 L H) ?_;refine Ak 6 Z Z Z Z Z (q_build Z Z Z) rfl ?_;refine Ba 0 7 Z Z Z Z Z Z Z Z Z Z Z Z Z Z Z Z Z Z sb ?_;refine pool_done Z Z ?_;refine Ab ?_
 exact At.ret Tryz.func59 (.inr ⟨_,rfl⟩) rfl (.aggJ 0 Z Z Z .nil) (wk (hc _ _ (⟨by rfl,rfl⟩)))
theorem s235 (L : Lg Tryz.prog main) (H : Facts) {l h lo hi : Int} : Pure L 235 #[.agg #[.int .i64 l,.int .i64 h],.int .i64 lo,.int .i64 hi] H (.bool (decide (lo ≤ l ∧ l ≤ h ∧ h ≤ hi))) := by
 refine Spec.enter Tryz.func235 rfl (by simp [Tryz.f235]) fun c cs hc => ?_;refine At.seq (At.region ?_);refine An Z Z Z Z Z Z Z fun r3 => ?_;refine Aa Z Z Z Z Z O ?_;refine Ab (At.seq (At.region ?_));refine Aa Z Z Z Z Z O ?_;refine Ah 0 Z Z Z Z Z Z Z ?_;refine Af 0 Z Z Z Z Z Z Z Z Z ?_;refine Ad Z Z Z Z Z fun b10 h10 => ?_;refine Aa Z Z Z Z Z O ?_
 cases b10
 ·refine Ar Z Z Z Z ?_
  (iterate 4 refine Ar Z Z Z Z ?_);(iterate 2 refine Aa Z Z Z Z Z O ?_);(iterate 4 refine Ar Z Z Z Z ?_);(iterate 2 refine Aa Z Z Z Z Z O ?_);refine Ab ?_
  exact At.ret Tryz.func235 (.inr ⟨_,rfl⟩) rfl (.tmp rfl .nil) (wk (hc _ _ (⟨by simp_all [resVal];try omega,rfl⟩)))
 ·refine Ah 0 Z Z Z Z Z Z Z ?_
  refine Af 0 Z Z Z Z Z Z Z Z Z ?_;refine Ah 1 Z Z Z Z Z Z Z ?_;refine Af 0 Z Z Z Z Z Z Z Z Z ?_;refine Ad Z Z Z Z Z fun b16 h16 => ?_;(iterate 2 refine Aa Z Z Z Z Z O ?_)
  cases b16
  ·refine Ar Z Z Z Z ?_
   (iterate 3 refine Ar Z Z Z Z ?_);(iterate 2 refine Aa Z Z Z Z Z O ?_);refine Ab ?_
   exact At.ret Tryz.func235 (.inr ⟨_,rfl⟩) rfl (.tmp rfl .nil) (wk (hc _ _ (⟨by simp_all [resVal];try omega,rfl⟩)))
  ·refine Ah 1 Z Z Z Z Z Z Z ?_
   refine Af 0 Z Z Z Z Z Z Z Z Z ?_;refine Aa Z Z Z Z Z O ?_;refine Ad Z Z Z Z Z fun b22 h22 => ?_;(iterate 2 refine Aa Z Z Z Z Z O ?_);refine Ab ?_
   exact At.ret Tryz.func235 (.inr ⟨_,rfl⟩) rfl (.tmp rfl .nil) (wk (hc _ _ (⟨by simp_all [resVal];try omega,rfl⟩)))
theorem s109 (L : Lg Tryz.prog main) (H : Facts) {n : Int} : Pure L 109 #[.int .i64 n] H (.int .i64 (if 0 ≤ n ∧ n ≤ 90 then 0 else 1)) := by
 refine Spec.enter Tryz.func109 rfl (by simp [Tryz.f109]) fun c cs hc => ?_;refine At.seq (At.region ?_);refine Aa Z Z Z Z Z O ?_;refine Ab (At.seq (At.seq (At.region ?_)));refine Aa Z Z Z Z Z O ?_;refine Bc Z Z Z Z Z Z Z Z (s115 L _) fun b4 h4 => ?_;refine Aa Z Z Z Z Z O ?_;refine Ab ?_
 cases b4
 ·refine At.cond Z ?_
  refine At.seq (At.region ?_);refine Aa Z Z Z Z Z O ?_;refine Ab ?_
  exact At.ret Tryz.func109 (.inr ⟨_,rfl⟩) rfl (.tmp rfl .nil) (wk (hc _ _ (⟨by simp_all [resVal];try omega,rfl⟩)))
 ·refine At.cond Z ?_
  refine At.skip (At.seq (At.region ?_));refine Aa Z Z Z Z Z O ?_;refine Ab ?_
  exact At.ret Tryz.func109 (.inr ⟨_,rfl⟩) rfl (.tmp rfl .nil) (wk (hc _ _ (⟨by simp_all [resVal];try omega,rfl⟩)))
end Go.Gx
end
section
namespace Go.Gx
open Go Go.Conc Go.Proofs
variable {main : Bool}
theorem s58 (L : Lg Tryz.prog main) (H : Facts) {n d : Int} (hd : d ≠ 0) (h1 : Mid n) (h2 : Mid d) : Pure L 58 #[.int .i64 n,.int .i64 d] H (.agg #[.int .i64 (lowN n d),.int .i64 (lowD n d)]) := by
 refine Spec.enter Tryz.func58 rfl (by simp [Tryz.f58]) fun c cs hc => ?_
 have i1 := h1
 have i2 := h2
 unfold Mid at i1 i2
 refine At.seq (At.region ?_);refine Al Z Z Z Z Z fun r4 => ?_;refine Ab (At.seq (At.seq (At.region ?_)));refine Aa Z Z Z Z Z O ?_;refine Ad Z Z Z Z Z fun b8 h8 => ?_;refine Ab ?_
 refine At.cut (X := { p : Int × Int // 0 < p.2 ∧ Mid p.1 ∧ Mid p.2 ∧ p.1 = (if d < 0 then -n else n) ∧ p.2 = (if d < 0 then -d else d) }) (fun x => [(0,.int .i64 x.1.1),(1,.int .i64 x.1.2),(4,.pointer (some ⟨r4,0,none⟩))]) (fun x => .own r4 (.cells #[.int .i64 0,.int .i64 0] 40 (0,0)) :: H) ?_ fun key => ?_
 ·rintro ⟨⟨n',d'⟩,hpos,hn',hd',en,ed⟩
  simp only at hpos hn' hd' en ed ⊢
  have j1 := hn'
  have j2 := hd'
  unfold Mid at j1 j2
  refine At.seq (At.region ?_);refine Aa Z Z Z Z Z O ?_;refine Ai Z Z Z Z Z Z Z Z (s68 L _ bz) ?_;(iterate 3 refine Aa Z Z Z Z Z O ?_);refine Ab (At.seq ?_);refine At.block ?_
  refine At.lp (X := { p : Int × Int // 0 ≤ p.1 ∧ 0 ≤ p.2 ∧ Int.gcd p.1 p.2 = Int.gcd n' d' ∧ (p.2 = 0 → p.1 ≠ 0) }) (fun x => [(0,.int .i64 n'),(1,.int .i64 d'),(4,.pointer (some ⟨r4,0,none⟩)),(5,.int .i64 x.1.1),(6,.int .i64 x.1.2)]) (fun x => .own r4 (.cells #[.int .i64 0,.int .i64 0] 40 (0,0)) :: H) (fun x => x.1.2.toNat) ⟨(if -n' > n' then -n' else n',d'),?_⟩ ?_ ⟨rfl,rfl,rfl,rfl,rfl,trivial⟩ (Sub.refl _)
  ·refine ⟨?_,by omega,?_,by omega⟩
   ·split <;> omega
   ·have : (if -n' > n' then -n' else n').natAbs = n'.natAbs := by split <;> omega
    rw [Int.gcd,this,Int.gcd]
  ·rintro ⟨⟨a,b⟩,ha,hb,hg,hz⟩ again
   simp only at ha hb hg hz again ⊢
   refine At.seq (At.seq (At.region ?_));refine Aa Z Z Z Z Z O ?_;refine Ad Z Z Z Z Z fun b17 h17 => ?_;refine Ab ?_
   cases b17
   ·have hb0 : b = 0 := by simpa using h17
    have ha' : a = (Int.gcd n d : Int) := by
     have e1 : Int.gcd n' d' = Int.gcd n d := by
      rw [en,ed]
      split <;> simp
     rw [← e1,← hg,hb0]
     simp
     omega
    have q1 : a ≠ 0 ∧ InI (n'.tdiv a) := ⟨hz hb0,tdiv_in hn'⟩
    have q2 : a ≠ 0 ∧ InI (d'.tdiv a) := ⟨hz hb0,tdiv_in hd'⟩
    refine At.cond Z ?_;refine At.exit rfl ?_;refine At.seq ?_;refine Aw hmix [0] rfl ?_;refine Ac 0 Z Z Z Z Z Z Z O ?_;refine Ac 1 Z Z Z Z Z Z Z O ?_;refine Ac 2 Z Z Z Z Z Z Z (by assumption) ?_;refine Ac 3 Z Z Z Z Z Z Z O ?_;refine Ac 4 Z Z Z Z Z Z Z O ?_;refine Ac 5 Z Z Z Z Z Z Z (by assumption) ?_
    refine Ak 6 Z Z Z Z Z (q_build Z Z Z) rfl ?_;refine Ba 0 7 Z Z Z Z Z Z Z Z Z Z Z Z Z Z Z Z Z Z sb ?_;refine pool_done Z Z ?_;refine Ab ?_
    exact At.ret Tryz.func58 (.inr ⟨_,rfl⟩) rfl (.aggJ 0 Z Z Z .nil) (wk (hc _ _ (⟨by rw [ha',en,ed];rfl,rfl⟩)))
   ·have hb0 : b ≠ 0 := by simpa using h17
    refine At.cond Z ?_;refine At.skip ?_;refine At.block ?_;refine Aw hmix [] rfl ?_;refine Ac 0 Z Z Z Z Z Z Z O ?_;refine Ac 1 Z Z Z Z Z Z Z O ?_;refine Ac 2 Z Z Z Z Z Z Z O ?_;refine Ac 3 Z Z Z Z Z Z Z (by assumption) ?_;refine Ac 4 Z Z Z Z Z Z Z O ?_;refine Ac 5 Z Z Z Z Z Z Z O ?_;refine pool_done Z Z ?_;refine Ab ?_
    refine At.inBlock ?_
    have hm := Int.tmod_nonneg b ha
    have hlt := Int.tmod_lt_of_pos a (show 0 < b by omega)
    refine At.to (again ⟨(b,a.tmod b),hb,hm,?_,fun _ => hb0⟩ ?_) ⟨rfl,rfl,rfl,rfl,rfl,trivial⟩ (Sub.refl _)
    ·rw [← hg]
     simp only [Int.gcd]
     rw [Int.natAbs_tmod,Nat.gcd_comm,← Nat.gcd_rec,Nat.gcd_comm]
    ·simp only
     omega
 ·cases b8
  ·refine At.cond Z ?_
   refine At.skip ?_
   exact At.to (key ⟨(n,d),by simp at h8;omega,h1,h2,by simp at h8;simp;intro;omega,by simp at h8;simp;intro;omega⟩) ⟨rfl,rfl,rfl,trivial⟩ (Sub.refl _)
  ·refine At.cond Z ?_
   refine At.region ?_;refine Aa Z Z Z Z Z O ?_;refine Aa Z Z Z Z Z (by omega) ?_;refine Aa Z Z Z Z Z O ?_;refine Aa Z Z Z Z Z (by omega) ?_;(iterate 2 refine Aa Z Z Z Z Z O ?_);refine Ab ?_
   exact At.to (key ⟨(-n,-d),by simp at h8;omega,by unfold Mid at *;omega,by unfold Mid at *;omega,by simp at h8;simp [h8],by simp at h8;simp [h8]⟩) ⟨rfl,rfl,rfl,trivial⟩ (Sub.refl _)
end Go.Gx
end
section
namespace Go.Gx
open Go Go.Conc Go.Proofs
variable {main : Bool}
theorem s64 (L : Lg Tryz.prog main) (H : Facts) {an ad bn bd : Int} (h1 : InI (an * bd)) (h2 : InI (bn * ad)) (h3 : Mid (an * bd - bn * ad)) (h4 : Mid (ad * bd)) (h0 : ad * bd ≠ 0) :
  Pure L 64 #[.agg #[.int .i64 an,.int .i64 ad],.agg #[.int .i64 bn,.int .i64 bd]] H (.agg #[.int .i64 (lowN (an * bd - bn * ad) (ad * bd)),.int .i64 (lowD (an * bd - bn * ad) (ad * bd))]) := by
 refine Spec.enter Tryz.func64 rfl (by simp [Tryz.f64]) fun c cs hc => ?_;refine At.seq (At.region ?_);refine An Z Z Z Z Z Z Z fun r2 => ?_;refine An Z Z Z Z Z Z Z fun r3 => ?_;refine Al Z Z Z Z Z fun r4 => ?_;refine Ab (At.seq (At.region ?_));refine Ah 0 Z Z Z Z Z Z Z ?_;refine Af 2 Z Z Z Z Z Z Z Z Z ?_;refine Ah 1 Z Z Z Z Z Z Z ?_
 refine Af 1 Z Z Z Z Z Z Z Z Z ?_;refine Aa Z Z Z Z Z (by assumption) ?_;refine Ah 0 Z Z Z Z Z Z Z ?_;refine Af 1 Z Z Z Z Z Z Z Z Z ?_;refine Ah 1 Z Z Z Z Z Z Z ?_;refine Af 2 Z Z Z Z Z Z Z Z Z ?_;refine Aa Z Z Z Z Z (by assumption) ?_;refine Aa Z Z Z Z Z (by omega) ?_;refine Ah 1 Z Z Z Z Z Z Z ?_
 refine Af 2 Z Z Z Z Z Z Z Z Z ?_;refine Ah 1 Z Z Z Z Z Z Z ?_;refine Af 1 Z Z Z Z Z Z Z Z Z ?_;refine Aa Z Z Z Z Z (by omega) ?_;refine Ai Z Z Z Z Z Z Z Z (s58 L _ bz bz bz) ?_;refine Ag 0 Z Z Z Z Z Z Z Z Z Z Z Z ?_;refine Ab ?_
 exact At.ret Tryz.func64 (.inr ⟨_,rfl⟩) rfl (.aggJ 0 Z Z Z .nil) (wk (hc _ _ (⟨by rfl,rfl⟩)))
theorem s110 (L : Lg Tryz.prog main) (H : Facts) {n d : Int} : Pure L 110 #[.agg #[.int .i64 n,.int .i64 d]] H (.int .i64 (slopeBar n d)) := by
 refine Spec.enter Tryz.func110 rfl (by simp [Tryz.f110]) fun c cs hc => ?_;refine At.seq (At.region ?_);refine An Z Z Z Z Z Z Z fun r1 => ?_;refine Aa Z Z Z Z Z O ?_;refine Ab (At.seq ?_);refine At.block ?_;refine At.seq (At.seq (At.region ?_));refine Ah 1 Z Z Z Z Z Z Z ?_;refine Af 0 Z Z Z Z Z Z Z Z Z ?_;refine Bc Z Z Z Z Z Z Z Z (s115 L _) fun b6 h6 => ?_
 (iterate 2 refine Aa Z Z Z Z Z O ?_);refine Ab ?_
 cases b6
 ·refine At.cond Z ?_
  refine At.skip ?_;refine At.cond Z ?_;refine At.seq (At.region ?_);refine Aa Z Z Z Z Z O ?_;refine Ab ?_
  exact At.ret Tryz.func110 (.inr ⟨_,rfl⟩) rfl (.tmp rfl .nil) (wk (hc _ _ (⟨by simp_all [resVal,slopeBar],rfl⟩)))
 refine At.cond Z ?_;refine At.region ?_;refine Ah 0 Z Z Z Z Z Z Z ?_;refine Af 0 Z Z Z Z Z Z Z Z Z ?_;refine Bc Z Z Z Z Z Z Z Z (s115 L _) fun b10 h10 => ?_;(iterate 2 refine Aa Z Z Z Z Z O ?_);refine Ab ?_
 cases b10
 ·refine At.cond Z ?_
  refine At.seq (At.region ?_);refine Aa Z Z Z Z Z O ?_;refine Ab ?_
  exact At.ret Tryz.func110 (.inr ⟨_,rfl⟩) rfl (.tmp rfl .nil) (wk (hc _ _ (⟨by simp_all [resVal,slopeBar],rfl⟩)))
 have hd : d ≠ 0 := by simp at h6;omega
 have m1 : Mid n := by simp at h10;unfold Mid;omega
 have m2 : Mid d := by simp at h6;unfold Mid;omega
 refine At.cond Z ?_;refine At.seq ?_;refine Aw hmix [] rfl ?_;refine Am 0 0 Z Z Z Z Z Z Z Z Z ?_;refine Aj 0 1 Z Z Z Z Z Z Z Z Z Z Z ?_;refine Am 1 2 Z Z Z Z Z Z Z Z Z ?_;refine Aj 0 3 Z Z Z Z Z Z Z Z Z Z Z ?_;refine Ap 4 Z Z Z Z Z Z Z Z Z (fun H hs => s58 L H bz bz bz) ?_;refine Aj 0 5 Z Z Z Z Z Z Z Z Z Z Z ?_
 refine Pool.qb 6 Z Z Z Z Z (q_neqS Z Z Z Z Z Z Z Z) rfl fun b19 h19 => ?_;refine Ac 7 Z Z Z Z Z Z Z O ?_;refine pool_done Z Z ?_;refine Ab ?_
 cases b19
 ·refine At.cond Z ?_
  refine At.skip ?_;refine At.inBlock ?_;refine At.seq (At.region ?_);refine Aa Z Z Z Z Z O ?_;refine Ab ?_
  exact At.ret Tryz.func110 (.inr ⟨_,rfl⟩) rfl (.tmp rfl .nil) (wk (hc _ _ (⟨by simp_all [resVal,slopeBar],rfl⟩)))
 ·refine At.cond Z ?_
  refine At.seq (At.region ?_);refine Aa Z Z Z Z Z O ?_;refine Ab ?_
  exact At.ret Tryz.func110 (.inr ⟨_,rfl⟩) rfl (.tmp rfl .nil) (wk (hc _ _ (⟨by simp_all [resVal,slopeBar],rfl⟩)))
end Go.Gx
end
section
namespace Go.Gx
open Go Go.Conc Go.Proofs
variable {main : Bool}
theorem s49 (L : Lg Tryz.prog main) (H : Facts) {n lo hi : Int} : Pure L 49 #[.int .i64 n,.int .i64 lo,.int .i64 hi] H (.bool (decide (lo ≤ n ∧ n ≤ hi))) := by
 refine Spec.enter Tryz.func49 rfl (by simp [Tryz.f49]) fun c cs hc => ?_;refine At.seq (At.region ?_);refine Aa Z Z Z Z Z O ?_;refine Ab (At.seq (At.region ?_));(iterate 2 refine Aa Z Z Z Z Z O ?_);refine Ad Z Z Z Z Z fun b9 h9 => ?_;refine Aa Z Z Z Z Z O ?_
 cases b9
 ·refine Ar Z Z Z Z ?_
  (iterate 2 refine Ar Z Z Z Z ?_);(iterate 2 refine Aa Z Z Z Z Z O ?_);refine Ab ?_
  exact At.ret Tryz.func49 (.inr ⟨_,rfl⟩) rfl (.tmp rfl .nil) (wk (hc _ _ (⟨by simp_all [resVal];try omega,rfl⟩)))
 ·refine Aa Z Z Z Z Z O ?_
  refine Aa Z Z Z Z Z O ?_;refine Ad Z Z Z Z Z fun b13 h13 => ?_;(iterate 2 refine Aa Z Z Z Z Z O ?_);refine Ab ?_
  exact At.ret Tryz.func49 (.inr ⟨_,rfl⟩) rfl (.tmp rfl .nil) (wk (hc _ _ (⟨by simp_all [resVal];try omega,rfl⟩)))
theorem s50 (L : Lg Tryz.prog main) (H : Facts) {l h lo hi : Int} : Pure L 50 #[.agg #[.int .i64 l,.int .i64 h],.int .i64 lo,.int .i64 hi] H (.bool (decide (lo ≤ l ∧ l ≤ h ∧ h ≤ hi))) := by
 refine Spec.enter Tryz.func50 rfl (by simp [Tryz.f50]) fun c cs hc => ?_;refine At.seq (At.region ?_);refine An Z Z Z Z Z Z Z fun r3 => ?_;refine Aa Z Z Z Z Z O ?_;refine Ab (At.seq (At.region ?_));refine Aa Z Z Z Z Z O ?_;refine Ah 0 Z Z Z Z Z Z Z ?_;refine Af 0 Z Z Z Z Z Z Z Z Z ?_;refine Ad Z Z Z Z Z fun b10 h10 => ?_;refine Aa Z Z Z Z Z O ?_
 cases b10
 ·refine Ar Z Z Z Z ?_
  (iterate 4 refine Ar Z Z Z Z ?_);(iterate 2 refine Aa Z Z Z Z Z O ?_);(iterate 4 refine Ar Z Z Z Z ?_);(iterate 2 refine Aa Z Z Z Z Z O ?_);refine Ab ?_
  exact At.ret Tryz.func50 (.inr ⟨_,rfl⟩) rfl (.tmp rfl .nil) (wk (hc _ _ (⟨by simp_all [resVal];try omega,rfl⟩)))
 ·refine Ah 0 Z Z Z Z Z Z Z ?_
  refine Af 0 Z Z Z Z Z Z Z Z Z ?_;refine Ah 1 Z Z Z Z Z Z Z ?_;refine Af 0 Z Z Z Z Z Z Z Z Z ?_;refine Ad Z Z Z Z Z fun b16 h16 => ?_;(iterate 2 refine Aa Z Z Z Z Z O ?_)
  cases b16
  ·refine Ar Z Z Z Z ?_
   (iterate 3 refine Ar Z Z Z Z ?_);(iterate 2 refine Aa Z Z Z Z Z O ?_);refine Ab ?_
   exact At.ret Tryz.func50 (.inr ⟨_,rfl⟩) rfl (.tmp rfl .nil) (wk (hc _ _ (⟨by simp_all [resVal];try omega,rfl⟩)))
  ·refine Ah 1 Z Z Z Z Z Z Z ?_
   refine Af 0 Z Z Z Z Z Z Z Z Z ?_;refine Aa Z Z Z Z Z O ?_;refine Ad Z Z Z Z Z fun b22 h22 => ?_;(iterate 2 refine Aa Z Z Z Z Z O ?_);refine Ab ?_
   exact At.ret Tryz.func50 (.inr ⟨_,rfl⟩) rfl (.tmp rfl .nil) (wk (hc _ _ (⟨by simp_all [resVal];try omega,rfl⟩)))
theorem s52 (L : Lg Tryz.prog main) (H : Facts) {n : Int} : Pure L 52 #[.int .i64 n] H (.bool (decide (0 ≤ n ∧ n ≤ 90))) := by
 refine Spec.enter Tryz.func52 rfl (by simp [Tryz.f52]) fun c cs hc => ?_;refine At.seq (At.region ?_);refine Aa Z Z Z Z Z O ?_;refine Ab (At.seq (At.region ?_));refine Aa Z Z Z Z Z O ?_;refine Bc Z Z Z Z Z Z Z Z (s49 L _) fun b4 h4 => ?_;refine Aa Z Z Z Z Z O ?_;refine Ab ?_
 exact At.ret Tryz.func52 (.inr ⟨_,rfl⟩) rfl (.tmp rfl .nil) (wk (hc _ _ (⟨by simp_all [resVal];try omega,rfl⟩)))
theorem s15 (L : Lg Tryz.prog main) (H : Facts) {a b : Int} : Pure L 15 #[.int .i64 a,.int .i64 b] H (.agg #[.int .i64 a,.int .i64 b]) := by
 refine Spec.enter Tryz.func15 rfl (by simp [Tryz.f15]) fun c cs hc => ?_;refine At.seq (At.region ?_);refine Al Z Z Z Z Z fun r4 => ?_;refine Ab (At.seq (At.region ?_));(iterate 2 refine Aa Z Z Z Z Z O ?_);refine Ae Z Z Z Z (q_build Z Z Z) ?_;refine Ag 0 Z Z Z Z Z Z Z Z Z Z Z Z ?_;refine Ab ?_
 exact At.ret Tryz.func15 (.inr ⟨_,rfl⟩) rfl (.aggJ 0 Z Z Z .nil) (wk (hc _ _ (⟨by rfl,rfl⟩)))
theorem s107 (L : Lg Tryz.prog main) (H : Facts) {n d : Int} (hd : d ≠ 0) (h1 : Mid n) (h2 : Mid d) : Pure L 107 #[.int .i64 n,.int .i64 d] H (.agg #[.int .i64 (lowN n d),.int .i64 (lowD n d)]) := by
 refine Spec.enter Tryz.func107 rfl (by simp [Tryz.f107]) fun c cs hc => ?_
 have i1 := h1
 have i2 := h2
 unfold Mid at i1 i2
 refine At.seq (At.region ?_);refine Al Z Z Z Z Z fun r4 => ?_;refine Ab (At.seq (At.seq (At.region ?_)));refine Aa Z Z Z Z Z O ?_;refine Ad Z Z Z Z Z fun b8 h8 => ?_;refine Ab ?_
 refine At.cut (X := { p : Int × Int // 0 < p.2 ∧ Mid p.1 ∧ Mid p.2 ∧ p.1 = (if d < 0 then -n else n) ∧ p.2 = (if d < 0 then -d else d) }) (fun x => [(0,.int .i64 x.1.1),(1,.int .i64 x.1.2),(4,.pointer (some ⟨r4,0,none⟩))]) (fun x => .own r4 (.cells #[.int .i64 0,.int .i64 0] 40 (0,0)) :: H) ?_ fun key => ?_
 ·rintro ⟨⟨n',d'⟩,hpos,hn',hd',en,ed⟩
  simp only at hpos hn' hd' en ed ⊢
  have j1 := hn'
  have j2 := hd'
  unfold Mid at j1 j2
  refine At.seq (At.region ?_);(iterate 2 refine Aa Z Z Z Z Z O ?_);refine Aa Z Z Z Z Z (by omega) ?_;(iterate 4 refine Aa Z Z Z Z Z O ?_);refine Ab (At.seq ?_);refine At.block ?_
  refine At.lp (X := { p : Int × Int // 0 ≤ p.1 ∧ 0 ≤ p.2 ∧ Int.gcd p.1 p.2 = Int.gcd n' d' ∧ (p.2 = 0 → p.1 ≠ 0) }) (fun x => [(0,.int .i64 n'),(1,.int .i64 d'),(4,.pointer (some ⟨r4,0,none⟩)),(5,.int .i64 x.1.1),(6,.int .i64 x.1.2)]) (fun x => .own r4 (.cells #[.int .i64 0,.int .i64 0] 40 (0,0)) :: H) (fun x => x.1.2.toNat) ⟨(if -n' > n' then -n' else n',d'),?_⟩ ?_ ⟨rfl,rfl,rfl,rfl,rfl,trivial⟩ (Sub.refl _)
  ·refine ⟨?_,by omega,?_,by omega⟩
   ·split <;> omega
   ·have : (if -n' > n' then -n' else n').natAbs = n'.natAbs := by split <;> omega
    rw [Int.gcd,this,Int.gcd]
  ·rintro ⟨⟨a,b⟩,ha,hb,hg,hz⟩ again
   simp only at ha hb hg hz again ⊢
   refine At.seq (At.seq (At.region ?_));refine Aa Z Z Z Z Z O ?_;refine Ad Z Z Z Z Z fun b19 h19 => ?_;refine Ab ?_
   cases b19
   ·have hb0 : b = 0 := by simp at h19;omega
    have ha' : a = (Int.gcd n d : Int) := by
     have e1 : Int.gcd n' d' = Int.gcd n d := by
      rw [en,ed]
      split <;> simp
     rw [← e1,← hg,hb0]
     simp
     omega
    have q1 : a ≠ 0 ∧ InI (n'.tdiv a) := ⟨hz hb0,tdiv_in hn'⟩
    have q2 : a ≠ 0 ∧ InI (d'.tdiv a) := ⟨hz hb0,tdiv_in hd'⟩
    refine At.cond Z ?_;refine At.exit rfl ?_;refine At.seq ?_;refine Aw hmix [0] rfl ?_;refine Ac 0 Z Z Z Z Z Z Z O ?_;refine Ac 1 Z Z Z Z Z Z Z O ?_;refine Ac 2 Z Z Z Z Z Z Z (by assumption) ?_;refine Ac 3 Z Z Z Z Z Z Z O ?_;refine Ac 4 Z Z Z Z Z Z Z O ?_;refine Ac 5 Z Z Z Z Z Z Z (by assumption) ?_
    refine Ak 6 Z Z Z Z Z (q_build Z Z Z) rfl ?_;refine Ba 0 7 Z Z Z Z Z Z Z Z Z Z Z Z Z Z Z Z Z Z sb ?_;refine pool_done Z Z ?_;refine Ab ?_
    exact At.ret Tryz.func107 (.inr ⟨_,rfl⟩) rfl (.aggJ 0 Z Z Z .nil) (wk (hc _ _ (⟨by rw [ha',en,ed];rfl,rfl⟩)))
   ·have hb0 : b ≠ 0 := by simp at h19;omega
    refine At.cond Z ?_;refine At.skip ?_;refine At.block ?_;refine Aw hmix [] rfl ?_;refine Ac 0 Z Z Z Z Z Z Z O ?_;refine Ac 1 Z Z Z Z Z Z Z O ?_;refine Ac 2 Z Z Z Z Z Z Z O ?_;refine Ac 3 Z Z Z Z Z Z Z (by assumption) ?_;refine Ac 4 Z Z Z Z Z Z Z O ?_;refine Ac 5 Z Z Z Z Z Z Z O ?_;refine pool_done Z Z ?_;refine Ab ?_
    refine At.inBlock ?_
    have hm := Int.tmod_nonneg b ha
    have hlt := Int.tmod_lt_of_pos a (show 0 < b by omega)
    refine At.to (again ⟨(b,a.tmod b),hb,hm,?_,fun _ => hb0⟩ ?_) ⟨rfl,rfl,rfl,rfl,rfl,trivial⟩ (Sub.refl _)
    ·rw [← hg]
     simp only [Int.gcd]
     rw [Int.natAbs_tmod,Nat.gcd_comm,← Nat.gcd_rec,Nat.gcd_comm]
    ·simp only
     omega
 ·cases b8
  ·refine At.cond Z ?_
   refine At.skip ?_
   exact At.to (key ⟨(n,d),by simp at h8;omega,h1,h2,by simp at h8;simp;intro;omega,by simp at h8;simp;intro;omega⟩) ⟨rfl,rfl,rfl,trivial⟩ (Sub.refl _)
  ·refine At.cond Z ?_
   refine At.region ?_;refine Aa Z Z Z Z Z O ?_;refine Aa Z Z Z Z Z (by omega) ?_;refine Aa Z Z Z Z Z O ?_;refine Aa Z Z Z Z Z (by omega) ?_;(iterate 2 refine Aa Z Z Z Z Z O ?_);refine Ab ?_
   exact At.to (key ⟨(-n,-d),by simp at h8;omega,by unfold Mid at *;omega,by unfold Mid at *;omega,by simp at h8;simp [h8],by simp at h8;simp [h8]⟩) ⟨rfl,rfl,rfl,trivial⟩ (Sub.refl _)
theorem s51 (L : Lg Tryz.prog main) (H : Facts) {n d : Int} : Pure L 51 #[.agg #[.int .i64 n,.int .i64 d]] H (.int .i64 (slopeBar n d)) := by
 refine Spec.enter Tryz.func51 rfl (by simp [Tryz.f51]) fun c cs hc => ?_;refine At.seq (At.region ?_);refine An Z Z Z Z Z Z Z fun r1 => ?_;refine Aa Z Z Z Z Z O ?_;refine Ab (At.seq (At.seq (At.region ?_)));refine Ah 1 Z Z Z Z Z Z Z ?_;refine Af 0 Z Z Z Z Z Z Z Z Z ?_;refine Bc Z Z Z Z Z Z Z Z (s49 L _) fun b5 h5 => ?_;(iterate 2 refine Aa Z Z Z Z Z O ?_)
 cases b5
 ·refine Ar Z Z Z Z ?_
  (iterate 3 refine Ar Z Z Z Z ?_);refine Aa Z Z Z Z Z O ?_;refine Ab ?_;refine At.cond Z ?_;refine At.seq (At.region ?_);refine Aa Z Z Z Z Z O ?_;refine Ab ?_
  exact At.ret Tryz.func51 (.inr ⟨_,rfl⟩) rfl (.tmp rfl .nil) (wk (hc _ _ (⟨by simp_all [resVal,slopeBar],rfl⟩)))
 refine Ah 0 Z Z Z Z Z Z Z ?_;refine Af 0 Z Z Z Z Z Z Z Z Z ?_;refine Bc Z Z Z Z Z Z Z Z (s49 L _) fun b10 h10 => ?_;(iterate 2 refine Aa Z Z Z Z Z O ?_);refine Ab ?_
 cases b10
 ·refine At.cond Z ?_
  refine At.seq (At.region ?_);refine Aa Z Z Z Z Z O ?_;refine Ab ?_
  exact At.ret Tryz.func51 (.inr ⟨_,rfl⟩) rfl (.tmp rfl .nil) (wk (hc _ _ (⟨by simp_all [resVal,slopeBar],rfl⟩)))
 have hd : d ≠ 0 := by simp at h5;omega
 have m1 : Mid n := by simp at h10;unfold Mid;omega
 have m2 : Mid d := by simp at h5;unfold Mid;omega
 refine At.cond Z ?_;refine At.skip (At.seq (At.seq ?_));refine Aw hmix [] rfl ?_;refine Am 0 0 Z Z Z Z Z Z Z Z Z ?_;refine Aj 0 1 Z Z Z Z Z Z Z Z Z Z Z ?_;refine Am 1 2 Z Z Z Z Z Z Z Z Z ?_;refine Aj 0 3 Z Z Z Z Z Z Z Z Z Z Z ?_;refine Ap 4 Z Z Z Z Z Z Z Z Z (fun H hs => s107 L H bz bz bz) ?_;refine Aj 0 5 Z Z Z Z Z Z Z Z Z Z Z ?_
 refine Pool.qb 6 Z Z Z Z Z (q_neqS Z Z Z Z Z Z Z Z) rfl fun b19 h19 => ?_;refine pool_done Z Z ?_;refine Ab ?_
 cases b19
 ·refine At.cond Z ?_
  refine At.skip (At.seq (At.region ?_));refine Aa Z Z Z Z Z O ?_;refine Ab ?_
  exact At.ret Tryz.func51 (.inr ⟨_,rfl⟩) rfl (.tmp rfl .nil) (wk (hc _ _ (⟨by simp_all [resVal,slopeBar],rfl⟩)))
 ·refine At.cond Z ?_
  refine At.seq (At.region ?_);refine Aa Z Z Z Z Z O ?_;refine Ab ?_
  exact At.ret Tryz.func51 (.inr ⟨_,rfl⟩) rfl (.tmp rfl .nil) (wk (hc _ _ (⟨by simp_all [resVal,slopeBar],rfl⟩)))
end Go.Gx
end
section
namespace Go.Gx
open Go Go.Conc Go.Proofs
variable {main : Bool}
theorem r96 (L : Lg Tryz.prog main) (H : Facts) {b off n cap m mc : Nat} {ma : Option Addr} {size lo hi h0 hn hd : Int} (k0 : 0 < n) (c0 : Cells H b (off + 0 * 2 + 1) [.int .i64 h0]) (i1 : Mid (size * hd)) (i2 : InI (h0 * hd)) (i3 : Mid (hn - h0 * hd)) (i4 : size * hd ≠ 0) :
  Pure L 57 #[.agg #[.slice (some ⟨b,off,none⟩) n cap,.int .i64 size,.int .i64 lo,.int .i64 hi,.slice ma m mc],.agg #[.int .i64 hn,.int .i64 hd]] H
   (.tuple #[.int .i64 ((hn - h0 * hd).tdiv (size * hd)),.agg #[.int .i64 (lowN ((hn - h0 * hd).tmod (size * hd)) (size * hd)),.int .i64 (lowD ((hn - h0 * hd).tmod (size * hd)) (size * hd))]]) := by
 refine Spec.enter Tryz.func57 rfl (by simp [Tryz.f57]) fun c cs hc => ?_
 have q1 : size * hd ≠ 0 ∧ InI ((hn - h0 * hd).tdiv (size * hd)) := ⟨i4,tdiv_in i3⟩
 have q2 : Mid ((hn - h0 * hd).tmod (size * hd)) := by
  have h1 : ((hn - h0 * hd).tmod (size * hd)).natAbs = (hn - h0 * hd).natAbs % (size * hd).natAbs := Int.natAbs_tmod _ _
  have h2 : (hn - h0 * hd).natAbs % (size * hd).natAbs ≤ (hn - h0 * hd).natAbs := Nat.mod_le _ _
  unfold Mid at i3 ⊢
  omega
 refine At.seq (At.region ?_);refine An Z Z Z Z Z Z Z fun r2 => ?_;refine An Z Z Z Z Z Z Z fun r3 => ?_;refine Aa Z Z Z Z Z O ?_;refine Al Z Z Z Z Z fun r5 => ?_;refine Ab (At.seq (At.region ?_));refine Ah 0 Z Z Z Z Z Z Z ?_;refine Ah 1 Z Z Z Z Z Z Z ?_;refine Af 2 Z Z Z Z Z Z Z Z Z ?_;refine Ah 1 Z Z Z Z Z Z Z ?_
 refine Af 1 Z Z Z Z Z Z Z Z Z ?_;refine Aa Z Z Z Z Z (by omega) ?_;refine Aa Z Z Z Z Z O ?_;refine Ab (At.seq ?_);refine Aw hmix [] rfl ?_;refine Am 0 0 Z Z Z Z Z Z Z Z Z ?_;refine Aj 1 1 Z Z Z Z Z Z Z Z Z Z Z ?_;refine Am 0 2 Z Z Z Z Z Z Z Z Z ?_;refine Am 0 3 Z Z Z Z Z Z Z Z Z ?_
 refine Aj 2 4 Z Z Z Z Z Z Z Z Z Z Z ?_;refine Ak 5 Z Z Z Z Z (q_ia Z Z Z (by assumption)) rfl ?_;refine Pool.faE 6 Z Z Z Z Z Z Z Z ?_;refine Ax 7 Z Z Z Z Z Z Z c0.a Z Z Z ?_;refine Am 1 8 Z Z Z Z Z Z Z Z Z ?_;refine Aj 1 9 Z Z Z Z Z Z Z Z Z Z Z ?_;refine Ac 10 Z Z Z Z Z Z Z (by assumption) ?_
 refine Ac 11 Z Z Z Z Z Z Z (by omega) ?_;refine Ac 12 Z Z Z Z Z Z Z O ?_;refine pool_done Z Z ?_;refine Ab (At.seq ?_);refine Aw hmix [0] rfl ?_;refine Ac 0 Z Z Z Z Z Z Z O ?_;refine Ac 1 Z Z Z Z Z Z Z O ?_;refine Ac 2 Z Z Z Z Z Z Z (by assumption) ?_;refine Ac 3 Z Z Z Z Z Z Z O ?_;refine Ac 4 Z Z Z Z Z Z Z O ?_
 refine Ac 5 Z Z Z Z Z Z Z (by assumption) ?_;refine Ac 6 Z Z Z Z Z Z Z O ?_;refine Ap 7 Z Z Z Z Z Z Z Z Z (fun H hs => s58 L H bz bz bz) ?_;refine Ac 8 Z Z Z Z Z Z Z O ?_;refine Ba 0 9 Z Z Z Z Z Z Z Z Z Z Z Z Z Z Z Z Z Z sb ?_;refine pool_done Z Z ?_;refine Ab ?_
 exact At.ret Tryz.func57 (.inr ⟨_,rfl⟩) rfl (.tmp rfl (.aggJ 0 Z Z Z .nil)) (wk (hc _ _ (⟨by rfl,rfl⟩)))
end Go.Gx
end
section
namespace Go.Gx
open Go Go.Conc Go.Proofs
variable {main : Bool}
def spotV (x : Spot) : Value := .agg (List.toArray (c4 x))
set_option maxRecDepth 100000 in
set_option maxHeartbeats 4000000 in
theorem s135 (L : Lg Tryz.prog main) (H0 : Facts) {p q : R2} {eye : Int} {s : R2} {b1 b2 b3 b4 : Nat} (hp : PtOk p) (hq : PtOk q) (he : EyeOk eye) (hs : SlOk s)
  (k1 : Cells H0 b1 0 (c2 p)) (k2 : Cells H0 b2 0 (c1 eye)) (k3 : Cells H0 b3 0 (c2 s)) (k4 : Cells H0 b4 0 (c2 q)) :
  SeqOk L (.func (.func 135) #[] #[.pointer (some ⟨b1,0,none⟩),.pointer (some ⟨b2,0,none⟩),.pointer (some ⟨b3,0,none⟩),.pointer (some ⟨b4,0,none⟩)]) ((crossM p q eye s).map spotV) H0 := by
 intro ly I D hsub hsubD hh Hs hI0
 refine SpecV.of HB.h (Spec.enter Tryz.func135 rfl (by simp [Tryz.f135]) fun c cs hc => ?_)
 have hs0 := hsub 0 Hs hI0
 generalize hl : crossM p q eye s = l at hh hc
 unfold crossM at hl
 have o1 := offL_bd hp he hs
 have o2 := offL_bd hq he hs
 unfold PtOk at hp hq
 unfold EyeOk at he
 unfold SlOk at hs
 have e1 := mul_bd (a := p.2 - eye) (b := s.2) (A := 90) (B := 10000) (by omega) (by omega)
 have e2 := mul_bd (a := s.1) (b := p.1) (A := 10000) (B := 60) (by omega) (by omega)
 have e3 := mul_bd (a := q.2 - eye) (b := s.2) (A := 90) (B := 10000) (by omega) (by omega)
 have e4 := mul_bd (a := s.1) (b := q.1) (A := 10000) (B := 60) (by omega) (by omega)
 have m1 : Mid (offL p eye s - offL q eye s) := by unfold Mid;omega
 have m2 : Mid (p.1 * (offL p eye s - offL q eye s) + (q.1 - p.1) * offL p eye s) := by
  have a1 := mul_bd (a := p.1) (b := offL p eye s - offL q eye s) (A := 60) (B := 3000000) (by omega) (by omega)
  have a2 := mul_bd (a := q.1 - p.1) (b := offL p eye s) (A := 60) (B := 1500000) (by omega) (by omega)
  unfold Mid;omega
 have m3 : Mid (p.2 * (offL p eye s - offL q eye s) + (q.2 - p.2) * offL p eye s) := by
  have a1 := mul_bd (a := p.2) (b := offL p eye s - offL q eye s) (A := 90) (B := 3000000) (by omega) (by omega)
  have a2 := mul_bd (a := q.2 - p.2) (b := offL p eye s) (A := 90) (B := 1500000) (by omega) (by omega)
  unfold Mid;omega
 have i1 : InI (offL p eye s - offL q eye s) := by unfold InI;omega
 have i2 : InI (p.1 * (offL p eye s - offL q eye s)) := by
  have a1 := mul_bd (a := p.1) (b := offL p eye s - offL q eye s) (A := 60) (B := 3000000) (by omega) (by omega)
  unfold InI;omega
 have i3 : InI ((q.1 - p.1) * offL p eye s) := by
  have a2 := mul_bd (a := q.1 - p.1) (b := offL p eye s) (A := 60) (B := 1500000) (by omega) (by omega)
  unfold InI;omega
 have i4 : InI (p.2 * (offL p eye s - offL q eye s)) := by
  have a1 := mul_bd (a := p.2) (b := offL p eye s - offL q eye s) (A := 90) (B := 3000000) (by omega) (by omega)
  unfold InI;omega
 have i5 : InI ((q.2 - p.2) * offL p eye s) := by
  have a2 := mul_bd (a := q.2 - p.2) (b := offL p eye s) (A := 90) (B := 1500000) (by omega) (by omega)
  unfold InI;omega
 have i6 : InI (p.1 * (offL p eye s - offL q eye s) + (q.1 - p.1) * offL p eye s) := by unfold InI;unfold Mid at m2;omega
 have i7 : InI (p.2 * (offL p eye s - offL q eye s) + (q.2 - p.2) * offL p eye s) := by unfold InI;unfold Mid at m3;omega
 refine At.seq (At.region ?_);refine Ah 1 Z Z Z Z Z Z Z ?_;refine Au Z Z Z Z Z Z (k1.s 1 1 rfl) Z Z ?_;refine Au Z Z Z Z Z Z k2.a Z Z ?_;refine Aa Z Z Z Z Z (by omega) ?_;refine Ah 1 Z Z Z Z Z Z Z ?_;refine Au Z Z Z Z Z Z (k3.s 1 1 rfl) Z Z ?_;refine Aa Z Z Z Z Z (by omega) ?_;refine Ah 0 Z Z Z Z Z Z Z ?_
 refine Au Z Z Z Z Z Z (k3.s 0 1 rfl) Z Z ?_;refine Ah 0 Z Z Z Z Z Z Z ?_;refine Au Z Z Z Z Z Z (k1.s 0 1 rfl) Z Z ?_;(iterate 2 refine Aa Z Z Z Z Z (by omega) ?_);refine Aa Z Z Z Z Z O ?_;refine Ab (At.seq (At.region ?_));refine Ah 1 Z Z Z Z Z Z Z ?_;refine Au Z Z Z Z Z Z (k4.s 1 1 rfl) Z Z ?_;refine Au Z Z Z Z Z Z k2.a Z Z ?_
 refine Aa Z Z Z Z Z (by omega) ?_;refine Ah 1 Z Z Z Z Z Z Z ?_;refine Au Z Z Z Z Z Z (k3.s 1 1 rfl) Z Z ?_;refine Aa Z Z Z Z Z (by omega) ?_;refine Ah 0 Z Z Z Z Z Z Z ?_;refine Au Z Z Z Z Z Z (k3.s 0 1 rfl) Z Z ?_;refine Ah 0 Z Z Z Z Z Z Z ?_;refine Au Z Z Z Z Z Z (k4.s 0 1 rfl) Z Z ?_;(iterate 2 refine Aa Z Z Z Z Z (by omega) ?_)
 refine Aa Z Z Z Z Z O ?_;refine Ab ?_;refine At.block ?_;refine At.seq (At.region ?_);refine Au Z Z Z Z Z Z k1.a Z Z ?_;refine Au Z Z Z Z Z Z k4.a Z Z ?_;refine At.qb Z Z Z Z (q_eqS Z Z Z Z Z Z Z Z) fun b39 h39 => ?_;refine Aa Z Z Z Z Z O ?_;refine Ab ?_
 cases b39
 ·have hne : p ≠ q := by rintro rfl;simp at h39
  rw [if_neg hne] at hl
  refine At.cond Z ?_;refine At.seq (At.region ?_);refine Aa Z Z Z Z Z O ?_;refine Ad Z Z Z Z Z fun b42 h42 => ?_;refine Aa Z Z Z Z Z O ?_
  cases b42
  ·have ha : offL p eye s ≠ 0 := by simp [offL] at *;omega
   rw [if_neg (fun x => ha x.1)] at hl
   (iterate 2 refine Ar Z Z Z Z ?_);(iterate 2 refine Aa Z Z Z Z Z O ?_);refine Ab ?_;refine At.cond Z ?_;refine At.seq (At.region ?_);refine Aa Z Z Z Z Z O ?_;refine Ad Z Z Z Z Z fun b59 h59 => ?_;refine Aa Z Z Z Z Z O ?_
   cases b59
   ·refine Ar Z Z Z Z ?_
    refine Ar Z Z Z Z ?_;(iterate 3 refine Aa Z Z Z Z Z O ?_);refine Ad Z Z Z Z Z fun b66 h66 => ?_;refine Aa Z Z Z Z Z O ?_
    cases b66
    ·have hcond : ¬ ((offL p eye s ≤ 0 ∧ 0 ≤ offL q eye s) ∨ (0 ≤ offL p eye s ∧ offL q eye s ≤ 0)) := by simp [offL] at *;omega
     rw [if_neg hcond] at hl
     subst hl
     (iterate 2 refine Ar Z Z Z Z ?_);(iterate 3 refine Aa Z Z Z Z Z O ?_);refine Ab ?_;refine At.cond Z ?_;refine At.skip ?_;refine At.inBlock ?_
     exact At.ret Tryz.func135 (.inl rfl) rfl .nil (wk (hc _ _ (⟨Hs,Sub.refl _,.inl hI0⟩)))
    ·refine Aa Z Z Z Z Z O ?_
     refine Ad Z Z Z Z Z fun b69 h69 => ?_;(iterate 3 refine Aa Z Z Z Z Z O ?_);refine Ab ?_
     cases b69
     ·have hcond : ¬ ((offL p eye s ≤ 0 ∧ 0 ≤ offL q eye s) ∨ (0 ≤ offL p eye s ∧ offL q eye s ≤ 0)) := by simp [offL] at *;omega
      rw [if_neg hcond] at hl
      subst hl
      refine At.cond Z ?_;refine At.skip ?_;refine At.inBlock ?_
      exact At.ret Tryz.func135 (.inl rfl) rfl .nil (wk (hc _ _ (⟨Hs,Sub.refl _,.inl hI0⟩)))
     ·have hcond : (offL p eye s ≤ 0 ∧ 0 ≤ offL q eye s) ∨ (0 ≤ offL p eye s ∧ offL q eye s ≤ 0) := by simp [offL] at *;omega
      rw [if_pos hcond] at hl
      subst hl
      have hd0 : offL p eye s - offL q eye s ≠ 0 := by omega
      refine At.cond Z ?_;refine At.seq (At.region ?_);(iterate 3 refine Aa Z Z Z Z Z O ?_);refine Aa Z Z Z Z Z (by assumption) ?_;(iterate 2 refine Aa Z Z Z Z Z O ?_);refine Ab ?_;refine Bd hmix (H0) sb ?_;refine Ac 0 Z Z Z Z Z Z Z O ?_;refine Am 0 1 Z Z Z Z Z Z Z Z Z ?_;refine Ax 2 Z Z Z Z Z Z Z (k1.s 0 1 rfl) Z Z Z ?_
      refine Ac 3 Z Z Z Z Z Z Z O ?_;refine Ac 4 Z Z Z Z Z Z Z (by assumption) ?_;refine Am 0 5 Z Z Z Z Z Z Z Z Z ?_;refine Ax 6 Z Z Z Z Z Z Z (k4.s 0 1 rfl) Z Z Z ?_;refine Am 0 7 Z Z Z Z Z Z Z Z Z ?_;refine Ax 8 Z Z Z Z Z Z Z (k1.s 0 1 rfl) Z Z Z ?_;refine Ac 9 Z Z Z Z Z Z Z (by omega) ?_
      refine Ac 10 Z Z Z Z Z Z Z O ?_;refine Ac 11 Z Z Z Z Z Z Z (by assumption) ?_;refine Ac 12 Z Z Z Z Z Z Z (by assumption) ?_;refine Ac 13 Z Z Z Z Z Z Z O ?_;refine Ap 14 Z Z Z Z Z Z Z Z Z (fun H hs => s58 L H bz bz bz) ?_;refine Am 1 15 Z Z Z Z Z Z Z Z Z ?_;refine Ax 16 Z Z Z Z Z Z Z (k1.s 1 1 rfl) Z Z Z ?_
      refine Ac 17 Z Z Z Z Z Z Z O ?_;refine Ac 18 Z Z Z Z Z Z Z (by assumption) ?_;refine Am 1 19 Z Z Z Z Z Z Z Z Z ?_;refine Ax 20 Z Z Z Z Z Z Z (k4.s 1 1 rfl) Z Z Z ?_;refine Am 1 21 Z Z Z Z Z Z Z Z Z ?_;refine Ax 22 Z Z Z Z Z Z Z (k1.s 1 1 rfl) Z Z Z ?_;refine Ac 23 Z Z Z Z Z Z Z (by omega) ?_
      refine Ac 24 Z Z Z Z Z Z Z O ?_;refine Ac 25 Z Z Z Z Z Z Z (by assumption) ?_;refine Ac 26 Z Z Z Z Z Z Z (by assumption) ?_;refine Ac 27 Z Z Z Z Z Z Z O ?_;refine Ap 28 Z Z Z Z Z Z Z Z Z (fun H hs => s58 L H bz bz bz) ?_;refine Ak 29 Z Z Z Z Z (q_build Z Z Z) rfl ?_
      refine Pool.yield 30 0 Z Z Z Z Z Z Z Z Z Z Z Z Z hh rfl hI0 rfl hsub hsubD sb (fun Hk hI => ?_) (fun Hk hD => ?_)
      ·refine pool_done Z Z ?_
       refine Ab ?_;refine At.inBlock ?_
       exact At.ret Tryz.func135 (.inl rfl) rfl .nil (wk (hc _ _ (⟨_,Sub.refl _,.inl hI⟩)))
      ·refine pool_done Z Z ?_
       refine Ab ?_;refine At.inBlock ?_
       exact At.ret Tryz.func135 (.inl rfl) rfl .nil (wk (hc _ _ (⟨_,Sub.refl _,.inr ⟨0,by simp,hD⟩⟩)))
   ·refine Aa Z Z Z Z Z O ?_
    refine Ad Z Z Z Z Z fun b62 h62 => ?_;(iterate 2 refine Aa Z Z Z Z Z O ?_)
    cases b62
    ·refine Aa Z Z Z Z Z O ?_
     refine Ad Z Z Z Z Z fun b66 h66 => ?_;refine Aa Z Z Z Z Z O ?_
     cases b66
     ·have hcond : ¬ ((offL p eye s ≤ 0 ∧ 0 ≤ offL q eye s) ∨ (0 ≤ offL p eye s ∧ offL q eye s ≤ 0)) := by simp [offL] at *;omega
      rw [if_neg hcond] at hl
      subst hl
      (iterate 2 refine Ar Z Z Z Z ?_);(iterate 3 refine Aa Z Z Z Z Z O ?_);refine Ab ?_;refine At.cond Z ?_;refine At.skip ?_;refine At.inBlock ?_
      exact At.ret Tryz.func135 (.inl rfl) rfl .nil (wk (hc _ _ (⟨Hs,Sub.refl _,.inl hI0⟩)))
     ·refine Aa Z Z Z Z Z O ?_
      refine Ad Z Z Z Z Z fun b69 h69 => ?_;(iterate 3 refine Aa Z Z Z Z Z O ?_);refine Ab ?_
      cases b69
      ·have hcond : ¬ ((offL p eye s ≤ 0 ∧ 0 ≤ offL q eye s) ∨ (0 ≤ offL p eye s ∧ offL q eye s ≤ 0)) := by simp [offL] at *;omega
       rw [if_neg hcond] at hl
       subst hl
       refine At.cond Z ?_;refine At.skip ?_;refine At.inBlock ?_
       exact At.ret Tryz.func135 (.inl rfl) rfl .nil (wk (hc _ _ (⟨Hs,Sub.refl _,.inl hI0⟩)))
      ·have hcond : (offL p eye s ≤ 0 ∧ 0 ≤ offL q eye s) ∨ (0 ≤ offL p eye s ∧ offL q eye s ≤ 0) := by simp [offL] at *;omega
       rw [if_pos hcond] at hl
       subst hl
       have hd0 : offL p eye s - offL q eye s ≠ 0 := by omega
       refine At.cond Z ?_;refine At.seq (At.region ?_);(iterate 3 refine Aa Z Z Z Z Z O ?_);refine Aa Z Z Z Z Z (by assumption) ?_;(iterate 2 refine Aa Z Z Z Z Z O ?_);refine Ab ?_;refine Bd hmix (H0) sb ?_;refine Ac 0 Z Z Z Z Z Z Z O ?_;refine Am 0 1 Z Z Z Z Z Z Z Z Z ?_;refine Ax 2 Z Z Z Z Z Z Z (k1.s 0 1 rfl) Z Z Z ?_
       refine Ac 3 Z Z Z Z Z Z Z O ?_;refine Ac 4 Z Z Z Z Z Z Z (by assumption) ?_;refine Am 0 5 Z Z Z Z Z Z Z Z Z ?_;refine Ax 6 Z Z Z Z Z Z Z (k4.s 0 1 rfl) Z Z Z ?_;refine Am 0 7 Z Z Z Z Z Z Z Z Z ?_;refine Ax 8 Z Z Z Z Z Z Z (k1.s 0 1 rfl) Z Z Z ?_;refine Ac 9 Z Z Z Z Z Z Z (by omega) ?_
       refine Ac 10 Z Z Z Z Z Z Z O ?_;refine Ac 11 Z Z Z Z Z Z Z (by assumption) ?_;refine Ac 12 Z Z Z Z Z Z Z (by assumption) ?_;refine Ac 13 Z Z Z Z Z Z Z O ?_;refine Ap 14 Z Z Z Z Z Z Z Z Z (fun H hs => s58 L H bz bz bz) ?_;refine Am 1 15 Z Z Z Z Z Z Z Z Z ?_;refine Ax 16 Z Z Z Z Z Z Z (k1.s 1 1 rfl) Z Z Z ?_
       refine Ac 17 Z Z Z Z Z Z Z O ?_;refine Ac 18 Z Z Z Z Z Z Z (by assumption) ?_;refine Am 1 19 Z Z Z Z Z Z Z Z Z ?_;refine Ax 20 Z Z Z Z Z Z Z (k4.s 1 1 rfl) Z Z Z ?_;refine Am 1 21 Z Z Z Z Z Z Z Z Z ?_;refine Ax 22 Z Z Z Z Z Z Z (k1.s 1 1 rfl) Z Z Z ?_;refine Ac 23 Z Z Z Z Z Z Z (by omega) ?_
       refine Ac 24 Z Z Z Z Z Z Z O ?_;refine Ac 25 Z Z Z Z Z Z Z (by assumption) ?_;refine Ac 26 Z Z Z Z Z Z Z (by assumption) ?_;refine Ac 27 Z Z Z Z Z Z Z O ?_;refine Ap 28 Z Z Z Z Z Z Z Z Z (fun H hs => s58 L H bz bz bz) ?_;refine Ak 29 Z Z Z Z Z (q_build Z Z Z) rfl ?_
       refine Pool.yield 30 0 Z Z Z Z Z Z Z Z Z Z Z Z Z hh rfl hI0 rfl hsub hsubD sb (fun Hk hI => ?_) (fun Hk hD => ?_)
       ·refine pool_done Z Z ?_
        refine Ab ?_;refine At.inBlock ?_
        exact At.ret Tryz.func135 (.inl rfl) rfl .nil (wk (hc _ _ (⟨_,Sub.refl _,.inl hI⟩)))
       ·refine pool_done Z Z ?_
        refine Ab ?_;refine At.inBlock ?_
        exact At.ret Tryz.func135 (.inl rfl) rfl .nil (wk (hc _ _ (⟨_,Sub.refl _,.inr ⟨0,by simp,hD⟩⟩)))
    ·have hcond : (offL p eye s ≤ 0 ∧ 0 ≤ offL q eye s) ∨ (0 ≤ offL p eye s ∧ offL q eye s ≤ 0) := by simp [offL] at *;omega
     rw [if_pos hcond] at hl
     subst hl
     have hd0 : offL p eye s - offL q eye s ≠ 0 := by omega
     (iterate 6 refine Ar Z Z Z Z ?_);(iterate 2 refine Aa Z Z Z Z Z O ?_);refine Ab ?_;refine At.cond Z ?_;refine At.seq (At.region ?_);(iterate 3 refine Aa Z Z Z Z Z O ?_);refine Aa Z Z Z Z Z (by assumption) ?_;(iterate 2 refine Aa Z Z Z Z Z O ?_);refine Ab ?_;refine Bd hmix (H0) sb ?_;refine Ac 0 Z Z Z Z Z Z Z O ?_
     refine Am 0 1 Z Z Z Z Z Z Z Z Z ?_;refine Ax 2 Z Z Z Z Z Z Z (k1.s 0 1 rfl) Z Z Z ?_;refine Ac 3 Z Z Z Z Z Z Z O ?_;refine Ac 4 Z Z Z Z Z Z Z (by assumption) ?_;refine Am 0 5 Z Z Z Z Z Z Z Z Z ?_;refine Ax 6 Z Z Z Z Z Z Z (k4.s 0 1 rfl) Z Z Z ?_;refine Am 0 7 Z Z Z Z Z Z Z Z Z ?_
     refine Ax 8 Z Z Z Z Z Z Z (k1.s 0 1 rfl) Z Z Z ?_;refine Ac 9 Z Z Z Z Z Z Z (by omega) ?_;refine Ac 10 Z Z Z Z Z Z Z O ?_;refine Ac 11 Z Z Z Z Z Z Z (by assumption) ?_;refine Ac 12 Z Z Z Z Z Z Z (by assumption) ?_;refine Ac 13 Z Z Z Z Z Z Z O ?_;refine Ap 14 Z Z Z Z Z Z Z Z Z (fun H hs => s58 L H bz bz bz) ?_
     refine Am 1 15 Z Z Z Z Z Z Z Z Z ?_;refine Ax 16 Z Z Z Z Z Z Z (k1.s 1 1 rfl) Z Z Z ?_;refine Ac 17 Z Z Z Z Z Z Z O ?_;refine Ac 18 Z Z Z Z Z Z Z (by assumption) ?_;refine Am 1 19 Z Z Z Z Z Z Z Z Z ?_;refine Ax 20 Z Z Z Z Z Z Z (k4.s 1 1 rfl) Z Z Z ?_;refine Am 1 21 Z Z Z Z Z Z Z Z Z ?_
     refine Ax 22 Z Z Z Z Z Z Z (k1.s 1 1 rfl) Z Z Z ?_;refine Ac 23 Z Z Z Z Z Z Z (by omega) ?_;refine Ac 24 Z Z Z Z Z Z Z O ?_;refine Ac 25 Z Z Z Z Z Z Z (by assumption) ?_;refine Ac 26 Z Z Z Z Z Z Z (by assumption) ?_;refine Ac 27 Z Z Z Z Z Z Z O ?_;refine Ap 28 Z Z Z Z Z Z Z Z Z (fun H hs => s58 L H bz bz bz) ?_
     refine Ak 29 Z Z Z Z Z (q_build Z Z Z) rfl ?_
     refine Pool.yield 30 0 Z Z Z Z Z Z Z Z Z Z Z Z Z hh rfl hI0 rfl hsub hsubD sb (fun Hk hI => ?_) (fun Hk hD => ?_)
     ·refine pool_done Z Z ?_
      refine Ab ?_;refine At.inBlock ?_
      exact At.ret Tryz.func135 (.inl rfl) rfl .nil (wk (hc _ _ (⟨_,Sub.refl _,.inl hI⟩)))
     ·refine pool_done Z Z ?_
      refine Ab ?_;refine At.inBlock ?_
      exact At.ret Tryz.func135 (.inl rfl) rfl .nil (wk (hc _ _ (⟨_,Sub.refl _,.inr ⟨0,by simp,hD⟩⟩)))
  ·have ha : offL p eye s = 0 := by simp [offL] at *;omega
   refine Aa Z Z Z Z Z O ?_;refine Ad Z Z Z Z Z fun b45 h45 => ?_;(iterate 2 refine Aa Z Z Z Z Z O ?_);refine Ab ?_
   cases b45
   ·have hz : offL q eye s ≠ 0 := by simp [offL] at *;omega
    rw [if_neg (fun x => hz x.2)] at hl
    refine At.cond Z ?_;refine At.seq (At.region ?_);refine Aa Z Z Z Z Z O ?_;refine Ad Z Z Z Z Z fun b59 h59 => ?_;refine Aa Z Z Z Z Z O ?_
    cases b59
    ·refine Ar Z Z Z Z ?_
     refine Ar Z Z Z Z ?_;(iterate 3 refine Aa Z Z Z Z Z O ?_);refine Ad Z Z Z Z Z fun b66 h66 => ?_;refine Aa Z Z Z Z Z O ?_
     cases b66
     ·have hcond : ¬ ((offL p eye s ≤ 0 ∧ 0 ≤ offL q eye s) ∨ (0 ≤ offL p eye s ∧ offL q eye s ≤ 0)) := by simp [offL] at *;omega
      rw [if_neg hcond] at hl
      subst hl
      (iterate 2 refine Ar Z Z Z Z ?_);(iterate 3 refine Aa Z Z Z Z Z O ?_);refine Ab ?_;refine At.cond Z ?_;refine At.skip ?_;refine At.inBlock ?_
      exact At.ret Tryz.func135 (.inl rfl) rfl .nil (wk (hc _ _ (⟨Hs,Sub.refl _,.inl hI0⟩)))
     ·refine Aa Z Z Z Z Z O ?_
      refine Ad Z Z Z Z Z fun b69 h69 => ?_;(iterate 3 refine Aa Z Z Z Z Z O ?_);refine Ab ?_
      cases b69
      ·have hcond : ¬ ((offL p eye s ≤ 0 ∧ 0 ≤ offL q eye s) ∨ (0 ≤ offL p eye s ∧ offL q eye s ≤ 0)) := by simp [offL] at *;omega
       rw [if_neg hcond] at hl
       subst hl
       refine At.cond Z ?_;refine At.skip ?_;refine At.inBlock ?_
       exact At.ret Tryz.func135 (.inl rfl) rfl .nil (wk (hc _ _ (⟨Hs,Sub.refl _,.inl hI0⟩)))
      ·have hcond : (offL p eye s ≤ 0 ∧ 0 ≤ offL q eye s) ∨ (0 ≤ offL p eye s ∧ offL q eye s ≤ 0) := by simp [offL] at *;omega
       rw [if_pos hcond] at hl
       subst hl
       have hd0 : offL p eye s - offL q eye s ≠ 0 := by omega
       refine At.cond Z ?_;refine At.seq (At.region ?_);(iterate 3 refine Aa Z Z Z Z Z O ?_);refine Aa Z Z Z Z Z (by assumption) ?_;(iterate 2 refine Aa Z Z Z Z Z O ?_);refine Ab ?_;refine Bd hmix (H0) sb ?_;refine Ac 0 Z Z Z Z Z Z Z O ?_;refine Am 0 1 Z Z Z Z Z Z Z Z Z ?_;refine Ax 2 Z Z Z Z Z Z Z (k1.s 0 1 rfl) Z Z Z ?_
       refine Ac 3 Z Z Z Z Z Z Z O ?_;refine Ac 4 Z Z Z Z Z Z Z (by assumption) ?_;refine Am 0 5 Z Z Z Z Z Z Z Z Z ?_;refine Ax 6 Z Z Z Z Z Z Z (k4.s 0 1 rfl) Z Z Z ?_;refine Am 0 7 Z Z Z Z Z Z Z Z Z ?_;refine Ax 8 Z Z Z Z Z Z Z (k1.s 0 1 rfl) Z Z Z ?_;refine Ac 9 Z Z Z Z Z Z Z (by omega) ?_
       refine Ac 10 Z Z Z Z Z Z Z O ?_;refine Ac 11 Z Z Z Z Z Z Z (by assumption) ?_;refine Ac 12 Z Z Z Z Z Z Z (by assumption) ?_;refine Ac 13 Z Z Z Z Z Z Z O ?_;refine Ap 14 Z Z Z Z Z Z Z Z Z (fun H hs => s58 L H bz bz bz) ?_;refine Am 1 15 Z Z Z Z Z Z Z Z Z ?_;refine Ax 16 Z Z Z Z Z Z Z (k1.s 1 1 rfl) Z Z Z ?_
       refine Ac 17 Z Z Z Z Z Z Z O ?_;refine Ac 18 Z Z Z Z Z Z Z (by assumption) ?_;refine Am 1 19 Z Z Z Z Z Z Z Z Z ?_;refine Ax 20 Z Z Z Z Z Z Z (k4.s 1 1 rfl) Z Z Z ?_;refine Am 1 21 Z Z Z Z Z Z Z Z Z ?_;refine Ax 22 Z Z Z Z Z Z Z (k1.s 1 1 rfl) Z Z Z ?_;refine Ac 23 Z Z Z Z Z Z Z (by omega) ?_
       refine Ac 24 Z Z Z Z Z Z Z O ?_;refine Ac 25 Z Z Z Z Z Z Z (by assumption) ?_;refine Ac 26 Z Z Z Z Z Z Z (by assumption) ?_;refine Ac 27 Z Z Z Z Z Z Z O ?_;refine Ap 28 Z Z Z Z Z Z Z Z Z (fun H hs => s58 L H bz bz bz) ?_;refine Ak 29 Z Z Z Z Z (q_build Z Z Z) rfl ?_
       refine Pool.yield 30 0 Z Z Z Z Z Z Z Z Z Z Z Z Z hh rfl hI0 rfl hsub hsubD sb (fun Hk hI => ?_) (fun Hk hD => ?_)
       ·refine pool_done Z Z ?_
        refine Ab ?_;refine At.inBlock ?_
        exact At.ret Tryz.func135 (.inl rfl) rfl .nil (wk (hc _ _ (⟨_,Sub.refl _,.inl hI⟩)))
       ·refine pool_done Z Z ?_
        refine Ab ?_;refine At.inBlock ?_
        exact At.ret Tryz.func135 (.inl rfl) rfl .nil (wk (hc _ _ (⟨_,Sub.refl _,.inr ⟨0,by simp,hD⟩⟩)))
    ·refine Aa Z Z Z Z Z O ?_
     refine Ad Z Z Z Z Z fun b62 h62 => ?_;(iterate 2 refine Aa Z Z Z Z Z O ?_)
     cases b62
     ·refine Aa Z Z Z Z Z O ?_
      refine Ad Z Z Z Z Z fun b66 h66 => ?_;refine Aa Z Z Z Z Z O ?_
      cases b66
      ·have hcond : ¬ ((offL p eye s ≤ 0 ∧ 0 ≤ offL q eye s) ∨ (0 ≤ offL p eye s ∧ offL q eye s ≤ 0)) := by simp [offL] at *;omega
       rw [if_neg hcond] at hl
       subst hl
       (iterate 2 refine Ar Z Z Z Z ?_);(iterate 3 refine Aa Z Z Z Z Z O ?_);refine Ab ?_;refine At.cond Z ?_;refine At.skip ?_;refine At.inBlock ?_
       exact At.ret Tryz.func135 (.inl rfl) rfl .nil (wk (hc _ _ (⟨Hs,Sub.refl _,.inl hI0⟩)))
      ·refine Aa Z Z Z Z Z O ?_
       refine Ad Z Z Z Z Z fun b69 h69 => ?_;(iterate 3 refine Aa Z Z Z Z Z O ?_);refine Ab ?_
       cases b69
       ·have hcond : ¬ ((offL p eye s ≤ 0 ∧ 0 ≤ offL q eye s) ∨ (0 ≤ offL p eye s ∧ offL q eye s ≤ 0)) := by simp [offL] at *;omega
        rw [if_neg hcond] at hl
        subst hl
        refine At.cond Z ?_;refine At.skip ?_;refine At.inBlock ?_
        exact At.ret Tryz.func135 (.inl rfl) rfl .nil (wk (hc _ _ (⟨Hs,Sub.refl _,.inl hI0⟩)))
       ·have hcond : (offL p eye s ≤ 0 ∧ 0 ≤ offL q eye s) ∨ (0 ≤ offL p eye s ∧ offL q eye s ≤ 0) := by simp [offL] at *;omega
        rw [if_pos hcond] at hl
        subst hl
        have hd0 : offL p eye s - offL q eye s ≠ 0 := by omega
        refine At.cond Z ?_;refine At.seq (At.region ?_);(iterate 3 refine Aa Z Z Z Z Z O ?_);refine Aa Z Z Z Z Z (by assumption) ?_;(iterate 2 refine Aa Z Z Z Z Z O ?_);refine Ab ?_;refine Bd hmix (H0) sb ?_;refine Ac 0 Z Z Z Z Z Z Z O ?_;refine Am 0 1 Z Z Z Z Z Z Z Z Z ?_;refine Ax 2 Z Z Z Z Z Z Z (k1.s 0 1 rfl) Z Z Z ?_
        refine Ac 3 Z Z Z Z Z Z Z O ?_;refine Ac 4 Z Z Z Z Z Z Z (by assumption) ?_;refine Am 0 5 Z Z Z Z Z Z Z Z Z ?_;refine Ax 6 Z Z Z Z Z Z Z (k4.s 0 1 rfl) Z Z Z ?_;refine Am 0 7 Z Z Z Z Z Z Z Z Z ?_;refine Ax 8 Z Z Z Z Z Z Z (k1.s 0 1 rfl) Z Z Z ?_;refine Ac 9 Z Z Z Z Z Z Z (by omega) ?_
        refine Ac 10 Z Z Z Z Z Z Z O ?_;refine Ac 11 Z Z Z Z Z Z Z (by assumption) ?_;refine Ac 12 Z Z Z Z Z Z Z (by assumption) ?_;refine Ac 13 Z Z Z Z Z Z Z O ?_;refine Ap 14 Z Z Z Z Z Z Z Z Z (fun H hs => s58 L H bz bz bz) ?_;refine Am 1 15 Z Z Z Z Z Z Z Z Z ?_;refine Ax 16 Z Z Z Z Z Z Z (k1.s 1 1 rfl) Z Z Z ?_
        refine Ac 17 Z Z Z Z Z Z Z O ?_;refine Ac 18 Z Z Z Z Z Z Z (by assumption) ?_;refine Am 1 19 Z Z Z Z Z Z Z Z Z ?_;refine Ax 20 Z Z Z Z Z Z Z (k4.s 1 1 rfl) Z Z Z ?_;refine Am 1 21 Z Z Z Z Z Z Z Z Z ?_;refine Ax 22 Z Z Z Z Z Z Z (k1.s 1 1 rfl) Z Z Z ?_;refine Ac 23 Z Z Z Z Z Z Z (by omega) ?_
        refine Ac 24 Z Z Z Z Z Z Z O ?_;refine Ac 25 Z Z Z Z Z Z Z (by assumption) ?_;refine Ac 26 Z Z Z Z Z Z Z (by assumption) ?_;refine Ac 27 Z Z Z Z Z Z Z O ?_;refine Ap 28 Z Z Z Z Z Z Z Z Z (fun H hs => s58 L H bz bz bz) ?_;refine Ak 29 Z Z Z Z Z (q_build Z Z Z) rfl ?_
        refine Pool.yield 30 0 Z Z Z Z Z Z Z Z Z Z Z Z Z hh rfl hI0 rfl hsub hsubD sb (fun Hk hI => ?_) (fun Hk hD => ?_)
        ·refine pool_done Z Z ?_
         refine Ab ?_;refine At.inBlock ?_
         exact At.ret Tryz.func135 (.inl rfl) rfl .nil (wk (hc _ _ (⟨_,Sub.refl _,.inl hI⟩)))
        ·refine pool_done Z Z ?_
         refine Ab ?_;refine At.inBlock ?_
         exact At.ret Tryz.func135 (.inl rfl) rfl .nil (wk (hc _ _ (⟨_,Sub.refl _,.inr ⟨0,by simp,hD⟩⟩)))
     ·have hcond : (offL p eye s ≤ 0 ∧ 0 ≤ offL q eye s) ∨ (0 ≤ offL p eye s ∧ offL q eye s ≤ 0) := by simp [offL] at *;omega
      rw [if_pos hcond] at hl
      subst hl
      have hd0 : offL p eye s - offL q eye s ≠ 0 := by omega
      (iterate 6 refine Ar Z Z Z Z ?_);(iterate 2 refine Aa Z Z Z Z Z O ?_);refine Ab ?_;refine At.cond Z ?_;refine At.seq (At.region ?_);(iterate 3 refine Aa Z Z Z Z Z O ?_);refine Aa Z Z Z Z Z (by assumption) ?_;(iterate 2 refine Aa Z Z Z Z Z O ?_);refine Ab ?_;refine Bd hmix (H0) sb ?_;refine Ac 0 Z Z Z Z Z Z Z O ?_
      refine Am 0 1 Z Z Z Z Z Z Z Z Z ?_;refine Ax 2 Z Z Z Z Z Z Z (k1.s 0 1 rfl) Z Z Z ?_;refine Ac 3 Z Z Z Z Z Z Z O ?_;refine Ac 4 Z Z Z Z Z Z Z (by assumption) ?_;refine Am 0 5 Z Z Z Z Z Z Z Z Z ?_;refine Ax 6 Z Z Z Z Z Z Z (k4.s 0 1 rfl) Z Z Z ?_;refine Am 0 7 Z Z Z Z Z Z Z Z Z ?_
      refine Ax 8 Z Z Z Z Z Z Z (k1.s 0 1 rfl) Z Z Z ?_;refine Ac 9 Z Z Z Z Z Z Z (by omega) ?_;refine Ac 10 Z Z Z Z Z Z Z O ?_;refine Ac 11 Z Z Z Z Z Z Z (by assumption) ?_;refine Ac 12 Z Z Z Z Z Z Z (by assumption) ?_;refine Ac 13 Z Z Z Z Z Z Z O ?_;refine Ap 14 Z Z Z Z Z Z Z Z Z (fun H hs => s58 L H bz bz bz) ?_
      refine Am 1 15 Z Z Z Z Z Z Z Z Z ?_;refine Ax 16 Z Z Z Z Z Z Z (k1.s 1 1 rfl) Z Z Z ?_;refine Ac 17 Z Z Z Z Z Z Z O ?_;refine Ac 18 Z Z Z Z Z Z Z (by assumption) ?_;refine Am 1 19 Z Z Z Z Z Z Z Z Z ?_;refine Ax 20 Z Z Z Z Z Z Z (k4.s 1 1 rfl) Z Z Z ?_;refine Am 1 21 Z Z Z Z Z Z Z Z Z ?_
      refine Ax 22 Z Z Z Z Z Z Z (k1.s 1 1 rfl) Z Z Z ?_;refine Ac 23 Z Z Z Z Z Z Z (by omega) ?_;refine Ac 24 Z Z Z Z Z Z Z O ?_;refine Ac 25 Z Z Z Z Z Z Z (by assumption) ?_;refine Ac 26 Z Z Z Z Z Z Z (by assumption) ?_;refine Ac 27 Z Z Z Z Z Z Z O ?_;refine Ap 28 Z Z Z Z Z Z Z Z Z (fun H hs => s58 L H bz bz bz) ?_
      refine Ak 29 Z Z Z Z Z (q_build Z Z Z) rfl ?_
      refine Pool.yield 30 0 Z Z Z Z Z Z Z Z Z Z Z Z Z hh rfl hI0 rfl hsub hsubD sb (fun Hk hI => ?_) (fun Hk hD => ?_)
      ·refine pool_done Z Z ?_
       refine Ab ?_;refine At.inBlock ?_
       exact At.ret Tryz.func135 (.inl rfl) rfl .nil (wk (hc _ _ (⟨_,Sub.refl _,.inl hI⟩)))
      ·refine pool_done Z Z ?_
       refine Ab ?_;refine At.inBlock ?_
       exact At.ret Tryz.func135 (.inl rfl) rfl .nil (wk (hc _ _ (⟨_,Sub.refl _,.inr ⟨0,by simp,hD⟩⟩)))
   ·have hz : offL q eye s = 0 := by simp [offL] at *;omega
    rw [if_pos ⟨ha,hz⟩] at hl
    subst hl
    refine At.cond Z ?_;refine At.region ?_;refine Aa Z Z Z Z Z O ?_;refine Au Z Z Z Z Z Z k1.a Z Z ?_;refine Ai Z Z Z Z Z Z Z Z (s59 L _) ?_
    refine At.yield 0 Z Z Z Z Z Z Z hh rfl hI0 rfl (fun Hk hI => ?_) (fun Hk hD => ?_)
    ·have hs1 := hsub _ _ hI
     (iterate 2 refine Aa Z Z Z Z Z O ?_);refine Au Z Z Z Z Z Z k4.a Z Z ?_;refine Ai Z Z Z Z Z Z Z Z (s59 L _) ?_
     refine At.yield 0 Z Z Z Z Z Z Z hh rfl hI rfl (fun Hk hI => ?_) (fun Hk hD => ?_)
     ·refine Aa Z Z Z Z Z O ?_
      refine Ab ?_;refine At.inBlock ?_
      exact At.ret Tryz.func135 (.inl rfl) rfl .nil (wk (hc _ _ (⟨_,Sub.refl _,.inl hI⟩)))
     ·refine Aa Z Z Z Z Z O ?_
      refine Ab ?_;refine At.inBlock ?_
      exact At.ret Tryz.func135 (.inl rfl) rfl .nil (wk (hc _ _ (⟨_,Sub.refl _,.inr ⟨1,by simp,hD⟩⟩)))
    ·refine Aa Z Z Z Z Z O ?_
     (iterate 4 refine Ar Z Z Z Z ?_);refine Aa Z Z Z Z Z O ?_;refine Ab ?_;refine At.inBlock ?_
     exact At.ret Tryz.func135 (.inl rfl) rfl .nil (wk (hc _ _ (⟨_,Sub.refl _,.inr ⟨0,by simp,hD⟩⟩)))
 ·have he : p = q := by
   simp at h39
   exact Prod.ext h39.1 h39.2
  rw [if_pos he] at hl
  subst hl
  refine At.cond Z ?_;refine At.skip ?_;refine At.inBlock ?_
  exact At.ret Tryz.func135 (.inl rfl) rfl .nil (wk (hc _ _ (⟨Hs,Sub.refl _,.inl hI0⟩)))
end Go.Gx
end
section
namespace Go.Gx
open Go Go.Conc Go.Proofs
variable {main : Bool}
set_option maxRecDepth 100000 in
theorem s112 (L : Lg Tryz.prog main) (H : Facts) {p q : R2} {eye : Int} {s : R2} (hp : PtOk p) (hq : PtOk q) (he : EyeOk eye) (hs : SlOk s) :
  Grows L 112 #[.agg (List.toArray (c2 p)),.agg (List.toArray (c2 q)),.int .i64 eye,.agg (List.toArray (c2 s))] H (fun v sf => SeqOk L v ((crossM p q eye s).map spotV) sf) := by
 refine Spec.enter Tryz.func112 rfl (by simp [Tryz.f112]) fun c cs hc => ?_;refine At.seq (At.region ?_);refine An Z Z Z Z Z Z Z fun r4 => ?_;refine An Z Z Z Z Z Z Z fun r5 => ?_;refine An Z Z Z Z Z Z Z fun r6 => ?_;refine An Z Z Z Z Z Z Z fun r7 => ?_;refine Aa Z Z Z Z Z O ?_;refine Ab (At.seq (At.region ?_));(iterate 2 refine Aa Z Z Z Z Z O ?_);refine Ab ?_
 exact At.ret Tryz.func112 (.inr ⟨_,rfl⟩) rfl (.tmp rfl .nil) (wk (hc _ _ (⟨[.own r7 (.cells (List.toArray (c2 s)) 40 (0,0)),.own r6 (.cells (List.toArray (c1 eye)) 3 (0,0)),.own r5 (.cells (List.toArray (c2 q)) 89 (0,0)),.own r4 (.cells (List.toArray (c2 p)) 89 (0,0))],s135 L _ hp hq he hs (own_cells (sz := 2) (j := 3) Z Z).1 (own_cells (sz := 1) (j := 1) Z Z).1 (own_cells (sz := 2) (j := 0) Z Z).1 (own_cells (sz := 2) (j := 2) Z Z).1,rfl⟩)))
theorem s114 (L : Lg Tryz.prog main) (H : Facts) {a b : Spot} : Pure L 114 #[spotV a,spotV b] H (.bool (lessW a.1 b.1)) := by
 refine Spec.enter Tryz.func114 rfl (by simp [Tryz.f114]) fun c cs hc => ?_;refine At.seq (At.region ?_);refine An Z Z Z Z Z Z Z fun r2 => ?_;refine An Z Z Z Z Z Z Z fun r3 => ?_;refine Aa Z Z Z Z Z O ?_;refine Ab (At.seq (At.region ?_));refine Ah 0 Z Z Z Z Z Z Z ?_;refine Af 1 Z Z Z Z Z Z Z Z Z ?_;refine Ah 0 Z Z Z Z Z Z Z ?_
 refine Af 0 Z Z Z Z Z Z Z Z Z ?_;refine Bc Z Z Z Z Z Z Z Z (s60 L _) fun b9 h9 => ?_;refine Aa Z Z Z Z Z O ?_;refine Ab ?_
 exact At.ret Tryz.func114 (.inr ⟨_,rfl⟩) rfl (.tmp rfl .nil) (wk (hc _ _ (⟨by simp_all [resVal],rfl⟩)))
theorem bestM_snoc {α : Type} (better : α → α → Bool) : ∀ (one : α) (l : List α) (x : α),bestM better one (l ++ [x]) = if better x (bestM better one l) then x else bestM better one l
 | one,[],x => rfl
 | one,y :: l,x => by
  show bestM better _ (l ++ [x]) = _
  rw [bestM_snoc better _ l x];rfl
theorem s113 (L : Lg Tryz.prog main) (H : Facts) {fv : Value} {better : Spot → Spot → Bool} {one : Spot} {a : Option Addr} {l : List Spot} {cap : Nat}
  (hb : ∀ H x y,SpecV L fv #[spotV x,spotV y] H (fun v H' => v = .bool (better x y) ∧ H' = H)) (hr : Rd H a (l.flatMap c4)) (hl : l.length ≤ 100000) :
  Pure L 113 #[fv,spotV one,.slice a l.length cap] H (spotV (bestM better one l)) := by
 refine Spec.enter Tryz.func113 rfl (by simp [Tryz.f113]) fun c cs hc => ?_;refine At.seq (At.region ?_);refine An Z Z Z Z Z Z Z fun r4 => ?_;refine Al Z Z Z Z Z fun r6 => ?_;refine Ab (At.seq (At.seq (At.region ?_)));refine Aa Z Z Z Z Z O ?_;refine Ao Z Z Z Z Z Z Z Z ?_;refine Aa Z Z Z Z Z O ?_;refine Ab ?_;refine At.block ?_
 refine Az (X := { j : Nat // j ≤ l.length }) [0,4,6,9,10] (fun x => [(11,.int .i64 (x.1 : Int))]) (fun x => .own r6 (.cells #[.int .i64 0,.int .i64 0,.int .i64 0,.int .i64 0] 122 (0,0)) :: .own r4 (.cells (List.toArray (c4 (bestM better one (l.take x.1)))) 122 (0,0)) :: H) (fun x => l.length - x.1) (⟨0,Nat.zero_le _⟩) rfl ?_ (by repeat (first | exact trivial | refine ⟨rfl,?_⟩)) sb
 rintro ⟨j,hj⟩ again
 simp only at again ⊢
 refine At.seq (At.region ?_);refine Ad Z Z Z Z Z fun b12 h12 => ?_;refine Ab (At.seq ?_)
 cases b12
 ·have e : j = l.length := by simp at h12;omega
  subst e
  rw [List.take_length]
  refine At.cond Z ?_;refine At.exit rfl ?_;refine At.seq (At.region ?_);refine Af 1 Z Z Z Z Z Z Z Z Z ?_;refine Ag 0 Z Z Z Z Z Z Z Z Z Z Z Z ?_;refine Ab ?_
  exact At.ret Tryz.func113 (.inr ⟨_,rfl⟩) rfl (.aggJ 0 Z Z Z .nil) (wk (hc _ _ (⟨by rfl,rfl⟩)))
 ·have hlt : j < l.length := by simp at h12;omega
  obtain ⟨b,off,rfl,hc1⟩ := hr.el (List.getElem?_eq_getElem hlt)
  have et := bestM_snoc better one (l.take j) l[j]
  rw [← List.take_succ_eq_append_getElem hlt] at et
  refine At.cond Z ?_;refine At.skip (At.seq ?_);refine At.block ?_;refine At.seq (At.region ?_);refine Ae Z Z Z Z (q_ia Z Z Z (by assumption)) ?_;refine Au Z Z Z Z Z Z hc1.a Z Z ?_;refine Al Z Z Z Z Z fun r8 => ?_;refine Ag 0 Z Z Z Z Z Z Z Z Z Z Z Z ?_;refine Ab (At.seq (At.region ?_));refine Aa Z Z Z Z Z O ?_;refine Af 0 Z Z Z Z Z Z Z Z Z ?_
  refine Af 2 Z Z Z Z Z Z Z Z Z ?_;refine At.cv Z Z Z Z Z Z ((hb _ l[j] (bestM better one (l.take j)))) ?_
  rintro _ _ ⟨rfl,rfl⟩
  cases hbb : better l[j] (bestM better one (l.take j))
  ·rw [hbb,if_neg (by simp)] at et
   refine Ab ?_;refine At.cond Z ?_;refine At.skip ?_;refine At.inBlock ?_;refine At.region ?_;refine Aa Z Z Z Z Z (by omega) ?_;refine Aa Z Z Z Z Z O ?_;refine Ab ?_
   have ag := again ⟨j + 1,hlt⟩ (by simp;omega)
   simp only [et] at ag
   refine Aq (ag)
  ·rw [hbb,if_pos rfl] at et
   refine Ab ?_;refine At.cond Z ?_;refine At.region ?_;refine Af 0 Z Z Z Z Z Z Z Z Z ?_;refine Ag 2 Z Z Z Z Z Z Z Z Z Z Z Z ?_;refine Ab ?_;refine At.inBlock ?_;refine At.region ?_;refine Aa Z Z Z Z Z (by omega) ?_;refine Aa Z Z Z Z Z O ?_;refine Ab ?_
   have ag := again ⟨j + 1,hlt⟩ (by simp;omega)
   simp only [et] at ag
   refine Aq (ag)
end Go.Gx
end
section
namespace Go.Gx
open Go Go.Conc Go.Proofs
variable {main : Bool}
def iV (n : Int) : Value := .int .i64 n
theorem Sl.slice {α : Type} {c : α → List Value} {sz : Nat} [he : Enc c sz] {T : TypeId} {v : Value} {xs : List α} {sf : Facts} (h : Sl c T v xs sf) : ∃ a cap,v = .slice a xs.length cap :=
 let ⟨a,cap,e,_⟩ := h.form
 ⟨a,cap,e⟩
theorem s111 (L : Lg Tryz.prog main) {H H0 sf : Facts} {v fv : Value} {xs is : List Spot} (hs : Sl c4 122 v xs sf) (hseq : SeqOk L fv (is.map spotV) H0) (h0 : Sub H0 H) (hl : xs.length + is.length ≤ 100000) :
  Spec L 111 #[v,fv] (sf ++ H) (fun u H' => ∃ sf',Sl c4 122 u (xs ++ is) sf' ∧ H' = sf' ++ H) := by
 refine Spec.enter Tryz.func111 rfl (by simp [Tryz.f111]) fun c cs hc => ?_
 obtain ⟨a,cap,rfl⟩ := hs.slice
 refine At.seq (At.region ?_);refine An Z Z Z Z Z Z Z fun r2 => ?_;refine Aa Z Z Z Z Z O ?_;refine Ab (At.seq (At.seq (At.region ?_)));refine Aa Z Z Z Z Z O ?_;refine Ab ?_;refine At.block ?_
 refine At.rng (is := is.map spotV) (H0 := H0) Z Z hseq (fun k Hk => ∃ a cap sf',Hk = .own r2 (.cells #[.slice a (xs ++ is.take k).length cap] 188 (0,0)) :: (sf' ++ H) ∧ Sl c4 122 (.slice a (xs ++ is.take k).length cap) (xs ++ is.take k) sf')
  (fun _ _ _ => False) ?_ (fun _ _ _ h => h.elim) ?_ ?_ ?_ ?_
 ·rintro k _ ⟨a,cap,sf',rfl,_⟩
  exact (h0.dropL _).drop _
 ·exact ⟨a,cap,sf,by simp,by simpa using hs⟩
 ·rintro tmps l r j u _ R c cs' hu ⟨a,cap,sf',rfl,hs'⟩ hgo _
  rw [List.getElem?_map] at hu
  obtain ⟨x,hx,rfl⟩ := Option.map_eq_some_iff.1 hu
  have hlt := (List.getElem?_eq_some_iff.1 hx).1
  have et : xs ++ is.take (j + 1) = (xs ++ is.take j) ++ [x] := by
   obtain ⟨h1,h2⟩ := List.getElem?_eq_some_iff.1 hx
   rw [List.take_succ_eq_append_getElem h1,h2,List.append_assoc]
  rw [show (Fact.own r2 (.cells #[.slice a (xs ++ is.take j).length cap] 188 (0,0)) :: (sf' ++ H)) ++ R = Fact.own r2 (.cells #[.slice a (xs ++ is.take j).length cap] 188 (0,0)) :: (sf' ++ (H ++ R)) from by simp]
  refine At.region ?_;refine Al Z Z Z Z Z fun r5 => ?_;refine Ag 0 Z Z Z Z Z Z Z Z Z Z Z Z ?_;refine Ab ?_;refine At.beginRound 1 Z Z Z ?_;refine At.block ?_;refine At.region ?_;refine Af 3 Z Z Z Z Z Z Z Z Z ?_;refine Af 0 Z Z Z Z Z Z Z Z Z ?_
  (refine At.l Z Z Z Z (l_buildSlice Z Z Z Z Z) ?_;rintro _ _ ⟨r10,rfl,rfl⟩)
  refine At.push (x := x) 0 5 Z Z Z Z Z Z Z Z Z Z Z Z Z Z hs' Z Z Z ?_ fun v sf hs => ?_
  ·simp;omega
  ·rw [← et] at hs
   obtain ⟨a2,cap2,rfl⟩ := hs.slice
   refine Ag 4 Z Z Z Z Z Z Z Z Z Z Z Z ?_;refine Ab ?_;refine At.inBlock ?_
   have hg := hgo (.own r2 (.cells #[.slice a2 (xs ++ is.take (j + 1)).length cap2] 188 (0,0)) :: (sf ++ H)) ⟨a2,cap2,sf,rfl,hs⟩
   rw [show (Fact.own r2 (.cells #[.slice a2 (xs ++ is.take (j + 1)).length cap2] 188 (0,0)) :: (sf ++ H)) ++ R = Fact.own r2 (.cells #[.slice a2 (xs ++ is.take (j + 1)).length cap2] 188 (0,0)) :: (sf ++ (H ++ R)) from by simp] at hg
   exact At.endRound 2 (.inl ⟨rfl,rfl⟩) Z Z Z (wk hg)
 ·rintro tmps l r Hk ⟨a,cap,sf',rfl,hs'⟩
  have e : is.take (is.map spotV).length = is := by simp
  rw [e] at hs' ⊢
  refine At.inBlock ?_;refine At.seq (At.region ?_);refine Af 2 Z Z Z Z Z Z Z Z Z ?_;refine Aa Z Z Z Z Z O ?_;refine Ab ?_
  exact At.retC 1 Tryz.func111 (.inr ⟨_,rfl⟩) Z Z Z (.tmp rfl .nil) (wk (hc _ _ (⟨sf',hs',rfl⟩)))
 ·exact fun _ _ _ _ _ _ _ h => h.elim
theorem s116 (L : Lg Tryz.prog main) {H H0 sf : Facts} {v fv : Value} {xs is : List Int} (hs : Sl c1 3 v xs sf) (hseq : SeqOk L fv (is.map iV) H0) (h0 : Sub H0 H) (hl : xs.length + is.length ≤ 100000) :
  Spec L 116 #[v,fv] (sf ++ H) (fun u H' => ∃ sf',Sl c1 3 u (xs ++ is) sf' ∧ H' = sf' ++ H) := by
 refine Spec.enter Tryz.func116 rfl (by simp [Tryz.f116]) fun c cs hc => ?_
 obtain ⟨a,cap,rfl⟩ := hs.slice
 refine At.seq (At.region ?_);refine An Z Z Z Z Z Z Z fun r2 => ?_;refine Aa Z Z Z Z Z O ?_;refine Ab (At.seq (At.seq (At.region ?_)));refine Aa Z Z Z Z Z O ?_;refine Ab ?_;refine At.block ?_
 refine At.rng (is := is.map iV) (H0 := H0) Z Z hseq (fun k Hk => ∃ a cap sf',Hk = .own r2 (.cells #[.slice a (xs ++ is.take k).length cap] 46 (0,0)) :: (sf' ++ H) ∧ Sl c1 3 (.slice a (xs ++ is.take k).length cap) (xs ++ is.take k) sf')
  (fun _ _ _ => False) ?_ (fun _ _ _ h => h.elim) ?_ ?_ ?_ ?_
 ·rintro k _ ⟨a,cap,sf',rfl,_⟩
  exact (h0.dropL _).drop _
 ·exact ⟨a,cap,sf,by simp,by simpa using hs⟩
 ·rintro tmps l r j u _ R c cs' hu ⟨a,cap,sf',rfl,hs'⟩ hgo _
  rw [List.getElem?_map] at hu
  obtain ⟨x,hx,rfl⟩ := Option.map_eq_some_iff.1 hu
  have hlt := (List.getElem?_eq_some_iff.1 hx).1
  have et : xs ++ is.take (j + 1) = (xs ++ is.take j) ++ [x] := by
   obtain ⟨h1,h2⟩ := List.getElem?_eq_some_iff.1 hx
   rw [List.take_succ_eq_append_getElem h1,h2,List.append_assoc]
  rw [show (Fact.own r2 (.cells #[.slice a (xs ++ is.take j).length cap] 46 (0,0)) :: (sf' ++ H)) ++ R = Fact.own r2 (.cells #[.slice a (xs ++ is.take j).length cap] 46 (0,0)) :: (sf' ++ (H ++ R)) from by simp]
  refine At.region ?_;refine Aa Z Z Z Z Z O ?_;refine Ab ?_;refine At.beginRound 0 Z Z Z ?_;refine At.block ?_;refine At.region ?_;refine Af 2 Z Z Z Z Z Z Z Z Z ?_;refine Aa Z Z Z Z Z O ?_
  (refine At.l Z Z Z Z (l_buildSlice Z Z Z Z Z) ?_;rintro _ _ ⟨r10,rfl,rfl⟩)
  refine At.push (x := x) 0 4 Z Z Z Z Z Z Z Z Z Z Z Z Z Z hs' Z Z Z ?_ fun v sf hs => ?_
  ·simp;omega
  ·rw [← et] at hs
   obtain ⟨a2,cap2,rfl⟩ := hs.slice
   refine Ag 3 Z Z Z Z Z Z Z Z Z Z Z Z ?_;refine Ab ?_;refine At.inBlock ?_
   have hg := hgo (.own r2 (.cells #[.slice a2 (xs ++ is.take (j + 1)).length cap2] 46 (0,0)) :: (sf ++ H)) ⟨a2,cap2,sf,rfl,hs⟩
   rw [show (Fact.own r2 (.cells #[.slice a2 (xs ++ is.take (j + 1)).length cap2] 46 (0,0)) :: (sf ++ H)) ++ R = Fact.own r2 (.cells #[.slice a2 (xs ++ is.take (j + 1)).length cap2] 46 (0,0)) :: (sf ++ (H ++ R)) from by simp] at hg
   exact At.endRound 1 (.inl ⟨rfl,rfl⟩) Z Z Z (wk hg)
 ·rintro tmps l r Hk ⟨a,cap,sf',rfl,hs'⟩
  have e : is.take (is.map iV).length = is := by simp
  rw [e] at hs' ⊢
  refine At.inBlock ?_;refine At.seq (At.region ?_);refine Af 2 Z Z Z Z Z Z Z Z Z ?_;refine Aa Z Z Z Z Z O ?_;refine Ab ?_
  exact At.retC 1 Tryz.func116 (.inr ⟨_,rfl⟩) Z Z Z (.tmp rfl .nil) (wk (hc _ _ (⟨sf',hs',rfl⟩)))
 ·exact fun _ _ _ _ _ _ _ h => h.elim
theorem s71 (L : Lg Tryz.prog main) {H H0 : Facts} {fv : Value} {is : List Int} (hseq : SeqOk L fv (is.map iV) H0) (h0 : Sub H0 H) (hl : is.length ≤ 100000) :
  Grows L 71 #[fv] H (fun u sf' => Sl c1 3 u is sf') := by
 refine Spec.enter Tryz.func71 rfl (by simp [Tryz.f71]) fun c cs hc => ?_;refine At.seq (At.region ?_);refine Aa Z Z Z Z Z O ?_;refine Ab (At.seq (At.region ?_));refine Aa Z Z Z Z Z O ?_;refine Ay Z Z Z Z Z Z Z Z (s116 L (sf := []) (xs := []) Sl.nil hseq h0 (by simpa using hl)) ?_
 rintro _ _ ⟨sf,hs,rfl⟩
 rw [List.nil_append] at hs
 refine Aa Z Z Z Z Z O ?_;refine Ab ?_
 exact At.ret Tryz.func71 (.inr ⟨_,rfl⟩) rfl (.tmp rfl .nil) (wk (hc _ _ (⟨sf,hs,rfl⟩)))
end Go.Gx
end
section
namespace Go.Gx
open Go Go.Conc Go.Proofs
variable {main : Bool}
structure BkA where
 pa : Option Addr
 pc : Nat
 ma : Option Addr
 mc : Nat
def bkC (B : Bk) (A : BkA) : List Value := [.slice A.pa B.prof.length A.pc,.int .i64 B.size,.int .i64 B.lo,.int .i64 B.hi,.slice A.ma B.marks.length A.mc]
def bkV (B : Bk) (A : BkA) : Value := .agg (List.toArray (bkC B A))
structure BkR (H : Facts) (B : Bk) (A : BkA) : Prop where
 p : Rd H A.pa (B.prof.flatMap c2)
 m : Rd H A.ma (B.marks.flatMap c3)
theorem BkR.a {H H' : Facts} {B : Bk} {A : BkA} (h : BkR H B A) (hs : Sub H H' := by repeat (first | exact Sub.refl _ | assumption | exact Sub.pre _ _ | apply Sub.cons | apply Sub.drop | apply Sub.appL | apply Sub.dropL | refine Sub.trans ?_ (by assumption))) : BkR H' B A := ⟨h.p.more hs,h.m.more hs⟩
def ProfOk (ps : List R2) : Prop := ps.length ≤ 20 ∧ ∀ p ∈ ps,PtOk p
theorem piecesM_len (ps : List R2) (eye : Int) (s : R2) (j : Nat) : (((ps.zip ps.tail).take j).flatMap fun x => crossM x.1 x.2 eye s).length ≤ 2 * j := by
 induction j with
 | zero => simp
 | succ j ih =>
  rw [List.take_add_one,List.flatMap_append,List.length_append]
  have : ∀ x : R2 × R2,(crossM x.1 x.2 eye s).length ≤ 2 := by
   intro x
   unfold crossM
   split
   ·simp
   ·split
    ·simp
    ·split <;> simp
  cases h : (ps.zip ps.tail)[j]? with
  | none => simp only [Option.toList,List.flatMap_nil,List.length_nil];omega
  | some x =>
   have := this x
   simp only [Option.toList,List.flatMap_cons,List.flatMap_nil,List.append_nil];omega
theorem crossM_len (p q : R2) (eye : Int) (s : R2) : (crossM p q eye s).length ≤ 2 := by
 unfold crossM
 split
 ·simp
 ·split
  ·simp
  ·split <;> simp
theorem Sl.rd {α : Type} {c : α → List Value} {sz : Nat} [he : Enc c sz] {T : TypeId} {a : Option Addr} {m cap : Nat} {xs : List α} {sf : Facts} (h : Sl c T (.slice a m cap) xs sf) : m = xs.length ∧ Rd sf a (xs.flatMap c) ∧ xs.length ≤ cap := by
 unfold Sl at h
 generalize hvs : xs.flatMap c = vs at h
 generalize hk : xs.length = k at h
 cases h with
 | nil => exact ⟨rfl,.inl rfl,by omega⟩
 | own b cap _ _ rest hl hc hm =>
  exact ⟨rfl,.inr ⟨b,0,rfl,cells_own (List.mem_cons_self ..) (by simp)⟩,by omega⟩
set_option maxRecDepth 100000 in
set_option maxHeartbeats 4000000 in
theorem s56 (L : Lg Tryz.prog main) (H : Facts) {B : Bk} {A : BkA} {eye : Int} {s : R2} (hB : BkR H B A) (hp : ProfOk B.prof) (h1 : 1 ≤ B.prof.length) (he : EyeOk eye) (hs : SlOk s) :
  Pure L 56 #[bkV B A,.int .i64 eye,.agg (List.toArray (c2 s))] H (.tuple #[spotV ((meetM B.prof eye s).getD ((0,0),(0,0))),.bool (meetM B.prof eye s).isSome]) := by
 refine Spec.enter Tryz.func56 rfl (by simp [Tryz.f56]) fun c cs hc => ?_
 obtain ⟨prof,size,lo,hi,marks⟩ := B
 obtain ⟨pa,pc,ma,mc⟩ := A
 obtain ⟨hrp,hrm⟩ := hB
 simp only at hrp hp h1 hrm
 obtain ⟨hl20,hpt⟩ := hp
 refine At.seq (At.region ?_);refine An Z Z Z Z Z Z Z fun r3 => ?_;refine An Z Z Z Z Z Z Z fun r5 => ?_;refine Al Z Z Z Z Z fun r6 => ?_;refine Aa Z Z Z Z Z O ?_;refine Ab (At.seq (At.region ?_));refine Aa Z Z Z Z Z O ?_;refine Ab (At.seq (At.seq (At.region ?_)));(iterate 2 refine Ah 0 Z Z Z Z Z Z Z ?_);refine Af 2 Z Z Z Z Z Z Z Z Z ?_
 refine Ao Z Z Z Z Z Z Z Z ?_;refine Aa Z Z Z Z Z (by dsimp only;omega) ?_;refine Aa Z Z Z Z Z O ?_;refine Ab ?_;refine At.block ?_
 refine Az (X := { x : Nat × Value × Facts // x.1 ≤ prof.length - 1 ∧ Sl c4 122 x.2.1 (((prof.zip prof.tail).take x.1).flatMap fun y => crossM y.1 y.2 eye s) x.2.2 }) [1,3,5,6,7,14] (fun x => [(15,.int .i64 (x.1.1 : Int)),(8,x.1.2.1)]) (fun x => .own r6 (.cells #[.int .i64 0,.int .i64 0,.int .i64 0,.int .i64 0] 122 (0,0)) :: .own r5 (.cells (List.toArray (c2 s)) 40 (0,0)) :: .own r3 (.cells (List.toArray (bkC ⟨prof,size,lo,hi,marks⟩ ⟨pa,pc,ma,mc⟩)) 117 (0,0)) :: (x.1.2.2 ++ H)) (fun x => prof.length - 1 - x.1.1) (⟨(0,.slice none 0 0,[]),by simp,by simpa using Sl.nil⟩) rfl ?_ (by repeat (first | exact trivial | refine ⟨rfl,?_⟩)) sb
 rintro ⟨⟨j,v,sf⟩,hj,hsl⟩ again
 simp only at again hj hsl ⊢
 refine At.seq (At.region ?_);refine Ad Z Z Z Z Z fun b16 h16 => ?_;refine Ab (At.seq ?_)
 cases b16
 ·have e : j = prof.length - 1 := by simp at h16;omega
  subst e
  have ez : (prof.zip prof.tail).take (prof.length - 1) = prof.zip prof.tail := List.take_of_length_le (by simp)
  rw [ez] at hsl
  change Sl c4 122 v (piecesM prof eye s) sf at hsl
  have hm : meetM prof eye s = match piecesM prof eye s with | [] => none | x :: l => some (bestM (fun a b => lessW a.1 b.1) x l) := rfl
  have hlp := piecesM_len prof eye s (prof.length - 1)
  rw [ez] at hlp
  change (piecesM prof eye s).length ≤ _ at hlp
  generalize piecesM prof eye s = l at hsl hm hlp
  obtain ⟨a,cap,rfl⟩ := hsl.slice
  refine At.cond Z ?_;refine At.exit rfl ?_;refine At.seq (At.seq (At.region ?_));refine Aa Z Z Z Z Z O ?_;refine Ao Z Z Z Z Z Z Z Z ?_;refine Ad Z Z Z Z Z fun b39 h39 => ?_;refine Ab ?_
  cases l with
  | nil =>
   have hb : b39 = true := by rw [← h39];rfl
   subst hb
   refine At.cond Z ?_;refine At.seq (At.region ?_);refine Ae Z Z Z Z (q_build Z Z Z) ?_;refine Ag 0 Z Z Z Z Z Z Z Z Z Z Z Z ?_;refine Aa Z Z Z Z Z O ?_;refine Ab ?_
   exact At.ret Tryz.func56 (.inr ⟨_,rfl⟩) rfl (.aggJ 0 Z Z Z (.tmp rfl .nil)) (wk (hc _ _ (⟨by rw [hm];rfl,rfl⟩)))
  | cons x l =>
   have hb : b39 = false := by rw [← h39];simp;omega
   subst hb
   obtain ⟨_,hrl,hlc⟩ := hsl.rd
   obtain ⟨b,off,rfl,hcx⟩ := hrl.el (j := 0) (x := x) rfl
   have hr1 := hrl.slA (cap := cap) (l := 1) hlc (by simp)
   simp only [List.drop_succ_cons,List.drop_zero] at hr1
   have hb : ∀ H x y,SpecV L (.func (.func 114) #[] #[]) #[spotV x,spotV y] H (fun v H' => v = .bool ((fun a b : Spot => lessW a.1 b.1) x y) ∧ H' = H) := fun H x y => SpecV.of HB.h (s114 L H)
   refine At.cond Z ?_;refine At.skip (At.seq ?_);refine Aw hmix [0] rfl ?_;refine Ac 0 Z Z Z Z Z Z Z O ?_;refine Ak 1 Z Z Z Z Z (q_ia Z Z Z (by simp)) rfl ?_;refine Ax 2 Z Z Z Z Z Z Z hcx.a Z Z Z ?_;refine Ac 3 Z Z Z Z Z Z Z O ?_;refine Ak 4 Z Z Z Z Z (q_sliceL (l := 1) Z Z Z (by simp)) rfl ?_;refine Ac 7 Z Z Z Z Z Z Z O ?_
   refine Ap 5 Z Z Z Z Z Z Z Z Z (fun H_ hs_ => s113 L _ (l := l) hb hr1.a (by simp at hlp;omega)) ?_;refine Ba 0 6 Z Z Z Z Z Z Z Z Z Z Z Z Z Z Z Z Z Z sb ?_;refine pool_done Z Z ?_;refine Ab ?_
   exact At.ret Tryz.func56 (.inr ⟨_,rfl⟩) rfl (.aggJ 0 Z Z Z (.tmp rfl .nil)) (wk (hc _ _ (⟨by rw [hm];rfl,rfl⟩)))
 ·have hlt : j + 1 < prof.length := by simp at h16;omega
  have hlt' : j < prof.length := by omega
  obtain ⟨b,off,rfl,hc0⟩ := hrp.el (List.getElem?_eq_getElem hlt')
  obtain ⟨b',off',e',hc1⟩ := hrp.el (List.getElem?_eq_getElem hlt)
  cases e'
  have p0 := hpt _ (List.getElem_mem hlt')
  have p1 := hpt _ (List.getElem_mem hlt)
  refine At.cond Z ?_;refine At.skip (At.seq ?_);refine At.block ?_;refine At.seq (At.region ?_);(iterate 2 refine Aa Z Z Z Z Z O ?_);refine Ab ?_
  have hlen : (((prof.zip prof.tail).take j).flatMap fun y => crossM y.1 y.2 eye s).length + (crossM prof[j] prof[j + 1] eye s).length ≤ 100000 := by
   have := piecesM_len prof eye s j
   have := crossM_len prof[j] prof[j + 1] eye s
   omega
  have hz : (prof.zip prof.tail).take (j + 1) = (prof.zip prof.tail).take j ++ [(prof[j],prof[j + 1])] := by
   rw [List.take_add_one]
   congr 1
   rw [(List.getElem?_zip_eq_some (z := (prof[j],prof[j + 1]))).2 ⟨List.getElem?_eq_getElem hlt',by simp [hlt]⟩]
   rfl
  refine At.drawS hmix 3 rfl ?_;refine Ac 0 Z Z Z Z Z Z Z O ?_;refine Am 0 1 Z Z Z Z Z Z Z Z Z ?_;refine Am 0 2 Z Z Z Z Z Z Z Z Z ?_;refine Aj 2 3 Z Z Z Z Z Z Z Z Z Z Z ?_;refine Ac 4 Z Z Z Z Z Z Z O ?_;refine Ak 5 Z Z Z Z Z (q_ia Z Z Z (by assumption)) rfl ?_;refine Ax 6 Z Z Z Z Z Z Z hc0.a Z Z Z ?_
  refine Am 0 7 Z Z Z Z Z Z Z Z Z ?_;refine Am 0 8 Z Z Z Z Z Z Z Z Z ?_;refine Aj 2 9 Z Z Z Z Z Z Z Z Z Z Z ?_;refine Ac 10 Z Z Z Z Z Z Z O ?_;refine Ac 11 Z Z Z Z Z Z Z (by omega) ?_;refine Ak 12 Z Z Z Z Z (q_ia Z Z Z (by assumption)) rfl ?_;refine Ax 13 Z Z Z Z Z Z Z hc1.a Z Z Z ?_
  refine Ac 14 Z Z Z Z Z Z Z O ?_;refine Aj 1 15 Z Z Z Z Z Z Z Z Z Z Z ?_;refine Pool.cl 16 Z Z Z Z Z Z Z Z Z Z Z Z Z Z (fun H_ hs_ => s112 L _ p0 p1 he hs) sb ?_
  intro fv sfq hseq
  skip
  refine Pool.cx 17 Z Z Z Z Z Z Z Z Z Z Z Z Z Z ((List.perm_append_comm_assoc sf sfq _).trans ((List.perm_append_comm_assoc sf [_,_,_] H).append_left sfq)) (fun R_ => (s111 L hsl hseq (by exact Sub.appR _ (Sub.appR _ (Sub.refl _))) hlen)) sb ?_
  intro v' sf' hs'
  refine Ac 18 Z Z Z Z Z Z Z O ?_;refine pool_done Z Z ?_;refine Ab ?_;refine At.inBlock ?_;refine At.region ?_;refine Aa Z Z Z Z Z (by omega) ?_;refine Aa Z Z Z Z Z O ?_;refine Ab ?_
  refine At.weakH ?_ (Sub.appL sf' (Sub.append_left sfq _))
  refine At.rot 3 rfl ?_
  have ag := again ⟨(j + 1,v',sf'),by omega,by rw [hz,List.flatMap_append];simpa using hs'⟩ (by simp;omega)
  refine Aq (ag)
end Go.Gx
end
section
namespace Go.Gx
open Go Go.Conc Go.Proofs
variable {main : Bool}
def Bars (L : Lg Tryz.prog main) (H : Facts) (fs : List Value) (rs : List Int) : Prop :=
 fs.length = rs.length ∧ ∀ (j : Nat) (f : Value) (r : Int),fs[j]? = some f → rs[j]? = some r → ∀ H',Sub H H' → SpecV L f #[] H' (fun v H'' => v = .int .i64 r ∧ H'' = H')
theorem Bars.a {L : Lg Tryz.prog main} {H H' : Facts} {fs : List Value} {rs : List Int} (h : Bars L H fs rs) (hs : Sub H H' := by repeat (first | exact Sub.refl _ | assumption | exact Sub.pre _ _ | apply Sub.cons | apply Sub.drop | apply Sub.appL | apply Sub.dropL | refine Sub.trans ?_ (by assumption))) : Bars L H' fs rs :=
 ⟨h.1,fun j f r hf hr H'' h'' => h.2 j f r hf hr H'' (hs.trans h'')⟩
theorem Bars.nil {L : Lg Tryz.prog main} {H : Facts} : Bars L H [] [] := ⟨rfl,fun j f r hf => by simp at hf⟩
theorem Bars.cons {L : Lg Tryz.prog main} {H : Facts} {f : Value} {r : Int} {fs : List Value} {rs : List Int} (h : ∀ H',Sub H H' → SpecV L f #[] H' (fun v H'' => v = .int .i64 r ∧ H'' = H')) (hs : Bars L H fs rs) : Bars L H (f :: fs) (r :: rs) := by
 refine ⟨by simp [hs.1],fun j g q hg hq => ?_⟩
 cases j with
 | zero => simp at hg hq;subst hg hq;exact h
 | succ j => exact hs.2 j g q (by simpa using hg) (by simpa using hq)
theorem Rd.one {H : Facts} {a : Option Addr} {vs : List Value} (h : Rd H a vs) {j : Nat} {v : Value} (hv : vs[j]? = some v) : ∃ b off,a = some ⟨b,off,none⟩ ∧ Cells H b (off + j * 1) [v] := by
 have := h.part j (us := [v]) (by
  apply List.ext_getElem?
  intro i
  cases i with
  | zero => simp [hv]
  | succ i => simp [List.getElem?_take]) (by simp)
 simpa using this
theorem s108 (L : Lg Tryz.prog main) (H : Facts) {a : Option Addr} {n cap : Nat} {fs : List Value} {rs : List Int} (hn : fs.length = n) (hr : Rd H a fs) (hb : Bars L H fs rs) (hl : fs.length ≤ 1000) : Pure L 108 #[.slice a n cap] H (.int .i64 (firstBar rs)) := by
 subst hn
 refine Spec.enter Tryz.func108 rfl (by simp [Tryz.f108]) fun c cs hc => ?_;refine At.seq (At.region ?_);refine Aa Z Z Z Z Z O ?_;refine Ab (At.seq (At.seq (At.region ?_)));refine Aa Z Z Z Z Z O ?_;refine Ao Z Z Z Z Z Z Z Z ?_;refine Aa Z Z Z Z Z O ?_;refine Ab ?_;refine At.block ?_
 refine Az (X := { j : Nat // j ≤ fs.length ∧ firstBar (rs.drop j) = firstBar rs }) [6,7] (fun x => [(8,.int .i64 (x.1 : Int))]) (fun _ => H) (fun x => fs.length - x.1) (⟨0,Nat.zero_le _,rfl⟩) rfl ?_ (by repeat (first | exact trivial | refine ⟨rfl,?_⟩)) sb
 rintro ⟨j,hj,hd⟩ again
 simp only at again ⊢
 refine At.seq (At.region ?_);refine Ad Z Z Z Z Z fun b9 h9 => ?_;refine Ab (At.seq ?_)
 cases b9
 ·have e : j = fs.length := by simp at h9;omega
  subst e
  rw [List.drop_of_length_le (by rw [hb.1];omega)] at hd
  refine At.cond Z ?_;refine At.exit rfl ?_;refine At.seq (At.region ?_);refine Aa Z Z Z Z Z O ?_;refine Ab ?_
  exact At.ret Tryz.func108 (.inr ⟨_,rfl⟩) rfl (.tmp rfl .nil) (wk (hc _ _ (⟨by rw [← hd];rfl,rfl⟩)))
 ·have hlt : j < fs.length := by simp at h9;omega
  have hlt2 : j < rs.length := by rw [← hb.1];exact hlt
  obtain ⟨b,off,rfl,hc1⟩ := hr.one (List.getElem?_eq_getElem hlt)
  rw [List.drop_eq_getElem_cons hlt2] at hd
  refine At.cond Z ?_;refine At.skip (At.seq ?_);refine At.block ?_;refine At.seq (At.region ?_);refine Ae Z Z Z Z (q_ia Z Z Z (by assumption)) ?_;refine Au Z Z Z Z Z Z hc1.a Z Z ?_;refine Aa Z Z Z Z Z O ?_;refine Ab (At.seq (At.region ?_));refine Aa Z Z Z Z Z O ?_;refine At.cv Z Z Z Z Z Z ((hb.2 j fs[j] rs[j] (List.getElem?_eq_getElem hlt) (List.getElem?_eq_getElem hlt2) H (Sub.refl _))) ?_
  rintro _ _ ⟨rfl,rfl⟩
  refine Aa Z Z Z Z Z O ?_;refine Ab (At.seq (At.region ?_));refine Aa Z Z Z Z Z O ?_;refine Ad Z Z Z Z Z fun b15 h15 => ?_;refine Ab ?_
  cases b15
  ·have e0 : rs[j] = 0 := by simpa using h15
   rw [firstBar,if_neg (by simpa using e0)] at hd
   refine At.cond Z ?_;refine At.skip ?_;refine At.inBlock ?_;refine At.region ?_;refine Aa Z Z Z Z Z (by omega) ?_;refine Aa Z Z Z Z Z O ?_;refine Ab ?_
   refine Aq ((again ⟨j + 1,hlt,hd⟩ (by simp;omega)))
  ·have e0 : rs[j] ≠ 0 := by simpa using h15
   rw [firstBar,if_pos e0] at hd
   refine At.cond Z ?_;refine At.seq (At.region ?_);(iterate 2 refine Aa Z Z Z Z Z O ?_);refine Ab ?_
   exact At.ret Tryz.func108 (.inr ⟨_,rfl⟩) rfl (.tmp rfl .nil) (wk (hc _ _ (⟨by rw [← hd];rfl,rfl⟩)))
def lookC (eye row : Value) (sn sd : Value) (sl : Value) (f0 f1 f2 t0 t1 t2 : Value) : List Value := [eye,row,sn,sd,sl,f0,f1,f2,t0,t1,t2]
theorem s54 (L : Lg Tryz.prog main) (H : Facts) {n : Int} {r a b s f0 f1 f2 t0 t1 t2 : Value} : Pure L 54 #[.agg (List.toArray (lookC (.int .i64 n) r a b s f0 f1 f2 t0 t1 t2))] H (.int .i64 (hBar n)) := by
 refine Spec.enter Tryz.func54 rfl (by simp [Tryz.f54]) fun c cs hc => ?_;refine At.seq (At.region ?_);refine An Z Z Z Z Z Z Z fun r1 => ?_;refine Aa Z Z Z Z Z O ?_;refine Ab (At.seq (At.region ?_));refine Ah 0 Z Z Z Z Z Z Z ?_;refine Af 0 Z Z Z Z Z Z Z Z Z ?_;refine Ai Z Z Z Z Z Z Z Z (s109 L _) ?_;refine Aa Z Z Z Z Z O ?_;refine Ab ?_
 exact At.ret Tryz.func54 (.inr ⟨_,rfl⟩) rfl (.tmp rfl .nil) (wk (hc _ _ (⟨by rfl,rfl⟩)))
theorem s55 (L : Lg Tryz.prog main) (H : Facts) {n d : Int} {e r s f0 f1 f2 t0 t1 t2 : Value} : Pure L 55 #[.agg (List.toArray (lookC e r (.int .i64 n) (.int .i64 d) s f0 f1 f2 t0 t1 t2))] H (.int .i64 (slopeBar n d)) := by
 refine Spec.enter Tryz.func55 rfl (by simp [Tryz.f55]) fun c cs hc => ?_;refine At.seq (At.region ?_);refine An Z Z Z Z Z Z Z fun r1 => ?_;refine Aa Z Z Z Z Z O ?_;refine Ab (At.seq (At.region ?_));refine Ah 2 Z Z Z Z Z Z Z ?_;refine Af 0 Z Z Z Z Z Z Z Z Z ?_;refine Ai Z Z Z Z Z Z Z Z (s110 L _) ?_;refine Aa Z Z Z Z Z O ?_;refine Ab ?_
 exact At.ret Tryz.func55 (.inr ⟨_,rfl⟩) rfl (.tmp rfl .nil) (wk (hc _ _ (⟨by rfl,rfl⟩)))
theorem s69 (L : Lg Tryz.prog main) (H : Facts) {n : Int} {e a b s f0 f1 f2 t0 t1 t2 : Value} : Pure L 69 #[.agg (List.toArray (lookC e (.int .i64 n) a b s f0 f1 f2 t0 t1 t2))] H (.int .i64 (hBar n)) := by
 refine Spec.enter Tryz.func69 rfl (by simp [Tryz.f69]) fun c cs hc => ?_;refine At.seq (At.region ?_);refine An Z Z Z Z Z Z Z fun r1 => ?_;refine Aa Z Z Z Z Z O ?_;refine Ab (At.seq (At.region ?_));refine Ah 1 Z Z Z Z Z Z Z ?_;refine Af 0 Z Z Z Z Z Z Z Z Z ?_;refine Ai Z Z Z Z Z Z Z Z (s109 L _) ?_;refine Aa Z Z Z Z Z O ?_;refine Ab ?_
 exact At.ret Tryz.func69 (.inr ⟨_,rfl⟩) rfl (.tmp rfl .nil) (wk (hc _ _ (⟨by rfl,rfl⟩)))
theorem s234 (L : Lg Tryz.prog main) (H : Facts) {B : Bk} {A : BkA} : Pure L 234 #[bkV B A] H (.int .i64 (sizeBar B)) := by
 refine Spec.enter Tryz.func234 rfl (by simp [Tryz.f234]) fun c cs hc => ?_
 obtain ⟨prof,size,lo,hi,marks⟩ := B
 refine At.seq (At.region ?_);refine An Z Z Z Z Z Z Z fun r1 => ?_;refine Aa Z Z Z Z Z O ?_;refine Ab (At.seq (At.seq (At.region ?_)));refine Ah 0 Z Z Z Z Z Z Z ?_;refine Ah 1 Z Z Z Z Z Z Z ?_;refine Af 0 Z Z Z Z Z Z Z Z Z ?_;refine Bc Z Z Z Z Z Z Z Z (s115 L _) fun b6 h6 => ?_;(iterate 2 refine Aa Z Z Z Z Z O ?_)
 cases b6
 ·refine Ar Z Z Z Z ?_
  (iterate 4 refine Ar Z Z Z Z ?_);(iterate 2 refine Aa Z Z Z Z Z O ?_);(iterate 10 refine Ar Z Z Z Z ?_);refine Aa Z Z Z Z Z O ?_;refine Ab ?_;refine At.cond Z ?_;refine At.seq (At.region ?_);refine Aa Z Z Z Z Z O ?_;refine Ab ?_
  exact At.ret Tryz.func234 (.inr ⟨_,rfl⟩) rfl (.tmp rfl .nil) (wk (hc _ _ (⟨by simp_all [resVal,sizeBar],rfl⟩)))
 ·refine Ah 0 Z Z Z Z Z Z Z ?_
  refine Ah 2 Z Z Z Z Z Z Z ?_;refine Af 0 Z Z Z Z Z Z Z Z Z ?_;refine Bc Z Z Z Z Z Z Z Z (s235 L _) fun b12 h12 => ?_;(iterate 3 refine Aa Z Z Z Z Z O ?_)
  cases b12
  ·refine Ar Z Z Z Z ?_
   (iterate 9 refine Ar Z Z Z Z ?_);refine Aa Z Z Z Z Z O ?_;refine Ab ?_;refine At.cond Z ?_;refine At.seq (At.region ?_);refine Aa Z Z Z Z Z O ?_;refine Ab ?_
   exact At.ret Tryz.func234 (.inr ⟨_,rfl⟩) rfl (.tmp rfl .nil) (wk (hc _ _ (⟨by simp_all [resVal,sizeBar],rfl⟩)))
  ·have hb : InI (hi - lo) := by simp at h12;unfold InI;omega
   refine Ah 0 Z Z Z Z Z Z Z ?_;refine Ah 2 Z Z Z Z Z Z Z ?_;refine Ah 3 Z Z Z Z Z Z Z ?_;refine Af 0 Z Z Z Z Z Z Z Z Z ?_;refine Ah 0 Z Z Z Z Z Z Z ?_;(iterate 2 refine Ah 2 Z Z Z Z Z Z Z ?_);refine Af 0 Z Z Z Z Z Z Z Z Z ?_;refine Aa Z Z Z Z Z (by assumption) ?_;refine Ad Z Z Z Z Z fun b25 h25 => ?_
   refine Aa Z Z Z Z Z O ?_;refine Ab ?_
   cases b25
   ·refine At.cond Z ?_
    refine At.skip (At.seq (At.region ?_));refine Aa Z Z Z Z Z O ?_;refine Ab ?_
    exact At.ret Tryz.func234 (.inr ⟨_,rfl⟩) rfl (.tmp rfl .nil) (wk (hc _ _ (⟨by simp_all [resVal,sizeBar];try omega,rfl⟩)))
   ·refine At.cond Z ?_
    refine At.seq (At.region ?_);refine Aa Z Z Z Z Z O ?_;refine Ab ?_
    exact At.ret Tryz.func234 (.inr ⟨_,rfl⟩) rfl (.tmp rfl .nil) (wk (hc _ _ (⟨by simp_all [resVal,sizeBar];try omega,rfl⟩)))
theorem ptsBar_cons (pr : Option Int) (p : R2) (ps : List R2) : ptsBar pr (p :: ps) = if ¬ (1 ≤ p.1 ∧ p.1 ≤ 60) ∨ ¬ (0 ≤ p.2 ∧ p.2 ≤ 90) then 1 else if (match pr with | some h => decide (p.2 ≤ h) | none => false) = true then 7 else ptsBar (some p.2) ps := by
 cases pr <;> rfl
def prevO (ps : List R2) : Nat → Option Int
 | 0 => none
 | j + 1 => ps[j]?.map (·.2)
set_option maxHeartbeats 4000000 in
theorem s233 (L : Lg Tryz.prog main) (H : Facts) {B : Bk} {A : BkA} (hB : BkR H B A) (hl : B.prof.length ≤ 100000) : Pure L 233 #[bkV B A] H (.int .i64 (profBar B.prof)) := by
 refine Spec.enter Tryz.func233 rfl (by simp [Tryz.f233]) fun c cs hc => ?_
 obtain ⟨prof,size,lo,hi,marks⟩ := B
 obtain ⟨pa,pc,ma,mc⟩ := A
 obtain ⟨hrp,hrm⟩ := hB
 simp only at hrp hrm hl
 refine At.seq (At.region ?_);refine An Z Z Z Z Z Z Z fun r1 => ?_;refine Aa Z Z Z Z Z O ?_;refine Ab (At.seq (At.seq (At.region ?_)));(iterate 2 refine Ah 0 Z Z Z Z Z Z Z ?_);refine Af 0 Z Z Z Z Z Z Z Z Z ?_;refine Ao Z Z Z Z Z Z Z Z ?_;refine Bc Z Z Z Z Z Z Z Z (s115 L _) fun b9 h9 => ?_;refine Aa Z Z Z Z Z O ?_;refine Ab ?_
 cases b9
 ·refine At.cond Z ?_
  refine At.seq (At.region ?_);refine Aa Z Z Z Z Z O ?_;refine Ab ?_
  exact At.ret Tryz.func233 (.inr ⟨_,rfl⟩) rfl (.tmp rfl .nil) (wk (hc _ _ (⟨by simp_all [resVal,profBar];try omega,rfl⟩)))
 have hpb : profBar prof = ptsBar none prof := by simp at h9;unfold profBar;rw [if_neg (by omega)]
 simp only [hpb] at hc
 refine At.cond Z ?_;refine At.skip (At.seq (At.seq (At.region ?_)));(iterate 2 refine Ah 0 Z Z Z Z Z Z Z ?_);refine Af 0 Z Z Z Z Z Z Z Z Z ?_;refine Ao Z Z Z Z Z Z Z Z ?_;refine Aa Z Z Z Z Z O ?_;refine Ab ?_;refine At.block ?_
 refine Az (X := { j : Nat // j ≤ prof.length ∧ ptsBar (prevO prof j) (prof.drop j) = ptsBar none prof }) [1,13,14] (fun x => [(15,.int .i64 (x.1 : Int))]) (fun _ => .own r1 (.cells (List.toArray (bkC ⟨prof,size,lo,hi,marks⟩ ⟨pa,pc,ma,mc⟩)) 117 (0,0)) :: H) (fun x => prof.length - x.1) (⟨0,Nat.zero_le _,rfl⟩) rfl ?_ (by repeat (first | exact trivial | refine ⟨rfl,?_⟩)) sb
 rintro ⟨j,hj,hd⟩ again
 simp only at again ⊢
 refine At.seq (At.region ?_);refine Ad Z Z Z Z Z fun b16 h16 => ?_;refine Ab (At.seq ?_)
 cases b16
 ·have e : j = prof.length := by simp at h16;omega
  subst e
  rw [List.drop_length] at hd
  refine At.cond Z ?_;refine At.exit rfl ?_;refine At.seq (At.region ?_);refine Aa Z Z Z Z Z O ?_;refine Ab ?_
  exact At.ret Tryz.func233 (.inr ⟨_,rfl⟩) rfl (.tmp rfl .nil) (wk (hc _ _ (⟨by rw [← hd];rfl,rfl⟩)))
 ·have hlt : j < prof.length := by simp at h16;omega
  obtain ⟨b,off,rfl,hc1⟩ := hrp.el (List.getElem?_eq_getElem hlt)
  rw [List.drop_eq_getElem_cons hlt,ptsBar_cons] at hd
  refine At.cond Z ?_;refine At.skip (At.seq ?_);refine At.block ?_;refine At.seq (At.region ?_);refine Aa Z Z Z Z Z O ?_;refine Ae Z Z Z Z (q_ia Z Z Z (by assumption)) ?_;refine Au Z Z Z Z Z Z hc1.a Z Z ?_;refine Al Z Z Z Z Z fun r4 => ?_;refine Aa Z Z Z Z Z O ?_;refine Ag 0 Z Z Z Z Z Z Z Z Z Z Z Z ?_;refine Ab ?_;refine At.block ?_
  refine At.seq (At.seq (At.region ?_));refine Ah 0 Z Z Z Z Z Z Z ?_;refine Af 0 Z Z Z Z Z Z Z Z Z ?_;refine Bc Z Z Z Z Z Z Z Z (s115 L _) fun b23 h23 => ?_;(iterate 2 refine Aa Z Z Z Z Z O ?_);refine Ab ?_
  cases b23
  ·rw [if_pos (by simp at h23;omega)] at hd
   refine At.cond Z ?_;refine At.skip ?_;refine At.cond Z ?_;refine At.seq (At.region ?_);refine Aa Z Z Z Z Z O ?_;refine Ab ?_
   exact At.ret Tryz.func233 (.inr ⟨_,rfl⟩) rfl (.tmp rfl .nil) (wk (hc _ _ (⟨by rw [← hd];rfl,rfl⟩)))
  ·refine At.cond Z ?_
   refine At.region ?_;refine Ah 1 Z Z Z Z Z Z Z ?_;refine Af 0 Z Z Z Z Z Z Z Z Z ?_;refine Bc Z Z Z Z Z Z Z Z (s115 L _) fun b27 h27 => ?_;(iterate 2 refine Aa Z Z Z Z Z O ?_);refine Ab ?_
   cases b27
   ·rw [if_pos (by simp at h27;omega)] at hd
    refine At.cond Z ?_;refine At.seq (At.region ?_);refine Aa Z Z Z Z Z O ?_;refine Ab ?_
    exact At.ret Tryz.func233 (.inr ⟨_,rfl⟩) rfl (.tmp rfl .nil) (wk (hc _ _ (⟨by rw [← hd];rfl,rfl⟩)))
   ·rw [if_neg (by simp at h23 h27;omega)] at hd
    cases j with
    | zero =>
     refine At.cond Z ?_;refine At.seq ?_;refine Aw hmix [] rfl ?_;refine Ac 0 Z Z Z Z Z Z Z O ?_;refine Bb 1 Z Z Z Z Z Z Z fun b31 h31 => ?_;refine Ac 2 Z Z Z Z Z Z Z O ?_
     cases b31
     ·rw [if_neg (by simp [prevO])] at hd
      refine Av 3 Z Z Z Z Z Z ?_;refine Av 4 Z Z Z Z Z Z ?_;refine Av 5 Z Z Z Z Z Z ?_;refine Av 6 Z Z Z Z Z Z ?_;refine Av 7 Z Z Z Z Z Z ?_;refine Av 8 Z Z Z Z Z Z ?_;refine Av 9 Z Z Z Z Z Z ?_;refine Av 10 Z Z Z Z Z Z ?_;refine Av 11 Z Z Z Z Z Z ?_;refine Av 12 Z Z Z Z Z Z ?_;refine Av 13 Z Z Z Z Z Z ?_
      refine Ac 14 Z Z Z Z Z Z Z O ?_;refine Ac 15 Z Z Z Z Z Z Z O ?_;refine pool_done Z Z ?_;refine Ab ?_;refine At.cond Z ?_;refine At.skip ?_;(iterate 2 refine At.inBlock ?_);refine At.region ?_;refine Aa Z Z Z Z Z (by omega) ?_;refine Aa Z Z Z Z Z O ?_;refine Ab ?_
      refine Aq ((again ⟨0 + 1,hlt,by rw [← hd];simp [prevO,hlt]⟩ (by simp;omega)))
     ·simp at h31
    | succ i =>
     have hlt' : i < prof.length := by omega
     obtain ⟨b',off',e',hc2⟩ := hrp.el (List.getElem?_eq_getElem hlt')
     cases e'
     have hpr : prevO prof (i + 1) = some prof[i].2 := by simp [prevO,hlt']
     rw [hpr] at hd
     refine At.cond Z ?_;refine At.seq ?_;refine Aw hmix [] rfl ?_;refine Ac 0 Z Z Z Z Z Z Z O ?_;refine Bb 1 Z Z Z Z Z Z Z fun b31 h31 => ?_;refine Ac 2 Z Z Z Z Z Z Z O ?_
     cases b31
     ·simp at h31 <;> omega
     ·refine Am 1 3 Z Z Z Z Z Z Z Z Z ?_
      refine Aj 0 4 Z Z Z Z Z Z Z Z Z Z Z ?_;refine Am 0 5 Z Z Z Z Z Z Z Z Z ?_;refine Am 0 6 Z Z Z Z Z Z Z Z Z ?_;refine Aj 1 7 Z Z Z Z Z Z Z Z Z Z Z ?_;refine Ac 8 Z Z Z Z Z Z Z O ?_;refine Ac 9 Z Z Z Z Z Z Z (by omega) ?_;refine Ak 10 Z Z Z Z Z (q_iaN (k := (i + 1 - 1)) Z Z Z (by omega) (by assumption)) rfl ?_
      refine Pool.faE 11 Z Z Z Z Z Z Z Z ?_;refine Ax 12 Z Z Z Z Z Z Z (hc2.s 1 1 rfl) Z Z Z ?_;refine Bb 13 Z Z Z Z Z Z Z fun b43 h43 => ?_;refine Ac 14 Z Z Z Z Z Z Z O ?_;refine Ac 15 Z Z Z Z Z Z Z O ?_;refine pool_done Z Z ?_;refine Ab ?_
      cases b43
      ·rw [if_neg (by simpa using h43)] at hd
       refine At.cond Z ?_;refine At.skip ?_;(iterate 2 refine At.inBlock ?_);refine At.region ?_;refine Aa Z Z Z Z Z (by omega) ?_;refine Aa Z Z Z Z Z O ?_;refine Ab ?_
       refine Aq ((again ⟨i + 1 + 1,hlt,by rw [← hd];simp [prevO,hlt]⟩ (by simp;omega)))
      ·rw [if_pos (by simpa using h43)] at hd
       refine At.cond Z ?_;refine At.seq (At.region ?_);refine Aa Z Z Z Z Z O ?_;refine Ab ?_
       exact At.ret Tryz.func233 (.inr ⟨_,rfl⟩) rfl (.tmp rfl .nil) (wk (hc _ _ (⟨by rw [← hd];rfl,rfl⟩)))
theorem SpecV.ofL {P : Program} {main : Bool} {L : Lg P main} {g : FuncId} {first cap args all : List Value} {H : Facts} {Post : Value → Facts → Prop} [hb : HB P g] (hc : cat3 first args cap = some all) (h : Spec L g (List.toArray all) H Post) : SpecV L (.func (.func g) (List.toArray first) (List.toArray cap)) (List.toArray args) H Post :=
 SpecV.of hb.h (by rw [show (List.toArray first ++ List.toArray args ++ List.toArray cap) = List.toArray all from cat3_eq hc];exact h)
abbrev z0 : Value := .int .i64 0
abbrev zl : Value := .slice none 0 0
def slopingOf (n d : Int) : Value := .func (.func 55) #[.agg (List.toArray (lookC z0 z0 (.int .i64 n) (.int .i64 d) zl z0 z0 z0 z0 z0 z0))] #[]
def inRowOf (r : Int) : Value := .func (.func 69) #[.agg (List.toArray (lookC z0 (.int .i64 r) z0 z0 zl z0 z0 z0 z0 z0 z0))] #[]
set_option maxRecDepth 100000 in
theorem spec_sloping (L : Lg Tryz.prog main) (n d : Int) (H : Facts) : SpecV L (slopingOf n d) #[] H (fun v H'' => v = .int .i64 (slopeBar n d) ∧ H'' = H) := SpecV.ofL (args := []) (cap := []) rfl (s55 L H)
set_option maxRecDepth 100000 in
theorem spec_inRow (L : Lg Tryz.prog main) (r : Int) (H : Facts) : SpecV L (inRowOf r) #[] H (fun v H'' => v = .int .i64 (hBar r) ∧ H'' = H) := SpecV.ofL (args := []) (cap := []) rfl (s69 L H)
set_option maxRecDepth 100000 in
theorem bars_mark0 (L : Lg Tryz.prog main) (n d r : Int) (H : Facts) : Bars L H [slopingOf n d,inRowOf r] [slopeBar n d,hBar r] :=
 .cons (fun H' _ => spec_sloping L n d H') (.cons (fun H' _ => spec_inRow L r H') .nil)
set_option maxRecDepth 100000 in
theorem bars_two0 (L : Lg Tryz.prog main) (n d n' d' : Int) (H : Facts) : Bars L H [slopingOf n d,slopingOf n' d'] [slopeBar n d,slopeBar n' d'] :=
 .cons (fun H' _ => spec_sloping L n d H') (.cons (fun H' _ => spec_sloping L n' d' H') .nil)
end Go.Gx
end
section
namespace Go.Gx
open Go Go.Conc Go.Proofs
variable {main : Bool}
set_option maxRecDepth 100000 in
set_option maxHeartbeats 800000 in
theorem s236 (L : Lg Tryz.prog main) (H : Facts) {B : Bk} {A : BkA} (hB : BkR H B A) (hl : B.marks.length ≤ 100000) : Pure L 236 #[bkV B A] H (.int .i64 (mksBar B.marks)) := by
 refine Spec.enter Tryz.func236 rfl (by simp [Tryz.f236]) fun c cs hc => ?_
 obtain ⟨prof,size,lo,hi,marks⟩ := B
 obtain ⟨pa,pc,ma,mc⟩ := A
 obtain ⟨hrp,hrm⟩ := hB
 simp only at hrp hrm hl
 refine At.seq (At.region ?_);refine An Z Z Z Z Z Z Z fun r1 => ?_;refine Aa Z Z Z Z Z O ?_;refine Ab (At.seq (At.seq (At.region ?_)));refine Ah 0 Z Z Z Z Z Z Z ?_;refine Ah 4 Z Z Z Z Z Z Z ?_;refine Af 0 Z Z Z Z Z Z Z Z Z ?_;refine Ao Z Z Z Z Z Z Z Z ?_;refine Ad Z Z Z Z Z fun b10 h10 => ?_;refine Ab ?_
 cases b10
 rotate_left
 ·refine At.cond Z ?_
  refine At.seq (At.region ?_);refine Aa Z Z Z Z Z O ?_;refine Ab ?_
  exact At.ret Tryz.func236 (.inr ⟨_,rfl⟩) rfl (.tmp rfl .nil) (wk (hc _ _ (⟨by simp_all [resVal,mksBar];try omega,rfl⟩)))
 have hpb : mksBar marks = marksBar marks := by simp at h10;unfold mksBar;rw [if_neg (by omega)]
 simp only [hpb] at hc
 refine At.cond Z ?_;refine At.skip (At.seq (At.seq (At.region ?_)));refine Ah 0 Z Z Z Z Z Z Z ?_;refine Ah 4 Z Z Z Z Z Z Z ?_;refine Af 0 Z Z Z Z Z Z Z Z Z ?_;refine Ao Z Z Z Z Z Z Z Z ?_;refine Aa Z Z Z Z Z O ?_;refine Ab ?_;refine At.block ?_
 refine Az (X := { j : Nat // j ≤ marks.length ∧ marksBar (marks.drop j) = marksBar marks }) [13,14] (fun x => [(15,.int .i64 (x.1 : Int))]) (fun _ => .own r1 (.cells (List.toArray (bkC ⟨prof,size,lo,hi,marks⟩ ⟨pa,pc,ma,mc⟩)) 117 (0,0)) :: H) (fun x => marks.length - x.1) (⟨0,Nat.zero_le _,rfl⟩) rfl ?_ (by repeat (first | exact trivial | refine ⟨rfl,?_⟩)) sb
 rintro ⟨j,hj,hd⟩ again
 simp only at again ⊢
 refine At.seq (At.region ?_);refine Ad Z Z Z Z Z fun b16 h16 => ?_;refine Ab (At.seq ?_)
 cases b16
 ·have e : j = marks.length := by simp at h16;omega
  subst e
  rw [List.drop_length] at hd
  refine At.cond Z ?_;refine At.exit rfl ?_;refine At.seq (At.region ?_);refine Aa Z Z Z Z Z O ?_;refine Ab ?_
  exact At.ret Tryz.func236 (.inr ⟨_,rfl⟩) rfl (.tmp rfl .nil) (wk (hc _ _ (⟨by rw [← hd];rfl,rfl⟩)))
 ·have hlt : j < marks.length := by simp at h16;omega
  obtain ⟨b,off,rfl,hc1⟩ := hrm.el (List.getElem?_eq_getElem hlt)
  rw [List.drop_eq_getElem_cons hlt,marksBar] at hd
  refine At.cond Z ?_;refine At.skip (At.seq ?_);refine At.block ?_;refine At.seq (At.region ?_);refine Ae Z Z Z Z (q_ia Z Z Z (by assumption)) ?_;refine Au Z Z Z Z Z Z hc1.a Z Z ?_;refine Al Z Z Z Z Z fun r4 => ?_;refine Ag 0 Z Z Z Z Z Z Z Z Z Z Z Z ?_;refine Ab (At.seq (At.region ?_));refine Ah 0 Z Z Z Z Z Z Z ?_;refine Af 0 Z Z Z Z Z Z Z Z Z ?_
  refine Ae Z Z Z Z (q_build Z Z Z) ?_;refine Aa Z Z Z Z Z O ?_;refine Ah 2 Z Z Z Z Z Z Z ?_;refine Af 0 Z Z Z Z Z Z Z Z Z ?_;refine Ae Z Z Z Z (q_build Z Z Z) ?_;refine Aa Z Z Z Z Z O ?_
  (refine At.l Z Z Z Z (l_buildSlice Z Z Z Z Z) ?_;rintro _ _ ⟨r27,rfl,rfl⟩)
  refine Ai Z Z Z Z Z Z Z Z (s108 L _ (fs := [_,_]) rfl (rd_own 0 Z Z) (bars_mark0 L marks[j].1.1 marks[j].1.2 marks[j].2 _) (by simp)) ?_
  have hfb : firstBar [slopeBar marks[j].1.1 marks[j].1.2,hBar marks[j].2] = markBar marks[j] := by
   simp only [firstBar,markBar]
   by_cases h : hBar marks[j].2 = 0 <;> simp [h]
  rw [hfb]
  refine Aa Z Z Z Z Z O ?_;refine Ab (At.seq (At.region ?_));refine Aa Z Z Z Z Z O ?_;refine Ad Z Z Z Z Z fun b30 h30 => ?_;refine Ab ?_
  cases b30
  ·rw [if_neg (by simpa using h30)] at hd
   refine At.cond Z ?_;refine At.skip ?_;refine At.inBlock ?_;refine At.region ?_;refine Aa Z Z Z Z Z (by omega) ?_;refine Aa Z Z Z Z Z O ?_;refine Ab ?_
   refine Aq ((again ⟨j + 1,hlt,hd⟩ (by simp;omega)))
  ·rw [if_pos (by simpa using h30)] at hd
   refine At.cond Z ?_;refine At.seq (At.region ?_);(iterate 2 refine Aa Z Z Z Z Z O ?_);refine Ab ?_
   exact At.ret Tryz.func236 (.inr ⟨_,rfl⟩) rfl (.tmp rfl .nil) (wk (hc _ _ (⟨by rw [← hd];rfl,rfl⟩)))
end Go.Gx
end
