/-
  Clash, Ask, Mark and Stand answer as the specification does: CanvasNews holds.
-/
import Derived.Test.YtokdmiiejfmomaaGreatDoorU18x2
import Derived.Test.YtokdmiiejfmomaaGreatDoorRows
import Derived.Conc.LeavingOf
import Derived.Carry
import Derived.LaidMore
import Derived.Stop.Joined
import Derived.ChangeShapes
import Derived.RowKit
import Derived.Test.YtokdmiiejfmomaaGreatDoorProg
import Derived.Test.YtokdmiiejfmomaaGreatDoorChecked
import Derived.KernelRfl
section
/-
  LOGIC G, second half, part d: maps whose keys are structs of ints (own, never fewer entries), channels made.
-/
set_option linter.unusedSimpArgs false
set_option linter.unusedVariables false
namespace Go.Gx
open Go Go.Conc

def ents (g : List Int → Value) (ks : List (List Int)) : List MapEntry := ks.zipIdx.map fun p => { key := .agg (List.toArray (ints p.1)), val := g p.1, born := p.2 }
/-- The map from each k of ks to g k, in the order in which they came. -/
def mapO (g : List Int → Value) (ks : List (List Int)) : Obj := .map (List.toArray (ents g ks)) ks.length
theorem ents_push {g : List Int → Value} {ks : List (List Int)} {k : List Int} : ents g (ks ++ [k]) = ents g ks ++ [{ key := .agg (List.toArray (ints k)), val := g k, born := ks.length }] := by
  simp [ents, List.zipIdx_append]
theorem ents_get {g : List Int → Value} {ks : List (List Int)} {k : List Int} {i : Nat} (h : ks[i]? = some k) : (ents g ks)[i]? = some { key := .agg (List.toArray (ints k)), val := g k, born := i } := by
  simp [ents, List.getElem?_zipIdx, h]
theorem sameBits_int {n : Nat} {j : IntKind} {a : Int} : Instr.sameBits n (.int j a) (.int j a) = true := by
  cases n <;> simp [Instr.sameBits]
theorem sameBits_ints {n : Nat} {xs : List Int} : Instr.sameBits (n + 1) (.agg (List.toArray (ints xs))) (.agg (List.toArray (ints xs))) = true := by
  unfold Instr.sameBits
  simp only [beq_self_eq_true, Bool.true_and, List.all_eq_true]
  rintro ⟨x, y⟩ h
  have h' : x = y ∧ ∃ a, x = .int .i64 a := by
    revert h
    simp only [ints]
    induction xs with
    | nil => intro h; simp at h
    | cons a xs ih =>
      intro h
      simp only [List.map_cons, List.zip_cons_cons, List.mem_cons, Prod.mk.injEq] at h
      rcases h with ⟨rfl, rfl⟩ | h
      · exact ⟨rfl, a, rfl⟩
      · exact ih h
  obtain ⟨rfl, a, rfl⟩ := h'
  exact sameBits_int
section
variable {P : Program} {H : Facts}

theorem k_loopU {β : Type} {st : β → PUnit → Sem (ForInStep PUnit)} : ∀ {l : List β}, (∀ b ∈ l, ∀ Q : ForInStep PUnit → Facts → Prop, Q (.yield PUnit.unit) H → K P (st b PUnit.unit) Q H) → ∀ {Q : PUnit → Facts → Prop}, Q PUnit.unit H → K P (forIn l PUnit.unit st) Q H
  | [], _, Q, hq => hq
  | b :: l, h, Q, hq => by
    rw [List.forIn_cons, K.bind]
    refine h b (List.mem_cons_self ..) _ ?_
    exact k_loopU (l := l) (fun b' hb' => h b' (List.mem_cons_of_mem _ hb')) hq
def ChkOk (P : Program) (H : Facts) (D : Nat) (t : TypeId) (m : Nat) : Prop :=
  ∀ {ag : Bool} {sz by_ : Nat} {z : Option Value}, tyF P t = some (ag, sz, z, by_) → sz = m → ∀ {em : Bool} {xs : List Int} {vx : Value}, xs.length = m → mkV ag (ints xs) = some vx →
    ∀ {Q : Unit → Facts → Prop}, Q () H → K P (Instr.checkKey em D t vx) Q H
theorem k_checks {xs : List Int} {D d : Nat} {em : Bool} (ih : ∀ t m, eqc P d t = some m → ChkOk P H D t m) : ∀ {fs : List Field} {acc m : Nat}, eqcs P (eqc P d) fs acc = some m → m ≤ xs.length →
    ∀ f ∈ fs, ∀ Q : ForInStep PUnit → Facts → Prop, Q (.yield PUnit.unit) H →
      K P (if f.name ≠ "_" then do
              let a ← part f.type (List.toArray (ints xs)) f.offset
              Instr.checkKey em D f.type a
              pure (ForInStep.yield PUnit.unit)
            else pure (ForInStep.yield PUnit.unit)) Q H
  | [], acc, m, h, _ => by simp
  | f :: fs, acc, m, h, hx => by
    have hle := eqcs_le h
    unfold eqcs at h
    cases hc : (f.name != "_" && f.offset == acc) with
    | false => rw [hc] at h; cases h
    | true =>
      rw [hc] at h
      simp only [cond_true] at h
      simp only [Bool.and_eq_true, bne_iff_ne, beq_iff_eq] at hc
      obtain ⟨hnm, hoff⟩ := hc
      split at h
      · rename_i m1 ag sz z by_ e1 e2
        cases hm : (m1 == sz) with
        | false => rw [hm] at h; cases h
        | true =>
          rw [hm] at h
          simp only [cond_true] at h
          have hm' : m1 = sz := by simpa using hm
          subst hm'
          have hle2 := eqcs_le h
          have i2 := k_checks (em := em) ih h hx
          intro g hg Q hq
          rcases List.mem_cons.1 hg with rfl | hg
          · rw [if_pos hnm]
            have l1 : ((xs.drop g.offset).take m1).length = m1 := by simp; omega
            obtain ⟨vx, hvx⟩ := mkV_some (ag := ag) (l := ints ((xs.drop g.offset).take m1)) (fun h0 => by rw [ints, List.length_map, l1]; exact eqc_agg e1 e2 h0)
            rw [K.bind]
            refine k_partI e2 (by omega) hvx ?_
            rw [K.bind]
            exact ih _ _ e1 e2 rfl l1 hvx hq
          · exact i2 g hg Q hq
      · cases h
theorem k_chk : ∀ {d : Nat} {D : Nat}, d ≤ D → ∀ t m, eqc P d t = some m → ChkOk P H D t m
  | 0, D, _, t, m, h => by simp [eqc] at h
  | d + 1, D, hD, t, m, h => by
    rename_i ag sz by_ z
    intro ht hsz em xs vx hx hvx Q hq
    subst hsz
    obtain ⟨D, rfl⟩ : ∃ D', D = D' + 1 := ⟨D - 1, by omega⟩
    unfold eqc at h
    unfold Instr.checkKey
    obtain ⟨dd, i, h1, _, h3, _⟩ := tyF_parts ht
    rw [K.bind, k_underlying h1]
    rw [h1] at h
    cases dd with
    | int k =>
      have hag : ag = false := by rw [← h3]; rfl
      subst hag
      rcases mkV_ints hvx with ⟨h0, _⟩ | ⟨_, x, rfl, rfl⟩
      · cases h0
      exact hq
    | struct fs =>
      have hag : ag = true := by rw [← h3]; rfl
      subst hag
      obtain ⟨_, rfl⟩ := (mkV_ints hvx).resolve_right (fun x => by cases x.1)
      simp only at h ⊢
      cases hst : P.stoodInHeld t with
      | true => rw [hst] at h; cases h
      | false =>
        rw [hst] at h
        simp only [cond_false] at h
        rw [← Array.forIn_toList]
        have hall := k_checks (xs := xs) (D := D) (H := H) (em := em) (fun t m h => k_chk (by omega) t m h) h (by omega)
        rw [K.bind]
        exact k_loopU (fun f hf Q' hq' => hall f hf Q' hq') hq
    | array n e =>
      have hag : ag = true := by rw [← h3]; rfl
      subst hag
      obtain ⟨_, rfl⟩ := (mkV_ints hvx).resolve_right (fun x => by cases x.1)
      simp only at h ⊢
      split at h
      · rename_i m1 ag1 sz1 z1 by1 e1 e2
        cases hm : (m1 == sz1) with
        | false => rw [hm] at h; cases h
        | true =>
          rw [hm] at h
          simp only [cond_true, Option.some.injEq] at h
          have hm' : m1 = sz1 := by simpa using hm
          subst hm' h
          obtain ⟨dd', i', _, g2, _, g4, _, _⟩ := tyF_parts e2
          rw [Std.Legacy.Range.forIn_eq_forIn_range']
          have hb : ∀ i, i < n → i * m1 + m1 ≤ n * m1 := fun i hi => by
            have := Nat.mul_le_mul_right m1 (show i + 1 ≤ n from hi)
            rw [Nat.succ_mul] at this
            exact this
          rw [K.bind]
          refine k_loopU (fun i hi Q' hq' => ?_) hq
          have hin : i < n := by
            rw [List.mem_range'] at hi
            obtain ⟨j, hj, rfl⟩ := hi
            simp [Std.Legacy.Range.size] at hj ⊢
            omega
          have hbi := hb i hin
          have l1 : ((xs.drop (i * m1)).take m1).length = m1 := by simp; omega
          obtain ⟨vx, hvx'⟩ := mkV_some (ag := ag1) (l := ints ((xs.drop (i * m1)).take m1)) (fun h0 => by rw [ints, List.length_map, l1]; exact eqc_agg e1 e2 h0)
          rw [K.bind, k_sizeOf g2, g4, K.bind]
          refine k_partI e2 (by omega) hvx' ?_
          rw [K.bind]
          exact k_chk (by omega) e m1 e1 e2 rfl l1 hvx' hq'
      · cases h
    | _ => cases h
theorem k_check {t : TypeId} {m sz : Nat} {z : List Value} [he : EqI P t m] [ht : TyI P t true sz z] {em : Bool} {xs : List Int} (hx : xs.length = m) (hm : Nat.beq sz m = true) {Q : Unit → Facts → Prop} (hq : Q () H) : K P (Instr.checkKey em 10000 t (.agg (List.toArray (ints xs)))) Q H := by
  obtain ⟨zv, by_, h1, _⟩ := ht.h
  exact k_chk (H := H) (d := 20) (D := 10000) (by decide) t m he.h h1 (Nat.eq_of_beq_eq_true hm) hx rfl hq
theorem k_ask {t : TypeId} {m sz : Nat} {z : List Value} [he : EqI P t m] [ht : TyI P t true sz z] {g : List Int → Value} {k : List Int} (hk : k.length = m) (hm : Nat.beq sz m = true) : ∀ {ks : List (List Int)} {o i : Nat}, (∀ x ∈ ks, x.length = m) →
    ∀ {Q : Option (Nat × Value) → Facts → Prop}, (∀ j, ks[j]? = some k → Q (some (i + j, g k)) H) → (k ∉ ks → Q none H) →
    K P (Instr.findAsking t (.agg (List.toArray (ints k))) ((ks.zipIdx o).map fun p => { key := .agg (List.toArray (ints p.1)), val := g p.1, born := p.2 }) i) Q H
  | [], o, i, _, Q, _, hn => hn (by simp)
  | x :: ks, o, i, hl, Q, hy, hn => by
    obtain ⟨zv, by_, h1, _⟩ := ht.h
    rw [List.zipIdx_cons, List.map_cons]
    unfold Instr.findAsking
    rw [K.bind]
    refine k_eq (H := H) (d := 20) (D := Op.maxDepth) (by decide) t m he.h h1 (Nat.eq_of_beq_eq_true hm) hk (hl x (by simp)) rfl rfl ?_
    by_cases e : k = x
    · subst e
      simp only [decide_true, if_true]
      exact hy 0 rfl
    · simp only [e, decide_false, Bool.false_eq_true, if_false]
      refine k_ask hk hm (fun x hx => hl x (List.mem_cons_of_mem _ hx)) (fun j hj => ?_) (fun h => hn ?_)
      · have := hy (j + 1) (by simpa using hj)
        rwa [show i + (j + 1) = i + 1 + j from by omega] at this
      · simp [e, h]
theorem k_find {t : TypeId} {m sz : Nat} {z : List Value} [he : EqI P t m] [ht : TyI P t true sz z] {g : List Int → Value} {k : List Int} (hk : k.length = m) (hm : Nat.beq sz m = true) {ks : List (List Int)} (hl : ∀ x ∈ ks, x.length = m)
    {Q : Option (Nat × Value) → Facts → Prop} (hy : ∀ j, ks[j]? = some k → Q (some (j, g k)) H) (hn : k ∉ ks → Q none H) : K P (Instr.findKey t (.agg (List.toArray (ints k))) (ents g ks)) Q H := by
  obtain ⟨zv, by_, h1, _⟩ := ht.h
  obtain ⟨d, i, e1, _⟩ := tyF_parts h1
  unfold Instr.findKey
  rw [K.bind, k_underlying e1]
  have main : K P (Instr.findAsking t (.agg (List.toArray (ints k))) (ents g ks)) Q H := k_ask hk hm hl (fun j hj => by rw [Nat.zero_add]; exact hy j hj) hn
  cases ks with
  | nil => simp only [ents, List.zipIdx_nil, List.map_nil, Instr.findNow]; exact hn (by simp)
  | cons x ks =>
    have e : Instr.findNow d (.agg (List.toArray (ints k))) (ents g (x :: ks)) 0 = none := by
      rw [ents, List.zipIdx_cons, List.map_cons]
      unfold Instr.findNow
      cases d <;> simp [Instr.sameNow]
    rw [e]
    exact main
/-- A type of maps from structs of ints. -/
class MpI (P : Program) (t : TypeId) (key elem : outParam TypeId) : Prop where
  h : P.underlying t = some (.map key elem)
def chB (P : Program) (t : TypeId) : Bool :=
  match P.underlying t with
  | some (.chan _ e) => (P.info? e).isSome
  | _ => false
/-- A type of channels. -/
class ChI (P : Program) (t : TypeId) : Prop where
  b : chB P t = true
theorem ChI.h {P : Program} {t : TypeId} (hc : ChI P t) : ∃ d e i, P.underlying t = some (.chan d e) ∧ P.info? e = some i := by
  have h := hc.b
  unfold chB at h
  split at h
  · rename_i d e e1
    obtain ⟨i, hi⟩ := Option.isSome_iff_exists.1 h
    exact ⟨d, e, i, e1, hi⟩
  · cases h
variable {E : Env} {o : Oper}
theorem l_makeMap {g : List Int → Value} {t : TypeId} (ho : o.op = .makeMap t none) : LOp P o E H (fun v H' => ∃ r, v = .map (some r) ∧ H' = .own r (mapO g []) :: H) :=
  ⟨nd ho (by intro c h; cases h), fun φ hA Q hQ => by
    unfold execOp; rw [ho]; simp only [Instr.makeMap, K.bind, newObj, Option.map_none]
    simp only [K.pure]
    intro r
    exact hQ _ _ ⟨r, rfl, rfl⟩⟩
theorem l_makeChan {t : TypeId} [ht : ChI P t] (ho : o.op = .makeChan t (.const (.int .i64 0))) : LOp P o E H (fun v H' => ∃ r, v = .chan (some r) ∧ H' = .own r (.chan 0 #[] false 0 0 false) :: H) :=
  ⟨nd ho (by intro c h; cases h), fun φ hA Q hQ => by
    obtain ⟨d, e, i, h1, h2⟩ := ht.h
    unfold execOp; rw [ho]
    simp only [hA _ _ (show ev E (.const (.int .i64 0)) = some (.int .i64 0) from rfl), Instr.makeChan, asInt, asIntOf, K.bind, K.pure, k_underlying h1, typeInfo, program]
    simp only [K, h2]
    simp [K, K.bind, K.pure, IntKind.max, IntKind.bits, IntKind.signed, newObj]
    intro r
    exact hQ _ _ ⟨r, rfl, rfl⟩⟩
theorem k_eqNil {D : Nat} {t e : TypeId} {a : Option Addr} {m cap : Nat} (hu : P.underlying t = some (.slice e)) {Q : Bool → Facts → Prop} (hq : Q a.isNone H) : K P (Op.equalIn (D + 1) t (.slice a m cap) (.slice none 0 0)) Q H := by
  unfold Op.equalIn
  rw [K.bind, k_underlying hu]
  cases a <;> exact hq
/-- A slice compared with nil. -/
theorem q_isNil {t t' e : TypeId} {ag : Bool} {sz by_ : Nat} {z : List Value} {x : Operand} {a : Option Addr} {m cap : Nat} [he : ElI P t e ag sz by_ z] (ho : o.op = .binOp .eql t x (.const (.slice none 0 0)) t') (hx : ev E x = some (.slice a m cap)) : QOp P o E H (.bool a.isNone) :=
  ⟨nd ho (by intro c h; cases h), fun φ hA Q hQ => by
    obtain ⟨_, hu, _⟩ := he.parts
    unfold execOp; rw [ho]; simp only [hA x _ hx, hA _ _ (show ev E (.const (.slice none 0 0)) = some (.slice none 0 0) from rfl), K.bind]
    unfold eqGuard
    simp only [Bool.not_true, Bool.not_false, Bool.false_eq_true, if_false, K.pure]
    simp only [binOp, K.bind]
    exact k_eqNil (D := 9999) hu hQ⟩
def cvF (P : Program) (s d : TypeId) : Option IntKind :=
  match P.underlying s, P.underlying d with
  | some (.int _), some (.int k) => some k
  | _, _ => none
/-- Two types of integers. -/
class CvI (P : Program) (s d : TypeId) (kd : outParam IntKind) : Prop where
  h : cvF P s d = some kd
/-- An integer turned to another type that has room for it. -/
theorem q_conv {s t : TypeId} {kd ks : IntKind} {x : Operand} {a b : Int} [he : CvI P s t kd] (ho : o.op = .convert s t x) (hx : ev E x = some (.int ks a)) (hb : kd.wrap a = b) : QOp P o E H (.int kd b) :=
  ⟨nd ho (by intro c h; cases h), fun φ hA Q hQ => by
    have h := he.h
    unfold cvF at h
    split at h
    · rename_i k0 k e1 e2
      cases h
      subst hb
      unfold execOp; rw [ho]; simp only [hA x _ hx, K.bind]
      unfold convert
      rw [K.bind, k_underlying e1, K.bind, k_underlying e2]
      exact hQ
    · cases h⟩
/-- A byte of a string. -/
theorem q_ixs {t : TypeId} {ks : IntKind} {x y : Operand} {s : ByteArray} {a : Int} {b : UInt8} {v : Nat} (hu : P.underlying t = some .string) (ho : o.op = .index t x y) (hx : ev E x = some (.string s)) (hy : ev E y = some (.int ks a)) (h0 : 0 ≤ a) (hb : s[a.toNat]? = some b) (hv : b.toNat = v) : QOp P o E H (.int .u8 v) :=
  ⟨nd ho (by intro c h; cases h), fun φ hA Q hQ => by
    subst hv
    unfold execOp; rw [ho]; simp only [hA x _ hx, hA y _ hy, Instr.index, asIntOf, K.bind, K.pure, k_underlying hu]
    rw [if_pos h0, hb]
    exact hQ⟩
theorem modify_id {α : Type} {a : Array α} {i : Nat} {f : α → α} (h : ∀ x, a[i]? = some x → f x = x) : a.modify i f = a := by
  apply Array.ext_getElem?
  intro j
  rw [Array.getElem?_modify]
  split
  · rename_i e; subst e
    cases hx : a[i]? with
    | none => rfl
    | some x => simp [h x hx]
  · rfl
/-- One entry set: a key that is there has its value already. -/
theorem l_mapUpdate {r : Nat} {g : List Int → Value} {ks ks' : List (List Int)} {k : List Int} {t key elem : TypeId} {x y u : Operand} {m sz : Nat} {z : List Value} {H' : Facts} [hp : MpI P t key elem] [he : EqI P key m] [ht : TyI P key true sz z] (ho : o.op = .mapUpdate t x y u)
    (hx : ev E x = some (.map (some r))) (hy : ev E y = some (.agg (List.toArray (ints k)))) (hu : ev E u = some (g k)) (hk : k.length = m) (hm : Nat.beq sz m = true) (hl : ∀ x ∈ ks, x.length = m) (hks : ks' = if k ∈ ks then ks else ks ++ [k])
    (hup : Upd H (.own r (mapO g ks)) (.own r (mapO g ks')) H') : LOp P o E H (fun v H'' => v = undef ∧ H'' = H') :=
  ⟨nd ho (by intro c h; cases h), fun φ hA Q hQ => by
    unfold execOp; rw [ho]; simp only [hA x _ hx, hA y _ hy, hA u _ hu, Instr.mapUpdate, K.bind, k_underlying hp.h, getObj]
    refine ⟨_, hup.mem, rfl, ?_⟩
    simp only [mapO, K.bind, K.pure, K]
    refine k_check hk hm ?_
    refine k_find hk hm hl (fun j hj => ?_) (fun hn => ?_)
    · have hin : k ∈ ks := List.mem_of_getElem? hj
      rw [if_pos hin] at hks
      rw [hks] at hup
      simp only [K.bind, Instr.keyThatStays]
      have e1 : (List.toArray (ents g ks))[j]? = some { key := .agg (List.toArray (ints k)), val := g k, born := j } := by rw [List.getElem?_toArray]; exact ents_get hj
      simp only [e1, Option.map_some, Option.getD_some]
      rw [if_pos sameBits_ints]
      simp only [K.pure, setObj, K]
      refine ⟨mapO g ks, H', rfl, rfl, ?_, hQ _ _ ⟨rfl, rfl⟩⟩
      rw [modify_id (fun x hx => ?_)]
      · exact hup
      · rw [e1] at hx; cases hx; rfl
    · rw [if_neg hn] at hks
      rw [hks] at hup
      simp only [setObj, K]
      refine ⟨mapO g ks, H', rfl, rfl, ?_, hQ _ _ ⟨rfl, rfl⟩⟩
      have e : (List.toArray (ents g ks)).push { key := .agg (List.toArray (ints k)), val := g k, born := ks.length } = List.toArray (ents g (ks ++ [k])) := by rw [ents_push]; simp
      rw [e]
      have e2 : mapO g (ks ++ [k]) = .map (List.toArray (ents g (ks ++ [k]))) (ks.length + 1) := by simp [mapO]
      rw [← e2]
      exact hup⟩
/-- A look into an own map. -/
theorem q_lookup {r : Nat} {g : List Int → Value} {ks : List (List Int)} {k : List Int} {t key elem : TypeId} {x y : Operand} {m sz : Nat} {z : List Value} {ag : Bool} {sz' by' : Nat} {zv : Value} [hp : MpI P t key elem] [he : EqI P key m] [ht : TyI P key true sz z] (ho : o.op = .lookup t x y false)
    (hx : ev E x = some (.map (some r))) (hy : ev E y = some (.agg (List.toArray (ints k)))) (hz : tyF P elem = some (ag, sz', some zv, by')) (hk : k.length = m) (hm : Nat.beq sz m = true) (hl : ∀ x ∈ ks, x.length = m)
    (hin : .own r (mapO g ks) ∈ H) : QOp P o E H (if k ∈ ks then g k else zv) :=
  ⟨nd ho (by intro c h; cases h), fun φ hA Q hQ => by
    obtain ⟨d, i, _, h2, _, _, h5, _⟩ := tyF_parts hz
    unfold execOp; rw [ho]; simp only [hA x _ hx, hA y _ hy, Instr.lookup, K.bind, k_underlying hp.h, getObj]
    refine ⟨_, hin, rfl, ?_⟩
    simp only [mapO, K.bind, K.pure, K]
    refine k_check hk hm ?_
    refine k_find hk hm hl (fun j hj => ?_) (fun hn => ?_)
    · rw [if_pos (List.mem_of_getElem? hj)] at hQ
      exact hQ
    · rw [if_neg hn] at hQ
      simp only [K.bind, k_zeroValue h2 h5]
      exact hQ⟩
end

section
variable {P : Program} {main : Bool} {L : Lg P main} {f : FuncId} {ro : Option Nat} {ds : Dz} {cs : List Frame} {n : Nat} {k : List Item} {H : Facts} {E Ek : Env}
/-- A fact is brought to the head. -/
theorem At.up {x : Fact} (A : Facts) {B : Facts} {todo : List Item} (h : At L f ro ds cs n E (x :: (A ++ B)) todo) : At L f ro ds cs n E (A ++ x :: B) todo :=
  h.weakH (Sub.of_perm List.perm_middle.symm)
/-- A loop whose rounds change what the goroutine goes beside. -/
theorem At.lpL {X : Type} {c : Code} (Li : X → Lg P main) (ks : List Nat) (mods : X → Env) (Hi : X → Facts) (μ : X → Nat) (x₀ : X) (hL : Li x₀ = L) (hk : selE ks E = some Ek)
    (h : ∀ x, (∀ y, μ y < μ x → At (Li y) f ro ds cs n (mods y ++ Ek) (Hi y) (.inLoop c :: k)) → At (Li x) f ro ds cs n (mods x ++ Ek) (Hi x) (.code c :: .inLoop c :: k))
    (hE : EnvIn E (mods x₀)) (hH : Sub (Hi x₀) H) : At L f ro ds cs n E H (.code (.loop c) :: k) := by
  have key : ∀ m x, μ x = m → At (Li x) f ro ds cs n (mods x ++ Ek) (Hi x) (.code c :: .inLoop c :: k) := by
    intro m
    induction m using Nat.strongRecOn with
    | _ m ih => exact fun x hx => h x fun y hy => At.inLoop (ih _ (hx ▸ hy) y rfl)
  subst hL
  exact At.loop1 (((key _ x₀ rfl).weakE (hE.app (selE_in hk)).look).weakH hH)
end

section
variable {P : Program} {Post : Value → World → Prop} {W₀ : World} {chs : List Nat} {Γ : List Script} {f : FuncId} {ro : Option Nat} {ds : Dz} {cs : List Frame} {n : Nat} {E : Env} {H : Facts} {todo : List Item}
theorem At.openC {c s : Nat} (h : At (mainLg P Post W₀ (c :: chs) Γ) f ro ds cs n E H todo) : At (mainLg P Post W₀ chs Γ) f ro ds cs n E (.own c (.chan 0 #[] false s s false) :: H) todo :=
  fun tmps hs hE => JJ.openC (h tmps hs hE)
/-- What stands of the world now may be asked. -/
theorem At.world (h : (∃ W, Holds H W) → At (mainLg P Post W₀ chs Γ) f ro ds cs n E H todo) : At (mainLg P Post W₀ chs Γ) f ro ds cs n E H todo := by
  intro tmps hn hE Γ₀ hΓ₀ F T gs w sl t hF hI hS h0
  exact h ⟨w, hF ▸ hI.holds 0 trivial⟩ tmps hn hE Γ₀ hΓ₀ F T gs w sl t hF hI hS h0
theorem At.closeAll (hΓ : ∀ s ∈ Γ, s = []) (h : At (mainLg P Post W₀ [] []) f ro ds cs n E H todo) : At (mainLg P Post W₀ chs Γ) f ro ds cs n E H todo :=
  fun tmps hs hE => JJ.closeAll hΓ (h tmps hs hE)
end
section
variable {P : Program} {main : Bool} {L : Lg P main} {f : FuncId} {ro : Option Nat} {ds : Dz} {cs : List Frame} {n : Nat} {k : List Item} {ops : Array Oper} {Hq H : Facts} {R : List Reg} {Ls : List Nat} {Fs : List Flo} {E : Env}
/-- A channel that may be made at any time. -/
theorem Pool.flc (i : Nat) {o : Oper} {d : Nat} {t : TypeId} (ho : ops[i]? = some o) (hop : o.op = .makeChan t (.const (.int .i64 0))) (hd : o.dst = some d) (hn : Nat.blt d n = true) (hr0 : readsOf ops o = []) (hw : wantE ops o [] = some true) (hsel : noSel o = true) (he : look E d = none) (hc : checkReg R Ls Fs ops i o = true)
    (hr : R.all (fun q => !(readsOf ops q.o).contains d) = true) [ht : ChI P t]
    (h : Pool L f ro ds cs n ops k Hq R Ls (⟨i, o, fun r => .chan (some r), .chan 0 #[] false 0 0 false⟩ :: Fs) E H) : Pool L f ro ds cs n ops k Hq R Ls Fs E H :=
  pool_flo (flo_l ho ⟨d, hd, hn⟩ hr0 hw hsel (l_makeChan hop)) hd he hc hr h
theorem floF_perm {listed : Array Bool} {ρ : Nat → Nat} {Fs Fs' : List Flo} (h : Fs.Perm Fs') : (floF listed ρ Fs).Perm (floF listed ρ Fs') := by
  induction h with
  | nil => exact .refl _
  | cons F h ih =>
    unfold floF
    split
    · exact ih.cons _
    · exact ih
  | swap F F' l =>
    unfold floF
    unfold floF
    split <;> split <;> first | exact .swap _ _ _ | exact .refl _
  | trans h1 h2 ih1 ih2 => exact ih1.trans ih2
theorem FStat.perm {Fs Fs' : List Flo} (h : Fs.Perm Fs') (SF : FStat P ops n Hq R Fs E) : FStat P ops n Hq R Fs' E :=
  ⟨fun G hG => SF.ok G (h.mem_iff.2 hG), fun G hG => SF.ne G (h.mem_iff.2 hG),
   (List.Perm.pairwise_iff (R := fun F F' : Flo => F.i ≠ F'.i ∧ ∀ t, F.o.dst = some t → F'.o.dst ≠ some t) (fun {x y} hxy => ⟨hxy.1.symm, fun t ht ht' => hxy.2 t ht' ht⟩) h).1 SF.nF, fun G hG => SF.env G (h.mem_iff.2 hG)⟩
theorem PInv.perm {Fs Fs' : List Flo} {listed : Array Bool} {tmps : Array Value} {ρ : Nat → Nat} (h : Fs.Perm Fs') (I : PInv ops n R Ls Fs E listed tmps ρ) : PInv ops n R Ls Fs' E listed tmps ρ :=
  ⟨I.size, I.lsz, fun i hi => (I.reg i hi).imp id (.imp id fun ⟨F, hF, e⟩ => ⟨F, h.mem_iff.1 hF, e⟩), I.ls, I.env, I.pend, fun F hF => I.flo F (h.mem_iff.2 hF)⟩
/-- A slice built, where it alone can come next. -/
theorem Pool.bs (i : Nat) {o : Oper} {d : Nat} {t e : TypeId} {len sz by_ : Nat} {ag : Bool} {z l : List Value} {parts : Array (Nat × Operand)} {ps : List (Nat × Value)} [hel : ElI P t e ag sz by_ z] (ho : ops[i]? = some o) (hdst : dstOk o.dst n = true) (hw : wantE ops o E = some true) (hd : o.dst = some d) (hop : o.op = .buildSlice t len parts) (hdn : downOk ops = true) (honly : onlyIn R Ls Fs ops [i] = true)
    (hlt : Nat.blt i ops.size = true) (hr : regd R Ls i = false) (hfl : flod Fs i = false) (hc : checkReg R Ls Fs ops i o = true) (hp : evP E parts.toList = some ps) (hlen : Nat.beq ps.length len = true) (hs : seqC sz 0 ps = some l) (hbig : Nat.ble (len * sz) 16777216 = true) (hq : Sub Hq H)
    (h : ∀ r, Pool L f ro ds cs n ops k Hq R (i :: Ls) Fs ((d, .slice (some ⟨r, 0, none⟩) len len) :: E) (.own r (.cells (List.toArray l) e (0, 0)) :: H)) : Pool L f ro ds cs n ops k Hq R Ls Fs E H := by
  refine Pool.lo i ho hdst hw (by unfold noSel; rw [hop]) hd hdn honly hlt hr hfl hc (l_buildSlice hop hp hlen hs hbig) ?_
  rintro _ _ ⟨r, rfl, rfl⟩
  exact ⟨hq.drop _, h r⟩
/-- A look into a map of which the pool itself has come to know. -/
theorem Pool.qlo (i : Nat) {o : Oper} {d : Nat} {v : Value} (ho : ops[i]? = some o) (hdst : dstOk o.dst n = true) (hw : wantE ops o E = some true) (hsel : noSel o = true) (hd : o.dst = some d) (hdn : downOk ops = true) (honly : onlyIn R Ls Fs ops [i] = true)
    (hlt : Nat.blt i ops.size = true) (hr : regd R Ls i = false) (hfl : flod Fs i = false) (hc : checkReg R Ls Fs ops i o = true) (hQ : QOp P o E H v) (hq : Sub Hq H)
    (h : Pool L f ro ds cs n ops k Hq R (i :: Ls) Fs ((d, v) :: E) H) : Pool L f ro ds cs n ops k Hq R Ls Fs E H := by
  refine Pool.lo i ho hdst hw hsel hd hdn honly hlt hr hfl hc hQ.lop ?_
  rintro _ _ ⟨rfl, rfl⟩
  exact ⟨hq, h⟩
theorem pool_rot4 {F1 F2 F3 F4 : Flo} (h : Pool L f ro ds cs n ops k Hq R Ls [F2, F3, F4, F1] E H) : Pool L f ro ds cs n ops k Hq R Ls [F1, F2, F3, F4] E H := by
  have hp : [F1, F2, F3, F4].Perm [F2, F3, F4, F1] := List.perm_append_comm (l₁ := [F1]) (l₂ := [F2, F3, F4])
  intro S SF hsub fuel t listed tmps ρ I hfuel
  exact L.weak _ _ _ (Sub.of_perm ((floF_perm hp.symm).append_right _)) (h S (SF.perm hp) hsub fuel t listed tmps ρ (I.perm hp) hfuel)
end

section
variable {P : Program} {main : Bool} {L : Lg P main} {f : FuncId} {ro : Option Nat} {ds : Dz} {cs : List Frame} {n : Nat} {k : List Item} {ops : Array Oper} {i : Nat} {rest : List Nat} {E : Env} {H H₀ : Facts} {o : Oper} {d : Nat}
/-- All of a list is appended to an empty slice that is not nil. -/
theorem At.appE {α : Type} {c : α → List Value} {sz : Nat} [he : Enc c sz] {xs : List α} {az : Array Operand} {ats : Array TypeId} {y z' : Operand} {t t' e e' : TypeId} {ag ag' : Bool} {sz₁ by_ sz' by_' b q cap' : Nat} {a' : Option Addr} {z z₂ : List Value} [hel : ElI P t e ag sz₁ by_ z] [hel' : ElI P t' e' ag' sz' by_' z₂]
    (ho : ops[i]? = some o) (hop : o.op = .call { callee := .builtin .append, args := az, argTypes := ats }) (hw : wantE ops o E = some true) (hd : o.dst = some d) (hn : Nat.blt d n = true) (has : az.toList = [y, z']) (hats : ats.toList = [t, t'])
    (hx : ev E y = some (.slice (some ⟨b, 0, none⟩) 0 0)) (hy : ev E z' = some (.slice a' q cap')) (hsz : sz₁ = sz) (hz : Nat.beq z.length sz = true) (hby : Nat.ble by_ 1000 = true) (hb0 : Nat.beq by_ 0 = false)
    (hr : Rd H a' (xs.flatMap c)) (hq : xs.length = q) (h0 : 0 < xs.length) (hsm : xs.length ≤ 100000)
    (h : ∀ v' sf', Sl c e v' xs sf' → At L f ro ds cs n ((d, v') :: E) (sf' ++ H) (.inRegion ops rest :: k)) : At L f ro ds cs n E (.own b (.cells (List.toArray []) e (0, 0)) :: H) (.inRegion ops (i :: rest) :: k) := by
  subst hq
  subst hsz
  refine At.app (vs := []) (ws := xs.flatMap c) (m := 0) (q := xs.length) (sf := [.own b (.cells (List.toArray []) e (0, 0))]) (H₀ := H) ho hop hw hd hn has hats hx hy hz hby hb0 (IsSl.own b 0 0 [] [] (by simp) (by simp) (Nat.le_refl _)) (.refl _) (hr.more ((Sub.refl _).drop _)) ?_ ?_ h0 (by omega) fun v' sf' hs' => ?_
  · exact flat_len xs
  · intro v hv
    obtain ⟨x, _, hv⟩ := List.mem_flatMap.1 hv
    exact he.one x v hv
  · refine h v' sf' ?_
    rw [List.nil_append, Nat.zero_add] at hs'
    exact hs'
end
end Go.Gx
end

section
/-
  LOGIC G, second half, part g: an own map that is ranged over; clear.
-/
set_option linter.unusedSimpArgs false
set_option linter.unusedVariables false
namespace Go.Gx
open Go Go.Conc

section
variable {P : Program} {H : Facts} {E : Env} {o : Oper}

theorem l_range {r : Nat} {g : List Int → Value} {ks : List (List Int)} {t key elem : TypeId} {x : Operand} [hp : MpI P t key elem] (ho : o.op = .range t x) (hx : ev E x = some (.map (some r))) (hin : .own r (mapO g ks) ∈ H) :
    LOp P o E H (fun v H' => ∃ q, v = .pointer (some ⟨q, 0, none⟩) ∧ H' = .own q (.mapIter (some r) ks.length #[] ks.length) :: H) :=
  ⟨nd ho (by intro c h; cases h), fun φ hA Q hQ => by
    unfold execOp; rw [ho]; simp only [hA x _ hx, Instr.range, K.bind, k_underlying hp.h, getObj]
    refine ⟨_, hin, rfl, ?_⟩
    simp only [mapO, K.bind, K.pure, K, newObj]
    intro q
    exact hQ _ _ ⟨q, rfl, rfl⟩⟩
theorem ents_mem {g : List Int → Value} {ks : List (List Int)} {e : MapEntry} (h : e ∈ ents g ks) : ∃ k, ks[e.born]? = some k ∧ e = { key := .agg (List.toArray (ints k)), val := g k, born := e.born } := by
  unfold ents at h
  obtain ⟨⟨k, i⟩, hk, rfl⟩ := List.mem_map.1 h
  have := List.mem_zipIdx' hk
  exact ⟨k, by simp [this], rfl⟩
theorem setF_some : ∀ {H : Facts} {j : Nat} {f g : Fact}, nthF H j = some f → ∃ H', setF H j g = some H'
  | f :: H, 0, _, g, _ => ⟨_, rfl⟩
  | x :: H, j + 1, f, g, h => by
    obtain ⟨H', e⟩ := setF_some (H := H) (j := j) (g := g) h
    exact ⟨x :: H', by unfold setF; rw [e]⟩
/-- One step of a range over an own map: an entry that has not come yet, or the end. -/
theorem l_next {r q : Nat} {g : List Int → Value} {ks : List (List Int)} {seen : Array Nat} {x : Operand} (j : Nat) (ho : o.op = .next x false) (hx : ev E x = some (.pointer (some ⟨q, 0, none⟩))) (hin : .own r (mapO g ks) ∈ H)
    (hit : nthF H j = some (.own q (.mapIter (some r) ks.length seen ks.length))) :
    LOp P o E H (fun v H' => (∃ (i : Nat) (k : List Int), ks[i]? = some k ∧ i ∉ seen ∧ v = .tuple #[.bool true, .agg (List.toArray (ints k)), g k] ∧ setF H j (.own q (.mapIter (some r) ks.length (seen.push i) ks.length)) = some H') ∨
      ((∀ i < ks.length, i ∈ seen) ∧ v = .tuple #[.bool false] ∧ H' = H)) :=
  ⟨nd ho (by intro c h; cases h), fun φ hA Q hQ => by
    unfold execOp; rw [ho]; simp only [hA x _ hx, Instr.next, K.bind, getObj]
    refine ⟨_, nthF_mem hit, rfl, ?_⟩
    refine ⟨_, hin, rfl, ?_⟩
    simp only [mapO, Sem.bind]
    have hbn : ∀ e ∈ List.toArray (ents g ks), e.born < ks.length := by
      intro e he
      obtain ⟨k, hk, _⟩ := ents_mem (by simpa using he)
      exact (List.getElem?_eq_some_iff.1 hk).1
    have hold : ((List.toArray (ents g ks)).filter fun e => !seen.contains e.born).filter (fun e => decide (e.born < ks.length)) = (List.toArray (ents g ks)).filter fun e => !seen.contains e.born := by
      rw [Array.filter_eq_self]
      intro e he
      simpa using hbn e (Array.mem_filter.1 he).1
    have hnew : ((List.toArray (ents g ks)).filter fun e => !seen.contains e.born).filter (fun e => decide (e.born ≥ ks.length)) = #[] := by
      rw [Array.filter_eq_empty_iff]
      intro e he
      have := hbn e (Array.mem_filter.1 he).1
      simp; omega
    have hcond : (!seen.isEmpty && !(List.toArray (ents g ks)).isEmpty && (List.toArray (ents g ks)).all (fun e => decide (e.born ≥ ks.length))) = false := by
      cases hks : ents g ks with
      | nil => simp
      | cons e es =>
        have := hbn e (by rw [hks]; simp)
        simp; intro _ h; omega
    rw [hcond]
    simp only [Bool.false_eq_true, if_false, K.pure]
    rw [hold, hnew]
    generalize hl : ((List.toArray (ents g ks)).filter fun e => !seen.contains e.born) = left
    have hleft : ∀ e ∈ left, ∃ k, ks[e.born]? = some k ∧ e.born ∉ seen ∧ e.key = .agg (List.toArray (ints k)) ∧ e.val = g k := by
      intro e he
      rw [← hl] at he
      obtain ⟨h1, h2⟩ := Array.mem_filter.1 he
      obtain ⟨k, hk, e1⟩ := ents_mem (by simpa using h1)
      exact ⟨k, hk, by simpa using h2, by rw [e1], by rw [e1]⟩
    by_cases hem : left = #[]
    · subst hem
      simp only [Array.isEmpty_empty, if_true, Array.append_empty, Array.map_empty, choose]
      show K P (.choose (.mapNext 1) _) _ _
      rintro a (⟨_, rfl⟩ | ⟨hf, _⟩)
      · show K P (Sem.pure _) _ _
        refine hQ _ _ (.inr ⟨fun i hi => ?_, rfl, rfl⟩)
        have hin2 : (⟨.agg (List.toArray (ints ks[i])), g ks[i], i⟩ : MapEntry) ∈ List.toArray (ents g ks) := by
          have := ents_get (g := g) (List.getElem?_eq_getElem hi)
          exact by simpa using List.mem_of_getElem? this
        by_cases hs : i ∈ seen
        · exact hs
        · exfalso
          have : (⟨.agg (List.toArray (ints ks[i])), g ks[i], i⟩ : MapEntry) ∈ (List.toArray (ents g ks)).filter fun e => !seen.contains e.born := Array.mem_filter.2 ⟨hin2, by simpa using hs⟩
          rw [hl] at this
          simp at this
      · cases hf
    · have hne : left.isEmpty = false := by
        cases h : left.isEmpty with
        | false => rfl
        | true => exact absurd (by simpa using h) hem
      rw [hne]
      simp only [Bool.false_eq_true, if_false, Array.append_empty, Array.empty_append, choose, Array.size_map]
      have hsz : 0 < left.size := by
        rcases Nat.eq_zero_or_pos left.size with h | h
        · exact absurd (Array.eq_empty_of_size_eq_zero h) hem
        · exact h
      show K P (.choose (.mapNext left.size) _) _ _
      intro a ha
      have hlt : a < left.size := by
        rcases ha with ⟨_, rfl⟩ | ⟨_, t, rfl⟩
        · exact hsz
        · exact Nat.mod_lt _ hsz
      obtain ⟨k, hk, hns, hkey, hval⟩ := hleft left[a] (Array.getElem_mem hlt)
      have hget : (left.map some)[a]? = some (some left[a]) := by simp [hlt]
      simp only [Sem.bind, K.pure, hget, setObj]
      obtain ⟨H', hH'⟩ := setF_some (g := .own q (.mapIter (some r) ks.length (seen.push left[a].born) ks.length)) hit
      refine ⟨_, H', rfl, rfl, setF_upd hit hH', ?_⟩
      refine hQ _ _ (.inl ⟨_, k, hk, hns, ?_, hH'⟩)
      rw [hkey, hval]⟩
/-- The entry at which a range stands. -/
theorem q_entry {r q i : Nat} {g : List Int → Value} {ks : List (List Int)} {k : List Int} {seen : Array Nat} {x : Operand} (ho : o.op = .entry x) (hx : ev E x = some (.pointer (some ⟨q, 0, none⟩))) (hin : .own r (mapO g ks) ∈ H)
    (hit : .own q (.mapIter (some r) ks.length (seen.push i) ks.length) ∈ H) (hk : ks[i]? = some k) : QOp P o E H (.tuple #[.agg (List.toArray (ints k)), g k]) :=
  ⟨nd ho (by intro c h; cases h), fun φ hA Q hQ => by
    unfold execOp; rw [ho]; simp only [hA x _ hx, Instr.entry, K.bind, getObj]
    refine ⟨_, hit, rfl, ?_⟩
    have hb : (seen.push i).back? = some i := by simp
    simp only [K, hb, K.bind]
    refine ⟨_, hin, rfl, ?_⟩
    simp only [mapO, K, bne_self_eq_false, Bool.false_eq_true, if_false]
    have hf : (List.toArray (ents g ks)).find? (fun e => e.born == i) = some { key := .agg (List.toArray (ints k)), val := g k, born := i } := by
      rw [List.find?_toArray]
      have hget := ents_get (g := g) hk
      have hlt := (List.getElem?_eq_some_iff.1 hget).1
      rw [List.find?_eq_some_iff_getElem]
      refine ⟨by simp, i, hlt, (List.getElem?_eq_some_iff.1 hget).2, fun j hj => ?_⟩
      have hjl : j < ks.length := by
        have : (ents g ks).length = ks.length := by simp [ents]
        omega
      have := ents_get (g := g) (List.getElem?_eq_getElem hjl)
      have e := (List.getElem?_eq_some_iff.1 this).2
      simp [e]; omega
    rw [hf]
    simp only [K.pure]
    exact hQ⟩
theorem l_clear (j : Nat) {az : Array Operand} {ats : Array TypeId} {x : Operand} {t e T : TypeId} {ag : Bool} {sz by_ : Nat} {z l l' vs : List Value} {b off n cap : Nat} {H' : Facts} [hel : ElI P t e ag sz by_ z]
    (ho : o.op = .call { callee := .builtin .clear, args := az, argTypes := ats }) (has : az.toList = [x]) (hat : ats[0]? = some t) (hx : ev E x = some (.slice (some ⟨b, off, none⟩) (n + 1) cap))
    (hf : nthF H j = some (.own b (.cells (List.toArray l) T (0, 0)))) (hv : (Builtin.zeroCells (List.toArray z) (n + 1)).toList = vs) (h1c : vs.all (·.oneCell') = true) (hs : setC l off vs = some l') (hH : setF H j (.own b (.cells (List.toArray l') T (0, 0))) = some H') :
    LOp P o E H (fun v H'' => v = .tuple #[] ∧ H'' = H') :=
  ⟨nd ho (by intro c h; cases h), fun φ hA Q hQ => by
    obtain ⟨zv, h1, h2, h3⟩ := hel.parts
    obtain ⟨d, i, _, h4, _, h6, h7, h8⟩ := tyF_parts h2
    have e0 : az.map φ = #[.slice (some ⟨b, off, none⟩) (n + 1) cap] := by
      apply Array.ext'
      simp [has, hA x _ hx]
    unfold execOp; rw [ho]; simp only [resolve, K.bind, K.pure, invoke, builtin, Builtin.clear_, e0, hat]
    have a0 : (#[Value.slice (some ⟨b, off, none⟩) (n + 1) cap] : Array Value)[0]? = some (Value.slice (some ⟨b, off, none⟩) (n + 1) cap) := rfl
    simp only [a0]
    rw [K.bind, k_underlying h1]
    simp only
    rw [K.bind, k_zeroValue h4 h7, K.bind]
    rw [cellsV_eq h3, hv]
    obtain ⟨es, hle⟩ := setC_eq hs
    subst es
    refine k_storeCells (T := T) vs 0 l.toArray H H' (by simpa using hle) (fun v hv => List.all_eq_true.1 h1c v hv) ?_ ?_
    · have := foldl_splice vs l off hle
      simp only [Nat.add_zero]
      rw [this]
      exact setF_upd hf hH
    · exact hQ _ _ ⟨rfl, rfl⟩⟩
end
section
variable {P : Program} {main : Bool} {L : Lg P main} {f : FuncId} {ro : Option Nat} {ds : Dz} {cs : List Frame} {n : Nat} {k : List Item} {H : Facts} {E : Env} {ops : Array Oper}
theorem At.nextM (j : Nat) {i : Nat} {rest : List Nat} {o : Oper} {d r q : Nat} {g : List Int → Value} {ks : List (List Int)} {seen : Array Nat} {x : Operand} {H' : Nat → Facts} (ho : ops[i]? = some o) (hw : wantE ops o E = some true) (hd : o.dst = some d) (hn : Nat.blt d n = true)
    (hop : o.op = .next x false) (hx : ev E x = some (.pointer (some ⟨q, 0, none⟩))) (hit : nthF H j = some (.own q (.mapIter (some r) ks.length seen ks.length))) (hin : .own r (mapO g ks) ∈ H) (hH : ∀ i, setF H j (.own q (.mapIter (some r) ks.length (seen.push i) ks.length)) = some (H' i))
    (h1 : ∀ (e : Nat) (y : List Int), ks[e]? = some y → e ∉ seen → At L f ro ds cs n ((d, .tuple #[.bool true, .agg (List.toArray (ints y)), g y]) :: E) (H' e) (.inRegion ops rest :: k))
    (h2 : (∀ e < ks.length, e ∈ seen) → At L f ro ds cs n ((d, .tuple #[.bool false]) :: E) H (.inRegion ops rest :: k)) : At L f ro ds cs n E H (.inRegion ops (i :: rest) :: k) :=
  At.l ho hw hd hn (l_next j hop hx hin hit) fun v H'' hp => by
    rcases hp with ⟨e, y, hy, hns, rfl, hs⟩ | ⟨hall, rfl, rfl⟩
    · rw [hH e] at hs
      cases hs
      exact h1 e y hy hns
    · exact h2 hall
end
end Go.Gx
end

section
/-
  LOGIC G, second half, part h: a pool whose registered operations have all come up: what was asked of may change.
-/
set_option linter.unusedSimpArgs false
set_option linter.unusedVariables false
namespace Go.Gx
open Go Go.Conc

section
variable {P : Program} {H : Facts} {E : Env} {o : Oper}
theorem q_shl {t t' : TypeId} {x y : Operand} {yk : IntKind} {a : Int} {i : Nat} (ho : o.op = .binOp .shl t x y t') (hx : ev E x = some (.int .i64 a)) (hy : ev E y = some (.int yk (i : Int))) (h : i ≤ 62) (hr : InI (a * 2 ^ i)) : QOp P o E H (.int .i64 (a * 2 ^ i)) :=
  ⟨nd ho (by intro c h; cases h), fun φ hA Q hQ => by
    unfold execOp; rw [ho]; simp only [hA x _ hx, hA y _ hy, eqGuard, binOp, Op.shift, K.bind, K.pure]
    have e : min (Int.toNat (i : Int)) (IntKind.bits .i64) = i := by simp [IntKind.bits]; omega
    rw [if_neg (show ¬ (i : Int) < 0 from by omega), e, wrap_in hr]
    exact hQ⟩
theorem q_shr {t t' : TypeId} {x y : Operand} {k yk : IntKind} {m i : Nat} (ho : o.op = .binOp .shr t x y t') (hx : ev E x = some (.int k (m : Int))) (hy : ev E y = some (.int yk (i : Int))) (h : i ≤ k.bits) : QOp P o E H (.int k ((m / 2 ^ i : Nat) : Int)) :=
  ⟨nd ho (by intro c h; cases h), fun φ hA Q hQ => by
    unfold execOp; rw [ho]; simp only [hA x _ hx, hA y _ hy, eqGuard, binOp, Op.shift, K.bind, K.pure]
    have e : min (Int.toNat (i : Int)) (IntKind.bits k) = i := by rw [Int.toNat_natCast]; omega
    rw [if_neg (show ¬ (i : Int) < 0 from by omega), e]
    have e2 : Int.fdiv (m : Int) (2 ^ i) = ((m / 2 ^ i : Nat) : Int) := by
      rw [Int.natCast_ediv]
      rw [Int.fdiv_eq_ediv_of_nonneg _ (by exact Int.le_of_lt (Int.pow_pos (by omega)))]
      simp
    rw [e2]
    exact hQ⟩
theorem q_and1 {t t' : TypeId} {x y : Operand} {m : Nat} (ho : o.op = .binOp .and t x y t') (hx : ev E x = some (.int .i64 (m : Int))) (hy : ev E y = some (.int .i64 1)) : QOp P o E H (.int .i64 ((m % 2 : Nat) : Int)) :=
  ⟨nd ho (by intro c h; cases h), fun φ hA Q hQ => by
    unfold execOp; rw [ho]; simp only [hA x _ hx, hA y _ hy, eqGuard, binOp, Op.intBits, K.bind, K.pure]
    have e : (BitVec.ofInt (IntKind.bits .i64) (m : Int) &&& BitVec.ofInt (IntKind.bits .i64) 1).toNat = m % 2 := by
      simp only [IntKind.bits, BitVec.ofInt_natCast]
      show (BitVec.ofNat 64 m &&& 1#64).toNat = m % 2
      rw [BitVec.toNat_and]
      simp
    rw [e, wrap_in (by have := Nat.mod_lt m (show 0 < 2 by omega); omega)]
    exact hQ⟩
end
section
variable {P : Program} {main : Bool} {L : Lg P main} {f : FuncId} {ro : Option Nat} {ds : Dz} {cs : List Frame} {n : Nat} {k : List Item} {ops : Array Oper} {Hq Hq' H : Facts} {R : List Reg} {Ls : List Nat} {E : Env}

/-- All that is registered comes ahead of the one that alone can come next: from there on other knowledge may be asked of. -/
theorem Pool.flush (i₀ : Nat) {o₀ : Oper} (hd : downOk ops = true) (ho₀ : ops[i₀]? = some o₀) (honly : onlyIn R Ls [] ops [i₀] = true) (hl₀ : Nat.blt i₀ ops.size = true) (hf₀ : regd R Ls i₀ = false) (hall : R.all (fun q => (predsOf o₀).contains q.i) = true) (hq : Sub Hq' H)
    (h : Pool L f ro ds cs n ops k Hq' [] (R.map (·.i) ++ Ls) [] E H) : Pool L f ro ds cs n ops k Hq R Ls [] E H := by
  intro S SF hsub fuel
  have un0 : ∀ {listed tmps ρ}, PInv ops n R Ls [] E listed tmps ρ → listed.getD i₀ false = false := fun {listed tmps ρ} I => by
    cases hx : listed.getD i₀ false with
    | false => rfl
    | true =>
      exfalso
      rcases I.reg i₀ hx with h | h | h
      · rw [regd_spec.2 (.inl h)] at hf₀; cases hf₀
      · rw [regd_spec.2 (.inr h)] at hf₀; cases hf₀
      · obtain ⟨_, h, _⟩ := h; cases h
  induction fuel with
  | zero =>
    intro t listed tmps ρ I hfuel
    exfalso
    have := unl_set I.lsz (blt_lt hl₀) (un0 I)
    omega
  | succ fuel ih =>
    intro t listed tmps ρ I hfuel
    have hne : Region.ready .any ops listed ≠ [] := ready_ne I.lsz hd (blt_lt hl₀) (un0 I)
    obtain ⟨i, m, t', hm, hi, hgo, hun⟩ := go_next (fuel + 1) t I.lsz hfuel hne
    obtain rfl : m = fuel := by omega
    obtain ⟨h1, h2, o, ho, hp⟩ := ready_spec I.lsz hi
    have honly' := honly
    unfold onlyIn at honly'
    rw [List.all_eq_true] at honly'
    have hcase := honly' i (by simpa using h1)
    simp only [Bool.or_eq_true, List.contains_eq_mem, decide_eq_true_eq] at hcase
    rcases hcase with ((hcase | hcase) | hcase) | hcase
    · obtain rfl : i = i₀ := by simpa using hcase
      rw [ho₀] at ho
      obtain rfl := Option.some.inj ho
      have hR : ∀ r ∈ R, listed.getD r.i false = true := fun r hr => hp _ (by
        have := List.all_eq_true.1 hall r hr
        simpa using this)
      refine h ⟨by simp, by simp, by simp, by simp⟩ ⟨by simp, by simp, .nil, by simp⟩ hq _ t listed tmps ρ ⟨I.size, I.lsz, ?_, ?_, ?_, by simp, by simp⟩ hfuel
      · intro j hj
        refine .inr (.inl ?_)
        rcases I.reg j hj with ⟨r, hr, rfl⟩ | hl | ⟨_, hF, _⟩
        · exact List.mem_append_left _ (List.mem_map_of_mem hr)
        · exact List.mem_append_right _ hl
        · cases hF
      · intro j hj
        rcases List.mem_append.1 hj with hj | hj
        · obtain ⟨r, hr, rfl⟩ := List.mem_map.1 hj
          exact hR r hr
        · exact I.ls j hj
      · intro t u hu
        rcases I.env t u hu with h | ⟨q, hq, q1, _⟩
        · exact .inl h
        · rw [hR q hq] at q1; cases q1
    · rw [hgo]
      rcases regd_spec.1 hcase with ⟨r, hr', rfl⟩ | hl
      · have hro : r.o = o := by
          have := (S.ok r hr').get
          rw [ho] at this
          exact (Option.some.inj this).symm
        subst hro
        obtain ⟨I', hfl⟩ := I.exec S SF hr' h2 hp
        refine (S.ok r hr').go (hsub.trans (Sub.append_left _ _)) I.size (I.found S hr' h2 hp) ?_
        rw [← hfl]
        exact ih _ _ _ _ I' hun
      · rw [I.ls i hl] at h2; cases h2
    · obtain ⟨F, hF, rfl⟩ := flod_spec.1 hcase
      cases hF
    · rw [ho] at hcase
      simp only [List.any_eq_true, Bool.and_eq_true, Bool.not_eq_true'] at hcase
      obtain ⟨p, hpm, hpr, hpf⟩ := hcase
      rcases I.reg p (hp p hpm) with h | h | h
      · rw [regd_spec.2 (.inl h)] at hpr; cases hpr
      · rw [regd_spec.2 (.inr h)] at hpr; cases hpr
      · obtain ⟨_, h, _⟩ := h; cases h
variable {Fs : List Flo} {o : Oper} {d : Nat}
/-- Two loud operations may come next. -/
theorem Pool.two (i j : Nat) (hdn : downOk ops = true) (honly : onlyIn R Ls Fs ops [i, j] = true) (hlt : Nat.blt i ops.size = true) (hr : regd R Ls i = false) (hfl : flod Fs i = false)
    (h1 : Loud L f ro ds cs n ops k Hq R Ls Fs E H i) (h2 : Loud L f ro ds cs n ops k Hq R Ls Fs E H j) : Pool L f ro ds cs n ops k Hq R Ls Fs E H := by
  refine pool_any [i, j] hdn honly (blt_lt hlt) hr hfl fun l hl => ?_
  rcases List.mem_cons.1 hl with rfl | hl
  · exact h1
  · obtain rfl : l = j := by simpa using hl
    exact h2
/-- One loud operation can come next. -/
theorem Pool.one (i : Nat) (hdn : downOk ops = true) (honly : onlyIn R Ls Fs ops [i] = true) (hlt : Nat.blt i ops.size = true) (hr : regd R Ls i = false) (hfl : flod Fs i = false)
    (h1 : Loud L f ro ds cs n ops k Hq R Ls Fs E H i) : Pool L f ro ds cs n ops k Hq R Ls Fs E H := by
  refine pool_any [i] hdn honly (blt_lt hlt) hr hfl fun l hl => ?_
  obtain rfl : l = i := by simpa using hl
  exact h1
/-- A call that makes memory. -/
theorem loud_gr {i : Nat} {x : Operand} {az : Array Operand} {ats : Array TypeId} {g : FuncId} {first cap : List Value} {vs args : List Value} {Q : Value → Facts → Prop} (ho : ops[i]? = some o) (hdst : dstOk o.dst n = true) (hw : wantE ops o E = some true) (hd : o.dst = some d) (hop : o.op = .call { callee := .value x, args := az, argTypes := ats })
    (hc : checkReg R Ls Fs ops i o = true)
    (hx : ev E x = some (.func (.func g) ⟨first⟩ ⟨cap⟩)) (has : evs E az.toList = some vs) (hcat : cat3 first vs cap = some args) [hb : HB P g] (hsp : ∀ H', Sub H H' → Grows L g (List.toArray args) H' Q) (hq : Sub Hq H)
    (h : ∀ v sf, Q v sf → Pool L f ro ds cs n ops k Hq R (i :: Ls) Fs ((d, v) :: E) (sf ++ H)) : Loud L f ro ds cs n ops k Hq R Ls Fs E H i := by
  refine loud_c (Post := fun v H₁ => ∃ sf, Q v sf ∧ H₁ = sf ++ H) ho hw hop hdst hc hx has hb.h (fun F => ?_) ?_
  · rw [cat3_eq hcat]
    intro c cs hk
    refine hsp (F ++ H) (Sub.append_left F H) c cs ?_
    rintro v H' ⟨sf, hQ, rfl⟩
    refine L.weak _ _ _ (Sub.of_perm ?_) (hk v (F ++ (sf ++ H)) ⟨_, rfl, sf, hQ, rfl⟩)
    rw [← List.append_assoc, ← List.append_assoc]
    exact List.perm_append_comm.append_right _
  · rintro v H' ⟨sf, hQ, rfl⟩
    rw [hd]
    exact ⟨hq.trans (Sub.append_left sf H), h v sf hQ⟩
theorem Loud.weakH {i : Nat} {H' : Facts} (h : Loud L f ro ds cs n ops k Hq R Ls Fs E H' i) (hs : Sub H' H) : Loud L f ro ds cs n ops k Hq R Ls Fs E H i := by
  obtain ⟨o, Post, h1, h2, h3, h4, h5⟩ := h
  exact ⟨o, Post, h1, h2, h3, fun F rest tmps ht hr hn => L.weak _ _ _ (Sub.appL F hs) (h4 F rest tmps ht hr hn), h5⟩
theorem loud_app {i : Nat} {sf H₀ : Facts} {az : Array Operand} {ats : Array TypeId} {x y : Operand} {t t' e e' : TypeId} {ag ag' : Bool} {sz by_ sz' by_' : Nat} {z z' vs ws : List Value} {v : Value} {a' : Option Addr} {m q cap' : Nat} [hel : ElI P t e ag sz by_ z] [hel' : ElI P t' e' ag' sz' by_' z']
    (ho : ops[i]? = some o) (hdst : dstOk o.dst n = true) (hop : o.op = .call { callee := .builtin .append, args := az, argTypes := ats }) (hw : wantE ops o E = some true) (hsel : noSel o = true) (hd : o.dst = some d) (hc : checkReg R Ls Fs ops i o = true) (has : az.toList = [x, y]) (hats : ats.toList = [t, t'])
    (hx : ev E x = some v) (hy : ev E y = some (.slice a' q cap')) (hz : Nat.beq z.length sz = true) (hby : Nat.ble by_ 1000 = true) (hb0 : Nat.beq by_ 0 = false)
    (hs : IsSl sz e v vs m sf) (hp : (sf ++ H₀).Perm H) (hr' : Rd H a' ws) (hl' : ws.length = q * sz) (h1c : ∀ v ∈ ws, v.oneCell' = true) (hq : 0 < q ∨ ∃ p m c, v = .slice (some p) m c) (hsm : m + q ≤ 100000) (hqs : Sub Hq H₀)
    (h : ∀ v' sf', IsSl sz e v' (vs ++ ws) (m + q) sf' → Pool L f ro ds cs n ops k Hq R (i :: Ls) Fs ((d, v') :: E) (sf' ++ H₀)) : Loud L f ro ds cs n ops k Hq R Ls Fs E H i := by
  have hat : ats[0]? = some t := by rw [← Array.getElem?_toList, hats]; rfl
  have hat' : ats[1]? = some t' := by rw [← Array.getElem?_toList, hats]; rfl
  refine Loud.weakH ?_ (Sub.of_perm hp)
  have hrr : Rd (sf ++ H₀) a' ws := hr'.more (Sub.of_perm hp.symm)
  have hz' := Nat.eq_of_beq_eq_true hz
  have hby' := Nat.le_of_ble_eq_true hby
  have hb0' : by_ ≠ 0 := fun e => by subst e; cases hb0
  cases hs with
  | nil =>
    have hq : 0 < q := by
      rcases hq with h | ⟨_, _, _, h⟩
      · exact h
      · cases h
    refine loud_l ho hw hdst hc hsel (l_appG (vs := []) hop has hat hat' hx hy (.inl rfl) (by simp) hrr hl' (by omega) hsm hby' hb0') ?_
    rintro _ _ ⟨r, c, rs, rfl, hge, hrl, rfl⟩
    rw [hd]
    exact ⟨(hqs.drop _), h _ _ (.own r c (0 + q) ([] ++ ws) rs (by simpa using hl') (by rw [List.length_append, hrl, hz']; simp only [List.nil_append, hl', Nat.zero_add] at hge ⊢; rw [← Nat.add_mul]; congr 1; omega) (by omega))⟩
  | own b cap _ _ rs hl hc' hm =>
    by_cases hroom : m + q ≤ cap
    · refine loud_l ho hw hdst hc hsel (l_appI 0 hop has hat hat' hx hy rfl hl hc' hrr hl' h1c hroom rfl) ?_
      rintro _ _ ⟨rfl, rfl⟩
      rw [hd]
      refine ⟨hqs.drop _, h _ _ (.own b cap (m + q) (vs ++ ws) (rs.drop (q * sz)) (by rw [List.length_append, hl, hl', Nat.add_mul]) ?_ hroom)⟩
      have hle : (m + q) * sz ≤ cap * sz := Nat.mul_le_mul_right _ hroom
      rw [Nat.add_mul] at hle
      rw [List.length_append] at hc'
      simp only [List.length_append, List.length_drop, hl']
      omega
    · refine loud_l ho hw hdst hc hsel (l_appG (vs := vs) hop has hat hat' hx hy (.inr ⟨b, 0, rfl, cells_own (List.mem_cons_self ..) (by simp)⟩) hl hrr hl' (by omega) hsm hby' hb0') ?_
      rintro _ _ ⟨r, c, rs', rfl, hge, hrl, rfl⟩
      rw [hd]
      refine ⟨(hqs.drop _).drop _, Pool.weakH (h _ _ (.own r c (m + q) (vs ++ ws) rs' (by rw [List.length_append, hl, hl', Nat.add_mul]) ?_ hge)) (Sub.cons _ (Sub.tail _ _)) (hqs.drop _)⟩
      rw [List.length_append, hrl, hz', List.length_append, hl, hl', ← Nat.add_mul, ← Nat.add_mul]
      congr 1
      omega
/-- One element is appended, in a pool where other operations may come as well. -/
theorem loud_push {α : Type} {c : α → List Value} {sz : Nat} [he : Enc c sz] {x : α} {xs : List α} {i : Nat} (j q : Nat) {sf H₀ lit : Facts} {az : Array Operand} {ats : Array TypeId} {y z' : Operand} {t t' e e' T' : TypeId} {ag ag' : Bool} {sz₁ by_ sz' by_' b' cap' : Nat} {z z₂ l : List Value} {v : Value} {fr : Nat × Nat} [hel : ElI P t e ag sz₁ by_ z] [hel' : ElI P t' e' ag' sz' by_' z₂]
    (ho : ops[i]? = some o) (hdst : dstOk o.dst n = true) (hop : o.op = .call { callee := .builtin .append, args := az, argTypes := ats }) (hw : wantE ops o E = some true) (hsel : noSel o = true) (hd : o.dst = some d) (hc : checkReg R Ls Fs ops i o = true) (has : az.toList = [y, z']) (hats : ats.toList = [t, t'])
    (hx : ev E y = some v) (hy : ev E z' = some (.slice (some ⟨b', 0, none⟩) 1 cap')) (hsz : sz₁ = sz) (hsz' : sz' = sz) (hz : Nat.beq z.length sz = true) (hby : Nat.ble by_ 1000 = true) (hb0 : Nat.beq by_ 0 = false)
    (hs : Sl c e v xs sf) (hH : splitF q H = some (lit, sf ++ H₀)) (hf : nthF lit j = some (.own b' (.cells (List.toArray l) T' fr))) (hl : l = c x) (hqs : Sub Hq (lit ++ H₀)) (hsm : xs.length < 100000)
    (h : ∀ v' sf', Sl c e v' (xs ++ [x]) sf' → Pool L f ro ds cs n ops k Hq R (i :: Ls) Fs ((d, v') :: E) (joinF lit (sf' ++ H₀))) : Loud L f ro ds cs n ops k Hq R Ls Fs E H i := by
  subst hl
  subst hsz
  subst hsz'
  have eH := splitF_eq hH
  have hrd : Rd H (some ⟨b', 0, none⟩) (c x) := by
    rw [eH]
    exact (rd_own j hf rfl).more (Sub.appR _ (Sub.refl _))
  refine loud_app (H₀ := lit ++ H₀) ho hdst hop hw hsel hd hc has hats hx hy hz hby hb0 hs ?_ hrd (by rw [he.len]; simp) (he.one x) (.inl (by omega)) (by omega) hqs fun v' sf' hs' => ?_
  · rw [eH, ← List.append_assoc, ← List.append_assoc]
    exact List.perm_append_comm.append_right _
  · refine Pool.weakH (h v' sf' ?_) (Sub.of_perm ?_) ?_
    · unfold Sl
      simpa using hs'
    · rw [joinF_eq, ← List.append_assoc, ← List.append_assoc]
      exact List.perm_append_comm.append_right _
    · rw [joinF_eq]
      exact hqs.trans (Sub.appL _ (Sub.append_left _ _))
/-- A slice built. -/
theorem loud_bs {i : Nat} {t e : TypeId} {len sz by_ : Nat} {ag : Bool} {z l : List Value} {parts : Array (Nat × Operand)} {ps : List (Nat × Value)} [hel : ElI P t e ag sz by_ z] (ho : ops[i]? = some o) (hdst : dstOk o.dst n = true) (hw : wantE ops o E = some true) (hd : o.dst = some d) (hop : o.op = .buildSlice t len parts)
    (hc : checkReg R Ls Fs ops i o = true) (hp : evP E parts.toList = some ps) (hlen : Nat.beq ps.length len = true) (hs : seqC sz 0 ps = some l) (hbig : Nat.ble (len * sz) 16777216 = true) (hq : Sub Hq H)
    (h : ∀ r, Pool L f ro ds cs n ops k Hq R (i :: Ls) Fs ((d, .slice (some ⟨r, 0, none⟩) len len) :: E) (.own r (.cells (List.toArray l) e (0, 0)) :: H)) : Loud L f ro ds cs n ops k Hq R Ls Fs E H i := by
  refine loud_l ho hw hdst hc (by unfold noSel; rw [hop]) (l_buildSlice hop hp hlen hs hbig) ?_
  rintro _ _ ⟨r, rfl, rfl⟩
  rw [hd]
  exact ⟨hq.drop _, h r⟩
end
end Go.Gx
end

section
/-
  LOGIC G, second half, part i: equality of truths.
-/
set_option linter.unusedSimpArgs false
set_option linter.unusedVariables false
namespace Go.Gx
open Go Go.Conc

class BoI (P : Program) (t : TypeId) : Prop where
  h : P.underlying t = some .bool
section
variable {P : Program} {H : Facts} {E : Env} {o : Oper}
end

/-! ### a law: the outermost function -/
section
variable {P : Program} {main : Bool}
/-- What a frame's end asks, whoever waits for it. -/
def Rets (L : Lg P main) (f : FuncId) (cs : List Frame) (v : Value) : Prop :=
  ∀ {fn : Func} {todo : List Item} {rs : List ResultVar} {vs : List Value} {n : Nat} {E : Env} {H : Facts}, P.funcs[f]? = some fn → (todo = [] ∨ ∃ k', todo = .code .ret :: k') → fn.results.toList = rs → ResVs P E H rs vs →
    resVal vs = v ∧ (0 : Nat) = 0 → At L f none d0 cs n E H todo
def LawAt (L : Lg P main) (g : FuncId) (args : Array Value) (H : Facts) (v : Value) : Prop := ∀ cs, Rets L g cs v → L.J (G (Frame.enter P g args .normal) cs) H
theorem LawAt.enter {L : Lg P main} {g : FuncId} {fn : Func} {body : Code} {args : Array Value} {H : Facts} {v : Value} (hf : P.funcs[g]? = some fn) (hb : fn.body = some body) (hn : args.size ≤ fn.ntmps)
    (h : ∀ cs, Rets L g cs v → At L g none d0 cs fn.ntmps (envOf 0 args.toList) H [.code body]) : LawAt L g args H v := by
  intro cs hc
  have e : Frame.enter P g args .normal = Fr g none d0 (args ++ Array.replicate (fn.ntmps - args.size) undef) [.code body] := by
    simp [Frame.enter, Fr, hf, hb]
  rw [e]
  refine h cs hc _ (by simp; omega) ?_; refine envOf_ok fun j v hj => ?_
  have hlt : j < args.size := by
    have := (List.getElem?_eq_some_iff.1 hj).1
    simpa using this
  rw [Nat.zero_add, Array.getElem?_append_left hlt]
  rw [← Array.getElem?_toList]; exact hj
/-- FROM A LAW's WALK TO THE RUN. -/
theorem LawAt.ends {Post : Value → World → Prop} {W₀ : World} {g : FuncId} {args : Array Value} {H : Facts} {v : Value} (h : LawAt (mainLg P Post W₀ [] []) g args H v) (hi : P.inits.idxOf? g = none)
    (hp : ∀ w, Fin W₀ w → Post v w) (hH : Holds H W₀) (ho : ∀ f ∈ H, f.isOwn = false) : Ends P Post (solo (G (Frame.enter P g args .normal) []) W₀) #[] :=
  JJ.runs (h [] fun hf hs hr hv e => At.over hf hs hr hv hi fun w hw => by rw [e.1]; exact hp w hw) hH ho
end
end Go.Gx
end

section
set_option linter.unusedSimpArgs false
set_option linter.unusedVariables false
namespace Go.Gx
open Go Go.Conc Go.Proofs Go.ChangeShapes Go.RowKit

section
variable {H : Type} {enc : TypeId × Value → H} {P : Program}

theorem Fin.below {W w : World} (h : Fin W w) : Go.RowKit.Below W.heap.size W w := ⟨h.os, h.tape, h.output, h.size, h.keep⟩
def rowed (P : Program) (t : TypeId) : Bool := P.readableRec t && decide (t < P.types.size)
theorem below_trodAll (hl : laidOutB P = true) {W W' : World} (hb : Go.RowKit.Below W.heap.size W W') : ∀ {ts : List TypeId} {vs : List Value} {ds : List (DataW H)} {ps : List MemPlace}, ts.all (rowed P) = true →
    DataW.TrodAll enc P W 0 (fun _ => true) true ts vs ds ps → DataW.TrodAll enc P W' 0 (fun b => decide (b < W.heap.size)) true ts vs ds ps
  | [], [], [], _, _, h => h
  | t :: ts, v :: vs, d :: ds, ps, hr, h => by
    have hlt := h.lt
    obtain ⟨p, q, h1, h2, rfl⟩ := h
    simp only [List.all_cons, Bool.and_eq_true, rowed, decide_eq_true_eq] at hr
    exact ⟨p, q, Go.RowKit.Below.trod hl hr.1.1 hr.1.2 h1 hb (fun x hx => hlt x (List.mem_append_left _ hx)), below_trodAll hl hb (by simpa [rowed] using hr.2) h2, rfl⟩
  | [], _ :: _, _, _, _, h => h.elim
  | [], [], _ :: _, _, _, h => h.elim
  | _ :: _, [], _, _, _, h => h.elim
  | _ :: _, _ :: _, [], _, _, h => h.elim
/-- WHAT A LAW's RUN LEAVES. -/
theorem law_post {fn : Func} {s : ChangeSpec} {tb : TypeId} (hl : laidOutB P = true) (hr : fn.params.toList.all (rowed P) = true) (hres : fn.resultTypes = #[tb]) (hb : P.underlying tb = some .bool) (hvars : s.vars = [])
    {W W' : World} {args : Array Value} {ds gs : List (DataW H)} {before : List MemPlace} (hW : DataW.Whole enc P fn.params.toList s.vars false W args.toList ds gs before)
    (hs : s.fn H ds = { results := [.lit (.bool true)], args := ds }) (hf : Fin W W') : s.post enc P fn false true false false W args (.bool true) W' := by
  have hW' := hW
  obtain ⟨p, q, hA, hV, rfl, _, _⟩ := hW
  rw [hvars] at hV
  obtain ⟨rfl, rfl⟩ := trodVars_none hV
  refine ⟨ds, [], _, [], p, [], hW', ?_, ?_, ?_, hf.below.frame _, fun h => by cases h⟩
  · rw [List.append_nil, hs, hres]
    exact trodAll_mk1 (shut_bool hb true)
  · rw [List.append_nil, hs]
    exact below_trodAll hl hf.below hr hA
  · rw [List.append_nil, hs, hvars]
    exact rfl
theorem returnsInLeavingWide_of_change_and {a : Assume} {C : Checked} {os : Os} {f : FuncId} {fn : Func} {s : ChangeSpec} {conds : List PathCond} {apart fresh handsOn again : Bool} {X : World → Array Value → Prop}
    (hX : ∀ (w w' : World) (args : Array Value), w.heap = w'.heap → X w args → X w' args)
    (own : ownKnob C.prog.godebug = none) (started : os.Started) (hfn : C.prog.funcs[f]? = some fn)
    (witness : ∃ (w : World) (tape : Tape) (i : Input), w.os = os ∧ (w.forCall tape i).Shaped C.prog ∧ i.vars = [] ∧ Input.okWide C.prog (w.forCall tape i) .any w.heap.size f i ∧
      ((s.pre enc C.prog fn conds apart (w.forCall tape i).memory i.args ∧ X (w.forCall tape i).memory i.args) ∧ sizedMet enc C.prog fn (OpenSpec.ofChange s) apart (w.forCall tape i).memory i.args) ∧ a.holds C.prog (lone (Frame.enter C.prog f i.args .normal) [] (w.forCall tape i)))
    (runs : ∀ (W : World) (base : Nat) (args : Array Value) (ds gs : List (DataW H)) (before : List MemPlace),
      (∀ (j : Nat) t v, fn.params[j]? = some t → args[j]? = some v → Value.okWide C.prog W .any base t v) →
      DataW.Whole enc C.prog fn.params.toList s.vars apart W args.toList ds gs before → X W args →
      Ends C.prog (fun v W' => s.post enc C.prog fn apart fresh handsOn again W args v W') (solo (G (Frame.enter C.prog f args .normal) []) W) #[]) :
    ReturnsInLeavingWide a C os f .any (fun w args => (s.pre enc C.prog fn conds apart w args ∧ X w args) ∧ sizedMet enc C.prog fn (OpenSpec.ofChange s) apart w args) (s.post enc C.prog fn apart fresh handsOn again) := by
  refine returnsInLeavingWide_of_good own started witness ?_
  intro w tape i _ _ _ hok hpre hholds
  obtain ⟨_, _, _, fn', hfn', _, _, _, _, hval⟩ := hok
  have e : fn' = fn := Option.some.inj (hfn'.symm.trans hfn)
  subst e
  obtain ⟨⟨⟨ds, gs, before, hw, hc⟩, hx⟩, hz⟩ := hpre
  have hw' := DataW.Whole.of_heap (w' := w.forCall tape i) (by rfl) hw
  obtain ⟨M, last, o, w', t', h1, h2, h3, h4⟩ := runs (w.forCall tape i) w.heap.size i.args ds gs before hval hw' (hX _ _ _ (by rfl) hx)
  exact ⟨M, last, o, w', t', h1, h2, h3, h4.mono fun v hp => ChangeSpec.post_blind hp⟩
end
end Go.Gx
end

section
/-
  What is so of the program's types and functions, in the form that logic G asks for (printed by a program).
-/
set_option linter.unusedSimpArgs false
set_option linter.unusedVariables false
namespace Go.Gx
open Go Go.Conc Go.Proofs
theorem hmix : Tryz.prog.follows .mixedOrders = true := Tryz.checked.mixed
theorem tf1 : tyF Tryz.prog 1 = some (false, 1, some .nilFunc, 8) := by kernel_rfl
instance : TyI Tryz.prog 1 false 1 [.nilFunc] := ⟨_, _, tf1, rfl⟩
theorem tf2 : tyF Tryz.prog 2 = some (false, 1, some (.int .i64 0), 8) := by kernel_rfl
instance : TyI Tryz.prog 2 false 1 [(.int .i64 0)] := ⟨_, _, tf2, rfl⟩
theorem tf3 : tyF Tryz.prog 3 = some (false, 1, some (.int .i64 0), 8) := by kernel_rfl
instance : TyI Tryz.prog 3 false 1 [(.int .i64 0)] := ⟨_, _, tf3, rfl⟩
theorem tf4 : tyF Tryz.prog 4 = some (false, 1, some (.bool false), 1) := by kernel_rfl
instance : TyI Tryz.prog 4 false 1 [(.bool false)] := ⟨_, _, tf4, rfl⟩
theorem tf5 : tyF Tryz.prog 5 = some (false, 1, some (.int .u8 0), 1) := by kernel_rfl
instance : TyI Tryz.prog 5 false 1 [(.int .u8 0)] := ⟨_, _, tf5, rfl⟩
theorem tf6 : tyF Tryz.prog 6 = some (false, 1, some (.int .u8 0), 1) := by kernel_rfl
instance : TyI Tryz.prog 6 false 1 [(.int .u8 0)] := ⟨_, _, tf6, rfl⟩
theorem tf7 : tyF Tryz.prog 7 = some (true, 4, some (.agg #[(.int .i64 0), (.int .i64 0), (.bool false), (.int .u8 0)]), 24) := by kernel_rfl
instance : TyI Tryz.prog 7 true 4 [(.int .i64 0), (.int .i64 0), (.bool false), (.int .u8 0)] := ⟨_, _, tf7, rfl⟩
instance : BdI Tryz.prog 7 [(0, 1), (1, 1), (2, 1), (3, 1)] := ⟨by kernel_rfl⟩
instance : FdI Tryz.prog 7 0 0 false 1 := ⟨by kernel_rfl, by decide⟩
instance : FdI Tryz.prog 7 1 1 false 1 := ⟨by kernel_rfl, by decide⟩
instance : FdI Tryz.prog 7 2 2 false 1 := ⟨by kernel_rfl, by decide⟩
instance : FdI Tryz.prog 7 3 3 false 1 := ⟨by kernel_rfl, by decide⟩
theorem tf8 : tyF Tryz.prog 8 = some (true, 4, some (.agg #[(.int .i64 0), (.int .i64 0), (.bool false), (.int .u8 0)]), 24) := by kernel_rfl
instance : TyI Tryz.prog 8 true 4 [(.int .i64 0), (.int .i64 0), (.bool false), (.int .u8 0)] := ⟨_, _, tf8, rfl⟩
instance : BdI Tryz.prog 8 [(0, 1), (1, 1), (2, 1), (3, 1)] := ⟨by kernel_rfl⟩
instance : FdI Tryz.prog 8 0 0 false 1 := ⟨by kernel_rfl, by decide⟩
instance : FdI Tryz.prog 8 1 1 false 1 := ⟨by kernel_rfl, by decide⟩
instance : FdI Tryz.prog 8 2 2 false 1 := ⟨by kernel_rfl, by decide⟩
instance : FdI Tryz.prog 8 3 3 false 1 := ⟨by kernel_rfl, by decide⟩
theorem tf12 : tyF Tryz.prog 12 = some (false, 1, some (.int .u64 0), 8) := by kernel_rfl
instance : TyI Tryz.prog 12 false 1 [(.int .u64 0)] := ⟨_, _, tf12, rfl⟩
instance : BdI Tryz.prog 13 [(0, 1), (1, 1)] := ⟨by kernel_rfl⟩
instance : FdI Tryz.prog 13 0 0 false 1 := ⟨by kernel_rfl, by decide⟩
instance : FdI Tryz.prog 13 1 1 false 1 := ⟨by kernel_rfl, by decide⟩
instance : BdI Tryz.prog 14 [(0, 1), (1, 1)] := ⟨by kernel_rfl⟩
instance : FdI Tryz.prog 14 0 0 false 1 := ⟨by kernel_rfl, by decide⟩
instance : FdI Tryz.prog 14 1 1 false 1 := ⟨by kernel_rfl, by decide⟩
theorem tf15 : tyF Tryz.prog 15 = some (false, 1, some (.pointer none), 8) := by kernel_rfl
instance : TyI Tryz.prog 15 false 1 [(.pointer none)] := ⟨_, _, tf15, rfl⟩
theorem tf16 : tyF Tryz.prog 16 = some (false, 1, some (.pointer none), 8) := by kernel_rfl
instance : TyI Tryz.prog 16 false 1 [(.pointer none)] := ⟨_, _, tf16, rfl⟩
theorem tf17 : tyF Tryz.prog 17 = some (false, 1, some (.pointer none), 8) := by kernel_rfl
instance : TyI Tryz.prog 17 false 1 [(.pointer none)] := ⟨_, _, tf17, rfl⟩
theorem tf18 : tyF Tryz.prog 18 = some (true, 1, some (.agg #[(.pointer none)]), 8) := by kernel_rfl
instance : TyI Tryz.prog 18 true 1 [(.pointer none)] := ⟨_, _, tf18, rfl⟩
instance : BdI Tryz.prog 18 [(0, 1)] := ⟨by kernel_rfl⟩
instance : FdI Tryz.prog 18 0 0 false 1 := ⟨by kernel_rfl, by decide⟩
theorem tf19 : tyF Tryz.prog 19 = some (true, 1, some (.agg #[(.pointer none)]), 8) := by kernel_rfl
instance : TyI Tryz.prog 19 true 1 [(.pointer none)] := ⟨_, _, tf19, rfl⟩
instance : BdI Tryz.prog 19 [(0, 1)] := ⟨by kernel_rfl⟩
instance : FdI Tryz.prog 19 0 0 false 1 := ⟨by kernel_rfl, by decide⟩
theorem tf20 : tyF Tryz.prog 20 = some (false, 1, some .nilIface, 16) := by kernel_rfl
instance : TyI Tryz.prog 20 false 1 [.nilIface] := ⟨_, _, tf20, rfl⟩
theorem tf21 : tyF Tryz.prog 21 = some (false, 1, some (.int .i32 0), 4) := by kernel_rfl
instance : TyI Tryz.prog 21 false 1 [(.int .i32 0)] := ⟨_, _, tf21, rfl⟩
theorem tf22 : tyF Tryz.prog 22 = some (false, 1, some (.slice none 0 0), 24) := by kernel_rfl
instance : TyI Tryz.prog 22 false 1 [(.slice none 0 0)] := ⟨_, _, tf22, rfl⟩
instance : ElI Tryz.prog 22 57 true 2 16 [(.int .i64 0), (.int .i64 0)] := ⟨(.agg #[(.int .i64 0), (.int .i64 0)]), by kernel_rfl, rfl⟩
theorem tf23 : tyF Tryz.prog 23 = some (true, 2, some (.agg #[(.int .i64 0), (.int .i64 0)]), 16) := by kernel_rfl
instance : TyI Tryz.prog 23 true 2 [(.int .i64 0), (.int .i64 0)] := ⟨_, _, tf23, rfl⟩
instance : EqI Tryz.prog 23 2 := ⟨by kernel_rfl, by kernel_rfl⟩
instance : BdI Tryz.prog 23 [(0, 1), (1, 1)] := ⟨by kernel_rfl⟩
instance : FdI Tryz.prog 23 0 0 false 1 := ⟨by kernel_rfl, by decide⟩
instance : FdI Tryz.prog 23 1 1 false 1 := ⟨by kernel_rfl, by decide⟩
theorem tf24 : tyF Tryz.prog 24 = some (true, 2, some (.agg #[(.int .i64 0), (.int .i64 0)]), 16) := by kernel_rfl
instance : TyI Tryz.prog 24 true 2 [(.int .i64 0), (.int .i64 0)] := ⟨_, _, tf24, rfl⟩
instance : EqI Tryz.prog 24 2 := ⟨by kernel_rfl, by kernel_rfl⟩
instance : BdI Tryz.prog 24 [(0, 1), (1, 1)] := ⟨by kernel_rfl⟩
instance : FdI Tryz.prog 24 0 0 false 1 := ⟨by kernel_rfl, by decide⟩
instance : FdI Tryz.prog 24 1 1 false 1 := ⟨by kernel_rfl, by decide⟩
theorem tf25 : tyF Tryz.prog 25 = some (false, 1, some (.slice none 0 0), 24) := by kernel_rfl
instance : TyI Tryz.prog 25 false 1 [(.slice none 0 0)] := ⟨_, _, tf25, rfl⟩
instance : ElI Tryz.prog 25 94 true 3 24 [(.int .i64 0), (.int .i64 0), (.int .i64 0)] := ⟨(.agg #[(.int .i64 0), (.int .i64 0), (.int .i64 0)]), by kernel_rfl, rfl⟩
theorem tf26 : tyF Tryz.prog 26 = some (true, 5, some (.agg #[(.slice none 0 0), (.int .i64 0), (.int .i64 0), (.int .i64 0), (.slice none 0 0)]), 72) := by kernel_rfl
instance : TyI Tryz.prog 26 true 5 [(.slice none 0 0), (.int .i64 0), (.int .i64 0), (.int .i64 0), (.slice none 0 0)] := ⟨_, _, tf26, rfl⟩
instance : BdI Tryz.prog 26 [(0, 1), (1, 1), (2, 2), (4, 1)] := ⟨by kernel_rfl⟩
instance : FdI Tryz.prog 26 0 0 false 1 := ⟨by kernel_rfl, by decide⟩
instance : FdI Tryz.prog 26 1 1 false 1 := ⟨by kernel_rfl, by decide⟩
instance : FdI Tryz.prog 26 2 2 true 2 := ⟨by kernel_rfl, by decide⟩
instance : FdI Tryz.prog 26 3 4 false 1 := ⟨by kernel_rfl, by decide⟩
theorem tf27 : tyF Tryz.prog 27 = some (true, 5, some (.agg #[(.slice none 0 0), (.int .i64 0), (.int .i64 0), (.int .i64 0), (.slice none 0 0)]), 72) := by kernel_rfl
instance : TyI Tryz.prog 27 true 5 [(.slice none 0 0), (.int .i64 0), (.int .i64 0), (.int .i64 0), (.slice none 0 0)] := ⟨_, _, tf27, rfl⟩
instance : BdI Tryz.prog 27 [(0, 1), (1, 1), (2, 2), (4, 1)] := ⟨by kernel_rfl⟩
instance : FdI Tryz.prog 27 0 0 false 1 := ⟨by kernel_rfl, by decide⟩
instance : FdI Tryz.prog 27 1 1 false 1 := ⟨by kernel_rfl, by decide⟩
instance : FdI Tryz.prog 27 2 2 true 2 := ⟨by kernel_rfl, by decide⟩
instance : FdI Tryz.prog 27 3 4 false 1 := ⟨by kernel_rfl, by decide⟩
theorem tf28 : tyF Tryz.prog 28 = some (true, 2, some (.agg #[(.int .i64 0), (.int .i64 0)]), 16) := by kernel_rfl
instance : TyI Tryz.prog 28 true 2 [(.int .i64 0), (.int .i64 0)] := ⟨_, _, tf28, rfl⟩
instance : EqI Tryz.prog 28 2 := ⟨by kernel_rfl, by kernel_rfl⟩
instance : BdI Tryz.prog 28 [(0, 1), (1, 1)] := ⟨by kernel_rfl⟩
instance : FdI Tryz.prog 28 0 0 false 1 := ⟨by kernel_rfl, by decide⟩
instance : FdI Tryz.prog 28 1 1 false 1 := ⟨by kernel_rfl, by decide⟩
theorem tf29 : tyF Tryz.prog 29 = some (true, 2, some (.agg #[(.int .i64 0), (.int .i64 0)]), 16) := by kernel_rfl
instance : TyI Tryz.prog 29 true 2 [(.int .i64 0), (.int .i64 0)] := ⟨_, _, tf29, rfl⟩
instance : EqI Tryz.prog 29 2 := ⟨by kernel_rfl, by kernel_rfl⟩
instance : BdI Tryz.prog 29 [(0, 1), (1, 1)] := ⟨by kernel_rfl⟩
instance : FdI Tryz.prog 29 0 0 false 1 := ⟨by kernel_rfl, by decide⟩
instance : FdI Tryz.prog 29 1 1 false 1 := ⟨by kernel_rfl, by decide⟩
theorem tf30 : tyF Tryz.prog 30 = some (false, 1, some .nilFunc, 8) := by kernel_rfl
instance : TyI Tryz.prog 30 false 1 [.nilFunc] := ⟨_, _, tf30, rfl⟩
theorem tf31 : tyF Tryz.prog 31 = some (false, 1, some .nilFunc, 8) := by kernel_rfl
instance : TyI Tryz.prog 31 false 1 [.nilFunc] := ⟨_, _, tf31, rfl⟩
theorem tf32 : tyF Tryz.prog 32 = some (false, 1, some (.int .i64 0), 8) := by kernel_rfl
instance : TyI Tryz.prog 32 false 1 [(.int .i64 0)] := ⟨_, _, tf32, rfl⟩
theorem tf33 : tyF Tryz.prog 33 = some (false, 1, some .nilFunc, 8) := by kernel_rfl
instance : TyI Tryz.prog 33 false 1 [.nilFunc] := ⟨_, _, tf33, rfl⟩
theorem tf35 : tyF Tryz.prog 35 = some (false, 1, some .nilFunc, 8) := by kernel_rfl
instance : TyI Tryz.prog 35 false 1 [.nilFunc] := ⟨_, _, tf35, rfl⟩
theorem tf37 : tyF Tryz.prog 37 = some (false, 1, some .nilFunc, 8) := by kernel_rfl
instance : TyI Tryz.prog 37 false 1 [.nilFunc] := ⟨_, _, tf37, rfl⟩
theorem tf38 : tyF Tryz.prog 38 = some (false, 1, some (.slice none 0 0), 24) := by kernel_rfl
instance : TyI Tryz.prog 38 false 1 [(.slice none 0 0)] := ⟨_, _, tf38, rfl⟩
instance : ElI Tryz.prog 38 3 false 1 8 [(.int .i64 0)] := ⟨(.int .i64 0), by kernel_rfl, rfl⟩
theorem tf40 : tyF Tryz.prog 40 = some (false, 1, some .nilFunc, 8) := by kernel_rfl
instance : TyI Tryz.prog 40 false 1 [.nilFunc] := ⟨_, _, tf40, rfl⟩
theorem tf41 : tyF Tryz.prog 41 = some (false, 1, some .nilFunc, 8) := by kernel_rfl
instance : TyI Tryz.prog 41 false 1 [.nilFunc] := ⟨_, _, tf41, rfl⟩
theorem tf42 : tyF Tryz.prog 42 = some (false, 1, some .nilFunc, 8) := by kernel_rfl
instance : TyI Tryz.prog 42 false 1 [.nilFunc] := ⟨_, _, tf42, rfl⟩
theorem tf43 : tyF Tryz.prog 43 = some (true, 3, some (.agg #[(.int .i64 0), (.int .i64 0), (.int .i64 0)]), 24) := by kernel_rfl
instance : TyI Tryz.prog 43 true 3 [(.int .i64 0), (.int .i64 0), (.int .i64 0)] := ⟨_, _, tf43, rfl⟩
instance : EqI Tryz.prog 43 3 := ⟨by kernel_rfl, by kernel_rfl⟩
instance : BdI Tryz.prog 43 [(0, 1), (1, 2)] := ⟨by kernel_rfl⟩
instance : FdI Tryz.prog 43 0 0 false 1 := ⟨by kernel_rfl, by decide⟩
instance : FdI Tryz.prog 43 1 1 true 2 := ⟨by kernel_rfl, by decide⟩
theorem tf44 : tyF Tryz.prog 44 = some (true, 3, some (.agg #[(.int .i64 0), (.int .i64 0), (.int .i64 0)]), 24) := by kernel_rfl
instance : TyI Tryz.prog 44 true 3 [(.int .i64 0), (.int .i64 0), (.int .i64 0)] := ⟨_, _, tf44, rfl⟩
instance : EqI Tryz.prog 44 3 := ⟨by kernel_rfl, by kernel_rfl⟩
instance : BdI Tryz.prog 44 [(0, 1), (1, 2)] := ⟨by kernel_rfl⟩
instance : FdI Tryz.prog 44 0 0 false 1 := ⟨by kernel_rfl, by decide⟩
instance : FdI Tryz.prog 44 1 1 true 2 := ⟨by kernel_rfl, by decide⟩
theorem tf45 : tyF Tryz.prog 45 = some (false, 1, some (.slice none 0 0), 24) := by kernel_rfl
instance : TyI Tryz.prog 45 false 1 [(.slice none 0 0)] := ⟨_, _, tf45, rfl⟩
instance : ElI Tryz.prog 45 29 true 2 16 [(.int .i64 0), (.int .i64 0)] := ⟨(.agg #[(.int .i64 0), (.int .i64 0)]), by kernel_rfl, rfl⟩
theorem tf47 : tyF Tryz.prog 47 = some (false, 1, some .nilFunc, 8) := by kernel_rfl
instance : TyI Tryz.prog 47 false 1 [.nilFunc] := ⟨_, _, tf47, rfl⟩
theorem tf49 : tyF Tryz.prog 49 = some (false, 1, some .nilFunc, 8) := by kernel_rfl
instance : TyI Tryz.prog 49 false 1 [.nilFunc] := ⟨_, _, tf49, rfl⟩
theorem tf50 : tyF Tryz.prog 50 = some (false, 1, some .nilFunc, 8) := by kernel_rfl
instance : TyI Tryz.prog 50 false 1 [.nilFunc] := ⟨_, _, tf50, rfl⟩
theorem tf51 : tyF Tryz.prog 51 = some (false, 1, some .nilFunc, 8) := by kernel_rfl
instance : TyI Tryz.prog 51 false 1 [.nilFunc] := ⟨_, _, tf51, rfl⟩
theorem tf52 : tyF Tryz.prog 52 = some (false, 1, some .nilFunc, 8) := by kernel_rfl
instance : TyI Tryz.prog 52 false 1 [.nilFunc] := ⟨_, _, tf52, rfl⟩
theorem tf53 : tyF Tryz.prog 53 = some (false, 1, some (.int .i8 0), 1) := by kernel_rfl
instance : TyI Tryz.prog 53 false 1 [(.int .i8 0)] := ⟨_, _, tf53, rfl⟩
theorem tf54 : tyF Tryz.prog 54 = some (false, 1, some .nilFunc, 8) := by kernel_rfl
instance : TyI Tryz.prog 54 false 1 [.nilFunc] := ⟨_, _, tf54, rfl⟩
theorem tf55 : tyF Tryz.prog 55 = some (false, 1, some .nilFunc, 8) := by kernel_rfl
instance : TyI Tryz.prog 55 false 1 [.nilFunc] := ⟨_, _, tf55, rfl⟩
theorem tf56 : tyF Tryz.prog 56 = some (true, 2, some (.agg #[(.int .i64 0), (.int .i64 0)]), 16) := by kernel_rfl
instance : TyI Tryz.prog 56 true 2 [(.int .i64 0), (.int .i64 0)] := ⟨_, _, tf56, rfl⟩
instance : EqI Tryz.prog 56 2 := ⟨by kernel_rfl, by kernel_rfl⟩
instance : BdI Tryz.prog 56 [(0, 1), (1, 1)] := ⟨by kernel_rfl⟩
instance : FdI Tryz.prog 56 0 0 false 1 := ⟨by kernel_rfl, by decide⟩
instance : FdI Tryz.prog 56 1 1 false 1 := ⟨by kernel_rfl, by decide⟩
theorem tf57 : tyF Tryz.prog 57 = some (true, 2, some (.agg #[(.int .i64 0), (.int .i64 0)]), 16) := by kernel_rfl
instance : TyI Tryz.prog 57 true 2 [(.int .i64 0), (.int .i64 0)] := ⟨_, _, tf57, rfl⟩
instance : EqI Tryz.prog 57 2 := ⟨by kernel_rfl, by kernel_rfl⟩
instance : BdI Tryz.prog 57 [(0, 1), (1, 1)] := ⟨by kernel_rfl⟩
instance : FdI Tryz.prog 57 0 0 false 1 := ⟨by kernel_rfl, by decide⟩
instance : FdI Tryz.prog 57 1 1 false 1 := ⟨by kernel_rfl, by decide⟩
theorem tf58 : tyF Tryz.prog 58 = some (false, 1, some .nilFunc, 8) := by kernel_rfl
instance : TyI Tryz.prog 58 false 1 [.nilFunc] := ⟨_, _, tf58, rfl⟩
theorem tf59 : tyF Tryz.prog 59 = some (false, 1, some .nilFunc, 8) := by kernel_rfl
instance : TyI Tryz.prog 59 false 1 [.nilFunc] := ⟨_, _, tf59, rfl⟩
theorem tf60 : tyF Tryz.prog 60 = some (false, 1, some .nilFunc, 8) := by kernel_rfl
instance : TyI Tryz.prog 60 false 1 [.nilFunc] := ⟨_, _, tf60, rfl⟩
theorem tf61 : tyF Tryz.prog 61 = some (false, 1, some .nilFunc, 8) := by kernel_rfl
instance : TyI Tryz.prog 61 false 1 [.nilFunc] := ⟨_, _, tf61, rfl⟩
theorem tf62 : tyF Tryz.prog 62 = some (false, 1, some .nilFunc, 8) := by kernel_rfl
instance : TyI Tryz.prog 62 false 1 [.nilFunc] := ⟨_, _, tf62, rfl⟩
theorem tf63 : tyF Tryz.prog 63 = some (false, 1, some .nilFunc, 8) := by kernel_rfl
instance : TyI Tryz.prog 63 false 1 [.nilFunc] := ⟨_, _, tf63, rfl⟩
theorem tf64 : tyF Tryz.prog 64 = some (false, 1, some .nilFunc, 8) := by kernel_rfl
instance : TyI Tryz.prog 64 false 1 [.nilFunc] := ⟨_, _, tf64, rfl⟩
theorem tf65 : tyF Tryz.prog 65 = some (false, 1, some .nilFunc, 8) := by kernel_rfl
instance : TyI Tryz.prog 65 false 1 [.nilFunc] := ⟨_, _, tf65, rfl⟩
theorem tf67 : tyF Tryz.prog 67 = some (false, 1, some .nilFunc, 8) := by kernel_rfl
instance : TyI Tryz.prog 67 false 1 [.nilFunc] := ⟨_, _, tf67, rfl⟩
theorem tf68 : tyF Tryz.prog 68 = some (false, 1, some .nilFunc, 8) := by kernel_rfl
instance : TyI Tryz.prog 68 false 1 [.nilFunc] := ⟨_, _, tf68, rfl⟩
theorem tf69 : tyF Tryz.prog 69 = some (false, 1, some (.int .i64 0), 8) := by kernel_rfl
instance : TyI Tryz.prog 69 false 1 [(.int .i64 0)] := ⟨_, _, tf69, rfl⟩
theorem tf71 : tyF Tryz.prog 71 = some (false, 1, some .nilFunc, 8) := by kernel_rfl
instance : TyI Tryz.prog 71 false 1 [.nilFunc] := ⟨_, _, tf71, rfl⟩
theorem tf72 : tyF Tryz.prog 72 = some (false, 1, some .nilFunc, 8) := by kernel_rfl
instance : TyI Tryz.prog 72 false 1 [.nilFunc] := ⟨_, _, tf72, rfl⟩
theorem tf73 : tyF Tryz.prog 73 = some (false, 1, some .nilFunc, 8) := by kernel_rfl
instance : TyI Tryz.prog 73 false 1 [.nilFunc] := ⟨_, _, tf73, rfl⟩
theorem tf74 : tyF Tryz.prog 74 = some (false, 1, some .nilFunc, 8) := by kernel_rfl
instance : TyI Tryz.prog 74 false 1 [.nilFunc] := ⟨_, _, tf74, rfl⟩
theorem tf75 : tyF Tryz.prog 75 = some (false, 1, some .nilFunc, 8) := by kernel_rfl
instance : TyI Tryz.prog 75 false 1 [.nilFunc] := ⟨_, _, tf75, rfl⟩
theorem tf76 : tyF Tryz.prog 76 = some (false, 1, some .nilFunc, 8) := by kernel_rfl
instance : TyI Tryz.prog 76 false 1 [.nilFunc] := ⟨_, _, tf76, rfl⟩
theorem tf77 : tyF Tryz.prog 77 = some (false, 1, some .nilFunc, 8) := by kernel_rfl
instance : TyI Tryz.prog 77 false 1 [.nilFunc] := ⟨_, _, tf77, rfl⟩
theorem tf78 : tyF Tryz.prog 78 = some (false, 1, some .nilFunc, 8) := by kernel_rfl
instance : TyI Tryz.prog 78 false 1 [.nilFunc] := ⟨_, _, tf78, rfl⟩
theorem tf79 : tyF Tryz.prog 79 = some (false, 1, some .nilFunc, 8) := by kernel_rfl
instance : TyI Tryz.prog 79 false 1 [.nilFunc] := ⟨_, _, tf79, rfl⟩
theorem tf80 : tyF Tryz.prog 80 = some (false, 1, some .nilFunc, 8) := by kernel_rfl
instance : TyI Tryz.prog 80 false 1 [.nilFunc] := ⟨_, _, tf80, rfl⟩
theorem tf82 : tyF Tryz.prog 82 = some (false, 1, some .nilFunc, 8) := by kernel_rfl
instance : TyI Tryz.prog 82 false 1 [.nilFunc] := ⟨_, _, tf82, rfl⟩
theorem tf83 : tyF Tryz.prog 83 = some (false, 1, some .nilFunc, 8) := by kernel_rfl
instance : TyI Tryz.prog 83 false 1 [.nilFunc] := ⟨_, _, tf83, rfl⟩
theorem tf84 : tyF Tryz.prog 84 = some (false, 1, some .nilFunc, 8) := by kernel_rfl
instance : TyI Tryz.prog 84 false 1 [.nilFunc] := ⟨_, _, tf84, rfl⟩
theorem tf85 : tyF Tryz.prog 85 = some (false, 1, some .nilFunc, 8) := by kernel_rfl
instance : TyI Tryz.prog 85 false 1 [.nilFunc] := ⟨_, _, tf85, rfl⟩
theorem tf86 : tyF Tryz.prog 86 = some (false, 1, some .nilFunc, 8) := by kernel_rfl
instance : TyI Tryz.prog 86 false 1 [.nilFunc] := ⟨_, _, tf86, rfl⟩
theorem tf88 : tyF Tryz.prog 88 = some (false, 1, some .nilFunc, 8) := by kernel_rfl
instance : TyI Tryz.prog 88 false 1 [.nilFunc] := ⟨_, _, tf88, rfl⟩
theorem tf90 : tyF Tryz.prog 90 = some (false, 1, some .nilFunc, 8) := by kernel_rfl
instance : TyI Tryz.prog 90 false 1 [.nilFunc] := ⟨_, _, tf90, rfl⟩
theorem tf92 : tyF Tryz.prog 92 = some (false, 1, some .nilFunc, 8) := by kernel_rfl
instance : TyI Tryz.prog 92 false 1 [.nilFunc] := ⟨_, _, tf92, rfl⟩
theorem tf93 : tyF Tryz.prog 93 = some (true, 3, some (.agg #[(.int .i64 0), (.int .i64 0), (.int .i64 0)]), 24) := by kernel_rfl
instance : TyI Tryz.prog 93 true 3 [(.int .i64 0), (.int .i64 0), (.int .i64 0)] := ⟨_, _, tf93, rfl⟩
instance : EqI Tryz.prog 93 3 := ⟨by kernel_rfl, by kernel_rfl⟩
instance : BdI Tryz.prog 93 [(0, 2), (2, 1)] := ⟨by kernel_rfl⟩
instance : FdI Tryz.prog 93 0 0 true 2 := ⟨by kernel_rfl, by decide⟩
instance : FdI Tryz.prog 93 1 2 false 1 := ⟨by kernel_rfl, by decide⟩
theorem tf94 : tyF Tryz.prog 94 = some (true, 3, some (.agg #[(.int .i64 0), (.int .i64 0), (.int .i64 0)]), 24) := by kernel_rfl
instance : TyI Tryz.prog 94 true 3 [(.int .i64 0), (.int .i64 0), (.int .i64 0)] := ⟨_, _, tf94, rfl⟩
instance : EqI Tryz.prog 94 3 := ⟨by kernel_rfl, by kernel_rfl⟩
instance : BdI Tryz.prog 94 [(0, 2), (2, 1)] := ⟨by kernel_rfl⟩
instance : FdI Tryz.prog 94 0 0 true 2 := ⟨by kernel_rfl, by decide⟩
instance : FdI Tryz.prog 94 1 2 false 1 := ⟨by kernel_rfl, by decide⟩
theorem tf95 : tyF Tryz.prog 95 = some (false, 1, some .nilFunc, 8) := by kernel_rfl
instance : TyI Tryz.prog 95 false 1 [.nilFunc] := ⟨_, _, tf95, rfl⟩
theorem tf97 : tyF Tryz.prog 97 = some (false, 1, some .nilFunc, 8) := by kernel_rfl
instance : TyI Tryz.prog 97 false 1 [.nilFunc] := ⟨_, _, tf97, rfl⟩
theorem tf99 : tyF Tryz.prog 99 = some (false, 1, some .nilFunc, 8) := by kernel_rfl
instance : TyI Tryz.prog 99 false 1 [.nilFunc] := ⟨_, _, tf99, rfl⟩
theorem tf100 : tyF Tryz.prog 100 = some (false, 1, some .nilFunc, 8) := by kernel_rfl
instance : TyI Tryz.prog 100 false 1 [.nilFunc] := ⟨_, _, tf100, rfl⟩
theorem tf101 : tyF Tryz.prog 101 = some (false, 1, some .nilFunc, 8) := by kernel_rfl
instance : TyI Tryz.prog 101 false 1 [.nilFunc] := ⟨_, _, tf101, rfl⟩
theorem tf102 : tyF Tryz.prog 102 = some (false, 1, some .nilFunc, 8) := by kernel_rfl
instance : TyI Tryz.prog 102 false 1 [.nilFunc] := ⟨_, _, tf102, rfl⟩
theorem tf103 : tyF Tryz.prog 103 = some (false, 1, some .nilFunc, 8) := by kernel_rfl
instance : TyI Tryz.prog 103 false 1 [.nilFunc] := ⟨_, _, tf103, rfl⟩
theorem tf104 : tyF Tryz.prog 104 = some (false, 1, some .nilFunc, 8) := by kernel_rfl
instance : TyI Tryz.prog 104 false 1 [.nilFunc] := ⟨_, _, tf104, rfl⟩
theorem tf105 : tyF Tryz.prog 105 = some (false, 1, some .nilFunc, 8) := by kernel_rfl
instance : TyI Tryz.prog 105 false 1 [.nilFunc] := ⟨_, _, tf105, rfl⟩
theorem tf106 : tyF Tryz.prog 106 = some (false, 1, some .nilFunc, 8) := by kernel_rfl
instance : TyI Tryz.prog 106 false 1 [.nilFunc] := ⟨_, _, tf106, rfl⟩
theorem tf107 : tyF Tryz.prog 107 = some (false, 1, some .nilFunc, 8) := by kernel_rfl
instance : TyI Tryz.prog 107 false 1 [.nilFunc] := ⟨_, _, tf107, rfl⟩
theorem tf108 : tyF Tryz.prog 108 = some (false, 1, some .nilFunc, 8) := by kernel_rfl
instance : TyI Tryz.prog 108 false 1 [.nilFunc] := ⟨_, _, tf108, rfl⟩
theorem tf109 : tyF Tryz.prog 109 = some (false, 1, some .nilFunc, 8) := by kernel_rfl
instance : TyI Tryz.prog 109 false 1 [.nilFunc] := ⟨_, _, tf109, rfl⟩
theorem tf110 : tyF Tryz.prog 110 = some (false, 1, some .nilFunc, 8) := by kernel_rfl
instance : TyI Tryz.prog 110 false 1 [.nilFunc] := ⟨_, _, tf110, rfl⟩
theorem tf111 : tyF Tryz.prog 111 = some (false, 1, some .nilFunc, 8) := by kernel_rfl
instance : TyI Tryz.prog 111 false 1 [.nilFunc] := ⟨_, _, tf111, rfl⟩
theorem tf112 : tyF Tryz.prog 112 = some (false, 1, some .nilFunc, 8) := by kernel_rfl
instance : TyI Tryz.prog 112 false 1 [.nilFunc] := ⟨_, _, tf112, rfl⟩
theorem tf113 : tyF Tryz.prog 113 = some (false, 1, some .nilFunc, 8) := by kernel_rfl
instance : TyI Tryz.prog 113 false 1 [.nilFunc] := ⟨_, _, tf113, rfl⟩
theorem tf114 : tyF Tryz.prog 114 = some (true, 1, some (.agg #[.nilFunc]), 8) := by kernel_rfl
instance : TyI Tryz.prog 114 true 1 [.nilFunc] := ⟨_, _, tf114, rfl⟩
instance : BdI Tryz.prog 114 [(0, 1)] := ⟨by kernel_rfl⟩
instance : FdI Tryz.prog 114 0 0 false 1 := ⟨by kernel_rfl, by decide⟩
theorem tf115 : tyF Tryz.prog 115 = some (true, 1, some (.agg #[.nilFunc]), 8) := by kernel_rfl
instance : TyI Tryz.prog 115 true 1 [.nilFunc] := ⟨_, _, tf115, rfl⟩
instance : BdI Tryz.prog 115 [(0, 1)] := ⟨by kernel_rfl⟩
instance : FdI Tryz.prog 115 0 0 false 1 := ⟨by kernel_rfl, by decide⟩
theorem tf116 : tyF Tryz.prog 116 = some (true, 3, some (.agg #[.nilFunc, .nilFunc, .nilFunc]), 24) := by kernel_rfl
instance : TyI Tryz.prog 116 true 3 [.nilFunc, .nilFunc, .nilFunc] := ⟨_, _, tf116, rfl⟩
instance : ArI Tryz.prog 116 3 115 true 1 := ⟨by kernel_rfl⟩
theorem tf117 : tyF Tryz.prog 117 = some (true, 5, some (.agg #[(.slice none 0 0), (.int .i64 0), (.int .i64 0), (.int .i64 0), (.slice none 0 0)]), 72) := by kernel_rfl
instance : TyI Tryz.prog 117 true 5 [(.slice none 0 0), (.int .i64 0), (.int .i64 0), (.int .i64 0), (.slice none 0 0)] := ⟨_, _, tf117, rfl⟩
instance : BdI Tryz.prog 117 [(0, 5)] := ⟨by kernel_rfl⟩
instance : FdI Tryz.prog 117 0 0 true 5 := ⟨by kernel_rfl, by decide⟩
theorem tf118 : tyF Tryz.prog 118 = some (true, 5, some (.agg #[(.slice none 0 0), (.int .i64 0), (.int .i64 0), (.int .i64 0), (.slice none 0 0)]), 72) := by kernel_rfl
instance : TyI Tryz.prog 118 true 5 [(.slice none 0 0), (.int .i64 0), (.int .i64 0), (.int .i64 0), (.slice none 0 0)] := ⟨_, _, tf118, rfl⟩
instance : BdI Tryz.prog 118 [(0, 5)] := ⟨by kernel_rfl⟩
instance : FdI Tryz.prog 118 0 0 true 5 := ⟨by kernel_rfl, by decide⟩
theorem tf119 : tyF Tryz.prog 119 = some (false, 1, some .nilFunc, 8) := by kernel_rfl
instance : TyI Tryz.prog 119 false 1 [.nilFunc] := ⟨_, _, tf119, rfl⟩
theorem tf120 : tyF Tryz.prog 120 = some (false, 1, some .nilFunc, 8) := by kernel_rfl
instance : TyI Tryz.prog 120 false 1 [.nilFunc] := ⟨_, _, tf120, rfl⟩
theorem tf121 : tyF Tryz.prog 121 = some (true, 11, some (.agg #[(.int .i64 0), (.int .i64 0), (.int .i64 0), (.int .i64 0), (.slice none 0 0), (.int .i64 0), (.int .i64 0), (.int .i64 0), (.int .i64 0), (.int .i64 0), (.int .i64 0)]), 104) := by kernel_rfl
instance : TyI Tryz.prog 121 true 11 [(.int .i64 0), (.int .i64 0), (.int .i64 0), (.int .i64 0), (.slice none 0 0), (.int .i64 0), (.int .i64 0), (.int .i64 0), (.int .i64 0), (.int .i64 0), (.int .i64 0)] := ⟨_, _, tf121, rfl⟩
instance : BdI Tryz.prog 121 [(0, 1), (1, 1), (2, 2), (4, 1), (5, 3), (8, 3)] := ⟨by kernel_rfl⟩
instance : FdI Tryz.prog 121 0 0 false 1 := ⟨by kernel_rfl, by decide⟩
instance : FdI Tryz.prog 121 1 1 false 1 := ⟨by kernel_rfl, by decide⟩
instance : FdI Tryz.prog 121 2 2 true 2 := ⟨by kernel_rfl, by decide⟩
instance : FdI Tryz.prog 121 3 4 false 1 := ⟨by kernel_rfl, by decide⟩
instance : FdI Tryz.prog 121 4 5 true 3 := ⟨by kernel_rfl, by decide⟩
instance : FdI Tryz.prog 121 5 8 true 3 := ⟨by kernel_rfl, by decide⟩
theorem tf122 : tyF Tryz.prog 122 = some (true, 11, some (.agg #[(.int .i64 0), (.int .i64 0), (.int .i64 0), (.int .i64 0), (.slice none 0 0), (.int .i64 0), (.int .i64 0), (.int .i64 0), (.int .i64 0), (.int .i64 0), (.int .i64 0)]), 104) := by kernel_rfl
instance : TyI Tryz.prog 122 true 11 [(.int .i64 0), (.int .i64 0), (.int .i64 0), (.int .i64 0), (.slice none 0 0), (.int .i64 0), (.int .i64 0), (.int .i64 0), (.int .i64 0), (.int .i64 0), (.int .i64 0)] := ⟨_, _, tf122, rfl⟩
instance : BdI Tryz.prog 122 [(0, 1), (1, 1), (2, 2), (4, 1), (5, 3), (8, 3)] := ⟨by kernel_rfl⟩
instance : FdI Tryz.prog 122 0 0 false 1 := ⟨by kernel_rfl, by decide⟩
instance : FdI Tryz.prog 122 1 1 false 1 := ⟨by kernel_rfl, by decide⟩
instance : FdI Tryz.prog 122 2 2 true 2 := ⟨by kernel_rfl, by decide⟩
instance : FdI Tryz.prog 122 3 4 false 1 := ⟨by kernel_rfl, by decide⟩
instance : FdI Tryz.prog 122 4 5 true 3 := ⟨by kernel_rfl, by decide⟩
instance : FdI Tryz.prog 122 5 8 true 3 := ⟨by kernel_rfl, by decide⟩
theorem tf124 : tyF Tryz.prog 124 = some (false, 1, some .nilFunc, 8) := by kernel_rfl
instance : TyI Tryz.prog 124 false 1 [.nilFunc] := ⟨_, _, tf124, rfl⟩
theorem tf125 : tyF Tryz.prog 125 = some (false, 1, some .nilFunc, 8) := by kernel_rfl
instance : TyI Tryz.prog 125 false 1 [.nilFunc] := ⟨_, _, tf125, rfl⟩
theorem tf126 : tyF Tryz.prog 126 = some (true, 4, some (.agg #[(.int .i64 0), (.int .i64 0), (.int .i64 0), (.int .i64 0)]), 32) := by kernel_rfl
instance : TyI Tryz.prog 126 true 4 [(.int .i64 0), (.int .i64 0), (.int .i64 0), (.int .i64 0)] := ⟨_, _, tf126, rfl⟩
instance : EqI Tryz.prog 126 4 := ⟨by kernel_rfl, by kernel_rfl⟩
instance : BdI Tryz.prog 126 [(0, 2), (2, 2)] := ⟨by kernel_rfl⟩
instance : FdI Tryz.prog 126 0 0 true 2 := ⟨by kernel_rfl, by decide⟩
instance : FdI Tryz.prog 126 1 2 true 2 := ⟨by kernel_rfl, by decide⟩
theorem tf127 : tyF Tryz.prog 127 = some (true, 4, some (.agg #[(.int .i64 0), (.int .i64 0), (.int .i64 0), (.int .i64 0)]), 32) := by kernel_rfl
instance : TyI Tryz.prog 127 true 4 [(.int .i64 0), (.int .i64 0), (.int .i64 0), (.int .i64 0)] := ⟨_, _, tf127, rfl⟩
instance : EqI Tryz.prog 127 4 := ⟨by kernel_rfl, by kernel_rfl⟩
instance : BdI Tryz.prog 127 [(0, 2), (2, 2)] := ⟨by kernel_rfl⟩
instance : FdI Tryz.prog 127 0 0 true 2 := ⟨by kernel_rfl, by decide⟩
instance : FdI Tryz.prog 127 1 2 true 2 := ⟨by kernel_rfl, by decide⟩
theorem tf129 : tyF Tryz.prog 129 = some (false, 1, some .nilFunc, 8) := by kernel_rfl
instance : TyI Tryz.prog 129 false 1 [.nilFunc] := ⟨_, _, tf129, rfl⟩
theorem tf130 : tyF Tryz.prog 130 = some (false, 1, some .nilFunc, 8) := by kernel_rfl
instance : TyI Tryz.prog 130 false 1 [.nilFunc] := ⟨_, _, tf130, rfl⟩
theorem tf132 : tyF Tryz.prog 132 = some (false, 1, some .nilFunc, 8) := by kernel_rfl
instance : TyI Tryz.prog 132 false 1 [.nilFunc] := ⟨_, _, tf132, rfl⟩
theorem tf134 : tyF Tryz.prog 134 = some (false, 1, some .nilFunc, 8) := by kernel_rfl
instance : TyI Tryz.prog 134 false 1 [.nilFunc] := ⟨_, _, tf134, rfl⟩
theorem tf135 : tyF Tryz.prog 135 = some (false, 1, some .nilFunc, 8) := by kernel_rfl
instance : TyI Tryz.prog 135 false 1 [.nilFunc] := ⟨_, _, tf135, rfl⟩
theorem tf136 : tyF Tryz.prog 136 = some (false, 1, some .nilFunc, 8) := by kernel_rfl
instance : TyI Tryz.prog 136 false 1 [.nilFunc] := ⟨_, _, tf136, rfl⟩
theorem tf137 : tyF Tryz.prog 137 = some (false, 1, some .nilFunc, 8) := by kernel_rfl
instance : TyI Tryz.prog 137 false 1 [.nilFunc] := ⟨_, _, tf137, rfl⟩
theorem tf138 : tyF Tryz.prog 138 = some (false, 1, some .nilFunc, 8) := by kernel_rfl
instance : TyI Tryz.prog 138 false 1 [.nilFunc] := ⟨_, _, tf138, rfl⟩
theorem tf140 : tyF Tryz.prog 140 = some (false, 1, some .nilFunc, 8) := by kernel_rfl
instance : TyI Tryz.prog 140 false 1 [.nilFunc] := ⟨_, _, tf140, rfl⟩
theorem tf141 : tyF Tryz.prog 141 = some (false, 1, some .nilFunc, 8) := by kernel_rfl
instance : TyI Tryz.prog 141 false 1 [.nilFunc] := ⟨_, _, tf141, rfl⟩
theorem tf142 : tyF Tryz.prog 142 = some (false, 1, some (.slice none 0 0), 24) := by kernel_rfl
instance : TyI Tryz.prog 142 false 1 [(.slice none 0 0)] := ⟨_, _, tf142, rfl⟩
instance : ElI Tryz.prog 142 145 true 3 24 [(.int .i64 0), (.int .i64 0), (.int .i64 0)] := ⟨(.agg #[(.int .i64 0), (.int .i64 0), (.int .i64 0)]), by kernel_rfl, rfl⟩
theorem tf143 : tyF Tryz.prog 143 = some (false, 1, some .nilFunc, 8) := by kernel_rfl
instance : TyI Tryz.prog 143 false 1 [.nilFunc] := ⟨_, _, tf143, rfl⟩
theorem tf144 : tyF Tryz.prog 144 = some (true, 3, some (.agg #[(.int .i64 0), (.int .i64 0), (.int .i64 0)]), 24) := by kernel_rfl
instance : TyI Tryz.prog 144 true 3 [(.int .i64 0), (.int .i64 0), (.int .i64 0)] := ⟨_, _, tf144, rfl⟩
instance : EqI Tryz.prog 144 3 := ⟨by kernel_rfl, by kernel_rfl⟩
instance : BdI Tryz.prog 144 [(0, 1), (1, 2)] := ⟨by kernel_rfl⟩
instance : FdI Tryz.prog 144 0 0 false 1 := ⟨by kernel_rfl, by decide⟩
instance : FdI Tryz.prog 144 1 1 true 2 := ⟨by kernel_rfl, by decide⟩
theorem tf145 : tyF Tryz.prog 145 = some (true, 3, some (.agg #[(.int .i64 0), (.int .i64 0), (.int .i64 0)]), 24) := by kernel_rfl
instance : TyI Tryz.prog 145 true 3 [(.int .i64 0), (.int .i64 0), (.int .i64 0)] := ⟨_, _, tf145, rfl⟩
instance : EqI Tryz.prog 145 3 := ⟨by kernel_rfl, by kernel_rfl⟩
instance : BdI Tryz.prog 145 [(0, 1), (1, 2)] := ⟨by kernel_rfl⟩
instance : FdI Tryz.prog 145 0 0 false 1 := ⟨by kernel_rfl, by decide⟩
instance : FdI Tryz.prog 145 1 1 true 2 := ⟨by kernel_rfl, by decide⟩
theorem tf146 : tyF Tryz.prog 146 = some (false, 1, some .nilFunc, 8) := by kernel_rfl
instance : TyI Tryz.prog 146 false 1 [.nilFunc] := ⟨_, _, tf146, rfl⟩
theorem tf147 : tyF Tryz.prog 147 = some (false, 1, some .nilFunc, 8) := by kernel_rfl
instance : TyI Tryz.prog 147 false 1 [.nilFunc] := ⟨_, _, tf147, rfl⟩
theorem tf148 : tyF Tryz.prog 148 = some (false, 1, some .nilFunc, 8) := by kernel_rfl
instance : TyI Tryz.prog 148 false 1 [.nilFunc] := ⟨_, _, tf148, rfl⟩
theorem tf149 : tyF Tryz.prog 149 = some (false, 1, some .nilFunc, 8) := by kernel_rfl
instance : TyI Tryz.prog 149 false 1 [.nilFunc] := ⟨_, _, tf149, rfl⟩
theorem tf150 : tyF Tryz.prog 150 = some (false, 1, some .nilFunc, 8) := by kernel_rfl
instance : TyI Tryz.prog 150 false 1 [.nilFunc] := ⟨_, _, tf150, rfl⟩
theorem tf151 : tyF Tryz.prog 151 = some (false, 1, some .nilFunc, 8) := by kernel_rfl
instance : TyI Tryz.prog 151 false 1 [.nilFunc] := ⟨_, _, tf151, rfl⟩
theorem tf152 : tyF Tryz.prog 152 = some (false, 1, some .nilFunc, 8) := by kernel_rfl
instance : TyI Tryz.prog 152 false 1 [.nilFunc] := ⟨_, _, tf152, rfl⟩
theorem tf153 : tyF Tryz.prog 153 = some (false, 1, some .nilFunc, 8) := by kernel_rfl
instance : TyI Tryz.prog 153 false 1 [.nilFunc] := ⟨_, _, tf153, rfl⟩
theorem tf154 : tyF Tryz.prog 154 = some (true, 6, some (.agg #[(.slice none 0 0), (.int .i64 0), (.int .i64 0), (.int .i64 0), (.slice none 0 0), (.slice none 0 0)]), 96) := by kernel_rfl
instance : TyI Tryz.prog 154 true 6 [(.slice none 0 0), (.int .i64 0), (.int .i64 0), (.int .i64 0), (.slice none 0 0), (.slice none 0 0)] := ⟨_, _, tf154, rfl⟩
instance : BdI Tryz.prog 154 [(0, 5), (5, 1)] := ⟨by kernel_rfl⟩
instance : FdI Tryz.prog 154 0 0 true 5 := ⟨by kernel_rfl, by decide⟩
instance : FdI Tryz.prog 154 1 5 false 1 := ⟨by kernel_rfl, by decide⟩
theorem tf155 : tyF Tryz.prog 155 = some (true, 6, some (.agg #[(.slice none 0 0), (.int .i64 0), (.int .i64 0), (.int .i64 0), (.slice none 0 0), (.slice none 0 0)]), 96) := by kernel_rfl
instance : TyI Tryz.prog 155 true 6 [(.slice none 0 0), (.int .i64 0), (.int .i64 0), (.int .i64 0), (.slice none 0 0), (.slice none 0 0)] := ⟨_, _, tf155, rfl⟩
instance : BdI Tryz.prog 155 [(0, 5), (5, 1)] := ⟨by kernel_rfl⟩
instance : FdI Tryz.prog 155 0 0 true 5 := ⟨by kernel_rfl, by decide⟩
instance : FdI Tryz.prog 155 1 5 false 1 := ⟨by kernel_rfl, by decide⟩
theorem tf157 : tyF Tryz.prog 157 = some (false, 1, some .nilFunc, 8) := by kernel_rfl
instance : TyI Tryz.prog 157 false 1 [.nilFunc] := ⟨_, _, tf157, rfl⟩
theorem tf158 : tyF Tryz.prog 158 = some (false, 1, some .nilFunc, 8) := by kernel_rfl
instance : TyI Tryz.prog 158 false 1 [.nilFunc] := ⟨_, _, tf158, rfl⟩
theorem tf159 : tyF Tryz.prog 159 = some (false, 1, some .nilFunc, 8) := by kernel_rfl
instance : TyI Tryz.prog 159 false 1 [.nilFunc] := ⟨_, _, tf159, rfl⟩
theorem tf160 : tyF Tryz.prog 160 = some (false, 1, some .nilFunc, 8) := by kernel_rfl
instance : TyI Tryz.prog 160 false 1 [.nilFunc] := ⟨_, _, tf160, rfl⟩
theorem tf161 : tyF Tryz.prog 161 = some (false, 1, some .nilFunc, 8) := by kernel_rfl
instance : TyI Tryz.prog 161 false 1 [.nilFunc] := ⟨_, _, tf161, rfl⟩
theorem tf162 : tyF Tryz.prog 162 = some (false, 1, some .nilFunc, 8) := by kernel_rfl
instance : TyI Tryz.prog 162 false 1 [.nilFunc] := ⟨_, _, tf162, rfl⟩
theorem tf163 : tyF Tryz.prog 163 = some (false, 1, some (.map none), 8) := by kernel_rfl
instance : TyI Tryz.prog 163 false 1 [(.map none)] := ⟨_, _, tf163, rfl⟩
theorem tf164 : tyF Tryz.prog 164 = some (false, 1, some .nilFunc, 8) := by kernel_rfl
instance : TyI Tryz.prog 164 false 1 [.nilFunc] := ⟨_, _, tf164, rfl⟩
theorem tf165 : tyF Tryz.prog 165 = some (true, 3, some (.agg #[(.int .i64 0), (.int .i64 0), (.int .i64 0)]), 24) := by kernel_rfl
instance : TyI Tryz.prog 165 true 3 [(.int .i64 0), (.int .i64 0), (.int .i64 0)] := ⟨_, _, tf165, rfl⟩
instance : EqI Tryz.prog 165 3 := ⟨by kernel_rfl, by kernel_rfl⟩
instance : ArI Tryz.prog 165 3 3 false 1 := ⟨by kernel_rfl⟩
theorem tf166 : tyF Tryz.prog 166 = some (true, 3, some (.agg #[(.int .i64 0), (.int .i64 0), (.int .i64 0)]), 24) := by kernel_rfl
instance : TyI Tryz.prog 166 true 3 [(.int .i64 0), (.int .i64 0), (.int .i64 0)] := ⟨_, _, tf166, rfl⟩
instance : EqI Tryz.prog 166 3 := ⟨by kernel_rfl, by kernel_rfl⟩
instance : ArI Tryz.prog 166 3 3 false 1 := ⟨by kernel_rfl⟩
theorem tf167 : tyF Tryz.prog 167 = some (false, 1, some .nilFunc, 8) := by kernel_rfl
instance : TyI Tryz.prog 167 false 1 [.nilFunc] := ⟨_, _, tf167, rfl⟩
theorem tf168 : tyF Tryz.prog 168 = some (false, 1, some (.slice none 0 0), 24) := by kernel_rfl
instance : TyI Tryz.prog 168 false 1 [(.slice none 0 0)] := ⟨_, _, tf168, rfl⟩
instance : ElI Tryz.prog 168 38 false 1 24 [(.slice none 0 0)] := ⟨(.slice none 0 0), by kernel_rfl, rfl⟩
theorem tf169 : tyF Tryz.prog 169 = some (false, 1, some .nilFunc, 8) := by kernel_rfl
instance : TyI Tryz.prog 169 false 1 [.nilFunc] := ⟨_, _, tf169, rfl⟩
theorem tf170 : tyF Tryz.prog 170 = some (false, 1, some .nilFunc, 8) := by kernel_rfl
instance : TyI Tryz.prog 170 false 1 [.nilFunc] := ⟨_, _, tf170, rfl⟩
theorem tf171 : tyF Tryz.prog 171 = some (false, 1, some .nilFunc, 8) := by kernel_rfl
instance : TyI Tryz.prog 171 false 1 [.nilFunc] := ⟨_, _, tf171, rfl⟩
theorem tf172 : tyF Tryz.prog 172 = some (false, 1, some .nilFunc, 8) := by kernel_rfl
instance : TyI Tryz.prog 172 false 1 [.nilFunc] := ⟨_, _, tf172, rfl⟩
theorem tf173 : tyF Tryz.prog 173 = some (false, 1, some .nilFunc, 8) := by kernel_rfl
instance : TyI Tryz.prog 173 false 1 [.nilFunc] := ⟨_, _, tf173, rfl⟩
theorem tf174 : tyF Tryz.prog 174 = some (false, 1, some .nilFunc, 8) := by kernel_rfl
instance : TyI Tryz.prog 174 false 1 [.nilFunc] := ⟨_, _, tf174, rfl⟩
theorem tf175 : tyF Tryz.prog 175 = some (false, 1, some .nilFunc, 8) := by kernel_rfl
instance : TyI Tryz.prog 175 false 1 [.nilFunc] := ⟨_, _, tf175, rfl⟩
theorem tf176 : tyF Tryz.prog 176 = some (false, 1, some .nilFunc, 8) := by kernel_rfl
instance : TyI Tryz.prog 176 false 1 [.nilFunc] := ⟨_, _, tf176, rfl⟩
theorem tf177 : tyF Tryz.prog 177 = some (false, 1, some .nilFunc, 8) := by kernel_rfl
instance : TyI Tryz.prog 177 false 1 [.nilFunc] := ⟨_, _, tf177, rfl⟩
theorem tf178 : tyF Tryz.prog 178 = some (false, 1, some .nilFunc, 8) := by kernel_rfl
instance : TyI Tryz.prog 178 false 1 [.nilFunc] := ⟨_, _, tf178, rfl⟩
theorem tf179 : tyF Tryz.prog 179 = some (false, 1, some .nilFunc, 8) := by kernel_rfl
instance : TyI Tryz.prog 179 false 1 [.nilFunc] := ⟨_, _, tf179, rfl⟩
theorem tf180 : tyF Tryz.prog 180 = some (false, 1, some (.slice none 0 0), 24) := by kernel_rfl
instance : TyI Tryz.prog 180 false 1 [(.slice none 0 0)] := ⟨_, _, tf180, rfl⟩
instance : ElI Tryz.prog 180 125 false 1 8 [.nilFunc] := ⟨.nilFunc, by kernel_rfl, rfl⟩
theorem tf181 : tyF Tryz.prog 181 = some (false, 1, some .nilFunc, 8) := by kernel_rfl
instance : TyI Tryz.prog 181 false 1 [.nilFunc] := ⟨_, _, tf181, rfl⟩
theorem tf182 : tyF Tryz.prog 182 = some (false, 1, some .nilFunc, 8) := by kernel_rfl
instance : TyI Tryz.prog 182 false 1 [.nilFunc] := ⟨_, _, tf182, rfl⟩
theorem tf183 : tyF Tryz.prog 183 = some (false, 1, some (.slice none 0 0), 24) := by kernel_rfl
instance : TyI Tryz.prog 183 false 1 [(.slice none 0 0)] := ⟨_, _, tf183, rfl⟩
instance : ElI Tryz.prog 183 127 true 4 32 [(.int .i64 0), (.int .i64 0), (.int .i64 0), (.int .i64 0)] := ⟨(.agg #[(.int .i64 0), (.int .i64 0), (.int .i64 0), (.int .i64 0)]), by kernel_rfl, rfl⟩
theorem tf184 : tyF Tryz.prog 184 = some (false, 1, some .nilFunc, 8) := by kernel_rfl
instance : TyI Tryz.prog 184 false 1 [.nilFunc] := ⟨_, _, tf184, rfl⟩
theorem tf185 : tyF Tryz.prog 185 = some (false, 1, some .nilFunc, 8) := by kernel_rfl
instance : TyI Tryz.prog 185 false 1 [.nilFunc] := ⟨_, _, tf185, rfl⟩
theorem tf186 : tyF Tryz.prog 186 = some (false, 1, some .nilFunc, 8) := by kernel_rfl
instance : TyI Tryz.prog 186 false 1 [.nilFunc] := ⟨_, _, tf186, rfl⟩
theorem tf187 : tyF Tryz.prog 187 = some (false, 1, some .nilFunc, 8) := by kernel_rfl
instance : TyI Tryz.prog 187 false 1 [.nilFunc] := ⟨_, _, tf187, rfl⟩
theorem tf188 : tyF Tryz.prog 188 = some (false, 1, some .nilFunc, 8) := by kernel_rfl
instance : TyI Tryz.prog 188 false 1 [.nilFunc] := ⟨_, _, tf188, rfl⟩
theorem tf189 : tyF Tryz.prog 189 = some (false, 1, some .nilFunc, 8) := by kernel_rfl
instance : TyI Tryz.prog 189 false 1 [.nilFunc] := ⟨_, _, tf189, rfl⟩
theorem tf190 : tyF Tryz.prog 190 = some (false, 1, some .nilFunc, 8) := by kernel_rfl
instance : TyI Tryz.prog 190 false 1 [.nilFunc] := ⟨_, _, tf190, rfl⟩
theorem tf191 : tyF Tryz.prog 191 = some (false, 1, some .nilFunc, 8) := by kernel_rfl
instance : TyI Tryz.prog 191 false 1 [.nilFunc] := ⟨_, _, tf191, rfl⟩
theorem tf192 : tyF Tryz.prog 192 = some (false, 1, some .nilFunc, 8) := by kernel_rfl
instance : TyI Tryz.prog 192 false 1 [.nilFunc] := ⟨_, _, tf192, rfl⟩
theorem tf193 : tyF Tryz.prog 193 = some (false, 1, some .nilFunc, 8) := by kernel_rfl
instance : TyI Tryz.prog 193 false 1 [.nilFunc] := ⟨_, _, tf193, rfl⟩
theorem tf194 : tyF Tryz.prog 194 = some (false, 1, some .nilFunc, 8) := by kernel_rfl
instance : TyI Tryz.prog 194 false 1 [.nilFunc] := ⟨_, _, tf194, rfl⟩
theorem tf195 : tyF Tryz.prog 195 = some (false, 1, some (.int .u64 0), 8) := by kernel_rfl
instance : TyI Tryz.prog 195 false 1 [(.int .u64 0)] := ⟨_, _, tf195, rfl⟩
theorem tf196 : tyF Tryz.prog 196 = some (false, 1, some (.chan none), 8) := by kernel_rfl
instance : TyI Tryz.prog 196 false 1 [(.chan none)] := ⟨_, _, tf196, rfl⟩
theorem tf197 : tyF Tryz.prog 197 = some (false, 1, some (.chan none), 8) := by kernel_rfl
instance : TyI Tryz.prog 197 false 1 [(.chan none)] := ⟨_, _, tf197, rfl⟩
theorem tf198 : tyF Tryz.prog 198 = some (true, 5, some (.agg #[(.int .i64 0), (.int .i64 0), (.int .i64 0), (.int .i64 0), (.int .i64 0)]), 40) := by kernel_rfl
instance : TyI Tryz.prog 198 true 5 [(.int .i64 0), (.int .i64 0), (.int .i64 0), (.int .i64 0), (.int .i64 0)] := ⟨_, _, tf198, rfl⟩
instance : EqI Tryz.prog 198 5 := ⟨by kernel_rfl, by kernel_rfl⟩
instance : BdI Tryz.prog 198 [(0, 2), (2, 3)] := ⟨by kernel_rfl⟩
instance : FdI Tryz.prog 198 0 0 true 2 := ⟨by kernel_rfl, by decide⟩
instance : FdI Tryz.prog 198 1 2 true 3 := ⟨by kernel_rfl, by decide⟩
theorem tf199 : tyF Tryz.prog 199 = some (true, 5, some (.agg #[(.int .i64 0), (.int .i64 0), (.int .i64 0), (.int .i64 0), (.int .i64 0)]), 40) := by kernel_rfl
instance : TyI Tryz.prog 199 true 5 [(.int .i64 0), (.int .i64 0), (.int .i64 0), (.int .i64 0), (.int .i64 0)] := ⟨_, _, tf199, rfl⟩
instance : EqI Tryz.prog 199 5 := ⟨by kernel_rfl, by kernel_rfl⟩
instance : BdI Tryz.prog 199 [(0, 2), (2, 3)] := ⟨by kernel_rfl⟩
instance : FdI Tryz.prog 199 0 0 true 2 := ⟨by kernel_rfl, by decide⟩
instance : FdI Tryz.prog 199 1 2 true 3 := ⟨by kernel_rfl, by decide⟩
theorem tf200 : tyF Tryz.prog 200 = some (false, 1, some .nilFunc, 8) := by kernel_rfl
instance : TyI Tryz.prog 200 false 1 [.nilFunc] := ⟨_, _, tf200, rfl⟩
theorem tf201 : tyF Tryz.prog 201 = some (false, 1, some .nilFunc, 8) := by kernel_rfl
instance : TyI Tryz.prog 201 false 1 [.nilFunc] := ⟨_, _, tf201, rfl⟩
theorem tf202 : tyF Tryz.prog 202 = some (false, 1, some .nilFunc, 8) := by kernel_rfl
instance : TyI Tryz.prog 202 false 1 [.nilFunc] := ⟨_, _, tf202, rfl⟩
theorem tf203 : tyF Tryz.prog 203 = some (false, 1, some .nilFunc, 8) := by kernel_rfl
instance : TyI Tryz.prog 203 false 1 [.nilFunc] := ⟨_, _, tf203, rfl⟩
theorem tf204 : tyF Tryz.prog 204 = some (false, 1, some .nilFunc, 8) := by kernel_rfl
instance : TyI Tryz.prog 204 false 1 [.nilFunc] := ⟨_, _, tf204, rfl⟩
theorem tf205 : tyF Tryz.prog 205 = some (false, 1, some .nilFunc, 8) := by kernel_rfl
instance : TyI Tryz.prog 205 false 1 [.nilFunc] := ⟨_, _, tf205, rfl⟩
theorem tf206 : tyF Tryz.prog 206 = some (false, 1, some .nilFunc, 8) := by kernel_rfl
instance : TyI Tryz.prog 206 false 1 [.nilFunc] := ⟨_, _, tf206, rfl⟩
theorem tf207 : tyF Tryz.prog 207 = some (false, 1, some (.int .i64 0), 8) := by kernel_rfl
instance : TyI Tryz.prog 207 false 1 [(.int .i64 0)] := ⟨_, _, tf207, rfl⟩
theorem tf209 : tyF Tryz.prog 209 = some (false, 1, some .nilFunc, 8) := by kernel_rfl
instance : TyI Tryz.prog 209 false 1 [.nilFunc] := ⟨_, _, tf209, rfl⟩
theorem tf210 : tyF Tryz.prog 210 = some (false, 1, some .nilFunc, 8) := by kernel_rfl
instance : TyI Tryz.prog 210 false 1 [.nilFunc] := ⟨_, _, tf210, rfl⟩
theorem tf211 : tyF Tryz.prog 211 = some (false, 1, some .nilFunc, 8) := by kernel_rfl
instance : TyI Tryz.prog 211 false 1 [.nilFunc] := ⟨_, _, tf211, rfl⟩
theorem tf212 : tyF Tryz.prog 212 = some (false, 1, some .nilFunc, 8) := by kernel_rfl
instance : TyI Tryz.prog 212 false 1 [.nilFunc] := ⟨_, _, tf212, rfl⟩
theorem tf213 : tyF Tryz.prog 213 = some (false, 1, some .nilFunc, 8) := by kernel_rfl
instance : TyI Tryz.prog 213 false 1 [.nilFunc] := ⟨_, _, tf213, rfl⟩
theorem tf214 : tyF Tryz.prog 214 = some (false, 1, some .nilFunc, 8) := by kernel_rfl
instance : TyI Tryz.prog 214 false 1 [.nilFunc] := ⟨_, _, tf214, rfl⟩
theorem tf215 : tyF Tryz.prog 215 = some (false, 1, some (.int .u32 0), 4) := by kernel_rfl
instance : TyI Tryz.prog 215 false 1 [(.int .u32 0)] := ⟨_, _, tf215, rfl⟩
theorem tf216 : tyF Tryz.prog 216 = some (false, 1, some .nilFunc, 8) := by kernel_rfl
instance : TyI Tryz.prog 216 false 1 [.nilFunc] := ⟨_, _, tf216, rfl⟩
theorem tf217 : tyF Tryz.prog 217 = some (false, 1, some (.int .u64 0), 8) := by kernel_rfl
instance : TyI Tryz.prog 217 false 1 [(.int .u64 0)] := ⟨_, _, tf217, rfl⟩
theorem tf218 : tyF Tryz.prog 218 = some (false, 1, some .nilFunc, 8) := by kernel_rfl
instance : TyI Tryz.prog 218 false 1 [.nilFunc] := ⟨_, _, tf218, rfl⟩
theorem tf219 : tyF Tryz.prog 219 = some (false, 1, some (.int .u64 0), 8) := by kernel_rfl
instance : TyI Tryz.prog 219 false 1 [(.int .u64 0)] := ⟨_, _, tf219, rfl⟩
theorem tf220 : tyF Tryz.prog 220 = some (false, 1, some .nilFunc, 8) := by kernel_rfl
instance : TyI Tryz.prog 220 false 1 [.nilFunc] := ⟨_, _, tf220, rfl⟩
theorem tf221 : tyF Tryz.prog 221 = some (false, 1, some .nilFunc, 8) := by kernel_rfl
instance : TyI Tryz.prog 221 false 1 [.nilFunc] := ⟨_, _, tf221, rfl⟩
theorem tf222 : tyF Tryz.prog 222 = some (false, 1, some .nilFunc, 8) := by kernel_rfl
instance : TyI Tryz.prog 222 false 1 [.nilFunc] := ⟨_, _, tf222, rfl⟩
theorem tf223 : tyF Tryz.prog 223 = some (false, 1, some (.pointer none), 8) := by kernel_rfl
instance : TyI Tryz.prog 223 false 1 [(.pointer none)] := ⟨_, _, tf223, rfl⟩
theorem tf224 : tyF Tryz.prog 224 = some (false, 1, some .nilFunc, 8) := by kernel_rfl
instance : TyI Tryz.prog 224 false 1 [.nilFunc] := ⟨_, _, tf224, rfl⟩
theorem tf225 : tyF Tryz.prog 225 = some (false, 1, some (.pointer none), 8) := by kernel_rfl
instance : TyI Tryz.prog 225 false 1 [(.pointer none)] := ⟨_, _, tf225, rfl⟩
theorem tf227 : tyF Tryz.prog 227 = some (false, 1, some .nilFunc, 8) := by kernel_rfl
instance : TyI Tryz.prog 227 false 1 [.nilFunc] := ⟨_, _, tf227, rfl⟩
theorem tf228 : tyF Tryz.prog 228 = some (false, 1, some .nilFunc, 8) := by kernel_rfl
instance : TyI Tryz.prog 228 false 1 [.nilFunc] := ⟨_, _, tf228, rfl⟩
instance : BdI Tryz.prog 229 [(0, 1), (1, 1), (2, 1), (3, 1)] := ⟨by kernel_rfl⟩
instance : FdI Tryz.prog 229 0 0 false 1 := ⟨by kernel_rfl, by decide⟩
instance : FdI Tryz.prog 229 1 1 false 1 := ⟨by kernel_rfl, by decide⟩
instance : FdI Tryz.prog 229 2 2 false 1 := ⟨by kernel_rfl, by decide⟩
instance : FdI Tryz.prog 229 3 3 false 1 := ⟨by kernel_rfl, by decide⟩
instance : BdI Tryz.prog 230 [(0, 1), (1, 1), (2, 1), (3, 1)] := ⟨by kernel_rfl⟩
instance : FdI Tryz.prog 230 0 0 false 1 := ⟨by kernel_rfl, by decide⟩
instance : FdI Tryz.prog 230 1 1 false 1 := ⟨by kernel_rfl, by decide⟩
instance : FdI Tryz.prog 230 2 2 false 1 := ⟨by kernel_rfl, by decide⟩
instance : FdI Tryz.prog 230 3 3 false 1 := ⟨by kernel_rfl, by decide⟩
theorem tf231 : tyF Tryz.prog 231 = some (true, 0, some (.agg #[]), 0) := by kernel_rfl
instance : TyI Tryz.prog 231 true 0 [] := ⟨_, _, tf231, rfl⟩
instance : ArI Tryz.prog 231 0 16 false 1 := ⟨by kernel_rfl⟩
theorem tf232 : tyF Tryz.prog 232 = some (true, 0, some (.agg #[]), 0) := by kernel_rfl
instance : TyI Tryz.prog 232 true 0 [] := ⟨_, _, tf232, rfl⟩
instance : BdI Tryz.prog 232 [(0, 0)] := ⟨by kernel_rfl⟩
theorem tf233 : tyF Tryz.prog 233 = some (true, 0, some (.agg #[]), 0) := by kernel_rfl
instance : TyI Tryz.prog 233 true 0 [] := ⟨_, _, tf233, rfl⟩
instance : BdI Tryz.prog 233 [(0, 0)] := ⟨by kernel_rfl⟩
theorem tf234 : tyF Tryz.prog 234 = some (false, 1, some .nilFunc, 8) := by kernel_rfl
instance : TyI Tryz.prog 234 false 1 [.nilFunc] := ⟨_, _, tf234, rfl⟩
theorem tf235 : tyF Tryz.prog 235 = some (false, 1, some (.int .u8 0), 1) := by kernel_rfl
instance : TyI Tryz.prog 235 false 1 [(.int .u8 0)] := ⟨_, _, tf235, rfl⟩
theorem tf236 : tyF Tryz.prog 236 = some (false, 1, some (.int .u8 0), 1) := by kernel_rfl
instance : TyI Tryz.prog 236 false 1 [(.int .u8 0)] := ⟨_, _, tf236, rfl⟩
theorem tf237 : tyF Tryz.prog 237 = some (false, 1, some .nilFunc, 8) := by kernel_rfl
instance : TyI Tryz.prog 237 false 1 [.nilFunc] := ⟨_, _, tf237, rfl⟩
theorem tf238 : tyF Tryz.prog 238 = some (false, 1, some (.pointer none), 8) := by kernel_rfl
instance : TyI Tryz.prog 238 false 1 [(.pointer none)] := ⟨_, _, tf238, rfl⟩
theorem tf239 : tyF Tryz.prog 239 = some (false, 1, some (.int .i32 0), 4) := by kernel_rfl
instance : TyI Tryz.prog 239 false 1 [(.int .i32 0)] := ⟨_, _, tf239, rfl⟩
theorem tf240 : tyF Tryz.prog 240 = some (false, 1, some (.int .i32 0), 4) := by kernel_rfl
instance : TyI Tryz.prog 240 false 1 [(.int .i32 0)] := ⟨_, _, tf240, rfl⟩
theorem tf241 : tyF Tryz.prog 241 = some (true, 11, some (.agg #[(.int .u64 0), (.int .u64 0), (.int .u32 0), (.int .u8 0), (.int .u8 0), (.int .u8 0), (.int .u8 0), .nilFunc, (.pointer none), (.int .i32 0), (.int .i32 0)]), 48) := by kernel_rfl
instance : TyI Tryz.prog 241 true 11 [(.int .u64 0), (.int .u64 0), (.int .u32 0), (.int .u8 0), (.int .u8 0), (.int .u8 0), (.int .u8 0), .nilFunc, (.pointer none), (.int .i32 0), (.int .i32 0)] := ⟨_, _, tf241, rfl⟩
instance : BdI Tryz.prog 241 [(0, 1), (1, 1), (2, 1), (3, 1), (4, 1), (5, 1), (6, 1), (7, 1), (8, 1), (9, 1), (10, 1)] := ⟨by kernel_rfl⟩
instance : FdI Tryz.prog 241 0 0 false 1 := ⟨by kernel_rfl, by decide⟩
instance : FdI Tryz.prog 241 1 1 false 1 := ⟨by kernel_rfl, by decide⟩
instance : FdI Tryz.prog 241 2 2 false 1 := ⟨by kernel_rfl, by decide⟩
instance : FdI Tryz.prog 241 3 3 false 1 := ⟨by kernel_rfl, by decide⟩
instance : FdI Tryz.prog 241 4 4 false 1 := ⟨by kernel_rfl, by decide⟩
instance : FdI Tryz.prog 241 5 5 false 1 := ⟨by kernel_rfl, by decide⟩
instance : FdI Tryz.prog 241 6 6 false 1 := ⟨by kernel_rfl, by decide⟩
instance : FdI Tryz.prog 241 7 7 false 1 := ⟨by kernel_rfl, by decide⟩
instance : FdI Tryz.prog 241 8 8 false 1 := ⟨by kernel_rfl, by decide⟩
instance : FdI Tryz.prog 241 9 9 false 1 := ⟨by kernel_rfl, by decide⟩
instance : FdI Tryz.prog 241 10 10 false 1 := ⟨by kernel_rfl, by decide⟩
theorem tf242 : tyF Tryz.prog 242 = some (true, 11, some (.agg #[(.int .u64 0), (.int .u64 0), (.int .u32 0), (.int .u8 0), (.int .u8 0), (.int .u8 0), (.int .u8 0), .nilFunc, (.pointer none), (.int .i32 0), (.int .i32 0)]), 48) := by kernel_rfl
instance : TyI Tryz.prog 242 true 11 [(.int .u64 0), (.int .u64 0), (.int .u32 0), (.int .u8 0), (.int .u8 0), (.int .u8 0), (.int .u8 0), .nilFunc, (.pointer none), (.int .i32 0), (.int .i32 0)] := ⟨_, _, tf242, rfl⟩
instance : BdI Tryz.prog 242 [(0, 1), (1, 1), (2, 1), (3, 1), (4, 1), (5, 1), (6, 1), (7, 1), (8, 1), (9, 1), (10, 1)] := ⟨by kernel_rfl⟩
instance : FdI Tryz.prog 242 0 0 false 1 := ⟨by kernel_rfl, by decide⟩
instance : FdI Tryz.prog 242 1 1 false 1 := ⟨by kernel_rfl, by decide⟩
instance : FdI Tryz.prog 242 2 2 false 1 := ⟨by kernel_rfl, by decide⟩
instance : FdI Tryz.prog 242 3 3 false 1 := ⟨by kernel_rfl, by decide⟩
instance : FdI Tryz.prog 242 4 4 false 1 := ⟨by kernel_rfl, by decide⟩
instance : FdI Tryz.prog 242 5 5 false 1 := ⟨by kernel_rfl, by decide⟩
instance : FdI Tryz.prog 242 6 6 false 1 := ⟨by kernel_rfl, by decide⟩
instance : FdI Tryz.prog 242 7 7 false 1 := ⟨by kernel_rfl, by decide⟩
instance : FdI Tryz.prog 242 8 8 false 1 := ⟨by kernel_rfl, by decide⟩
instance : FdI Tryz.prog 242 9 9 false 1 := ⟨by kernel_rfl, by decide⟩
instance : FdI Tryz.prog 242 10 10 false 1 := ⟨by kernel_rfl, by decide⟩
theorem tf243 : tyF Tryz.prog 243 = some (false, 1, some (.pointer none), 8) := by kernel_rfl
instance : TyI Tryz.prog 243 false 1 [(.pointer none)] := ⟨_, _, tf243, rfl⟩
instance : HB Tryz.prog 3 := ⟨_, Tryz.func3, rfl, rfl⟩
instance : HB Tryz.prog 4 := ⟨_, Tryz.func4, rfl, rfl⟩
instance : HB Tryz.prog 5 := ⟨_, Tryz.func5, rfl, rfl⟩
instance : HB Tryz.prog 6 := ⟨_, Tryz.func6, rfl, rfl⟩
instance : HB Tryz.prog 7 := ⟨_, Tryz.func7, rfl, rfl⟩
instance : HB Tryz.prog 8 := ⟨_, Tryz.func8, rfl, rfl⟩
instance : HB Tryz.prog 9 := ⟨_, Tryz.func9, rfl, rfl⟩
instance : HB Tryz.prog 10 := ⟨_, Tryz.func10, rfl, rfl⟩
instance : HB Tryz.prog 11 := ⟨_, Tryz.func11, rfl, rfl⟩
instance : HB Tryz.prog 12 := ⟨_, Tryz.func12, rfl, rfl⟩
instance : HB Tryz.prog 13 := ⟨_, Tryz.func13, rfl, rfl⟩
instance : HB Tryz.prog 14 := ⟨_, Tryz.func14, rfl, rfl⟩
instance : HB Tryz.prog 15 := ⟨_, Tryz.func15, rfl, rfl⟩
instance : HB Tryz.prog 16 := ⟨_, Tryz.func16, rfl, rfl⟩
instance : HB Tryz.prog 17 := ⟨_, Tryz.func17, rfl, rfl⟩
instance : HB Tryz.prog 18 := ⟨_, Tryz.func18, rfl, rfl⟩
instance : HB Tryz.prog 19 := ⟨_, Tryz.func19, rfl, rfl⟩
instance : HB Tryz.prog 20 := ⟨_, Tryz.func20, rfl, rfl⟩
instance : HB Tryz.prog 21 := ⟨_, Tryz.func21, rfl, rfl⟩
instance : HB Tryz.prog 22 := ⟨_, Tryz.func22, rfl, rfl⟩
instance : HB Tryz.prog 23 := ⟨_, Tryz.func23, rfl, rfl⟩
instance : HB Tryz.prog 24 := ⟨_, Tryz.func24, rfl, rfl⟩
instance : HB Tryz.prog 25 := ⟨_, Tryz.func25, rfl, rfl⟩
instance : HB Tryz.prog 26 := ⟨_, Tryz.func26, rfl, rfl⟩
instance : HB Tryz.prog 27 := ⟨_, Tryz.func27, rfl, rfl⟩
instance : HB Tryz.prog 28 := ⟨_, Tryz.func28, rfl, rfl⟩
instance : HB Tryz.prog 29 := ⟨_, Tryz.func29, rfl, rfl⟩
instance : HB Tryz.prog 30 := ⟨_, Tryz.func30, rfl, rfl⟩
instance : HB Tryz.prog 31 := ⟨_, Tryz.func31, rfl, rfl⟩
instance : HB Tryz.prog 32 := ⟨_, Tryz.func32, rfl, rfl⟩
instance : HB Tryz.prog 33 := ⟨_, Tryz.func33, rfl, rfl⟩
instance : HB Tryz.prog 34 := ⟨_, Tryz.func34, rfl, rfl⟩
instance : HB Tryz.prog 35 := ⟨_, Tryz.func35, rfl, rfl⟩
instance : HB Tryz.prog 36 := ⟨_, Tryz.func36, rfl, rfl⟩
instance : HB Tryz.prog 37 := ⟨_, Tryz.func37, rfl, rfl⟩
instance : HB Tryz.prog 38 := ⟨_, Tryz.func38, rfl, rfl⟩
instance : HB Tryz.prog 39 := ⟨_, Tryz.func39, rfl, rfl⟩
instance : HB Tryz.prog 40 := ⟨_, Tryz.func40, rfl, rfl⟩
instance : HB Tryz.prog 41 := ⟨_, Tryz.func41, rfl, rfl⟩
instance : HB Tryz.prog 42 := ⟨_, Tryz.func42, rfl, rfl⟩
instance : HB Tryz.prog 43 := ⟨_, Tryz.func43, rfl, rfl⟩
instance : HB Tryz.prog 44 := ⟨_, Tryz.func44, rfl, rfl⟩
instance : HB Tryz.prog 45 := ⟨_, Tryz.func45, rfl, rfl⟩
instance : HB Tryz.prog 46 := ⟨_, Tryz.func46, rfl, rfl⟩
instance : HB Tryz.prog 47 := ⟨_, Tryz.func47, rfl, rfl⟩
instance : HB Tryz.prog 48 := ⟨_, Tryz.func48, rfl, rfl⟩
instance : HB Tryz.prog 49 := ⟨_, Tryz.func49, rfl, rfl⟩
instance : HB Tryz.prog 50 := ⟨_, Tryz.func50, rfl, rfl⟩
instance : HB Tryz.prog 51 := ⟨_, Tryz.func51, rfl, rfl⟩
instance : HB Tryz.prog 52 := ⟨_, Tryz.func52, rfl, rfl⟩
instance : HB Tryz.prog 53 := ⟨_, Tryz.func53, rfl, rfl⟩
instance : HB Tryz.prog 54 := ⟨_, Tryz.func54, rfl, rfl⟩
instance : HB Tryz.prog 55 := ⟨_, Tryz.func55, rfl, rfl⟩
instance : HB Tryz.prog 56 := ⟨_, Tryz.func56, rfl, rfl⟩
instance : HB Tryz.prog 57 := ⟨_, Tryz.func57, rfl, rfl⟩
instance : HB Tryz.prog 58 := ⟨_, Tryz.func58, rfl, rfl⟩
instance : HB Tryz.prog 59 := ⟨_, Tryz.func59, rfl, rfl⟩
instance : HB Tryz.prog 60 := ⟨_, Tryz.func60, rfl, rfl⟩
instance : HB Tryz.prog 61 := ⟨_, Tryz.func61, rfl, rfl⟩
instance : HB Tryz.prog 62 := ⟨_, Tryz.func62, rfl, rfl⟩
instance : HB Tryz.prog 63 := ⟨_, Tryz.func63, rfl, rfl⟩
instance : HB Tryz.prog 64 := ⟨_, Tryz.func64, rfl, rfl⟩
instance : HB Tryz.prog 65 := ⟨_, Tryz.func65, rfl, rfl⟩
instance : HB Tryz.prog 66 := ⟨_, Tryz.func66, rfl, rfl⟩
instance : HB Tryz.prog 67 := ⟨_, Tryz.func67, rfl, rfl⟩
instance : HB Tryz.prog 68 := ⟨_, Tryz.func68, rfl, rfl⟩
instance : HB Tryz.prog 69 := ⟨_, Tryz.func69, rfl, rfl⟩
instance : HB Tryz.prog 70 := ⟨_, Tryz.func70, rfl, rfl⟩
instance : HB Tryz.prog 71 := ⟨_, Tryz.func71, rfl, rfl⟩
instance : HB Tryz.prog 72 := ⟨_, Tryz.func72, rfl, rfl⟩
instance : HB Tryz.prog 73 := ⟨_, Tryz.func73, rfl, rfl⟩
instance : HB Tryz.prog 74 := ⟨_, Tryz.func74, rfl, rfl⟩
instance : HB Tryz.prog 75 := ⟨_, Tryz.func75, rfl, rfl⟩
instance : HB Tryz.prog 76 := ⟨_, Tryz.func76, rfl, rfl⟩
instance : HB Tryz.prog 77 := ⟨_, Tryz.func77, rfl, rfl⟩
instance : HB Tryz.prog 78 := ⟨_, Tryz.func78, rfl, rfl⟩
instance : HB Tryz.prog 79 := ⟨_, Tryz.func79, rfl, rfl⟩
instance : HB Tryz.prog 80 := ⟨_, Tryz.func80, rfl, rfl⟩
instance : HB Tryz.prog 81 := ⟨_, Tryz.func81, rfl, rfl⟩
instance : HB Tryz.prog 82 := ⟨_, Tryz.func82, rfl, rfl⟩
instance : HB Tryz.prog 83 := ⟨_, Tryz.func83, rfl, rfl⟩
instance : HB Tryz.prog 84 := ⟨_, Tryz.func84, rfl, rfl⟩
instance : HB Tryz.prog 85 := ⟨_, Tryz.func85, rfl, rfl⟩
instance : HB Tryz.prog 86 := ⟨_, Tryz.func86, rfl, rfl⟩
instance : HB Tryz.prog 87 := ⟨_, Tryz.func87, rfl, rfl⟩
instance : HB Tryz.prog 88 := ⟨_, Tryz.func88, rfl, rfl⟩
instance : HB Tryz.prog 89 := ⟨_, Tryz.func89, rfl, rfl⟩
instance : HB Tryz.prog 90 := ⟨_, Tryz.func90, rfl, rfl⟩
instance : HB Tryz.prog 91 := ⟨_, Tryz.func91, rfl, rfl⟩
instance : HB Tryz.prog 92 := ⟨_, Tryz.func92, rfl, rfl⟩
instance : HB Tryz.prog 93 := ⟨_, Tryz.func93, rfl, rfl⟩
instance : HB Tryz.prog 94 := ⟨_, Tryz.func94, rfl, rfl⟩
instance : HB Tryz.prog 95 := ⟨_, Tryz.func95, rfl, rfl⟩
instance : HB Tryz.prog 96 := ⟨_, Tryz.func96, rfl, rfl⟩
instance : HB Tryz.prog 97 := ⟨_, Tryz.func97, rfl, rfl⟩
instance : HB Tryz.prog 98 := ⟨_, Tryz.func98, rfl, rfl⟩
instance : HB Tryz.prog 99 := ⟨_, Tryz.func99, rfl, rfl⟩
instance : HB Tryz.prog 100 := ⟨_, Tryz.func100, rfl, rfl⟩
instance : HB Tryz.prog 101 := ⟨_, Tryz.func101, rfl, rfl⟩
instance : HB Tryz.prog 102 := ⟨_, Tryz.func102, rfl, rfl⟩
instance : HB Tryz.prog 103 := ⟨_, Tryz.func103, rfl, rfl⟩
instance : HB Tryz.prog 104 := ⟨_, Tryz.func104, rfl, rfl⟩
instance : HB Tryz.prog 105 := ⟨_, Tryz.func105, rfl, rfl⟩
instance : HB Tryz.prog 106 := ⟨_, Tryz.func106, rfl, rfl⟩
instance : HB Tryz.prog 107 := ⟨_, Tryz.func107, rfl, rfl⟩
instance : HB Tryz.prog 108 := ⟨_, Tryz.func108, rfl, rfl⟩
instance : HB Tryz.prog 109 := ⟨_, Tryz.func109, rfl, rfl⟩
instance : HB Tryz.prog 110 := ⟨_, Tryz.func110, rfl, rfl⟩
instance : HB Tryz.prog 111 := ⟨_, Tryz.func111, rfl, rfl⟩
instance : HB Tryz.prog 112 := ⟨_, Tryz.func112, rfl, rfl⟩
instance : HB Tryz.prog 113 := ⟨_, Tryz.func113, rfl, rfl⟩
instance : HB Tryz.prog 114 := ⟨_, Tryz.func114, rfl, rfl⟩
instance : HB Tryz.prog 115 := ⟨_, Tryz.func115, rfl, rfl⟩
instance : HB Tryz.prog 116 := ⟨_, Tryz.func116, rfl, rfl⟩
instance : HB Tryz.prog 117 := ⟨_, Tryz.func117, rfl, rfl⟩
instance : HB Tryz.prog 118 := ⟨_, Tryz.func118, rfl, rfl⟩
instance : HB Tryz.prog 119 := ⟨_, Tryz.func119, rfl, rfl⟩
instance : HB Tryz.prog 120 := ⟨_, Tryz.func120, rfl, rfl⟩
instance : HB Tryz.prog 121 := ⟨_, Tryz.func121, rfl, rfl⟩
instance : HB Tryz.prog 122 := ⟨_, Tryz.func122, rfl, rfl⟩
instance : HB Tryz.prog 123 := ⟨_, Tryz.func123, rfl, rfl⟩
instance : HB Tryz.prog 124 := ⟨_, Tryz.func124, rfl, rfl⟩
instance : HB Tryz.prog 125 := ⟨_, Tryz.func125, rfl, rfl⟩
instance : HB Tryz.prog 126 := ⟨_, Tryz.func126, rfl, rfl⟩
instance : HB Tryz.prog 127 := ⟨_, Tryz.func127, rfl, rfl⟩
instance : HB Tryz.prog 128 := ⟨_, Tryz.func128, rfl, rfl⟩
instance : HB Tryz.prog 129 := ⟨_, Tryz.func129, rfl, rfl⟩
instance : HB Tryz.prog 130 := ⟨_, Tryz.func130, rfl, rfl⟩
instance : HB Tryz.prog 131 := ⟨_, Tryz.func131, rfl, rfl⟩
instance : HB Tryz.prog 132 := ⟨_, Tryz.func132, rfl, rfl⟩
instance : HB Tryz.prog 133 := ⟨_, Tryz.func133, rfl, rfl⟩
instance : HB Tryz.prog 134 := ⟨_, Tryz.func134, rfl, rfl⟩
instance : HB Tryz.prog 135 := ⟨_, Tryz.func135, rfl, rfl⟩
instance : HB Tryz.prog 136 := ⟨_, Tryz.func136, rfl, rfl⟩
instance : HB Tryz.prog 137 := ⟨_, Tryz.func137, rfl, rfl⟩
instance : HB Tryz.prog 138 := ⟨_, Tryz.func138, rfl, rfl⟩
instance : HB Tryz.prog 139 := ⟨_, Tryz.func139, rfl, rfl⟩
instance : HB Tryz.prog 140 := ⟨_, Tryz.func140, rfl, rfl⟩
instance : HB Tryz.prog 141 := ⟨_, Tryz.func141, rfl, rfl⟩
instance : HB Tryz.prog 142 := ⟨_, Tryz.func142, rfl, rfl⟩
instance : HB Tryz.prog 143 := ⟨_, Tryz.func143, rfl, rfl⟩
instance : HB Tryz.prog 144 := ⟨_, Tryz.func144, rfl, rfl⟩
instance : HB Tryz.prog 145 := ⟨_, Tryz.func145, rfl, rfl⟩
instance : HB Tryz.prog 146 := ⟨_, Tryz.func146, rfl, rfl⟩
instance : HB Tryz.prog 147 := ⟨_, Tryz.func147, rfl, rfl⟩
instance : HB Tryz.prog 148 := ⟨_, Tryz.func148, rfl, rfl⟩
instance : HB Tryz.prog 149 := ⟨_, Tryz.func149, rfl, rfl⟩
instance : HB Tryz.prog 150 := ⟨_, Tryz.func150, rfl, rfl⟩
instance : HB Tryz.prog 151 := ⟨_, Tryz.func151, rfl, rfl⟩
instance : HB Tryz.prog 152 := ⟨_, Tryz.func152, rfl, rfl⟩
instance : HB Tryz.prog 153 := ⟨_, Tryz.func153, rfl, rfl⟩
instance : HB Tryz.prog 154 := ⟨_, Tryz.func154, rfl, rfl⟩
instance : HB Tryz.prog 155 := ⟨_, Tryz.func155, rfl, rfl⟩
instance : HB Tryz.prog 156 := ⟨_, Tryz.func156, rfl, rfl⟩
instance : HB Tryz.prog 157 := ⟨_, Tryz.func157, rfl, rfl⟩
instance : HB Tryz.prog 158 := ⟨_, Tryz.func158, rfl, rfl⟩
instance : HB Tryz.prog 159 := ⟨_, Tryz.func159, rfl, rfl⟩
instance : HB Tryz.prog 160 := ⟨_, Tryz.func160, rfl, rfl⟩
instance : HB Tryz.prog 161 := ⟨_, Tryz.func161, rfl, rfl⟩
instance : HB Tryz.prog 162 := ⟨_, Tryz.func162, rfl, rfl⟩
instance : HB Tryz.prog 163 := ⟨_, Tryz.func163, rfl, rfl⟩
instance : HB Tryz.prog 164 := ⟨_, Tryz.func164, rfl, rfl⟩
instance : HB Tryz.prog 165 := ⟨_, Tryz.func165, rfl, rfl⟩
instance : HB Tryz.prog 166 := ⟨_, Tryz.func166, rfl, rfl⟩
instance : HB Tryz.prog 167 := ⟨_, Tryz.func167, rfl, rfl⟩
instance : HB Tryz.prog 168 := ⟨_, Tryz.func168, rfl, rfl⟩
instance : HB Tryz.prog 169 := ⟨_, Tryz.func169, rfl, rfl⟩
instance : HB Tryz.prog 170 := ⟨_, Tryz.func170, rfl, rfl⟩
instance : HB Tryz.prog 171 := ⟨_, Tryz.func171, rfl, rfl⟩
instance : HB Tryz.prog 172 := ⟨_, Tryz.func172, rfl, rfl⟩
instance : HB Tryz.prog 173 := ⟨_, Tryz.func173, rfl, rfl⟩
instance : HB Tryz.prog 174 := ⟨_, Tryz.func174, rfl, rfl⟩
instance : HB Tryz.prog 175 := ⟨_, Tryz.func175, rfl, rfl⟩
instance : HB Tryz.prog 176 := ⟨_, Tryz.func176, rfl, rfl⟩
instance : HB Tryz.prog 177 := ⟨_, Tryz.func177, rfl, rfl⟩
instance : HB Tryz.prog 178 := ⟨_, Tryz.func178, rfl, rfl⟩
instance : HB Tryz.prog 179 := ⟨_, Tryz.func179, rfl, rfl⟩
instance : HB Tryz.prog 180 := ⟨_, Tryz.func180, rfl, rfl⟩
instance : HB Tryz.prog 181 := ⟨_, Tryz.func181, rfl, rfl⟩
instance : HB Tryz.prog 182 := ⟨_, Tryz.func182, rfl, rfl⟩
instance : HB Tryz.prog 183 := ⟨_, Tryz.func183, rfl, rfl⟩
instance : HB Tryz.prog 184 := ⟨_, Tryz.func184, rfl, rfl⟩
instance : HB Tryz.prog 185 := ⟨_, Tryz.func185, rfl, rfl⟩
instance : HB Tryz.prog 186 := ⟨_, Tryz.func186, rfl, rfl⟩
instance : HB Tryz.prog 203 := ⟨_, Tryz.func203, rfl, rfl⟩
instance : HB Tryz.prog 204 := ⟨_, Tryz.func204, rfl, rfl⟩
instance : HB Tryz.prog 205 := ⟨_, Tryz.func205, rfl, rfl⟩
end Go.Gx
end

section
/-
  LOGIC G, second half, part f: in a pool, of a block that is stored to in it: two loads in whatever order, a store at a place that is no number.
-/
set_option linter.unusedSimpArgs false
set_option linter.unusedVariables false
namespace Go.Gx
open Go Go.Conc

section
variable {P : Program} {main : Bool} {L : Lg P main} {f : FuncId} {ro : Option Nat} {ds : Dz} {cs : List Frame} {n : Nat} {k : List Item} {ops : Array Oper} {Hq H : Facts} {R : List Reg} {Ls : List Nat} {Fs : List Flo} {E : Env}

theorem Pool.weakE {E' : Env} (h : Pool L f ro ds cs n ops k Hq R Ls Fs E' H) (hE : ∀ t, look E' t = look E t) : Pool L f ro ds cs n ops k Hq R Ls Fs E H := by
  intro S SF hsub fuel t listed tmps ρ I hfuel
  exact h ⟨S.ok, fun q hq t ht => by rw [hE]; exact S.env q hq t ht, S.uniq, S.pair⟩ ⟨SF.ok, SF.ne, SF.nF, fun F hF t ht => by rw [hE]; exact SF.env F hF t ht⟩ hsub fuel t listed tmps ρ ⟨I.size, I.lsz, I.reg, I.ls, fun t v hv => I.env t v (by rw [← hE]; exact hv), I.pend, I.flo⟩ hfuel
/-- Two quiet operations of the knowledge that changes, in whatever order. -/
theorem Pool.qlo2 (i i' : Nat) {o o' : Oper} {d d' : Nat} {v v' : Value} (ho : ops[i]? = some o) (ho' : ops[i']? = some o') (hdst : dstOk o.dst n = true) (hdst' : dstOk o'.dst n = true) (hw : wantE ops o E = some true) (hw' : wantE ops o' E = some true)
    (hw1 : wantE ops o' ((d, v) :: E) = some true) (hw2 : wantE ops o ((d', v') :: E) = some true) (hsel : noSel o = true) (hsel' : noSel o' = true) (hd : o.dst = some d) (hd' : o'.dst = some d') (hdd : Nat.beq d d' = false) (hdn : downOk ops = true)
    (honly : onlyIn R Ls Fs ops [i, i'] = true) (hon1 : onlyIn R (i :: Ls) Fs ops [i'] = true) (hon2 : onlyIn R (i' :: Ls) Fs ops [i] = true) (hlt : Nat.blt i ops.size = true) (hlt' : Nat.blt i' ops.size = true)
    (hr : regd R Ls i = false) (hr2 : regd R (i' :: Ls) i = false) (hr1 : regd R (i :: Ls) i' = false) (hfl : flod Fs i = false) (hfl' : flod Fs i' = false)
    (hc : checkReg R Ls Fs ops i o = true) (hc' : checkReg R Ls Fs ops i' o' = true) (hc2 : checkReg R (i' :: Ls) Fs ops i o = true) (hc1 : checkReg R (i :: Ls) Fs ops i' o' = true)
    (hQ : ∀ E', (∀ x, x ≠ d' → look E' x = look E x) → QOp P o E' H v) (hQ' : ∀ E', (∀ x, x ≠ d → look E' x = look E x) → QOp P o' E' H v') (hq : Sub Hq H)
    (h : Pool L f ro ds cs n ops k Hq R (i' :: i :: Ls) Fs ((d', v') :: (d, v) :: E) H) : Pool L f ro ds cs n ops k Hq R Ls Fs E H := by
  have hne : d ≠ d' := fun e => by subst e; simp at hdd
  have g1 : Pool L f ro ds cs n ops k Hq R (i :: Ls) Fs ((d, v) :: E) H :=
    Pool.qlo i' ho' hdst' hw1 hsel' hd' hdn hon1 hlt' hr1 hfl' hc1 (hQ' _ fun x hx => by rw [look_cons, if_neg (Ne.symm hx)]) hq h
  have g2 : Pool L f ro ds cs n ops k Hq R (i' :: Ls) Fs ((d', v') :: E) H := by
    refine Pool.qlo i ho hdst hw2 hsel hd hdn hon2 hlt hr2 hfl hc2 (hQ _ fun x hx => by rw [look_cons, if_neg (Ne.symm hx)]) hq (Pool.swap (Pool.weakE h fun t => ?_))
    simp only [look_cons]
    by_cases e1 : d' = t <;> by_cases e2 : d = t <;> simp [e1, e2]
    exact absurd (e2.trans e1.symm) hne
  refine pool_any [i, i'] hdn honly (blt_lt hlt) hr hfl fun l hl => ?_
  rcases (by simpa using hl : l = i ∨ l = i') with rfl | rfl
  · refine loud_l ho hw hdst hc hsel (hQ _ fun _ _ => rfl).lop ?_
    rintro _ _ ⟨rfl, rfl⟩
    rw [hd]; exact ⟨hq, g1⟩
  · refine loud_l ho' hw' hdst' hc' hsel' (hQ' _ fun _ _ => rfl).lop ?_
    rintro _ _ ⟨rfl, rfl⟩
    rw [hd']; exact ⟨hq, g2⟩
/-- A store of one cell at a place that is no number, where it alone can come next. -/
theorem Pool.stN (j i q : Nat) {o : Oper} {t : TypeId} {x y : Operand} {b off : Nat} {z l : List Value} {v : Value} {T : TypeId} {H' : Facts} (ho : ops[i]? = some o) (hw : wantE ops o E = some true) (hd : o.dst = none) (hop : o.op = .store t x y) (hdn : downOk ops = true) (honly : onlyIn R Ls Fs ops [i] = true)
    (hlt : Nat.blt i ops.size = true) (hr : regd R Ls i = false) (hfl : flod Fs i = false) (hc : checkReg R Ls Fs ops i o = true) (hx : ev E x = some (.pointer (some ⟨b, off, none⟩))) (hy : ev E y = some v)
    [ht : TyI P t false 1 z] (hv : cellsV v = some [v]) (h1 : v.oneCell' = true) (hf : nthF H j = some (.own b (.cells (List.toArray l) T (0, 0)))) (hoff : off = q) (hs : q < l.length) (hH : setF H j (.own b (.cells (List.toArray (l.set q v)) T (0, 0))) = some H') (hq : Sub Hq H')
    (h : Pool L f ro ds cs n ops k Hq R (i :: Ls) Fs E H') : Pool L f ro ds cs n ops k Hq R Ls Fs E H := by
  subst hoff
  obtain ⟨zv, by_, e1, _⟩ := ht.h
  have e2 := cellsV_eq hv
  refine pool_any [i] hdn honly (blt_lt hlt) hr hfl fun l'' hl'' => ?_
  obtain rfl : l'' = i := by simpa using hl''
  refine loud_l ho hw (by rw [hd]; rfl) hc (by unfold noSel; rw [hop]) (l_store hop hx hy e1 (T := T) (c := l.toArray) (c' := (l.set off v).toArray) (by rw [e2]; rfl) (by rw [e2]; simpa using h1) (by simp; omega) (by rw [e2]; simp) (setF_upd hf hH)) ?_
  rintro _ _ ⟨rfl, rfl⟩
  rw [hd]
  exact ⟨hq, h⟩
end
end Go.Gx
end

section
/-
  The canvas in plain Lean: what the program's functions compute.
-/
set_option linter.unusedSimpArgs false
set_option linter.unusedVariables false
namespace Go.Gx
open Go

theorem mul_bd {a b : Int} {A B : Nat} (h1 : a.natAbs ≤ A) (h2 : b.natAbs ≤ B) : (a * b).natAbs ≤ A * B := by
  rw [Int.natAbs_mul]; exact Nat.mul_le_mul h1 h2
def lowN (n d : Int) : Int := (if d < 0 then -n else n).tdiv (Int.gcd n d)
def lowD (n d : Int) : Int := (if d < 0 then -d else d).tdiv (Int.gcd n d)
def slopeBar (n d : Int) : Int := if ¬ (1 ≤ d ∧ d ≤ 20) ∨ ¬ (-20 ≤ n ∧ n ≤ 20) then 1 else if lowN n d ≠ n ∨ lowD n d ≠ d then 3 else 0
abbrev R2 := Int × Int
abbrev Spot := R2 × R2
def low (n d : Int) : R2 := (lowN n d, lowD n d)
def lessW (a b : R2) : Bool := decide (wr (a.1 * b.2) < wr (b.1 * a.2))
def evenlyM (a z : R2) (k n : Int) : R2 := low (a.1 * z.2 * (n - k) + z.1 * a.2 * k) (a.2 * z.2 * n)
def minusM (a b : R2) : R2 := low (a.1 * b.2 - b.1 * a.2) (a.2 * b.2)
/-- How far a point is above a line. -/
def offL (p : R2) (eye : Int) (s : R2) : Int := (p.2 - eye) * s.2 - s.1 * p.1
def crossM (p q : R2) (eye : Int) (s : R2) : List Spot :=
  if p = q then []
  else if offL p eye s = 0 ∧ offL q eye s = 0 then [((p.1, 1), (p.2, 1)), ((q.1, 1), (q.2, 1))]
  else if (offL p eye s ≤ 0 ∧ 0 ≤ offL q eye s) ∨ (0 ≤ offL p eye s ∧ offL q eye s ≤ 0) then
    [(low (p.1 * (offL p eye s - offL q eye s) + (q.1 - p.1) * offL p eye s) (offL p eye s - offL q eye s), low (p.2 * (offL p eye s - offL q eye s) + (q.2 - p.2) * offL p eye s) (offL p eye s - offL q eye s))]
  else []
def bestM {α : Type} (better : α → α → Bool) : α → List α → α
  | one, [] => one
  | one, x :: l => bestM better (if better x one then x else one) l
def piecesM (ps : List R2) (eye : Int) (s : R2) : List Spot := (ps.zip ps.tail).flatMap fun x => crossM x.1 x.2 eye s
def meetM (ps : List R2) (eye : Int) (s : R2) : Option Spot :=
  match piecesM ps eye s with
  | [] => none
  | x :: l => some (bestM (fun a b => lessW a.1 b.1) x l)
def PtOk (p : R2) : Prop := 1 ≤ p.1 ∧ p.1 ≤ 60 ∧ 0 ≤ p.2 ∧ p.2 ≤ 90
def EyeOk (n : Int) : Prop := 0 ≤ n ∧ n ≤ 90
def SlOk (s : R2) : Prop := -10000 ≤ s.1 ∧ s.1 ≤ 10000 ∧ 1 ≤ s.2 ∧ s.2 ≤ 10000
theorem offL_bd {p : R2} {eye : Int} {s : R2} (hp : PtOk p) (he : EyeOk eye) (hs : SlOk s) : (offL p eye s).natAbs ≤ 1500000 := by
  unfold PtOk at hp
  unfold EyeOk at he
  unfold SlOk at hs
  have h1 := mul_bd (a := p.2 - eye) (b := s.2) (A := 90) (B := 10000) (by omega) (by omega)
  have h2 := mul_bd (a := s.1) (b := p.1) (A := 10000) (B := 60) (by omega) (by omega)
  unfold offL
  omega
def hBar (n : Int) : Int := if 0 ≤ n ∧ n ≤ 90 then 0 else 1
/-- A book of the canvas. -/
structure Bk where
  prof : List R2
  size : Int
  lo : Int
  hi : Int
  marks : List (R2 × Int)
def ptsBar : Option Int → List R2 → Int
  | _, [] => 0
  | pr, p :: ps =>
    if ¬ (1 ≤ p.1 ∧ p.1 ≤ 60) ∨ ¬ (0 ≤ p.2 ∧ p.2 ≤ 90) then 1
    else if (match pr with | some h => decide (p.2 ≤ h) | none => false) = true then 7
    else ptsBar (some p.2) ps
def profBar (ps : List R2) : Int := if ¬ (2 ≤ ps.length ∧ ps.length ≤ 5) then 2 else ptsBar none ps
def sizeBar (B : Bk) : Int := if ¬ (1 ≤ B.size ∧ B.size ≤ 30) ∨ ¬ (0 ≤ B.lo ∧ B.lo ≤ B.hi ∧ B.hi ≤ 90) ∨ 3 ≤ B.hi - B.lo then 1 else 0
def markBar (m : R2 × Int) : Int := if slopeBar m.1.1 m.1.2 ≠ 0 then slopeBar m.1.1 m.1.2 else hBar m.2
def marksBar : List (R2 × Int) → Int
  | [] => 0
  | m :: ms => if markBar m ≠ 0 then markBar m else marksBar ms
def mksBar (ms : List (R2 × Int)) : Int := if 4 < ms.length then 2 else marksBar ms
def bookBar (B : Bk) : Int := if profBar B.prof ≠ 0 then profBar B.prof else if sizeBar B ≠ 0 then sizeBar B else mksBar B.marks
/-- The first bar of several. -/
def firstBar : List Int → Int
  | [] => 0
  | r :: rs => if r ≠ 0 then r else firstBar rs
end Go.Gx
end

section
set_option linter.unusedSimpArgs false
set_option linter.unusedVariables false
namespace Go.Gx
open Go Go.Conc Go.Proofs
variable {main : Bool}

/-- abs -/
theorem s111 (L : Lg Tryz.prog main) (H : Facts) {n : Int} (hn : InI (-n)) : Pure L 111 #[.int .i64 n] H (.int .i64 (if -n > n then -n else n)) := by
  refine Spec.enter Tryz.func111 rfl (by simp [Tryz.f111]) fun c cs hc => ?_; refine At.seq (At.region ?_); refine At.v rfl rfl rfl rfl rfl trivial ?_; refine At.regionEnd (At.seq (At.region ?_)); (iterate 2 refine At.v rfl rfl rfl rfl rfl trivial ?_); refine At.v rfl rfl rfl rfl rfl (by assumption) ?_; (iterate 2 refine At.v rfl rfl rfl rfl rfl trivial ?_); refine At.regionEnd ?_
  exact At.ret Tryz.func111 (.inr ⟨_, rfl⟩) rfl (.tmp rfl .nil) (wk (hc _ _ (⟨by simp_all [resVal]; try omega, rfl⟩)))
/-- between -/
theorem s135 (L : Lg Tryz.prog main) (H : Facts) {n lo hi : Int} : Pure L 135 #[.int .i64 n, .int .i64 lo, .int .i64 hi] H (.bool (decide (lo ≤ n ∧ n ≤ hi))) := by
  refine Spec.enter Tryz.func135 rfl (by simp [Tryz.f135]) fun c cs hc => ?_; refine At.seq (At.region ?_); refine At.v rfl rfl rfl rfl rfl trivial ?_; refine At.regionEnd (At.seq (At.region ?_)); (iterate 2 refine At.v rfl rfl rfl rfl rfl trivial ?_); refine At.cp rfl rfl rfl rfl rfl fun b9 h9 => ?_; refine At.v rfl rfl rfl rfl rfl trivial ?_
  cases b9
  · refine At.un rfl rfl rfl rfl ?_
    (iterate 2 refine At.un rfl rfl rfl rfl ?_); (iterate 2 refine At.v rfl rfl rfl rfl rfl trivial ?_); refine At.regionEnd ?_
    exact At.ret Tryz.func135 (.inr ⟨_, rfl⟩) rfl (.tmp rfl .nil) (wk (hc _ _ (⟨by simp_all [resVal]; try omega, rfl⟩)))
  · refine At.v rfl rfl rfl rfl rfl trivial ?_
    refine At.v rfl rfl rfl rfl rfl trivial ?_; refine At.cp rfl rfl rfl rfl rfl fun b13 h13 => ?_; (iterate 2 refine At.v rfl rfl rfl rfl rfl trivial ?_); refine At.regionEnd ?_
    exact At.ret Tryz.func135 (.inr ⟨_, rfl⟩) rfl (.tmp rfl .nil) (wk (hc _ _ (⟨by simp_all [resVal]; try omega, rfl⟩)))
/-- less -/
theorem s100 (L : Lg Tryz.prog main) (H : Facts) {a b c d : Int} : Pure L 100 #[.agg #[.int .i64 a, .int .i64 b], .agg #[.int .i64 c, .int .i64 d]] H (.bool (lessW (a, b) (c, d))) := by
  refine Spec.enter Tryz.func100 rfl (by simp [Tryz.f100]) fun c cs hc => ?_; refine At.seq (At.region ?_); refine At.bx rfl rfl rfl rfl rfl rfl rfl fun r2 => ?_; refine At.bx rfl rfl rfl rfl rfl rfl rfl fun r3 => ?_; refine At.v rfl rfl rfl rfl rfl trivial ?_; refine At.regionEnd (At.seq (At.region ?_)); refine At.fa 0 rfl rfl rfl rfl rfl rfl rfl ?_; refine At.ld 1 rfl rfl rfl rfl rfl rfl rfl rfl rfl ?_; refine At.fa 1 rfl rfl rfl rfl rfl rfl rfl ?_
  refine At.ld 0 rfl rfl rfl rfl rfl rfl rfl rfl rfl ?_; refine At.q rfl rfl rfl rfl (q_mulW rfl rfl rfl) ?_; refine At.fa 0 rfl rfl rfl rfl rfl rfl rfl ?_; refine At.ld 0 rfl rfl rfl rfl rfl rfl rfl rfl rfl ?_; refine At.fa 1 rfl rfl rfl rfl rfl rfl rfl ?_; refine At.ld 1 rfl rfl rfl rfl rfl rfl rfl rfl rfl ?_; refine At.q rfl rfl rfl rfl (q_mulW rfl rfl rfl) ?_; refine At.cp rfl rfl rfl rfl rfl fun b15 h15 => ?_; refine At.v rfl rfl rfl rfl rfl trivial ?_; refine At.regionEnd ?_
  exact At.ret Tryz.func100 (.inr ⟨_, rfl⟩) rfl (.tmp rfl .nil) (wk (hc _ _ (⟨by simp_all [resVal, lessW], rfl⟩)))
/-- whole -/
theorem s101 (L : Lg Tryz.prog main) (H : Facts) {n : Int} : Pure L 101 #[.int .i64 n] H (.agg #[.int .i64 n, .int .i64 1]) := by
  refine Spec.enter Tryz.func101 rfl (by simp [Tryz.f101]) fun c cs hc => ?_; refine At.seq (At.region ?_); refine At.al rfl rfl rfl rfl rfl fun r2 => ?_; refine At.regionEnd (At.seq (At.region ?_)); refine At.v rfl rfl rfl rfl rfl trivial ?_; refine At.q rfl rfl rfl rfl (q_build rfl rfl rfl) ?_; refine At.st 0 rfl rfl rfl rfl rfl rfl rfl rfl rfl rfl rfl rfl ?_; refine At.regionEnd ?_
  exact At.ret Tryz.func101 (.inr ⟨_, rfl⟩) rfl (.aggJ 0 rfl rfl rfl .nil) (wk (hc _ _ (⟨by rfl, rfl⟩)))
/-- spotOf -/
theorem s99 (L : Lg Tryz.prog main) (H : Facts) {a b : Int} : Pure L 99 #[.agg #[.int .i64 a, .int .i64 b]] H (.agg #[.int .i64 a, .int .i64 1, .int .i64 b, .int .i64 1]) := by
  refine Spec.enter Tryz.func99 rfl (by simp [Tryz.f99]) fun c cs hc => ?_; refine At.seq (At.region ?_); refine At.bx rfl rfl rfl rfl rfl rfl rfl fun r1 => ?_; refine At.al rfl rfl rfl rfl rfl fun r2 => ?_; refine At.regionEnd (At.seq ?_); refine At.drawJ hmix [0] rfl ?_; refine Pool.fa 0 0 rfl rfl rfl rfl rfl rfl rfl rfl rfl ?_; refine Pool.ld 0 1 rfl rfl rfl rfl rfl rfl rfl rfl rfl rfl rfl ?_; refine Pool.cq 2 rfl rfl rfl rfl rfl rfl rfl rfl rfl (fun H hs => s101 L H) ?_
  refine Pool.fa 1 3 rfl rfl rfl rfl rfl rfl rfl rfl rfl ?_; refine Pool.ld 0 4 rfl rfl rfl rfl rfl rfl rfl rfl rfl rfl rfl ?_; refine Pool.cq 5 rfl rfl rfl rfl rfl rfl rfl rfl rfl (fun H hs => s101 L H) ?_; refine Pool.q 6 rfl rfl rfl rfl rfl (q_build rfl rfl rfl) rfl ?_; refine Pool.st 0 7 rfl rfl rfl rfl rfl rfl rfl rfl rfl rfl rfl rfl rfl rfl rfl rfl rfl rfl sb ?_; refine pool_done rfl rfl ?_; refine At.regionEnd ?_
  exact At.ret Tryz.func99 (.inr ⟨_, rfl⟩) rfl (.aggJ 0 rfl rfl rfl .nil) (wk (hc _ _ (⟨by rfl, rfl⟩)))
/-- isBand -/
theorem s146 (L : Lg Tryz.prog main) (H : Facts) {l h lo hi : Int} : Pure L 146 #[.agg #[.int .i64 l, .int .i64 h], .int .i64 lo, .int .i64 hi] H (.bool (decide (lo ≤ l ∧ l ≤ h ∧ h ≤ hi))) := by
  refine Spec.enter Tryz.func146 rfl (by simp [Tryz.f146]) fun c cs hc => ?_; refine At.seq (At.region ?_); refine At.bx rfl rfl rfl rfl rfl rfl rfl fun r3 => ?_; refine At.v rfl rfl rfl rfl rfl trivial ?_; refine At.regionEnd (At.seq (At.region ?_)); refine At.v rfl rfl rfl rfl rfl trivial ?_; refine At.fa 0 rfl rfl rfl rfl rfl rfl rfl ?_; refine At.ld 0 rfl rfl rfl rfl rfl rfl rfl rfl rfl ?_; refine At.cp rfl rfl rfl rfl rfl fun b10 h10 => ?_; refine At.v rfl rfl rfl rfl rfl trivial ?_
  cases b10
  · refine At.un rfl rfl rfl rfl ?_
    (iterate 4 refine At.un rfl rfl rfl rfl ?_); (iterate 2 refine At.v rfl rfl rfl rfl rfl trivial ?_); (iterate 4 refine At.un rfl rfl rfl rfl ?_); (iterate 2 refine At.v rfl rfl rfl rfl rfl trivial ?_); refine At.regionEnd ?_
    exact At.ret Tryz.func146 (.inr ⟨_, rfl⟩) rfl (.tmp rfl .nil) (wk (hc _ _ (⟨by simp_all [resVal]; try omega, rfl⟩)))
  · refine At.fa 0 rfl rfl rfl rfl rfl rfl rfl ?_
    refine At.ld 0 rfl rfl rfl rfl rfl rfl rfl rfl rfl ?_; refine At.fa 1 rfl rfl rfl rfl rfl rfl rfl ?_; refine At.ld 0 rfl rfl rfl rfl rfl rfl rfl rfl rfl ?_; refine At.cp rfl rfl rfl rfl rfl fun b16 h16 => ?_; (iterate 2 refine At.v rfl rfl rfl rfl rfl trivial ?_)
    cases b16
    · refine At.un rfl rfl rfl rfl ?_
      (iterate 3 refine At.un rfl rfl rfl rfl ?_); (iterate 2 refine At.v rfl rfl rfl rfl rfl trivial ?_); refine At.regionEnd ?_
      exact At.ret Tryz.func146 (.inr ⟨_, rfl⟩) rfl (.tmp rfl .nil) (wk (hc _ _ (⟨by simp_all [resVal]; try omega, rfl⟩)))
    · refine At.fa 1 rfl rfl rfl rfl rfl rfl rfl ?_
      refine At.ld 0 rfl rfl rfl rfl rfl rfl rfl rfl rfl ?_; refine At.v rfl rfl rfl rfl rfl trivial ?_; refine At.cp rfl rfl rfl rfl rfl fun b22 h22 => ?_; (iterate 2 refine At.v rfl rfl rfl rfl rfl trivial ?_); refine At.regionEnd ?_
      exact At.ret Tryz.func146 (.inr ⟨_, rfl⟩) rfl (.tmp rfl .nil) (wk (hc _ _ (⟨by simp_all [resVal]; try omega, rfl⟩)))
/-- heightBar -/
theorem s149 (L : Lg Tryz.prog main) (H : Facts) {n : Int} : Pure L 149 #[.int .i64 n] H (.int .i64 (if 0 ≤ n ∧ n ≤ 90 then 0 else 1)) := by
  refine Spec.enter Tryz.func149 rfl (by simp [Tryz.f149]) fun c cs hc => ?_; refine At.seq (At.region ?_); refine At.v rfl rfl rfl rfl rfl trivial ?_; refine At.regionEnd (At.seq (At.seq (At.region ?_))); refine At.v rfl rfl rfl rfl rfl trivial ?_; refine At.cqb rfl rfl rfl rfl rfl rfl rfl rfl (s135 L _) fun b4 h4 => ?_; refine At.v rfl rfl rfl rfl rfl trivial ?_; refine At.regionEnd ?_
  cases b4
  · refine At.cond rfl ?_
    refine At.seq (At.region ?_); refine At.v rfl rfl rfl rfl rfl trivial ?_; refine At.regionEnd ?_
    exact At.ret Tryz.func149 (.inr ⟨_, rfl⟩) rfl (.tmp rfl .nil) (wk (hc _ _ (⟨by simp_all [resVal]; try omega, rfl⟩)))
  · refine At.cond rfl ?_
    refine At.skip (At.seq (At.region ?_)); refine At.v rfl rfl rfl rfl rfl trivial ?_; refine At.regionEnd ?_
    exact At.ret Tryz.func149 (.inr ⟨_, rfl⟩) rfl (.tmp rfl .nil) (wk (hc _ _ (⟨by simp_all [resVal]; try omega, rfl⟩)))
end Go.Gx
end

section
set_option linter.unusedSimpArgs false
set_option linter.unusedVariables false
namespace Go.Gx
open Go Go.Conc Go.Proofs
variable {main : Bool}

/-- lowest -/
theorem s98 (L : Lg Tryz.prog main) (H : Facts) {n d : Int} (hd : d ≠ 0) (h1 : Mid n) (h2 : Mid d) : Pure L 98 #[.int .i64 n, .int .i64 d] H (.agg #[.int .i64 (lowN n d), .int .i64 (lowD n d)]) := by
  refine Spec.enter Tryz.func98 rfl (by simp [Tryz.f98]) fun c cs hc => ?_
  have i1 := h1
  have i2 := h2
  unfold Mid at i1 i2
  refine At.seq (At.region ?_); refine At.al rfl rfl rfl rfl rfl fun r4 => ?_; refine At.regionEnd (At.seq (At.seq (At.region ?_))); refine At.v rfl rfl rfl rfl rfl trivial ?_; refine At.cp rfl rfl rfl rfl rfl fun b8 h8 => ?_; refine At.regionEnd ?_
  refine At.cut (X := { p : Int × Int // 0 < p.2 ∧ Mid p.1 ∧ Mid p.2 ∧ p.1 = (if d < 0 then -n else n) ∧ p.2 = (if d < 0 then -d else d) }) (fun x => [(0, .int .i64 x.1.1), (1, .int .i64 x.1.2), (4, .pointer (some ⟨r4, 0, none⟩))]) (fun x => .own r4 (.cells #[.int .i64 0, .int .i64 0] 29 (0, 0)) :: H) ?_ fun key => ?_
  · rintro ⟨⟨n', d'⟩, hpos, hn', hd', en, ed⟩
    simp only at hpos hn' hd' en ed ⊢
    have j1 := hn'
    have j2 := hd'
    unfold Mid at j1 j2
    refine At.seq (At.region ?_); refine At.v rfl rfl rfl rfl rfl trivial ?_; refine At.cq rfl rfl rfl rfl rfl rfl rfl rfl (s111 L _ bz) ?_; (iterate 3 refine At.v rfl rfl rfl rfl rfl trivial ?_); refine At.regionEnd (At.seq ?_); refine At.block ?_
    refine At.lp (X := { p : Int × Int // 0 ≤ p.1 ∧ 0 ≤ p.2 ∧ Int.gcd p.1 p.2 = Int.gcd n' d' ∧ (p.2 = 0 → p.1 ≠ 0) }) (fun x => [(0, .int .i64 n'), (1, .int .i64 d'), (4, .pointer (some ⟨r4, 0, none⟩)), (5, .int .i64 x.1.1), (6, .int .i64 x.1.2)]) (fun x => .own r4 (.cells #[.int .i64 0, .int .i64 0] 29 (0, 0)) :: H) (fun x => x.1.2.toNat) ⟨(if -n' > n' then -n' else n', d'), ?_⟩ ?_ ⟨rfl, rfl, rfl, rfl, rfl, trivial⟩ (Sub.refl _)
    · refine ⟨?_, by omega, ?_, by omega⟩
      · split <;> omega
      · have : (if -n' > n' then -n' else n').natAbs = n'.natAbs := by split <;> omega
        rw [Int.gcd, this, Int.gcd]
    · rintro ⟨⟨a, b⟩, ha, hb, hg, hz⟩ again
      simp only at ha hb hg hz again ⊢
      refine At.seq (At.seq (At.region ?_)); refine At.v rfl rfl rfl rfl rfl trivial ?_; refine At.cp rfl rfl rfl rfl rfl fun b17 h17 => ?_; refine At.regionEnd ?_
      cases b17
      · have hb0 : b = 0 := by simpa using h17
        have ha' : a = (Int.gcd n d : Int) := by
          have e1 : Int.gcd n' d' = Int.gcd n d := by
            rw [en, ed]
            split <;> simp
          rw [← e1, ← hg, hb0]
          simp
          omega
        have q1 : a ≠ 0 ∧ InI (n'.tdiv a) := ⟨hz hb0, tdiv_in hn'⟩
        have q2 : a ≠ 0 ∧ InI (d'.tdiv a) := ⟨hz hb0, tdiv_in hd'⟩
        refine At.cond rfl ?_; refine At.exit rfl ?_; refine At.seq ?_; refine At.drawJ hmix [0] rfl ?_; refine Pool.v 0 rfl rfl rfl rfl rfl rfl rfl trivial ?_; refine Pool.v 1 rfl rfl rfl rfl rfl rfl rfl trivial ?_; refine Pool.v 2 rfl rfl rfl rfl rfl rfl rfl (by assumption) ?_; refine Pool.v 3 rfl rfl rfl rfl rfl rfl rfl trivial ?_; refine Pool.v 4 rfl rfl rfl rfl rfl rfl rfl trivial ?_; refine Pool.v 5 rfl rfl rfl rfl rfl rfl rfl (by assumption) ?_
        refine Pool.q 6 rfl rfl rfl rfl rfl (q_build rfl rfl rfl) rfl ?_; refine Pool.st 0 7 rfl rfl rfl rfl rfl rfl rfl rfl rfl rfl rfl rfl rfl rfl rfl rfl rfl rfl sb ?_; refine pool_done rfl rfl ?_; refine At.regionEnd ?_
        exact At.ret Tryz.func98 (.inr ⟨_, rfl⟩) rfl (.aggJ 0 rfl rfl rfl .nil) (wk (hc _ _ (⟨by rw [ha', en, ed]; rfl, rfl⟩)))
      · have hb0 : b ≠ 0 := by simpa using h17
        refine At.cond rfl ?_; refine At.skip ?_; refine At.block ?_; refine At.drawJ hmix [] rfl ?_; refine Pool.v 0 rfl rfl rfl rfl rfl rfl rfl trivial ?_; refine Pool.v 1 rfl rfl rfl rfl rfl rfl rfl trivial ?_; refine Pool.v 2 rfl rfl rfl rfl rfl rfl rfl trivial ?_; refine Pool.v 3 rfl rfl rfl rfl rfl rfl rfl (by assumption) ?_; refine Pool.v 4 rfl rfl rfl rfl rfl rfl rfl trivial ?_; refine Pool.v 5 rfl rfl rfl rfl rfl rfl rfl trivial ?_; refine pool_done rfl rfl ?_; refine At.regionEnd ?_
        refine At.inBlock ?_
        have hm := Int.tmod_nonneg b ha
        have hlt := Int.tmod_lt_of_pos a (show 0 < b by omega)
        refine At.to (again ⟨(b, a.tmod b), hb, hm, ?_, fun _ => hb0⟩ ?_) ⟨rfl, rfl, rfl, rfl, rfl, trivial⟩ (Sub.refl _)
        · rw [← hg]
          simp only [Int.gcd]
          rw [Int.natAbs_tmod, Nat.gcd_comm, ← Nat.gcd_rec, Nat.gcd_comm]
        · simp only
          omega
  · cases b8
    · refine At.cond rfl ?_
      refine At.skip ?_
      exact At.to (key ⟨(n, d), by simp at h8; omega, h1, h2, by simp at h8; simp; intro; omega, by simp at h8; simp; intro; omega⟩) ⟨rfl, rfl, rfl, trivial⟩ (Sub.refl _)
    · refine At.cond rfl ?_
      refine At.region ?_; refine At.v rfl rfl rfl rfl rfl trivial ?_; refine At.v rfl rfl rfl rfl rfl (by omega) ?_; refine At.v rfl rfl rfl rfl rfl trivial ?_; refine At.v rfl rfl rfl rfl rfl (by omega) ?_; (iterate 2 refine At.v rfl rfl rfl rfl rfl trivial ?_); refine At.regionEnd ?_
      exact At.to (key ⟨(-n, -d), by simp at h8; omega, by unfold Mid at *; omega, by unfold Mid at *; omega, by simp at h8; simp [h8], by simp at h8; simp [h8]⟩) ⟨rfl, rfl, rfl, trivial⟩ (Sub.refl _)
end Go.Gx
end

section
set_option linter.unusedSimpArgs false
set_option linter.unusedVariables false
namespace Go.Gx
open Go Go.Conc Go.Proofs
variable {main : Bool}

/-- minus -/
theorem s107 (L : Lg Tryz.prog main) (H : Facts) {an ad bn bd : Int} (h1 : InI (an * bd)) (h2 : InI (bn * ad)) (h3 : Mid (an * bd - bn * ad)) (h4 : Mid (ad * bd)) (h0 : ad * bd ≠ 0) :
    Pure L 107 #[.agg #[.int .i64 an, .int .i64 ad], .agg #[.int .i64 bn, .int .i64 bd]] H (.agg #[.int .i64 (lowN (an * bd - bn * ad) (ad * bd)), .int .i64 (lowD (an * bd - bn * ad) (ad * bd))]) := by
  refine Spec.enter Tryz.func107 rfl (by simp [Tryz.f107]) fun c cs hc => ?_; refine At.seq (At.region ?_); refine At.bx rfl rfl rfl rfl rfl rfl rfl fun r2 => ?_; refine At.bx rfl rfl rfl rfl rfl rfl rfl fun r3 => ?_; refine At.al rfl rfl rfl rfl rfl fun r4 => ?_; refine At.regionEnd (At.seq (At.region ?_)); refine At.fa 0 rfl rfl rfl rfl rfl rfl rfl ?_; refine At.ld 2 rfl rfl rfl rfl rfl rfl rfl rfl rfl ?_; refine At.fa 1 rfl rfl rfl rfl rfl rfl rfl ?_
  refine At.ld 1 rfl rfl rfl rfl rfl rfl rfl rfl rfl ?_; refine At.v rfl rfl rfl rfl rfl (by assumption) ?_; refine At.fa 0 rfl rfl rfl rfl rfl rfl rfl ?_; refine At.ld 1 rfl rfl rfl rfl rfl rfl rfl rfl rfl ?_; refine At.fa 1 rfl rfl rfl rfl rfl rfl rfl ?_; refine At.ld 2 rfl rfl rfl rfl rfl rfl rfl rfl rfl ?_; refine At.v rfl rfl rfl rfl rfl (by assumption) ?_; refine At.v rfl rfl rfl rfl rfl (by omega) ?_; refine At.fa 1 rfl rfl rfl rfl rfl rfl rfl ?_
  refine At.ld 2 rfl rfl rfl rfl rfl rfl rfl rfl rfl ?_; refine At.fa 1 rfl rfl rfl rfl rfl rfl rfl ?_; refine At.ld 1 rfl rfl rfl rfl rfl rfl rfl rfl rfl ?_; refine At.v rfl rfl rfl rfl rfl (by omega) ?_; refine At.cq rfl rfl rfl rfl rfl rfl rfl rfl (s98 L _ bz bz bz) ?_; refine At.st 0 rfl rfl rfl rfl rfl rfl rfl rfl rfl rfl rfl rfl ?_; refine At.regionEnd ?_
  exact At.ret Tryz.func107 (.inr ⟨_, rfl⟩) rfl (.aggJ 0 rfl rfl rfl .nil) (wk (hc _ _ (⟨by rfl, rfl⟩)))
/-- slopeBar -/
theorem s150 (L : Lg Tryz.prog main) (H : Facts) {n d : Int} : Pure L 150 #[.agg #[.int .i64 n, .int .i64 d]] H (.int .i64 (slopeBar n d)) := by
  refine Spec.enter Tryz.func150 rfl (by simp [Tryz.f150]) fun c cs hc => ?_; refine At.seq (At.region ?_); refine At.bx rfl rfl rfl rfl rfl rfl rfl fun r1 => ?_; refine At.v rfl rfl rfl rfl rfl trivial ?_; refine At.regionEnd (At.seq ?_); refine At.block ?_; refine At.seq (At.seq (At.region ?_)); refine At.fa 1 rfl rfl rfl rfl rfl rfl rfl ?_; refine At.ld 0 rfl rfl rfl rfl rfl rfl rfl rfl rfl ?_; refine At.cqb rfl rfl rfl rfl rfl rfl rfl rfl (s135 L _) fun b6 h6 => ?_
  (iterate 2 refine At.v rfl rfl rfl rfl rfl trivial ?_); refine At.regionEnd ?_
  cases b6
  · refine At.cond rfl ?_
    refine At.skip ?_; refine At.cond rfl ?_; refine At.seq (At.region ?_); refine At.v rfl rfl rfl rfl rfl trivial ?_; refine At.regionEnd ?_
    exact At.ret Tryz.func150 (.inr ⟨_, rfl⟩) rfl (.tmp rfl .nil) (wk (hc _ _ (⟨by simp_all [resVal, slopeBar], rfl⟩)))
  refine At.cond rfl ?_; refine At.region ?_; refine At.fa 0 rfl rfl rfl rfl rfl rfl rfl ?_; refine At.ld 0 rfl rfl rfl rfl rfl rfl rfl rfl rfl ?_; refine At.cqb rfl rfl rfl rfl rfl rfl rfl rfl (s135 L _) fun b10 h10 => ?_; (iterate 2 refine At.v rfl rfl rfl rfl rfl trivial ?_); refine At.regionEnd ?_
  cases b10
  · refine At.cond rfl ?_
    refine At.seq (At.region ?_); refine At.v rfl rfl rfl rfl rfl trivial ?_; refine At.regionEnd ?_
    exact At.ret Tryz.func150 (.inr ⟨_, rfl⟩) rfl (.tmp rfl .nil) (wk (hc _ _ (⟨by simp_all [resVal, slopeBar], rfl⟩)))
  have hd : d ≠ 0 := by simp at h6; omega
  have m1 : Mid n := by simp at h10; unfold Mid; omega
  have m2 : Mid d := by simp at h6; unfold Mid; omega
  refine At.cond rfl ?_; refine At.seq ?_; refine At.drawJ hmix [] rfl ?_; refine Pool.fa 0 0 rfl rfl rfl rfl rfl rfl rfl rfl rfl ?_; refine Pool.ld 0 1 rfl rfl rfl rfl rfl rfl rfl rfl rfl rfl rfl ?_; refine Pool.fa 1 2 rfl rfl rfl rfl rfl rfl rfl rfl rfl ?_; refine Pool.ld 0 3 rfl rfl rfl rfl rfl rfl rfl rfl rfl rfl rfl ?_; refine Pool.cq 4 rfl rfl rfl rfl rfl rfl rfl rfl rfl (fun H hs => s98 L H bz bz bz) ?_; refine Pool.ld 0 5 rfl rfl rfl rfl rfl rfl rfl rfl rfl rfl rfl ?_
  refine Pool.qb 6 rfl rfl rfl rfl rfl (q_neqS rfl rfl rfl rfl rfl rfl rfl rfl) rfl fun b19 h19 => ?_; refine Pool.v 7 rfl rfl rfl rfl rfl rfl rfl trivial ?_; refine pool_done rfl rfl ?_; refine At.regionEnd ?_
  cases b19
  · refine At.cond rfl ?_
    refine At.skip ?_; refine At.inBlock ?_; refine At.seq (At.region ?_); refine At.v rfl rfl rfl rfl rfl trivial ?_; refine At.regionEnd ?_
    exact At.ret Tryz.func150 (.inr ⟨_, rfl⟩) rfl (.tmp rfl .nil) (wk (hc _ _ (⟨by simp_all [resVal, slopeBar], rfl⟩)))
  · refine At.cond rfl ?_
    refine At.seq (At.region ?_); refine At.v rfl rfl rfl rfl rfl trivial ?_; refine At.regionEnd ?_
    exact At.ret Tryz.func150 (.inr ⟨_, rfl⟩) rfl (.tmp rfl .nil) (wk (hc _ _ (⟨by simp_all [resVal, slopeBar], rfl⟩)))
end Go.Gx
end

section
set_option linter.unusedSimpArgs false
set_option linter.unusedVariables false
namespace Go.Gx
open Go Go.Conc Go.Proofs
variable {main : Bool}

/-- Between (ref01) -/
theorem s43 (L : Lg Tryz.prog main) (H : Facts) {n lo hi : Int} : Pure L 43 #[.int .i64 n, .int .i64 lo, .int .i64 hi] H (.bool (decide (lo ≤ n ∧ n ≤ hi))) := by
  refine Spec.enter Tryz.func43 rfl (by simp [Tryz.f43]) fun c cs hc => ?_; refine At.seq (At.region ?_); refine At.v rfl rfl rfl rfl rfl trivial ?_; refine At.regionEnd (At.seq (At.region ?_)); (iterate 2 refine At.v rfl rfl rfl rfl rfl trivial ?_); refine At.cp rfl rfl rfl rfl rfl fun b9 h9 => ?_; refine At.v rfl rfl rfl rfl rfl trivial ?_
  cases b9
  · refine At.un rfl rfl rfl rfl ?_
    (iterate 2 refine At.un rfl rfl rfl rfl ?_); (iterate 2 refine At.v rfl rfl rfl rfl rfl trivial ?_); refine At.regionEnd ?_
    exact At.ret Tryz.func43 (.inr ⟨_, rfl⟩) rfl (.tmp rfl .nil) (wk (hc _ _ (⟨by simp_all [resVal]; try omega, rfl⟩)))
  · refine At.v rfl rfl rfl rfl rfl trivial ?_
    refine At.v rfl rfl rfl rfl rfl trivial ?_; refine At.cp rfl rfl rfl rfl rfl fun b13 h13 => ?_; (iterate 2 refine At.v rfl rfl rfl rfl rfl trivial ?_); refine At.regionEnd ?_
    exact At.ret Tryz.func43 (.inr ⟨_, rfl⟩) rfl (.tmp rfl .nil) (wk (hc _ _ (⟨by simp_all [resVal]; try omega, rfl⟩)))
/-- Inside (ref01) -/
theorem s88 (L : Lg Tryz.prog main) (H : Facts) {l h lo hi : Int} : Pure L 88 #[.agg #[.int .i64 l, .int .i64 h], .int .i64 lo, .int .i64 hi] H (.bool (decide (lo ≤ l ∧ l ≤ h ∧ h ≤ hi))) := by
  refine Spec.enter Tryz.func88 rfl (by simp [Tryz.f88]) fun c cs hc => ?_; refine At.seq (At.region ?_); refine At.bx rfl rfl rfl rfl rfl rfl rfl fun r3 => ?_; refine At.v rfl rfl rfl rfl rfl trivial ?_; refine At.regionEnd (At.seq (At.region ?_)); refine At.v rfl rfl rfl rfl rfl trivial ?_; refine At.fa 0 rfl rfl rfl rfl rfl rfl rfl ?_; refine At.ld 0 rfl rfl rfl rfl rfl rfl rfl rfl rfl ?_; refine At.cp rfl rfl rfl rfl rfl fun b10 h10 => ?_; refine At.v rfl rfl rfl rfl rfl trivial ?_
  cases b10
  · refine At.un rfl rfl rfl rfl ?_
    (iterate 4 refine At.un rfl rfl rfl rfl ?_); (iterate 2 refine At.v rfl rfl rfl rfl rfl trivial ?_); (iterate 4 refine At.un rfl rfl rfl rfl ?_); (iterate 2 refine At.v rfl rfl rfl rfl rfl trivial ?_); refine At.regionEnd ?_
    exact At.ret Tryz.func88 (.inr ⟨_, rfl⟩) rfl (.tmp rfl .nil) (wk (hc _ _ (⟨by simp_all [resVal]; try omega, rfl⟩)))
  · refine At.fa 0 rfl rfl rfl rfl rfl rfl rfl ?_
    refine At.ld 0 rfl rfl rfl rfl rfl rfl rfl rfl rfl ?_; refine At.fa 1 rfl rfl rfl rfl rfl rfl rfl ?_; refine At.ld 0 rfl rfl rfl rfl rfl rfl rfl rfl rfl ?_; refine At.cp rfl rfl rfl rfl rfl fun b16 h16 => ?_; (iterate 2 refine At.v rfl rfl rfl rfl rfl trivial ?_)
    cases b16
    · refine At.un rfl rfl rfl rfl ?_
      (iterate 3 refine At.un rfl rfl rfl rfl ?_); (iterate 2 refine At.v rfl rfl rfl rfl rfl trivial ?_); refine At.regionEnd ?_
      exact At.ret Tryz.func88 (.inr ⟨_, rfl⟩) rfl (.tmp rfl .nil) (wk (hc _ _ (⟨by simp_all [resVal]; try omega, rfl⟩)))
    · refine At.fa 1 rfl rfl rfl rfl rfl rfl rfl ?_
      refine At.ld 0 rfl rfl rfl rfl rfl rfl rfl rfl rfl ?_; refine At.v rfl rfl rfl rfl rfl trivial ?_; refine At.cp rfl rfl rfl rfl rfl fun b22 h22 => ?_; (iterate 2 refine At.v rfl rfl rfl rfl rfl trivial ?_); refine At.regionEnd ?_
      exact At.ret Tryz.func88 (.inr ⟨_, rfl⟩) rfl (.tmp rfl .nil) (wk (hc _ _ (⟨by simp_all [resVal]; try omega, rfl⟩)))
/-- isRow, isEye (ref02) -/
theorem s89 (L : Lg Tryz.prog main) (H : Facts) {n : Int} : Pure L 89 #[.int .i64 n] H (.bool (decide (0 ≤ n ∧ n ≤ 90))) := by
  refine Spec.enter Tryz.func89 rfl (by simp [Tryz.f89]) fun c cs hc => ?_; refine At.seq (At.region ?_); refine At.v rfl rfl rfl rfl rfl trivial ?_; refine At.regionEnd (At.seq (At.region ?_)); refine At.v rfl rfl rfl rfl rfl trivial ?_; refine At.cqb rfl rfl rfl rfl rfl rfl rfl rfl (s43 L _) fun b4 h4 => ?_; refine At.v rfl rfl rfl rfl rfl trivial ?_; refine At.regionEnd ?_
  exact At.ret Tryz.func89 (.inr ⟨_, rfl⟩) rfl (.tmp rfl .nil) (wk (hc _ _ (⟨by simp_all [resVal]; try omega, rfl⟩)))
/-- Less (ref02) -/
theorem s103 (L : Lg Tryz.prog main) (H : Facts) {a b c d : Int} : Pure L 103 #[.agg #[.int .i64 a, .int .i64 b], .agg #[.int .i64 c, .int .i64 d]] H (.bool (lessW (a, b) (c, d))) := by
  refine Spec.enter Tryz.func103 rfl (by simp [Tryz.f103]) fun c cs hc => ?_; refine At.seq (At.region ?_); refine At.bx rfl rfl rfl rfl rfl rfl rfl fun r2 => ?_; refine At.bx rfl rfl rfl rfl rfl rfl rfl fun r3 => ?_; refine At.v rfl rfl rfl rfl rfl trivial ?_; refine At.regionEnd (At.seq (At.region ?_)); refine At.fa 0 rfl rfl rfl rfl rfl rfl rfl ?_; refine At.ld 1 rfl rfl rfl rfl rfl rfl rfl rfl rfl ?_; refine At.fa 1 rfl rfl rfl rfl rfl rfl rfl ?_
  refine At.ld 0 rfl rfl rfl rfl rfl rfl rfl rfl rfl ?_; refine At.q rfl rfl rfl rfl (q_mulW rfl rfl rfl) ?_; refine At.fa 0 rfl rfl rfl rfl rfl rfl rfl ?_; refine At.ld 0 rfl rfl rfl rfl rfl rfl rfl rfl rfl ?_; refine At.fa 1 rfl rfl rfl rfl rfl rfl rfl ?_; refine At.ld 1 rfl rfl rfl rfl rfl rfl rfl rfl rfl ?_; refine At.q rfl rfl rfl rfl (q_mulW rfl rfl rfl) ?_; refine At.cp rfl rfl rfl rfl rfl fun b15 h15 => ?_; refine At.v rfl rfl rfl rfl rfl trivial ?_; refine At.regionEnd ?_
  exact At.ret Tryz.func103 (.inr ⟨_, rfl⟩) rfl (.tmp rfl .nil) (wk (hc _ _ (⟨by simp_all [resVal, lessW], rfl⟩)))
/-- of (law02) -/
theorem s49 (L : Lg Tryz.prog main) (H : Facts) {a b : Int} : Pure L 49 #[.int .i64 a, .int .i64 b] H (.agg #[.int .i64 a, .int .i64 b]) := by
  refine Spec.enter Tryz.func49 rfl (by simp [Tryz.f49]) fun c cs hc => ?_; refine At.seq (At.region ?_); refine At.al rfl rfl rfl rfl rfl fun r4 => ?_; refine At.regionEnd (At.seq (At.region ?_)); (iterate 2 refine At.v rfl rfl rfl rfl rfl trivial ?_); refine At.q rfl rfl rfl rfl (q_build rfl rfl rfl) ?_; refine At.st 0 rfl rfl rfl rfl rfl rfl rfl rfl rfl rfl rfl rfl ?_; refine At.regionEnd ?_
  exact At.ret Tryz.func49 (.inr ⟨_, rfl⟩) rfl (.aggJ 0 rfl rfl rfl .nil) (wk (hc _ _ (⟨by rfl, rfl⟩)))
/-- Lowest (ref02) -/
theorem s46 (L : Lg Tryz.prog main) (H : Facts) {n d : Int} (hd : d ≠ 0) (h1 : Mid n) (h2 : Mid d) : Pure L 46 #[.int .i64 n, .int .i64 d] H (.agg #[.int .i64 (lowN n d), .int .i64 (lowD n d)]) := by
  refine Spec.enter Tryz.func46 rfl (by simp [Tryz.f46]) fun c cs hc => ?_
  have i1 := h1
  have i2 := h2
  unfold Mid at i1 i2
  refine At.seq (At.region ?_); refine At.al rfl rfl rfl rfl rfl fun r4 => ?_; refine At.regionEnd (At.seq (At.seq (At.region ?_))); refine At.v rfl rfl rfl rfl rfl trivial ?_; refine At.cp rfl rfl rfl rfl rfl fun b8 h8 => ?_; refine At.regionEnd ?_
  refine At.cut (X := { p : Int × Int // 0 < p.2 ∧ Mid p.1 ∧ Mid p.2 ∧ p.1 = (if d < 0 then -n else n) ∧ p.2 = (if d < 0 then -d else d) }) (fun x => [(0, .int .i64 x.1.1), (1, .int .i64 x.1.2), (4, .pointer (some ⟨r4, 0, none⟩))]) (fun x => .own r4 (.cells #[.int .i64 0, .int .i64 0] 29 (0, 0)) :: H) ?_ fun key => ?_
  · rintro ⟨⟨n', d'⟩, hpos, hn', hd', en, ed⟩
    simp only at hpos hn' hd' en ed ⊢
    have j1 := hn'
    have j2 := hd'
    unfold Mid at j1 j2
    refine At.seq (At.region ?_); (iterate 2 refine At.v rfl rfl rfl rfl rfl trivial ?_); refine At.v rfl rfl rfl rfl rfl (by omega) ?_; (iterate 4 refine At.v rfl rfl rfl rfl rfl trivial ?_); refine At.regionEnd (At.seq ?_); refine At.block ?_
    refine At.lp (X := { p : Int × Int // 0 ≤ p.1 ∧ 0 ≤ p.2 ∧ Int.gcd p.1 p.2 = Int.gcd n' d' ∧ (p.2 = 0 → p.1 ≠ 0) }) (fun x => [(0, .int .i64 n'), (1, .int .i64 d'), (4, .pointer (some ⟨r4, 0, none⟩)), (5, .int .i64 x.1.1), (6, .int .i64 x.1.2)]) (fun x => .own r4 (.cells #[.int .i64 0, .int .i64 0] 29 (0, 0)) :: H) (fun x => x.1.2.toNat) ⟨(if -n' > n' then -n' else n', d'), ?_⟩ ?_ ⟨rfl, rfl, rfl, rfl, rfl, trivial⟩ (Sub.refl _)
    · refine ⟨?_, by omega, ?_, by omega⟩
      · split <;> omega
      · have : (if -n' > n' then -n' else n').natAbs = n'.natAbs := by split <;> omega
        rw [Int.gcd, this, Int.gcd]
    · rintro ⟨⟨a, b⟩, ha, hb, hg, hz⟩ again
      simp only at ha hb hg hz again ⊢
      refine At.seq (At.seq (At.region ?_)); refine At.v rfl rfl rfl rfl rfl trivial ?_; refine At.cp rfl rfl rfl rfl rfl fun b19 h19 => ?_; refine At.regionEnd ?_
      cases b19
      · have hb0 : b = 0 := by simp at h19; omega
        have ha' : a = (Int.gcd n d : Int) := by
          have e1 : Int.gcd n' d' = Int.gcd n d := by
            rw [en, ed]
            split <;> simp
          rw [← e1, ← hg, hb0]
          simp
          omega
        have q1 : a ≠ 0 ∧ InI (n'.tdiv a) := ⟨hz hb0, tdiv_in hn'⟩
        have q2 : a ≠ 0 ∧ InI (d'.tdiv a) := ⟨hz hb0, tdiv_in hd'⟩
        refine At.cond rfl ?_; refine At.exit rfl ?_; refine At.seq ?_; refine At.drawJ hmix [0] rfl ?_; refine Pool.v 0 rfl rfl rfl rfl rfl rfl rfl trivial ?_; refine Pool.v 1 rfl rfl rfl rfl rfl rfl rfl trivial ?_; refine Pool.v 2 rfl rfl rfl rfl rfl rfl rfl (by assumption) ?_; refine Pool.v 3 rfl rfl rfl rfl rfl rfl rfl trivial ?_; refine Pool.v 4 rfl rfl rfl rfl rfl rfl rfl trivial ?_; refine Pool.v 5 rfl rfl rfl rfl rfl rfl rfl (by assumption) ?_
        refine Pool.q 6 rfl rfl rfl rfl rfl (q_build rfl rfl rfl) rfl ?_; refine Pool.st 0 7 rfl rfl rfl rfl rfl rfl rfl rfl rfl rfl rfl rfl rfl rfl rfl rfl rfl rfl sb ?_; refine pool_done rfl rfl ?_; refine At.regionEnd ?_
        exact At.ret Tryz.func46 (.inr ⟨_, rfl⟩) rfl (.aggJ 0 rfl rfl rfl .nil) (wk (hc _ _ (⟨by rw [ha', en, ed]; rfl, rfl⟩)))
      · have hb0 : b ≠ 0 := by simp at h19; omega
        refine At.cond rfl ?_; refine At.skip ?_; refine At.block ?_; refine At.drawJ hmix [] rfl ?_; refine Pool.v 0 rfl rfl rfl rfl rfl rfl rfl trivial ?_; refine Pool.v 1 rfl rfl rfl rfl rfl rfl rfl trivial ?_; refine Pool.v 2 rfl rfl rfl rfl rfl rfl rfl trivial ?_; refine Pool.v 3 rfl rfl rfl rfl rfl rfl rfl (by assumption) ?_; refine Pool.v 4 rfl rfl rfl rfl rfl rfl rfl trivial ?_; refine Pool.v 5 rfl rfl rfl rfl rfl rfl rfl trivial ?_; refine pool_done rfl rfl ?_; refine At.regionEnd ?_
        refine At.inBlock ?_
        have hm := Int.tmod_nonneg b ha
        have hlt := Int.tmod_lt_of_pos a (show 0 < b by omega)
        refine At.to (again ⟨(b, a.tmod b), hb, hm, ?_, fun _ => hb0⟩ ?_) ⟨rfl, rfl, rfl, rfl, rfl, trivial⟩ (Sub.refl _)
        · rw [← hg]
          simp only [Int.gcd]
          rw [Int.natAbs_tmod, Nat.gcd_comm, ← Nat.gcd_rec, Nat.gcd_comm]
        · simp only
          omega
  · cases b8
    · refine At.cond rfl ?_
      refine At.skip ?_
      exact At.to (key ⟨(n, d), by simp at h8; omega, h1, h2, by simp at h8; simp; intro; omega, by simp at h8; simp; intro; omega⟩) ⟨rfl, rfl, rfl, trivial⟩ (Sub.refl _)
    · refine At.cond rfl ?_
      refine At.region ?_; refine At.v rfl rfl rfl rfl rfl trivial ?_; refine At.v rfl rfl rfl rfl rfl (by omega) ?_; refine At.v rfl rfl rfl rfl rfl trivial ?_; refine At.v rfl rfl rfl rfl rfl (by omega) ?_; (iterate 2 refine At.v rfl rfl rfl rfl rfl trivial ?_); refine At.regionEnd ?_
      exact At.to (key ⟨(-n, -d), by simp at h8; omega, by unfold Mid at *; omega, by unfold Mid at *; omega, by simp at h8; simp [h8], by simp at h8; simp [h8]⟩) ⟨rfl, rfl, rfl, trivial⟩ (Sub.refl _)
/-- CheckSlope (ref02) -/
theorem s47 (L : Lg Tryz.prog main) (H : Facts) {n d : Int} : Pure L 47 #[.agg #[.int .i64 n, .int .i64 d]] H (.int .i64 (slopeBar n d)) := by
  refine Spec.enter Tryz.func47 rfl (by simp [Tryz.f47]) fun c cs hc => ?_; refine At.seq (At.region ?_); refine At.bx rfl rfl rfl rfl rfl rfl rfl fun r1 => ?_; refine At.v rfl rfl rfl rfl rfl trivial ?_; refine At.regionEnd (At.seq (At.seq (At.region ?_))); refine At.fa 1 rfl rfl rfl rfl rfl rfl rfl ?_; refine At.ld 0 rfl rfl rfl rfl rfl rfl rfl rfl rfl ?_; refine At.cqb rfl rfl rfl rfl rfl rfl rfl rfl (s43 L _) fun b5 h5 => ?_; (iterate 2 refine At.v rfl rfl rfl rfl rfl trivial ?_)
  cases b5
  · refine At.un rfl rfl rfl rfl ?_
    (iterate 3 refine At.un rfl rfl rfl rfl ?_); refine At.v rfl rfl rfl rfl rfl trivial ?_; refine At.regionEnd ?_; refine At.cond rfl ?_; refine At.seq (At.region ?_); refine At.v rfl rfl rfl rfl rfl trivial ?_; refine At.regionEnd ?_
    exact At.ret Tryz.func47 (.inr ⟨_, rfl⟩) rfl (.tmp rfl .nil) (wk (hc _ _ (⟨by simp_all [resVal, slopeBar], rfl⟩)))
  refine At.fa 0 rfl rfl rfl rfl rfl rfl rfl ?_; refine At.ld 0 rfl rfl rfl rfl rfl rfl rfl rfl rfl ?_; refine At.cqb rfl rfl rfl rfl rfl rfl rfl rfl (s43 L _) fun b10 h10 => ?_; (iterate 2 refine At.v rfl rfl rfl rfl rfl trivial ?_); refine At.regionEnd ?_
  cases b10
  · refine At.cond rfl ?_
    refine At.seq (At.region ?_); refine At.v rfl rfl rfl rfl rfl trivial ?_; refine At.regionEnd ?_
    exact At.ret Tryz.func47 (.inr ⟨_, rfl⟩) rfl (.tmp rfl .nil) (wk (hc _ _ (⟨by simp_all [resVal, slopeBar], rfl⟩)))
  have hd : d ≠ 0 := by simp at h5; omega
  have m1 : Mid n := by simp at h10; unfold Mid; omega
  have m2 : Mid d := by simp at h5; unfold Mid; omega
  refine At.cond rfl ?_; refine At.skip (At.seq (At.seq ?_)); refine At.drawJ hmix [] rfl ?_; refine Pool.fa 0 0 rfl rfl rfl rfl rfl rfl rfl rfl rfl ?_; refine Pool.ld 0 1 rfl rfl rfl rfl rfl rfl rfl rfl rfl rfl rfl ?_; refine Pool.fa 1 2 rfl rfl rfl rfl rfl rfl rfl rfl rfl ?_; refine Pool.ld 0 3 rfl rfl rfl rfl rfl rfl rfl rfl rfl rfl rfl ?_; refine Pool.cq 4 rfl rfl rfl rfl rfl rfl rfl rfl rfl (fun H hs => s46 L H bz bz bz) ?_; refine Pool.ld 0 5 rfl rfl rfl rfl rfl rfl rfl rfl rfl rfl rfl ?_
  refine Pool.qb 6 rfl rfl rfl rfl rfl (q_neqS rfl rfl rfl rfl rfl rfl rfl rfl) rfl fun b19 h19 => ?_; refine pool_done rfl rfl ?_; refine At.regionEnd ?_
  cases b19
  · refine At.cond rfl ?_
    refine At.skip (At.seq (At.region ?_)); refine At.v rfl rfl rfl rfl rfl trivial ?_; refine At.regionEnd ?_
    exact At.ret Tryz.func47 (.inr ⟨_, rfl⟩) rfl (.tmp rfl .nil) (wk (hc _ _ (⟨by simp_all [resVal, slopeBar], rfl⟩)))
  · refine At.cond rfl ?_
    refine At.seq (At.region ?_); refine At.v rfl rfl rfl rfl rfl trivial ?_; refine At.regionEnd ?_
    exact At.ret Tryz.func47 (.inr ⟨_, rfl⟩) rfl (.tmp rfl .nil) (wk (hc _ _ (⟨by simp_all [resVal, slopeBar], rfl⟩)))
end Go.Gx
end

section
set_option linter.unusedSimpArgs false
set_option linter.unusedVariables false
namespace Go.Gx
open Go Go.Conc Go.Proofs
variable {main : Bool}

/-- square -/
theorem r96 (L : Lg Tryz.prog main) (H : Facts) {b off n cap m mc : Nat} {ma : Option Addr} {size lo hi h0 hn hd : Int} (k0 : 0 < n) (c0 : Cells H b (off + 0 * 2 + 1) [.int .i64 h0]) (i1 : Mid (size * hd)) (i2 : InI (h0 * hd)) (i3 : Mid (hn - h0 * hd)) (i4 : size * hd ≠ 0) :
    Pure L 96 #[.agg #[.slice (some ⟨b, off, none⟩) n cap, .int .i64 size, .int .i64 lo, .int .i64 hi, .slice ma m mc], .agg #[.int .i64 hn, .int .i64 hd]] H
      (.tuple #[.int .i64 ((hn - h0 * hd).tdiv (size * hd)), .agg #[.int .i64 (lowN ((hn - h0 * hd).tmod (size * hd)) (size * hd)), .int .i64 (lowD ((hn - h0 * hd).tmod (size * hd)) (size * hd))]]) := by
  refine Spec.enter Tryz.func96 rfl (by simp [Tryz.f96]) fun c cs hc => ?_
  have q1 : size * hd ≠ 0 ∧ InI ((hn - h0 * hd).tdiv (size * hd)) := ⟨i4, tdiv_in i3⟩
  have q2 : Mid ((hn - h0 * hd).tmod (size * hd)) := by
    have h1 : ((hn - h0 * hd).tmod (size * hd)).natAbs = (hn - h0 * hd).natAbs % (size * hd).natAbs := Int.natAbs_tmod _ _
    have h2 : (hn - h0 * hd).natAbs % (size * hd).natAbs ≤ (hn - h0 * hd).natAbs := Nat.mod_le _ _
    unfold Mid at i3 ⊢
    omega
  refine At.seq (At.region ?_); refine At.bx rfl rfl rfl rfl rfl rfl rfl fun r2 => ?_; refine At.bx rfl rfl rfl rfl rfl rfl rfl fun r3 => ?_; refine At.v rfl rfl rfl rfl rfl trivial ?_; refine At.al rfl rfl rfl rfl rfl fun r5 => ?_; refine At.regionEnd (At.seq (At.region ?_)); refine At.fa 0 rfl rfl rfl rfl rfl rfl rfl ?_; refine At.fa 1 rfl rfl rfl rfl rfl rfl rfl ?_; refine At.ld 2 rfl rfl rfl rfl rfl rfl rfl rfl rfl ?_; refine At.fa 1 rfl rfl rfl rfl rfl rfl rfl ?_
  refine At.ld 1 rfl rfl rfl rfl rfl rfl rfl rfl rfl ?_; refine At.v rfl rfl rfl rfl rfl (by omega) ?_; refine At.v rfl rfl rfl rfl rfl trivial ?_; refine At.regionEnd (At.seq ?_); refine At.drawJ hmix [] rfl ?_; refine Pool.fa 0 0 rfl rfl rfl rfl rfl rfl rfl rfl rfl ?_; refine Pool.ld 1 1 rfl rfl rfl rfl rfl rfl rfl rfl rfl rfl rfl ?_; refine Pool.fa 0 2 rfl rfl rfl rfl rfl rfl rfl rfl rfl ?_; refine Pool.fa 0 3 rfl rfl rfl rfl rfl rfl rfl rfl rfl ?_
  refine Pool.ld 2 4 rfl rfl rfl rfl rfl rfl rfl rfl rfl rfl rfl ?_; refine Pool.q 5 rfl rfl rfl rfl rfl (q_ia rfl rfl rfl (by assumption)) rfl ?_; refine Pool.faE 6 rfl rfl rfl rfl rfl rfl rfl rfl ?_; refine Pool.ldc 7 rfl rfl rfl rfl rfl rfl rfl c0.a rfl rfl rfl ?_; refine Pool.fa 1 8 rfl rfl rfl rfl rfl rfl rfl rfl rfl ?_; refine Pool.ld 1 9 rfl rfl rfl rfl rfl rfl rfl rfl rfl rfl rfl ?_; refine Pool.v 10 rfl rfl rfl rfl rfl rfl rfl (by assumption) ?_
  refine Pool.v 11 rfl rfl rfl rfl rfl rfl rfl (by omega) ?_; refine Pool.v 12 rfl rfl rfl rfl rfl rfl rfl trivial ?_; refine pool_done rfl rfl ?_; refine At.regionEnd (At.seq ?_); refine At.drawJ hmix [0] rfl ?_; refine Pool.v 0 rfl rfl rfl rfl rfl rfl rfl trivial ?_; refine Pool.v 1 rfl rfl rfl rfl rfl rfl rfl trivial ?_; refine Pool.v 2 rfl rfl rfl rfl rfl rfl rfl (by assumption) ?_; refine Pool.v 3 rfl rfl rfl rfl rfl rfl rfl trivial ?_; refine Pool.v 4 rfl rfl rfl rfl rfl rfl rfl trivial ?_
  refine Pool.v 5 rfl rfl rfl rfl rfl rfl rfl (by assumption) ?_; refine Pool.v 6 rfl rfl rfl rfl rfl rfl rfl trivial ?_; refine Pool.cq 7 rfl rfl rfl rfl rfl rfl rfl rfl rfl (fun H hs => s98 L H bz bz bz) ?_; refine Pool.v 8 rfl rfl rfl rfl rfl rfl rfl trivial ?_; refine Pool.st 0 9 rfl rfl rfl rfl rfl rfl rfl rfl rfl rfl rfl rfl rfl rfl rfl rfl rfl rfl sb ?_; refine pool_done rfl rfl ?_; refine At.regionEnd ?_
  exact At.ret Tryz.func96 (.inr ⟨_, rfl⟩) rfl (.tmp rfl (.aggJ 0 rfl rfl rfl .nil)) (wk (hc _ _ (⟨by rfl, rfl⟩)))
end Go.Gx
end

section
set_option linter.unusedSimpArgs false
set_option linter.unusedVariables false
namespace Go.Gx
open Go Go.Conc Go.Proofs
variable {main : Bool}

/-- RowOf (ref02) -/
theorem r97 (L : Lg Tryz.prog main) (H : Facts) {b off n cap m mc : Nat} {ma : Option Addr} {size lo hi h0 hn hd : Int} (k0 : 0 < n) (c0 : Cells H b (off + 0 * 2 + 1) [.int .i64 h0]) (i1 : Mid (size * hd)) (i2 : InI (h0 * hd)) (i3 : Mid (hn - h0 * hd)) (i4 : size * hd ≠ 0)
    (i5 : InI ((hn - h0 * hd).tdiv (size * hd) * size)) (i6 : InI ((hn - h0 * hd).tdiv (size * hd) * size * hd)) :
    Pure L 97 #[.agg #[.slice (some ⟨b, off, none⟩) n cap, .int .i64 size, .int .i64 lo, .int .i64 hi, .slice ma m mc], .agg #[.int .i64 hn, .int .i64 hd]] H
      (.tuple #[.int .i64 ((hn - h0 * hd).tdiv (size * hd)), .agg #[.int .i64 (lowN ((hn - h0 * hd).tmod (size * hd)) (size * hd)), .int .i64 (lowD ((hn - h0 * hd).tmod (size * hd)) (size * hd))]]) := by
  refine Spec.enter Tryz.func97 rfl (by simp [Tryz.f97]) fun c cs hc => ?_
  have q1 : size * hd ≠ 0 ∧ InI ((hn - h0 * hd).tdiv (size * hd)) := ⟨i4, tdiv_in i3⟩
  have e : (hn - h0 * hd) - (hn - h0 * hd).tdiv (size * hd) * size * hd = (hn - h0 * hd).tmod (size * hd) := by
    have := Int.mul_tdiv_add_tmod (hn - h0 * hd) (size * hd)
    rw [Int.mul_comm] at this
    rw [Int.mul_assoc]
    omega
  have q2 : Mid ((hn - h0 * hd) - (hn - h0 * hd).tdiv (size * hd) * size * hd) := by
    rw [e]
    have h1 : ((hn - h0 * hd).tmod (size * hd)).natAbs = (hn - h0 * hd).natAbs % (size * hd).natAbs := Int.natAbs_tmod _ _
    have h2 : (hn - h0 * hd).natAbs % (size * hd).natAbs ≤ (hn - h0 * hd).natAbs := Nat.mod_le _ _
    unfold Mid at i3 ⊢
    omega
  refine At.seq (At.region ?_); refine At.bx rfl rfl rfl rfl rfl rfl rfl fun r2 => ?_; refine At.bx rfl rfl rfl rfl rfl rfl rfl fun r3 => ?_; refine At.v rfl rfl rfl rfl rfl trivial ?_; refine At.al rfl rfl rfl rfl rfl fun r5 => ?_; refine At.regionEnd (At.seq ?_); refine At.drawJ hmix [] rfl ?_; refine Pool.fa 0 0 rfl rfl rfl rfl rfl rfl rfl rfl rfl ?_; refine Pool.ld 1 1 rfl rfl rfl rfl rfl rfl rfl rfl rfl rfl rfl ?_; refine Pool.fa 0 2 rfl rfl rfl rfl rfl rfl rfl rfl rfl ?_
  refine Pool.ld 2 3 rfl rfl rfl rfl rfl rfl rfl rfl rfl rfl rfl ?_; refine Pool.q 4 rfl rfl rfl rfl rfl (q_ia rfl rfl rfl (by assumption)) rfl ?_; refine Pool.faE 5 rfl rfl rfl rfl rfl rfl rfl rfl ?_; refine Pool.ldc 6 rfl rfl rfl rfl rfl rfl rfl c0.a rfl rfl rfl ?_; refine Pool.fa 1 7 rfl rfl rfl rfl rfl rfl rfl rfl rfl ?_; refine Pool.ld 1 8 rfl rfl rfl rfl rfl rfl rfl rfl rfl rfl rfl ?_; refine Pool.v 9 rfl rfl rfl rfl rfl rfl rfl (by assumption) ?_
  refine Pool.v 10 rfl rfl rfl rfl rfl rfl rfl (by omega) ?_; refine Pool.v 11 rfl rfl rfl rfl rfl rfl rfl trivial ?_; refine pool_done rfl rfl ?_; refine At.regionEnd (At.seq (At.region ?_)); refine At.v rfl rfl rfl rfl rfl trivial ?_; refine At.fa 1 rfl rfl rfl rfl rfl rfl rfl ?_; refine At.ld 2 rfl rfl rfl rfl rfl rfl rfl rfl rfl ?_; refine At.fa 1 rfl rfl rfl rfl rfl rfl rfl ?_; refine At.ld 1 rfl rfl rfl rfl rfl rfl rfl rfl rfl ?_; refine At.v rfl rfl rfl rfl rfl (by omega) ?_
  refine At.v rfl rfl rfl rfl rfl (by assumption) ?_; refine At.v rfl rfl rfl rfl rfl trivial ?_; refine At.regionEnd (At.seq (At.region ?_)); (iterate 3 refine At.v rfl rfl rfl rfl rfl trivial ?_); refine At.fa 1 rfl rfl rfl rfl rfl rfl rfl ?_; refine At.ld 2 rfl rfl rfl rfl rfl rfl rfl rfl rfl ?_; refine At.v rfl rfl rfl rfl rfl (by assumption) ?_; refine At.fa 1 rfl rfl rfl rfl rfl rfl rfl ?_; refine At.ld 1 rfl rfl rfl rfl rfl rfl rfl rfl rfl ?_
  refine At.v rfl rfl rfl rfl rfl (by assumption) ?_; refine At.v rfl rfl rfl rfl rfl (by omega) ?_; refine At.fa 1 rfl rfl rfl rfl rfl rfl rfl ?_; refine At.ld 2 rfl rfl rfl rfl rfl rfl rfl rfl rfl ?_; refine At.fa 1 rfl rfl rfl rfl rfl rfl rfl ?_; refine At.ld 1 rfl rfl rfl rfl rfl rfl rfl rfl rfl ?_; refine At.v rfl rfl rfl rfl rfl (by omega) ?_; refine At.cq rfl rfl rfl rfl rfl rfl rfl rfl (s46 L _ bz bz bz) ?_; refine At.v rfl rfl rfl rfl rfl trivial ?_
  refine At.st 0 rfl rfl rfl rfl rfl rfl rfl rfl rfl rfl rfl rfl ?_; refine At.regionEnd ?_
  exact At.ret Tryz.func97 (.inr ⟨_, rfl⟩) rfl (.tmp rfl (.aggJ 0 rfl rfl rfl .nil)) (wk (hc _ _ (⟨by simp only [resVal, e], rfl⟩)))
end Go.Gx
end

section
set_option linter.unusedSimpArgs false
set_option linter.unusedVariables false
namespace Go.Gx
open Go Go.Conc Go.Proofs
variable {main : Bool}

def spotV (x : Spot) : Value := .agg (List.toArray (c4 x))
set_option maxRecDepth 100000 in
set_option maxHeartbeats 4000000 in
/-- cross$1: it yields the points at which a line meets a piece. -/
theorem s166 (L : Lg Tryz.prog main) (H0 : Facts) {p q : R2} {eye : Int} {s : R2} {b1 b2 b3 b4 : Nat} (hp : PtOk p) (hq : PtOk q) (he : EyeOk eye) (hs : SlOk s)
    (k1 : Cells H0 b1 0 (c2 p)) (k2 : Cells H0 b2 0 (c1 eye)) (k3 : Cells H0 b3 0 (c2 s)) (k4 : Cells H0 b4 0 (c2 q)) :
    SeqOk L (.func (.func 166) #[] #[.pointer (some ⟨b1, 0, none⟩), .pointer (some ⟨b2, 0, none⟩), .pointer (some ⟨b3, 0, none⟩), .pointer (some ⟨b4, 0, none⟩)]) ((crossM p q eye s).map spotV) H0 := by
  intro ly I D hsub hsubD hh Hs hI0
  refine SpecV.of HB.h (Spec.enter Tryz.func166 rfl (by simp [Tryz.f166]) fun c cs hc => ?_)
  have hs0 := hsub 0 Hs hI0
  generalize hl : crossM p q eye s = l at hh hc
  unfold crossM at hl
  have o1 := offL_bd hp he hs
  have o2 := offL_bd hq he hs
  unfold PtOk at hp hq
  unfold EyeOk at he
  unfold SlOk at hs
  have e1 := mul_bd (a := p.2 - eye) (b := s.2) (A := 90) (B := 10000) (by omega) (by omega)
  have e2 := mul_bd (a := s.1) (b := p.1) (A := 10000) (B := 60) (by omega) (by omega)
  have e3 := mul_bd (a := q.2 - eye) (b := s.2) (A := 90) (B := 10000) (by omega) (by omega)
  have e4 := mul_bd (a := s.1) (b := q.1) (A := 10000) (B := 60) (by omega) (by omega)
  have m1 : Mid (offL p eye s - offL q eye s) := by unfold Mid; omega
  have m2 : Mid (p.1 * (offL p eye s - offL q eye s) + (q.1 - p.1) * offL p eye s) := by
    have a1 := mul_bd (a := p.1) (b := offL p eye s - offL q eye s) (A := 60) (B := 3000000) (by omega) (by omega)
    have a2 := mul_bd (a := q.1 - p.1) (b := offL p eye s) (A := 60) (B := 1500000) (by omega) (by omega)
    unfold Mid; omega
  have m3 : Mid (p.2 * (offL p eye s - offL q eye s) + (q.2 - p.2) * offL p eye s) := by
    have a1 := mul_bd (a := p.2) (b := offL p eye s - offL q eye s) (A := 90) (B := 3000000) (by omega) (by omega)
    have a2 := mul_bd (a := q.2 - p.2) (b := offL p eye s) (A := 90) (B := 1500000) (by omega) (by omega)
    unfold Mid; omega
  have i1 : InI (offL p eye s - offL q eye s) := by unfold InI; omega
  have i2 : InI (p.1 * (offL p eye s - offL q eye s)) := by
    have a1 := mul_bd (a := p.1) (b := offL p eye s - offL q eye s) (A := 60) (B := 3000000) (by omega) (by omega)
    unfold InI; omega
  have i3 : InI ((q.1 - p.1) * offL p eye s) := by
    have a2 := mul_bd (a := q.1 - p.1) (b := offL p eye s) (A := 60) (B := 1500000) (by omega) (by omega)
    unfold InI; omega
  have i4 : InI (p.2 * (offL p eye s - offL q eye s)) := by
    have a1 := mul_bd (a := p.2) (b := offL p eye s - offL q eye s) (A := 90) (B := 3000000) (by omega) (by omega)
    unfold InI; omega
  have i5 : InI ((q.2 - p.2) * offL p eye s) := by
    have a2 := mul_bd (a := q.2 - p.2) (b := offL p eye s) (A := 90) (B := 1500000) (by omega) (by omega)
    unfold InI; omega
  have i6 : InI (p.1 * (offL p eye s - offL q eye s) + (q.1 - p.1) * offL p eye s) := by unfold InI; unfold Mid at m2; omega
  have i7 : InI (p.2 * (offL p eye s - offL q eye s) + (q.2 - p.2) * offL p eye s) := by unfold InI; unfold Mid at m3; omega
  refine At.seq (At.region ?_); refine At.fa 1 rfl rfl rfl rfl rfl rfl rfl ?_; refine At.ldc rfl rfl rfl rfl rfl rfl (k1.s 1 1 rfl) rfl rfl ?_; refine At.ldc rfl rfl rfl rfl rfl rfl k2.a rfl rfl ?_; refine At.v rfl rfl rfl rfl rfl (by omega) ?_; refine At.fa 1 rfl rfl rfl rfl rfl rfl rfl ?_; refine At.ldc rfl rfl rfl rfl rfl rfl (k3.s 1 1 rfl) rfl rfl ?_; refine At.v rfl rfl rfl rfl rfl (by omega) ?_; refine At.fa 0 rfl rfl rfl rfl rfl rfl rfl ?_
  refine At.ldc rfl rfl rfl rfl rfl rfl (k3.s 0 1 rfl) rfl rfl ?_; refine At.fa 0 rfl rfl rfl rfl rfl rfl rfl ?_; refine At.ldc rfl rfl rfl rfl rfl rfl (k1.s 0 1 rfl) rfl rfl ?_; (iterate 2 refine At.v rfl rfl rfl rfl rfl (by omega) ?_); refine At.v rfl rfl rfl rfl rfl trivial ?_; refine At.regionEnd (At.seq (At.region ?_)); refine At.fa 1 rfl rfl rfl rfl rfl rfl rfl ?_; refine At.ldc rfl rfl rfl rfl rfl rfl (k4.s 1 1 rfl) rfl rfl ?_; refine At.ldc rfl rfl rfl rfl rfl rfl k2.a rfl rfl ?_
  refine At.v rfl rfl rfl rfl rfl (by omega) ?_; refine At.fa 1 rfl rfl rfl rfl rfl rfl rfl ?_; refine At.ldc rfl rfl rfl rfl rfl rfl (k3.s 1 1 rfl) rfl rfl ?_; refine At.v rfl rfl rfl rfl rfl (by omega) ?_; refine At.fa 0 rfl rfl rfl rfl rfl rfl rfl ?_; refine At.ldc rfl rfl rfl rfl rfl rfl (k3.s 0 1 rfl) rfl rfl ?_; refine At.fa 0 rfl rfl rfl rfl rfl rfl rfl ?_; refine At.ldc rfl rfl rfl rfl rfl rfl (k4.s 0 1 rfl) rfl rfl ?_; (iterate 2 refine At.v rfl rfl rfl rfl rfl (by omega) ?_)
  refine At.v rfl rfl rfl rfl rfl trivial ?_; refine At.regionEnd ?_; refine At.block ?_; refine At.seq (At.region ?_); refine At.ldc rfl rfl rfl rfl rfl rfl k1.a rfl rfl ?_; refine At.ldc rfl rfl rfl rfl rfl rfl k4.a rfl rfl ?_; refine At.qb rfl rfl rfl rfl (q_eqS rfl rfl rfl rfl rfl rfl rfl rfl) fun b39 h39 => ?_; refine At.v rfl rfl rfl rfl rfl trivial ?_; refine At.regionEnd ?_
  cases b39
  · have hne : p ≠ q := by rintro rfl; simp at h39
    rw [if_neg hne] at hl
    refine At.cond rfl ?_; refine At.seq (At.region ?_); refine At.v rfl rfl rfl rfl rfl trivial ?_; refine At.cp rfl rfl rfl rfl rfl fun b42 h42 => ?_; refine At.v rfl rfl rfl rfl rfl trivial ?_
    cases b42
    · have ha : offL p eye s ≠ 0 := by simp [offL] at *; omega
      rw [if_neg (fun x => ha x.1)] at hl
      (iterate 2 refine At.un rfl rfl rfl rfl ?_); (iterate 2 refine At.v rfl rfl rfl rfl rfl trivial ?_); refine At.regionEnd ?_; refine At.cond rfl ?_; refine At.seq (At.region ?_); refine At.v rfl rfl rfl rfl rfl trivial ?_; refine At.cp rfl rfl rfl rfl rfl fun b59 h59 => ?_; refine At.v rfl rfl rfl rfl rfl trivial ?_
      cases b59
      · refine At.un rfl rfl rfl rfl ?_
        refine At.un rfl rfl rfl rfl ?_; (iterate 3 refine At.v rfl rfl rfl rfl rfl trivial ?_); refine At.cp rfl rfl rfl rfl rfl fun b66 h66 => ?_; refine At.v rfl rfl rfl rfl rfl trivial ?_
        cases b66
        · have hcond : ¬ ((offL p eye s ≤ 0 ∧ 0 ≤ offL q eye s) ∨ (0 ≤ offL p eye s ∧ offL q eye s ≤ 0)) := by simp [offL] at *; omega
          rw [if_neg hcond] at hl
          subst hl
          (iterate 2 refine At.un rfl rfl rfl rfl ?_); (iterate 3 refine At.v rfl rfl rfl rfl rfl trivial ?_); refine At.regionEnd ?_; refine At.cond rfl ?_; refine At.skip ?_; refine At.inBlock ?_
          exact At.ret Tryz.func166 (.inl rfl) rfl .nil (wk (hc _ _ (⟨Hs, Sub.refl _, .inl hI0⟩)))
        · refine At.v rfl rfl rfl rfl rfl trivial ?_
          refine At.cp rfl rfl rfl rfl rfl fun b69 h69 => ?_; (iterate 3 refine At.v rfl rfl rfl rfl rfl trivial ?_); refine At.regionEnd ?_
          cases b69
          · have hcond : ¬ ((offL p eye s ≤ 0 ∧ 0 ≤ offL q eye s) ∨ (0 ≤ offL p eye s ∧ offL q eye s ≤ 0)) := by simp [offL] at *; omega
            rw [if_neg hcond] at hl
            subst hl
            refine At.cond rfl ?_; refine At.skip ?_; refine At.inBlock ?_
            exact At.ret Tryz.func166 (.inl rfl) rfl .nil (wk (hc _ _ (⟨Hs, Sub.refl _, .inl hI0⟩)))
          · have hcond : (offL p eye s ≤ 0 ∧ 0 ≤ offL q eye s) ∨ (0 ≤ offL p eye s ∧ offL q eye s ≤ 0) := by simp [offL] at *; omega
            rw [if_pos hcond] at hl
            subst hl
            have hd0 : offL p eye s - offL q eye s ≠ 0 := by omega
            refine At.cond rfl ?_; refine At.seq (At.region ?_); (iterate 3 refine At.v rfl rfl rfl rfl rfl trivial ?_); refine At.v rfl rfl rfl rfl rfl (by assumption) ?_; (iterate 2 refine At.v rfl rfl rfl rfl rfl trivial ?_); refine At.regionEnd ?_; refine At.draw hmix (H0) sb ?_; refine Pool.v 0 rfl rfl rfl rfl rfl rfl rfl trivial ?_; refine Pool.fa 0 1 rfl rfl rfl rfl rfl rfl rfl rfl rfl ?_; refine Pool.ldc 2 rfl rfl rfl rfl rfl rfl rfl (k1.s 0 1 rfl) rfl rfl rfl ?_
            refine Pool.v 3 rfl rfl rfl rfl rfl rfl rfl trivial ?_; refine Pool.v 4 rfl rfl rfl rfl rfl rfl rfl (by assumption) ?_; refine Pool.fa 0 5 rfl rfl rfl rfl rfl rfl rfl rfl rfl ?_; refine Pool.ldc 6 rfl rfl rfl rfl rfl rfl rfl (k4.s 0 1 rfl) rfl rfl rfl ?_; refine Pool.fa 0 7 rfl rfl rfl rfl rfl rfl rfl rfl rfl ?_; refine Pool.ldc 8 rfl rfl rfl rfl rfl rfl rfl (k1.s 0 1 rfl) rfl rfl rfl ?_; refine Pool.v 9 rfl rfl rfl rfl rfl rfl rfl (by omega) ?_
            refine Pool.v 10 rfl rfl rfl rfl rfl rfl rfl trivial ?_; refine Pool.v 11 rfl rfl rfl rfl rfl rfl rfl (by assumption) ?_; refine Pool.v 12 rfl rfl rfl rfl rfl rfl rfl (by assumption) ?_; refine Pool.v 13 rfl rfl rfl rfl rfl rfl rfl trivial ?_; refine Pool.cq 14 rfl rfl rfl rfl rfl rfl rfl rfl rfl (fun H hs => s98 L H bz bz bz) ?_; refine Pool.fa 1 15 rfl rfl rfl rfl rfl rfl rfl rfl rfl ?_; refine Pool.ldc 16 rfl rfl rfl rfl rfl rfl rfl (k1.s 1 1 rfl) rfl rfl rfl ?_
            refine Pool.v 17 rfl rfl rfl rfl rfl rfl rfl trivial ?_; refine Pool.v 18 rfl rfl rfl rfl rfl rfl rfl (by assumption) ?_; refine Pool.fa 1 19 rfl rfl rfl rfl rfl rfl rfl rfl rfl ?_; refine Pool.ldc 20 rfl rfl rfl rfl rfl rfl rfl (k4.s 1 1 rfl) rfl rfl rfl ?_; refine Pool.fa 1 21 rfl rfl rfl rfl rfl rfl rfl rfl rfl ?_; refine Pool.ldc 22 rfl rfl rfl rfl rfl rfl rfl (k1.s 1 1 rfl) rfl rfl rfl ?_; refine Pool.v 23 rfl rfl rfl rfl rfl rfl rfl (by omega) ?_
            refine Pool.v 24 rfl rfl rfl rfl rfl rfl rfl trivial ?_; refine Pool.v 25 rfl rfl rfl rfl rfl rfl rfl (by assumption) ?_; refine Pool.v 26 rfl rfl rfl rfl rfl rfl rfl (by assumption) ?_; refine Pool.v 27 rfl rfl rfl rfl rfl rfl rfl trivial ?_; refine Pool.cq 28 rfl rfl rfl rfl rfl rfl rfl rfl rfl (fun H hs => s98 L H bz bz bz) ?_; refine Pool.q 29 rfl rfl rfl rfl rfl (q_build rfl rfl rfl) rfl ?_
            refine Pool.yield 30 0 rfl rfl rfl rfl rfl rfl rfl rfl rfl rfl rfl rfl rfl hh rfl hI0 rfl hsub hsubD sb (fun Hk hI => ?_) (fun Hk hD => ?_)
            · refine pool_done rfl rfl ?_
              refine At.regionEnd ?_; refine At.inBlock ?_
              exact At.ret Tryz.func166 (.inl rfl) rfl .nil (wk (hc _ _ (⟨_, Sub.refl _, .inl hI⟩)))
            · refine pool_done rfl rfl ?_
              refine At.regionEnd ?_; refine At.inBlock ?_
              exact At.ret Tryz.func166 (.inl rfl) rfl .nil (wk (hc _ _ (⟨_, Sub.refl _, .inr ⟨0, by simp, hD⟩⟩)))
      · refine At.v rfl rfl rfl rfl rfl trivial ?_
        refine At.cp rfl rfl rfl rfl rfl fun b62 h62 => ?_; (iterate 2 refine At.v rfl rfl rfl rfl rfl trivial ?_)
        cases b62
        · refine At.v rfl rfl rfl rfl rfl trivial ?_
          refine At.cp rfl rfl rfl rfl rfl fun b66 h66 => ?_; refine At.v rfl rfl rfl rfl rfl trivial ?_
          cases b66
          · have hcond : ¬ ((offL p eye s ≤ 0 ∧ 0 ≤ offL q eye s) ∨ (0 ≤ offL p eye s ∧ offL q eye s ≤ 0)) := by simp [offL] at *; omega
            rw [if_neg hcond] at hl
            subst hl
            (iterate 2 refine At.un rfl rfl rfl rfl ?_); (iterate 3 refine At.v rfl rfl rfl rfl rfl trivial ?_); refine At.regionEnd ?_; refine At.cond rfl ?_; refine At.skip ?_; refine At.inBlock ?_
            exact At.ret Tryz.func166 (.inl rfl) rfl .nil (wk (hc _ _ (⟨Hs, Sub.refl _, .inl hI0⟩)))
          · refine At.v rfl rfl rfl rfl rfl trivial ?_
            refine At.cp rfl rfl rfl rfl rfl fun b69 h69 => ?_; (iterate 3 refine At.v rfl rfl rfl rfl rfl trivial ?_); refine At.regionEnd ?_
            cases b69
            · have hcond : ¬ ((offL p eye s ≤ 0 ∧ 0 ≤ offL q eye s) ∨ (0 ≤ offL p eye s ∧ offL q eye s ≤ 0)) := by simp [offL] at *; omega
              rw [if_neg hcond] at hl
              subst hl
              refine At.cond rfl ?_; refine At.skip ?_; refine At.inBlock ?_
              exact At.ret Tryz.func166 (.inl rfl) rfl .nil (wk (hc _ _ (⟨Hs, Sub.refl _, .inl hI0⟩)))
            · have hcond : (offL p eye s ≤ 0 ∧ 0 ≤ offL q eye s) ∨ (0 ≤ offL p eye s ∧ offL q eye s ≤ 0) := by simp [offL] at *; omega
              rw [if_pos hcond] at hl
              subst hl
              have hd0 : offL p eye s - offL q eye s ≠ 0 := by omega
              refine At.cond rfl ?_; refine At.seq (At.region ?_); (iterate 3 refine At.v rfl rfl rfl rfl rfl trivial ?_); refine At.v rfl rfl rfl rfl rfl (by assumption) ?_; (iterate 2 refine At.v rfl rfl rfl rfl rfl trivial ?_); refine At.regionEnd ?_; refine At.draw hmix (H0) sb ?_; refine Pool.v 0 rfl rfl rfl rfl rfl rfl rfl trivial ?_; refine Pool.fa 0 1 rfl rfl rfl rfl rfl rfl rfl rfl rfl ?_; refine Pool.ldc 2 rfl rfl rfl rfl rfl rfl rfl (k1.s 0 1 rfl) rfl rfl rfl ?_
              refine Pool.v 3 rfl rfl rfl rfl rfl rfl rfl trivial ?_; refine Pool.v 4 rfl rfl rfl rfl rfl rfl rfl (by assumption) ?_; refine Pool.fa 0 5 rfl rfl rfl rfl rfl rfl rfl rfl rfl ?_; refine Pool.ldc 6 rfl rfl rfl rfl rfl rfl rfl (k4.s 0 1 rfl) rfl rfl rfl ?_; refine Pool.fa 0 7 rfl rfl rfl rfl rfl rfl rfl rfl rfl ?_; refine Pool.ldc 8 rfl rfl rfl rfl rfl rfl rfl (k1.s 0 1 rfl) rfl rfl rfl ?_; refine Pool.v 9 rfl rfl rfl rfl rfl rfl rfl (by omega) ?_
              refine Pool.v 10 rfl rfl rfl rfl rfl rfl rfl trivial ?_; refine Pool.v 11 rfl rfl rfl rfl rfl rfl rfl (by assumption) ?_; refine Pool.v 12 rfl rfl rfl rfl rfl rfl rfl (by assumption) ?_; refine Pool.v 13 rfl rfl rfl rfl rfl rfl rfl trivial ?_; refine Pool.cq 14 rfl rfl rfl rfl rfl rfl rfl rfl rfl (fun H hs => s98 L H bz bz bz) ?_; refine Pool.fa 1 15 rfl rfl rfl rfl rfl rfl rfl rfl rfl ?_; refine Pool.ldc 16 rfl rfl rfl rfl rfl rfl rfl (k1.s 1 1 rfl) rfl rfl rfl ?_
              refine Pool.v 17 rfl rfl rfl rfl rfl rfl rfl trivial ?_; refine Pool.v 18 rfl rfl rfl rfl rfl rfl rfl (by assumption) ?_; refine Pool.fa 1 19 rfl rfl rfl rfl rfl rfl rfl rfl rfl ?_; refine Pool.ldc 20 rfl rfl rfl rfl rfl rfl rfl (k4.s 1 1 rfl) rfl rfl rfl ?_; refine Pool.fa 1 21 rfl rfl rfl rfl rfl rfl rfl rfl rfl ?_; refine Pool.ldc 22 rfl rfl rfl rfl rfl rfl rfl (k1.s 1 1 rfl) rfl rfl rfl ?_; refine Pool.v 23 rfl rfl rfl rfl rfl rfl rfl (by omega) ?_
              refine Pool.v 24 rfl rfl rfl rfl rfl rfl rfl trivial ?_; refine Pool.v 25 rfl rfl rfl rfl rfl rfl rfl (by assumption) ?_; refine Pool.v 26 rfl rfl rfl rfl rfl rfl rfl (by assumption) ?_; refine Pool.v 27 rfl rfl rfl rfl rfl rfl rfl trivial ?_; refine Pool.cq 28 rfl rfl rfl rfl rfl rfl rfl rfl rfl (fun H hs => s98 L H bz bz bz) ?_; refine Pool.q 29 rfl rfl rfl rfl rfl (q_build rfl rfl rfl) rfl ?_
              refine Pool.yield 30 0 rfl rfl rfl rfl rfl rfl rfl rfl rfl rfl rfl rfl rfl hh rfl hI0 rfl hsub hsubD sb (fun Hk hI => ?_) (fun Hk hD => ?_)
              · refine pool_done rfl rfl ?_
                refine At.regionEnd ?_; refine At.inBlock ?_
                exact At.ret Tryz.func166 (.inl rfl) rfl .nil (wk (hc _ _ (⟨_, Sub.refl _, .inl hI⟩)))
              · refine pool_done rfl rfl ?_
                refine At.regionEnd ?_; refine At.inBlock ?_
                exact At.ret Tryz.func166 (.inl rfl) rfl .nil (wk (hc _ _ (⟨_, Sub.refl _, .inr ⟨0, by simp, hD⟩⟩)))
        · have hcond : (offL p eye s ≤ 0 ∧ 0 ≤ offL q eye s) ∨ (0 ≤ offL p eye s ∧ offL q eye s ≤ 0) := by simp [offL] at *; omega
          rw [if_pos hcond] at hl
          subst hl
          have hd0 : offL p eye s - offL q eye s ≠ 0 := by omega
          (iterate 6 refine At.un rfl rfl rfl rfl ?_); (iterate 2 refine At.v rfl rfl rfl rfl rfl trivial ?_); refine At.regionEnd ?_; refine At.cond rfl ?_; refine At.seq (At.region ?_); (iterate 3 refine At.v rfl rfl rfl rfl rfl trivial ?_); refine At.v rfl rfl rfl rfl rfl (by assumption) ?_; (iterate 2 refine At.v rfl rfl rfl rfl rfl trivial ?_); refine At.regionEnd ?_; refine At.draw hmix (H0) sb ?_; refine Pool.v 0 rfl rfl rfl rfl rfl rfl rfl trivial ?_
          refine Pool.fa 0 1 rfl rfl rfl rfl rfl rfl rfl rfl rfl ?_; refine Pool.ldc 2 rfl rfl rfl rfl rfl rfl rfl (k1.s 0 1 rfl) rfl rfl rfl ?_; refine Pool.v 3 rfl rfl rfl rfl rfl rfl rfl trivial ?_; refine Pool.v 4 rfl rfl rfl rfl rfl rfl rfl (by assumption) ?_; refine Pool.fa 0 5 rfl rfl rfl rfl rfl rfl rfl rfl rfl ?_; refine Pool.ldc 6 rfl rfl rfl rfl rfl rfl rfl (k4.s 0 1 rfl) rfl rfl rfl ?_; refine Pool.fa 0 7 rfl rfl rfl rfl rfl rfl rfl rfl rfl ?_
          refine Pool.ldc 8 rfl rfl rfl rfl rfl rfl rfl (k1.s 0 1 rfl) rfl rfl rfl ?_; refine Pool.v 9 rfl rfl rfl rfl rfl rfl rfl (by omega) ?_; refine Pool.v 10 rfl rfl rfl rfl rfl rfl rfl trivial ?_; refine Pool.v 11 rfl rfl rfl rfl rfl rfl rfl (by assumption) ?_; refine Pool.v 12 rfl rfl rfl rfl rfl rfl rfl (by assumption) ?_; refine Pool.v 13 rfl rfl rfl rfl rfl rfl rfl trivial ?_; refine Pool.cq 14 rfl rfl rfl rfl rfl rfl rfl rfl rfl (fun H hs => s98 L H bz bz bz) ?_
          refine Pool.fa 1 15 rfl rfl rfl rfl rfl rfl rfl rfl rfl ?_; refine Pool.ldc 16 rfl rfl rfl rfl rfl rfl rfl (k1.s 1 1 rfl) rfl rfl rfl ?_; refine Pool.v 17 rfl rfl rfl rfl rfl rfl rfl trivial ?_; refine Pool.v 18 rfl rfl rfl rfl rfl rfl rfl (by assumption) ?_; refine Pool.fa 1 19 rfl rfl rfl rfl rfl rfl rfl rfl rfl ?_; refine Pool.ldc 20 rfl rfl rfl rfl rfl rfl rfl (k4.s 1 1 rfl) rfl rfl rfl ?_; refine Pool.fa 1 21 rfl rfl rfl rfl rfl rfl rfl rfl rfl ?_
          refine Pool.ldc 22 rfl rfl rfl rfl rfl rfl rfl (k1.s 1 1 rfl) rfl rfl rfl ?_; refine Pool.v 23 rfl rfl rfl rfl rfl rfl rfl (by omega) ?_; refine Pool.v 24 rfl rfl rfl rfl rfl rfl rfl trivial ?_; refine Pool.v 25 rfl rfl rfl rfl rfl rfl rfl (by assumption) ?_; refine Pool.v 26 rfl rfl rfl rfl rfl rfl rfl (by assumption) ?_; refine Pool.v 27 rfl rfl rfl rfl rfl rfl rfl trivial ?_; refine Pool.cq 28 rfl rfl rfl rfl rfl rfl rfl rfl rfl (fun H hs => s98 L H bz bz bz) ?_
          refine Pool.q 29 rfl rfl rfl rfl rfl (q_build rfl rfl rfl) rfl ?_
          refine Pool.yield 30 0 rfl rfl rfl rfl rfl rfl rfl rfl rfl rfl rfl rfl rfl hh rfl hI0 rfl hsub hsubD sb (fun Hk hI => ?_) (fun Hk hD => ?_)
          · refine pool_done rfl rfl ?_
            refine At.regionEnd ?_; refine At.inBlock ?_
            exact At.ret Tryz.func166 (.inl rfl) rfl .nil (wk (hc _ _ (⟨_, Sub.refl _, .inl hI⟩)))
          · refine pool_done rfl rfl ?_
            refine At.regionEnd ?_; refine At.inBlock ?_
            exact At.ret Tryz.func166 (.inl rfl) rfl .nil (wk (hc _ _ (⟨_, Sub.refl _, .inr ⟨0, by simp, hD⟩⟩)))
    · have ha : offL p eye s = 0 := by simp [offL] at *; omega
      refine At.v rfl rfl rfl rfl rfl trivial ?_; refine At.cp rfl rfl rfl rfl rfl fun b45 h45 => ?_; (iterate 2 refine At.v rfl rfl rfl rfl rfl trivial ?_); refine At.regionEnd ?_
      cases b45
      · have hz : offL q eye s ≠ 0 := by simp [offL] at *; omega
        rw [if_neg (fun x => hz x.2)] at hl
        refine At.cond rfl ?_; refine At.seq (At.region ?_); refine At.v rfl rfl rfl rfl rfl trivial ?_; refine At.cp rfl rfl rfl rfl rfl fun b59 h59 => ?_; refine At.v rfl rfl rfl rfl rfl trivial ?_
        cases b59
        · refine At.un rfl rfl rfl rfl ?_
          refine At.un rfl rfl rfl rfl ?_; (iterate 3 refine At.v rfl rfl rfl rfl rfl trivial ?_); refine At.cp rfl rfl rfl rfl rfl fun b66 h66 => ?_; refine At.v rfl rfl rfl rfl rfl trivial ?_
          cases b66
          · have hcond : ¬ ((offL p eye s ≤ 0 ∧ 0 ≤ offL q eye s) ∨ (0 ≤ offL p eye s ∧ offL q eye s ≤ 0)) := by simp [offL] at *; omega
            rw [if_neg hcond] at hl
            subst hl
            (iterate 2 refine At.un rfl rfl rfl rfl ?_); (iterate 3 refine At.v rfl rfl rfl rfl rfl trivial ?_); refine At.regionEnd ?_; refine At.cond rfl ?_; refine At.skip ?_; refine At.inBlock ?_
            exact At.ret Tryz.func166 (.inl rfl) rfl .nil (wk (hc _ _ (⟨Hs, Sub.refl _, .inl hI0⟩)))
          · refine At.v rfl rfl rfl rfl rfl trivial ?_
            refine At.cp rfl rfl rfl rfl rfl fun b69 h69 => ?_; (iterate 3 refine At.v rfl rfl rfl rfl rfl trivial ?_); refine At.regionEnd ?_
            cases b69
            · have hcond : ¬ ((offL p eye s ≤ 0 ∧ 0 ≤ offL q eye s) ∨ (0 ≤ offL p eye s ∧ offL q eye s ≤ 0)) := by simp [offL] at *; omega
              rw [if_neg hcond] at hl
              subst hl
              refine At.cond rfl ?_; refine At.skip ?_; refine At.inBlock ?_
              exact At.ret Tryz.func166 (.inl rfl) rfl .nil (wk (hc _ _ (⟨Hs, Sub.refl _, .inl hI0⟩)))
            · have hcond : (offL p eye s ≤ 0 ∧ 0 ≤ offL q eye s) ∨ (0 ≤ offL p eye s ∧ offL q eye s ≤ 0) := by simp [offL] at *; omega
              rw [if_pos hcond] at hl
              subst hl
              have hd0 : offL p eye s - offL q eye s ≠ 0 := by omega
              refine At.cond rfl ?_; refine At.seq (At.region ?_); (iterate 3 refine At.v rfl rfl rfl rfl rfl trivial ?_); refine At.v rfl rfl rfl rfl rfl (by assumption) ?_; (iterate 2 refine At.v rfl rfl rfl rfl rfl trivial ?_); refine At.regionEnd ?_; refine At.draw hmix (H0) sb ?_; refine Pool.v 0 rfl rfl rfl rfl rfl rfl rfl trivial ?_; refine Pool.fa 0 1 rfl rfl rfl rfl rfl rfl rfl rfl rfl ?_; refine Pool.ldc 2 rfl rfl rfl rfl rfl rfl rfl (k1.s 0 1 rfl) rfl rfl rfl ?_
              refine Pool.v 3 rfl rfl rfl rfl rfl rfl rfl trivial ?_; refine Pool.v 4 rfl rfl rfl rfl rfl rfl rfl (by assumption) ?_; refine Pool.fa 0 5 rfl rfl rfl rfl rfl rfl rfl rfl rfl ?_; refine Pool.ldc 6 rfl rfl rfl rfl rfl rfl rfl (k4.s 0 1 rfl) rfl rfl rfl ?_; refine Pool.fa 0 7 rfl rfl rfl rfl rfl rfl rfl rfl rfl ?_; refine Pool.ldc 8 rfl rfl rfl rfl rfl rfl rfl (k1.s 0 1 rfl) rfl rfl rfl ?_; refine Pool.v 9 rfl rfl rfl rfl rfl rfl rfl (by omega) ?_
              refine Pool.v 10 rfl rfl rfl rfl rfl rfl rfl trivial ?_; refine Pool.v 11 rfl rfl rfl rfl rfl rfl rfl (by assumption) ?_; refine Pool.v 12 rfl rfl rfl rfl rfl rfl rfl (by assumption) ?_; refine Pool.v 13 rfl rfl rfl rfl rfl rfl rfl trivial ?_; refine Pool.cq 14 rfl rfl rfl rfl rfl rfl rfl rfl rfl (fun H hs => s98 L H bz bz bz) ?_; refine Pool.fa 1 15 rfl rfl rfl rfl rfl rfl rfl rfl rfl ?_; refine Pool.ldc 16 rfl rfl rfl rfl rfl rfl rfl (k1.s 1 1 rfl) rfl rfl rfl ?_
              refine Pool.v 17 rfl rfl rfl rfl rfl rfl rfl trivial ?_; refine Pool.v 18 rfl rfl rfl rfl rfl rfl rfl (by assumption) ?_; refine Pool.fa 1 19 rfl rfl rfl rfl rfl rfl rfl rfl rfl ?_; refine Pool.ldc 20 rfl rfl rfl rfl rfl rfl rfl (k4.s 1 1 rfl) rfl rfl rfl ?_; refine Pool.fa 1 21 rfl rfl rfl rfl rfl rfl rfl rfl rfl ?_; refine Pool.ldc 22 rfl rfl rfl rfl rfl rfl rfl (k1.s 1 1 rfl) rfl rfl rfl ?_; refine Pool.v 23 rfl rfl rfl rfl rfl rfl rfl (by omega) ?_
              refine Pool.v 24 rfl rfl rfl rfl rfl rfl rfl trivial ?_; refine Pool.v 25 rfl rfl rfl rfl rfl rfl rfl (by assumption) ?_; refine Pool.v 26 rfl rfl rfl rfl rfl rfl rfl (by assumption) ?_; refine Pool.v 27 rfl rfl rfl rfl rfl rfl rfl trivial ?_; refine Pool.cq 28 rfl rfl rfl rfl rfl rfl rfl rfl rfl (fun H hs => s98 L H bz bz bz) ?_; refine Pool.q 29 rfl rfl rfl rfl rfl (q_build rfl rfl rfl) rfl ?_
              refine Pool.yield 30 0 rfl rfl rfl rfl rfl rfl rfl rfl rfl rfl rfl rfl rfl hh rfl hI0 rfl hsub hsubD sb (fun Hk hI => ?_) (fun Hk hD => ?_)
              · refine pool_done rfl rfl ?_
                refine At.regionEnd ?_; refine At.inBlock ?_
                exact At.ret Tryz.func166 (.inl rfl) rfl .nil (wk (hc _ _ (⟨_, Sub.refl _, .inl hI⟩)))
              · refine pool_done rfl rfl ?_
                refine At.regionEnd ?_; refine At.inBlock ?_
                exact At.ret Tryz.func166 (.inl rfl) rfl .nil (wk (hc _ _ (⟨_, Sub.refl _, .inr ⟨0, by simp, hD⟩⟩)))
        · refine At.v rfl rfl rfl rfl rfl trivial ?_
          refine At.cp rfl rfl rfl rfl rfl fun b62 h62 => ?_; (iterate 2 refine At.v rfl rfl rfl rfl rfl trivial ?_)
          cases b62
          · refine At.v rfl rfl rfl rfl rfl trivial ?_
            refine At.cp rfl rfl rfl rfl rfl fun b66 h66 => ?_; refine At.v rfl rfl rfl rfl rfl trivial ?_
            cases b66
            · have hcond : ¬ ((offL p eye s ≤ 0 ∧ 0 ≤ offL q eye s) ∨ (0 ≤ offL p eye s ∧ offL q eye s ≤ 0)) := by simp [offL] at *; omega
              rw [if_neg hcond] at hl
              subst hl
              (iterate 2 refine At.un rfl rfl rfl rfl ?_); (iterate 3 refine At.v rfl rfl rfl rfl rfl trivial ?_); refine At.regionEnd ?_; refine At.cond rfl ?_; refine At.skip ?_; refine At.inBlock ?_
              exact At.ret Tryz.func166 (.inl rfl) rfl .nil (wk (hc _ _ (⟨Hs, Sub.refl _, .inl hI0⟩)))
            · refine At.v rfl rfl rfl rfl rfl trivial ?_
              refine At.cp rfl rfl rfl rfl rfl fun b69 h69 => ?_; (iterate 3 refine At.v rfl rfl rfl rfl rfl trivial ?_); refine At.regionEnd ?_
              cases b69
              · have hcond : ¬ ((offL p eye s ≤ 0 ∧ 0 ≤ offL q eye s) ∨ (0 ≤ offL p eye s ∧ offL q eye s ≤ 0)) := by simp [offL] at *; omega
                rw [if_neg hcond] at hl
                subst hl
                refine At.cond rfl ?_; refine At.skip ?_; refine At.inBlock ?_
                exact At.ret Tryz.func166 (.inl rfl) rfl .nil (wk (hc _ _ (⟨Hs, Sub.refl _, .inl hI0⟩)))
              · have hcond : (offL p eye s ≤ 0 ∧ 0 ≤ offL q eye s) ∨ (0 ≤ offL p eye s ∧ offL q eye s ≤ 0) := by simp [offL] at *; omega
                rw [if_pos hcond] at hl
                subst hl
                have hd0 : offL p eye s - offL q eye s ≠ 0 := by omega
                refine At.cond rfl ?_; refine At.seq (At.region ?_); (iterate 3 refine At.v rfl rfl rfl rfl rfl trivial ?_); refine At.v rfl rfl rfl rfl rfl (by assumption) ?_; (iterate 2 refine At.v rfl rfl rfl rfl rfl trivial ?_); refine At.regionEnd ?_; refine At.draw hmix (H0) sb ?_; refine Pool.v 0 rfl rfl rfl rfl rfl rfl rfl trivial ?_; refine Pool.fa 0 1 rfl rfl rfl rfl rfl rfl rfl rfl rfl ?_; refine Pool.ldc 2 rfl rfl rfl rfl rfl rfl rfl (k1.s 0 1 rfl) rfl rfl rfl ?_
                refine Pool.v 3 rfl rfl rfl rfl rfl rfl rfl trivial ?_; refine Pool.v 4 rfl rfl rfl rfl rfl rfl rfl (by assumption) ?_; refine Pool.fa 0 5 rfl rfl rfl rfl rfl rfl rfl rfl rfl ?_; refine Pool.ldc 6 rfl rfl rfl rfl rfl rfl rfl (k4.s 0 1 rfl) rfl rfl rfl ?_; refine Pool.fa 0 7 rfl rfl rfl rfl rfl rfl rfl rfl rfl ?_; refine Pool.ldc 8 rfl rfl rfl rfl rfl rfl rfl (k1.s 0 1 rfl) rfl rfl rfl ?_; refine Pool.v 9 rfl rfl rfl rfl rfl rfl rfl (by omega) ?_
                refine Pool.v 10 rfl rfl rfl rfl rfl rfl rfl trivial ?_; refine Pool.v 11 rfl rfl rfl rfl rfl rfl rfl (by assumption) ?_; refine Pool.v 12 rfl rfl rfl rfl rfl rfl rfl (by assumption) ?_; refine Pool.v 13 rfl rfl rfl rfl rfl rfl rfl trivial ?_; refine Pool.cq 14 rfl rfl rfl rfl rfl rfl rfl rfl rfl (fun H hs => s98 L H bz bz bz) ?_; refine Pool.fa 1 15 rfl rfl rfl rfl rfl rfl rfl rfl rfl ?_; refine Pool.ldc 16 rfl rfl rfl rfl rfl rfl rfl (k1.s 1 1 rfl) rfl rfl rfl ?_
                refine Pool.v 17 rfl rfl rfl rfl rfl rfl rfl trivial ?_; refine Pool.v 18 rfl rfl rfl rfl rfl rfl rfl (by assumption) ?_; refine Pool.fa 1 19 rfl rfl rfl rfl rfl rfl rfl rfl rfl ?_; refine Pool.ldc 20 rfl rfl rfl rfl rfl rfl rfl (k4.s 1 1 rfl) rfl rfl rfl ?_; refine Pool.fa 1 21 rfl rfl rfl rfl rfl rfl rfl rfl rfl ?_; refine Pool.ldc 22 rfl rfl rfl rfl rfl rfl rfl (k1.s 1 1 rfl) rfl rfl rfl ?_; refine Pool.v 23 rfl rfl rfl rfl rfl rfl rfl (by omega) ?_
                refine Pool.v 24 rfl rfl rfl rfl rfl rfl rfl trivial ?_; refine Pool.v 25 rfl rfl rfl rfl rfl rfl rfl (by assumption) ?_; refine Pool.v 26 rfl rfl rfl rfl rfl rfl rfl (by assumption) ?_; refine Pool.v 27 rfl rfl rfl rfl rfl rfl rfl trivial ?_; refine Pool.cq 28 rfl rfl rfl rfl rfl rfl rfl rfl rfl (fun H hs => s98 L H bz bz bz) ?_; refine Pool.q 29 rfl rfl rfl rfl rfl (q_build rfl rfl rfl) rfl ?_
                refine Pool.yield 30 0 rfl rfl rfl rfl rfl rfl rfl rfl rfl rfl rfl rfl rfl hh rfl hI0 rfl hsub hsubD sb (fun Hk hI => ?_) (fun Hk hD => ?_)
                · refine pool_done rfl rfl ?_
                  refine At.regionEnd ?_; refine At.inBlock ?_
                  exact At.ret Tryz.func166 (.inl rfl) rfl .nil (wk (hc _ _ (⟨_, Sub.refl _, .inl hI⟩)))
                · refine pool_done rfl rfl ?_
                  refine At.regionEnd ?_; refine At.inBlock ?_
                  exact At.ret Tryz.func166 (.inl rfl) rfl .nil (wk (hc _ _ (⟨_, Sub.refl _, .inr ⟨0, by simp, hD⟩⟩)))
          · have hcond : (offL p eye s ≤ 0 ∧ 0 ≤ offL q eye s) ∨ (0 ≤ offL p eye s ∧ offL q eye s ≤ 0) := by simp [offL] at *; omega
            rw [if_pos hcond] at hl
            subst hl
            have hd0 : offL p eye s - offL q eye s ≠ 0 := by omega
            (iterate 6 refine At.un rfl rfl rfl rfl ?_); (iterate 2 refine At.v rfl rfl rfl rfl rfl trivial ?_); refine At.regionEnd ?_; refine At.cond rfl ?_; refine At.seq (At.region ?_); (iterate 3 refine At.v rfl rfl rfl rfl rfl trivial ?_); refine At.v rfl rfl rfl rfl rfl (by assumption) ?_; (iterate 2 refine At.v rfl rfl rfl rfl rfl trivial ?_); refine At.regionEnd ?_; refine At.draw hmix (H0) sb ?_; refine Pool.v 0 rfl rfl rfl rfl rfl rfl rfl trivial ?_
            refine Pool.fa 0 1 rfl rfl rfl rfl rfl rfl rfl rfl rfl ?_; refine Pool.ldc 2 rfl rfl rfl rfl rfl rfl rfl (k1.s 0 1 rfl) rfl rfl rfl ?_; refine Pool.v 3 rfl rfl rfl rfl rfl rfl rfl trivial ?_; refine Pool.v 4 rfl rfl rfl rfl rfl rfl rfl (by assumption) ?_; refine Pool.fa 0 5 rfl rfl rfl rfl rfl rfl rfl rfl rfl ?_; refine Pool.ldc 6 rfl rfl rfl rfl rfl rfl rfl (k4.s 0 1 rfl) rfl rfl rfl ?_; refine Pool.fa 0 7 rfl rfl rfl rfl rfl rfl rfl rfl rfl ?_
            refine Pool.ldc 8 rfl rfl rfl rfl rfl rfl rfl (k1.s 0 1 rfl) rfl rfl rfl ?_; refine Pool.v 9 rfl rfl rfl rfl rfl rfl rfl (by omega) ?_; refine Pool.v 10 rfl rfl rfl rfl rfl rfl rfl trivial ?_; refine Pool.v 11 rfl rfl rfl rfl rfl rfl rfl (by assumption) ?_; refine Pool.v 12 rfl rfl rfl rfl rfl rfl rfl (by assumption) ?_; refine Pool.v 13 rfl rfl rfl rfl rfl rfl rfl trivial ?_; refine Pool.cq 14 rfl rfl rfl rfl rfl rfl rfl rfl rfl (fun H hs => s98 L H bz bz bz) ?_
            refine Pool.fa 1 15 rfl rfl rfl rfl rfl rfl rfl rfl rfl ?_; refine Pool.ldc 16 rfl rfl rfl rfl rfl rfl rfl (k1.s 1 1 rfl) rfl rfl rfl ?_; refine Pool.v 17 rfl rfl rfl rfl rfl rfl rfl trivial ?_; refine Pool.v 18 rfl rfl rfl rfl rfl rfl rfl (by assumption) ?_; refine Pool.fa 1 19 rfl rfl rfl rfl rfl rfl rfl rfl rfl ?_; refine Pool.ldc 20 rfl rfl rfl rfl rfl rfl rfl (k4.s 1 1 rfl) rfl rfl rfl ?_; refine Pool.fa 1 21 rfl rfl rfl rfl rfl rfl rfl rfl rfl ?_
            refine Pool.ldc 22 rfl rfl rfl rfl rfl rfl rfl (k1.s 1 1 rfl) rfl rfl rfl ?_; refine Pool.v 23 rfl rfl rfl rfl rfl rfl rfl (by omega) ?_; refine Pool.v 24 rfl rfl rfl rfl rfl rfl rfl trivial ?_; refine Pool.v 25 rfl rfl rfl rfl rfl rfl rfl (by assumption) ?_; refine Pool.v 26 rfl rfl rfl rfl rfl rfl rfl (by assumption) ?_; refine Pool.v 27 rfl rfl rfl rfl rfl rfl rfl trivial ?_; refine Pool.cq 28 rfl rfl rfl rfl rfl rfl rfl rfl rfl (fun H hs => s98 L H bz bz bz) ?_
            refine Pool.q 29 rfl rfl rfl rfl rfl (q_build rfl rfl rfl) rfl ?_
            refine Pool.yield 30 0 rfl rfl rfl rfl rfl rfl rfl rfl rfl rfl rfl rfl rfl hh rfl hI0 rfl hsub hsubD sb (fun Hk hI => ?_) (fun Hk hD => ?_)
            · refine pool_done rfl rfl ?_
              refine At.regionEnd ?_; refine At.inBlock ?_
              exact At.ret Tryz.func166 (.inl rfl) rfl .nil (wk (hc _ _ (⟨_, Sub.refl _, .inl hI⟩)))
            · refine pool_done rfl rfl ?_
              refine At.regionEnd ?_; refine At.inBlock ?_
              exact At.ret Tryz.func166 (.inl rfl) rfl .nil (wk (hc _ _ (⟨_, Sub.refl _, .inr ⟨0, by simp, hD⟩⟩)))
      · have hz : offL q eye s = 0 := by simp [offL] at *; omega
        rw [if_pos ⟨ha, hz⟩] at hl
        subst hl
        refine At.cond rfl ?_; refine At.region ?_; refine At.v rfl rfl rfl rfl rfl trivial ?_; refine At.ldc rfl rfl rfl rfl rfl rfl k1.a rfl rfl ?_; refine At.cq rfl rfl rfl rfl rfl rfl rfl rfl (s99 L _) ?_
        refine At.yield 0 rfl rfl rfl rfl rfl rfl rfl hh rfl hI0 rfl (fun Hk hI => ?_) (fun Hk hD => ?_)
        · have hs1 := hsub _ _ hI
          (iterate 2 refine At.v rfl rfl rfl rfl rfl trivial ?_); refine At.ldc rfl rfl rfl rfl rfl rfl k4.a rfl rfl ?_; refine At.cq rfl rfl rfl rfl rfl rfl rfl rfl (s99 L _) ?_
          refine At.yield 0 rfl rfl rfl rfl rfl rfl rfl hh rfl hI rfl (fun Hk hI => ?_) (fun Hk hD => ?_)
          · refine At.v rfl rfl rfl rfl rfl trivial ?_
            refine At.regionEnd ?_; refine At.inBlock ?_
            exact At.ret Tryz.func166 (.inl rfl) rfl .nil (wk (hc _ _ (⟨_, Sub.refl _, .inl hI⟩)))
          · refine At.v rfl rfl rfl rfl rfl trivial ?_
            refine At.regionEnd ?_; refine At.inBlock ?_
            exact At.ret Tryz.func166 (.inl rfl) rfl .nil (wk (hc _ _ (⟨_, Sub.refl _, .inr ⟨1, by simp, hD⟩⟩)))
        · refine At.v rfl rfl rfl rfl rfl trivial ?_
          (iterate 4 refine At.un rfl rfl rfl rfl ?_); refine At.v rfl rfl rfl rfl rfl trivial ?_; refine At.regionEnd ?_; refine At.inBlock ?_
          exact At.ret Tryz.func166 (.inl rfl) rfl .nil (wk (hc _ _ (⟨_, Sub.refl _, .inr ⟨0, by simp, hD⟩⟩)))
  · have he : p = q := by
      simp at h39
      exact Prod.ext h39.1 h39.2
    rw [if_pos he] at hl
    subst hl
    refine At.cond rfl ?_; refine At.skip ?_; refine At.inBlock ?_
    exact At.ret Tryz.func166 (.inl rfl) rfl .nil (wk (hc _ _ (⟨Hs, Sub.refl _, .inl hI0⟩)))
end Go.Gx
end

section
set_option linter.unusedSimpArgs false
set_option linter.unusedVariables false
namespace Go.Gx
open Go Go.Conc Go.Proofs
variable {main : Bool}

set_option maxRecDepth 100000 in
/-- cross -/
theorem s152 (L : Lg Tryz.prog main) (H : Facts) {p q : R2} {eye : Int} {s : R2} (hp : PtOk p) (hq : PtOk q) (he : EyeOk eye) (hs : SlOk s) :
    Grows L 152 #[.agg (List.toArray (c2 p)), .agg (List.toArray (c2 q)), .int .i64 eye, .agg (List.toArray (c2 s))] H (fun v sf => SeqOk L v ((crossM p q eye s).map spotV) sf) := by
  refine Spec.enter Tryz.func152 rfl (by simp [Tryz.f152]) fun c cs hc => ?_; refine At.seq (At.region ?_); refine At.bx rfl rfl rfl rfl rfl rfl rfl fun r4 => ?_; refine At.bx rfl rfl rfl rfl rfl rfl rfl fun r5 => ?_; refine At.bx rfl rfl rfl rfl rfl rfl rfl fun r6 => ?_; refine At.bx rfl rfl rfl rfl rfl rfl rfl fun r7 => ?_; refine At.v rfl rfl rfl rfl rfl trivial ?_; refine At.regionEnd (At.seq (At.region ?_)); (iterate 2 refine At.v rfl rfl rfl rfl rfl trivial ?_); refine At.regionEnd ?_
  exact At.ret Tryz.func152 (.inr ⟨_, rfl⟩) rfl (.tmp rfl .nil) (wk (hc _ _ (⟨[.own r7 (.cells (List.toArray (c2 s)) 29 (0, 0)), .own r6 (.cells (List.toArray (c1 eye)) 3 (0, 0)), .own r5 (.cells (List.toArray (c2 q)) 57 (0, 0)), .own r4 (.cells (List.toArray (c2 p)) 57 (0, 0))], s166 L _ hp hq he hs (own_cells (sz := 2) (j := 3) rfl rfl).1 (own_cells (sz := 1) (j := 1) rfl rfl).1 (own_cells (sz := 2) (j := 0) rfl rfl).1 (own_cells (sz := 2) (j := 2) rfl rfl).1, rfl⟩)))
/-- meet$1 -/
theorem s154 (L : Lg Tryz.prog main) (H : Facts) {a b : Spot} : Pure L 154 #[spotV a, spotV b] H (.bool (lessW a.1 b.1)) := by
  refine Spec.enter Tryz.func154 rfl (by simp [Tryz.f154]) fun c cs hc => ?_; refine At.seq (At.region ?_); refine At.bx rfl rfl rfl rfl rfl rfl rfl fun r2 => ?_; refine At.bx rfl rfl rfl rfl rfl rfl rfl fun r3 => ?_; refine At.v rfl rfl rfl rfl rfl trivial ?_; refine At.regionEnd (At.seq (At.region ?_)); refine At.fa 0 rfl rfl rfl rfl rfl rfl rfl ?_; refine At.ld 1 rfl rfl rfl rfl rfl rfl rfl rfl rfl ?_; refine At.fa 0 rfl rfl rfl rfl rfl rfl rfl ?_
  refine At.ld 0 rfl rfl rfl rfl rfl rfl rfl rfl rfl ?_; refine At.cqb rfl rfl rfl rfl rfl rfl rfl rfl (s100 L _) fun b9 h9 => ?_; refine At.v rfl rfl rfl rfl rfl trivial ?_; refine At.regionEnd ?_
  exact At.ret Tryz.func154 (.inr ⟨_, rfl⟩) rfl (.tmp rfl .nil) (wk (hc _ _ (⟨by simp_all [resVal], rfl⟩)))
theorem bestM_snoc {α : Type} (better : α → α → Bool) : ∀ (one : α) (l : List α) (x : α), bestM better one (l ++ [x]) = if better x (bestM better one l) then x else bestM better one l
  | one, [], x => rfl
  | one, y :: l, x => by
    show bestM better _ (l ++ [x]) = _
    rw [bestM_snoc better _ l x]; rfl
/-- best, of spots -/
theorem s153 (L : Lg Tryz.prog main) (H : Facts) {fv : Value} {better : Spot → Spot → Bool} {one : Spot} {a : Option Addr} {l : List Spot} {cap : Nat}
    (hb : ∀ H x y, SpecV L fv #[spotV x, spotV y] H (fun v H' => v = .bool (better x y) ∧ H' = H)) (hr : Rd H a (l.flatMap c4)) (hl : l.length ≤ 100000) :
    Pure L 153 #[fv, spotV one, .slice a l.length cap] H (spotV (bestM better one l)) := by
  refine Spec.enter Tryz.func153 rfl (by simp [Tryz.f153]) fun c cs hc => ?_; refine At.seq (At.region ?_); refine At.bx rfl rfl rfl rfl rfl rfl rfl fun r4 => ?_; refine At.al rfl rfl rfl rfl rfl fun r6 => ?_; refine At.regionEnd (At.seq (At.seq (At.region ?_))); refine At.v rfl rfl rfl rfl rfl trivial ?_; refine At.ln rfl rfl rfl rfl rfl rfl rfl rfl ?_; refine At.v rfl rfl rfl rfl rfl trivial ?_; refine At.regionEnd ?_; refine At.block ?_
  refine At.lpk (X := { j : Nat // j ≤ l.length }) [0, 4, 6, 9, 10] (fun x => [(11, .int .i64 (x.1 : Int))]) (fun x => .own r6 (.cells #[.int .i64 0, .int .i64 0, .int .i64 0, .int .i64 0] 127 (0, 0)) :: .own r4 (.cells (List.toArray (c4 (bestM better one (l.take x.1)))) 127 (0, 0)) :: H) (fun x => l.length - x.1) (⟨0, Nat.zero_le _⟩) rfl ?_ (by repeat (first | exact trivial | refine ⟨rfl, ?_⟩)) sb
  rintro ⟨j, hj⟩ again
  simp only at again ⊢
  refine At.seq (At.region ?_); refine At.cp rfl rfl rfl rfl rfl fun b12 h12 => ?_; refine At.regionEnd (At.seq ?_)
  cases b12
  · have e : j = l.length := by simp at h12; omega
    subst e
    rw [List.take_length]
    refine At.cond rfl ?_; refine At.exit rfl ?_; refine At.seq (At.region ?_); refine At.ld 1 rfl rfl rfl rfl rfl rfl rfl rfl rfl ?_; refine At.st 0 rfl rfl rfl rfl rfl rfl rfl rfl rfl rfl rfl rfl ?_; refine At.regionEnd ?_
    exact At.ret Tryz.func153 (.inr ⟨_, rfl⟩) rfl (.aggJ 0 rfl rfl rfl .nil) (wk (hc _ _ (⟨by rfl, rfl⟩)))
  · have hlt : j < l.length := by simp at h12; omega
    obtain ⟨b, off, rfl, hc1⟩ := hr.el (List.getElem?_eq_getElem hlt)
    have et := bestM_snoc better one (l.take j) l[j]
    rw [← List.take_succ_eq_append_getElem hlt] at et
    refine At.cond rfl ?_; refine At.skip (At.seq ?_); refine At.block ?_; refine At.seq (At.region ?_); refine At.q rfl rfl rfl rfl (q_ia rfl rfl rfl (by assumption)) ?_; refine At.ldc rfl rfl rfl rfl rfl rfl hc1.a rfl rfl ?_; refine At.al rfl rfl rfl rfl rfl fun r8 => ?_; refine At.st 0 rfl rfl rfl rfl rfl rfl rfl rfl rfl rfl rfl rfl ?_; refine At.regionEnd (At.seq (At.region ?_)); refine At.v rfl rfl rfl rfl rfl trivial ?_; refine At.ld 0 rfl rfl rfl rfl rfl rfl rfl rfl rfl ?_
    refine At.ld 2 rfl rfl rfl rfl rfl rfl rfl rfl rfl ?_; refine At.cv rfl rfl rfl rfl rfl rfl ((hb _ l[j] (bestM better one (l.take j)))) ?_
    rintro _ _ ⟨rfl, rfl⟩
    cases hbb : better l[j] (bestM better one (l.take j))
    · rw [hbb, if_neg (by simp)] at et
      refine At.regionEnd ?_; refine At.cond rfl ?_; refine At.skip ?_; refine At.inBlock ?_; refine At.region ?_; refine At.v rfl rfl rfl rfl rfl (by omega) ?_; refine At.v rfl rfl rfl rfl rfl trivial ?_; refine At.regionEnd ?_
      have ag := again ⟨j + 1, hlt⟩ (by simp; omega)
      simp only [et] at ag
      refine At.tA (ag)
    · rw [hbb, if_pos rfl] at et
      refine At.regionEnd ?_; refine At.cond rfl ?_; refine At.region ?_; refine At.ld 0 rfl rfl rfl rfl rfl rfl rfl rfl rfl ?_; refine At.st 2 rfl rfl rfl rfl rfl rfl rfl rfl rfl rfl rfl rfl ?_; refine At.regionEnd ?_; refine At.inBlock ?_; refine At.region ?_; refine At.v rfl rfl rfl rfl rfl (by omega) ?_; refine At.v rfl rfl rfl rfl rfl trivial ?_; refine At.regionEnd ?_
      have ag := again ⟨j + 1, hlt⟩ (by simp; omega)
      simp only [et] at ag
      refine At.tA (ag)
end Go.Gx
end
