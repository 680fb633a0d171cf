/-
  CanvasTexts: the logic of the walk, the contracts of the program's functions, the plain law and the card.
-/
import Derived.Test.YtjdpbechehdefaaGreatDoorU3x1
import Derived.Conc.Know
import Derived.Conc.Deaf
import Derived.Conc.CrowdComm
import Derived.Conc.CrowdTrace
import Derived.Conc.Beside
import Derived.Conc.Own2
set_option linter.unusedSimpArgs false
set_option linter.unusedVariables false
section
namespace Go.Gx
open Go Go.Conc
theorem takeC_of : ∀ {l : List Value} {n : Nat},n ≤ l.length → takeC l n = some (l.take n)
 | l,0,_ => by cases l <;> rfl
 | a :: l,n + 1,h => by
  unfold takeC
  rw [takeC_of (l := l) (by simpa using h)]
  simp
 | [],n + 1,h => by simp at h
theorem getC_of : ∀ {l : List Value} {off n : Nat},off + n ≤ l.length → getC l off n = some ((l.drop off).take n)
 | l,0,n,h => by
  unfold getC
  rw [takeC_of (by omega)]
  simp
 | a :: l,k + 1,n,h => by
  unfold getC
  rw [getC_of (l := l) (by simp at h;omega)]
  simp
 | [],k + 1,n,h => by simp at h
def ints (xs : List Int) : List Value := xs.map (.int .i64 ·)
def eqcs (P : Program) (rec : TypeId → Option Nat) : List Field → Nat → Option Nat
 | [],acc => some acc
 | f :: fs,acc =>
  bif f.name != "_" && f.offset == acc then
   match rec f.type,tyF P f.type with
   | some m,some (_,sz,_,_) => bif m == sz then eqcs P rec fs (acc + m) else none
   | _,_ => none
  else none
def eqc (P : Program) : Nat → TypeId → Option Nat
 | 0,_ => none
 | d + 1,t =>
  match P.underlying t with
  | some (.int _) => some 1
  | some (.struct fs) => bif P.stoodInHeld t then none else eqcs P (eqc P d) fs.toList 0
  | some (.array n e) =>
   match eqc P d e,tyF P e with
   | some m,some (_,sz,_,_) => bif m == sz then some (n * m) else none
   | _,_ => none
  | _ => none
section
variable {P : Program} {H : Facts}
theorem k_loop {β : Type} {st : β → Option Bool × Unit → Sem (ForInStep (Option Bool × Unit))} {c : β → Bool} : ∀ {l : List β},(∀ b ∈ l,∀ Q : ForInStep (Option Bool × Unit) → Facts → Prop,Q (if c b then .yield (none,()) else .done (some false,())) H → K P (st b (none,())) Q H) →
  ∀ {Q : Option Bool × Unit → Facts → Prop},Q (if l.all c then (none,()) else (some false,())) H → K P (forIn l (none,()) st) Q H
 | [],_,Q,hq => hq
 | b :: l,h,Q,hq => by
  rw [List.forIn_cons,K.bind]
  refine h b (List.mem_cons_self ..) _ ?_
  cases hc : c b with
  | true =>
   simp only [if_true]
   refine k_loop (l := l) (fun b' hb' => h b' (List.mem_cons_of_mem _ hb')) ?_
   simpa [List.all_cons,hc] using hq
  | false =>
   simp only [Bool.false_eq_true,if_false]
   have : Q (some false,()) H := by simpa [List.all_cons,hc] using hq
   exact this
theorem k_partI {t : TypeId} {ag : Bool} {sz by_ : Nat} {z : Option Value} {xs : List Int} {off : Nat} {v : Value} (ht : tyF P t = some (ag,sz,z,by_)) (hl : off + sz ≤ xs.length) (hv : mkV ag (ints ((xs.drop off).take sz)) = some v) {Q : Value → Facts → Prop} (hq : Q v H) : K P (part t (List.toArray (ints xs)) off) Q H := by
 refine k_part ht (getC_of (by simpa [ints] using hl)) ?_ hq
 rw [← hv]
 simp [ints,List.map_drop,List.map_take]
theorem mkV_some {ag : Bool} {l : List Value} (h : ag = false → l.length = 1) : ∃ v,mkV ag l = some v := by
 cases ag with
 | true => exact ⟨_,rfl⟩
 | false =>
  match l,h rfl with
  | [v],_ => exact ⟨v,rfl⟩
theorem mkV_ints {ag : Bool} {xs : List Int} {v : Value} (h : mkV ag (ints xs) = some v) : (ag = true ∧ v = .agg (List.toArray (ints xs))) ∨ (ag = false ∧ ∃ x,xs = [x] ∧ v = .int .i64 x) := by
 cases ag with
 | true => cases h;exact .inl ⟨rfl,rfl⟩
 | false =>
  match xs,h with
  | [x],h => cases h;exact .inr ⟨rfl,x,rfl,rfl⟩
theorem eqc_agg {d : Nat} {t : TypeId} {m : Nat} (h : eqc P d t = some m) {ag : Bool} {sz by_ : Nat} {z : Option Value} (ht : tyF P t = some (ag,sz,z,by_)) : ag = false → m = 1 := by
 intro hag
 obtain ⟨dd,i,h1,_,h3,_⟩ := tyF_parts ht
 cases d with
 | zero => simp [eqc] at h
 | succ d =>
  unfold eqc at h
  rw [h1] at h
  cases dd with
  | int k => simp only [Option.some.injEq] at h;omega
  | struct fs => simp [isAggD] at h3;subst h3;cases hag
  | array n e => simp [isAggD] at h3;subst h3;cases hag
  | _ => simp at h
theorem take_split {xs ys : List Int} {a m n : Nat} : ((xs.drop a).take (m + n) = (ys.drop a).take (m + n)) ↔ ((xs.drop a).take m = (ys.drop a).take m ∧ (xs.drop (a + m)).take n = (ys.drop (a + m)).take n) := by
 rw [List.take_add,List.take_add,List.drop_drop,List.drop_drop]
 constructor
 ·intro h
  have h1 : (xs.drop a).take m = (ys.drop a).take m := by
   have := congrArg (List.take m) h
   rw [← List.drop_drop,← List.drop_drop,← List.take_add,← List.take_add,List.take_take,List.take_take,Nat.min_eq_left (by omega)] at this
   exact this
  rw [h1] at h
  exact ⟨h1,List.append_cancel_left h⟩
 ·rintro ⟨h1,h2⟩
  rw [h1,h2]
def EqOk (P : Program) (H : Facts) (D : Nat) (t : TypeId) (m : Nat) : Prop :=
 ∀ {ag : Bool} {sz by_ : Nat} {z : Option Value},tyF P t = some (ag,sz,z,by_) → sz = m → ∀ {xs ys : List Int} {vx vy : Value},xs.length = m → ys.length = m → mkV ag (ints xs) = some vx → mkV ag (ints ys) = some vy →
  ∀ {Q : Bool → Facts → Prop},Q (decide (xs = ys)) H → K P (Op.equalIn D t vx vy) Q H
theorem eqcs_le {d : Nat} : ∀ {fs : List Field} {acc m : Nat},eqcs P (eqc P d) fs acc = some m → acc ≤ m
 | [],acc,m,h => by simp [eqcs] at h;omega
 | f :: fs,acc,m,h => by
  unfold eqcs at h
  cases hc : (f.name != "_" && f.offset == acc) with
  | false => rw [hc] at h;cases h
  | true =>
   rw [hc] at h
   simp only [cond_true] at h
   split at h
   ·rename_i m1 ag sz z by_ e1 e2
    cases hm : (m1 == sz) with
    | false => rw [hm] at h;cases h
    | true =>
     rw [hm] at h
     have := eqcs_le (fs := fs) h
     omega
   ·cases h
theorem k_eqs {xs ys : List Int} {D d : Nat} (ih : ∀ t m,eqc P d t = some m → EqOk P H D t m) : ∀ {fs : List Field} {acc m : Nat},eqcs P (eqc P d) fs acc = some m → m ≤ xs.length → m ≤ ys.length →
  ((∀ f ∈ fs,(xs.drop f.offset).take ((eqc P d f.type).getD 0) = (ys.drop f.offset).take ((eqc P d f.type).getD 0)) ↔ (xs.drop acc).take (m - acc) = (ys.drop acc).take (m - acc)) ∧
  ∀ f ∈ fs,∀ Q : ForInStep (Option Bool × Unit) → Facts → Prop,Q (if decide ((xs.drop f.offset).take ((eqc P d f.type).getD 0) = (ys.drop f.offset).take ((eqc P d f.type).getD 0)) then .yield (none,()) else .done (some false,())) H →
   K P (if f.name ≠ "_" then do
       let a ← part f.type (List.toArray (ints xs)) f.offset
       let b ← part f.type (List.toArray (ints ys)) f.offset
       let r ← Op.equalIn D f.type a b
       if (!r) = true then pure (ForInStep.done (some false,())) else pure (ForInStep.yield (none,()))
      else pure (ForInStep.yield (none,()))) Q H
 | [],acc,m,h,_,_ => by
  simp only [eqcs,Option.some.injEq] at h
  subst h
  simp
 | f :: fs,acc,m,h,hx,hy => by
  have hle := eqcs_le h
  unfold eqcs at h
  cases hc : (f.name != "_" && f.offset == acc) with
  | false => rw [hc] at h;cases h
  | true =>
   rw [hc] at h
   simp only [cond_true] at h
   simp only [Bool.and_eq_true,bne_iff_ne,beq_iff_eq] at hc
   obtain ⟨hnm,hoff⟩ := hc
   split at h
   ·rename_i m1 ag sz z by_ e1 e2
    cases hm : (m1 == sz) with
    | false => rw [hm] at h;cases h
    | true =>
     rw [hm] at h
     simp only [cond_true] at h
     have hm' : m1 = sz := by simpa using hm
     subst hm'
     have hle2 := eqcs_le h
     obtain ⟨i1,i2⟩ := k_eqs ih h hx hy
     have eg : (eqc P d f.type).getD 0 = m1 := by rw [e1];rfl
     refine ⟨?_,?_⟩
     ·rw [show m - acc = m1 + (m - (acc + m1)) from by omega,take_split,← i1]
      constructor
      ·intro hall
       refine ⟨?_,fun g hg => hall g (List.mem_cons_of_mem _ hg)⟩
       have := hall f (List.mem_cons_self ..)
       rw [eg,hoff] at this
       exact this
      ·rintro ⟨h1,h2⟩ g hg
       rcases List.mem_cons.1 hg with rfl | hg
       ·rw [eg,hoff];exact h1
       ·exact h2 g hg
     ·intro g hg Q hq
      rcases List.mem_cons.1 hg with rfl | hg
      ·rw [if_pos hnm]
       rw [eg] at hq
       have l1 : ((xs.drop g.offset).take m1).length = m1 := by simp;omega
       have l2 : ((ys.drop g.offset).take m1).length = m1 := by simp;omega
       obtain ⟨vx,hvx⟩ := mkV_some (ag := ag) (l := ints ((xs.drop g.offset).take m1)) (fun h0 => by rw [ints,List.length_map,l1];exact eqc_agg e1 e2 h0)
       obtain ⟨vy,hvy⟩ := mkV_some (ag := ag) (l := ints ((ys.drop g.offset).take m1)) (fun h0 => by rw [ints,List.length_map,l2];exact eqc_agg e1 e2 h0)
       rw [K.bind]
       refine k_partI e2 (by omega) hvx ?_
       rw [K.bind]
       refine k_partI e2 (by omega) hvy ?_
       rw [K.bind]
       refine ih _ _ e1 e2 rfl l1 l2 hvx hvy ?_
       cases hd : decide ((xs.drop g.offset).take m1 = (ys.drop g.offset).take m1) with
       | true =>
        rw [hd] at hq
        have hq' : Q (.yield (none,())) H := by simpa using hq
        exact hq'
       | false =>
        rw [hd] at hq
        have hq' : Q (.done (some false,())) H := by simpa using hq
        exact hq'
      ·exact i2 g hg Q hq
   ·cases h
theorem k_eq : ∀ {d : Nat} {D : Nat},d ≤ D → ∀ t m,eqc P d t = some m → EqOk P H D t m
 | 0,D,_,t,m,h => by simp [eqc] at h
 | d + 1,D,hD,t,m,h => by
  rename_i ag sz by_ z
  intro ht hsz xs ys vx vy hx hy hvx hvy Q hq
  subst hsz
  obtain ⟨D,rfl⟩ : ∃ D',D = D' + 1 := ⟨D - 1,by omega⟩
  unfold eqc at h
  unfold Op.equalIn
  obtain ⟨dd,i,h1,_,h3,_⟩ := tyF_parts ht
  rw [K.bind,k_underlying h1]
  rw [h1] at h
  cases dd with
  | int k =>
   have hag : ag = false := by rw [← h3];rfl
   subst hag
   rcases mkV_ints hvx with ⟨h0,_⟩ | ⟨_,x,rfl,rfl⟩
   ·cases h0
   rcases mkV_ints hvy with ⟨h0,_⟩ | ⟨_,y,rfl,rfl⟩
   ·cases h0
   simp only [if_true]
   have e : (x == y) = decide ([x] = [y]) := by by_cases hxy : x = y <;> simp [hxy]
   rw [e]
   exact hq
  | struct fs =>
   have hag : ag = true := by rw [← h3];rfl
   subst hag
   obtain ⟨_,rfl⟩ := (mkV_ints hvx).resolve_right (fun x => by cases x.1)
   obtain ⟨_,rfl⟩ := (mkV_ints hvy).resolve_right (fun x => by cases x.1)
   simp only at h ⊢
   cases hst : P.stoodInHeld t with
   | true => rw [hst] at h;cases h
   | false =>
    rw [hst] at h
    simp only [cond_false] at h
    rw [K.bind]
    simp only [program,K,hst,Bool.false_eq_true,if_false]
    rw [K.bind,← Array.forIn_toList]
    obtain ⟨hm,hall⟩ := k_eqs (xs := xs) (ys := ys) (D := D) (H := H) (fun t m h => k_eq (by omega) t m h) h (by omega) (by omega)
    refine k_loop (c := fun f => decide ((xs.drop f.offset).take ((eqc P d f.type).getD 0) = (ys.drop f.offset).take ((eqc P d f.type).getD 0))) (fun f hf Q' hq' => hall f hf Q' hq') ?_
    have e : (fs.toList.all fun f => decide ((xs.drop f.offset).take ((eqc P d f.type).getD 0) = (ys.drop f.offset).take ((eqc P d f.type).getD 0))) = decide (xs = ys) := by
     rw [Bool.eq_iff_iff,List.all_eq_true]
     simp only [decide_eq_true_eq]
     rw [hm]
     simp only [Nat.sub_zero,List.drop_zero]
     rw [List.take_of_length_le (by omega),List.take_of_length_le (by omega)]
    rw [e]
    cases hd : decide (xs = ys) with
    | true => simp only [if_true];rw [hd] at hq;exact hq
    | false => simp only [Bool.false_eq_true,if_false];rw [hd] at hq;exact hq
  | array n e =>
   have hag : ag = true := by rw [← h3];rfl
   subst hag
   obtain ⟨_,rfl⟩ := (mkV_ints hvx).resolve_right (fun x => by cases x.1)
   obtain ⟨_,rfl⟩ := (mkV_ints hvy).resolve_right (fun x => by cases x.1)
   simp only at h ⊢
   split at h
   ·rename_i m1 ag1 sz1 z1 by1 e1 e2
    cases hm : (m1 == sz1) with
    | false => rw [hm] at h;cases h
    | true =>
     rw [hm] at h
     simp only [cond_true,Option.some.injEq] at h
     have hm' : m1 = sz1 := by simpa using hm
     subst hm' h
     obtain ⟨dd',i',_,g2,_,g4,_,_⟩ := tyF_parts e2
     rw [K.bind,k_sizeOf g2,g4,K.bind,Std.Legacy.Range.forIn_eq_forIn_range']
     have hb : ∀ i,i < n → i * m1 + m1 ≤ n * m1 := fun i hi => by
      have := Nat.mul_le_mul_right m1 (show i + 1 ≤ n from hi)
      rw [Nat.succ_mul] at this
      exact this
     refine k_loop (c := fun i => decide ((xs.drop (i * m1)).take m1 = (ys.drop (i * m1)).take m1)) (fun i hi Q' hq' => ?_) ?_
     ·have hin : i < n := by
       rw [List.mem_range'] at hi
       obtain ⟨j,hj,rfl⟩ := hi
       simp [Std.Legacy.Range.size] at hj ⊢
       omega
      have hbi := hb i hin
      have l1 : ((xs.drop (i * m1)).take m1).length = m1 := by simp;omega
      have l2 : ((ys.drop (i * m1)).take m1).length = m1 := by simp;omega
      obtain ⟨vx,hvx'⟩ := mkV_some (ag := ag1) (l := ints ((xs.drop (i * m1)).take m1)) (fun h0 => by rw [ints,List.length_map,l1];exact eqc_agg e1 e2 h0)
      obtain ⟨vy,hvy'⟩ := mkV_some (ag := ag1) (l := ints ((ys.drop (i * m1)).take m1)) (fun h0 => by rw [ints,List.length_map,l2];exact eqc_agg e1 e2 h0)
      rw [K.bind]
      refine k_partI e2 (by omega) hvx' ?_
      rw [K.bind]
      refine k_partI e2 (by omega) hvy' ?_
      rw [K.bind]
      refine k_eq (show d ≤ D by omega) _ _ e1 e2 rfl l1 l2 hvx' hvy' ?_
      cases hd : decide ((xs.drop (i * m1)).take m1 = (ys.drop (i * m1)).take m1) with
      | true =>
       rw [hd] at hq'
       have hq'' : Q' (.yield (none,())) H := by simpa using hq'
       exact hq''
      | false =>
       rw [hd] at hq'
       have hq'' : Q' (.done (some false,())) H := by simpa using hq'
       exact hq''
     ·have key : ∀ k,k ≤ n → ((∀ i,i < k → (xs.drop (i * m1)).take m1 = (ys.drop (i * m1)).take m1) ↔ xs.take (k * m1) = ys.take (k * m1)) := by
       intro k
       induction k with
       | zero => intro _;simp
       | succ k ihk =>
        intro hk
        have := take_split (xs := xs) (ys := ys) (a := 0) (m := k * m1) (n := m1)
        simp only [List.drop_zero,Nat.zero_add] at this
        rw [Nat.succ_mul,this,← ihk (by omega)]
        constructor
        ·intro h
         exact ⟨fun i hi => h i (by omega),h k (by omega)⟩
        ·rintro ⟨h1,h2⟩ i hi
         rcases Nat.lt_or_ge i k with h | h
         ·exact h1 i h
         ·obtain rfl : i = k := by omega
          exact h2
      have e : ((List.range' 0 n).all fun i => decide ((xs.drop (i * m1)).take m1 = (ys.drop (i * m1)).take m1)) = decide (xs = ys) := by
       rw [Bool.eq_iff_iff,List.all_eq_true]
       simp only [decide_eq_true_eq]
       have := key n (Nat.le_refl _)
       rw [List.take_of_length_le (by omega),List.take_of_length_le (by omega)] at this
       rw [← this]
       constructor
       ·intro h i hi
        exact h i (by rw [List.mem_range'];exact ⟨i,hi,by omega⟩)
       ·intro h i hi
        rw [List.mem_range'] at hi
        obtain ⟨j,hj,rfl⟩ := hi
        exact h _ (by omega)
      have e3 : (List.range' [:n].start [:n].size [:n].step) = List.range' 0 n := by simp [Std.Legacy.Range.size]
      rw [e3,e]
      cases hd : decide (xs = ys) with
      | true => simp only [if_true];rw [hd] at hq;exact hq
      | false => simp only [Bool.false_eq_true,if_false];rw [hd] at hq;exact hq
   ·cases h
  | _ => simp at h
def intsOf : List Value → Option (List Int)
 | [] => some []
 | .int .i64 a :: l =>
  match intsOf l with
  | some r => some (a :: r)
  | none => none
 | _ :: _ => none
theorem intsOf_eq : ∀ {l : List Value} {xs : List Int},intsOf l = some xs → l = ints xs
 | [],xs,h => by cases h;rfl
 | v :: l,xs,h => by
  cases v with
  | int k a =>
   cases k <;> first | (cases h;done) | skip
   simp only [intsOf] at h
   split at h
   ·rename_i r e
    cases h
    simp [ints,intsOf_eq e]
   ·cases h
  | _ => cases h
class EqI (P : Program) (t : TypeId) (m : outParam Nat) : Prop where
 h : eqc P 20 t = some m
 g : P.eqGuardType P.depth t = false
variable {E : Env} {o : Oper}
theorem k_eqS {t : TypeId} {m : Nat} [he : EqI P t m] {sz : Nat} {z : List Value} [ht : TyI P t true sz z] {lx ly : List Value} {xs ys : List Int} (ix : intsOf lx = some xs) (iy : intsOf ly = some ys) (hx : Nat.beq xs.length m = true) (hy : Nat.beq ys.length m = true) (hm : Nat.beq sz m = true)
  {Q : Bool → Facts → Prop} (hq : Q (decide (xs = ys)) H) : K P (Op.equal t (.agg (List.toArray lx)) (.agg (List.toArray ly))) Q H := by
 obtain ⟨zv,by_,h1,_⟩ := ht.h
 have e1 := intsOf_eq ix
 have e2 := intsOf_eq iy
 subst e1 e2
 exact k_eq (H := H) (d := 20) (D := Op.maxDepth) (by decide) t m he.h h1 (Nat.eq_of_beq_eq_true hm) (Nat.eq_of_beq_eq_true hx) (Nat.eq_of_beq_eq_true hy) Z Z hq
theorem k_eqGuard {t : TypeId} {m : Nat} [he : EqI P t m] {op : BinOp} {x y : Operand} {lx ly : Array Value} {Q : Unit → Facts → Prop} (hq : Q () H) : K P (eqGuard op t x y (.agg lx) (.agg ly)) Q H := by
 have main : K P (do
   if !(← program).eqGuardType (← program).depth t then return
   if ← Op.eqGuardIn Op.maxDepth t (.agg lx) (.agg ly) then unsupported (.noEntry "binop/eql: two nil values of an interface type with methods, in a part of a struct or an array")) Q H := by
  rw [K.bind]
  simp only [program,K]
  rw [K.bind]
  simp only [K,he.g]
  exact hq
 unfold eqGuard
 cases op <;> simp only [Bool.not_true,Bool.not_false,Bool.false_eq_true,if_false,if_true] <;> first | exact hq | exact main
theorem q_eqS {t t' : TypeId} {m sz : Nat} {z : List Value} [he : EqI P t m] [ht : TyI P t true sz z] {x y : Operand} {lx ly : List Value} {xs ys : List Int} (ho : o.op = .binOp .eql t x y t') (hx : ev E x = some (.agg (List.toArray lx))) (hy : ev E y = some (.agg (List.toArray ly)))
  (ix : intsOf lx = some xs) (iy : intsOf ly = some ys) (h1 : Nat.beq xs.length m = true) (h2 : Nat.beq ys.length m = true) (hm : Nat.beq sz m = true) : QOp P o E H (.bool (decide (xs = ys))) :=
 ⟨nd ho (by intro c h;cases h),fun φ hA Q hQ => by
  unfold execOp;rw [ho];simp only [hA x _ hx,hA y _ hy,K.bind]
  refine k_eqGuard ?_
  simp only [binOp,K.bind]
  exact k_eqS ix iy h1 h2 hm hQ⟩
theorem q_neqS {t t' : TypeId} {m sz : Nat} {z : List Value} [he : EqI P t m] [ht : TyI P t true sz z] {x y : Operand} {lx ly : List Value} {xs ys : List Int} (ho : o.op = .binOp .neq t x y t') (hx : ev E x = some (.agg (List.toArray lx))) (hy : ev E y = some (.agg (List.toArray ly)))
  (ix : intsOf lx = some xs) (iy : intsOf ly = some ys) (h1 : Nat.beq xs.length m = true) (h2 : Nat.beq ys.length m = true) (hm : Nat.beq sz m = true) : QOp P o E H (.bool (!decide (xs = ys))) :=
 ⟨nd ho (by intro c h;cases h),fun φ hA Q hQ => by
  unfold execOp;rw [ho];simp only [hA x _ hx,hA y _ hy,K.bind]
  refine k_eqGuard ?_
  simp only [binOp,K.bind]
  exact k_eqS ix iy h1 h2 hm hQ⟩
end
section
variable {P : Program} {main : Bool} {L : Lg P main} {f : FuncId} {ro : Option Nat} {ds : Dz} {cs : List Frame} {n : Nat} {k : List Item} {ops : Array Oper} {Hq H : Facts} {R : List Reg} {Ls : List Nat} {Fs : List Flo} {E : Env} {o : Oper} {d : Nat}
theorem At.qb {i : Nat} {rest : List Nat} {b : Bool} (ho : ops[i]? = some o) (hw : wantE ops o E = some true) (hd : o.dst = some d) (hn : Nat.blt d n = true) (hq : QOp P o E H (.bool b))
  (h : ∀ b',b = b' → At L f ro ds cs n ((d,.bool b') :: E) H (.inRegion ops rest :: k)) : At L f ro ds cs n E H (.inRegion ops (i :: rest) :: k) := Ae ho hw hd hn hq (h _ rfl)
theorem Pool.qb (i : Nat) {b : Bool} (ho : ops[i]? = some o) (hdst : dstOk o.dst n = true) (hw : wantE ops o E = some true) (hsel : noSel o = true) (hd : o.dst = some d) (hq : QOp P o E Hq (.bool b)) (hc : checkReg R Ls Fs ops i o = true)
  (h : ∀ b',b = b' → Pool L f ro ds cs n ops k Hq (⟨i,o,E,.bool b'⟩ :: R) Ls Fs ((d,.bool b') :: E) H) : Pool L f ro ds cs n ops k Hq R Ls Fs E H := Ak i ho hdst hw hsel hd hq hc (h _ rfl)
end
end Go.Gx
end
section
namespace Go.Gx
open Go Go.Conc
def EnvIn (E : Env) : Env → Prop
 | [] => True
 | p :: E' => look E p.1 = some p.2 ∧ EnvIn E E'
theorem EnvIn.look {E : Env} : ∀ {E' : Env},EnvIn E E' → ∀ t v,look E' t = some v → look E t = some v
 | [],_,t,v,h => by cases h
 | (k,u) :: E',hE,t,v,h => by
  rw [look_cons] at h
  by_cases e : k = t
  ·subst e
   simp at h
   subst h
   exact hE.1
  ·rw [if_neg e] at h
   exact EnvIn.look hE.2 t v h
section
variable {P : Program} {main : Bool} {L : Lg P main} {f : FuncId} {ro : Option Nat} {ds : Dz} {cs : List Frame} {n : Nat} {k todo : List Item} {H H' : Facts} {E E' : Env}
theorem At.to (h : At L f ro ds cs n E' H' todo) (hE : EnvIn E E') (hH : Sub H' H) : At L f ro ds cs n E H todo := (h.weakE hE.look).weakH hH
theorem At.cut {X : Type} {i : Item} (Ej : X → Env) (Hj : X → Facts) (hk : ∀ x,At L f ro ds cs n (Ej x) (Hj x) k) (h : (∀ x,At L f ro ds cs n (Ej x) (Hj x) k) → At L f ro ds cs n E H (i :: k)) : At L f ro ds cs n E H (i :: k) := h hk
theorem At.lp {X : Type} {c : Code} (Ei : X → Env) (Hi : X → Facts) (μ : X → Nat) (x₀ : X)
  (h : ∀ x,(∀ y,μ y < μ x → At L f ro ds cs n (Ei y) (Hi y) (.inLoop c :: k)) → At L f ro ds cs n (Ei x) (Hi x) (.code c :: .inLoop c :: k))
  (hE : EnvIn E (Ei x₀)) (hH : Sub (Hi x₀) H) : At L f ro ds cs n E H (.code (.loop c) :: k) := At.loop Ei Hi μ x₀ h hE.look hH
end
abbrev Mid (n : Int) : Prop := -4611686018427387904 ≤ n ∧ n ≤ 4611686018427387904
theorem tdiv_in {a b : Int} (h : Mid a) : InI (a.tdiv b) := by
 have h1 : (a.tdiv b).natAbs = a.natAbs / b.natAbs := Int.natAbs_tdiv a b
 have h2 : a.natAbs / b.natAbs ≤ a.natAbs := Nat.div_le_self _ _
 unfold Mid at h
 unfold InI
 omega
section
variable {P : Program} {main : Bool} {L : Lg P main} {f : FuncId} {ro : Option Nat} {ds : Dz} {cs : List Frame} {n : Nat} {k : List Item} {ops : Array Oper} {Hq H : Facts} {R : List Reg} {Ls : List Nat} {Fs : List Flo} {E : Env} {o : Oper} {d : Nat}
theorem At.faE {i : Nat} {rest : List Nat} {t : TypeId} {x : Operand} {j b off fo sz : Nat} {ag : Bool} (ho : ops[i]? = some o) (hop : o.op = .fieldAddr t x j) (hw : wantE ops o E = some true) (hd : o.dst = some d) (hn : Nat.blt d n = true) (hx : ev E x = some (.pointer (some ⟨b,off,none⟩)))
  [ht : FdI P t j fo ag sz] (h : At L f ro ds cs n ((d,.pointer (some ⟨b,off + fo,none⟩)) :: E) H (.inRegion ops rest :: k)) : At L f ro ds cs n E H (.inRegion ops (i :: rest) :: k) := by
 obtain ⟨fs,fd,z,by_,h1,h2,h3,h4⟩ := ht.parts
 obtain ⟨dd,ii,_,h7,_,h8,_,_⟩ := tyF_parts h4
 subst h3
 exact Ae ho hw hd hn (q_fieldAddr hop hx h1 h2 h7 (by rw [h8];exact ht.nz)) h
theorem Pool.faE (i : Nat) {t : TypeId} {x : Operand} {j b off fo sz : Nat} {ag : Bool} (ho : ops[i]? = some o) (hdst : dstOk o.dst n = true) (hw : wantE ops o E = some true) (hsel : noSel o = true) (hd : o.dst = some d) (hop : o.op = .fieldAddr t x j) (hx : ev E x = some (.pointer (some ⟨b,off,none⟩)))
  [ht : FdI P t j fo ag sz] (hc : checkReg R Ls Fs ops i o = true)
  (h : Pool L f ro ds cs n ops k Hq (⟨i,o,E,.pointer (some ⟨b,off + fo,none⟩)⟩ :: R) Ls Fs ((d,.pointer (some ⟨b,off + fo,none⟩)) :: E) H) : Pool L f ro ds cs n ops k Hq R Ls Fs E H := by
 obtain ⟨fs,fd,z,by_,h1,h2,h3,h4⟩ := ht.parts
 obtain ⟨dd,ii,_,h7,_,h8,_,_⟩ := tyF_parts h4
 subst h3
 exact Ak i ho hdst hw hsel hd (q_fieldAddr hop hx h1 h2 h7 (by rw [h8];exact ht.nz)) hc h
end
end Go.Gx
end
section
namespace Go.Gx
open Go Go.Conc
section
variable {P : Program} {H : Facts} {E : Env} {o : Oper}
theorem k_askRoom {b : Nat} {Q : Unit → Facts → Prop} (hq : Q () H) : K P (askRoom b) Q H := by
 unfold askRoom
 split
 ·exact ⟨.inl rfl,hq⟩
 ·exact hq
theorem k_loadCells {b off m : Nat} {vs : List Value} (hc : Cells H b off vs) (hl : vs.length = m) {Q : Array Value → Facts → Prop} (hq : Q vs.toArray H) : K P (loadCells ⟨b,off,none⟩ m) Q H := by
 unfold loadCells
 refine k_loadCellsFrom hc m 0 #[] (by omega) ?_
 simpa using hq
theorem k_firstCells {a : Option Addr} {n cap sz : Nat} {vs : List Value} (hr : Rd H a vs) (hl : vs.length = n * sz) {Q : Array Value → Facts → Prop} (hq : Q vs.toArray H) : K P (Builtin.firstCells sz n (.slice a n cap)) Q H := by
 cases a with
 | none =>
  rcases hr with rfl | ⟨_,_,h,_⟩
  ·exact hq
  ·cases h
 | some a =>
  show K P (loadCells a (n * sz)) Q H
  rcases hr with rfl | ⟨b,off,h,hc⟩
  ·have : n * sz = 0 := by simpa using hl.symm
   rw [this]
   exact hq
  ·cases h
   exact k_loadCells hc hl hq
theorem nextslicecap_le {n c : Nat} (h : c < n) (hs : n ≤ 100000) : Builtin.nextslicecap n c ≤ 400000 := by
 unfold Builtin.nextslicecap
 split
 ·omega
 ·split
  ·omega
  ·have key : ∀ r c,c ≤ 100000 → Builtin.growBy n r c ≤ 400000 := by
    intro r
    have : ∀ r c,c ≤ 100000 ∨ c ≤ 400000 ∧ n ≤ c → Builtin.growBy n r c ≤ 400000 := by
     intro r
     induction r with
     | zero =>
      intro c hc
      unfold Builtin.growBy
      omega
     | succ r ih =>
      intro c hc
      unfold Builtin.growBy
      split
      ·omega
      ·refine ih _ ?_
       omega
    exact fun c hc => this r c (.inl hc)
   exact key 4 c (by omega)
theorem l_appG {az : Array Operand} {ats : Array TypeId} {x y : Operand} {t t' e e' : TypeId} {ag ag' : Bool} {sz by_ sz' by_' : Nat} {z z' vs ws : List Value} {a a' : Option Addr} {m cap k cap' : Nat} [hel : ElI P t e ag sz by_ z] [hel' : ElI P t' e' ag' sz' by_' z']
  (ho : o.op = .call { callee := .builtin .append,args := az,argTypes := ats }) (has : az.toList = [x,y]) (hat : ats[0]? = some t) (hat' : ats[1]? = some t') (hx : ev E x = some (.slice a m cap)) (hy : ev E y = some (.slice a' k cap'))
  (hr : Rd H a vs) (hl : vs.length = m * sz) (hr' : Rd H a' ws) (hl' : ws.length = k * sz) (hroom : cap < m + k) (hsm : m + k ≤ 100000) (hby : by_ ≤ 1000) (hb0 : by_ ≠ 0) :
  LOp P o E H (fun v H' => ∃ r c rest,v = .slice (some ⟨r,0,none⟩) (m + k) c ∧ m + k ≤ c ∧ rest.length = (c - (m + k)) * z.length ∧ H' = .own r (.cells (List.toArray (vs ++ ws ++ rest)) e (0,0)) :: H) :=
 ⟨nd ho (by intro c h;cases h),fun φ hA Q hQ => by
  obtain ⟨zv,h1,h2,h3⟩ := hel.parts
  obtain ⟨zv',h1',h2',h3'⟩ := hel'.parts
  obtain ⟨d,i,_,h4,_,h6,h7,h8⟩ := tyF_parts h2
  have e0 : az.map φ = #[.slice a m cap,.slice a' k cap'] := by
   apply Array.ext'
   simp [has,hA x _ hx,hA y _ hy]
  unfold execOp;rw [ho];simp only [resolve,K.bind,K.pure,invoke,builtin,Builtin.append_,e0,hat,hat']
  have a0 : (#[Value.slice a m cap,Value.slice a' k cap'] : Array Value)[0]? = some (Value.slice a m cap) := rfl
  have a1 : (#[Value.slice a m cap,Value.slice a' k cap'] : Array Value)[1]? = some (Value.slice a' k cap') := rfl
  simp only [a0,a1]
  rw [K.bind,k_underlying h1]
  simp only
  rw [K.bind,k_sizeOf h4,K.bind,k_underlying h1',K.bind,K.pure]
  simp only [Bool.false_eq_true,if_false,Builtin.lenOf]
  rw [K.bind,K.pure,if_neg (by omega),K.bind,k_typeInfo h4,if_neg (by rw [h8];intro hh;rcases hh.2 with hh | hh;exact hh;exact hb0 hh),K.bind,k_typeInfo h4]
  have hns := nextslicecap_le hroom hsm
  have hmul : Builtin.nextslicecap (m + k) cap * i.bytes ≤ 400000 * 1000 := by rw [h8];exact Nat.mul_le_mul hns hby
  rw [if_neg (by omega),K.bind]
  simp only [choose,K]
  intro q hqq
  have hge : m + k ≤ q := by
   rcases hqq with ⟨hf,_⟩ | ⟨_,tt,rfl⟩
   ·simp [Question.forced] at hf
   ·simp only [Question.cut];omega
  rw [K.bind,k_typeInfo h4,K.bind]
  refine k_askRoom ?_
  rw [K.bind,h6]
  refine k_firstCells hr hl ?_
  simp only [Bool.not_false,if_true]
  rw [K.bind]
  refine k_firstCells hr' hl' ?_
  rw [K.bind,k_zeroValue h4 h7,K.bind]
  show K P (newObj _ >>= _) _ _
  rw [K.bind]
  simp only [newObj,K]
  intro r
  refine hQ _ _ ⟨r,q,(Builtin.zeroCells zv.cells (q - (m + k))).toList,rfl,hge,?_,?_⟩
  ·simp [Builtin.zeroCells,cellsV_eq h3]
  ·congr 3
   apply Array.ext'
   simp⟩
theorem l_appI (j : Nat) {az : Array Operand} {ats : Array TypeId} {x y : Operand} {t t' e e' T : TypeId} {ag ag' : Bool} {sz by_ sz' by_' : Nat} {z z' vs rest ws : List Value} {a' : Option Addr} {b m cap k cap' : Nat} {H' : Facts} [hel : ElI P t e ag sz by_ z] [hel' : ElI P t' e' ag' sz' by_' z']
  (ho : o.op = .call { callee := .builtin .append,args := az,argTypes := ats }) (has : az.toList = [x,y]) (hat : ats[0]? = some t) (hat' : ats[1]? = some t') (hx : ev E x = some (.slice (some ⟨b,0,none⟩) m cap)) (hy : ev E y = some (.slice a' k cap'))
  (hf : nthF H j = some (.own b (.cells (List.toArray (vs ++ rest)) T (0,0)))) (hl : vs.length = m * sz) (hc : (vs ++ rest).length = cap * sz) (hr' : Rd H a' ws) (hl' : ws.length = k * sz) (h1c : ∀ v ∈ ws,v.oneCell' = true) (hroom : m + k ≤ cap)
  (hH : setF H j (.own b (.cells (List.toArray (vs ++ ws ++ rest.drop (k * sz))) T (0,0))) = some H') :
  LOp P o E H (fun v H'' => v = .slice (some ⟨b,0,none⟩) (m + k) cap ∧ H'' = H') :=
 ⟨nd ho (by intro c h;cases h),fun φ hA Q hQ => by
  obtain ⟨zv,h1,h2,h3⟩ := hel.parts
  obtain ⟨zv',h1',h2',h3'⟩ := hel'.parts
  obtain ⟨d,i,_,h4,_,h6,h7,h8⟩ := tyF_parts h2
  have e0 : az.map φ = #[.slice (some ⟨b,0,none⟩) m cap,.slice a' k cap'] := by
   apply Array.ext'
   simp [has,hA x _ hx,hA y _ hy]
  unfold execOp;rw [ho];simp only [resolve,K.bind,K.pure,invoke,builtin,Builtin.append_,e0,hat,hat']
  have a0 : (#[Value.slice (some ⟨b,0,none⟩) m cap,Value.slice a' k cap'] : Array Value)[0]? = some (Value.slice (some ⟨b,0,none⟩) m cap) := rfl
  have a1 : (#[Value.slice (some ⟨b,0,none⟩) m cap,Value.slice a' k cap'] : Array Value)[1]? = some (Value.slice a' k cap') := rfl
  simp only [a0,a1]
  rw [K.bind,k_underlying h1]
  simp only
  rw [K.bind,k_sizeOf h4,K.bind,k_underlying h1',K.bind,K.pure]
  simp only [Bool.false_eq_true,if_false,Builtin.lenOf]
  rw [K.bind,K.pure,if_pos hroom,K.bind,h6]
  simp only [Bool.not_false,if_true]
  refine k_firstCells hr' hl' ?_
  rw [add_none,K.bind,Nat.zero_add]
  have hle : m * sz + ws.length ≤ (vs ++ rest).length := by
   rw [hc,hl',← Nat.add_mul]
   exact Nat.mul_le_mul_right _ hroom
  have es : splice (vs ++ rest) (m * sz) ws = vs ++ ws ++ rest.drop (k * sz) := by
   rw [← hl,← hl']
   simp [splice,List.drop_append]
  refine k_storeCells (T := T) ws 0 (vs ++ rest).toArray H H' (by simpa using hle) h1c ?_ ?_
  ·have := foldl_splice ws (vs ++ rest) (m * sz) hle
   rw [es] at this
   simp only [Nat.add_zero]
   rw [this]
   exact setF_upd hf hH
  ·exact hQ _ _ ⟨rfl,rfl⟩⟩
end
end Go.Gx
end
section
namespace Go.Gx
open Go Go.Conc
inductive IsSl (sz : Nat) (T : TypeId) : Value → List Value → Nat → Facts → Prop
 | nil : IsSl sz T (.slice none 0 0) [] 0 []
 | own (b cap m : Nat) (vs rest : List Value) (hl : vs.length = m * sz) (hc : (vs ++ rest).length = cap * sz) (hm : m ≤ cap) : IsSl sz T (.slice (some ⟨b,0,none⟩) m cap) vs m [.own b (.cells (List.toArray (vs ++ rest)) T (0,0))]
section
variable {P : Program} {main : Bool} {L : Lg P main} {f : FuncId} {ro : Option Nat} {ds : Dz} {cs : List Frame} {n : Nat} {k : List Item} {ops : Array Oper} {i : Nat} {rest : List Nat} {E : Env} {H H₀ sf : Facts} {o : Oper} {d : Nat}
theorem At.app {az : Array Operand} {ats : Array TypeId} {x y : Operand} {t t' e e' : TypeId} {ag ag' : Bool} {sz by_ sz' by_' : Nat} {z z' vs ws : List Value} {v : Value} {a' : Option Addr} {m q cap' : Nat} [hel : ElI P t e ag sz by_ z] [hel' : ElI P t' e' ag' sz' by_' z']
  (ho : ops[i]? = some o) (hop : o.op = .call { callee := .builtin .append,args := az,argTypes := ats }) (hw : wantE ops o E = some true) (hd : o.dst = some d) (hn : Nat.blt d n = true) (has : az.toList = [x,y]) (hats : ats.toList = [t,t'])
  (hx : ev E x = some v) (hy : ev E y = some (.slice a' q cap')) (hz : Nat.beq z.length sz = true) (hby : Nat.ble by_ 1000 = true) (hb0 : Nat.beq by_ 0 = false)
  (hs : IsSl sz e v vs m sf) (hp : (sf ++ H₀).Perm H) (hr' : Rd H a' ws) (hl' : ws.length = q * sz) (h1c : ∀ v ∈ ws,v.oneCell' = true) (hq : 0 < q) (hsm : m + q ≤ 100000)
  (h : ∀ v' sf',IsSl sz e v' (vs ++ ws) (m + q) sf' → At L f ro ds cs n ((d,v') :: E) (sf' ++ H₀) (.inRegion ops rest :: k)) : At L f ro ds cs n E H (.inRegion ops (i :: rest) :: k) := by
 have hat : ats[0]? = some t := by rw [← Array.getElem?_toList,hats];rfl
 have hat' : ats[1]? = some t' := by rw [← Array.getElem?_toList,hats];rfl
 refine At.weakH ?_ (Sub.of_perm hp)
 have hrr : Rd (sf ++ H₀) a' ws := hr'.more (Sub.of_perm hp.symm)
 have hz' := Nat.eq_of_beq_eq_true hz
 have hby' := Nat.le_of_ble_eq_true hby
 have hb0' : by_ ≠ 0 := fun e => by subst e;cases hb0
 cases hs with
 | nil =>
  refine At.l ho hw hd hn (l_appG (vs := []) hop has hat hat' hx hy (.inl rfl) (by simp) hrr hl' (by omega) hsm hby' hb0') ?_
  rintro _ _ ⟨r,c,rs,rfl,hge,hrl,rfl⟩
  exact h _ _ (.own r c (0 + q) ([] ++ ws) rs (by simpa using hl') (by rw [List.length_append,hrl,hz'];simp only [List.nil_append,hl',Nat.zero_add] at hge ⊢;rw [← Nat.add_mul];congr 1;omega) (by omega))
 | own b cap _ _ rs hl hc hm =>
  by_cases hroom : m + q ≤ cap
  ·refine At.l ho hw hd hn (l_appI 0 hop has hat hat' hx hy rfl hl hc hrr hl' h1c hroom rfl) ?_
   rintro _ _ ⟨rfl,rfl⟩
   refine h _ _ (.own b cap (m + q) (vs ++ ws) (rs.drop (q * sz)) (by rw [List.length_append,hl,hl',Nat.add_mul]) ?_ hroom)
   have hle : (m + q) * sz ≤ cap * sz := Nat.mul_le_mul_right _ hroom
   rw [Nat.add_mul] at hle
   rw [List.length_append] at hc
   simp only [List.length_append,List.length_drop,hl']
   omega
  ·refine At.l ho hw hd hn (l_appG (vs := vs) hop has hat hat' hx hy (.inr ⟨b,0,rfl,cells_own (List.mem_cons_self ..) (by simp)⟩) hl hrr hl' (by omega) hsm hby' hb0') ?_
   rintro _ _ ⟨r,c,rs',rfl,hge,hrl,rfl⟩
   refine At.weakH (h _ _ (.own r c (m + q) (vs ++ ws) rs' (by rw [List.length_append,hl,hl',Nat.add_mul]) ?_ hge)) (Sub.cons _ (Sub.tail _ _))
   rw [List.length_append,hrl,hz',List.length_append,hl,hl',← Nat.add_mul,← Nat.add_mul]
   congr 1
   omega
end
end Go.Gx
end
section
namespace Go.Gx
open Go Go.Conc
theorem Rd.part {H : Facts} {a : Option Addr} {vs us : List Value} (h : Rd H a vs) (j : Nat) (hu : (vs.drop j).take us.length = us) (h0 : us ≠ []) : ∃ b off,a = some ⟨b,off,none⟩ ∧ Cells H b (off + j) us := by
 rcases h with rfl | ⟨b,off,rfl,hc⟩
 ·simp at hu;exact absurd hu.symm (by simpa using h0)
 ·refine ⟨b,off,rfl,fun i v hi => ?_⟩
  have hlt : i < us.length := (List.getElem?_eq_some_iff.1 hi).1
  rw [← hu,List.getElem?_take_of_lt hlt,List.getElem?_drop] at hi
  have := hc (j + i) v hi
  rwa [← Nat.add_assoc] at this
theorem Rd.int {H : Facts} {a : Option Addr} {xs : List Int} (h : Rd H a (ints xs)) {j : Nat} {x : Int} (hx : xs[j]? = some x) : ∃ b off,a = some ⟨b,off,none⟩ ∧ Cells H b (off + j * 1) [.int .i64 x] := by
 have hlt : j < xs.length := (List.getElem?_eq_some_iff.1 hx).1
 have := h.part j (us := [.int .i64 x]) (by
  apply List.ext_getElem?
  intro i
  cases i with
  | zero => simp [ints,hx]
  | succ i => simp [ints,List.getElem?_take]) (by simp)
 simpa using this
end Go.Gx
end
section
namespace Go.Gx
open Go Go.Conc
theorem cells_sub {H : Facts} {b o : Nat} {vs us : List Value} (h : Cells H b o vs) (i n : Nat) (hg : getC vs i n = some us) : Cells H b (o + i) us := by
 obtain ⟨h1,h2⟩ := getC_eq hg
 intro j v hj
 have hlt : j < us.length := (List.getElem?_eq_some_iff.1 hj).1
 have h3 : vs[i + j]? = some v := by
  rw [← h1,List.getElem?_take_of_lt (by omega),List.getElem?_drop] at hj
  exact hj
 have := h (i + j) v h3
 rwa [← Nat.add_assoc] at this
class Enc {α : Type} (c : α → List Value) (sz : outParam Nat) : Prop where
 len : ∀ x,(c x).length = sz
 pos : 0 < sz
 one : ∀ x,∀ v ∈ c x,v.oneCell' = true
def c1 (x : Int) : List Value := [.int .i64 x]
def c2 (x : Int × Int) : List Value := [.int .i64 x.1,.int .i64 x.2]
def c3 (x : (Int × Int) × Int) : List Value := [.int .i64 x.1.1,.int .i64 x.1.2,.int .i64 x.2]
def c4 (x : (Int × Int) × (Int × Int)) : List Value := [.int .i64 x.1.1,.int .i64 x.1.2,.int .i64 x.2.1,.int .i64 x.2.2]
def cI3 (x : Int × (Int × Int)) : List Value := [.int .i64 x.1,.int .i64 x.2.1,.int .i64 x.2.2]
instance : Enc c1 1 := ⟨fun _ => rfl,by decide,fun x v h => by simp [c1] at h;subst h;rfl⟩
instance : Enc c2 2 := ⟨fun _ => rfl,by decide,fun x v h => by simp [c2] at h;rcases h with rfl | rfl <;> rfl⟩
instance : Enc c3 3 := ⟨fun _ => rfl,by decide,fun x v h => by simp [c3] at h;rcases h with rfl | rfl | rfl <;> rfl⟩
instance : Enc c4 4 := ⟨fun _ => rfl,by decide,fun x v h => by simp [c4] at h;rcases h with rfl | rfl | rfl | rfl <;> rfl⟩
instance : Enc cI3 3 := ⟨fun _ => rfl,by decide,fun x v h => by simp [cI3] at h;rcases h with rfl | rfl | rfl <;> rfl⟩
section
variable {α : Type} {c : α → List Value} {sz : Nat} [he : Enc c sz]
theorem flat_len (xs : List α) : (xs.flatMap c).length = xs.length * sz := by
 induction xs with
 | nil => simp
 | cons x xs ih => rw [List.flatMap_cons,List.length_append,ih,he.len,List.length_cons,Nat.succ_mul,Nat.add_comm]
theorem flat_drop : ∀ (xs : List α) (j : Nat),(xs.flatMap c).drop (j * sz) = (xs.drop j).flatMap c
 | [],j => by simp
 | x :: xs,0 => by simp
 | x :: xs,j + 1 => by
  rw [List.flatMap_cons,List.drop_succ_cons,← flat_drop xs j,Nat.succ_mul,Nat.add_comm,← he.len x,← List.drop_drop]
  simp
theorem flat_take : ∀ (xs : List α) (j : Nat),(xs.flatMap c).take (j * sz) = (xs.take j).flatMap c
 | [],j => by simp
 | x :: xs,0 => by simp
 | x :: xs,j + 1 => by
  rw [List.flatMap_cons,List.take_succ_cons,List.flatMap_cons,← flat_take xs j,Nat.succ_mul,Nat.add_comm,← he.len x]
  rw [List.take_length_add_append]
theorem flat_el {xs : List α} {j : Nat} {x : α} (hx : xs[j]? = some x) : ((xs.flatMap c).drop (j * sz)).take sz = c x := by
 obtain ⟨hlt,e⟩ := List.getElem?_eq_some_iff.1 hx
 rw [flat_drop,List.drop_eq_getElem_cons hlt,e,List.flatMap_cons,← he.len x]
 simp
theorem flat_one {sz' : Nat} [he' : Enc c sz'] {xs : List α} : ∀ v ∈ xs.flatMap c,v.oneCell' = true := by
 intro v hv
 obtain ⟨x,_,h⟩ := List.mem_flatMap.1 hv
 exact he'.one x v h
theorem Rd.el {H : Facts} {a : Option Addr} {xs : List α} (h : Rd H a (xs.flatMap c)) {j : Nat} {x : α} (hx : xs[j]? = some x) : ∃ b off,a = some ⟨b,off,none⟩ ∧ Cells H b (off + j * sz) (c x) :=
 h.part (j * sz) (by rw [he.len];exact flat_el hx) (fun e => by have := he.len x;rw [e] at this;have := he.pos;simp at *;omega)
theorem Rd.tl {H : Facts} {b off : Nat} {xs : List α} (h : Rd H (some ⟨b,off,none⟩) (xs.flatMap c)) (j : Nat) : Rd H (some ⟨b,off + j * sz,none⟩) ((xs.drop j).flatMap c) := by
 rcases h with h | ⟨b',off',e,hc⟩
 ·left;rw [← flat_drop,h];simp
 ·cases e
  refine .inr ⟨b,off + j * sz,rfl,fun i v hi => ?_⟩
  rw [← flat_drop,List.getElem?_drop] at hi
  have := hc _ _ hi
  rwa [← Nat.add_assoc] at this
theorem Rd.hd {sz' : Nat} [he' : Enc c sz'] {H : Facts} {a : Option Addr} {xs : List α} (h : Rd H a (xs.flatMap c)) (j : Nat) : Rd H a ((xs.take j).flatMap c) := by
 rcases h with h | ⟨b,off,e,hc⟩
 ·left;rw [← flat_take,h];simp
 ·refine .inr ⟨b,off,e,fun i v hi => hc i v ?_⟩
  rw [← flat_take] at hi
  have hlt := (List.getElem?_eq_some_iff.1 hi).1
  rw [List.length_take] at hlt
  rwa [List.getElem?_take_of_lt (by omega)] at hi
end
theorem rd_own {H : Facts} {b : Nat} {l vs : List Value} {T : TypeId} {fr : Nat × Nat} (j : Nat) (hf : nthF H j = some (.own b (.cells (List.toArray l) T fr))) (hl : l = vs) : Rd H (some ⟨b,0,none⟩) vs := by
 subst hl
 exact .inr ⟨b,0,rfl,cells_own (nthF_mem hf) (by simp)⟩
theorem rd_cells {H : Facts} {b off : Nat} {vs : List Value} (h : Cells H b off vs) : Rd H (some ⟨b,off,none⟩) vs := .inr ⟨b,off,rfl,h⟩
def joinF : Facts → Facts → Facts
 | [],X => X
 | f :: l,X => f :: joinF l X
theorem joinF_eq : ∀ {l X : Facts},joinF l X = l ++ X
 | [],X => rfl
 | f :: l,X => by rw [joinF,joinF_eq];rfl
def splitF : Nat → Facts → Option (Facts × Facts)
 | 0,X => some ([],X)
 | n + 1,f :: X =>
  match splitF n X with
  | some (a,b) => some (f :: a,b)
  | none => none
 | _ + 1,[] => none
theorem splitF_eq : ∀ {n : Nat} {X a b : Facts},splitF n X = some (a,b) → X = a ++ b
 | 0,X,a,b,h => by simp only [splitF,Option.some.injEq,Prod.mk.injEq] at h;obtain ⟨rfl,rfl⟩ := h;rfl
 | n + 1,f :: X,a,b,h => by
  unfold splitF at h
  split at h
  ·rename_i a' b' e
   cases h
   rw [splitF_eq e];rfl
  ·cases h
 | n + 1,[],a,b,h => by cases h
theorem Sub.pre (A C : Facts) : Sub A (A ++ C) := ⟨C,.refl _⟩
theorem Sub.dropL {A B : Facts} (C : Facts) (h : Sub A B) : Sub A (C ++ B) := h.trans (Sub.append_left C B)
theorem Sub.appR {A B : Facts} (C : Facts) (h : Sub A B) : Sub A (B ++ C) := h.trans ⟨C,.refl _⟩
theorem Sub.appL {A B : Facts} (C : Facts) (h : Sub A B) : Sub (C ++ A) (C ++ B) := by
 obtain ⟨R,hR⟩ := h
 exact ⟨R,by rw [List.append_assoc];exact hR.append_left C⟩
section
variable {P : Program} {main : Bool} {L : Lg P main} {f : FuncId} {ro : Option Nat} {ds : Dz} {cs : List Frame} {n : Nat} {k todo : List Item} {H H' lit rest' sf H₀ : Facts} {E Ek : Env}
theorem At.rot (q : Nat) (hH : splitF q H = some (lit,rest')) (h : At L f ro ds cs n E (joinF lit (sf ++ rest')) todo) : At L f ro ds cs n E (sf ++ H) todo := by
 refine h.weakH (Sub.of_perm ?_)
 rw [joinF_eq,splitF_eq hH,← List.append_assoc,← List.append_assoc]
 exact List.perm_append_comm.append_right _
theorem At.rot2 {H₁ lit2 : Facts} (q p : Nat) (hH : splitF q H = some (lit,sf ++ H₁)) (hH2 : splitF p H₁ = some (lit2,rest')) (h : At L f ro ds cs n E (joinF lit (joinF lit2 (sf ++ rest'))) todo) : At L f ro ds cs n E H todo := by
 refine h.weakH (Sub.of_perm ?_)
 rw [joinF_eq,joinF_eq,splitF_eq hH,splitF_eq hH2]
 refine List.Perm.append_left _ ?_
 rw [← List.append_assoc,← List.append_assoc]
 exact List.perm_append_comm.append_right _
def selE : List Nat → Env → Option Env
 | [],_ => some []
 | t :: ts,E =>
  match look E t,selE ts E with
  | some v,some r => some ((t,v) :: r)
  | _,_ => none
theorem selE_in : ∀ {ks : List Nat} {E Ek : Env},selE ks E = some Ek → EnvIn E Ek
 | [],E,Ek,h => by cases h;trivial
 | t :: ts,E,Ek,h => by
  unfold selE at h
  split at h
  ·rename_i v r h1 h2
   cases h
   exact ⟨h1,selE_in h2⟩
  ·cases h
theorem EnvIn.app {E : Env} : ∀ {A B : Env},EnvIn E A → EnvIn E B → EnvIn E (A ++ B)
 | [],B,_,h => h
 | p :: A,B,h1,h2 => ⟨h1.1,EnvIn.app h1.2 h2⟩
theorem Az {X : Type} {c : Code} (ks : List Nat) (mods : X → Env) (Hi : X → Facts) (μ : X → Nat) (x₀ : X) (hk : selE ks E = some Ek)
  (h : ∀ x,(∀ y,μ y < μ x → At L f ro ds cs n (mods y ++ Ek) (Hi y) (.inLoop c :: k)) → At L f ro ds cs n (mods x ++ Ek) (Hi x) (.code c :: .inLoop c :: k))
  (hE : EnvIn E (mods x₀)) (hH : Sub (Hi x₀) H) : At L f ro ds cs n E H (.code (.loop c) :: k) :=
 At.lp (fun x => mods x ++ Ek) Hi μ x₀ h (hE.app (selE_in hk)) hH
theorem At.cutk {X : Type} {i : Item} (ks : List Nat) (mods : X → Env) (Hj : X → Facts) (hs : selE ks E = some Ek) (hk : ∀ x,At L f ro ds cs n (mods x ++ Ek) (Hj x) k) (h : (∀ x,At L f ro ds cs n (mods x ++ Ek) (Hj x) k) → At L f ro ds cs n E H (i :: k)) : At L f ro ds cs n E H (i :: k) := h hk
end
def Sl {α : Type} (c : α → List Value) {sz : Nat} [Enc c sz] (T : TypeId) (v : Value) (xs : List α) (sf : Facts) : Prop := IsSl sz T v (xs.flatMap c) xs.length sf
section
variable {α : Type} {c : α → List Value} {sz : Nat} [he : Enc c sz] {T : TypeId}
theorem Sl.nil : Sl c T (.slice none 0 0) ([] : List α) [] := IsSl.nil
theorem Sl.form {v : Value} {xs : List α} {sf : Facts} (h : Sl c T v xs sf) : ∃ a cap,v = .slice a xs.length cap ∧ Rd sf a (xs.flatMap c) ∧ (a = none → xs = [] ∧ sf = []) := by
 unfold Sl at h
 generalize hvs : xs.flatMap c = vs at h
 generalize hm : xs.length = m at h
 cases h with
 | nil => exact ⟨none,0,rfl,.inl rfl,fun _ => ⟨List.length_eq_zero_iff.1 hm,rfl⟩⟩
 | own b cap _ _ rest hl hc hm =>
  exact ⟨some ⟨b,0,none⟩,cap,rfl,.inr ⟨b,0,rfl,cells_own (List.mem_cons_self ..) (by simp)⟩,fun e => by cases e⟩
theorem Sl.fresh {b : Nat} {xs : List α} {l : List Value} (hl : l = xs.flatMap c) : Sl c T (.slice (some ⟨b,0,none⟩) xs.length xs.length) xs [.own b (.cells (List.toArray l) T (0,0))] := by
 subst hl
 have := IsSl.own (sz := sz) (T := T) b xs.length xs.length (xs.flatMap c) [] (flat_len xs) (by simpa using flat_len xs) (Nat.le_refl _)
 simpa [Sl] using this
variable {P : Program} {main : Bool} {L : Lg P main} {f : FuncId} {ro : Option Nat} {ds : Dz} {cs : List Frame} {n : Nat} {k : List Item} {ops : Array Oper} {i : Nat} {rest : List Nat} {E : Env} {H H₀ sf lit : Facts} {o : Oper} {d : Nat}
theorem At.push {x : α} {xs : List α} (j q : Nat) {az : Array Operand} {ats : Array TypeId} {y z' : Operand} {t t' e e' T' : TypeId} {ag ag' : Bool} {sz₁ by_ sz' by_' b' cap' : Nat} {z z₂ l : List Value} {v : Value} {fr : Nat × Nat} [hel : ElI P t e ag sz₁ by_ z] [hel' : ElI P t' e' ag' sz' by_' z₂]
  (ho : ops[i]? = some o) (hop : o.op = .call { callee := .builtin .append,args := az,argTypes := ats }) (hw : wantE ops o E = some true) (hd : o.dst = some d) (hn : Nat.blt d n = true) (has : az.toList = [y,z']) (hats : ats.toList = [t,t'])
  (hx : ev E y = some v) (hy : ev E z' = some (.slice (some ⟨b',0,none⟩) 1 cap')) (hsz : sz₁ = sz) (hsz' : sz' = sz) (hz : Nat.beq z.length sz = true) (hby : Nat.ble by_ 1000 = true) (hb0 : Nat.beq by_ 0 = false)
  (hs : Sl c e v xs sf) (hH : splitF q H = some (lit,sf ++ H₀)) (hf : nthF lit j = some (.own b' (.cells (List.toArray l) T' fr))) (hl : l = c x) (hsm : xs.length < 100000)
  (h : ∀ v' sf',Sl c e v' (xs ++ [x]) sf' → At L f ro ds cs n ((d,v') :: E) (joinF lit (sf' ++ H₀)) (.inRegion ops rest :: k)) : At L f ro ds cs n E H (.inRegion ops (i :: rest) :: k) := by
 subst hl
 subst hsz
 subst hsz'
 have eH := splitF_eq hH
 have hrd : Rd H (some ⟨b',0,none⟩) (c x) := by
  rw [eH]
  exact (rd_own j hf rfl).more (Sub.appR _ (Sub.refl _))
 refine At.app (H₀ := lit ++ H₀) ho hop hw hd hn has hats hx hy hz hby hb0 hs ?_ hrd (by rw [he.len];simp) (he.one x) (by omega) (by omega) fun v' sf' hs' => ?_
 ·rw [eH,← List.append_assoc,← List.append_assoc]
  exact List.perm_append_comm.append_right _
 ·refine (h v' sf' ?_).weakH (Sub.of_perm ?_)
  ·unfold Sl
   simpa using hs'
  ·rw [joinF_eq,← List.append_assoc,← List.append_assoc]
   exact List.perm_append_comm.append_right _
end
section
variable {P : Program} {H : Facts} {E : Env} {o : Oper}
theorem q_iaN {t e : TypeId} {x y : Operand} {b off len cap k sz by_ : Nat} {ag : Bool} {z : List Value} {kd : IntKind} {i : Int} [hel : ElI P t e ag sz by_ z] (ho : o.op = .indexAddr t x y) (hx : ev E x = some (.slice (some ⟨b,off,none⟩) len cap)) (hy : ev E y = some (.int kd i)) (hi : i = (k : Int)) (hk : k < len) :
  QOp P o E H (.pointer (some ⟨b,off + k * sz,none⟩)) := by
 subst hi
 exact q_ia ho hx hy hk
theorem q_iaQ {t e : TypeId} {x y : Operand} {a : Option Addr} {b off len cap k sz by_ : Nat} {ag : Bool} {z : List Value} {kd : IntKind} {i : Int} [hel : ElI P t e ag sz by_ z] (ho : o.op = .indexAddr t x y) (hx : ev E x = some (.slice a len cap)) (hy : ev E y = some (.int kd i)) (ha : a = some ⟨b,off,none⟩) (hi : i = (k : Int)) (hk : k < len) :
  QOp P o E H (.pointer (some ⟨b,off + k * sz,none⟩)) := by
 subst hi ha
 exact q_ia ho hx hy hk
end
theorem Cells.a {H H' : Facts} {b o : Nat} {vs : List Value} (h : Cells H b o vs) (hs : Sub H H' := by repeat (first | exact Sub.refl _ | assumption | exact Sub.pre _ _ | apply Sub.cons | apply Sub.drop | apply Sub.appL | apply Sub.dropL | refine Sub.trans ?_ (by assumption))) : Cells H' b o vs := cells_more h hs
theorem Cells.s {H H' : Facts} {b o : Nat} {vs us : List Value} (h : Cells H b o vs) (i n : Nat) (hg : getC vs i n = some us) (hs : Sub H H' := by repeat (first | exact Sub.refl _ | assumption | exact Sub.pre _ _ | apply Sub.cons | apply Sub.drop | apply Sub.appL | apply Sub.dropL | refine Sub.trans ?_ (by assumption))) : Cells H' b (o + i) us := cells_more (cells_sub h i n hg) hs
theorem Rd.a {H H' : Facts} {a : Option Addr} {vs : List Value} (h : Rd H a vs) (hs : Sub H H' := by repeat (first | exact Sub.refl _ | assumption | exact Sub.pre _ _ | apply Sub.cons | apply Sub.drop | apply Sub.appL | apply Sub.dropL | refine Sub.trans ?_ (by assumption))) : Rd H' a vs := h.more hs
theorem wk {P : Program} {main : Bool} {L : Lg P main} {g : Goroutine} {H H₂ : Facts} (h : L.J g H) (hs : Sub H H₂ := by repeat (first | exact Sub.refl _ | assumption | exact Sub.pre _ _ | apply Sub.cons | apply Sub.drop | apply Sub.appL | apply Sub.dropL | refine Sub.trans ?_ (by assumption))) : L.J g H₂ := L.weak _ _ _ hs h
theorem Aq {P : Program} {main : Bool} {L : Lg P main} {f : FuncId} {ro : Option Nat} {ds : Dz} {cs : List Frame} {n : Nat} {todo : List Item} {H H' : Facts} {E E' : Env} (h : At L f ro ds cs n E' H' todo) (hE : EnvIn E E' := by repeat (first | exact trivial | refine ⟨rfl,?_⟩)) (hH : Sub H' H := by repeat (first | exact Sub.refl _ | assumption | exact Sub.pre _ _ | apply Sub.cons | apply Sub.drop | apply Sub.appL | apply Sub.dropL | refine Sub.trans ?_ (by assumption))) : At L f ro ds cs n E H todo := h.to hE hH
def wr (n : Int) : Int := IntKind.wrap .i64 n
section
variable {P : Program} {main : Bool} {L : Lg P main} {f : FuncId} {ro : Option Nat} {ds : Dz} {cs : List Frame} {n : Nat} {k : List Item} {ops : Array Oper} {i : Nat} {rest : List Nat} {E : Env} {H : Facts} {o : Oper} {d : Nat}
theorem q_mulW {t t' : TypeId} {x y : Operand} {a b : Int} (ho : o.op = .binOp .mul t x y t') (hx : ev E x = some (.int .i64 a)) (hy : ev E y = some (.int .i64 b)) : QOp P o E H (.int .i64 (wr (a * b))) :=
 ⟨nd ho (by intro c h;cases h),fun φ hA Q hQ => by
  unfold execOp;rw [ho];simp only [hA x _ hx,hA y _ hy,eqGuard,binOp,Op.intArith,K.bind,ne_eq,not_true_eq_false,if_false,K.pure]
  exact hQ⟩
end
theorem sb {H H' : Facts} (h : Sub H H' := by repeat (first | exact Sub.refl _ | assumption | exact Sub.pre _ _ | apply Sub.cons | apply Sub.drop | apply Sub.appL | apply Sub.dropL | refine Sub.trans ?_ (by assumption))) : Sub H H' := h
theorem bz {p : Prop} (h : p := by first | assumption | omega | exact Rd.a (by assumption) | exact Cells.a (by assumption)) : p := h
end Go.Gx
end
section
namespace Go.Gx
open Go Go.Conc
section
variable {P : Program} {main : Bool}
def Grows (L : Lg P main) (g : FuncId) (args : Array Value) (H : Facts) (Q : Value → Facts → Prop) : Prop := Spec L g args H fun v H' => ∃ sf,Q v sf ∧ H' = sf ++ H
theorem Pool.cl {L : Lg P main} {f : FuncId} {ro : Option Nat} {ds : Dz} {cs : List Frame} {n : Nat} {k : List Item} {ops : Array Oper} {Hq H : Facts} {R : List Reg} {Ls : List Nat} {Fs : List Flo} {E : Env} {o : Oper} {d : Nat}
  (i : Nat) {x : Operand} {az : Array Operand} {ats : Array TypeId} {g : FuncId} {first cap : List Value} {vs args : List Value} {Q : Value → Facts → Prop} (ho : ops[i]? = some o) (hdst : dstOk o.dst n = true) (hw : wantE ops o E = some true) (hd : o.dst = some d) (hop : o.op = .call { callee := .value x,args := az,argTypes := ats })
  (hdn : downOk ops = true) (honly : onlyIn R Ls Fs ops [i] = true) (hlt : Nat.blt i ops.size = true) (hr : regd R Ls i = false) (hfl : flod Fs i = false) (hc : checkReg R Ls Fs ops i o = true)
  (hx : ev E x = some (.func (.func g) ⟨first⟩ ⟨cap⟩)) (has : evs E az.toList = some vs) (hcat : cat3 first vs cap = some args) [hb : HB P g] (hsp : ∀ H',Sub H H' → Grows L g (List.toArray args) H' Q) (hq : Sub Hq H)
  (h : ∀ v sf,Q v sf → Pool L f ro ds cs n ops k Hq R (i :: Ls) Fs ((d,v) :: E) (sf ++ H)) : Pool L f ro ds cs n ops k Hq R Ls Fs E H := by
 refine pool_any [i] hdn honly (blt_lt hlt) hr hfl fun l hl => ?_
 obtain rfl : l = i := by simpa using hl
 refine loud_c (Post := fun v H₁ => ∃ sf,Q v sf ∧ H₁ = sf ++ H) ho hw hop hdst hc hx has hb.h (fun F => ?_) ?_
 ·rw [cat3_eq hcat]
  intro c cs hk
  refine hsp (F ++ H) (Sub.append_left F H) c cs ?_
  rintro v H' ⟨sf,hQ,rfl⟩
  refine L.weak _ _ _ (Sub.of_perm ?_) (hk v (F ++ (sf ++ H)) ⟨_,rfl,sf,hQ,rfl⟩)
  rw [← List.append_assoc,← List.append_assoc]
  exact List.perm_append_comm.append_right _
 ·rintro v H' ⟨sf,hQ,rfl⟩
  rw [hd]
  exact ⟨hq.trans (Sub.append_left sf H),h v sf hQ⟩
theorem At.drawS {L : Lg P main} {f : FuncId} {ro : Option Nat} {ds : Dz} {cs : List Frame} {n : Nat} {k : List Item} {ops : Array Oper} {H Hr lit sf : Facts} {E : Env} (hmix : P.follows .mixedOrders = true) (q : Nat) {id : Nat} (hH : splitF q H = some (lit,sf ++ Hr))
  (h : Pool L f ro ds cs n ops k (joinF lit Hr) [] [] [] E H) : At L f ro ds cs n E H (.code (.region id ops true) :: k) :=
 Bd hmix (joinF lit Hr) (by rw [splitF_eq hH,joinF_eq];exact Sub.appL _ (Sub.append_left _ _)) h
theorem Pool.cx {L : Lg P main} {f : FuncId} {ro : Option Nat} {ds : Dz} {cs : List Frame} {n : Nat} {k : List Item} {ops : Array Oper} {Hq H Hr sf : Facts} {R : List Reg} {Ls : List Nat} {Fs : List Flo} {E : Env} {o : Oper} {d : Nat}
  (i : Nat) {x : Operand} {az : Array Operand} {ats : Array TypeId} {g : FuncId} {first cap : List Value} {vs args : List Value} {Q : Value → Facts → Prop} (ho : ops[i]? = some o) (hdst : dstOk o.dst n = true) (hw : wantE ops o E = some true) (hd : o.dst = some d) (hop : o.op = .call { callee := .value x,args := az,argTypes := ats })
  (hdn : downOk ops = true) (honly : onlyIn R Ls Fs ops [i] = true) (hlt : Nat.blt i ops.size = true) (hr : regd R Ls i = false) (hfl : flod Fs i = false) (hc : checkReg R Ls Fs ops i o = true)
  (hx : ev E x = some (.func (.func g) ⟨first⟩ ⟨cap⟩)) (has : evs E az.toList = some vs) (hcat : cat3 first vs cap = some args) [hb : HB P g] (hp : (sf ++ Hr).Perm H) (hsp : ∀ R,Spec L g (List.toArray args) (sf ++ (Hr ++ R)) fun v H' => ∃ sf',Q v sf' ∧ H' = sf' ++ (Hr ++ R)) (hq : Sub Hq Hr)
  (h : ∀ v sf',Q v sf' → Pool L f ro ds cs n ops k Hq R (i :: Ls) Fs ((d,v) :: E) (sf' ++ Hr)) : Pool L f ro ds cs n ops k Hq R Ls Fs E H := by
 refine pool_any [i] hdn honly (blt_lt hlt) hr hfl fun l hl => ?_
 obtain rfl : l = i := by simpa using hl
 refine loud_c (Post := fun v H₁ => ∃ sf',Q v sf' ∧ H₁ = sf' ++ Hr) ho hw hop hdst hc hx has hb.h (fun F => ?_) ?_
 ·rw [cat3_eq hcat]
  intro c cs hk
  refine L.weak _ _ _ (Sub.of_perm ?_) (hsp F c cs ?_)
  ·rw [← List.append_assoc]
   exact List.perm_append_comm.trans (hp.append_left F)
  ·rintro v H' ⟨sf',hQ,rfl⟩
   refine L.weak _ _ _ (Sub.of_perm ?_) (hk v (F ++ (sf' ++ Hr)) ⟨_,rfl,sf',hQ,rfl⟩)
   rw [← List.append_assoc sf']
   exact List.perm_append_comm
 ·rintro v H' ⟨sf',hQ,rfl⟩
  rw [hd]
  exact ⟨hq.trans (Sub.append_left sf' Hr),h v sf' hQ⟩
def Hand (L : Lg P main) (y : Value) (is : List Value) (I D : Nat → Facts → Prop) : Prop :=
 ∀ k u Hk R,is[k]? = some u → I k Hk → SpecV L y #[u] (Hk ++ R) (fun v H' => ∃ Hk',H' = Hk' ++ R ∧ ((v = .bool true ∧ I (k + 1) Hk') ∨ (v = .bool false ∧ D k Hk')))
def SeqOk (L : Lg P main) (fv : Value) (is : List Value) (H0 : Facts) : Prop :=
 ∀ (ly : Nat) I D,(∀ k Hk,I k Hk → Sub H0 Hk) → (∀ k Hk,D k Hk → Sub H0 Hk) → Hand L (.func (.yield ly) #[] #[]) is I D → ∀ Hs,I 0 Hs → SpecV L fv #[.func (.yield ly) #[] #[]] Hs (fun _ H' => ∃ Hk',Sub Hk' H' ∧ (I is.length Hk' ∨ ∃ q,q < is.length ∧ D q Hk'))
theorem SeqOk.more {L : Lg P main} {fv : Value} {is : List Value} {H0 H1 : Facts} (h : SeqOk L fv is H0) (hs : Sub H0 H1) : SeqOk L fv is H1 :=
 fun y I D hI hD hy Hs h0 => h y I D (fun k Hk hk => hs.trans (hI k Hk hk)) (fun k Hk hk => hs.trans (hD k Hk hk)) hy Hs h0
variable {L : Lg P main} {f : FuncId} {ro : Option Nat} {ds : Dz} {cs : List Frame} {n : Nat} {E : Env} {H lit Hk : Facts} {k : List Item} {ops : Array Oper} {i : Nat} {rest : List Nat} {o : Oper} {d : Nat}
theorem At.yield {j : Nat} {x : Operand} {az : Array Operand} {ats : Array TypeId} {y u : Value} {is : List Value} {I D : Nat → Facts → Prop} (q : Nat) (ho : ops[i]? = some o) (hop : o.op = .call { callee := .value x,args := az,argTypes := ats }) (hw : wantE ops o E = some true) (hd : o.dst = some d) (hn : Nat.blt d n = true)
  (hx : ev E x = some y) (has : evs E az.toList = some [u]) (hh : Hand L y is I D) (hu : is[j]? = some u) (hI : I j Hk) (hH : splitF q H = some (lit,Hk))
  (h1 : ∀ Hk',I (j + 1) Hk' → At L f ro ds cs n ((d,.bool true) :: E) (joinF lit Hk') (.inRegion ops rest :: k))
  (h2 : ∀ Hk',D j Hk' → At L f ro ds cs n ((d,.bool false) :: E) (joinF lit Hk') (.inRegion ops rest :: k)) : At L f ro ds cs n E H (.inRegion ops (i :: rest) :: k) := by
 have eH := splitF_eq hH
 refine At.weakH (H' := Hk ++ lit) ?_ (Sub.of_perm (by rw [eH];exact List.perm_append_comm))
 refine At.cv ho hop hw (by rw [hd];exact hn) hx has (hh j u Hk lit hu hI) ?_
 rintro v H' ⟨Hk',rfl,⟨rfl,hI'⟩ | ⟨rfl,hD⟩⟩
 ·rw [hd]
  exact (h1 Hk' hI').weakH (Sub.of_perm (by rw [joinF_eq];exact List.perm_append_comm))
 ·rw [hd]
  exact (h2 Hk' hD).weakH (Sub.of_perm (by rw [joinF_eq];exact List.perm_append_comm))
theorem At.yieldP {j : Nat} {x : Operand} {az : Array Operand} {ats : Array TypeId} {y u : Value} {is : List Value} {I D : Nat → Facts → Prop} (lit : Facts) (ho : ops[i]? = some o) (hop : o.op = .call { callee := .value x,args := az,argTypes := ats }) (hw : wantE ops o E = some true) (hd : o.dst = some d) (hn : Nat.blt d n = true)
  (hx : ev E x = some y) (has : evs E az.toList = some [u]) (hh : Hand L y is I D) (hu : is[j]? = some u) (hI : I j Hk) (hH : (lit ++ Hk).Perm H)
  (h1 : ∀ Hk',I (j + 1) Hk' → At L f ro ds cs n ((d,.bool true) :: E) (lit ++ Hk') (.inRegion ops rest :: k))
  (h2 : ∀ Hk',D j Hk' → At L f ro ds cs n ((d,.bool false) :: E) (lit ++ Hk') (.inRegion ops rest :: k)) : At L f ro ds cs n E H (.inRegion ops (i :: rest) :: k) := by
 refine At.weakH (H' := Hk ++ lit) ?_ (Sub.of_perm (List.perm_append_comm.trans hH))
 refine At.cv ho hop hw (by rw [hd];exact hn) hx has (hh j u Hk lit hu hI) ?_
 rintro v H' ⟨Hk',rfl,⟨rfl,hI'⟩ | ⟨rfl,hD⟩⟩
 ·rw [hd]
  exact (h1 Hk' hI').weakH (Sub.of_perm List.perm_append_comm)
 ·rw [hd]
  exact (h2 Hk' hD).weakH (Sub.of_perm List.perm_append_comm)
theorem perm_mid (X sf R : Facts) : (X ++ (sf ++ R)).Perm ((sf ++ X) ++ R) := by
 rw [← List.append_assoc];exact List.perm_append_comm.append_right R
theorem loud_cv {Hq : Facts} {R : List Reg} {Ls : List Nat} {Fs : List Flo} {l : Nat} {x : Operand} {az : Array Operand} {ats : Array TypeId} {fv : Value} {vs : List Value} {Post : Value → Facts → Prop} (ho : ops[l]? = some o) (hw : wantE ops o E = some true) (hop : o.op = .call { callee := .value x,args := az,argTypes := ats }) (hdst : dstOk o.dst n = true) (hc : checkReg R Ls Fs ops l o = true)
  (hx : ev E x = some fv) (has : evs E az.toList = some vs) (hsp : ∀ F,∃ G',G'.Perm (F ++ H) ∧ SpecV L fv vs.toArray G' fun v H' => ∃ H₁,H'.Perm (F ++ H₁) ∧ Post v H₁)
  (h : ∀ v H',Post v H' → Sub Hq H' ∧ Pool L f ro ds cs n ops k Hq R (l :: Ls) Fs (putE o.dst v E) H') : Loud L f ro ds cs n ops k Hq R Ls Fs E H l := by
 refine ⟨o,Post,ho,dstOk_lt hdst,hc,fun F rest tmps hs hr hn => ?_,h⟩
 obtain ⟨G',hp,hsp⟩ := hsp F
 refine L.weak _ _ _ (Sub.of_perm hp) ?_;refine step_core (E := E) (Q := CallN L (Fr f ro ds tmps (.inRegion ops (l :: rest) :: k)) cs) ho hs (by unfold noSel;rw [hop]) (by rw [hop];intro c;simp) hr hw (fun φ hA => ?_) ?_ ?_ ?_ ?_ ?_
 ·unfold execOp
  rw [hop]
  simp only
  have e : az.map φ = vs.toArray := by
   have := evs_map hA has
   apply Array.ext'
   simpa using this
  simp only [resolve,hA x _ hx,e]
  refine hsp _ _ fun v H' hv => ?_
  obtain ⟨H₁,hp',hv⟩ := hv
  rw [fr_finish,ho]
  exact L.weak _ _ _ (Sub.of_perm hp'.symm) (hn v H₁ hv)
 ·intro v H' h;exact h.elim
 ·intro H' h;exact h.elim
 ·intro g' args' H' h;exact h
 ·intro l g t x y H' h;exact h
 ·intro nx H' h
  cases nx <;> first | trivial | exact h.elim
theorem Pool.yield {Hq : Facts} {R : List Reg} {Ls : List Nat} {Fs : List Flo} {j : Nat} {x : Operand} {az : Array Operand} {ats : Array TypeId} {y u : Value} {is : List Value} {I D : Nat → Facts → Prop} (i q : Nat) (ho : ops[i]? = some o) (hdst : dstOk o.dst n = true) (hw : wantE ops o E = some true) (hd : o.dst = some d) (hop : o.op = .call { callee := .value x,args := az,argTypes := ats })
  (hdn : downOk ops = true) (honly : onlyIn R Ls Fs ops [i] = true) (hlt : Nat.blt i ops.size = true) (hr : regd R Ls i = false) (hfl : flod Fs i = false) (hc : checkReg R Ls Fs ops i o = true)
  (hx : ev E x = some y) (has : evs E az.toList = some [u]) (hh : Hand L y is I D) (hu : is[j]? = some u) (hI : I j Hk) (hH : splitF q H = some (lit,Hk)) {H0 : Facts} (hsub : ∀ k Hk,I k Hk → Sub H0 Hk) (hsubD : ∀ k Hk,D k Hk → Sub H0 Hk) (hqs : Sub Hq (joinF lit H0))
  (h1 : ∀ Hk',I (j + 1) Hk' → Pool L f ro ds cs n ops k Hq R (i :: Ls) Fs ((d,.bool true) :: E) (joinF lit Hk'))
  (h2 : ∀ Hk',D j Hk' → Pool L f ro ds cs n ops k Hq R (i :: Ls) Fs ((d,.bool false) :: E) (joinF lit Hk')) : Pool L f ro ds cs n ops k Hq R Ls Fs E H := by
 have eH := splitF_eq hH
 refine pool_any [i] hdn honly (blt_lt hlt) hr hfl fun l hl => ?_
 obtain rfl : l = i := by simpa using hl
 refine loud_cv (Post := fun v H₁ => ∃ Hk',H₁ = joinF lit Hk' ∧ ((v = .bool true ∧ I (j + 1) Hk') ∨ (v = .bool false ∧ D j Hk'))) ho hw hop hdst hc hx has (fun F => ?_) ?_
 ·refine ⟨Hk ++ (F ++ lit),?_,(hh j u Hk (F ++ lit) hu hI).mono ?_⟩
  ·rw [eH,← List.append_assoc F];exact List.perm_append_comm
  ·rintro v H' ⟨Hk',rfl,hor⟩
   refine ⟨_,?_,Hk',rfl,hor⟩
   rw [joinF_eq,← List.append_assoc F];exact List.perm_append_comm
 ·rintro v H' ⟨Hk',rfl,⟨rfl,hI'⟩ | ⟨rfl,hD⟩⟩
  ·rw [hd]
   exact ⟨hqs.trans (by rw [joinF_eq,joinF_eq];exact Sub.appL _ (hsub _ _ hI')),h1 Hk' hI'⟩
  ·rw [hd]
   exact ⟨hqs.trans (by rw [joinF_eq,joinF_eq];exact Sub.appL _ (hsubD _ _ hD)),h2 Hk' hD⟩
abbrev lrec (f : FuncId) (tmps : Array Value) (t : Tmp) (assign body : Code) (r : Nat) (st : LoopState) (p : Option Code) : Loop :=
 { state := st,pending := p,fn := f,tmps := tmps,params := #[t],assign := assign,body := body,defers := r }
theorem At.rng {x : Operand} {t : Tmp} {assign body : Code} {fv : Value} {is : List Value} {H0 : Facts} (hx : ev E x = some fv) (ht : Nat.blt t n = true)
  (hseq : SeqOk L fv is H0) (I : Nat → Facts → Prop) (D : Nat → Code → Facts → Prop) (hsub : ∀ k Hk,I k Hk → Sub H0 Hk) (hsubD : ∀ k jp Hk,D k jp Hk → Sub H0 Hk) (hI : I 0 H)
  (hround : ∀ (tmps : Array Value) (l r j : Nat) (u : Value) (Hk R : Facts) (c : Frame) (cs' : List Frame),is[j]? = some u → I j Hk →
   (∀ Hk',I (j + 1) Hk' → L.J (G (c.finish (.bool true)) cs') (.own l (.loop (lrec f tmps t assign body r .ready none)) :: .own r (.deferred (some [])) :: (Hk' ++ R))) →
   (∀ jp Hk',D j jp Hk' → L.J (G (c.finish (.bool false)) cs') (.own l (.loop (lrec f tmps t assign body r .done (some jp))) :: .own r (.deferred (some [])) :: (Hk' ++ R))) →
   At L f (some l) d0 (c :: cs') n ((t,u) :: E) (.own l (.loop (lrec f tmps t assign body r .ready none)) :: .own r (.deferred (some [])) :: (Hk ++ R)) [.code assign,.beginRound,.code body])
  (hend : ∀ (tmps : Array Value) (l r : Nat) (Hk : Facts),I is.length Hk → At L f none ⟨ds.late,mark r :: ds.ds⟩ cs n E (.own l (.loop (lrec f tmps t assign body r .exhausted none)) :: .own r (.deferred (some [])) :: Hk) k)
  (hjump : ∀ (tmps : Array Value) (l r q : Nat) (jp : Code) (Hk : Facts),q < is.length → D q jp Hk → At L f none ⟨ds.late,mark r :: ds.ds⟩ cs n E (.own l (.loop (lrec f tmps t assign body r .exhausted (some jp))) :: .own r (.deferred (some [])) :: Hk) (.code jp :: k)) :
  At L f none ds cs n E H (.code (.rangeFunc x #[t] assign body) :: k) := by
 refine At.rfunc (Post := fun _ _ => True) hx fun l r tmps hs hE => ?_
 refine hseq l (fun j Hf => ∃ Hk,Hf = .own l (.loop (lrec f tmps t assign body r .ready none)) :: .own r (.deferred (some [])) :: Hk ∧ I j Hk)
  (fun j Hf => ∃ jp Hk,Hf = .own l (.loop (lrec f tmps t assign body r .done (some jp))) :: .own r (.deferred (some [])) :: Hk ∧ D j jp Hk) ?_ ?_ ?_ _ ⟨H,rfl,hI⟩ _ _ ?_
 ·rintro j _ ⟨Hk,rfl,hk⟩
  exact ((hsub j Hk hk).drop _).drop _
 ·rintro j _ ⟨jp,Hk,rfl,hk⟩
  exact ((hsubD j jp Hk hk).drop _).drop _
 ·rintro j u _ R hu ⟨Hk,rfl,hk⟩ c cs' hc
  refine calls_yield (rc := lrec f tmps t assign body r .ready none) (by simp) rfl ?_;refine round1 rfl hs ht rfl hE ?_
  refine hround tmps l r j u Hk R c cs' hu hk (fun Hk' h' => hc _ _ ⟨_,rfl,.inl ⟨rfl,Hk',rfl,h'⟩⟩) (fun jp Hk' h' => hc _ _ ⟨_,rfl,.inr ⟨rfl,jp,Hk',rfl,h'⟩⟩)
 ·rintro v H' ⟨Hk',hsub',hor⟩
  rw [fr_finish_loop]
  refine L.weak _ _ _ hsub' ?_
  rcases hor with ⟨Hk,rfl,hk⟩ | ⟨q,hq,jp,Hk,rfl,hk⟩
  ·exact (At.endLoop (rc := lrec f tmps t assign body r .ready none) 0 rfl (by simp) rfl (hend tmps l r Hk hk)) tmps hs hE
  ·exact (At.endLoop (rc := lrec f tmps t assign body r .done (some jp)) 0 rfl (by simp) rfl (hjump tmps l r q jp Hk hq hk)) tmps hs hE
end
end Go.Gx
end
section
namespace Go.Gx
open Go Go.Conc
def slA (a : Option Addr) (cap l sz : Nat) : Option Addr := if cap = l then a else a.map (·.add (l * sz))
section
variable {P : Program} {H : Facts} {E : Env} {o : Oper}
theorem k_bound {φ : Operand → Value} (hA : Agree E φ) {x : Operand} {kd : IntKind} {l y : Nat} {code : BoundsCode} (hx : ev E x = some (.int kd (l : Int))) (hl : l ≤ y) {Q : Nat → Facts → Prop} (hq : Q l H) : K P (Instr.sliceBound (φ x) y code) Q H := by
 unfold Instr.sliceBound
 rw [hA x _ hx]
 simp only [asIntOf,K.bind,K.pure]
 rw [if_pos (by omega),K.pure]
 simpa using hq
theorem q_sliceH {t e : TypeId} {x z : Operand} {ag : Bool} {sz by_ : Nat} {zz : List Value} {a : Option Addr} {len cap h : Nat} {kd' : IntKind} [hel : ElI P t e ag sz by_ zz] (ho : o.op = .slice t x none (some z) none) (hx : ev E x = some (.slice a len cap)) (hz : ev E z = some (.int kd' (h : Int))) (h2 : h ≤ cap) :
  QOp P o E H (.slice (slA a cap 0 sz) h cap) := by
 obtain ⟨zv,e1,e2,_⟩ := hel.parts
 obtain ⟨d,i,_,e4,_,e6,_,_⟩ := tyF_parts e2
 refine ⟨nd ho (by intro c h;cases h),fun φ hA Q hQ => ?_⟩
 unfold execOp;rw [ho];simp only [Option.map_some,Option.map_none,hA x _ hx,Instr.sliceAt,Instr.sureAddr,Instr.slice,K.bind,k_underlying e1]
 unfold Instr.sliceBounds
 simp only [K.bind,K.pure]
 refine k_bound hA hz h2 ?_
 rw [k_sizeOf e4,e6]
 have hQ' : VS Q (.value (.slice (slA a cap 0 sz) h cap)) H := hQ
 simpa [slA] using hQ'
theorem q_sliceL {t e : TypeId} {x y : Operand} {ag : Bool} {sz by_ : Nat} {zz : List Value} {a : Option Addr} {len cap l : Nat} {kd : IntKind} [hel : ElI P t e ag sz by_ zz] (ho : o.op = .slice t x (some y) none none) (hx : ev E x = some (.slice a len cap)) (hy : ev E y = some (.int kd (l : Int))) (h1 : l ≤ len) :
  QOp P o E H (.slice (slA a cap l sz) (len - l) (cap - l)) := by
 obtain ⟨zv,e1,e2,_⟩ := hel.parts
 obtain ⟨d,i,_,e4,_,e6,_,_⟩ := tyF_parts e2
 refine ⟨nd ho (by intro c h;cases h),fun φ hA Q hQ => ?_⟩
 unfold execOp;rw [ho];simp only [Option.map_some,Option.map_none,hA x _ hx,Instr.sliceAt,Instr.sureAddr,Instr.slice,K.bind,k_underlying e1]
 unfold Instr.sliceBounds
 simp only [K.bind,K.pure]
 refine k_bound hA hy h1 ?_
 rw [k_sizeOf e4,e6]
 exact hQ
theorem q_sliceAH {t e : TypeId} {x z : Operand} {ag : Bool} {n sz b off : Nat} {h : Nat} {kd' : IntKind} [har : ArI P t n e ag sz] (ho : o.op = .slice t x none (some z) none) (hx : ev E x = some (.pointer (some ⟨b,off,none⟩))) (hz : ev E z = some (.int kd' (h : Int))) (h2 : h ≤ n) :
  QOp P o E H (.slice (some ⟨b,off,none⟩) h n) := by
 obtain ⟨zz,by_,e1,e2⟩ := har.parts
 obtain ⟨d,i,_,e4,_,e6,_,_⟩ := tyF_parts e2
 refine ⟨nd ho (by intro c h;cases h),fun φ hA Q hQ => ?_⟩
 unfold execOp;rw [ho];simp only [Option.map_some,Option.map_none,hA x _ hx,Instr.sliceAt,Instr.sureAddr,K.bind,k_underlying e1,K.pure]
 unfold Instr.sliceBounds
 simp only [K.bind,K.pure]
 refine k_bound hA hz h2 ?_
 rw [k_sizeOf e4]
 have e : (if n = 0 then (⟨b,off,none⟩ : Addr) else (⟨b,off,none⟩ : Addr).add (0 * i.size)) = ⟨b,off,none⟩ := by
  rw [add_none];simp
 rw [e]
 have hQ' : VS Q (.value (.slice (some ⟨b,off,none⟩) h n)) H := hQ
 simpa using hQ'
end
theorem Rd.slA {α : Type} {c : α → List Value} {sz : Nat} [he : Enc c sz] {H : Facts} {a : Option Addr} {xs : List α} {cap l : Nat} (h : Rd H a (xs.flatMap c)) (hc : xs.length ≤ cap) (hl : l ≤ xs.length) : Rd H (slA a cap l sz) ((xs.drop l).flatMap c) := by
 unfold Go.Gx.slA
 by_cases e : cap = l
 ·left
  have : xs.drop l = [] := List.drop_of_length_le (by omega)
  rw [this];rfl
 ·rw [if_neg e]
  cases a with
  | none =>
   rcases h with h | ⟨b,off,h,_⟩
   ·left
    rw [← flat_drop,h];simp
   ·cases h
  | some a =>
   rcases h with h | ⟨b,off,h,hc⟩
   ·left
    rw [← flat_drop,h];simp
   ·cases h
    show Rd H (some ((⟨b,off,none⟩ : Addr).add (l * sz))) _
    rw [add_none]
    exact Rd.tl (rd_cells hc) l
section
variable {P : Program} {main : Bool} {L : Lg P main} {f : FuncId} {ro : Option Nat} {ds : Dz} {cs : List Frame} {n : Nat} {k : List Item} {ops : Array Oper} {Hq H : Facts} {R : List Reg} {Ls : List Nat} {Fs : List Flo} {E : Env}
theorem Pool.swap {i j : Nat} (h : Pool L f ro ds cs n ops k Hq R (i :: j :: Ls) Fs E H) : Pool L f ro ds cs n ops k Hq R (j :: i :: Ls) Fs E H := by
 intro S SF hs fuel t listed tmps ρ I
 refine h S SF hs fuel t listed tmps ρ ⟨I.size,I.lsz,fun q hq => ?_,fun q hq => I.ls q ?_,I.env,I.pend,I.flo,I.cl⟩
 ·rcases I.reg q hq with h | h | h
  ·exact .inl h
  ·refine .inr (.inl ?_)
   simp only [List.mem_cons] at h ⊢
   rcases h with h | h | h
   ·exact .inr (.inl h)
   ·exact .inl h
   ·exact .inr (.inr h)
  ·exact .inr (.inr h)
 ·simp only [List.mem_cons] at hq ⊢
  rcases hq with h | h | h
  ·exact .inr (.inl h)
  ·exact .inl h
  ·exact .inr (.inr h)
theorem Pool.ldl (j i : Nat) {o : Oper} {d : Nat} {t : TypeId} {x : Operand} {b off sz : Nat} {ag : Bool} {z l vs : List Value} {v : Value} {T : TypeId} {fr : Nat × Nat} (ho : ops[i]? = some o) (hdst : dstOk o.dst n = true) (hw : wantE ops o E = some true) (hd : o.dst = some d) (hop : o.op = .load t x) (hdn : downOk ops = true) (honly : onlyIn R Ls Fs ops [i] = true)
  (hlt : Nat.blt i ops.size = true) (hr : regd R Ls i = false) (hfl : flod Fs i = false) (hc : checkReg R Ls Fs ops i o = true) (hx : ev E x = some (.pointer (some ⟨b,off,none⟩)))
  [ht : TyI P t ag sz z] (hf : nthF H j = some (.own b (.cells (List.toArray l) T fr))) (hg : getC l off sz = some vs) (hv : mkV ag vs = some v) (hq : Sub Hq H)
  (h : Pool L f ro ds cs n ops k Hq R (i :: Ls) Fs ((d,v) :: E) H) : Pool L f ro ds cs n ops k Hq R Ls Fs E H := by
 obtain ⟨zv,by_,e1,_⟩ := ht.h
 have hcl := own_cells hf hg
 have hQ : QOp P o E H v := by
  cases ag with
  | true => cases hv;exact q_loadS hop hx e1 hcl.1 hcl.2
  | false =>
   match vs,hv,hcl with
   | [v'],hv,hcl => cases hv;exact q_load hop hx e1 hcl.1
 refine pool_any [i] hdn honly (blt_lt hlt) hr hfl fun l' hl' => ?_
 obtain rfl : l' = i := by simpa using hl'
 refine loud_l ho hw hdst hc (by unfold noSel;rw [hop]) hQ.lop ?_
 rintro _ _ ⟨rfl,rfl⟩
 rw [hd]
 exact ⟨hq,h⟩
theorem Pool.weakH {H' : Facts} (h : Pool L f ro ds cs n ops k Hq R Ls Fs E H') (hs : Sub H' H) (hq : Sub Hq H') : Pool L f ro ds cs n ops k Hq R Ls Fs E H := by
 intro S SF _ fuel t listed tmps ρ I hfu
 refine L.weak _ _ _ ?_ (h S SF hq fuel t listed tmps ρ I hfu)
 exact Sub.appL _ hs
theorem Pool.lo (i : Nat) {o : Oper} {d : Nat} {Post : Value → Facts → Prop} (ho : ops[i]? = some o) (hdst : dstOk o.dst n = true) (hw : wantE ops o E = some true) (hsel : noSel o = true) (hd : o.dst = some d) (hdn : downOk ops = true) (honly : onlyIn R Ls Fs ops [i] = true)
  (hlt : Nat.blt i ops.size = true) (hr : regd R Ls i = false) (hfl : flod Fs i = false) (hc : checkReg R Ls Fs ops i o = true) (hq : LOp P o E H Post)
  (h : ∀ v H',Post v H' → Sub Hq H' ∧ Pool L f ro ds cs n ops k Hq R (i :: Ls) Fs ((d,v) :: E) H') : Pool L f ro ds cs n ops k Hq R Ls Fs E H := by
 refine pool_any [i] hdn honly (blt_lt hlt) hr hfl fun l' hl' => ?_
 obtain rfl : l' = i := by simpa using hl'
 refine loud_l ho hw hdst hc hsel hq ?_
 rw [hd]
 exact h
theorem Pool.app (i : Nat) {o : Oper} {d : Nat} {sf H₀ : Facts} {az : Array Operand} {ats : Array TypeId} {x y : Operand} {t t' e e' : TypeId} {ag ag' : Bool} {sz by_ sz' by_' : Nat} {z z' vs ws : List Value} {v : Value} {a' : Option Addr} {m q cap' : Nat} [hel : ElI P t e ag sz by_ z] [hel' : ElI P t' e' ag' sz' by_' z']
  (ho : ops[i]? = some o) (hdst : dstOk o.dst n = true) (hop : o.op = .call { callee := .builtin .append,args := az,argTypes := ats }) (hw : wantE ops o E = some true) (hsel : noSel o = true) (hd : o.dst = some d) (hdn : downOk ops = true) (honly : onlyIn R Ls Fs ops [i] = true)
  (hlt : Nat.blt i ops.size = true) (hr : regd R Ls i = false) (hfl : flod Fs i = false) (hc : checkReg R Ls Fs ops i o = true) (has : az.toList = [x,y]) (hats : ats.toList = [t,t'])
  (hx : ev E x = some v) (hy : ev E y = some (.slice a' q cap')) (hz : Nat.beq z.length sz = true) (hby : Nat.ble by_ 1000 = true) (hb0 : Nat.beq by_ 0 = false)
  (hs : IsSl sz e v vs m sf) (hp : (sf ++ H₀).Perm H) (hr' : Rd H a' ws) (hl' : ws.length = q * sz) (h1c : ∀ v ∈ ws,v.oneCell' = true) (hq : 0 < q) (hsm : m + q ≤ 100000) (hqs : Sub Hq H₀)
  (h : ∀ v' sf',IsSl sz e v' (vs ++ ws) (m + q) sf' → Pool L f ro ds cs n ops k Hq R (i :: Ls) Fs ((d,v') :: E) (sf' ++ H₀)) : Pool L f ro ds cs n ops k Hq R Ls Fs E H := by
 have hat : ats[0]? = some t := by rw [← Array.getElem?_toList,hats];rfl
 have hat' : ats[1]? = some t' := by rw [← Array.getElem?_toList,hats];rfl
 refine Pool.weakH ?_ (Sub.of_perm hp) (hqs.trans (Sub.append_left _ _))
 have hrr : Rd (sf ++ H₀) a' ws := hr'.more (Sub.of_perm hp.symm)
 have hz' := Nat.eq_of_beq_eq_true hz
 have hby' := Nat.le_of_ble_eq_true hby
 have hb0' : by_ ≠ 0 := fun e => by subst e;cases hb0
 have hq' : ∀ sf',Sub Hq (sf' ++ H₀) := fun sf' => hqs.trans (Sub.append_left _ _)
 cases hs with
 | nil =>
  refine Pool.lo i ho hdst hw hsel hd hdn honly hlt hr hfl hc (l_appG (vs := []) hop has hat hat' hx hy (.inl rfl) (by simp) hrr hl' (by omega) hsm hby' hb0') ?_
  rintro _ _ ⟨r,c,rs,rfl,hge,hrl,rfl⟩
  exact ⟨(hqs.drop _),h _ _ (.own r c (0 + q) ([] ++ ws) rs (by simpa using hl') (by rw [List.length_append,hrl,hz'];simp only [List.nil_append,hl',Nat.zero_add] at hge ⊢;rw [← Nat.add_mul];congr 1;omega) (by omega))⟩
 | own b cap _ _ rs hl hc' hm =>
  by_cases hroom : m + q ≤ cap
  ·refine Pool.lo i ho hdst hw hsel hd hdn honly hlt hr hfl hc (l_appI 0 hop has hat hat' hx hy rfl hl hc' hrr hl' h1c hroom rfl) ?_
   rintro _ _ ⟨rfl,rfl⟩
   refine ⟨hqs.drop _,h _ _ (.own b cap (m + q) (vs ++ ws) (rs.drop (q * sz)) (by rw [List.length_append,hl,hl',Nat.add_mul]) ?_ hroom)⟩
   have hle : (m + q) * sz ≤ cap * sz := Nat.mul_le_mul_right _ hroom
   rw [Nat.add_mul] at hle
   rw [List.length_append] at hc'
   simp only [List.length_append,List.length_drop,hl']
   omega
  ·refine Pool.lo i ho hdst hw hsel hd hdn honly hlt hr hfl hc (l_appG (vs := vs) hop has hat hat' hx hy (.inr ⟨b,0,rfl,cells_own (List.mem_cons_self ..) (by simp)⟩) hl hrr hl' (by omega) hsm hby' hb0') ?_
   rintro _ _ ⟨r,c,rs',rfl,hge,hrl,rfl⟩
   refine ⟨(hqs.drop _).drop _,Pool.weakH (h _ _ (.own r c (m + q) (vs ++ ws) rs' (by rw [List.length_append,hl,hl',Nat.add_mul]) ?_ hge)) (Sub.cons _ (Sub.tail _ _)) (hqs.drop _)⟩
   rw [List.length_append,hrl,hz',List.length_append,hl,hl',← Nat.add_mul,← Nat.add_mul]
   congr 1
   omega
theorem Pool.push {α : Type} {c : α → List Value} {sz : Nat} [he : Enc c sz] {x : α} {xs : List α} (i j q : Nat) {o : Oper} {d : Nat} {sf H₀ lit : Facts} {az : Array Operand} {ats : Array TypeId} {y z' : Operand} {t t' e e' T' : TypeId} {ag ag' : Bool} {sz₁ by_ sz' by_' b' cap' : Nat} {z z₂ l : List Value} {v : Value} {fr : Nat × Nat} [hel : ElI P t e ag sz₁ by_ z] [hel' : ElI P t' e' ag' sz' by_' z₂]
  (ho : ops[i]? = some o) (hdst : dstOk o.dst n = true) (hop : o.op = .call { callee := .builtin .append,args := az,argTypes := ats }) (hw : wantE ops o E = some true) (hsel : noSel o = true) (hd : o.dst = some d) (hdn : downOk ops = true) (honly : onlyIn R Ls Fs ops [i] = true)
  (hlt : Nat.blt i ops.size = true) (hr : regd R Ls i = false) (hfl : flod Fs i = false) (hc : checkReg R Ls Fs ops i o = true) (has : az.toList = [y,z']) (hats : ats.toList = [t,t'])
  (hx : ev E y = some v) (hy : ev E z' = some (.slice (some ⟨b',0,none⟩) 1 cap')) (hsz : sz₁ = sz) (hsz' : sz' = sz) (hz : Nat.beq z.length sz = true) (hby : Nat.ble by_ 1000 = true) (hb0 : Nat.beq by_ 0 = false)
  (hs : Sl c e v xs sf) (hH : splitF q H = some (lit,sf ++ H₀)) (hf : nthF lit j = some (.own b' (.cells (List.toArray l) T' fr))) (hl : l = c x) (hqs : Sub Hq (lit ++ H₀)) (hsm : xs.length < 100000)
  (h : ∀ v' sf',Sl c e v' (xs ++ [x]) sf' → Pool L f ro ds cs n ops k Hq R (i :: Ls) Fs ((d,v') :: E) (joinF lit (sf' ++ H₀))) : Pool L f ro ds cs n ops k Hq R Ls Fs E H := by
 subst hl
 subst hsz
 subst hsz'
 have eH := splitF_eq hH
 have hrd : Rd H (some ⟨b',0,none⟩) (c x) := by
  rw [eH]
  exact (rd_own j hf rfl).more (Sub.appR _ (Sub.refl _))
 refine Pool.app i (H₀ := lit ++ H₀) ho hdst hop hw hsel hd hdn honly hlt hr hfl hc has hats hx hy hz hby hb0 hs ?_ hrd (by rw [he.len];simp) (he.one x) (by omega) (by omega) hqs fun v' sf' hs' => ?_
 ·rw [eH,← List.append_assoc,← List.append_assoc]
  exact List.perm_append_comm.append_right _
 ·refine Pool.weakH (h v' sf' ?_) (Sub.of_perm ?_) ?_
  ·unfold Sl
   simpa using hs'
  ·rw [joinF_eq,← List.append_assoc,← List.append_assoc]
   exact List.perm_append_comm.append_right _
  ·rw [joinF_eq]
   exact hqs.trans (Sub.appL _ (Sub.append_left _ _))
theorem Pool.fl (i : Nat) {o : Oper} {d : Nat} {t : TypeId} {sz : Nat} {ag : Bool} {z : List Value} (ho : ops[i]? = some o) (hop : o.op = .alloc t) (hd : o.dst = some d) (hn : Nat.blt d n = true) (hr0 : readsOf ops o = []) (hw : wantE ops o [] = some true) (hsel : noSel o = true) (he : look E d = none) (hc : checkReg R Ls Fs ops i o = true)
  (hr : R.all (fun q => !(readsOf ops q.o).contains d) = true) [ht : TyI P t ag sz z]
  (h : Pool L f ro ds cs n ops k Hq R Ls (⟨i,o,fun r => .pointer (some ⟨r,0,none⟩),.cells (List.toArray z) t (0,0)⟩ :: Fs) E H) : Pool L f ro ds cs n ops k Hq R Ls Fs E H := by
 obtain ⟨zv,by_,e1,e2⟩ := ht.h
 refine pool_flo (flo_l ho ⟨d,hd,hn⟩ hr0 hw hsel ?_) hd he hc hr h
 have := l_alloc (P := P) (E := []) (H := Hq) hop e1
 rw [cellsV_eq e2] at this
 exact this
end
end Go.Gx
end
section
namespace Go.Gx
open Go Go.Conc
def locBlk : Loc → Option Nat
 | .cell a => some a.block
 | .obj r => some r
 | _ => none
def KB (t : Trace) (g b : Nat) : Prop := ∀ k a,touchAt t k = some a → locBlk a.loc = some b → Knows t g k
def KW (t : Trace) (g b : Nat) : Prop := ∀ k a,touchAt t k = some a → locBlk a.loc = some b → a.write = true → Knows t g k
def KF (t : Trace) (g : Nat) : Fact → Prop
 | .own r _ => KB t g r
 | .seg b _ _ => KW t g b
theorem KB.kw {t : Trace} {g b : Nat} (h : KB t g b) : KW t g b := fun k a h1 h2 _ => h k a h1 h2
theorem KF.kw {t : Trace} {g : Nat} {f : Fact} (h : KF t g f) : KW t g f.block := by
 cases f with
 | own r o => exact KB.kw h
 | seg b off vs => exact h
theorem KF.kb {t : Trace} {g : Nat} {f : Fact} (h : KF t g f) (ho : f.isOwn = true) : KB t g f.block := by
 cases f with
 | own r o => exact h
 | seg b off vs => cases ho
theorem KF.of_kb {t : Trace} {g : Nat} {f : Fact} (h : KB t g f.block) : KF t g f := by
 cases f with
 | own r o => exact h
 | seg b off vs => exact KB.kw h
theorem KF.of_kw {t : Trace} {g : Nat} {f : Fact} (h : KW t g f.block) (ho : f.isOwn = false) : KF t g f := by
 cases f with
 | own r o => cases ho
 | seg b off vs => exact h
def WL (t : Trace) : Prop := ∀ op ∈ t,∀ m,op.act = .mark m → Neut m
theorem WL.append {t u : Trace} (ht : WL t) (hu : WL u) : WL (t ++ u) := by
 intro op hop
 rcases Array.mem_append.1 hop with h | h
 ·exact ht op h
 ·exact hu op h
theorem WL.deaf {t : Trace} (h : WL t) (g : Nat) : ∀ i,t.deaf g i = 0 := by
 intro i
 induction i with
 | zero => rfl
 | succ i ih =>
  unfold Trace.deaf
  split
  ·rename_i hh _ _ heq
   rcases h _ (mem_of_getElem? heq) .disable rfl with e | ⟨_,e⟩ <;> cases e
  ·rename_i hh _ _ heq
   rcases h _ (mem_of_getElem? heq) .enable rfl with e | ⟨_,e⟩ <;> cases e
  ·exact ih
theorem WL.heard {t : Trace} (h : WL t) {i : Nat} {op : MemOp} (hi : t[i]? = some op) : t.heard i := ⟨op.g,by simp [Trace.g?,hi],h.deaf _ _⟩
inductive OpOk (H : Facts) (n m g : Nat) (op : MemOp) : Prop where
 | mark (hg : op.g = g) (m' : Mark) (hn : Neut m') (h : op.act = .mark m')
 | touch (hg : op.g = g) (b : Touch) (r : Nat) (hb : op.act.touch? = some b) (hr : locBlk b.loc = some r) (hk : b.kind = .plain) (hm : ∀ x,op.act ≠ .mark x) (hl : ∀ B,r < B → op.act.low B)
   (h : (b.write = false ∧ ((∃ f ∈ H,f.block = r) ∨ (n ≤ r ∧ r < m))) ∨ (b.write = true ∧ ((∃ f ∈ H,f.isOwn = true ∧ f.block = r) ∨ (n ≤ r ∧ r < m))))
theorem opOk_events {H : Facts} {n m g : Nat} {fn : FuncId} {pos : String} {es : Array Event} (h : ∀ e ∈ es,EvOk H n m e) : ∀ op ∈ MemOp.ofEvents g fn pos es,OpOk H n m g op := by
 intro op hop
 obtain ⟨e,he,rfl⟩ := Go.Conc.mem_ofEvents hop
 have hv := h e he
 obtain ⟨loc,wr,sy⟩ := e
 cases loc with
 | cell a =>
  cases sy with
  | true => cases wr <;> exact hv.elim
  | false =>
   cases wr with
   | false => exact .touch rfl _ a.block Z Z Z (by intro x h;cases h) (fun B hB => hB) (.inl ⟨rfl,hv⟩)
   | true => exact .touch rfl _ a.block Z Z Z (by intro x h;cases h) (fun B hB => hB) (.inr ⟨rfl,hv⟩)
 | obj r =>
  cases sy with
  | true => cases wr <;> exact hv.elim
  | false =>
   cases wr with
   | false => exact .touch rfl _ r Z Z Z (by intro x h;cases h) (fun B hB => hB) (.inl ⟨rfl,hv⟩)
   | true => exact .touch rfl _ r Z Z Z (by intro x h;cases h) (fun B hB => hB) (.inr ⟨rfl,hv⟩)
 | output => cases wr <;> cases sy <;> exact hv.elim
 | goroutines => cases wr <;> cases sy <;> exact hv.elim
 | mark mm =>
  cases mm with
  | noRoom => exact .mark rfl _ (.inl rfl) (by cases wr <;> cases sy <;> rfl)
  | extern f => exact .mark rfl _ (.inr ⟨f,rfl⟩) (by cases wr <;> cases sy <;> rfl)
  | _ => exact hv.elim
section
variable {t u : Trace} {H : Facts} {n m g : Nat}
theorem OpOk.who {op : MemOp} (h : OpOk H n m g op) : op.g = g := by cases h <;> assumption
theorem low_none (low : ∀ op ∈ t,op.act.low n) {k : Nat} {a : Touch} (ha : touchAt t k = some a) {b : Nat} (hb : locBlk a.loc = some b) : b < n := by
 obtain ⟨x,hx,hxa⟩ := touch_of ha
 have hl := low x (mem_of_getElem? hx)
 obtain ⟨loc,w,kd⟩ := a
 cases hact : x.act with
 | access e =>
  rw [hact] at hl hxa
  simp only [MemAct.touch?,Option.some.injEq,Touch.mk.injEq] at hxa
  obtain ⟨rfl,_,_⟩ := hxa
  obtain ⟨l,_,_⟩ := e
  cases l <;> simp only [locBlk,Option.some.injEq,reduceCtorEq] at hb
  ·subst hb;exact hl
  ·subst hb;exact hl
 | mark mm =>
  rw [hact] at hl hxa
  cases mm <;> simp only [MemAct.touch?,Option.some.injEq,Touch.mk.injEq,reduceCtorEq] at hxa
  ·obtain ⟨rfl,_,_⟩ := hxa
   simp only [locBlk,Option.some.injEq] at hb
   subst hb;exact hl
  ·obtain ⟨rfl,_,_⟩ := hxa
   simp only [locBlk,Option.some.injEq] at hb
   subst hb;exact hl
 | _ => rw [hact] at hxa;cases hxa
theorem own_noRace {said : Bool} (h : ¬ Race said t) (low : ∀ op ∈ t,op.act.low n) (hK : ∀ f ∈ H,KF t g f) (hu : ∀ op ∈ u,OpOk H n m g op) : ¬ Race said (t ++ u) := by
 refine noRace_append h (fun op hop => (hu op hop).who) fun i a ha op hop b hb hc => ?_
 cases hu op hop with
 | mark _ _ hn hm => rw [hm] at hb;rcases hn with rfl | ⟨_,rfl⟩ <;> cases hb
 | touch _ b' r hb' hr _ _ _ hcase =>
  rw [hb] at hb'
  cases hb'
  have har : locBlk a.loc = some r := by rw [hc.1];exact hr
  have hlt := low_none low ha har
  rcases hcase with ⟨hw,h'⟩ | ⟨hw,h'⟩
  ·rcases h' with ⟨f,hf,rfl⟩ | hge
   ·exact (hK f hf).kw i a ha har (by simpa [hw] using hc.2.2.1)
   ·omega
  ·rcases h' with ⟨f,hf,ho,rfl⟩ | hge
   ·exact (hK f hf).kb ho i a ha har
   ·omega
theorem own_low {n' : Nat} (hn : n ≤ n') (low : ∀ op ∈ t,op.act.low n) (hH : ∀ f ∈ H,f.block < n') (hu : ∀ op ∈ u,OpOk H n n' g op) : ∀ op ∈ t ++ u,op.act.low n' := by
 refine seen_app (fun op hop => MemAct.low_mono hn (low op hop)) fun op hop => ?_
 cases hu op hop with
 | mark _ _ hn hm => rw [hm];rcases hn with rfl | ⟨_,rfl⟩ <;> trivial
 | touch _ b r _ _ _ _ hl hcase =>
  refine hl _ ?_
  rcases hcase with ⟨_,⟨f,hf,rfl⟩ | h⟩ | ⟨_,⟨f,hf,_,rfl⟩ | h⟩
  ·exact hH f hf
  ·exact h.2
  ·exact hH f hf
  ·exact h.2
theorem KB.own (h : KB t g n) (hu : ∀ op ∈ u,op.g = g) : KB (t ++ u) g n := by
 intro k a ha hb
 obtain ⟨x,hx,hxa⟩ := touch_of ha
 rcases getElem?_append_cases hx with ⟨_,hx'⟩ | ⟨_,hxu⟩
 ·exact (h k a (by rw [touchAt_of hx'];exact hxa) hb).app u
 ·have := knows_own hx
  rwa [hu x hxu] at this
theorem KW.own (h : KW t g n) (hu : ∀ op ∈ u,op.g = g) : KW (t ++ u) g n := by
 intro k a ha hb hw
 obtain ⟨x,hx,hxa⟩ := touch_of ha
 rcases getElem?_append_cases hx with ⟨_,hx'⟩ | ⟨_,hxu⟩
 ·exact (h k a (by rw [touchAt_of hx'];exact hxa) hb hw).app u
 ·have := knows_own hx
  rwa [hu x hxu] at this
theorem KB.new {b : Nat} (low : ∀ op ∈ t,op.act.low n) (hb : n ≤ b) : KB t g b := fun k a ha h => by
 have := low_none low ha h
 omega
theorem KB.other {b : Nat} (h : KB t g b) (hu : ∀ op ∈ u,∀ x,op.act.touch? = some x → locBlk x.loc ≠ some b) : KB (t ++ u) g b := by
 intro k a ha hb
 obtain ⟨x,hx,hxa⟩ := touch_of ha
 rcases getElem?_append_cases hx with ⟨_,hx'⟩ | ⟨_,hxu⟩
 ·exact (h k a (by rw [touchAt_of hx'];exact hxa) hb).app u
 ·exact absurd hb (hu x hxu a hxa)
theorem KW.other {b : Nat} (h : KW t g b) (hu : ∀ op ∈ u,∀ x,op.act.touch? = some x → x.write = true → locBlk x.loc ≠ some b) : KW (t ++ u) g b := by
 intro k a ha hb hw
 obtain ⟨x,hx,hxa⟩ := touch_of ha
 rcases getElem?_append_cases hx with ⟨_,hx'⟩ | ⟨_,hxu⟩
 ·exact (h k a (by rw [touchAt_of hx'];exact hxa) hb hw).app u
 ·exact absurd hb (hu x hxu a hxa hw)
theorem KF.mute {g : Nat} {f : Fact} (h : KF t g f) (hu : ∀ op ∈ u,op.act.touch? = none) : KF (t ++ u) g f := by
 cases f with
 | own r o => exact KB.other h fun op hop x hx => by rw [hu op hop] at hx;cases hx
 | seg b off vs => exact KW.other h fun op hop x hx => by rw [hu op hop] at hx;cases hx
theorem KF.step_own {H' : Facts} (low : ∀ op ∈ t,op.act.low n) (hK : ∀ f ∈ H,KF t g f) (mine : ∀ f ∈ H',f.isOwn = true → (∃ f' ∈ H,f'.isOwn = true ∧ f'.block = f.block) ∨ n ≤ f.block)
  (seen : ∀ f ∈ H',(∃ f' ∈ H,f'.block = f.block) ∨ n ≤ f.block) (hu : ∀ op ∈ u,op.g = g) : ∀ f ∈ H',KF (t ++ u) g f := by
 intro f hf
 cases ho : f.isOwn with
 | true =>
  refine KF.of_kb (KB.own ?_ hu)
  rcases mine f hf ho with ⟨f',hf',ho',e⟩ | h
  ·rw [← e];exact (hK f' hf').kb ho'
  ·exact KB.new low h
 | false =>
  refine KF.of_kw (KW.own ?_ hu) ho
  rcases seen f hf with ⟨f',hf',e⟩ | h
  ·rw [← e];exact (hK f' hf').kw
  ·exact (KB.new low h).kw
theorem KF.step_other {g' : Nat} {f : Fact} (h : KF t g' f) (hlt : f.block < n) (hap : ∀ f' ∈ H,f.apart f') (hu : ∀ op ∈ u,OpOk H n m g op) : KF (t ++ u) g' f := by
 cases f with
 | own r o =>
  refine KB.other h fun op hop x hx e => ?_
  cases hu op hop with
  | mark _ _ hn hm => rw [hm] at hx;rcases hn with rfl | ⟨_,rfl⟩ <;> cases hx
  | touch _ b' r' hb' hr _ _ _ hcase =>
   rw [hx] at hb'
   cases hb'
   rw [e] at hr
   cases hr
   rcases hcase with ⟨_,⟨f,hf,hb⟩ | h⟩ | ⟨_,⟨f,hf,_,hb⟩ | h⟩
   ·exact hap f hf (.inl rfl) hb.symm
   ·have : r < n := hlt
    omega
   ·exact hap f hf (.inl rfl) hb.symm
   ·have : r < n := hlt
    omega
 | seg b off vs =>
  refine KW.other h fun op hop x hx hw e => ?_
  cases hu op hop with
  | mark _ _ hn hm => rw [hm] at hx;rcases hn with rfl | ⟨_,rfl⟩ <;> cases hx
  | touch _ b' r' hb' hr _ _ _ hcase =>
   rw [hx] at hb'
   cases hb'
   rw [e] at hr
   cases hr
   rcases hcase with ⟨hw',_⟩ | ⟨_,⟨f,hf,ho,hb⟩ | h⟩
   ·rw [hw] at hw';cases hw'
   ·exact hap f hf (.inr ho) hb.symm
   ·have : b < n := hlt
    omega
theorem opOk_wordless (hu : ∀ op ∈ u,OpOk H n m g op) : WL u := by
 intro op hop x hx
 cases hu op hop with
 | mark _ _ hn hm => rw [hm] at hx;cases hx;exact hn
 | touch _ _ _ _ _ _ hm => exact absurd hx (hm x)
end
abbrev Script := List (Nat × Value)
def Act (Γ : List Script) : Nat → Prop
 | 0 => True
 | j + 1 => ∃ s,Γ[j]? = some s ∧ s ≠ []
structure Fin (W₀ w : World) : Prop where
 os : w.os = W₀.os
 tape : w.tape = W₀.tape
 output : w.output = W₀.output
 size : W₀.heap.size ≤ w.heap.size
 keep : ∀ b,b < W₀.heap.size → w.heap[b]? = W₀.heap[b]?
structure Inv (W₀ : World) (chs : List Nat) (Γ : List Script) (F : Nat → Facts) (w : World) (t : Trace) : Prop where
 holds : ∀ i,Act Γ i → Holds (F i) w
 know : ∀ i,Act Γ i → ∀ f ∈ F i,KF t i f
 mine : ∀ i,Act Γ i → ∀ f ∈ F i,f.isOwn = true → W₀.heap.size ≤ f.block
 apart : ∀ i i',Act Γ i → Act Γ i' → i ≠ i' → ∀ f ∈ F i,∀ f' ∈ F i',f.apart f'
 chan : ∀ c ∈ chs,W₀.heap.size ≤ c ∧ ∃ s,w.heap[c]? = some (.chan 0 #[] false s s false)
 chanF : ∀ c ∈ chs,∀ i,Act Γ i → ∀ f ∈ F i,f.block ≠ c
 fin : Fin W₀ w
 clean : ∀ said,¬ Race said t
 low : ∀ op ∈ t,op.act.low w.heap.size
 wordless : WL t
 known : ∀ k a,touchAt t k = some a → Knows t 0 k ∨ ∃ i,0 < i ∧ Act Γ i ∧ t.g? k = some i
def updF (F : Nat → Facts) (i : Nat) (H : Facts) : Nat → Facts := fun j => if j = i then H else F j
theorem updF_same (F : Nat → Facts) (i : Nat) (H : Facts) : updF F i H i = H := if_pos rfl
theorem updF_ne {F : Nat → Facts} {i j : Nat} {H : Facts} (h : j ≠ i) : updF F i H j = F j := if_neg h
section
variable {W₀ : World} {chs : List Nat} {Γ : List Script} {F : Nat → Facts} {w w' : World} {t : Trace}
theorem holds_world {H : Facts} (h : Holds H w) (hk : ∀ f ∈ H,w'.heap[f.block]? = w.heap[f.block]?) : Holds H w' := by
 refine ⟨h.1,fun f hf => ?_⟩
 have hi := h.2 f hf
 have hb := hk f hf
 cases f with
 | own r o => exact hb.trans hi
 | seg b off vs =>
  refine ⟨?_,fun k v hv => ?_⟩
  ·have h1 : b < w.heap.size := hi.1
   have h2 : w.heap[b]? = some w.heap[b] := Array.getElem?_eq_getElem h1
   have h3 : w'.heap[b]? = some w.heap[b] := hb.trans h2
   exact (Array.getElem?_eq_some_iff.1 h3).1
  ·have := hi.2 k v hv
   have hb' : w'.heap[b]? = w.heap[b]? := hb
   simp only [World.cell?,hb'] at this ⊢
   exact this
theorem Inv.at (h : Inv W₀ chs Γ F w t) (d : Nat) : Inv W₀ chs Γ F (w.at d) t :=
 ⟨fun i hi => holds_world (h.holds i hi) fun _ _ => rfl,h.know,h.mine,h.apart,h.chan,h.chanF,⟨h.fin.os,h.fin.tape,h.fin.output,h.fin.size,h.fin.keep⟩,h.clean,h.low,h.wordless,h.known⟩
theorem known_app {u : Trace} {i : Nat} (h : ∀ k a,touchAt t k = some a → Knows t 0 k ∨ ∃ i,0 < i ∧ Act Γ i ∧ t.g? k = some i) (hi : Act Γ i) (hu : ∀ op ∈ u,op.g = i) :
  ∀ k a,touchAt (t ++ u) k = some a → Knows (t ++ u) 0 k ∨ ∃ i,0 < i ∧ Act Γ i ∧ (t ++ u).g? k = some i := by
 intro k a ha
 obtain ⟨x,hx,hxa⟩ := touch_of ha
 rcases getElem?_append_cases hx with ⟨hlt,hx'⟩ | ⟨_,hxu⟩
 ·rcases h k a (by rw [touchAt_of hx'];exact hxa) with h | ⟨j,h1,h2,h3⟩
  ·exact .inl (h.app u)
  ·exact .inr ⟨j,h1,h2,by rw [g?_old hlt];exact h3⟩
 ·have hg := hu x hxu
  rcases Nat.eq_zero_or_pos i with rfl | hpos
  ·have := knows_own hx
   rw [hg] at this
   exact .inl this
  ·exact .inr ⟨i,hpos,hi,by simp [Trace.g?,hx,hg]⟩
theorem Inv.own (h : Inv W₀ chs Γ F w t) {i : Nat} (hi : Act Γ i) {es : Array Event} {H' : Facts} (ht : Tr (F i) w es w' H') (fn : FuncId) (pos : String) :
  Inv W₀ chs Γ (updF F i H') w' (t ++ MemOp.ofEvents i fn pos es) := by
 have hu : ∀ op ∈ MemOp.ofEvents i fn pos es,OpOk (F i) w.heap.size w'.heap.size i op := opOk_events ht.evs
 have lt : ∀ j,Act Γ j → ∀ f ∈ F j,f.block < w.heap.size := fun j hj f hf => ((h.holds j hj).2 f hf).lt
 have hap : ∀ j,Act Γ j → j ≠ i → ∀ f ∈ F j,∀ f' ∈ H',f.apart f' := by
  intro j hj hne f hf f' hf' hor
  have hlt := lt j hj f hf
  rcases hor with ho | ho
  ·rcases ht.seen f' hf' with ⟨g,hg,e⟩ | hge
   ·rw [← e];exact h.apart j i hj hi hne f hf g hg (.inl ho)
   ·omega
  ·rcases ht.mine f' hf' ho with ⟨g,hg,hgo,e⟩ | hge
   ·rw [← e];exact h.apart j i hj hi hne f hf g hg (.inr hgo)
   ·omega
 have keepO : ∀ j,Act Γ j → j ≠ i → ∀ f ∈ F j,w'.heap[f.block]? = w.heap[f.block]? := fun j hj hne f hf =>
  ht.keep _ (lt j hj f hf) fun g hg ho e => h.apart j i hj hi hne f hf g hg (.inr ho) e.symm
 refine ⟨fun j hj => ?_,fun j hj f hf => ?_,fun j hj f hf ho => ?_,fun j j' hj hj' hne f hf f' hf' => ?_,fun c hc => ?_,fun c hc j hj f hf => ?_,?_,fun said => ?_,?_,h.wordless.append (opOk_wordless hu),known_app h.known hi fun op hop => (hu op hop).who⟩
 ·by_cases e : j = i
  ·subst e;rw [updF_same];exact ht.holds
  ·rw [updF_ne e];exact holds_world (h.holds j hj) (keepO j hj e)
 ·by_cases e : j = i
  ·subst e;rw [updF_same] at hf
   exact KF.step_own h.low (h.know j hj) ht.mine ht.seen (fun op hop => (hu op hop).who) f hf
  ·rw [updF_ne e] at hf
   exact KF.step_other (h.know j hj f hf) (lt j hj f hf) (fun f' hf' => h.apart j i hj hi e f hf f' hf') hu
 ·by_cases e : j = i
  ·subst e;rw [updF_same] at hf
   rcases ht.mine f hf ho with ⟨g,hg,hgo,e⟩ | hge
   ·rw [← e];exact h.mine j hj g hg hgo
   ·exact Nat.le_trans h.fin.size hge
  ·rw [updF_ne e] at hf;exact h.mine j hj f hf ho
 ·by_cases e : j = i
  ·subst e
   rw [updF_same] at hf
   rw [updF_ne (Ne.symm hne)] at hf'
   exact Fact.apart_symm (hap j' hj' (Ne.symm hne) f' hf' f hf)
  ·rw [updF_ne e] at hf
   by_cases e' : j' = i
   ·subst e';rw [updF_same] at hf';exact hap j hj e f hf f' hf'
   ·rw [updF_ne e'] at hf';exact h.apart j j' hj hj' hne f hf f' hf'
 ·obtain ⟨h1,s,h2⟩ := h.chan c hc
  refine ⟨h1,s,?_⟩
  rw [ht.keep c (Array.getElem?_eq_some_iff.1 h2).1 fun f hf _ => h.chanF c hc i hi f hf]
  exact h2
 ·have hlt : c < w.heap.size := by obtain ⟨_,s,h2⟩ := h.chan c hc;exact (Array.getElem?_eq_some_iff.1 h2).1
  by_cases e : j = i
  ·subst e;rw [updF_same] at hf
   rcases ht.seen f hf with ⟨g,hg,e⟩ | hge
   ·rw [← e];exact h.chanF c hc j hj g hg
   ·omega
  ·rw [updF_ne e] at hf;exact h.chanF c hc j hj f hf
 ·refine ⟨ht.os.trans h.fin.os,ht.tape.trans h.fin.tape,ht.output.trans h.fin.output,Nat.le_trans h.fin.size ht.size,fun b hb => ?_⟩
  rw [ht.keep b (Nat.lt_of_lt_of_le hb h.fin.size) fun f hf ho e => by have := h.mine i hi f hf ho;omega]
  exact h.fin.keep b hb
 ·exact own_noRace (h.clean said) h.low (h.know i hi) hu
 ·exact own_low ht.size h.low (fun f hf => Nat.lt_of_lt_of_le (lt i hi f hf) ht.size) hu
theorem Inv.weak (h : Inv W₀ chs Γ F w t) {i : Nat} (hi : Act Γ i) {H' : Facts} (hs : Sub H' (F i)) : Inv W₀ chs Γ (updF F i H') w t := by
 have hm : ∀ j,∀ f ∈ updF F i H' j,f ∈ F j := by
  intro j f hf
  by_cases e : j = i
  ·subst e;rw [updF_same] at hf;exact hs.mem hf
  ·rw [updF_ne e] at hf;exact hf
 refine ⟨fun j hj => ?_,fun j hj f hf => h.know j hj f (hm j f hf),fun j hj f hf => h.mine j hj f (hm j f hf),fun j j' hj hj' hne f hf f' hf' => h.apart j j' hj hj' hne f (hm j f hf) f' (hm j' f' hf'),h.chan,fun c hc j hj f hf => h.chanF c hc j hj f (hm j f hf),h.fin,h.clean,h.low,h.wordless,h.known⟩
 by_cases e : j = i
 ·subst e;rw [updF_same];exact hs.holds (h.holds j hj)
 ·rw [updF_ne e];exact h.holds j hj
end
end Go.Gx
end
section
namespace Go.Gx
open Go Go.Conc
section
variable {W₀ : World} {chs : List Nat} {Γ : List Script} {F : Nat → Facts} {w w' : World} {t : Trace}
theorem Inv.turn (h : Inv W₀ chs Γ F w t) {i : Nat} (hi : Act Γ i) {H' : Facts} (hh : Holds H' w) (hs : ∀ f ∈ H',∃ g ∈ F i,g.block = f.block ∧ (f.isOwn = true → g.isOwn = true)) : Inv W₀ chs Γ (updF F i H') w t := by
 have hm : ∀ j,∀ f ∈ updF F i H' j,∃ g ∈ F j,g.block = f.block ∧ (f.isOwn = true → g.isOwn = true) := by
  intro j f hf
  by_cases e : j = i
  ·subst e;rw [updF_same] at hf;exact hs f hf
  ·rw [updF_ne e] at hf;exact ⟨f,hf,rfl,id⟩
 refine ⟨fun j hj => ?_,fun j hj f hf => ?_,fun j hj f hf ho => ?_,fun j j' hj hj' hne f hf f' hf' hor => ?_,h.chan,fun c hc j hj f hf => ?_,h.fin,h.clean,h.low,h.wordless,h.known⟩
 ·by_cases e : j = i
  ·subst e;rw [updF_same];exact hh
  ·rw [updF_ne e];exact h.holds j hj
 ·obtain ⟨g,hg,e,ho⟩ := hm j f hf
  cases ho' : f.isOwn with
  | true => exact KF.of_kb (by rw [← e];exact (h.know j hj g hg).kb (ho ho'))
  | false => exact KF.of_kw (by rw [← e];exact (h.know j hj g hg).kw) ho'
 ·obtain ⟨g,hg,e,hgo⟩ := hm j f hf
  rw [← e];exact h.mine j hj g hg (hgo ho)
 ·obtain ⟨g,hg,e,hgo⟩ := hm j f hf
  obtain ⟨g',hg',e',hgo'⟩ := hm j' f' hf'
  rw [← e,← e']
  exact h.apart j j' hj hj' hne g hg g' hg' (hor.imp hgo hgo')
 ·obtain ⟨g,hg,e,hgo⟩ := hm j f hf
  rw [← e];exact h.chanF c hc j hj g hg
theorem holds_share {H : Facts} {b : Nat} {c : Array Value} {T : TypeId} {fr : Nat × Nat} (h : Holds (.own b (.cells c T fr) :: H) w) : Holds (.seg b 0 c.toList :: H) w := by
 have hb : w.heap[b]? = some (.cells c T fr) := h.2 _ (List.mem_cons_self ..)
 refine ⟨List.pairwise_cons.2 ⟨fun f hf _ => (List.pairwise_cons.1 h.1).1 f hf (.inl rfl),(List.pairwise_cons.1 h.1).2⟩,fun f hf => ?_⟩
 rcases List.mem_cons.1 hf with rfl | hf
 ·refine ⟨(Array.getElem?_eq_some_iff.1 hb).1,fun k v hv => ?_⟩
  simp only [World.cell?,hb,Nat.zero_add]
  simpa using hv
 ·exact h.2 f (List.mem_cons_of_mem _ hf)
theorem Inv.share (h : Inv W₀ chs Γ F w t) {i : Nat} (hi : Act Γ i) {H : Facts} {b : Nat} {c : Array Value} {T : TypeId} {fr : Nat × Nat} (hF : F i = .own b (.cells c T fr) :: H) : Inv W₀ chs Γ (updF F i (.seg b 0 c.toList :: H)) w t := by
 refine h.turn hi (holds_share (hF ▸ h.holds i hi)) fun f hf => ?_
 rw [hF]
 rcases List.mem_cons.1 hf with rfl | hf
 ·exact ⟨_,List.mem_cons_self ..,rfl,fun x => by cases x⟩
 ·exact ⟨f,List.mem_cons_of_mem _ hf,rfl,id⟩
theorem Inv.openC (h : Inv W₀ chs Γ F w t) {c s : Nat} {H : Facts} (hF : F 0 = .own c (.chan 0 #[] false s s false) :: H) : Inv W₀ (c :: chs) Γ (updF F 0 H) w t := by
 have hh : Holds (.own c (.chan 0 #[] false s s false) :: H) w := hF ▸ h.holds 0 trivial
 have hm : .own c (.chan 0 #[] false s s false) ∈ F 0 := by rw [hF];exact List.mem_cons_self ..
 have h' : Inv W₀ chs Γ (updF F 0 H) w t := h.weak (i := 0) trivial (by rw [hF];exact Sub.tail _ _)
 refine ⟨h'.holds,h'.know,h'.mine,h'.apart,fun c' hc' => ?_,fun c' hc' j hj f hf e => ?_,h.fin,h.clean,h.low,h.wordless,h.known⟩
 ·rcases List.mem_cons.1 hc' with rfl | hc'
  ·exact ⟨h.mine 0 trivial _ hm rfl,s,hh.2 _ (List.mem_cons_self ..)⟩
  ·exact h.chan c' hc'
 ·rcases List.mem_cons.1 hc' with rfl | hc'
  ·by_cases ej : j = 0
   ·subst ej
    rw [updF_same] at hf
    exact (List.pairwise_cons.1 hh.1).1 f hf (.inl rfl) e.symm
   ·rw [updF_ne ej] at hf
    exact h.apart j 0 hj trivial ej f hf _ hm (.inr rfl) e
  ·exact h'.chanF c' hc' j hj f hf e
theorem Inv.lessC (h : Inv W₀ chs Γ F w t) {chs' : List Nat} (hs : ∀ c ∈ chs',c ∈ chs) : Inv W₀ chs' Γ F w t :=
 ⟨h.holds,h.know,h.mine,h.apart,fun c hc => h.chan c (hs c hc),fun c hc => h.chanF c (hs c hc),h.fin,h.clean,h.low,h.wordless,h.known⟩
theorem pairwise_two {H : Facts} (h : H.Pairwise Fact.apart) {f g : Fact} (hf : f ∈ H) (hg : g ∈ H) (hne : f ≠ g) : f.apart g := by
 induction H with
 | nil => cases hf
 | cons x H ih =>
  obtain ⟨h1,h2⟩ := List.pairwise_cons.1 h
  rcases List.mem_cons.1 hf with e | hf'
  ·rcases List.mem_cons.1 hg with e' | hg'
   ·exact absurd (e.trans e'.symm) hne
   ·rw [e];exact h1 g hg'
  ·rcases List.mem_cons.1 hg with e' | hg'
   ·rw [e'];exact Fact.apart_symm (h1 f hf')
   ·exact ih h2 hf' hg'
theorem act_push {i : Nat} {s : Script} (h : Act (Γ ++ [s]) i) : Act Γ i ∨ i = Γ.length + 1 := by
 cases i with
 | zero => exact .inl trivial
 | succ j =>
  obtain ⟨s',hs',hne⟩ := h
  rcases Nat.lt_or_ge j Γ.length with hlt | hge
  ·rw [List.getElem?_append_left hlt] at hs'
   exact .inl ⟨s',hs',hne⟩
  ·rw [List.getElem?_append_right hge] at hs'
   have : j - Γ.length = 0 := by
    rcases Nat.eq_zero_or_pos (j - Γ.length) with h0 | h0
    ·exact h0
    ·rw [List.getElem?_eq_none (by simp;omega)] at hs';cases hs'
   exact .inr (by omega)
theorem act_old {i : Nat} {s : Script} (h : Act Γ i) : Act (Γ ++ [s]) i := by
 cases i with
 | zero => trivial
 | succ j =>
  obtain ⟨s',hs',hne⟩ := h
  exact ⟨s',by rw [List.getElem?_append_left (List.getElem?_eq_some_iff.1 hs').1];exact hs',hne⟩
theorem not_act_new : ¬ Act Γ (Γ.length + 1) := by
 rintro ⟨s,hs,_⟩
 rw [List.getElem?_eq_none (Nat.le_refl _)] at hs;cases hs
theorem Inv.fork (h : Inv W₀ chs Γ F w t) {s : Script} {Hc : Facts} (hc : ∀ f ∈ Hc,f ∈ F 0 ∧ f.isOwn = false) {x y : MemOp} (hx : x.g = 0 ∧ x.act = .go (Γ.length + 1)) (hy : y.g = Γ.length + 1 ∧ y.act = .start) :
  Inv W₀ chs (Γ ++ [s]) (updF F (Γ.length + 1) Hc) w (t ++ #[x,y]) := by
 have hnt : ∀ op ∈ #[x,y],op.act.touch? = none := by
  intro op hop
  simp only [List.mem_toArray,List.mem_cons,List.not_mem_nil,or_false] at hop
  rcases hop with rfl | rfl
  ·rw [hx.2];rfl
  ·rw [hy.2];rfl
 have hne : ∀ i,Act Γ i → i ≠ Γ.length + 1 := fun i hi e => not_act_new (e ▸ hi)
 have d0 : ∀ g,Deaf t g = 0 := fun g => h.wordless.deaf g _
 have kn : ∀ f ∈ Hc,KF (t ++ #[x,y]) (Γ.length + 1) f := by
  intro f hf
  obtain ⟨hf0,ho⟩ := hc f hf
  refine KF.of_kw (fun k a ha hb hw => ?_) ho
  obtain ⟨z,hz,hza⟩ := touch_of ha
  rcases getElem?_append_cases hz with ⟨_,hz'⟩ | ⟨_,hzu⟩
  ·exact ConcN.fork_knows hx hy (d0 0) (d0 _) ((h.know 0 trivial f hf0).kw k a (by rw [touchAt_of hz'];exact hza) hb hw)
  ·rw [hnt z hzu] at hza;cases hza
 refine ⟨fun i hi => ?_,fun i hi f hf => ?_,fun i hi f hf ho => ?_,fun i i' hi hi' hii f hf f' hf' => ?_,h.chan,fun c hcc i hi f hf => ?_,h.fin,fun said => ?_,?_,?_,?_⟩
 ·rcases act_push hi with hi | rfl
  ·rw [updF_ne (hne i hi)];exact h.holds i hi
  ·rw [updF_same]
   refine ⟨?_,fun f hf => (h.holds 0 trivial).2 f (hc f hf).1⟩
   refine List.Pairwise.imp_of_mem (R := fun _ _ => True) (fun {a b} ha hb _ => ?_) (List.pairwise_of_forall (fun _ _ => trivial))
   intro hor
   rcases hor with ho | ho
   ·rw [(hc a ha).2] at ho;cases ho
   ·rw [(hc b hb).2] at ho;cases ho
 ·rcases act_push hi with hi | rfl
  ·rw [updF_ne (hne i hi)] at hf;exact (h.know i hi f hf).mute hnt
  ·rw [updF_same] at hf;exact kn f hf
 ·rcases act_push hi with hi | rfl
  ·rw [updF_ne (hne i hi)] at hf;exact h.mine i hi f hf ho
  ·rw [updF_same] at hf;rw [(hc f hf).2] at ho;cases ho
 ·rcases act_push hi with hi | rfl
  ·rw [updF_ne (hne i hi)] at hf
   rcases act_push hi' with hi' | rfl
   ·rw [updF_ne (hne i' hi')] at hf';exact h.apart i i' hi hi' hii f hf f' hf'
   ·rw [updF_same] at hf'
    obtain ⟨hf0,hfo⟩ := hc f' hf'
    intro hor
    have ho : f.isOwn = true := hor.resolve_right (by rw [hfo];simp)
    by_cases e0 : i = 0
    ·subst e0
     exact pairwise_two (h.holds 0 trivial).1 hf hf0 (fun e => by rw [e,hfo] at ho;cases ho) (.inl ho)
    ·exact h.apart i 0 hi trivial e0 f hf f' hf0 (.inl ho)
  ·rw [updF_same] at hf
   rcases act_push hi' with hi' | rfl
   ·rw [updF_ne (hne i' hi')] at hf'
    obtain ⟨hf0,hfo⟩ := hc f hf
    intro hor
    have ho : f'.isOwn = true := hor.resolve_left (by rw [hfo];simp)
    by_cases e0 : i' = 0
    ·subst e0
     exact pairwise_two (h.holds 0 trivial).1 hf0 hf' (fun e => by rw [← e,hfo] at ho;cases ho) (.inr ho)
    ·exact h.apart 0 i' trivial hi' (Ne.symm e0) f hf0 f' hf' (.inr ho)
   ·exact absurd rfl hii
 ·rcases act_push hi with hi | rfl
  ·rw [updF_ne (hne i hi)] at hf;exact h.chanF c hcc i hi f hf
  ·rw [updF_same] at hf;exact h.chanF c hcc 0 trivial f (hc f hf).1
 ·have e : t ++ #[x,y] = (t ++ #[x]) ++ #[y] := by apply Array.ext';simp
  rw [e]
  refine noRace_append (g := Γ.length + 1) (noRace_append (g := 0) (h.clean said) (fun op hop => by simp at hop;rw [hop];exact hx.1) (fun i a _ op hop b hb _ => ?_))
   (fun op hop => by simp at hop;rw [hop];exact hy.1) (fun i a _ op hop b hb _ => ?_)
  ·rw [hnt op (by simp at hop ⊢;exact .inl hop)] at hb;cases hb
  ·rw [hnt op (by simp at hop ⊢;exact .inr hop)] at hb;cases hb
 ·refine seen_app h.low fun op hop => ?_
  simp only [List.mem_toArray,List.mem_cons,List.not_mem_nil,or_false] at hop
  rcases hop with rfl | rfl
  ·rw [hx.2];trivial
  ·rw [hy.2];trivial
 ·refine h.wordless.append fun op hop m hm => ?_
  simp only [List.mem_toArray,List.mem_cons,List.not_mem_nil,or_false] at hop
  rcases hop with rfl | rfl
  ·rw [hx.2] at hm;cases hm
  ·rw [hy.2] at hm;cases hm
 ·intro k a ha
  obtain ⟨z,hz,hza⟩ := touch_of ha
  rcases getElem?_append_cases hz with ⟨hlt,hz'⟩ | ⟨_,hzu⟩
  ·rcases h.known k a (by rw [touchAt_of hz'];exact hza) with h1 | ⟨i,h1,h2,h3⟩
   ·exact .inl (h1.app _)
   ·exact .inr ⟨i,h1,act_old h2,by rw [g?_old hlt];exact h3⟩
  ·rw [hnt z hzu] at hza;cases hza
theorem act_set {j i : Nat} {r : Script} (h : Act (Γ.set j r) i) {s : Script} (hs : Γ[j]? = some s) (hne : s ≠ []) : Act Γ i := by
 cases i with
 | zero => trivial
 | succ k =>
  obtain ⟨s',hs',hne'⟩ := h
  by_cases e : j = k
  ·subst e;exact ⟨s,hs,hne⟩
  ·rw [List.getElem?_set_ne e] at hs';exact ⟨s',hs',hne'⟩
theorem Inv.meet (h : Inv W₀ chs Γ F w t) {j c s : Nat} {v : Value} {rest : Script} (hj : Γ[j]? = some ((c,v) :: rest)) (hcc : c ∈ chs) (hs : w.heap[c]? = some (.chan 0 #[] false s s false)) (d : Nat)
  {a b e f : MemOp} (ha : a.g = j + 1 ∧ a.act = .send c s) (hb : b.g = 0 ∧ b.act = .recv c s 0) (he : e.g = j + 1 ∧ e.act = .sendDone c s) (hf : f.g = 0 ∧ f.act = .recvDone c s) :
  Inv W₀ chs (Γ.set j rest) F ((w.at d).setChan c 0 #[] false (s + 1) (s + 1) false) (t ++ #[a,b,e,f]) := by
 have hall : ∀ op ∈ #[a,b,e,f],op = a ∨ op = b ∨ op = e ∨ op = f := by
  intro op hop
  simpa using hop
 have hnt : ∀ op ∈ #[a,b,e,f],op.act.touch? = none := by
  intro op hop
  rcases hall op hop with rfl | rfl | rfl | rfl
  ·rw [ha.2];rfl
  ·rw [hb.2];rfl
  ·rw [he.2];rfl
  ·rw [hf.2];rfl
 have hwl : WL (t ++ #[a,b,e,f]) := h.wordless.append fun op hop m hm => by
  rcases hall op hop with rfl | rfl | rfl | rfl
  ·rw [ha.2] at hm;cases hm
  ·rw [hb.2] at hm;cases hm
  ·rw [he.2] at hm;cases hm
  ·rw [hf.2] at hm;cases hm
 have up : ∀ i,Act (Γ.set j rest) i → Act Γ i := fun i hi => act_set hi hj (by simp)
 have hclt : c < w.heap.size := (Array.getElem?_eq_some_iff.1 hs).1
 have other : ∀ b',b' ≠ c → ((w.at d).setChan c 0 #[] false (s + 1) (s + 1) false).heap[b']? = w.heap[b']? := fun b' hb' => by
  show (w.heap.setIfInBounds c _)[b']? = _
  rw [Array.getElem?_setIfInBounds_ne (Ne.symm hb')]
 have pa : (t ++ #[a,b,e,f])[t.size]? = some a := by rw [Array.getElem?_append_right (Nat.le_refl _)];simp
 have pf : (t ++ #[a,b,e,f])[t.size + 3]? = some f := by rw [Array.getElem?_append_right (by omega)];simp
 have edge : HappensBefore (t ++ #[a,b,e,f]) t.size (t.size + 3) := .single (.inr ⟨.handOver (c := c) (k := s) (by rw [act?_of pa,ha.2]) (by rw [act?_of pf,hf.2]),hwl.heard pa,hwl.heard pf⟩)
 refine ⟨fun i hi => ?_,fun i hi g hg => (h.know i (up i hi) g hg).mute hnt,fun i hi g hg ho => h.mine i (up i hi) g hg ho,fun i i' hi hi' hne g hg g' hg' => h.apart i i' (up i hi) (up i' hi') hne g hg g' hg',fun c' hc' => ?_,fun c' hc' i hi g hg => h.chanF c' hc' i (up i hi) g hg,?_,fun said => ?_,?_,hwl,?_⟩
 ·exact holds_world (h.holds i (up i hi)) fun g hg => other _ (h.chanF c hcc i (up i hi) g hg)
 ·obtain ⟨h1,s',h2⟩ := h.chan c' hc'
  refine ⟨h1,?_⟩
  by_cases ec : c' = c
  ·subst ec
   refine ⟨s + 1,?_⟩
   show (w.heap.setIfInBounds c' _)[c']? = _
   simp [hclt]
  ·exact ⟨s',by rw [other c' ec];exact h2⟩
 ·refine ⟨h.fin.os,h.fin.tape,h.fin.output,?_,fun b' hb' => ?_⟩
  ·show _ ≤ (w.heap.setIfInBounds c _).size
   simpa using h.fin.size
  ·rw [other b' (fun ec => by have := (h.chan c hcc).1;omega)]
   exact h.fin.keep b' hb'
 ·have e4 : t ++ #[a,b,e,f] = (((t ++ #[a]) ++ #[b]) ++ #[e]) ++ #[f] := by apply Array.ext';simp
  rw [e4]
  have one : ∀ {t' : Trace} {op : MemOp},op ∈ #[a,b,e,f] → ¬ Race said t' → ¬ Race said (t' ++ #[op]) := by
   intro t' op hop hr
   refine noRace_append (g := op.g) hr (fun o ho => by simp at ho;rw [ho]) fun i z _ o ho b' hb' _ => ?_
   simp at ho
   subst ho
   rw [hnt o hop] at hb';cases hb'
  exact one (by simp) (one (by simp) (one (by simp) (one (by simp) (h.clean said))))
 ·refine seen_app (fun op hop => ?_) fun op hop => ?_
  ·have : w.heap.size = ((w.at d).setChan c 0 #[] false (s + 1) (s + 1) false).heap.size := by
    show _ = (w.heap.setIfInBounds c _).size
    simp
   rw [← this];exact h.low op hop
  ·have hc' : c < ((w.at d).setChan c 0 #[] false (s + 1) (s + 1) false).heap.size := by
    show _ < (w.heap.setIfInBounds c _).size
    simpa using hclt
   rcases hall op hop with rfl | rfl | rfl | rfl
   ·rw [ha.2];exact hc'
   ·rw [hb.2];exact hc'
   ·rw [he.2];exact hc'
   ·rw [hf.2];exact hc'
 ·intro k z hz
  obtain ⟨x,hx,hxa⟩ := touch_of hz
  rcases getElem?_append_cases hx with ⟨hlt,hx'⟩ | ⟨_,hxu⟩
  ·rcases h.known k z (by rw [touchAt_of hx'];exact hxa) with h1 | ⟨i,h1,h2,h3⟩
   ·exact .inl (h1.app _)
   ·by_cases ei : i = j + 1
    ·subst ei
     have hxg : x.g = j + 1 := by simpa [Trace.g?,hx'] using h3
     have h4 : HappensBefore (t ++ #[a,b,e,f]) k t.size := hb_po hlt hx pa (by rw [hxg,ha.1])
     exact .inl ⟨t.size + 3,f,pf,hf.1,.inr (h4.trans edge)⟩
    ·refine .inr ⟨i,h1,?_,by rw [g?_old hlt];exact h3⟩
     cases i with
     | zero => trivial
     | succ k' =>
      obtain ⟨s',hs',hne'⟩ := h2
      exact ⟨s',by rw [List.getElem?_set_ne (by omega)];exact hs',hne'⟩
  ·rw [hnt x hxu] at hxa;cases hxa
theorem Inv.over (h : Inv W₀ chs Γ F w t) (hΓ : ∀ s ∈ Γ,s = []) : t.HandedOver := by
 intro i g hg hne hc
 obtain ⟨x,hx,_,_⟩ := hc
 have no : ∀ i,0 < i → ¬ Act Γ i := by
  intro i hi hact
  cases i with
  | zero => omega
  | succ j =>
   obtain ⟨s,hs,hne⟩ := hact
   exact hne (hΓ s (List.mem_of_getElem? hs))
 rcases h.known i x hx with ⟨q,z,h1,h2,h3⟩ | ⟨i',h1,h2,_⟩
 ·refine ⟨q,by simp [Trace.g?,h1,h2],?_⟩
  rcases h3 with rfl | h3
  ·exact absurd (by simpa [Trace.g?,h1,h2] using hg.symm) hne
  ·exact h3
 ·exact absurd h2 (no i' h1)
theorem Inv.begin {W : World} {H : Facts} (hH : Holds H W) (ho : ∀ f ∈ H,f.isOwn = false) : Inv W [] [] (fun _ => H) W #[] := by
 have a0 : ∀ i,Act [] i → i = 0 := by
  intro i hi
  cases i with
  | zero => rfl
  | succ j => obtain ⟨s,hs,_⟩ := hi;simp at hs
 have nt : ∀ k a,touchAt #[] k = some a → False := fun k a h => by simp [touchAt,Trace.act?] at h
 exact ⟨fun _ _ => hH,fun i _ f hf => KF.of_kw (fun k a ha => (nt k a ha).elim) (ho f hf),fun i _ f hf hf' => by (rw [ho f hf] at hf';cases hf'),
  fun i i' hi hi' hne => absurd ((a0 i hi).trans (a0 i' hi').symm) hne,fun c hc => (by cases hc),fun c hc => (by cases hc),⟨rfl,rfl,rfl,Nat.le_refl _,fun _ _ => rfl⟩,past_nil.clean,(by simp),(fun op hop => by simp at hop),fun k a ha => (nt k a ha).elim⟩
end
end Go.Gx
end
section
namespace Go.Gx
open Go Go.Conc
inductive Tree where
 | leaf : Tree
 | node (k : World → Tree) : Tree
def RunS (P : Program) : Tree → Goroutine → Facts → Script → Prop
  | .leaf, g, _, s => s = [] ∧ g.status = .finished
  | .node k, g, _, [] => g.status = .running ∧ ∃ g', (∀ W, stepG P false g W = .go g' W #[]) ∧ ∀ W, RunS P (k W) g' [] []
  | .node k, g, H, (c, v) :: rest => g.status = .running ∧
    ((∀ W, Holds H W → ∃ g' W' es H', stepG P false g W = .go g' W' es ∧ Tr H W es W' H' ∧ RunS P (k W) g' H' ((c, v) :: rest)) ∨
     ∃ z g₂, (∀ W, stepG P false g W = .comm g₂ #[scase c v z] true .send W #[]) ∧ ∀ W, RunS P (k W) (Conc.served g₂ undef) H rest)
section
variable {P : Program}
theorem RunS.status : ∀ {T : Tree} {g : Goroutine} {H : Facts} {s : Script},RunS P T g H s → g.status = .running ∨ g.status = .finished
 | .leaf,g,H,s,h => .inr h.2
 | .node k,g,H,[],h => .inl h.1
 | .node k,g,H,(c,v) :: rest,h => .inl h.1
theorem RunS.nil_any : ∀ {T : Tree} {g : Goroutine} {H H' : Facts},RunS P T g H [] → RunS P T g H' []
 | .leaf,g,H,H',h => h
 | .node k,g,H,H',h => h
theorem RunS.weak : ∀ {T : Tree} {g : Goroutine} {H H₂ : Facts} {s : Script},Sub H H₂ → RunS P T g H s → RunS P T g H₂ s := by
 intro T
 induction T with
 | leaf => exact fun _ h => h
 | node k ih =>
  intro g H H₂ s hs h
  cases s with
  | nil => exact h
  | cons p rest =>
   obtain ⟨c,v⟩ := p
   refine ⟨h.1,h.2.imp (fun h => ?_) (fun ⟨z,g₂,h1,h2⟩ => ⟨z,g₂,h1,fun W => ih W hs (h2 W)⟩)⟩
   intro W hW
   obtain ⟨g',W',es,H',h1,h2,h3⟩ := h W (hs.holds hW)
   obtain ⟨R,hR⟩ := hs
   exact ⟨g',W',es,H' ++ R,h1,(h2.frame (hW.perm hR.symm)).perm hR (.refl _),ih W ⟨R,.refl _⟩ h3⟩
theorem Tr.shared {b : Nat} {c : Array Value} {T : TypeId} {fr : Nat × Nat} {H H' : Facts} {W W' : World} {es : Array Event} (h : Tr (.seg b 0 c.toList :: H) W es W' H') : Tr (.own b (.cells c T fr) :: H) W es W' H' := by
 have up : ∀ f ∈ Fact.seg b 0 c.toList :: H,∃ g ∈ Fact.own b (.cells c T fr) :: H,g.block = f.block ∧ (f.isOwn = true → g.isOwn = true) := by
  intro f hf
  rcases List.mem_cons.1 hf with rfl | hf
  ·exact ⟨_,List.mem_cons_self ..,rfl,fun x => by cases x⟩
  ·exact ⟨f,List.mem_cons_of_mem _ hf,rfl,id⟩
 refine ⟨h.holds,h.os,h.tape,h.output,h.size,fun b' hb hno => h.keep b' hb fun f hf ho e => ?_,fun f hf ho => ?_,fun f hf => ?_,fun e he => ?_⟩
 ·obtain ⟨g,hg,e1,e2⟩ := up f hf
  exact hno g hg (e2 ho) (e1.trans e)
 ·rcases h.mine f hf ho with ⟨g,hg,hgo,e⟩ | hge
  ·obtain ⟨g',hg',e1,e2⟩ := up g hg
   exact .inl ⟨g',hg',e2 hgo,e1.trans e⟩
  ·exact .inr hge
 ·rcases h.seen f hf with ⟨g,hg,e⟩ | hge
  ·obtain ⟨g',hg',e1,_⟩ := up g hg
   exact .inl ⟨g',hg',e1.trans e⟩
  ·exact .inr hge
 ·have h' := h.evs e he
  have rd : ∀ r,((∃ f ∈ Fact.seg b 0 c.toList :: H,f.block = r) ∨ (W.heap.size ≤ r ∧ r < W'.heap.size)) → ((∃ f ∈ Fact.own b (.cells c T fr) :: H,f.block = r) ∨ (W.heap.size ≤ r ∧ r < W'.heap.size)) := by
   rintro r (⟨f,hf,hb⟩ | h)
   ·obtain ⟨g,hg,e1,_⟩ := up f hf
    exact .inl ⟨g,hg,e1.trans hb⟩
   ·exact .inr h
  have wt : ∀ r,((∃ f ∈ Fact.seg b 0 c.toList :: H,f.isOwn = true ∧ f.block = r) ∨ (W.heap.size ≤ r ∧ r < W'.heap.size)) → ((∃ f ∈ Fact.own b (.cells c T fr) :: H,f.isOwn = true ∧ f.block = r) ∨ (W.heap.size ≤ r ∧ r < W'.heap.size)) := by
   rintro r (⟨f,hf,ho,hb⟩ | h)
   ·obtain ⟨g,hg,e1,e2⟩ := up f hf
    exact .inl ⟨g,hg,e2 ho,e1.trans hb⟩
   ·exact .inr h
  obtain ⟨loc,wr,sy⟩ := e
  cases loc with
  | cell a => cases sy <;> cases wr <;> first | exact rd _ h' | exact wt _ h' | (simp [EvOk] at h')
  | obj r => cases sy <;> cases wr <;> first | exact rd _ h' | exact wt _ h' | (simp [EvOk] at h')
  | output => simp [EvOk] at h'
  | goroutines => simp [EvOk] at h'
  | mark m => cases m <;> first | trivial | (simp [EvOk] at h')
theorem RunS.share {b : Nat} {c : Array Value} {T' : TypeId} {fr : Nat × Nat} : ∀ {T : Tree} {g : Goroutine} {H : Facts} {s : Script},RunS P T g (.seg b 0 c.toList :: H) s → RunS P T g (.own b (.cells c T' fr) :: H) s := by
 intro T
 induction T with
 | leaf => exact fun h => h
 | node k ih =>
  intro g H s h
  cases s with
  | nil => exact h
  | cons p rest =>
   obtain ⟨c',v⟩ := p
   refine ⟨h.1,h.2.imp (fun h => ?_) (fun ⟨z,g₂,h1,h2⟩ => ⟨z,g₂,h1,fun W => ih W (h2 W)⟩)⟩
   intro W hW
   obtain ⟨g',W',es,H',h1,h2,h3⟩ := h W (holds_share hW)
   exact ⟨g',W',es,H',h1,h2.shared,h3⟩
def runLg (P : Program) (c : Nat) (v : Value) (rest : Script) : Lg P false where
 J g H := ∃ T,RunS P T g H ((c,v) :: rest)
 closed g H hr h := by
  classical
  have h' : ∀ W,∃ T : Tree,Holds H W → ∃ g' W' es H',stepG P false g W = .go g' W' es ∧ Tr H W es W' H' ∧ RunS P T g' H' ((c,v) :: rest) := fun W => by
   by_cases hW : Holds H W
   ·obtain ⟨g',W',es,H',h1,h2,T,h3⟩ := h W hW
    exact ⟨T,fun _ => ⟨g',W',es,H',h1,h2,h3⟩⟩
   ·exact ⟨.leaf,fun h => absurd h hW⟩
  exact ⟨.node fun W => (h' W).choose,hr,.inl fun W hW => (h' W).choose_spec hW⟩
 weak g H H₂ hs h := h.imp fun T hT => hT.weak hs
 share g b c' T' fr H h := h.imp fun T hT => hT.share
end
end Go.Gx
end
section
namespace Go.Gx
open Go Go.Conc
theorem choose_run (P : Program) (q : Question) (w : World) : ∃ a d,(choose q).run P w = .ok a (w.at d) ∧ ((q.forced = true ∧ a = 0) ∨ a = q.cut (w.tape w.drawn q)) := by
 show ∃ a d,(Sem.choose q Sem.pure).run P w = _ ∧ _
 by_cases hf : q.forced = true
 ·exact ⟨0,w.drawn,by simp only [Sem.run,hf,if_true];rfl,.inl ⟨hf,rfl⟩⟩
 ·exact ⟨_,w.drawn + 1,by simp only [Sem.run,if_neg hf];rfl,.inr rfl⟩
theorem choose_lt {P : Program} {n : Nat} {what : String} {w : World} (h : 0 < n) : ∃ a d,(choose (.extern what n)).run P w = .ok a (w.at d) ∧ a < n := by
 obtain ⟨a,d,h1,h2⟩ := choose_run P (.extern what n) w
 refine ⟨a,d,h1,?_⟩
 rcases h2 with ⟨_,rfl⟩ | rfl
 ·exact h
 ·simp only [Question.cut]
  rw [if_neg (by omega)]
  exact Nat.mod_lt _ h
theorem choose_lt' {P : Program} {n : Nat} {w : World} (h : 0 < n) : ∃ a d,(choose (.select n)).run P w = .ok a (w.at d) ∧ a < n := by
 obtain ⟨a,d,h1,h2⟩ := choose_run P (.select n) w
 refine ⟨a,d,h1,?_⟩
 rcases h2 with ⟨_,rfl⟩ | rfl
 ·exact h
 ·exact Nat.mod_lt _ h
theorem bind_run {α β : Type} (P : Program) (s : Sem α) (f : α → Sem β) (w : World) : (s >>= f).run P w = match s.run P w with | .ok a w' => (f a).run P w' | .halt h w' => .halt h w' := by
 show (s.bind f).run P w = _
 induction s generalizing w with
 | pure a => rfl
 | load m a k ih =>
  simp only [Sem.bind,Sem.run]
  split
  ·exact ih _ _
  ·split
   ·exact ih _ _
   ·rfl
 | store m a v k ih =>
  cases v <;> simp only [Sem.bind,Sem.run] <;> first | rfl | (split <;> first | (split <;> first | rfl | exact ih _) | skip) 
  all_goals (first | rfl | exact ih _ | (split <;> first | exact ih _ | rfl))
 | new o k ih => exact ih _ _
 | shape r k ih => exact ih _ _
 | freeze a n k ih => exact ih _
 | frozen a k ih => exact ih _ _
 | getObj r k ih =>
  simp only [Sem.bind,Sem.run]
  split <;> first | rfl | exact ih _ _
 | setObj r o k ih =>
  simp only [Sem.bind,Sem.run]
  split <;> first | rfl | exact ih _
 | choose q k ih =>
  simp only [Sem.bind,Sem.run]
  split <;> exact ih _ _
 | sys c k ih => exact ih _ _
 | program k ih => exact ih _ _
 | mark m k ih => exact ih _
 | halt h => rfl
theorem pick_run (P : Program) (ready : List (Nat × CommCase × List Way)) (hne : ready ≠ []) (hw : ∀ x ∈ ready, x.2.2 ≠ []) (w : World) :
    ∃ k c ws way d, (k, c, ws) ∈ ready ∧ way ∈ ws ∧
      (do let a ← choose (.select ready.length)
          let (k, c, ws) := ready.getD a (0, default, [])
          let b ← choose (.extern "which waiting goroutine is the partner" ws.length)
          pure (k, c, ws.getD b .closed) : Sem (Nat × CommCase × Way)).run P w = .ok (k, c, way) (w.at d) := by
  obtain ⟨a, d, h1, h2⟩ := choose_lt' (P := P) (w := w) (List.length_pos_iff.2 hne)
  obtain ⟨⟨k, c, ws⟩, hx⟩ : ∃ x, ready[a]? = some x := ⟨ready[a], List.getElem?_eq_getElem h2⟩
  have hm : (k, c, ws) ∈ ready := List.mem_of_getElem? hx
  obtain ⟨b, d', h3, h4⟩ := choose_lt (P := P) (what := "which waiting goroutine is the partner") (w := w.at d) (List.length_pos_iff.2 (hw _ hm))
  refine ⟨k, c, ws, ws[b], d', hm, List.getElem_mem h4, ?_⟩
  rw [bind_run, h1]
  have e : ready.getD a (0, default, []) = (k, c, ws) := by rw [List.getD_eq_getElem?_getD, hx]; rfl
  simp only [e]
  rw [bind_run, h3]
  simp only
  have e2 : ws.getD b .closed = ws[b] := by rw [List.getD_eq_getElem?_getD, List.getElem?_eq_getElem h4]; rfl
  rw [e2]
  rfl
section
variable {P : Program} {gs : Array Goroutine} {w w₁ : World} {sl : Option (Nat × Nat)} {i : Nat} {g g₂ : Goroutine} {es : Array Event}
theorem cready_mem {cases : Array CommCase} {gs' : Array Goroutine} {k : Nat} {c : CommCase} {ws : List Way}
  (h : (k,c,ws) ∈ (cases.zipIdx.toList.map fun (c,k) => (k,c,ways w₁ gs' c)).filter fun (_,_,ws) => !ws.isEmpty) : cases[k]? = some c ∧ ws = ways w₁ gs' c ∧ ws ≠ [] := by
 rw [List.mem_filter] at h
 obtain ⟨h1,h2⟩ := h
 simp only [List.mem_map,Prod.mk.injEq,Prod.exists] at h1
 obtain ⟨c',k',hm,rfl,rfl,rfl⟩ := h1
 refine ⟨?_,rfl,?_⟩
 ·have := Array.mem_zipIdx_iff_getElem?.1 (Array.mem_toList_iff.1 hm)
  simpa using this
 ·intro e;rw [e] at h2;simp at h2
theorem cready_ne {cases : Array CommCase} {gs' : Array Goroutine} {k : Nat} {c : CommCase} (hk : cases[k]? = some c) (hw : ways w₁ gs' c ≠ []) :
  (cases.zipIdx.toList.map fun (c,k) => (k,c,ways w₁ gs' c)).filter (fun (_,_,ws) => !ws.isEmpty) ≠ [] := by
 intro e
 have hm : (k,c,ways w₁ gs' c) ∈ (cases.zipIdx.toList.map fun (c,k) => (k,c,ways w₁ gs' c)).filter (fun (_,_,ws) => !ws.isEmpty) := by
  rw [List.mem_filter]
  refine ⟨List.mem_map.2 ⟨(c,k),?_,rfl⟩,?_⟩
  ·exact Array.mem_toList_iff.2 (Array.mem_zipIdx_iff_getElem?.2 (by simpa using hk))
  ·cases hh : ways w₁ gs' c with
   | nil => exact absurd hh hw
   | cons x l => rfl
 rw [e] at hm;cases hm
theorem crowd_select_meets {cases : Array CommCase} {shape : CommShape} {blocking : Bool} (hi : gs[i]? = some g) (h : stepG P (i == 0) g w = .comm g₂ cases blocking shape w₁ es)
  (hcs : ∀ (k : Nat) (cc : CommCase),cases[k]? = some cc → ∃ c z s,cc = rcase c z ∧ w₁.heap[c]? = some (.chan 0 #[] false s s false))
  (hr : ∃ (k : Nat) (c : Nat) (z : Value),cases[k]? = some (rcase c z) ∧ partners (gs.setIfInBounds i ph) c true ≠ [])
  (hall : ∀ c j k,(j,k) ∈ partners (gs.setIfInBounds i ph) c true → k = 0 ∧ j ≠ i ∧ ∃ gj vj zj shj,gs[j]? = some (parked gj #[scase c vj zj] shj)) :
  ∃ (k c s : Nat) (z : Value) (j : Nat) (gj : Goroutine) (vj zj : Value) (shj : CommShape) (d : Nat),cases[k]? = some (rcase c z) ∧ w₁.heap[c]? = some (.chan 0 #[] false s s false) ∧ j ≠ i ∧ gs[j]? = some (parked gj #[scase c vj zj] shj) ∧
   runT P (crowd gs w sl) i = (.next (crowd ((gs.setIfInBounds j (gj.finishComm P #[scase c vj zj] shj 0 undef false)).setIfInBounds i (g₂.finishComm P cases shape k vj true)) ((w₁.at d).setChan c 0 #[] false (s + 1) (s + 1) false) sl),
    MemOp.ofEvents i g.frame.fn g.frame.place es ++ #[{ g := j,fn := gj.frame.fn,pos := gj.frame.place,act := .send c s },{ g := i,fn := g₂.frame.fn,pos := g₂.frame.place,act := .recv c s 0 },
     { g := j,fn := gj.frame.fn,pos := gj.frame.place,act := .sendDone c s },{ g := i,fn := g₂.frame.fn,pos := g₂.frame.place,act := .recvDone c s }]) := by
 obtain ⟨k₀,c₀,z₀,hk₀,hp₀⟩ := hr
 have hways : ∀ {c : Nat} {z : Value} {s : Nat},w₁.heap[c]? = some (.chan 0 #[] false s s false) → ways w₁ (gs.setIfInBounds i ph) (rcase c z) = (partners (gs.setIfInBounds i ph) c true).map fun (h,k) => Way.partner h k := by
  intro c z s hc
  simp only [ways,rcase,hc]
  cases hps : partners (gs.setIfInBounds i ph) c true with
  | nil => simp
  | cons p ps => simp
 have hne := cready_ne (w₁ := w₁) (gs' := gs.setIfInBounds i ph) hk₀ (by
  obtain ⟨c,z,s,e,hc⟩ := hcs k₀ _ hk₀
  have : c₀ = c := by simpa [rcase] using congrArg CommCase.chan e
  subst this
  rw [hways hc]
  intro e
  exact hp₀ (List.map_eq_nil_iff.1 e))
 obtain ⟨k,cc,ws,way,d,hm,hway,hpick⟩ := pick_run P _ hne (fun x hx => (cready_mem (k := x.1) (c := x.2.1) (ws := x.2.2) hx).2.2) w₁
 obtain ⟨hk,hws,_⟩ := cready_mem hm
 obtain ⟨c,z,s,rfl,hc⟩ := hcs k cc hk
 rw [hws,hways hc] at hway
 obtain ⟨⟨j,k'⟩,hjk,rfl⟩ := List.mem_map.1 hway
 obtain ⟨rfl,hij,gj,vj,zj,shj,hj⟩ := hall c j k' hjk
 refine ⟨k,c,s,z,j,gj,vj,zj,shj,d,hk,hc,hij,hj,?_⟩
 rw [runT_crowd_comm hi h]
 have hj' := stand_get (i := i) hij hj
 have hfp := finishPartner_at P (gs.setIfInBounds i ph) hj' (cs := #[scase c vj zj]) (sh := shj) rfl 0 undef
 have hgd : (gs.setIfInBounds i ph).getD j default = parked gj #[scase c vj zj] shj := by rw [Array.getD_eq_getD_getElem?,hj'];rfl
 have hov : offeredValue (gs.setIfInBounds i ph) j 0 = vj := by simp [offeredValue,hj',parked,scase]
 have hmade : cases.any (illMade w₁) = false := any_ill fun x hx => by
  obtain ⟨m,hlt,e⟩ := Array.mem_iff_getElem.1 hx
  obtain ⟨c',z',s',rfl,hc'⟩ := hcs m x (by rw [← e];exact Array.getElem?_eq_getElem hlt)
  exact made_recv z' hc'
 have hemp : ((cases.zipIdx.toList.map fun (c,k) => (k,c,ways w₁ (gs.setIfInBounds i ph) c)).filter fun (_,_,ws) => !ws.isEmpty).isEmpty = false := by
  cases hl : ((cases.zipIdx.toList.map fun (c,k) => (k,c,ways w₁ (gs.setIfInBounds i ph) c)).filter fun (_,_,ws) => !ws.isEmpty) with
  | nil => exact absurd hl hne
  | cons x l => rfl
 unfold communicate
 rw [if_neg (by rw [Bool.not_eq_true];exact hmade)]
 simp only [hemp,Bool.false_eq_true,if_false]
 rw [hpick]
 have hheap : (w₁.at d).heap[c]? = some (.chan 0 #[] false s s false) := hc
 simp only [rcase,hheap,hov,hfp,hgd,set_stand2,finishComm_parked,World.setChan,crowd]
 simp [scase,parked]
theorem crowd_send_meets_sel {cases : Array CommCase} {shape sh : CommShape} {blocking : Bool} {c s : Nat} {v z : Value} {gm : Goroutine} (hi : gs[i]? = some g) (h : stepG P (i == 0) g w = .comm g₂ #[scase c v z] blocking shape w₁ es)
  (hc : w₁.heap[c]? = some (.chan 0 #[] false s s false)) (hi0 : 0 ≠ i) (h0 : gs[0]? = some (parked gm cases sh))
  (hcs : ∀ (k : Nat) (cc : CommCase),cases[k]? = some cc → ∃ c z,cc = rcase c z)
  (hr : ∃ (k : Nat) (z : Value),cases[k]? = some (rcase c z))
  (hother : ∀ (j : Nat) (x : Goroutine),j ≠ 0 → gs[j]? = some x → offersAt x c false = []) :
  ∃ (k : Nat) (zk : Value) (d : Nat),cases[k]? = some (rcase c zk) ∧
   runT P (crowd gs w sl) i = (.next (crowd ((gs.setIfInBounds 0 (gm.finishComm P cases sh k v true)).setIfInBounds i (g₂.finishComm P #[scase c v z] shape 0 undef false)) ((w₁.at d).setChan c 0 #[] false (s + 1) (s + 1) false) sl),
    MemOp.ofEvents i g.frame.fn g.frame.place es ++ #[{ g := i,fn := g₂.frame.fn,pos := g₂.frame.place,act := .send c s },{ g := 0,fn := gm.frame.fn,pos := gm.frame.place,act := .recv c s 0 },
     { g := i,fn := g₂.frame.fn,pos := g₂.frame.place,act := .sendDone c s },{ g := 0,fn := gm.frame.fn,pos := gm.frame.place,act := .recvDone c s }]) := by
 have h0' := stand_get (i := i) hi0 h0
 have hmem : ∀ j k,(j,k) ∈ partners (gs.setIfInBounds i ph) c false → j = 0 ∧ ∃ zk,cases[k]? = some (rcase c zk) := by
  intro j k hjk
  obtain ⟨x,hx,hk⟩ := mem_partners.1 hjk
  rcases getElem?_stand gs i j x hx with ⟨rfl,rfl⟩ | ⟨hji,hx'⟩
  ·rw [offersAt_ph] at hk;cases hk
  ·by_cases hj0 : j = 0
   ·subst hj0
    refine ⟨rfl,?_⟩
    rw [h0] at hx'
    cases hx'
    simp only [offersAt,parked,List.mem_map,List.mem_filter,Prod.exists] at hk
    obtain ⟨cc,k',⟨hm,hcond⟩,rfl⟩ := hk
    have := Array.mem_zipIdx_iff_getElem?.1 (Array.mem_toList_iff.1 hm)
    have hk' : cases[k']? = some cc := by simpa using this
    obtain ⟨c',z',rfl⟩ := hcs k' cc hk'
    have : c' = c := by simpa [rcase] using hcond
    subst this
    exact ⟨z',hk'⟩
   ·rw [hother j x hj0 hx'] at hk;cases hk
 have hpne : partners (gs.setIfInBounds i ph) c false ≠ [] := by
  obtain ⟨k,zk,hk⟩ := hr
  intro e
  have : (0,k) ∈ partners (gs.setIfInBounds i ph) c false := mem_partners.2 ⟨_,h0',by
   simp only [offersAt,parked,List.mem_map,List.mem_filter,Prod.exists]
   exact ⟨rcase c zk,k,⟨Array.mem_toList_iff.2 (Array.mem_zipIdx_iff_getElem?.2 (by simpa using hk)),by simp [rcase]⟩,rfl⟩⟩
  rw [e] at this;cases this
 have hways : ways w₁ (gs.setIfInBounds i ph) (scase c v z) = (partners (gs.setIfInBounds i ph) c false).map fun (h,k) => Way.partner h k := by
  simp only [ways,scase,hc]
  cases hps : partners (gs.setIfInBounds i ph) c false with
  | nil => exact absurd hps hpne
  | cons p ps => simp
 have hne := cready_ne (w₁ := w₁) (gs' := gs.setIfInBounds i ph) (cases := #[scase c v z]) (k := 0) (c := scase c v z) rfl (by
  rw [hways]
  intro e
  exact hpne (List.map_eq_nil_iff.1 e))
 obtain ⟨k₁,cc,ws,way,d,hm,hway,hpick⟩ := pick_run P _ hne (fun x hx => (cready_mem (k := x.1) (c := x.2.1) (ws := x.2.2) hx).2.2) w₁
 obtain ⟨hk,hws,_⟩ := cready_mem hm
 have hcc : cc = scase c v z ∧ k₁ = 0 := by
  cases k₁ with
  | zero => exact ⟨by simpa using hk.symm,rfl⟩
  | succ n => simp at hk
 obtain ⟨rfl,rfl⟩ := hcc
 rw [hws,hways] at hway
 obtain ⟨⟨j,k⟩,hjk,rfl⟩ := List.mem_map.1 hway
 obtain ⟨rfl,zk,hk'⟩ := hmem j k hjk
 refine ⟨k,zk,d,hk',?_⟩
 rw [runT_crowd_comm hi h]
 have hfp := finishPartner_at P (gs.setIfInBounds i ph) h0' (cs := cases) (sh := sh) rfl k v
 have hgd : (gs.setIfInBounds i ph).getD 0 default = parked gm cases sh := by rw [Array.getD_eq_getD_getElem?,h0'];rfl
 have hmade : (#[scase c v z] : Array CommCase).any (illMade w₁) = false := any_ill fun x hx => by
  have : x = scase c v z := by simpa using hx
  subst this
  exact made_send v z hc
 have hemp : (((#[scase c v z] : Array CommCase).zipIdx.toList.map fun (c,k) => (k,c,ways w₁ (gs.setIfInBounds i ph) c)).filter fun (_,_,ws) => !ws.isEmpty).isEmpty = false := by
  cases hl : (((#[scase c v z] : Array CommCase).zipIdx.toList.map fun (c,k) => (k,c,ways w₁ (gs.setIfInBounds i ph) c)).filter fun (_,_,ws) => !ws.isEmpty) with
  | nil => exact absurd hl hne
  | cons x l => rfl
 unfold communicate
 rw [if_neg (by rw [Bool.not_eq_true];exact hmade)]
 simp only [hemp,Bool.false_eq_true,if_false]
 rw [hpick]
 have hheap : (w₁.at d).heap[c]? = some (.chan 0 #[] false s s false) := hc
 have hnone : ((cases[k]?).map (·.send.isNone)).getD false = true := by rw [hk'];rfl
 simp only [scase,hheap,hfp,hgd,hnone,set_stand2,finishComm_parked,World.setChan,crowd]
 simp [rcase,parked]
end
end Go.Gx
end
section
namespace Go.Gx
open Go Go.Conc
def Below (n : Nat) (T' T : Nat → Tree) : Prop := ∃ j k W,j < n ∧ T j = .node k ∧ T' j = k W ∧ ∀ i,i ≠ j → i < n → T' i = T i
theorem below_congr {n : Nat} {T S : Nat → Tree} (h : Acc (Below n) T) (e : ∀ i,i < n → S i = T i) : Acc (Below n) S :=
 .intro _ fun S' ⟨j,k,W,h1,h2,h3,h4⟩ => h.inv ⟨j,k,W,h1,by rw [← e j h1];exact h2,h3,fun i hi hin => by rw [h4 i hi hin,e i hin]⟩
theorem below_step {n : Nat} : ∀ (t : Tree) (T : Nat → Tree),T n = t → Acc (Below n) T → Acc (Below (n + 1)) T := by
 intro t
 induction t with
 | leaf =>
  intro T hT hA
  induction hA with
  | intro T _ ih =>
   refine .intro _ fun S ⟨j,k,W,h1,h2,h3,h4⟩ => ?_
   have hj : j ≠ n := fun e => by subst e;rw [hT] at h2;cases h2
   exact ih S ⟨j,k,W,by omega,h2,h3,fun i hi hin => h4 i hi (by omega)⟩ (by rw [h4 n (Ne.symm hj) (by omega)];exact hT)
 | node k₀ ih₀ =>
  intro T hT hA
  have hA' := hA
  induction hA with
  | intro T _ ih =>
   refine .intro _ fun S ⟨j,k,W,h1,h2,h3,h4⟩ => ?_
   by_cases hj : j = n
   ·subst hj
    rw [hT] at h2
    cases h2
    exact ih₀ W S h3 (below_congr hA' fun i hi => h4 i (by omega) (by omega))
   ·have hb : Below n S T := ⟨j,k,W,by omega,h2,h3,fun i hi hin => h4 i hi (by omega)⟩
    exact ih S hb (by rw [h4 n (fun e => hj e.symm) (by omega)];exact hT) (hA'.inv hb)
theorem below_acc : ∀ (n : Nat) (T : Nat → Tree),Acc (Below n) T
 | 0,T => .intro _ fun _ ⟨j,_,_,h,_⟩ => absurd h (by omega)
 | n + 1,T => below_step (T n) T rfl (below_acc n T)
def updT (T : Nat → Tree) (j : Nat) (t : Tree) : Nat → Tree := fun i => if i = j then t else T i
theorem updT_below {n : Nat} {T : Nat → Tree} {j : Nat} {k : World → Tree} (hj : j < n) (h : T j = .node k) (W : World) : Below n (updT T j (k W)) T :=
 ⟨j,k,W,hj,h,if_pos rfl,fun _ hi _ => if_neg hi⟩
def Ends (P : Program) (Post : Value → World → Prop) (m : Machine) (t : Trace) : Prop :=
 ∃ N last o w' t',runNT P (N + 1) m t = (.ended o w',t') ∧ runN P N m = .next last ∧ step P last = .ended o w' ∧ Good P Post last o w' t'
theorem Ends.next {P : Program} {Post : Value → World → Prop} {m m' : Machine} {t : Trace} {ops : Array MemOp} (hs : stepT P m = (.next m',ops)) (h : Ends P Post m' (t ++ ops)) : Ends P Post m t := by
 obtain ⟨n,last,o,w,t',h1,h2,h3,h4⟩ := h
 exact ⟨n + 1,last,o,w,t',by rw [runNT_succ_next hs];exact h1,by rw [runN_succ_next hs];exact h2,h3,h4⟩
theorem Ends.done {P : Program} {Post : Value → World → Prop} {m : Machine} {t : Trace} {ops : Array MemOp} {o : Outcome} {w : World} (hs : stepT P m = (.ended o w,ops)) (h : Good P Post m o w (t ++ ops)) : Ends P Post m t :=
 ⟨0,m,o,w,t ++ ops,by simp [runNT,hs],rfl,by simp [step,hs],h⟩
def WS (P : Program) (T : Tree) (g : Goroutine) (H : Facts) (s : Script) : Prop :=
 RunS P T g H s ∨ ∃ c v z rest g₂,s = (c,v) :: rest ∧ g = parked g₂ #[scase c v z] .send ∧ RunS P T (Conc.served g₂ undef) H rest
structure St (P : Program) (chs : List Nat) (Γ : List Script) (F : Nat → Facts) (T : Nat → Tree) (gs : Array Goroutine) : Prop where
 size : gs.size = Γ.length + 1
 wk : ∀ j s,Γ[j]? = some s → ∃ g,gs[j + 1]? = some g ∧ WS P (T j) g (F (j + 1)) s
 chans : ∀ s ∈ Γ,∀ p ∈ s,p.1 ∈ chs
def JJ (P : Program) (Post : Value → World → Prop) (W₀ : World) (chs : List Nat) (Γ : List Script) (g : Goroutine) (H : Facts) : Prop :=
 ∀ (Γ₀ : List Script),(∀ s ∈ Γ₀,s = []) → ∀ F T gs w sl t,F 0 = H → Inv W₀ chs (Γ₀ ++ Γ) F w t → St P chs (Γ₀ ++ Γ) F T gs → gs[0]? = some g → Ends P Post (crowd gs w sl) t
section
variable {P : Program} {Post : Value → World → Prop} {W₀ : World} {chs : List Nat} {Γ : List Script} {F : Nat → Facts} {T : Nat → Tree} {gs : Array Goroutine} {w : World} {t : Trace}
theorem WS.status {t : Tree} {g : Goroutine} {H : Facts} {s : Script} (h : WS P t g H s) : g.status = .running ∨ g.status = .finished ∨ g.status = .blocked := by
 rcases h with h | ⟨c,v,z,rest,g₂,_,rfl,_⟩
 ·exact h.status.imp id .inl
 ·exact .inr (.inr rfl)
theorem WS.woken {t : Tree} {g : Goroutine} {H : Facts} {s : Script} (h : WS P t g H s) {w' : World} (hc : ∀ p ∈ s,∃ n,w'.heap[p.1]? = some (.chan 0 #[] false n n false)) (a a' : Goroutine) : woken P a a' w' g = g := by
 rcases h with h | ⟨c,v,z,rest,g₂,rfl,rfl,_⟩
 ·unfold Conc.woken
  split
  ·exact again_running _ h.status
  ·rfl
 ·obtain ⟨n,hn⟩ := hc (c,v) (by simp)
  exact woken_send_open a a' hn
theorem WS.offers {t : Tree} {g : Goroutine} {H : Facts} {s : Script} (h : WS P t g H s) (r : Nat) : offersAt g r false = [] := by
 rcases h with h | ⟨c,v,z,rest,g₂,rfl,rfl,_⟩
 ·exact offersAt_of_not_blocked (by rcases h.status with h | h <;> rw [h] <;> simp) _ _
 ·exact offersAt_parked_send' ..
theorem RunS.offers {t : Tree} {g : Goroutine} {H : Facts} {s : Script} (h : RunS P t g H s) (r : Nat) (b : Bool) : offersAt g r b = [] :=
 offersAt_of_not_blocked (by rcases h.status with h | h <;> rw [h] <;> simp) _ _
theorem awake_ws {t : Tree} {g : Goroutine} {H : Facts} {s : Script} (h : WS P t g H s) : awake g := by
 intro x hx
 rcases h.status with h | h | h <;> rw [h] at hx <;> cases hx
theorem St.get (h : St P chs Γ F T gs) {j : Nat} {g : Goroutine} (hg : gs[j + 1]? = some g) : ∃ s,Γ[j]? = some s ∧ WS P (T j) g (F (j + 1)) s := by
 have hlt : j < Γ.length := by
  have := (Array.getElem?_eq_some_iff.1 hg).1
  rw [h.size] at this
  omega
 obtain ⟨g',hg',hw⟩ := h.wk j Γ[j] (List.getElem?_eq_getElem hlt)
 rw [hg] at hg'
 cases hg'
 exact ⟨_,List.getElem?_eq_getElem hlt,hw⟩
theorem open_of (hI : Inv W₀ chs Γ F w t) (hS : St P chs Γ F T gs) {j : Nat} {s : Script} (hj : Γ[j]? = some s) : ∀ p ∈ s,∃ n,w.heap[p.1]? = some (.chan 0 #[] false n n false) := fun p hp => by
 obtain ⟨_,n,h⟩ := hI.chan p.1 (hS.chans s (List.mem_of_getElem? hj) p hp)
 exact ⟨n,h⟩
theorem St.awake (h : St P chs Γ F T gs) {g0 : Goroutine} (h0 : gs[0]? = some g0) (ha : awake g0) : ∀ g ∈ gs,awake g := by
 intro g hg
 obtain ⟨i,hi,rfl⟩ := Array.mem_iff_getElem.1 hg
 cases i with
 | zero =>
  have : gs[0] = g0 := by simpa [Array.getElem?_eq_getElem hi] using h0
  rw [this];exact ha
 | succ j =>
  obtain ⟨s,_,hw⟩ := h.get (Array.getElem?_eq_getElem hi)
  exact awake_ws hw
theorem St.main {w' : World} {t' : Trace} {F' : Nat → Facts} (h : St P chs Γ F T gs) (hI : Inv W₀ chs Γ F' w' t') {H' : Facts} {g' a a' : Goroutine} : St P chs Γ (updF F 0 H') T ((gs.map (woken P a a' w')).setIfInBounds 0 g') := by
 refine ⟨by simpa using h.size,fun j s hj => ?_,h.chans⟩
 obtain ⟨g,hg,hw⟩ := h.wk j s hj
 refine ⟨g,?_,by rw [updF_ne (Nat.succ_ne_zero j)];exact hw⟩
 rw [Array.getElem?_setIfInBounds_ne (by omega),Array.getElem?_map,hg]
 have hop : ∀ p ∈ s,∃ n,w'.heap[p.1]? = some (.chan 0 #[] false n n false) := fun p hp => by
  obtain ⟨_,n,h⟩ := hI.chan p.1 (h.chans s (List.mem_of_getElem? hj) p hp)
  exact ⟨n,h⟩
 simp [hw.woken hop]
theorem St.worker {w' : World} {t' : Trace} {F' : Nat → Facts} (h : St P chs Γ F T gs) (hI : Inv W₀ chs Γ F' w' t') {j : Nat} {s : Script} (hj : Γ[j]? = some s) {H' : Facts} {tr : Tree} {g' a a' : Goroutine} (hw : WS P tr g' H' s) :
  St P chs Γ (updF F (j + 1) H') (updT T j tr) ((gs.map (woken P a a' w')).setIfInBounds (j + 1) g') := by
 refine ⟨by simpa using h.size,fun i si hi => ?_,h.chans⟩
 obtain ⟨g,hg,hwi⟩ := h.wk i si hi
 by_cases e : i = j
 ·subst e
  have e2 : si = s := by rw [hj] at hi;exact (Option.some.inj hi).symm
  subst e2
  refine ⟨g',?_,by rw [updF_same];simpa [updT] using hw⟩
  rw [Array.getElem?_setIfInBounds_self_of_lt]
  have := (Array.getElem?_eq_some_iff.1 hg).1
  simpa using this
 ·refine ⟨g,?_,by rw [updF_ne (by omega)];simpa [updT,e] using hwi⟩
  rw [Array.getElem?_setIfInBounds_ne (by omega),Array.getElem?_map,hg]
  have hop : ∀ p ∈ si,∃ n,w'.heap[p.1]? = some (.chan 0 #[] false n n false) := fun p hp => by
   obtain ⟨_,n,h⟩ := hI.chan p.1 (h.chans si (List.mem_of_getElem? hi) p hp)
   exact ⟨n,h⟩
  simp [hwi.woken hop]
theorem St.worker' (h : St P chs Γ F T gs) {j : Nat} {s : Script} (hj : Γ[j]? = some s) {tr : Tree} {g' : Goroutine} (hw : WS P tr g' (F (j + 1)) s) :
  St P chs Γ F (updT T j tr) (gs.setIfInBounds (j + 1) g') := by
 refine ⟨by simpa using h.size,fun i si hi => ?_,h.chans⟩
 obtain ⟨g,hg,hwi⟩ := h.wk i si hi
 by_cases e : i = j
 ·subst e
  have e2 : si = s := by rw [hj] at hi;exact (Option.some.inj hi).symm
  subst e2
  refine ⟨g',?_,by simpa [updT] using hw⟩
  rw [Array.getElem?_setIfInBounds_self_of_lt (Array.getElem?_eq_some_iff.1 hg).1]
 ·refine ⟨g,?_,by simpa [updT,e] using hwi⟩
  rw [Array.getElem?_setIfInBounds_ne (by omega),hg]
theorem upd0 {F : Nat → Facts} {j : Nat} {H' : Facts} : updF F (j + 1) H' 0 = F 0 := updF_ne (by omega)
theorem worker_step (hI : Inv W₀ chs Γ F w t) (hS : St P chs Γ F T gs) {j : Nat} {g g0 : Goroutine} (hg : gs[j + 1]? = some g) (hrun : g.status = .running) (h0 : gs[0]? = some g0)
  (still : ∀ a a' w',(∀ c ∈ chs,∃ n,w'.heap[c]? = some (.chan 0 #[] false n n false)) → woken P a a' w' g0 = g0) (sl : Option (Nat × Nat)) :
  (∃ (k : World → Tree) (W : World) (F' : Nat → Facts) (gs' : Array Goroutine) (w' : World) (ops : Array MemOp),T j = .node k ∧ F' 0 = F 0 ∧ runT P (crowd gs w sl) (j + 1) = (.next (crowd gs' w' sl),ops) ∧ Inv W₀ chs Γ F' w' (t ++ ops) ∧ St P chs Γ F' (updT T j (k W)) gs' ∧ gs'[0]? = some g0 ∧
   (∀ i x,i ≠ j + 1 → i ≠ 0 → gs[i]? = some x → gs'[i]? = some x) ∧ (∃ x,gs'[j + 1]? = some x ∧ ∃ s,Γ[j]? = some s ∧ RunS P (k W) x (F' (j + 1)) s)) ∨
  (∃ (k : World → Tree) (c : Nat) (v z : Value) (rest : Script) (g₂ : Goroutine),T j = .node k ∧ Γ[j]? = some ((c,v) :: rest) ∧ (∀ W,stepG P false g W = .comm g₂ #[scase c v z] true .send W #[]) ∧ ∀ W,RunS P (k W) (Conc.served g₂ undef) (F (j + 1)) rest) := by
 obtain ⟨s,hs,hw⟩ := hS.get hg
 have hlt : 0 < gs.size := (Array.getElem?_eq_some_iff.1 h0).1
 have hjlt : j + 1 < gs.size := (Array.getElem?_eq_some_iff.1 hg).1
 rcases hw with hw | ⟨c,v,z,rest,g₂,_,rfl,_⟩
 ·cases hT : T j with
  | leaf =>
   rw [hT] at hw
   have := hw.2
   rw [hrun] at this;cases this
  | node k =>
   rw [hT] at hw
   cases s with
   | nil =>
    obtain ⟨_,g',hst,hk⟩ := hw
    refine .inl ⟨k,w,updF F (j + 1) (F (j + 1)),(gs.map (woken P g g' w)).setIfInBounds (j + 1) g',w,_,rfl,upd0,runT_crowd_go hg (by exact hst w),?_,?_,?_,?_,?_⟩
    ·have e : updF F (j + 1) (F (j + 1)) = F := by funext i;unfold updF;split <;> simp_all
     rw [e]
     have e2 : MemOp.ofEvents (j + 1) g.frame.fn g.frame.place #[] = #[] := by simp [ofEvents_eq]
     rw [e2,Array.append_empty];exact hI
    ·exact hS.worker hI hs (.inl (hk w).nil_any)
    ·rw [Array.getElem?_setIfInBounds_ne (by omega),Array.getElem?_map,h0]
     simp [still g g' w fun c hc => by obtain ⟨_,n,h⟩ := hI.chan c hc;exact ⟨n,h⟩]
    ·intro i x hi hi0 hx
     cases i with
     | zero => exact absurd rfl hi0
     | succ i =>
      obtain ⟨si,hsi,hwi⟩ := hS.get hx
      rw [Array.getElem?_setIfInBounds_ne (fun e => hi e.symm),Array.getElem?_map,hx]
      simp [hwi.woken (open_of hI hS hsi)]
    ·exact ⟨g',by rw [Array.getElem?_setIfInBounds_self_of_lt (by simpa using hjlt)],[],hs,(hk w).nil_any⟩
   | cons p rest =>
    obtain ⟨c,v⟩ := p
    rcases hw.2 with hown | ⟨z,g₂,h1,h2⟩
    ·have hact : Act Γ (j + 1) := ⟨_,hs,by simp⟩
     obtain ⟨g',W',es,H',hst,htr,hrs⟩ := hown w (hI.holds _ hact)
     have hI' := hI.own hact htr g.frame.fn g.frame.place
     refine .inl ⟨k,w,updF F (j + 1) H',(gs.map (woken P g g' W')).setIfInBounds (j + 1) g',W',_,rfl,upd0,runT_crowd_go hg (by exact hst),hI',?_,?_,?_,?_⟩
     ·exact hS.worker hI' hs (.inl hrs)
     ·rw [Array.getElem?_setIfInBounds_ne (by omega),Array.getElem?_map,h0]
      simp [still g g' W' fun c hc => by obtain ⟨_,n,h⟩ := hI'.chan c hc;exact ⟨n,h⟩]
     ·intro i x hi hi0 hx
      cases i with
      | zero => exact absurd rfl hi0
      | succ i =>
       obtain ⟨si,hsi,hwi⟩ := hS.get hx
       rw [Array.getElem?_setIfInBounds_ne (fun e => hi e.symm),Array.getElem?_map,hx]
       have hop : ∀ p ∈ si,∃ n,W'.heap[p.1]? = some (.chan 0 #[] false n n false) := fun p hp => by
        obtain ⟨_,n,h⟩ := hI'.chan p.1 (hS.chans si (List.mem_of_getElem? hsi) p hp)
        exact ⟨n,h⟩
       simp [hwi.woken hop]
     ·exact ⟨g',by rw [Array.getElem?_setIfInBounds_self_of_lt (by simpa using hjlt)],_,hs,by rw [updF_same];exact hrs⟩
    ·exact .inr ⟨k,c,v,z,rest,g₂,rfl,hs,h1,h2⟩
 ·exact absurd hrun (by simp [parked])
theorem worker_parks (hI : Inv W₀ chs Γ F w t) (hS : St P chs Γ F T gs) {j : Nat} {g g0 : Goroutine} (hg : gs[j + 1]? = some g) (h0 : gs[0]? = some g0) (hr0 : g0.status = .running)
  {k : World → Tree} {c : Nat} {v z : Value} {rest : Script} {g₂ : Goroutine} (hΓ : Γ[j]? = some ((c,v) :: rest)) (hst : ∀ W,stepG P false g W = .comm g₂ #[scase c v z] true .send W #[]) (hk : ∀ W,RunS P (k W) (Conc.served g₂ undef) (F (j + 1)) rest) (sl : Option (Nat × Nat)) :
  ∃ gs',runT P (crowd gs w sl) (j + 1) = (.next (crowd gs' w sl),#[]) ∧ St P chs Γ F (updT T j (k w)) gs' ∧ gs'[0]? = some g0 := by
 obtain ⟨_,n,hc⟩ := hI.chan c (hS.chans _ (List.mem_of_getElem? hΓ) (c,v) (by simp))
 refine ⟨gs.setIfInBounds (j + 1) (parked g₂ #[scase c v z] .send),?_,hS.worker' hΓ (.inr ⟨c,v,z,rest,g₂,rfl,rfl,hk w⟩),by rw [Array.getElem?_setIfInBounds_ne (by omega)];exact h0⟩
 have hp : partners (gs.setIfInBounds (j + 1) ph) c false = [] := partners_nil fun i x hx => by
  rcases getElem?_stand gs (j + 1) i x hx with ⟨rfl,rfl⟩ | ⟨hij,hx'⟩
  ·exact offersAt_ph ..
  ·cases i with
   | zero => rw [h0] at hx';cases hx';exact offersAt_of_not_blocked (by rw [hr0];simp) _ _
   | succ i => obtain ⟨si,_,hwi⟩ := hS.get hx';exact hwi.offers _
 have := crowd_waits (P := P) (sl := sl) (gs := gs) (w := w) (w₁ := w) (i := j + 1) hg (by exact hst w) (cases := #[scase c v z]) (shape := .send) (es := #[]) (fun cc hcc => by
  have : cc = scase c v z := by simpa using hcc
  subst this
  exact ways_send_none hc (by simp) hp)
 rw [this]
 simp [ofEvents_eq]
end
end Go.Gx
end
section
namespace Go.Gx
open Go Go.Conc
section
variable {P : Program} {Post : Value → World → Prop} {W₀ : World} {chs : List Nat} {Γ : List Script}
theorem still_run {chs : List Nat} {g0 : Goroutine} (h : g0.status = .running) : ∀ a a' w',(∀ c ∈ chs,∃ n,w'.heap[c]? = some (.chan 0 #[] false n n false)) → woken P a a' w' g0 = g0 := by
 intro a a' w' _
 unfold Conc.woken
 split
 ·exact again_running _ (.inl h)
 ·rfl
theorem JJ.closed (g : Goroutine) (H : Facts) (hr : g.status = .running) (h : ∀ W,Holds H W → ∃ g' W' es H',stepG P true g W = .go g' W' es ∧ Tr H W es W' H' ∧ JJ P Post W₀ chs Γ g' H') : JJ P Post W₀ chs Γ g H := by
 intro Γ₀ hΓ₀ F T
 generalize hn : (Γ₀ ++ Γ).length = n
 have hacc := below_acc n T
 induction hacc generalizing F with
 | intro T _ ih =>
  intro gs w sl t hF hI hS h0
  obtain ⟨i,gi,d,sl',hi,hgi,hst⟩ := crowd_pick (P := P) (w := w) (sl := sl) (hS.awake h0 (awake_of (.inl hr))) ⟨0,g,h0,hr⟩
  have hI' := hI.at d
  cases i with
  | zero =>
   obtain rfl : gi = g := by rw [h0] at hi;exact (Option.some.inj hi).symm
   obtain ⟨g',W',es,H',h1,h2,h3⟩ := h (w.at d) (hF ▸ hI'.holds 0 trivial)
   have hI2 := hI'.own (i := 0) trivial (hF ▸ h2) gi.frame.fn gi.frame.place
   refine Ends.next (hst.trans (runT_crowd_go hi (by exact h1))) ?_
   exact h3 Γ₀ hΓ₀ _ T _ W' sl' _ (updF_same ..) hI2 (hS.main hI2) (by
    have : 0 < gs.size := (Array.getElem?_eq_some_iff.1 h0).1
    simp [this])
  | succ j =>
   rcases worker_step hI' hS hi hgi h0 (still_run hr) sl' with ⟨k,W,F',gs',w',ops,e1,e2,e3,e4,e5,e6,_⟩ | ⟨k,c,v,z,rest,g₂,e1,e2,e3,e4⟩
   ·refine Ends.next (hst.trans e3) ?_
    have hlt : j < n := by
     rw [← hn]
     have := (Array.getElem?_eq_some_iff.1 hi).1
     rw [hS.size] at this;omega
    exact ih _ (updT_below hlt e1 W) F' _ _ sl' _ (e2.trans hF) e4 e5 e6
   ·obtain ⟨gs',e5,e6,e7⟩ := worker_parks hI' hS hi h0 hr e2 e3 e4 sl'
    refine Ends.next (hst.trans e5) ?_
    have hlt : j < n := by
     rw [← hn]
     have := (Array.getElem?_eq_some_iff.1 hi).1
     rw [hS.size] at this;omega
    rw [Array.append_empty]
    exact ih _ (updT_below hlt e1 _) F _ _ sl' _ hF hI' e6 e7
theorem St.less {F F' : Nat → Facts} {T : Nat → Tree} {gs : Array Goroutine} (h : St P chs Γ F T gs) (e : ∀ j,F' (j + 1) = F (j + 1)) : St P chs Γ F' T gs :=
 ⟨h.size,fun j s hj => by
  obtain ⟨g,hg,hw⟩ := h.wk j s hj
  exact ⟨g,hg,by rw [e];exact hw⟩,h.chans⟩
theorem JJ.turn {g : Goroutine} {H H₂ : Facts} (h : JJ P Post W₀ chs Γ g H) (hh : ∀ w,Holds H₂ w → Holds H w) (hs : ∀ f ∈ H,∃ g ∈ H₂,g.block = f.block ∧ (f.isOwn = true → g.isOwn = true)) : JJ P Post W₀ chs Γ g H₂ := by
 intro Γ₀ hΓ₀ F T gs w sl t hF hI hS h0
 refine h Γ₀ hΓ₀ (updF F 0 H) T gs w sl t (updF_same ..) (hI.turn (i := 0) trivial (hh w (hF ▸ hI.holds 0 trivial)) (by rw [hF];exact hs)) (hS.less fun j => updF_ne (by omega)) h0
def mainLg (P : Program) (Post : Value → World → Prop) (W₀ : World) (chs : List Nat) (Γ : List Script) : Lg P true where
 J := JJ P Post W₀ chs Γ
 closed := JJ.closed
 weak g H H₂ hs h := h.turn (fun w hw => hs.holds hw) fun f hf => ⟨f,hs.mem hf,rfl,id⟩
 share g b c T fr H h := h.turn (fun w hw => holds_share hw) fun f hf => by
  rcases List.mem_cons.1 hf with rfl | hf
  ·exact ⟨_,List.mem_cons_self ..,rfl,fun x => by cases x⟩
  ·exact ⟨f,List.mem_cons_of_mem _ hf,rfl,id⟩
theorem JJ.openC {g : Goroutine} {H : Facts} {c s : Nat} (h : JJ P Post W₀ (c :: chs) Γ g H) : JJ P Post W₀ chs Γ g (.own c (.chan 0 #[] false s s false) :: H) := by
 intro Γ₀ hΓ₀ F T gs w sl t hF hI hS h0
 refine h Γ₀ hΓ₀ (updF F 0 H) T gs w sl t (updF_same ..) (hI.openC hF) ⟨hS.size,fun j s hj => ?_,fun s hs p hp => List.mem_cons_of_mem _ (hS.chans s hs p hp)⟩ h0
 rw [updF_ne (by omega)];exact hS.wk j s hj
theorem JJ.closeAll {g : Goroutine} {H : Facts} (hΓ : ∀ s ∈ Γ,s = []) (h : JJ P Post W₀ [] [] g H) : JJ P Post W₀ chs Γ g H := by
 intro Γ₀ hΓ₀ F T gs w sl t hF hI hS h0
 have hall : ∀ s ∈ Γ₀ ++ Γ,s = [] := fun s hs => (List.mem_append.1 hs).elim (hΓ₀ s) (hΓ s)
 refine h (Γ₀ ++ Γ) hall F T gs w sl t hF ?_ ?_ h0
 ·rw [List.append_nil];exact hI.lessC (by simp)
 ·rw [List.append_nil]
  exact ⟨hS.size,hS.wk,fun s hs p hp => by rw [hall s hs] at hp;cases hp⟩
theorem JJ.spawn {g g' child : Goroutine} {H Hc : Facts} {s : Script} (hr : g.status = .running) (hst : ∀ W,Holds H W → stepG P true g W = .spawn g' child W #[])
  (hc : ∀ f ∈ Hc,f ∈ H ∧ f.isOwn = false) (hs : ∀ p ∈ s,p.1 ∈ chs) (hw : ∃ T,RunS P T child Hc s) (h : JJ P Post W₀ chs (Γ ++ [s]) g' H) : JJ P Post W₀ chs Γ g H := by
 intro Γ₀ hΓ₀ F T
 generalize hn : (Γ₀ ++ Γ).length = n
 have hacc := below_acc n T
 induction hacc generalizing F with
 | intro T _ ih =>
  intro gs w sl t hF hI hS h0
  obtain ⟨i,gi,d,sl',hi,hgi,hpk⟩ := crowd_pick (P := P) (w := w) (sl := sl) (hS.awake h0 (awake_of (.inl hr))) ⟨0,g,h0,hr⟩
  have hI' := hI.at d
  cases i with
  | zero =>
   obtain rfl : gi = g := by rw [h0] at hi;exact (Option.some.inj hi).symm
   have h1 := hst (w.at d) (hF ▸ hI'.holds 0 trivial)
   obtain ⟨Tc,hTc⟩ := hw
   refine Ends.next (hpk.trans (runT_crowd_spawn hi (by exact h1))) ?_
   have e : ((MemOp.ofEvents 0 gi.frame.fn gi.frame.place #[]).push { g := 0,fn := gi.frame.fn,pos := gi.frame.place,act := .go gs.size } |>.push { g := gs.size,fn := child.frame.fn,pos := gi.frame.place,act := .start })
     = #[({ g := 0,fn := gi.frame.fn,pos := gi.frame.place,act := .go gs.size } : MemOp),{ g := gs.size,fn := child.frame.fn,pos := gi.frame.place,act := .start }] := by simp [ofEvents_eq]
   rw [e]
   have hsz := hS.size
   have hI2 := hI'.fork (s := s) (Hc := Hc) (by rw [hF];exact hc) (x := { g := 0,fn := gi.frame.fn,pos := gi.frame.place,act := .go gs.size }) (y := { g := gs.size,fn := child.frame.fn,pos := gi.frame.place,act := .start }) ⟨rfl,by rw [hsz]⟩ ⟨hsz,rfl⟩
   refine h Γ₀ hΓ₀ (updF F ((Γ₀ ++ Γ).length + 1) Hc) (updT T (Γ₀ ++ Γ).length Tc) _ (w.at d) sl' _ ((updF_ne (by omega)).trans hF) (by rw [← List.append_assoc];exact hI2) ?_ ?_
   ·rw [← List.append_assoc]
    refine ⟨by simp [hsz];omega,fun j sj hj => ?_,fun s' hs' p hp => ?_⟩
    ·rcases Nat.lt_or_ge j (Γ₀ ++ Γ).length with hlt | hge
     ·rw [List.getElem?_append_left hlt] at hj
      obtain ⟨x,hx,hwx⟩ := hS.wk j sj hj
      refine ⟨x,?_,?_⟩
      ·rw [Array.getElem?_push_lt (by simp;omega)]
       rw [← Array.getElem?_eq_getElem,Array.getElem?_setIfInBounds_ne (by omega),hx]
      ·rw [updF_ne (by omega)]
       have : updT T (Γ₀ ++ Γ).length Tc j = T j := if_neg (by omega)
       rw [this];exact hwx
     ·rw [List.getElem?_append_right hge] at hj
      have hj0 : j - (Γ₀ ++ Γ).length = 0 := by
       rcases Nat.eq_zero_or_pos (j - (Γ₀ ++ Γ).length) with h0 | h0
       ·exact h0
       ·rw [List.getElem?_eq_none (show [s].length ≤ _ from h0)] at hj;cases hj
      rw [hj0] at hj
      cases hj
      have ej : j = (Γ₀ ++ Γ).length := by omega
      subst ej
      refine ⟨child,?_,.inl ?_⟩
      ·have : (Γ₀ ++ Γ).length + 1 = (gs.setIfInBounds 0 g').size := by rw [Array.size_setIfInBounds];exact hsz.symm
       rw [this,Array.getElem?_push_size]
      ·rw [updF_same]
       have : updT T (Γ₀ ++ Γ).length Tc (Γ₀ ++ Γ).length = Tc := if_pos rfl
       rw [this];exact hTc
    ·rcases List.mem_append.1 hs' with hs' | hs'
     ·exact hS.chans s' hs' p hp
     ·rw [List.mem_singleton.1 hs'] at hp;exact hs p hp
   ·have hlt : 0 < gs.size := (Array.getElem?_eq_some_iff.1 h0).1
    rw [Array.getElem?_push_lt (by simpa using hlt)]
    simp [hlt]
  | succ j =>
   have hlt : j < n := by
    rw [← hn]
    have := (Array.getElem?_eq_some_iff.1 hi).1
    rw [hS.size] at this;omega
   rcases worker_step hI' hS hi hgi h0 (still_run hr) sl' with ⟨k,W,F',gs',w',ops,e1,e2,e3,e4,e5,e6,_⟩ | ⟨k,c,v,z,rest,g₂,e1,e2,e3,e4⟩
   ·exact Ends.next (hpk.trans e3) (ih _ (updT_below hlt e1 W) F' _ _ sl' _ (e2.trans hF) e4 e5 e6)
   ·obtain ⟨gs',e5,e6,e7⟩ := worker_parks hI' hS hi h0 hr e2 e3 e4 sl'
    refine Ends.next (hpk.trans e5) ?_
    rw [Array.append_empty]
    exact ih _ (updT_below hlt e1 _) F _ _ sl' _ hF hI' e6 e7
theorem quits_of_run : ∀ {T : Tree} {g : Goroutine} {H : Facts},RunS P T g H [] → ∃ n,QuitsD P n 0 g
 | .leaf,g,H,h => ⟨0,h.2,rfl⟩
 | .node k,g,H,h => by
  obtain ⟨hr,g',hst,hk⟩ := h
  obtain ⟨n,hn⟩ := quits_of_run (hk default)
  exact ⟨n + 1,.ctl hr hst hn⟩
theorem JJ.ended {g : Goroutine} {H : Facts} {v : Value} (hr : g.status = .running) (hst : ∀ W,Holds H W → ∃ W' es H',stepG P true g W = .ended (.done v) W' es ∧ Tr H W es W' H')
  (hp : ∀ w,Fin W₀ w → Post v w) : JJ P Post W₀ [] [] g H := by
 intro Γ₀ hΓ₀ F T
 generalize hn : (Γ₀ ++ []).length = n
 have hacc := below_acc n T
 induction hacc generalizing F with
 | intro T _ ih =>
  intro gs w sl t hF hI hS h0
  obtain ⟨i,gi,d,sl',hi,hgi,hpk⟩ := crowd_pick (P := P) (w := w) (sl := sl) (hS.awake h0 (awake_of (.inl hr))) ⟨0,g,h0,hr⟩
  have hI' := hI.at d
  cases i with
  | zero =>
   obtain rfl : gi = g := by rw [h0] at hi;exact (Option.some.inj hi).symm
   have hH : Holds H (w.at d) := hF ▸ hI'.holds 0 trivial
   obtain ⟨W',es,H',hend,htr⟩ := hst (w.at d) hH
   have hI2 := hI'.own (i := 0) trivial (hF ▸ htr) gi.frame.fn gi.frame.place
   have hempty : ∀ s ∈ Γ₀ ++ [],s = [] := by rw [List.append_nil];exact hΓ₀
   refine Ends.done (hpk.trans (runT_many_ended hi (by exact hend))) ⟨v,rfl,hp _ hI2.fin,hI2.clean,hI2.over hempty,⟨fun x hx => ?_,rfl⟩,fun j x hx hj => ?_⟩
   ·obtain ⟨j,hj⟩ := List.mem_iff_getElem?.1 hx
    rw [List.getElem?_drop] at hj
    have hj' : gs[j + 1]? = some x := by
     have : gs.toList[1 + j]? = some x := by simpa [crowd] using hj
     rw [Nat.add_comm] at this
     simpa using this
    obtain ⟨s,hs,hw⟩ := hS.get hj'
    have es := hempty s (List.mem_of_getElem? hs)
    subst es
    rcases hw with hw | ⟨_,_,_,_,_,h,_⟩
    ·obtain ⟨n,hn⟩ := quits_of_run hw
     exact ⟨n,hn.leaves⟩
    ·cases h
   ·cases j with
    | zero => exact absurd rfl hj
    | succ j =>
     obtain ⟨s,hs,hw⟩ := hS.get hx
     have es' := hempty s (List.mem_of_getElem? hs)
     subst es'
     rcases hw with hw | ⟨_,_,_,_,_,h,_⟩
     ·obtain ⟨n,hn⟩ := quits_of_run hw
      refine ⟨n,?_⟩
      rw [hI2.wordless.deaf]
      exact hn.hears _
     ·cases h
  | succ j =>
   have hlt : j < n := by
    rw [← hn]
    have := (Array.getElem?_eq_some_iff.1 hi).1
    rw [hS.size] at this;omega
   rcases worker_step hI' hS hi hgi h0 (still_run hr) sl' with ⟨k,W,F',gs',w',ops,e1,e2,e3,e4,e5,e6,_⟩ | ⟨k,c,v,z,rest,g₂,e1,e2,e3,e4⟩
   ·exact Ends.next (hpk.trans e3) (ih _ (updT_below hlt e1 W) F' _ _ sl' _ (e2.trans hF) e4 e5 e6)
   ·obtain ⟨gs',e5,e6,e7⟩ := worker_parks hI' hS hi h0 hr e2 e3 e4 sl'
    refine Ends.next (hpk.trans e5) ?_
    rw [Array.append_empty]
    exact ih _ (updT_below hlt e1 _) F _ _ sl' _ hF hI' e6 e7
theorem JJ.runs {g : Goroutine} {H : Facts} (h : JJ P Post W₀ [] [] g H) (hH : Holds H W₀) (ho : ∀ f ∈ H,f.isOwn = false) : Ends P Post (solo g W₀) #[] := by
 have := h [] (by simp) (fun _ => H) (fun _ => .leaf) #[g] W₀ none #[] rfl (Inv.begin hH ho) ⟨rfl,fun j s hj => by simp at hj,fun s hs => by simp at hs⟩ rfl
 exact this
end
end Go.Gx
end
section
namespace Go.Gx
open Go Go.Conc
section
variable {P : Program} {Post : Value → World → Prop} {W₀ : World} {chs : List Nat} {Γ : List Script}
theorem again_parked_sel {gm : Goroutine} {cases : Array CommCase} {sh : CommShape} {w' : World} (h : ∀ cc ∈ cases,∃ c z n,cc = rcase c z ∧ w'.heap[c]? = some (.chan 0 #[] false n n false)) : (parked gm cases sh).again w' = parked gm cases sh := by
 unfold Goroutine.again
 simp only [parked]
 rw [if_neg]
 rw [Bool.not_eq_true,Array.any_eq_false]
 intro i hi
 obtain ⟨c,z,n,e,hc⟩ := h cases[i] (Array.getElem_mem hi)
 rw [e]
 simp [rcase,hc]
theorem getElem?_set2 {gs : Array Goroutine} {a b k : Nat} {x y : Goroutine} (ha : k ≠ a) (hb : k ≠ b) : ((gs.setIfInBounds a x).setIfInBounds b y)[k]? = gs[k]? := by
 rw [Array.getElem?_setIfInBounds_ne (Ne.symm hb),Array.getElem?_setIfInBounds_ne (Ne.symm ha)]
theorem St.met {F : Nat → Facts} {T : Nat → Tree} {gs gs' : Array Goroutine} {t : Trace} {w : World} (h : St P chs Γ F T gs) {j c : Nat} {v : Value} {rest : Script} {g₂ : Goroutine} {tr : Tree} (hj : Γ[j]? = some ((c,v) :: rest)) (hsz : gs'.size = gs.size)
  (hr : RunS P tr (Conc.served g₂ undef) (F (j + 1)) rest) (hg : gs'[j + 1]? = some (Conc.served g₂ undef)) (ho : ∀ i,i ≠ 0 → i ≠ j + 1 → gs'[i]? = gs[i]?) :
  St P chs (Γ.set j rest) F (updT T j tr) gs' := by
 refine ⟨by rw [hsz,h.size,List.length_set],fun i si hi => ?_,fun s hs p hp => ?_⟩
 ·by_cases e : j = i
  ·subst e
   have hlt : j < Γ.length := (List.getElem?_eq_some_iff.1 hj).1
   rw [List.getElem?_set_self hlt] at hi
   cases hi
   exact ⟨_,hg,by rw [show updT T j tr j = tr from if_pos rfl];exact .inl hr⟩
  ·rw [List.getElem?_set_ne e] at hi
   obtain ⟨x,hx,hw⟩ := h.wk i si hi
   refine ⟨x,by rw [ho (i + 1) (by omega) (by omega)];exact hx,?_⟩
   have : updT T j tr i = T i := if_neg (fun e' => e e'.symm)
   rw [this];exact hw
 ·obtain ⟨i,hi⟩ := List.getElem?_of_mem hs
  by_cases e : j = i
  ·subst e
   have hlt : j < Γ.length := (List.getElem?_eq_some_iff.1 hj).1
   rw [List.getElem?_set_self hlt] at hi
   cases hi
   exact h.chans _ (List.mem_of_getElem? hj) p (List.mem_cons_of_mem _ hp)
  ·rw [List.getElem?_set_ne e] at hi
   exact h.chans s (List.mem_of_getElem? hi) p hp
theorem JJ.select {g g₂ : Goroutine} {H : Facts} {cases : Array CommCase} {shape : CommShape} (hr : g.status = .running) (hst : ∀ W,Holds H W → stepG P true g W = .comm g₂ cases true shape W #[])
  (hcs : ∀ cc ∈ cases,∃ c z,c ∈ chs ∧ cc = rcase c z)
  (hprog : ∃ s ∈ Γ,s ≠ [])
  (hcov : ∀ s ∈ Γ,∀ (c : Nat) (v : Value) (rest : Script),s = (c,v) :: rest → ∃ (k : Nat) (z : Value),cases[k]? = some (rcase c z))
  (hn : ∀ (j c : Nat) (v : Value) (rest : Script) (k : Nat) (z : Value),Γ[j]? = some ((c,v) :: rest) → cases[k]? = some (rcase c z) → JJ P Post W₀ chs (Γ.set j rest) (g₂.finishComm P cases shape k v true) H) :
  JJ P Post W₀ chs Γ g H := by
 intro Γ₀ hΓ₀
 have hget : ∀ {j c : Nat} {v : Value} {rest : Script},(Γ₀ ++ Γ)[j]? = some ((c,v) :: rest) → Γ₀.length ≤ j ∧ Γ[j - Γ₀.length]? = some ((c,v) :: rest) ∧ (Γ₀ ++ Γ).set j rest = Γ₀ ++ Γ.set (j - Γ₀.length) rest := by
  intro j c v rest hj
  rcases Nat.lt_or_ge j Γ₀.length with hlt | hge
  ·rw [List.getElem?_append_left hlt] at hj
   have := hΓ₀ _ (List.mem_of_getElem? hj)
   cases this
  ·rw [List.getElem?_append_right hge] at hj
   refine ⟨hge,hj,?_⟩
   rw [List.set_append]
   rw [if_neg (by omega)]
 have hcase : ∀ {w : World} {F : Nat → Facts} {t : Trace},Inv W₀ chs (Γ₀ ++ Γ) F w t → ∀ cc ∈ cases,∃ c z n,cc = rcase c z ∧ w.heap[c]? = some (.chan 0 #[] false n n false) := by
  intro w F t hI cc hcc
  obtain ⟨c,z,hc,e⟩ := hcs cc hcc
  obtain ⟨_,n,hn⟩ := hI.chan c hc
  exact ⟨c,z,n,e,hn⟩
 have key : ∀ T F gs w sl t,F 0 = H → Inv W₀ chs (Γ₀ ++ Γ) F w t → St P chs (Γ₀ ++ Γ) F T gs →
   (gs[0]? = some g ∨ (gs[0]? = some (parked g₂ cases shape) ∧ ∀ j x,gs[j + 1]? = some x → x.status ≠ .blocked)) → Ends P Post (crowd gs w sl) t := by
  intro T
  generalize hnn : (Γ₀ ++ Γ).length = n
  have hacc := below_acc n T
  induction hacc with
  | intro T _ ih =>
   have hpark : ∀ F gs w sl t,F 0 = H → Inv W₀ chs (Γ₀ ++ Γ) F w t → St P chs (Γ₀ ++ Γ) F T gs → gs[0]? = some (parked g₂ cases shape) → (∀ j x,gs[j + 1]? = some x → x.status ≠ .blocked) → Ends P Post (crowd gs w sl) t := by
    intro F gs w sl t hF hI hS h0 hnb
    obtain ⟨s,hs,hne⟩ := hprog
    obtain ⟨js,hjs⟩ := List.getElem?_of_mem hs
    have hjs' : (Γ₀ ++ Γ)[Γ₀.length + js]? = some s := by rw [List.getElem?_append_right (by omega),show Γ₀.length + js - Γ₀.length = js from by omega];exact hjs
    obtain ⟨gx,hgx,hwx⟩ := hS.wk _ s hjs'
    have hgrun : gx.status = .running := by
     rcases hwx with hwx | ⟨c,v,z,rest,g₃,_,rfl,_⟩
     ·rcases hwx.status with h | h
      ·exact h
      ·exfalso
       cases hT : T (Γ₀.length + js) with
       | leaf => rw [hT] at hwx;exact hne hwx.1
       | node k =>
        rw [hT] at hwx
        cases s with
        | nil => exact hne rfl
        | cons p rest => have h1 := hwx.1;rw [h] at h1;cases h1
     ·exact absurd rfl (hnb _ _ hgx)
    obtain ⟨i,gi,d,sl',hi,hgi,hpk⟩ := crowd_pick (P := P) (w := w) (sl := sl) (hS.awake h0 (fun x hx => by simp [parked] at hx)) ⟨_,gx,hgx,hgrun⟩
    have hI' := hI.at d
    cases i with
    | zero => rw [h0] at hi;cases hi;simp [parked] at hgi
    | succ j =>
     have hlt : j < n := by
      rw [← hnn]
      have := (Array.getElem?_eq_some_iff.1 hi).1
      rw [hS.size] at this;omega
     have still : ∀ a a' w',(∀ c ∈ chs,∃ n,w'.heap[c]? = some (.chan 0 #[] false n n false)) → woken P a a' w' (parked g₂ cases shape) = parked g₂ cases shape := by
      intro a a' w' hop
      unfold Conc.woken
      split
      ·refine again_parked_sel fun cc hcc => ?_
       obtain ⟨c,z,hc,e⟩ := hcs cc hcc
       obtain ⟨n,hn⟩ := hop c hc
       exact ⟨c,z,n,e,hn⟩
      ·rfl
     rcases worker_step hI' hS hi hgi h0 still sl' with ⟨k,W,F',gs',w',ops,e1,e2,e3,e4,e5,e6,e7,x,hx,s',_,hrs⟩ | ⟨k,c,v,z,rest,g₃,e1,e2,e3,e4⟩
     ·refine Ends.next (hpk.trans e3) (ih _ (updT_below hlt e1 W) F' gs' w' sl' _ (e2.trans hF) e4 e5 (.inr ⟨e6,fun i y hy => ?_⟩))
      by_cases eij : i = j
      ·subst eij
       rw [hx] at hy;cases hy
       rcases hrs.status with h | h <;> rw [h] <;> simp
      ·have hlt' : i + 1 < gs.size := by
        have := (Array.getElem?_eq_some_iff.1 hy).1
        rw [e5.size] at this
        rw [hS.size];exact this
       have hgy := e7 (i + 1) gs[i + 1] (by omega) (by omega) (Array.getElem?_eq_getElem hlt')
       rw [hy] at hgy
       cases hgy
       exact hnb i _ (Array.getElem?_eq_getElem hlt')
     ·
      obtain ⟨hge,hΓj,hset⟩ := hget e2
      obtain ⟨k',z',hk'⟩ := hcov _ (List.mem_of_getElem? hΓj) c v rest rfl
      obtain ⟨hc1,m,hc2⟩ := hI'.chan c (hS.chans _ (List.mem_of_getElem? e2) (c,v) (by simp))
      obtain ⟨kk,zk,d',hkk,hrun⟩ := crowd_send_meets_sel (P := P) (sl := sl') (gs := gs) (w := w.at d) (w₁ := w.at d) (i := j + 1) (cases := cases) (sh := shape) (gm := g₂) hi (by exact e3 (w.at d)) hc2 (by omega) h0
       (fun k cc hk => by obtain ⟨c,z,_,e⟩ := hcs cc (Array.mem_of_getElem? hk);exact ⟨c,z,e⟩) ⟨k',z',hk'⟩ (fun i x hi0 hx => by
        cases i with
        | zero => exact absurd rfl hi0
        | succ i => obtain ⟨_,_,hwi⟩ := hS.get hx;exact hwi.offers _)
      refine Ends.next (hpk.trans hrun) ?_
      have e0 : MemOp.ofEvents (j + 1) gi.frame.fn gi.frame.place #[] = #[] := by simp [ofEvents_eq]
      rw [e0,Array.empty_append]
      have hI2 := hI'.meet e2 (hS.chans _ (List.mem_of_getElem? e2) (c,v) (by simp)) hc2 d' (a := { g := j + 1,fn := g₃.frame.fn,pos := g₃.frame.place,act := .send c m }) (b := { g := 0,fn := g₂.frame.fn,pos := g₂.frame.place,act := .recv c m 0 })
       (e := { g := j + 1,fn := g₃.frame.fn,pos := g₃.frame.place,act := .sendDone c m }) (f := { g := 0,fn := g₂.frame.fn,pos := g₂.frame.place,act := .recvDone c m }) ⟨rfl,rfl⟩ ⟨rfl,rfl⟩ ⟨rfl,rfl⟩ ⟨rfl,rfl⟩
      rw [hset] at hI2
      have hj1 : j + 1 < gs.size := (Array.getElem?_eq_some_iff.1 hi).1
      have hS2 := hS.met (gs' := (gs.setIfInBounds 0 (g₂.finishComm P cases shape kk v true)).setIfInBounds (j + 1) (g₃.finishComm P #[scase c v z] .send 0 undef false)) (w := w) (t := t) (tr := k w) e2 (by simp) (e4 w)
       (by rw [Array.getElem?_setIfInBounds_self_of_lt (by simpa using hj1)];rfl)
       (fun i hi0 hij => getElem?_set2 hi0 hij)
      rw [hset] at hS2
      exact hn _ c v rest kk zk hΓj hkk Γ₀ hΓ₀ F _ _ _ sl' _ hF hI2 hS2 (by
       rw [Array.getElem?_setIfInBounds_ne (by omega)]
       have : 0 < gs.size := by omega
       simp [this])
   intro F gs w sl t hF hI hS hor
   rcases hor with h0 | ⟨h0,hnb⟩
   ·obtain ⟨i,gi,d,sl',hi,hgi,hpk⟩ := crowd_pick (P := P) (w := w) (sl := sl) (hS.awake h0 (awake_of (.inl hr))) ⟨0,g,h0,hr⟩
    have hI' := hI.at d
    cases i with
    | zero =>
     obtain rfl : gi = g := by rw [h0] at hi;exact (Option.some.inj hi).symm
     have h1 := hst (w.at d) (hF ▸ hI'.holds 0 trivial)
     have e0 : MemOp.ofEvents 0 gi.frame.fn gi.frame.place #[] = #[] := by simp [ofEvents_eq]
     have hmem : ∀ c j k,(j,k) ∈ partners (gs.setIfInBounds 0 ph) c true → k = 0 ∧ j ≠ 0 ∧ ∃ gj vj zj shj,gs[j]? = some (parked gj #[scase c vj zj] shj) := by
      intro c j k hjk
      obtain ⟨x,hx,hk⟩ := mem_partners.1 hjk
      rcases getElem?_stand gs 0 j x hx with ⟨rfl,rfl⟩ | ⟨hj0,hx'⟩
      ·rw [offersAt_ph] at hk;cases hk
      ·cases j with
       | zero => exact absurd rfl hj0
       | succ j =>
        obtain ⟨s,hs,hw⟩ := hS.get hx'
        rcases hw with hw | ⟨c',v,z,rest,g₃,rfl,rfl,_⟩
        ·rw [hw.offers] at hk;cases hk
        ·rw [offersAt_parked_send] at hk
         split at hk
         ·rename_i e;subst e
          exact ⟨by simpa using hk,by omega,g₃,v,z,.send,hx'⟩
         ·cases hk
     by_cases hsome : ∃ (k : Nat) (c : Nat) (z : Value),cases[k]? = some (rcase c z) ∧ partners (gs.setIfInBounds 0 ph) c true ≠ []
     ·obtain ⟨k,c,m,z,j,gj,vj,zj,shj,d',hk,hc,hj0,hj,hrun⟩ := crowd_select_meets (P := P) (sl := sl') (gs := gs) (w := w.at d) (w₁ := w.at d) (i := 0) hi (by exact h1) (fun k cc hk => by
       obtain ⟨c,z,n,e,hc⟩ := hcase hI' cc (Array.mem_of_getElem? hk)
       exact ⟨c,z,n,e,hc⟩) hsome hmem
      refine Ends.next (hpk.trans hrun) ?_
      rw [e0,Array.empty_append]
      cases j with
      | zero => exact absurd rfl hj0
      | succ j =>
       obtain ⟨s,hs,hw⟩ := hS.get hj
       rcases hw with hw | ⟨c',v,z',rest,g₃,rfl,hpe,hrs⟩
       ·rcases hw.status with h | h <;> simp [parked] at h
       ·have hpe2 : gj.frame = g₃.frame ∧ gj.callers = g₃.callers ∧ gj.dying = g₃.dying ∧ c = c' ∧ vj = v := by
         simp only [parked,Goroutine.mk.injEq,scase,Option.some.injEq,Prod.mk.injEq] at hpe
         obtain ⟨h1,h2,_,h4,h5,_⟩ := hpe
         have h6 := congrArg (·.toList) h5
         simp at h6
         exact ⟨h1,h2,h4,h6.1,h6.2.1⟩
        obtain ⟨f1,f2,f3,rfl,rfl⟩ := hpe2
        obtain ⟨hge,hΓj,hset⟩ := hget hs
        have hI2 := hI'.meet hs (hS.chans _ (List.mem_of_getElem? hs) (c,vj) (by simp)) hc d' (a := { g := j + 1,fn := gj.frame.fn,pos := gj.frame.place,act := .send c m }) (b := { g := 0,fn := g₂.frame.fn,pos := g₂.frame.place,act := .recv c m 0 })
         (e := { g := j + 1,fn := gj.frame.fn,pos := gj.frame.place,act := .sendDone c m }) (f := { g := 0,fn := g₂.frame.fn,pos := g₂.frame.place,act := .recvDone c m }) ⟨rfl,rfl⟩ ⟨rfl,rfl⟩ ⟨rfl,rfl⟩ ⟨rfl,rfl⟩
        rw [hset] at hI2
        have hj1 : j + 1 < gs.size := (Array.getElem?_eq_some_iff.1 hj).1
        have hser : gj.finishComm P #[scase c vj zj] shj 0 undef false = Conc.served g₃ (commResult #[scase c vj zj] shj 0 undef false) := by
         simp only [Goroutine.finishComm,Conc.served]
         simp [f1,f2,f3]
        have hsh : shj = .send := by
         simp only [parked,Goroutine.mk.injEq,Option.some.injEq,Prod.mk.injEq] at hpe
         exact hpe.2.2.2.2.2
        subst hsh
        have hS2 := hS.met (gs' := (gs.setIfInBounds (j + 1) (gj.finishComm P #[scase c vj zj] .send 0 undef false)).setIfInBounds 0 (g₂.finishComm P cases shape k vj true)) (w := w) (t := t) (g₂ := g₃) (tr := T j) hs (by simp) hrs
         (by rw [Array.getElem?_setIfInBounds_ne (by omega),Array.getElem?_setIfInBounds_self_of_lt hj1,hser];rfl)
         (fun i hi0 hij => getElem?_set2 hij hi0)
        rw [hset] at hS2
        exact hn _ c vj rest k z hΓj hk Γ₀ hΓ₀ F _ _ _ sl' _ hF hI2 hS2 (by
         rw [Array.getElem?_setIfInBounds_self_of_lt (by simp;omega)])
     ·have hnone : ∀ cc ∈ cases,NoWays (w.at d) (gs.setIfInBounds 0 ph) cc := by
       intro cc hcc
       obtain ⟨c,z,n,rfl,hc⟩ := hcase hI' cc hcc
       obtain ⟨k,hk,e⟩ := Array.mem_iff_getElem.1 hcc
       refine ways_recv_none hc ?_
       cases hp : partners (gs.setIfInBounds 0 ph) c true with
       | nil => rfl
       | cons p l => exact absurd ⟨k,c,z,by rw [← e];exact Array.getElem?_eq_getElem hk,by rw [hp];simp⟩ hsome
      have hw := crowd_waits (P := P) (sl := sl') (gs := gs) (w := w.at d) (w₁ := w.at d) (i := 0) hi (by exact h1) hnone
      refine Ends.next (hpk.trans hw) ?_
      rw [e0,Array.append_empty]
      have h00 : 0 < gs.size := (Array.getElem?_eq_some_iff.1 h0).1
      refine hpark F _ (w.at d) sl' t hF hI' ⟨by simpa using hS.size,fun j s hj => ?_,hS.chans⟩ (by rw [Array.getElem?_setIfInBounds_self_of_lt h00]) fun j x hx => ?_
      ·obtain ⟨y,hy,hw⟩ := hS.wk j s hj
       exact ⟨y,by rw [Array.getElem?_setIfInBounds_ne (by omega)];exact hy,hw⟩
      ·rw [Array.getElem?_setIfInBounds_ne (by omega)] at hx
       obtain ⟨s,hs,hw⟩ := hS.get hx
       rcases hw with hw | ⟨c,v,z,rest,g₃,rfl,rfl,_⟩
       ·rcases hw.status with h | h <;> rw [h] <;> simp
       ·exfalso
        obtain ⟨_,hΓj,_⟩ := hget hs
        obtain ⟨k',z',hk'⟩ := hcov _ (List.mem_of_getElem? hΓj) c v rest rfl
        refine hsome ⟨k',c,z',hk',fun e => ?_⟩
        have : (j + 1,0) ∈ partners (gs.setIfInBounds 0 ph) c true := mem_partners.2 ⟨_,stand_get (i := 0) (by omega) hx,by rw [offersAt_parked_send];simp⟩
        rw [e] at this;cases this
    | succ j =>
     have hlt : j < n := by
      rw [← hnn]
      have := (Array.getElem?_eq_some_iff.1 hi).1
      rw [hS.size] at this;omega
     rcases worker_step hI' hS hi hgi h0 (still_run hr) sl' with ⟨k,W,F',gs',w',ops,e1,e2,e3,e4,e5,e6,_⟩ | ⟨k,c,v,z,rest,g₃,e1,e2,e3,e4⟩
     ·exact Ends.next (hpk.trans e3) (ih _ (updT_below hlt e1 W) F' _ _ sl' _ (e2.trans hF) e4 e5 (.inl e6))
     ·obtain ⟨gs',e5,e6,e7⟩ := worker_parks hI' hS hi h0 hr e2 e3 e4 sl'
      refine Ends.next (hpk.trans e5) ?_
      rw [Array.append_empty]
      exact ih _ (updT_below hlt e1 _) F _ _ sl' _ hF hI' e6 (.inl e7)
   ·exact hpark F gs w sl t hF hI hS h0 hnb
 exact fun F T gs w sl t hF hI hS h0 => key T F gs w sl t hF hI hS (.inl h0)
end
end Go.Gx
end
section
namespace Go.Gx
open Go Go.Conc
section
variable {P : Program} {Post : Value → World → Prop} {W₀ : World} {chs : List Nat} {Γ : List Script}
variable {f : FuncId} {ro : Option Nat} {ds : Dz} {cs : List Frame} {n : Nat} {E : Env} {H : Facts} {k : List Item} {ops : Array Oper} {i : Nat} {rest : List Nat} {o : Oper}
theorem stepG_op0 {main : Bool} {tmps : Array Value} {W : World} (ho : ops[i]? = some o) (hw : wantE ops o E = some true) (hE : E.ok tmps) (hnd : ∀ c,o.op ≠ .defer c) {nx : Next} (hr : (execOp (Fr f ro ds tmps (.inRegion ops (i :: rest) :: k)).eval o).runT P W #[] = (.ok nx W,#[])) :
  stepG P main (G (Fr f ro ds tmps (.inRegion ops (i :: rest) :: k)) cs) W = stepG.apply P true (Fr f ro ds tmps (.inRegion ops (i :: rest) :: k)) cs none (execOp (Fr f ro ds tmps (.inRegion ops (i :: rest) :: k)).eval o) W :=
 stepG_opF ho (wantE_ok hw hE) hnd
theorem seen_nil (fn : FuncId) : seen P fn #[] = #[] := seen_none P fn
theorem apply_comm {fr : Frame} {s : Sem Next} {W : World} {cases : Array CommCase} {b : Bool} {sh : CommShape} (hk : (fr.kind == .early) = false) (hr : s.runT P W #[] = (.ok (.comm cases b sh) W,#[])) :
  stepG.apply P true fr cs none s W = .comm (G fr cs) cases b sh W #[] := by
 unfold stepG.apply
 simp only [if_true,hr,hk]
 simp [GStep.after,G,seen_nil]
theorem apply_spawn {fr : Frame} {s : Sem Next} {W : World} {d : Deferred} {fn : Fn} {c : Array Value} (hk : (fr.kind == .early) = false) (hd : d.target = .fn fn c) (hr : s.runT P W #[] = (.ok (.spawn d) W,#[])) :
  stepG.apply P true fr cs none s W = .spawn (G (fr.finish undef) cs) (born P d) W #[] := by
 unfold stepG.apply
 simp only [if_true,hr,hk,hd]
 simp [GStep.after,G,seen_nil,born]
end
theorem runT_bind {α β : Type} (P : Program) (s : Sem α) (f : α → Sem β) (w : World) (es : Array Event) : (s >>= f).runT P w es = match s.runT P w es with | (.ok a w',es') => (f a).runT P w' es' | (.halt h w',es') => (.halt h w',es') := by
 show (s.bind f).runT P w es = _
 induction s generalizing w es with
 | pure a => rfl
 | load m a k ih =>
  simp only [Sem.bind,Sem.runT]
  split
  ·exact ih _ _ _
  ·split
   ·exact ih _ _ _
   ·rfl
 | store m a v k ih =>
  cases v <;> simp only [Sem.bind,Sem.runT] <;> first | rfl | (split <;> first | (split <;> first | rfl | exact ih _ _) | skip)
  all_goals (first | rfl | exact ih _ _ | (split <;> first | exact ih _ _ | rfl))
 | new o k ih => exact ih _ _ _
 | shape r k ih => exact ih _ _ _
 | freeze a n k ih => exact ih _ _
 | frozen a k ih => exact ih _ _ _
 | getObj r k ih =>
  simp only [Sem.bind,Sem.runT]
  split <;> first | rfl | exact ih _ _ _
 | setObj r o k ih =>
  simp only [Sem.bind,Sem.runT]
  split <;> first | rfl | exact ih _ _
 | choose q k ih =>
  simp only [Sem.bind,Sem.runT]
  split <;> exact ih _ _ _
 | sys c k ih => exact ih _ _ _
 | program k ih => exact ih _ _ _
 | mark m k ih => exact ih _ _
 | halt h => rfl
def PureT (P : Program) {α : Type} (s : Sem α) (a : α) : Prop := ∀ W es,s.runT P W es = (.ok a W,es)
theorem PureT.pure {P : Program} {α : Type} (a : α) : PureT P (Pure.pure a : Sem α) a := fun _ _ => rfl
theorem PureT.bind {P : Program} {α β : Type} {s : Sem α} {g : α → Sem β} {a : α} {b : β} (h : PureT P s a) (h' : PureT P (g a) b) : PureT P (s >>= g) b := fun W es => by
 rw [runT_bind,h W es]
 exact h' W es
theorem PureT.map {P : Program} {α β : Type} {s : Sem α} {g : α → β} {a : α} (h : PureT P s a) : PureT P (Functor.map g s) (g a) := PureT.bind (g := fun x => Pure.pure (g x)) h (PureT.pure _)
theorem PureT.zeroValue {P : Program} {t : TypeId} {ag : Bool} {sz by_ : Nat} {z : Value} (h : tyF P t = some (ag,sz,some z,by_)) : PureT P (zeroValue t) z := by
 obtain ⟨d,i,_,h2,_,_,h5,_⟩ := tyF_parts h
 unfold Go.zeroValue
 refine PureT.bind (a := i) ?_ ?_
 ·unfold typeInfo
  refine PureT.bind (a := P) (fun _ _ => rfl) ?_
  simp only [h2]
  exact PureT.pure _
 ·simp only [h5]
  exact PureT.pure _
theorem PureT.callFunc {P : Program} {g : FuncId} {fn : Func} {args : Array Value} (hf : P.funcs[g]? = some fn) (hb : fn.body.isSome = true) (hname : (fn.name == "runtime.NumGoroutine") = false) : PureT P (callFunc g args) (.enter g args) := by
 unfold Go.callFunc
 refine PureT.bind (a := P) (fun _ _ => rfl) ?_
 have h4 : fn.body.isNone = false := by cases hb' : fn.body <;> simp_all
 simp only [hf,hname,Bool.false_eq_true,if_false,h4]
 exact PureT.pure _
section
variable {P : Program} {Post : Value → World → Prop} {W₀ : World} {chs : List Nat} {Γ : List Script}
variable {f : FuncId} {ro : Option Nat} {ds : Dz} {cs : List Frame} {n : Nat} {E : Env} {H : Facts} {k : List Item} {ops : Array Oper} {i : Nat} {rest : List Nat} {o : Oper}
theorem At.go {x : Operand} {g : FuncId} {first cap : Array Value} {Hc : Facts} {s : Script} (ho : ops[i]? = some o) (hop : o.op = .go { callee := .value x,args := #[],argTypes := #[] }) (hw : wantE ops o E = some true) (hd : o.dst = none)
  (hx : ev E x = some (.func (.func g) first cap)) (hc : ∀ f ∈ Hc,f ∈ H ∧ f.isOwn = false) (hs : ∀ p ∈ s,p.1 ∈ chs) (hrun : ∃ T,RunS P T (born P { target := .fn (.func g) cap,args := first }) Hc s)
  (h : At (mainLg P Post W₀ chs (Γ ++ [s])) f ro ds cs n E H (.inRegion ops rest :: k)) : At (mainLg P Post W₀ chs Γ) f ro ds cs n E H (.inRegion ops (i :: rest) :: k) := by
 intro tmps hn hE
 have hfx : (Fr f ro ds tmps (.inRegion ops (i :: rest) :: k)).eval x = .func (.func g) first cap := ev_fr hE _ _ _ _ hx
 refine JJ.spawn (g' := G (Fr f ro ds tmps (.inRegion ops rest :: k)) cs) rfl (fun W _ => ?_) hc hs hrun (h tmps hn hE)
 have hr : (execOp (Fr f ro ds tmps (.inRegion ops (i :: rest) :: k)).eval o).runT P W #[] = (.ok (.spawn { target := .fn (.func g) cap,args := first }) W,#[]) := by
  unfold execOp
  rw [hop]
  simp only [resolve,hfx,Deferred.ofValue]
  simp
 rw [stepG_op0 ho hw hE (by rw [hop];intro c;simp) hr,apply_spawn fr_kind rfl hr,fr_finish,ho]
 simp [hd,putT]
def botF (P : Program) : Frame := { (default : Frame) with fn := P.funcs.size,defers := [],mode := .panicking [goexitEntry] }
theorem born_step {g : FuncId} {fn : Func} {body : Code} {args cap : Array Value} (hf : P.funcs[g]? = some fn) (hb : fn.body = some body) (hname : (fn.name == "runtime.NumGoroutine") = false) (W : World) :
  stepG P false (born P { target := .fn (.func g) cap,args := args }) W = .go (G (Fr g none ⟨true,[]⟩ ((args ++ cap) ++ Array.replicate (fn.ntmps - (args ++ cap).size) undef) [.code body]) [botF P]) W #[] := by
 have h := PureT.callFunc (args := args ++ cap) hf (by rw [hb];rfl) hname W #[]
 simp only [born,stepG,unwind,callDeferred,invoke,h]
 simp [seen_nil,GStep.after,G,Frame.enter,Fr,botF,hf,hb]
theorem run_born {g : FuncId} {fn : Func} {body : Code} {args cap : Array Value} {Hc : Facts} {c : Nat} {v : Value} {rest : Script} (hf : P.funcs[g]? = some fn) (hb : fn.body = some body) (hname : (fn.name == "runtime.NumGoroutine") = false) (hn : (args ++ cap).size ≤ fn.ntmps)
  (h : At (runLg P c v rest) g none ⟨true,[]⟩ [botF P] fn.ntmps (envOf 0 (args ++ cap).toList) Hc [.code body]) : ∃ T,RunS P T (born P { target := .fn (.func g) cap,args := args }) Hc ((c,v) :: rest) := by
 refine (runLg P c v rest).same (g' := G (Fr g none ⟨true,[]⟩ ((args ++ cap) ++ Array.replicate (fn.ntmps - (args ++ cap).size) undef) [.code body]) [botF P]) rfl (born_step hf hb hname) ?_;refine h _ (by simp at hn ⊢;omega) ?_;refine envOf_ok fun j v hj => ?_
 have hlt : j < (args ++ cap).size := by
  have := (List.getElem?_eq_some_iff.1 hj).1
  simpa using this
 rw [Nat.zero_add,Array.getElem?_append_left hlt]
 rw [← Array.getElem?_toList];exact hj
theorem At.send {x y : Operand} {c c' : Nat} {v v' : Value} {rest' : Script} (ho : ops[i]? = some o) (hop : o.op = .send x y) (hw : wantE ops o E = some true) (hd : o.dst = none)
  (hx : ev E x = some (.chan (some c))) (hy : ev E y = some v) (h : At (runLg P c' v' rest') f ro ds cs n E H (.inRegion ops rest :: k)) : At (runLg P c v ((c',v') :: rest')) f ro ds cs n E H (.inRegion ops (i :: rest) :: k) := by
 intro tmps hn hE
 obtain ⟨T,hT⟩ := h tmps hn hE
 have hfx : (Fr f ro ds tmps (.inRegion ops (i :: rest) :: k)).eval x = .chan (some c) := ev_fr hE _ _ _ _ hx
 have hfy : (Fr f ro ds tmps (.inRegion ops (i :: rest) :: k)).eval y = v := ev_fr hE _ _ _ _ hy
 refine ⟨.node fun _ => T,rfl,.inr ⟨.tuple #[],G (Fr f ro ds tmps (.inRegion ops (i :: rest) :: k)) cs,fun W => ?_,fun W => ?_⟩⟩
 ·have hr : (execOp (Fr f ro ds tmps (.inRegion ops (i :: rest) :: k)).eval o).runT P W #[] = (.ok (.comm #[scase c v (.tuple #[])] true .send) W,#[]) := by
   unfold execOp
   rw [hop]
   simp only [hfx,hfy]
   rfl
  rw [stepG_op0 ho hw hE (by rw [hop];intro c;simp) hr,apply_comm fr_kind hr]
 ·have e : Conc.served (G (Fr f ro ds tmps (.inRegion ops (i :: rest) :: k)) cs) undef = G (Fr f ro ds tmps (.inRegion ops rest :: k)) cs := by
   show G ((Fr f ro ds tmps (.inRegion ops (i :: rest) :: k)).finish undef) cs = _
   rw [fr_finish,ho]
   simp [hd,putT]
  rw [e];exact hT
theorem At.sendLast {x y : Operand} {c : Nat} {v : Value} (ho : ops[i]? = some o) (hop : o.op = .send x y) (hw : wantE ops o E = some true) (hd : o.dst = none)
  (hx : ev E x = some (.chan (some c))) (hy : ev E y = some v) (h : ∀ tmps : Array Value,∃ T,RunS P T (G (Fr f ro ds tmps (.inRegion ops rest :: k)) cs) H []) : At (runLg P c v []) f ro ds cs n E H (.inRegion ops (i :: rest) :: k) := by
 intro tmps hn hE
 obtain ⟨T,hT⟩ := h tmps
 have hfx : (Fr f ro ds tmps (.inRegion ops (i :: rest) :: k)).eval x = .chan (some c) := ev_fr hE _ _ _ _ hx
 have hfy : (Fr f ro ds tmps (.inRegion ops (i :: rest) :: k)).eval y = v := ev_fr hE _ _ _ _ hy
 refine ⟨.node fun _ => T,rfl,.inr ⟨.tuple #[],G (Fr f ro ds tmps (.inRegion ops (i :: rest) :: k)) cs,fun W => ?_,fun W => ?_⟩⟩
 ·have hr : (execOp (Fr f ro ds tmps (.inRegion ops (i :: rest) :: k)).eval o).runT P W #[] = (.ok (.comm #[scase c v (.tuple #[])] true .send) W,#[]) := by
   unfold execOp
   rw [hop]
   simp only [hfx,hfy]
   rfl
  rw [stepG_op0 ho hw hE (by rw [hop];intro c;simp) hr,apply_comm fr_kind hr]
 ·have e : Conc.served (G (Fr f ro ds tmps (.inRegion ops (i :: rest) :: k)) cs) undef = G (Fr f ro ds tmps (.inRegion ops rest :: k)) cs := by
   show G ((Fr f ro ds tmps (.inRegion ops (i :: rest) :: k)).finish undef) cs = _
   rw [fr_finish,ho]
   simp [hd,putT]
  rw [e];exact hT
theorem leave_step {g g' : Goroutine} (hr : g.status = .running) (hs : ∀ W,stepG P false g W = .go g' W #[]) (h : ∃ T,RunS P T g' [] []) : ∃ T,RunS P T g H [] := by
 obtain ⟨T,hT⟩ := h
 exact ⟨.node fun _ => T,hr,g',hs,fun _ => hT⟩
theorem leave_end {fn : Func} {tmps : Array Value} {todo : List Item} (hf : P.funcs[f]? = some fn) (hres : fn.results = #[]) (hs : todo = [] ∨ ∃ k',todo = .code .ret :: k') : ∃ T,RunS P T (G (Fr f none ⟨true,[]⟩ tmps todo) [botF P]) H [] := by
 refine leave_step (g' := G (retMode (Fr f none ⟨true,[]⟩ tmps todo)) [botF P]) rfl (fun W => ?_) ?_
 ·rcases hs with rfl | ⟨k',rfl⟩ <;> simp [G,stepG,stepG.exec,Fr,retMode]
 refine leave_step (g' := G (botF P) []) rfl (fun W => ?_) ?_
 ·have h : (results fn tmps).runT P W #[] = (.ok (.tuple #[]) W,#[]) := by
   unfold results
   rw [hres,Array.mapM_eq_mapM_toList,show (#[] : Array ResultVar).toList = [] from rfl,List.mapM_nil]
   refine PureT.bind (a := #[]) ?_ ?_ W #[]
   ·exact PureT.map (PureT.pure [])
   ·exact PureT.pure _
  simp only [G,stepG,retMode,Fr,unwind,hf,h]
  simp [doReturn,botF,seen_nil,GStep.after,goexitEntry]
 refine ⟨.node fun _ => .leaf,rfl,{ G (botF P) [] with status := .finished },fun W => ?_,fun _ => ⟨rfl,rfl⟩⟩
 simp [G,stepG,unwind,botF,goexitEntry,Frame.catches]
 rfl
theorem leave_regionEnd {ops : Array Oper} {tmps : Array Value} (h : ∃ T,RunS P T (G (Fr f ro ds tmps k) cs) [] []) : ∃ T,RunS P T (G (Fr f ro ds tmps (.inRegion ops [] :: k)) cs) H [] :=
 leave_step rfl (fun W => by simp [G,stepG,stepG.exec,Fr]) h
theorem pure_zero1 {P : Program} (φ : Operand → Value) (x : Operand) {t : TypeId} {ag : Bool} {sz : Nat} {z : List Value} {zv : Value} {by_ : Nat} (ht : tyF P t = some (ag,sz,some zv,by_)) :
  PureT P (do Pure.pure { chan := φ x,send := (none : Option Operand).map φ,zero := ← zeroValue t : CommCase }) { chan := φ x,send := none,zero := zv } :=
 (PureT.zeroValue ht).bind (PureT.pure _)
theorem At.select2 {d : Nat} {x y : Operand} {tx ty : TypeId} {c c' : Nat} {agx agy : Bool} {sx sy bx by_ : Nat} {zx zy : Value} (ho : ops[i]? = some o) (hop : o.op = .select #[{ chan := x,send := none,elem := tx },{ chan := y,send := none,elem := ty }] true)
  (hw : wantE ops o E = some true) (hd : o.dst = some d) (hdn : Nat.blt d n = true) (hx : ev E x = some (.chan (some c))) (hy : ev E y = some (.chan (some c'))) (htx : tyF P tx = some (agx,sx,some zx,bx)) (hty : tyF P ty = some (agy,sy,some zy,by_))
  (hcx : c ∈ chs) (hcy : c' ∈ chs) (hprog : ∃ s ∈ Γ,s ≠ []) (hcov : ∀ s ∈ Γ,∀ (a : Nat) (v : Value) (rest : Script),s = (a,v) :: rest → a = c ∨ a = c')
  (h0 : ∀ (j : Nat) (v : Value) (r : Script),Γ[j]? = some ((c,v) :: r) → At (mainLg P Post W₀ chs (Γ.set j r)) f ro ds cs n ((d,.tuple #[goInt 0,.bool true,v,zy]) :: E) H (.inRegion ops rest :: k))
  (h1 : ∀ (j : Nat) (v : Value) (r : Script),Γ[j]? = some ((c',v) :: r) → At (mainLg P Post W₀ chs (Γ.set j r)) f ro ds cs n ((d,.tuple #[goInt 1,.bool true,zx,v]) :: E) H (.inRegion ops rest :: k)) :
  At (mainLg P Post W₀ chs Γ) f ro ds cs n E H (.inRegion ops (i :: rest) :: k) := by
 intro tmps hn hE
 have hfx : (Fr f ro ds tmps (.inRegion ops (i :: rest) :: k)).eval x = .chan (some c) := ev_fr hE _ _ _ _ hx
 have hfy : (Fr f ro ds tmps (.inRegion ops (i :: rest) :: k)).eval y = .chan (some c') := ev_fr hE _ _ _ _ hy
 refine JJ.select (g₂ := G (Fr f ro ds tmps (.inRegion ops (i :: rest) :: k)) cs) (cases := #[rcase c zx,rcase c' zy]) (shape := .select) rfl (fun W _ => ?_) (fun cc hcc => ?_) hprog (fun s hs a v r e => ?_) fun j a v r q z hj hq => ?_
 ·have hr : (execOp (Fr f ro ds tmps (.inRegion ops (i :: rest) :: k)).eval o).runT P W #[] = (.ok (.comm #[rcase c zx,rcase c' zy] true .select) W,#[]) := by
   unfold execOp
   rw [hop]
   simp only [Array.mapM_eq_mapM_toList,List.mapM_cons,List.mapM_nil]
   have e1 := pure_zero1 (z := []) (Fr f ro ds tmps (.inRegion ops (i :: rest) :: k)).eval x htx
   have e2 := pure_zero1 (z := []) (Fr f ro ds tmps (.inRegion ops (i :: rest) :: k)).eval y hty
   rw [hfx] at e1
   rw [hfy] at e2
   simp only [hfx,hfy]
   refine PureT.bind (a := #[rcase c zx,rcase c' zy]) (b := Next.comm #[rcase c zx,rcase c' zy] true .select) ?_ (PureT.pure (Next.comm #[rcase c zx,rcase c' zy] true .select)) W #[]
   refine PureT.map (a := [rcase c zx,rcase c' zy]) ?_;refine PureT.bind e1 ?_
   refine PureT.bind (a := [rcase c' zy]) ?_ (PureT.pure _)
   refine PureT.bind e2 ?_
   exact PureT.bind (PureT.pure []) (PureT.pure _)
  rw [stepG_op0 ho hw hE (by rw [hop];intro c;simp) hr,apply_comm fr_kind hr]
 ·have : cc = rcase c zx ∨ cc = rcase c' zy := by simpa using hcc
  rcases this with rfl | rfl
  ·exact ⟨c,zx,hcx,rfl⟩
  ·exact ⟨c',zy,hcy,rfl⟩
 ·rcases hcov s hs a v r e with rfl | rfl
  ·exact ⟨0,zx,rfl⟩
  ·exact ⟨1,zy,rfl⟩
 ·have hfin : ∀ u,G ((Fr f ro ds tmps (.inRegion ops (i :: rest) :: k)).finish u) cs = G (Fr f ro ds (tmps.setIfInBounds d u) (.inRegion ops rest :: k)) cs := fun u => by
   rw [fr_finish,ho]
   simp [hd,putT]
  have hput : ∀ {u : Value} {Γ' : List Script},At (mainLg P Post W₀ chs Γ') f ro ds cs n ((d,u) :: E) H (.inRegion ops rest :: k) → JJ P Post W₀ chs Γ' (G (Fr f ro ds (tmps.setIfInBounds d u) (.inRegion ops rest :: k)) cs) H := fun h =>
   h _ (by rw [Array.size_setIfInBounds];exact hn) (Env.ok_put hE (by rw [hn];exact blt_lt hdn) _)
  match q,hq with
  | 0,hq =>
   have e : c = a := by
    have : rcase c zx = rcase a z := by simpa using hq
    simpa [rcase] using congrArg CommCase.chan this
   subst e
   show JJ P Post W₀ chs _ (G ((Fr f ro ds tmps (.inRegion ops (i :: rest) :: k)).finish (commResult #[rcase c zx,rcase c' zy] .select 0 v true)) cs) H
   rw [hfin,show commResult #[rcase c zx,rcase c' zy] .select 0 v true = .tuple #[goInt 0,.bool true,v,zy] from by simp [commResult,rcase]]
   exact hput (h0 j v r hj)
  | 1,hq =>
   have e : c' = a := by
    have : rcase c' zy = rcase a z := by simpa using hq
    simpa [rcase] using congrArg CommCase.chan this
   subst e
   show JJ P Post W₀ chs _ (G ((Fr f ro ds tmps (.inRegion ops (i :: rest) :: k)).finish (commResult #[rcase c zx,rcase c' zy] .select 1 v true)) cs) H
   rw [hfin,show commResult #[rcase c zx,rcase c' zy] .select 1 v true = .tuple #[goInt 1,.bool true,zx,v] from by simp [commResult,rcase]]
   exact hput (h1 j v r hj)
  | q + 2,hq => simp at hq
theorem At.over {fn : Func} {todo : List Item} {rs : List ResultVar} {vs : List Value} (hf : P.funcs[f]? = some fn) (hs : todo = [] ∨ ∃ k',todo = .code .ret :: k') (hr : fn.results.toList = rs) (hv : ResVs P E H rs vs) (hi : P.inits.idxOf? f = none)
  (hp : ∀ w,Fin W₀ w → Post (resVal vs) w) : At (mainLg P Post W₀ [] []) f none d0 [] n E H todo := by
 intro tmps hn hE
 refine (mainLg P Post W₀ [] []).same (g' := G (retMode (Fr f none d0 tmps todo)) []) rfl (fun W => ?_) ?_
 ·rcases hs with rfl | ⟨k',rfl⟩ <;> simp [G,stepG,stepG.exec,Fr,retMode]
 refine JJ.ended (v := resVal vs) rfl (fun W hW => ?_) hp
 obtain ⟨v,W',es,H',hrr,ht,rfl,rfl⟩ := K.sound (k_results (Q := fun v H' => v = resVal vs ∧ H' = H) hE hr hv ⟨rfl,rfl⟩) (Tr.refl hW)
 refine ⟨W',seen P f es,_,?_,⟨ht.holds,ht.os,ht.tape,ht.output,ht.size,ht.keep,ht.mine,ht.seen,fun e he => ht.evs e (mem_seen he)⟩⟩
 simp only [G,stepG,retMode,Fr]
 simp only [unwind,hf,hrr,doReturn,hi]
 simp [GStep.after]
end
end Go.Gx
end
