/-
  CanvasTexts: the logic of the walk, the contracts of the program's functions, the plain law and the card.
-/
import Derived.Conc.Own
import Derived.Conc.Listed
import Derived.Laws.Alloc2
import Derived.IntWalk
import Derived.Orders
set_option linter.unusedSimpArgs false
set_option linter.unusedVariables false
section
namespace Go.Gx
open Go Go.Conc
theorem Z.{u} {α : Sort u} {a : α} : a = a := rfl
theorem O : True := trivial
inductive Fact where
 | own (r : Nat) (o : Obj)
 | seg (b off : Nat) (vs : List Value)
def Fact.block : Fact → Nat
 | .own r _ => r
 | .seg b _ _ => b
def Fact.isOwn : Fact → Bool
 | .own _ _ => true
 | .seg _ _ _ => false
def Fact.Is (W : World) : Fact → Prop
 | .own r o => W.heap[r]? = some o
 | .seg b off vs => b < W.heap.size ∧ ∀ k v,vs[k]? = some v → W.cell? ⟨b,off + k,none⟩ = some v
def Fact.apart (f g : Fact) : Prop := (f.isOwn = true ∨ g.isOwn = true) → f.block ≠ g.block
theorem Fact.apart_symm {f g : Fact} (h : f.apart g) : g.apart f := fun x => (h x.symm).symm
abbrev Facts := List Fact
def Holds (H : Facts) (W : World) : Prop := H.Pairwise Fact.apart ∧ ∀ f ∈ H,f.Is W
theorem Fact.Is.lt {f : Fact} {W : World} (h : f.Is W) : f.block < W.heap.size := by
 cases f with
 | own r o => exact (Array.getElem?_eq_some_iff.1 (show W.heap[r]? = some o from h)).1
 | seg b off vs => exact h.1
def Neut (m : Mark) : Prop := m = .noRoom ∨ ∃ f,m = .extern f
def EvOk (H : Facts) (n m : Nat) : Event → Prop
 | ⟨.cell a,false,false⟩ => (∃ f ∈ H,f.block = a.block) ∨ (n ≤ a.block ∧ a.block < m)
 | ⟨.cell a,true,false⟩ => (∃ f ∈ H,f.isOwn = true ∧ f.block = a.block) ∨ (n ≤ a.block ∧ a.block < m)
 | ⟨.obj r,false,false⟩ => (∃ f ∈ H,f.block = r) ∨ (n ≤ r ∧ r < m)
 | ⟨.obj r,true,false⟩ => (∃ f ∈ H,f.isOwn = true ∧ f.block = r) ∨ (n ≤ r ∧ r < m)
 | ⟨.mark .noRoom,_,_⟩ => True
 | ⟨.mark (.extern _),_,_⟩ => True
 | _ => False
structure Tr (H : Facts) (W : World) (es : Array Event) (W' : World) (H' : Facts) : Prop where
 holds : Holds H' W'
 os : W'.os = W.os
 tape : W'.tape = W.tape
 output : W'.output = W.output
 size : W.heap.size ≤ W'.heap.size
 keep : ∀ b,b < W.heap.size → (∀ f ∈ H,f.isOwn = true → f.block ≠ b) → W'.heap[b]? = W.heap[b]?
 mine : ∀ f ∈ H',f.isOwn = true → (∃ g ∈ H,g.isOwn = true ∧ g.block = f.block) ∨ W.heap.size ≤ f.block
 seen : ∀ f ∈ H',(∃ g ∈ H,g.block = f.block) ∨ W.heap.size ≤ f.block
 evs : ∀ e ∈ es,EvOk H W.heap.size W'.heap.size e
theorem Tr.refl {H : Facts} {W : World} (h : Holds H W) : Tr H W #[] W H :=
 ⟨h,rfl,rfl,rfl,Nat.le_refl _,fun _ _ _ => rfl,fun f hf ho => .inl ⟨f,hf,ho,rfl⟩,fun f hf => .inl ⟨f,hf,rfl⟩,fun e he => absurd he (by simp)⟩
def Sub (H H₂ : Facts) : Prop := ∃ R,(H ++ R).Perm H₂
theorem Sub.refl (H : Facts) : Sub H H := ⟨[],by simp⟩
theorem Sub.of_perm {H H₂ : Facts} (h : H.Perm H₂) : Sub H H₂ := ⟨[],by simpa using h⟩
theorem Sub.trans {A B C : Facts} (h : Sub A B) (h' : Sub B C) : Sub A C := by
 obtain ⟨R,hR⟩ := h
 obtain ⟨S,hS⟩ := h'
 refine ⟨R ++ S,?_⟩
 rw [← List.append_assoc]
 exact (hR.append_right S).trans hS
theorem Sub.cons {A B : Facts} (f : Fact) (h : Sub A B) : Sub (f :: A) (f :: B) := by
 obtain ⟨R,hR⟩ := h
 exact ⟨R,hR.cons f⟩
theorem Sub.drop {A B : Facts} (f : Fact) (h : Sub A B) : Sub A (f :: B) := by
 obtain ⟨R,hR⟩ := h
 refine ⟨f :: R,?_⟩
 exact (List.perm_middle).trans (hR.cons f)
theorem Sub.tail (f : Fact) (H : Facts) : Sub H (f :: H) := (Sub.refl H).drop f
theorem Sub.append_left (A H : Facts) : Sub H (A ++ H) := ⟨A,List.perm_append_comm⟩
theorem Sub.mem {A B : Facts} (h : Sub A B) {f : Fact} (hf : f ∈ A) : f ∈ B := by
 obtain ⟨R,hR⟩ := h
 exact hR.mem_iff.1 (List.mem_append_left _ hf)
theorem Sub.holds {A B : Facts} (h : Sub A B) {W : World} (hB : Holds B W) : Holds A W := by
 refine ⟨?_,fun f hf => hB.2 f (h.mem hf)⟩
 obtain ⟨R,hR⟩ := h
 have := (hR.pairwise_iff (fun h => Fact.apart_symm h)).2 hB.1
 exact (List.pairwise_append.1 this).1
structure Lg (P : Program) (main : Bool) where
 J : Goroutine → Facts → Prop
 closed : ∀ g H,g.status = .running → (∀ W,Holds H W → ∃ g' W' es H',stepG P main g W = .go g' W' es ∧ Tr H W es W' H' ∧ J g' H') → J g H
 weak : ∀ g H H₂,Sub H H₂ → J g H → J g H₂
 share : ∀ g b c T fr H,J g (.seg b 0 c.toList :: H) → J g (.own b (.cells c T fr) :: H)
theorem Lg.same {P : Program} {main : Bool} (L : Lg P main) {g g' : Goroutine} {H : Facts} (hr : g.status = .running) (hs : ∀ W,stepG P main g W = .go g' W #[]) (h : L.J g' H) : L.J g H :=
 L.closed g H hr fun W hW => ⟨g',W,#[],H,hs W,Tr.refl hW,h⟩
abbrev Env := List (Nat × Value)
def look : Env → Nat → Option Value
 | [],_ => none
 | (k,v) :: E,t => bif Nat.beq k t then some v else look E t
def Env.ok (E : Env) (tmps : Array Value) : Prop := ∀ t v,look E t = some v → tmps[t]? = some v
theorem look_cons (k : Nat) (v : Value) (E : Env) (t : Nat) : look ((k,v) :: E) t = if k = t then some v else look E t := by
 show (bif Nat.beq k t then some v else look E t) = _
 by_cases h : k = t
 ·subst h;simp [cond]
 ·have : Nat.beq k t = false := by
   cases hb : Nat.beq k t with
   | false => rfl
   | true => exact absurd (Nat.eq_of_beq_eq_true hb) h
  simp [h,this,cond]
theorem Env.ok_nil (tmps : Array Value) : Env.ok [] tmps := fun t v h => by cases h
theorem Env.ok_put {E : Env} {tmps : Array Value} (h : E.ok tmps) {d : Nat} (hd : d < tmps.size) (v : Value) : Env.ok ((d,v) :: E) (tmps.setIfInBounds d v) := by
 intro t u hu
 rw [look_cons] at hu
 by_cases e : d = t
 ·subst e
  simp at hu
  subst hu
  simp [hd]
 ·rw [if_neg e] at hu
  rw [Array.getElem?_setIfInBounds_ne e]
  exact h t u hu
structure Dz where
 late : Bool
 ds : List Deferred
abbrev d0 : Dz := ⟨false,[]⟩
def Fr (f : FuncId) (ro : Option Nat) (ds : Dz) (tmps : Array Value) (todo : List Item) : Frame :=
 { fn := f,tmps,todo,defers := ds.ds,mode := .run,kind := bif ds.late then .deferred else .normal,roundOf := ro }
section
variable {P : Program} {main : Bool}
def At (L : Lg P main) (f : FuncId) (ro : Option Nat) (ds : Dz) (cs : List Frame) (n : Nat) (E : Env) (H : Facts) (todo : List Item) : Prop :=
 ∀ tmps : Array Value,tmps.size = n → E.ok tmps → L.J (G (Fr f ro ds tmps todo) cs) H
variable {L : Lg P main} {f : FuncId} {ro : Option Nat} {ds : Dz} {cs : List Frame} {n : Nat} {E : Env} {H : Facts} {k : List Item}
theorem At.weakE {E' : Env} {todo : List Item} (h : At L f ro ds cs n E' H todo) (hE : ∀ t v,look E' t = some v → look E t = some v) : At L f ro ds cs n E H todo :=
 fun tmps hs hE' => h tmps hs fun t v hv => hE' t v (hE t v hv)
theorem At.weakH {H' : Facts} {todo : List Item} (h : At L f ro ds cs n E H' todo) (hH : Sub H' H) : At L f ro ds cs n E H todo :=
 fun tmps hs hE => L.weak _ _ _ hH (h tmps hs hE)
theorem At.share {b : Nat} {c : Array Value} {T : TypeId} {fr : Nat × Nat} {todo : List Item} (h : At L f ro ds cs n E (.seg b 0 c.toList :: H) todo) : At L f ro ds cs n E (.own b (.cells c T fr) :: H) todo :=
 fun tmps hs hE => L.share _ _ _ _ _ _ (h tmps hs hE)
theorem At.skip (h : At L f ro ds cs n E H k) : At L f ro ds cs n E H (.code .skip :: k) := fun tmps hs hE =>
 L.same rfl (fun W => by simp [G,stepG,stepG.exec,Fr]) (h tmps hs hE)
theorem At.label {l : Nat} (h : At L f ro ds cs n E H k) : At L f ro ds cs n E H (.code (.label l) :: k) := fun tmps hs hE =>
 L.same rfl (fun W => by simp [G,stepG,stepG.exec,Fr]) (h tmps hs hE)
theorem At.inBlock {id : Nat} (h : At L f ro ds cs n E H k) : At L f ro ds cs n E H (.inBlock id :: k) := fun tmps hs hE =>
 L.same rfl (fun W => by simp [G,stepG,stepG.exec,Fr]) (h tmps hs hE)
theorem At.inScope {c : Code} (h : At L f ro ds cs n E H k) : At L f ro ds cs n E H (.inScope c :: k) := fun tmps hs hE =>
 L.same rfl (fun W => by simp [G,stepG,stepG.exec,Fr]) (h tmps hs hE)
theorem At.seq {x y : Code} (h : At L f ro ds cs n E H (.code x :: .code y :: k)) : At L f ro ds cs n E H (.code (.seq x y) :: k) := fun tmps hs hE =>
 L.same rfl (fun W => by simp [G,stepG,stepG.exec,Fr]) (h tmps hs hE)
theorem At.scope {x : Code} (h : At L f ro ds cs n E H (.code x :: .inScope x :: k)) : At L f ro ds cs n E H (.code (.scope x) :: k) := fun tmps hs hE =>
 L.same rfl (fun W => by simp [G,stepG,stepG.exec,Fr]) (h tmps hs hE)
theorem At.block {id : Nat} {c : Code} (h : At L f ro ds cs n E H (.code c :: .inBlock id :: k)) : At L f ro ds cs n E H (.code (.block id c) :: k) := fun tmps hs hE =>
 L.same rfl (fun W => by simp [G,stepG,stepG.exec,Fr]) (h tmps hs hE)
theorem At.loop1 {c : Code} (h : At L f ro ds cs n E H (.code c :: .inLoop c :: k)) : At L f ro ds cs n E H (.code (.loop c) :: k) := fun tmps hs hE =>
 L.same rfl (fun W => by simp [G,stepG,stepG.exec,Fr]) (h tmps hs hE)
theorem At.inLoop {c : Code} (h : At L f ro ds cs n E H (.code c :: .inLoop c :: k)) : At L f ro ds cs n E H (.inLoop c :: k) := fun tmps hs hE =>
 L.same rfl (fun W => by simp [G,stepG,stepG.exec,Fr]) (h tmps hs hE)
theorem At.exit {id : Nat} {k' : List Item} (he : exitTo id k = some k') (h : At L f ro ds cs n E H k') : At L f ro ds cs n E H (.code (.exit id) :: k) := fun tmps hs hE =>
 L.same rfl (fun W => by simp [G,stepG,stepG.exec,Fr,he]) (h tmps hs hE)
def ev (E : Env) : Operand → Option Value
 | .tmp t => look E t
 | .const v => some v
 | .global g => some (.pointer (some ⟨g,0,none⟩))
 | .func g => some (.func (.func g) #[] #[])
theorem ev_fr {E : Env} {tmps : Array Value} (hE : E.ok tmps) (f : FuncId) (ro : Option Nat) (ds : Dz) (todo : List Item) {x : Operand} {v : Value} (h : ev E x = some v) : (Fr f ro ds tmps todo).eval x = v := by
 cases x with
 | tmp t => have := hE t v h;simp [Frame.eval,Fr,Array.getD_eq_getD_getElem?,this]
 | const c => exact Option.some.inj h
 | global g => exact Option.some.inj h
 | func g => exact Option.some.inj h
theorem At.cond {c : Operand} {x y : Code} {t : Bool} (hc : ev E c = some (.bool t)) (h : At L f ro ds cs n E H (.code (bif t then x else y) :: k)) : At L f ro ds cs n E H (.code (.cond c x y) :: k) := fun tmps hs hE =>
 L.same rfl (fun W => by
  have := ev_fr hE f ro ds (.code (.cond c x y) :: k) hc
  simp only [Fr] at this
  cases t <;> simp [G,stepG,stepG.exec,Fr,this]) (h tmps hs hE)
theorem At.region {id : Nat} {ops : Array Oper} (h : At L f ro ds cs n E H (.inRegion ops (List.range ops.size) :: k)) : At L f ro ds cs n E H (.code (.region id ops false) :: k) := fun tmps hs hE =>
 L.same rfl (fun W => by simp [G,stepG,stepG.exec,Fr]) (h tmps hs hE)
theorem Ab {ops : Array Oper} (h : At L f ro ds cs n E H k) : At L f ro ds cs n E H (.inRegion ops [] :: k) := fun tmps hs hE =>
 L.same rfl (fun W => by simp [G,stepG,stepG.exec,Fr]) (h tmps hs hE)
theorem At.loop {X : Type} {c : Code} (Ei : X → Env) (Hi : X → Facts) (μ : X → Nat) (x₀ : X)
  (h : ∀ x,(∀ y,μ y < μ x → At L f ro ds cs n (Ei y) (Hi y) (.inLoop c :: k)) → At L f ro ds cs n (Ei x) (Hi x) (.code c :: .inLoop c :: k))
  (hE : ∀ t v,look (Ei x₀) t = some v → look E t = some v) (hH : Sub (Hi x₀) H) : At L f ro ds cs n E H (.code (.loop c) :: k) := by
 have key : ∀ m x,μ x = m → At L f ro ds cs n (Ei x) (Hi x) (.code c :: .inLoop c :: k) := by
  intro m
  induction m using Nat.strongRecOn with
  | _ m ih => exact fun x hx => h x fun y hy => At.inLoop (ih _ (hx ▸ hy) y rfl)
 exact At.loop1 (((key _ x₀ rfl).weakE hE).weakH hH)
end
end Go.Gx
end
section
namespace Go.Gx
open Go Go.Conc
def Fact.cell? : Fact → Nat → Option Value
 | .own _ (.cells c _ _),i => c[i]?
 | .own _ _,_ => none
 | .seg _ off vs,i => if off ≤ i then vs[i - off]? else none
def Known (H : Facts) (a : Addr) (v : Value) : Prop := a.spot = none ∧ ∃ f ∈ H,f.block = a.block ∧ f.cell? a.off = some v
inductive Upd : Facts → Fact → Fact → Facts → Prop
 | head (f g : Fact) (H : Facts) : Upd (f :: H) f g (g :: H)
 | tail {f g : Fact} {H H' : Facts} (x : Fact) (h : Upd H f g H') : Upd (x :: H) f g (x :: H')
theorem Upd.split {H H' : Facts} {f g : Fact} (h : Upd H f g H') : ∃ A B,H = A ++ f :: B ∧ H' = A ++ g :: B := by
 induction h with
 | head f g H => exact ⟨[],H,rfl,rfl⟩
 | tail x h ih =>
  obtain ⟨A,B,rfl,rfl⟩ := ih
  exact ⟨x :: A,B,rfl,rfl⟩
theorem Upd.mem {H H' : Facts} {f g : Fact} (h : Upd H f g H') : f ∈ H := by
 obtain ⟨A,B,rfl,rfl⟩ := h.split;simp
def StoreTo (H : Facts) (a : Addr) (v : Value) (H' : Facts) : Prop :=
 a.spot = none ∧ ∃ c T,a.off < c.size ∧ Upd H (.own a.block (.cells c T (0,0))) (.own a.block (.cells (c.setIfInBounds a.off v) T (0,0))) H'
def ShapeOf (H : Facts) (r : Nat) (s : Option (TypeId × Nat)) : Prop := ∃ o,.own r o ∈ H ∧ s = match o with | .cells c e _ => some (e,c.size) | _ => none
def FrozenOf (H : Facts) (a : Addr) (b : Bool) : Prop := ∃ c T,.own a.block (.cells c T (0,0)) ∈ H ∧ b = false
def plainObj : Obj → Bool
 | .cells .. | .chan .. => false
 | _ => true
def K (P : Program) {α : Type} : Sem α → (α → Facts → Prop) → Facts → Prop
 | .pure a,Q,H => Q a H
 | .load m a k,Q,H => ∃ v,m = .plain ∧ Known H a v ∧ K P (k v) Q H
 | .store m a v k,Q,H => m = .plain ∧ v.oneCell' = true ∧ ∃ H',StoreTo H a v H' ∧ K P k Q H'
 | .new o k,Q,H => ∀ r,K P (k r) Q (.own r o :: H)
 | .shape r k,Q,H => ∃ s,ShapeOf H r s ∧ K P (k s) Q H
 | .freeze a n k,Q,H => ∃ c T H',0 < n ∧ Upd H (.own a.block (.cells c T (0,0))) (.own a.block (.cells c T (a.off,a.off + n))) H' ∧ K P k Q H'
 | .frozen a k,Q,H => ∃ b,FrozenOf H a b ∧ K P (k b) Q H
 | .getObj r k,Q,H => ∃ o,.own r o ∈ H ∧ plainObj o = true ∧ K P (k o) Q H
 | .setObj r o k,Q,H => ∃ o' H',plainObj o' = true ∧ plainObj o = true ∧ Upd H (.own r o') (.own r o) H' ∧ K P k Q H'
 | .choose q k,Q,H => ∀ a,((q.forced = true ∧ a = 0) ∨ (q.forced = false ∧ ∃ t,a = q.cut t)) → K P (k a) Q H
 | .sys _ _,_,_ => False
 | .program k,Q,H => K P (k P) Q H
 | .mark m k,Q,H => Neut m ∧ K P k Q H
 | .halt _,_,_ => False
theorem K.mono {P : Program} {α : Type} {Q Q' : α → Facts → Prop} (hq : ∀ a H,Q a H → Q' a H) : ∀ {s : Sem α} {H : Facts},K P s Q H → K P s Q' H := by
 intro s
 induction s with
 | pure a => exact fun h => hq _ _ h
 | load m a k ih => rintro H ⟨v,h1,h2,h3⟩;exact ⟨v,h1,h2,ih v h3⟩
 | store m a v k ih => rintro H ⟨h1,h2,H',h3,h4⟩;exact ⟨h1,h2,H',h3,ih h4⟩
 | new o k ih => exact fun h r => ih r (h r)
 | shape r k ih => rintro H ⟨s,h1,h2⟩;exact ⟨s,h1,ih s h2⟩
 | freeze a n k ih => rintro H ⟨c,T,H',h1,h2,h3⟩;exact ⟨c,T,H',h1,h2,ih h3⟩
 | frozen a k ih => rintro H ⟨b,h1,h2⟩;exact ⟨b,h1,ih b h2⟩
 | getObj r k ih => rintro H ⟨o,h1,h2,h3⟩;exact ⟨o,h1,h2,ih o h3⟩
 | setObj r o k ih => rintro H ⟨o',H',h1,h2,h3,h4⟩;exact ⟨o',H',h1,h2,h3,ih h4⟩
 | choose q k ih => exact fun h a ha => ih a (h a ha)
 | sys c k ih => exact fun h => h
 | program k ih => exact fun h => ih P h
 | mark m k ih => rintro H ⟨h1,h2⟩;exact ⟨h1,ih h2⟩
 | halt h => exact fun h => h
theorem K.bind' {P : Program} {α β : Type} {g : α → Sem β} {Q : β → Facts → Prop} : ∀ {s : Sem α} {H : Facts},K P (s.bind g) Q H ↔ K P s (fun a H' => K P (g a) Q H') H := by
 intro s
 induction s with
 | pure a => exact fun {H} => Iff.rfl
 | load m a k ih => intro H;simp only [Sem.bind,K,ih]
 | store m a v k ih => intro H;simp only [Sem.bind,K,ih]
 | new o k ih => intro H;simp only [Sem.bind,K,ih]
 | shape r k ih => intro H;simp only [Sem.bind,K,ih]
 | freeze a n k ih => intro H;simp only [Sem.bind,K,ih]
 | frozen a k ih => intro H;simp only [Sem.bind,K,ih]
 | getObj r k ih => intro H;simp only [Sem.bind,K,ih]
 | setObj r o k ih => intro H;simp only [Sem.bind,K,ih]
 | choose q k ih => intro H;simp only [Sem.bind,K,ih]
 | sys c k ih => intro H;simp only [Sem.bind,K]
 | program k ih => intro H;simp only [Sem.bind,K,ih]
 | mark m k ih => intro H;simp only [Sem.bind,K,ih]
 | halt h => intro H;simp only [Sem.bind,K]
theorem K.bind {P : Program} {α β : Type} {g : α → Sem β} {Q : β → Facts → Prop} {s : Sem α} {H : Facts} : K P (s >>= g) Q H ↔ K P s (fun a H' => K P (g a) Q H') H := K.bind'
theorem K.pure {P : Program} {α : Type} {Q : α → Facts → Prop} {a : α} {H : Facts} : K P (Pure.pure a : Sem α) Q H ↔ Q a H := Iff.rfl
theorem K.map {P : Program} {α β : Type} {g : α → β} {Q : β → Facts → Prop} {s : Sem α} {H : Facts} : K P (Functor.map g s) Q H ↔ K P s (fun a H' => Q (g a) H') H := by
 show K P (s.bind _) Q H ↔ _
 exact K.bind'
theorem Fact.Is.cell {f : Fact} {W : World} (h : f.Is W) {i : Nat} {v : Value} (hc : f.cell? i = some v) : W.cell? ⟨f.block,i,none⟩ = some v := by
 cases f with
 | own r o =>
  have h' : W.heap[r]? = some o := h
  cases o with
  | cells c T fr =>
   have hc' : c[i]? = some v := hc
   simp only [Fact.block,World.cell?,h'];simpa using hc'
  | _ => cases hc
 | seg b off vs =>
  simp only [Fact.cell?] at hc
  split at hc
  ·rename_i hle
   have := h.2 _ _ hc
   rwa [show off + (i - off) = i from by omega] at this
  ·cases hc
theorem evOk_new {H H' : Facts} {n n' m : Nat} {e : Event} (hn : n ≤ n') (h1 : ∀ f ∈ H',f.isOwn = true → (∃ g ∈ H,g.isOwn = true ∧ g.block = f.block) ∨ n ≤ f.block)
  (h2 : ∀ f ∈ H',(∃ g ∈ H,g.block = f.block) ∨ n ≤ f.block) (h3 : ∀ f ∈ H',f.block < m) (h : EvOk H' n' m e) : EvOk H n m e := by
 obtain ⟨loc,wr,sy⟩ := e
 have rd : ∀ r,((∃ f ∈ H',f.block = r) ∨ (n' ≤ r ∧ r < m)) → ((∃ f ∈ H,f.block = r) ∨ (n ≤ r ∧ r < m)) := by
  rintro r (⟨f,hf,hb⟩ | h)
  ·rcases h2 f hf with ⟨g,hg,hgb⟩ | h
   ·exact .inl ⟨g,hg,hgb.trans hb⟩
   ·exact .inr ⟨hb ▸ h,hb ▸ h3 f hf⟩
  ·exact .inr ⟨Nat.le_trans hn h.1,h.2⟩
 have wt : ∀ r,((∃ f ∈ H',f.isOwn = true ∧ f.block = r) ∨ (n' ≤ r ∧ r < m)) → ((∃ f ∈ H,f.isOwn = true ∧ f.block = r) ∨ (n ≤ r ∧ r < m)) := by
  rintro r (⟨f,hf,ho,hb⟩ | h)
  ·rcases h1 f hf ho with ⟨g,hg,hgo,hgb⟩ | h
   ·exact .inl ⟨g,hg,hgo,hgb.trans hb⟩
   ·exact .inr ⟨hb ▸ h,hb ▸ h3 f hf⟩
  ·exact .inr ⟨Nat.le_trans hn h.1,h.2⟩
 cases loc with
 | cell a => cases sy <;> cases wr <;> first | exact rd _ h | exact wt _ h | (simp [EvOk] at h)
 | obj r => cases sy <;> cases wr <;> first | exact rd _ h | exact wt _ h | (simp [EvOk] at h)
 | output => simp [EvOk] at h
 | goroutines => simp [EvOk] at h
 | mark m => cases m <;> first | trivial | (simp [EvOk] at h)
theorem evOk_mono {H : Facts} {n m m' : Nat} {e : Event} (hm : m ≤ m') (h : EvOk H n m e) : EvOk H n m' e := by
 obtain ⟨loc,wr,sy⟩ := e
 cases loc with
 | cell a => cases sy <;> cases wr <;> first | exact h.imp id (fun x => ⟨x.1,Nat.lt_of_lt_of_le x.2 hm⟩) | (simp [EvOk] at h)
 | obj r => cases sy <;> cases wr <;> first | exact h.imp id (fun x => ⟨x.1,Nat.lt_of_lt_of_le x.2 hm⟩) | (simp [EvOk] at h)
 | output => simp [EvOk] at h
 | goroutines => simp [EvOk] at h
 | mark m => cases m <;> first | trivial | (simp [EvOk] at h)
theorem Tr.step {H : Facts} {W : World} {es : Array Event} {Wm : World} {Hm : Facts} (h : Tr H W es Wm Hm) {es' : Array Event} {W' : World} {H' : Facts} (k : Tr Hm Wm es' W' H') (es'' : Array Event) (he : ∀ e ∈ es'',e ∈ es ∨ e ∈ es') : Tr H W es'' W' H' := by
 refine ⟨k.holds,k.os.trans h.os,k.tape.trans h.tape,k.output.trans h.output,Nat.le_trans h.size k.size,?_,?_,?_,?_⟩
 ·intro b hb hno
  rw [k.keep b (Nat.lt_of_lt_of_le hb h.size) ?_,h.keep b hb hno]
  intro f hf ho he
  rcases h.mine f hf ho with ⟨g,hg,hgo,hgb⟩ | hlt
  ·exact hno g hg hgo (hgb.trans he)
  ·omega
 ·intro f hf ho
  rcases k.mine f hf ho with ⟨g,hg,hgo,hgb⟩ | hlt
  ·rcases h.mine g hg hgo with ⟨g',hg',hgo',hgb'⟩ | hlt
   ·exact .inl ⟨g',hg',hgo',hgb'.trans hgb⟩
   ·exact .inr (hgb ▸ hlt)
  ·exact .inr (Nat.le_trans h.size hlt)
 ·intro f hf
  rcases k.seen f hf with ⟨g,hg,hgb⟩ | hlt
  ·rcases h.seen g hg with ⟨g',hg',hgb'⟩ | hlt
   ·exact .inl ⟨g',hg',hgb'.trans hgb⟩
   ·exact .inr (hgb ▸ hlt)
  ·exact .inr (Nat.le_trans h.size hlt)
 ·intro e hm
  rcases he e hm with x | x
  ·exact evOk_mono k.size (h.evs e x)
  ·exact evOk_new h.size h.mine h.seen (fun f hf => Nat.lt_of_lt_of_le (h.holds.2 f hf).lt k.size) (k.evs e x)
theorem Tr.drew {H : Facts} {W : World} (h : Holds H W) (d : Nat) : Tr H W #[] { W with drawn := d } H :=
 ⟨⟨h.1,fun f hf => by have := h.2 f hf;cases f <;> exact this⟩,rfl,rfl,rfl,Nat.le_refl _,fun _ _ _ => rfl,fun f hf ho => .inl ⟨f,hf,ho,rfl⟩,fun f hf => .inl ⟨f,hf,rfl⟩,fun e he => absurd he (by simp)⟩
theorem Fact.Is.push {f : Fact} {W : World} (h : f.Is W) (o : Obj) : f.Is { W with heap := W.heap.push o } := by
 have hlt := h.lt
 cases f with
 | own r o' =>
  have h' : W.heap[r]? = some o' := h
  have hlt' : r < W.heap.size := hlt
  show (W.heap.push o)[r]? = some o'
  rw [Array.getElem?_push_lt hlt']
  rw [Array.getElem?_eq_getElem hlt'] at h'
  exact h'
 | seg b off vs =>
  refine ⟨Nat.lt_of_lt_of_le h.1 (by simp),fun k v hv => ?_⟩
  have h2 := h.2 k v hv
  simp only [World.cell?] at h2 ⊢
  have e : (W.heap.push o)[b]? = W.heap[b]? := by rw [Array.getElem?_push_lt h.1,Array.getElem?_eq_getElem h.1]
  rw [e];exact h2
theorem Tr.new {H : Facts} {W : World} (h : Holds H W) (o : Obj) : Tr H W #[] { W with heap := W.heap.push o } (.own W.heap.size o :: H) := by
 refine ⟨⟨List.pairwise_cons.2 ⟨fun f hf _ => ?_,h.1⟩,?_⟩,rfl,rfl,rfl,by simp,?_,?_,?_,fun e he => absurd he (by simp)⟩
 ·have := (h.2 f hf).lt
  simp only [Fact.block];simp only [Fact.block] at this;omega
 ·intro f hf
  rcases List.mem_cons.1 hf with rfl | hf
  ·show (W.heap.push o)[W.heap.size]? = some o
   simp
  ·exact (h.2 f hf).push o
 ·intro b hb _
  show (W.heap.push o)[b]? = W.heap[b]?
  rw [Array.getElem?_push_lt hb,Array.getElem?_eq_getElem hb]
 ·intro f hf ho
  rcases List.mem_cons.1 hf with rfl | hf
  ·exact .inr (Nat.le_refl _)
  ·exact .inl ⟨f,hf,ho,rfl⟩
 ·intro f hf
  rcases List.mem_cons.1 hf with rfl | hf
  ·exact .inr (Nat.le_refl _)
  ·exact .inl ⟨f,hf,rfl⟩
theorem Tr.turn {H H' : Facts} {W W' : World} {r : Nat} {o o' : Obj} (h : Holds H W) (hu : Upd H (.own r o) (.own r o') H') (hheap : W'.heap = W.heap.setIfInBounds r o') (hos : W'.os = W.os) (htp : W'.tape = W.tape) (hout : W'.output = W.output) (es : Array Event) (hes : ∀ e ∈ es,EvOk H W.heap.size W.heap.size e) : Tr H W es W' H' := by
 obtain ⟨A,B,rfl,rfl⟩ := hu.split
 have hr : (Fact.own r o).Is W := h.2 _ (by simp)
 have hlt : r < W.heap.size := hr.lt
 have hap : ∀ f ∈ A ++ B,f.block ≠ r := by
  intro f hf
  have hp := List.pairwise_append.1 h.1
  rcases List.mem_append.1 hf with hf | hf
  ·exact hp.2.2 f hf _ (List.mem_cons_self ..) (.inr rfl)
  ·exact fun e => (List.pairwise_cons.1 hp.2.1).1 f hf (.inl rfl) e.symm
 have other : ∀ b,b ≠ r → W'.heap[b]? = W.heap[b]? := fun b hb => by rw [hheap,Array.getElem?_setIfInBounds_ne (Ne.symm hb)]
 have still : ∀ f ∈ A ++ B,f.Is W' := by
  intro f hf
  have ht : f.Is W := h.2 f (by rcases List.mem_append.1 hf with x | x <;> simp [x])
  have hne := hap f hf
  cases f with
  | own r' o'' => show W'.heap[r']? = some o'';rw [other r' hne];exact ht
  | seg b off vs =>
   refine ⟨by rw [hheap];simpa using ht.1,fun k v hv => ?_⟩
   have := ht.2 k v hv
   simp only [World.cell?] at this ⊢
   rw [other b hne];exact this
 have hpw : (A ++ Fact.own r o' :: B).Pairwise Fact.apart := by
  have hp := List.pairwise_append.1 h.1
  refine List.pairwise_append.2 ⟨hp.1,List.pairwise_cons.2 ⟨fun f hf _ => fun e => hap f (List.mem_append_right _ hf) e.symm,(List.pairwise_cons.1 hp.2.1).2⟩,fun f hf g hg => ?_⟩
  rcases List.mem_cons.1 hg with rfl | hg
  ·exact fun _ => hap f (List.mem_append_left _ hf)
  ·exact hp.2.2 f hf g (List.mem_cons_of_mem _ hg)
 refine ⟨⟨hpw,fun f hf => ?_⟩,hos,htp,hout,by rw [hheap];simp,?_,?_,?_,fun e he => evOk_mono (by rw [hheap];simp) (hes e he)⟩
 ·rcases List.mem_append.1 hf with hf | hf
  ·exact still f (List.mem_append_left _ hf)
  ·rcases List.mem_cons.1 hf with rfl | hf
   ·show W'.heap[r]? = some o'
    rw [hheap];simp [hlt]
   ·exact still f (List.mem_append_right _ hf)
 ·intro b hb hno
  exact other b fun e => hno (.own r o) (by simp) rfl e.symm
 ·intro f hf ho
  rcases List.mem_append.1 hf with hf | hf
  ·exact .inl ⟨f,by simp [hf],ho,rfl⟩
  ·rcases List.mem_cons.1 hf with rfl | hf
   ·exact .inl ⟨.own r o,by simp,rfl,rfl⟩
   ·exact .inl ⟨f,by simp [hf],ho,rfl⟩
 ·intro f hf
  rcases List.mem_append.1 hf with hf | hf
  ·exact .inl ⟨f,by simp [hf],rfl⟩
  ·rcases List.mem_cons.1 hf with rfl | hf
   ·exact .inl ⟨.own r o,by simp,rfl⟩
   ·exact .inl ⟨f,by simp [hf],rfl⟩
theorem Tr.list {H : Facts} {W : World} (h : Holds H W) (e : Event) (he : EvOk H W.heap.size W.heap.size e) : Tr H W #[e] W H :=
 ⟨h,rfl,rfl,rfl,Nat.le_refl _,fun _ _ _ => rfl,fun f hf ho => .inl ⟨f,hf,ho,rfl⟩,fun f hf => .inl ⟨f,hf,rfl⟩,fun x hx => by
  have : x = e := by simpa using hx
  exact this ▸ he⟩
theorem freeze_heap {W : World} {a : Addr} {n : Nat} {c : Array Value} {T : TypeId} (h : W.heap[a.block]? = some (.cells c T (0,0))) (hn : 0 < n) : (W.freeze a n).heap = W.heap.setIfInBounds a.block (.cells c T (a.off,a.off + n)) := by
 unfold World.freeze
 rw [if_neg (by omega)]
 apply Array.ext_getElem?
 intro j
 have hlt := (Array.getElem?_eq_some_iff.1 h).1
 simp only
 rw [Array.getElem?_modify,Array.getElem?_setIfInBounds]
 by_cases e : a.block = j
 ·subst e
  have hg : W.heap[a.block] = .cells c T (0,0) := by
   have := h
   rw [Array.getElem?_eq_getElem hlt] at this
   exact Option.some.inj this
  simp [hlt,hg]
 ·simp [e]
theorem setCell_heap {W : World} {r i : Nat} {c : Array Value} {T : TypeId} {fr : Nat × Nat} (h : W.heap[r]? = some (.cells c T fr)) (v : Value) : (W.setCell ⟨r,i,none⟩ v).heap = W.heap.setIfInBounds r (.cells (c.setIfInBounds i v) T fr) := by
 simp only [World.setCell]
 apply Array.ext_getElem?
 intro j
 have hlt := (Array.getElem?_eq_some_iff.1 h).1
 rw [Array.getElem?_modify,Array.getElem?_setIfInBounds]
 by_cases e : r = j
 ·subst e
  have hg : W.heap[r] = .cells c T fr := by
   have := h
   rw [Array.getElem?_eq_getElem hlt] at this
   exact Option.some.inj this
  simp [hlt,hg]
 ·simp [e]
theorem K.sound {P : Program} {α : Type} {Q : α → Facts → Prop} {H : Facts} {W : World} : ∀ {s : Sem α} {Hm : Facts} {Wm : World} {es : Array Event},K P s Q Hm → Tr H W es Wm Hm →
  ∃ a W' es' H',s.runT P Wm es = (.ok a W',es') ∧ Tr H W es' W' H' ∧ Q a H' := by
 intro s
 induction s with
 | pure a => exact fun {Hm Wm es} h ht => ⟨a,Wm,es,Hm,rfl,ht,h⟩
 | load m a k ih =>
  rintro Hm Wm es ⟨v,rfl,⟨hsp,f,hf,hb,hc⟩,hk⟩ ht
  have hcell := (ht.holds.2 f hf).cell hc
  have hcell' : Wm.cell? a = some v := by
   obtain ⟨b,o,s⟩ := a
   simp only at hsp hb;subst hsp;subst hb;exact hcell
  obtain ⟨x,W',es',H',h1,h2,h3⟩ := ih v hk (ht.step (Tr.list ht.holds ⟨.cell a,false,false⟩ (.inl ⟨f,hf,hb⟩)) (es.push ⟨.cell a,false,false⟩) (fun e he => by
   rcases Array.mem_push.1 he with h | h
   ·exact .inl h
   ·exact .inr (by simp [h])))
  refine ⟨x,W',es',H',?_,h2,h3⟩
  simp only [Sem.runT,hcell']
  exact h1
 | store m a v k ih =>
  rintro Hm Wm es ⟨rfl,hv,Hm',⟨hsp,c,T,hoff,hu⟩,hk⟩ ht
  obtain ⟨b,o,s⟩ := a
  simp only at hsp hoff hu
  subst hsp
  have hblk : Wm.heap[b]? = some (.cells c T (0,0)) := ht.holds.2 _ hu.mem
  have hcell : Wm.cell? ⟨b,o,none⟩ = some c[o] := by simp [World.cell?,hblk,hoff]
  have hfr : Wm.frozen? ⟨b,o,none⟩ = false := by simp [World.frozen?,hblk]
  have hstep : Tr Hm Wm #[⟨.cell ⟨b,o,none⟩,true,false⟩] (Wm.setCell ⟨b,o,none⟩ v) Hm' :=
   Tr.turn ht.holds hu (setCell_heap hblk v) Z Z Z _ (fun e he => by
    have : e = ⟨.cell ⟨b,o,none⟩,true,false⟩ := by simpa using he
    subst this
    exact .inl ⟨_,hu.mem,rfl,rfl⟩)
  obtain ⟨x,W',es',H',h1,h2,h3⟩ := ih hk (ht.step hstep (es.push ⟨.cell ⟨b,o,none⟩,true,false⟩) (fun e he => by
   rcases Array.mem_push.1 he with h | h
   ·exact .inl h
   ·exact .inr (by simp [h])))
  refine ⟨x,W',es',H',?_,h2,h3⟩
  rw [← h1]
  cases v <;> first
   | (simp [Value.oneCell'] at hv;done)
   | (simp only [Sem.runT,hcell,hfr];rfl)
 | new o k ih =>
  intro Hm Wm es h ht
  obtain ⟨x,W',es',H',h1,h2,h3⟩ := ih Wm.heap.size (h Wm.heap.size) (ht.step (Tr.new ht.holds o) es fun e he => .inl he)
  exact ⟨x,W',es',H',by simp only [Sem.runT];exact h1,h2,h3⟩
 | shape r k ih =>
  rintro Hm Wm es ⟨s,⟨o,hf,rfl⟩,hk⟩ ht
  have hblk : Wm.heap[r]? = some o := ht.holds.2 _ hf
  obtain ⟨x,W',es',H',h1,h2,h3⟩ := ih _ hk ht
  refine ⟨x,W',es',H',?_,h2,h3⟩
  simp only [Sem.runT,World.shape?,hblk]
  rw [← h1]
  cases o <;> rfl
 | freeze a n k ih =>
  rintro Hm Wm es ⟨c,T,Hm',hn,hu,hk⟩ ht
  have hblk : Wm.heap[a.block]? = some (.cells c T (0,0)) := ht.holds.2 _ hu.mem
  have hstep : Tr Hm Wm #[] (Wm.freeze a n) Hm' :=
   Tr.turn ht.holds hu (freeze_heap hblk hn) (by unfold World.freeze;split <;> rfl) (by unfold World.freeze;split <;> rfl) (by unfold World.freeze;split <;> rfl) #[] (by simp)
  obtain ⟨x,W',es',H',h1,h2,h3⟩ := ih hk (ht.step hstep es fun e he => .inl he)
  exact ⟨x,W',es',H',by simp only [Sem.runT];exact h1,h2,h3⟩
 | frozen a k ih =>
  rintro Hm Wm es ⟨b,⟨c,T,hf,rfl⟩,hk⟩ ht
  have hblk : Wm.heap[a.block]? = some (.cells c T (0,0)) := ht.holds.2 _ hf
  obtain ⟨x,W',es',H',h1,h2,h3⟩ := ih _ hk ht
  refine ⟨x,W',es',H',?_,h2,h3⟩
  have : Wm.frozen? a = false := by simp [World.frozen?,hblk]
  simp only [Sem.runT,this]
  exact h1
 | getObj r k ih =>
  rintro Hm Wm es ⟨o,hf,hp,hk⟩ ht
  have hblk : Wm.heap[r]? = some o := ht.holds.2 _ hf
  obtain ⟨x,W',es',H',h1,h2,h3⟩ := ih o hk (ht.step (Tr.list ht.holds ⟨.obj r,false,false⟩ (.inl ⟨_,hf,rfl⟩)) (es.push ⟨.obj r,false,false⟩) (fun e he => by
   rcases Array.mem_push.1 he with h | h
   ·exact .inl h
   ·exact .inr (by simp [h])))
  refine ⟨x,W',es',H',?_,h2,h3⟩
  rw [← h1]
  cases o <;> first
   | (simp [plainObj] at hp;done)
   | (simp only [Sem.runT,hblk];rfl)
 | setObj r o k ih =>
  rintro Hm Wm es ⟨o',Hm',hp',hp,hu,hk⟩ ht
  have hblk : Wm.heap[r]? = some o' := ht.holds.2 _ hu.mem
  have hstep : Tr Hm Wm #[⟨.obj r,true,false⟩] { Wm with heap := Wm.heap.setIfInBounds r o } Hm' :=
   Tr.turn (W' := { Wm with heap := Wm.heap.setIfInBounds r o }) ht.holds hu Z Z Z Z #[⟨.obj r,true,false⟩] (fun e he => by
    have : e = ⟨.obj r,true,false⟩ := by simpa using he
    subst this
    exact .inl ⟨_,hu.mem,rfl,rfl⟩)
  obtain ⟨x,W',es',H',h1,h2,h3⟩ := ih hk (ht.step hstep (es.push ⟨.obj r,true,false⟩) (fun e he => by
   rcases Array.mem_push.1 he with h | h
   ·exact .inl h
   ·exact .inr (by simp [h])))
  refine ⟨x,W',es',H',?_,h2,h3⟩
  rw [← h1]
  have hsy : o.isChan = false := by cases o <;> first | rfl | (simp [plainObj] at hp)
  cases o' <;> first
   | (simp [plainObj] at hp';done)
   | (simp only [Sem.runT,hblk,hsy])
 | choose q k ih =>
  intro Hm Wm es h ht
  by_cases hq : q.forced = true
  ·obtain ⟨x,W',es',H',h1,h2,h3⟩ := ih 0 (h 0 (.inl ⟨hq,rfl⟩)) ht
   exact ⟨x,W',es',H',by simp only [Sem.runT,hq,if_true];exact h1,h2,h3⟩
  ·obtain ⟨x,W',es',H',h1,h2,h3⟩ := ih _ (h _ (.inr ⟨by simpa using hq,Wm.tape Wm.drawn q,rfl⟩)) (ht.step (Tr.drew ht.holds (Wm.drawn + 1)) es fun e he => .inl he)
   exact ⟨x,W',es',H',by simp only [Sem.runT,hq];exact h1,h2,h3⟩
 | sys c k ih => exact fun h => h.elim
 | program k ih =>
  intro Hm Wm es h ht
  obtain ⟨x,W',es',H',h1,h2,h3⟩ := ih P h ht
  exact ⟨x,W',es',H',by simp only [Sem.runT];exact h1,h2,h3⟩
 | mark m k ih =>
  rintro Hm Wm es ⟨hmk,hk⟩ ht
  obtain ⟨x,W',es',H',h1,h2,h3⟩ := ih hk (ht.step (Tr.list ht.holds ⟨.mark m,false,true⟩ (by rcases hmk with rfl | ⟨_,rfl⟩ <;> trivial)) (es.push ⟨.mark m,false,true⟩) (fun e he => by
   rcases Array.mem_push.1 he with h | h
   ·exact .inl h
   ·exact .inr (by simp [h])))
  exact ⟨x,W',es',H',by simp only [Sem.runT];exact h1,h2,h3⟩
 | halt h => exact fun h => h.elim
end Go.Gx
end
section
namespace Go.Gx
open Go Go.Conc
def putE (d : Option Tmp) (v : Value) (E : Env) : Env :=
 match d with
 | some t => (t,v) :: E
 | none => E
def putT (d : Option Tmp) (v : Value) (tmps : Array Value) : Array Value :=
 match d with
 | some t => tmps.setIfInBounds t v
 | none => tmps
def wantE (ops : Array Oper) (o : Oper) (E : Env) : Option Bool :=
 match o.guard with
 | none => some true
 | some (j,want) =>
  match (ops[j]?).bind (·.dst) with
  | some d => match look E d with
   | some (.bool b) => some (b == want)
   | some (.tuple _) => some false
   | _ => none
  | none => none
theorem wantE_ok {ops : Array Oper} {o : Oper} {E : Env} {t : Bool} {tmps : Array Value} (h : wantE ops o E = some t) (hE : E.ok tmps) : Region.wanted o (yielded ops tmps) = t := by
 unfold wantE at h
 unfold Region.wanted
 cases hg : o.guard with
 | none => rw [hg] at h;simpa using h
 | some p =>
  obtain ⟨j,want⟩ := p
  rw [hg] at h
  simp only at h ⊢
  unfold yielded
  cases hd : (ops[j]?).bind (·.dst) with
  | none => rw [hd] at h;cases h
  | some d =>
   rw [hd] at h
   simp only at h
   cases hl : look E d with
   | none => rw [hl] at h;cases h
   | some v =>
    have := hE d v hl
    rw [hl] at h
    simp only [Option.bind_some,this]
    cases v with
    | bool b =>
     simp only [Option.some.injEq] at h ⊢
     rw [← h]
     cases b <;> cases want <;> rfl
    | tuple vs =>
     simp only [Option.some.injEq] at h ⊢
     rw [← h];rfl
    | _ => cases h
def Agree (E : Env) (φ : Operand → Value) : Prop := ∀ x v,ev E x = some v → φ x = v
section
variable {P : Program} {main : Bool} {L : Lg P main} {f : FuncId} {ro : Option Nat} {ds : Dz} {cs : List Frame} {n : Nat} {E : Env} {H : Facts} {k : List Item}
def NextJ (L : Lg P main) (f : FuncId) (ro : Option Nat) (ds : Dz) (cs : List Frame) (n : Nat) (E : Env) (ops : Array Oper) (i : Nat) (rest : List Nat) (k : List Item) (d : Option Tmp) : Next → Facts → Prop
 | .value v,H => At L f ro ds cs n (putE d v E) H (.inRegion ops rest :: k)
 | .skip,H => At L f ro ds cs n (putE d undef E) H (.inRegion ops rest :: k)
 | .enter g args,H => ∀ tmps : Array Value,tmps.size = n → E.ok tmps → L.J (G (Frame.enter P g args .normal) (Fr f ro ds tmps (.inRegion ops (i :: rest) :: k) :: cs)) H
 | .round l g t x y,H => ∀ tmps : Array Value,tmps.size = n → E.ok tmps → L.J (G (Frame.round l g t x y .normal) (Fr f ro ds tmps (.inRegion ops (i :: rest) :: k) :: cs)) H
 | _,_ => False
theorem fr_finish (tmps : Array Value) (ops : Array Oper) (i : Nat) (rest : List Nat) (v : Value) :
  (Fr f ro ds tmps (.inRegion ops (i :: rest) :: k)).finish v = Fr f ro ds (putT ((ops[i]?).bind (·.dst)) v tmps) (.inRegion ops rest :: k) := by
 cases h : (ops[i]?).bind (·.dst) <;> simp [Frame.finish,Fr,h,putT]
theorem at_put {d : Option Tmp} {v : Value} {todo : List Item} (hd : ∀ t,d = some t → t < n) (h : At L f ro ds cs n (putE d v E) H todo) (tmps : Array Value) (hs : tmps.size = n) (hE : E.ok tmps) :
  L.J (G (Fr f ro ds (putT d v tmps) todo) cs) H := by
 cases d with
 | none => exact h tmps hs hE
 | some t => exact h _ (by show (tmps.setIfInBounds t v).size = n;rw [Array.size_setIfInBounds];exact hs) (Env.ok_put hE (by rw [hs];exact hd t rfl) v)
theorem stepG_opF {ops : Array Oper} {i : Nat} {rest : List Nat} {o : Oper} {tmps : Array Value} {W : World} (ho : ops[i]? = some o) (hw : Region.wanted o (yielded ops tmps) = true) (hnd : ∀ c,o.op ≠ .defer c) :
  stepG P main (G (Fr f ro ds tmps (.inRegion ops (i :: rest) :: k)) cs) W = stepG.apply P true (Fr f ro ds tmps (.inRegion ops (i :: rest) :: k)) cs none (execOp (Fr f ro ds tmps (.inRegion ops (i :: rest) :: k)).eval o) W := by
 have h1 : stepG P main (G (Fr f ro ds tmps (.inRegion ops (i :: rest) :: k)) cs) W = stepG.oper P true (Fr f ro ds tmps (.inRegion ops (i :: rest) :: k)) cs none W := by
  simp only [G,stepG,Fr]
  simp only [stepG.exec,ho,Option.map_some,Option.getD_some,hw,if_true]
 rw [h1]
 unfold stepG.oper
 have h2 : (Fr f ro ds tmps (.inRegion ops (i :: rest) :: k)).oper? = some o := by simp [Frame.oper?,Fr,ho]
 rw [h2]
 simp only
 split
 ·rename_i c _ heq
  exact absurd heq (hnd c)
 ·rfl
theorem fr_kind {f : FuncId} {ro : Option Nat} {ds : Dz} {tmps : Array Value} {todo : List Item} : ((Fr f ro ds tmps todo).kind == .early) = false := by
 obtain ⟨l,d⟩ := ds
 cases l <;> rfl
theorem apply_value {fr : Frame} {s : Sem Next} {W W' : World} {v : Value} {es : Array Event} (hk : (fr.kind == .early) = false) (hr : s.runT P W #[] = (.ok (.value v) W',es)) :
  stepG.apply P true fr cs none s W = .go (G (fr.finish v) cs) W' (seen P fr.fn es) := by
 unfold stepG.apply
 simp only [if_true,hr,hk]
 simp [GStep.after,G]
theorem apply_skip {fr : Frame} {s : Sem Next} {W W' : World} {es : Array Event} (hk : (fr.kind == .early) = false) (hr : s.runT P W #[] = (.ok .skip W',es)) :
  stepG.apply P true fr cs none s W = .go (G (fr.finish undef) cs) W' (seen P fr.fn es) := by
 unfold stepG.apply
 simp only [if_true,hr,hk]
 simp [GStep.after,G]
theorem apply_enter {fr : Frame} {s : Sem Next} {W W' : World} {g : FuncId} {args : Array Value} {es : Array Event} (hk : (fr.kind == .early) = false) (ht : ∀ d r sv k,fr.todo ≠ .call d true r sv :: k) (hr : s.runT P W #[] = (.ok (.enter g args) W',es)) :
  stepG.apply P true fr cs none s W = .go (G (Frame.enter P g args .normal) (fr :: cs)) W' (seen P fr.fn es) := by
 unfold stepG.apply
 simp only [if_true,hr,hk]
 have : (match fr.todo with | .call _ true _ _ :: _ => CallKind.wrapped | _ => CallKind.normal) = .normal := by
  split
  ·rename_i h;exact absurd h (ht _ _ _ _)
  ·rfl
 simp [GStep.after,G,this]
theorem apply_round {fr : Frame} {s : Sem Next} {W W' : World} {l : Nat} {g : FuncId} {t : Array Value} {x y : Code} {es : Array Event} (hk : (fr.kind == .early) = false) (hr : s.runT P W #[] = (.ok (.round l g t x y) W',es)) :
  stepG.apply P true fr cs none s W = .go (G (Frame.round l g t x y .normal) (fr :: cs)) W' (seen P fr.fn es) := by
 unfold stepG.apply
 simp only [if_true,hr,hk]
 simp [GStep.after,G]
theorem At.opG {ops : Array Oper} {i : Nat} {rest : List Nat} {o : Oper} (ho : ops[i]? = some o) (hw : wantE ops o E = some true) (hnd : ∀ c,o.op ≠ .defer c) (hd : ∀ t,o.dst = some t → t < n)
  (h : ∀ φ,Agree E φ → K P (execOp φ o) (NextJ L f ro ds cs n E ops i rest k o.dst) H) : At L f ro ds cs n E H (.inRegion ops (i :: rest) :: k) := by
 intro tmps hs hE
 refine L.closed _ _ rfl fun W hW => ?_
 have hA : Agree E (Fr f ro ds tmps (.inRegion ops (i :: rest) :: k)).eval := fun x v hx => ev_fr hE _ _ _ _ hx
 obtain ⟨nx,W',es,H',hr,ht,hq⟩ := K.sound (h _ hA) (Tr.refl hW)
 rw [stepG_opF ho (wantE_ok hw hE) hnd]
 have hev : ∀ e ∈ seen P f es,EvOk H W.heap.size W'.heap.size e := fun e he => ht.evs e (mem_seen he)
 have ht' : Tr H W (seen P f es) W' H' := ⟨ht.holds,ht.os,ht.tape,ht.output,ht.size,ht.keep,ht.mine,ht.seen,hev⟩
 cases nx with
 | value v =>
  refine ⟨G ((Fr f ro ds tmps (.inRegion ops (i :: rest) :: k)).finish v) cs,W',seen P f es,H',apply_value fr_kind hr,ht',?_⟩
  rw [fr_finish,ho]
  exact at_put hd hq tmps hs hE
 | skip =>
  refine ⟨G ((Fr f ro ds tmps (.inRegion ops (i :: rest) :: k)).finish undef) cs,W',seen P f es,H',apply_skip fr_kind hr,ht',?_⟩
  rw [fr_finish,ho]
  exact at_put hd hq tmps hs hE
 | enter g args => exact ⟨_,W',seen P f es,H',apply_enter fr_kind (by intro d r sv k h;simp [Fr] at h) hr,ht',hq tmps hs hE⟩
 | round l g t x y => exact ⟨_,W',seen P f es,H',apply_round fr_kind hr,ht',hq tmps hs hE⟩
 | _ => exact hq.elim
theorem At.unwanted {ops : Array Oper} {i : Nat} {rest : List Nat} {o : Oper} (ho : ops[i]? = some o) (hw : wantE ops o E = some false) (hd : ∀ t,o.dst = some t → t < n)
  (h : At L f ro ds cs n (putE o.dst undef E) H (.inRegion ops rest :: k)) : At L f ro ds cs n E H (.inRegion ops (i :: rest) :: k) := by
 intro tmps hs hE
 refine L.same (g' := G ((Fr f ro ds tmps (.inRegion ops (i :: rest) :: k)).finish undef) cs) rfl (fun W => ?_) ?_
 ·have := wantE_ok hw hE
  simp only [G,stepG,Fr]
  simp only [stepG.exec,ho,Option.map_some,Option.getD_some,this]
  simp
 ·rw [fr_finish,ho]
  exact at_put hd h tmps hs hE
def Spec (L : Lg P main) (g : FuncId) (args : Array Value) (H : Facts) (Post : Value → Facts → Prop) : Prop :=
 ∀ (c : Frame) (cs : List Frame),(∀ v H',Post v H' → L.J (G (c.finish v) cs) H') → L.J (G (Frame.enter P g args .normal) (c :: cs)) H
theorem Spec.mono {g : FuncId} {args : Array Value} {H : Facts} {Post Post' : Value → Facts → Prop} (h : Spec L g args H Post) (hp : ∀ v H',Post v H' → Post' v H') : Spec L g args H Post' :=
 fun c cs hc => h c cs fun v H' hv => hc v H' (hp v H' hv)
theorem Spec.weak {g : FuncId} {args : Array Value} {H H₂ : Facts} {Post : Value → Facts → Prop} (h : Spec L g args H Post) (hs : Sub H H₂) : Spec L g args H₂ Post :=
 fun c cs hc => L.weak _ _ _ hs (h c cs hc)
def HasBody (P : Program) (g : FuncId) : Prop := ∃ fn,P.funcs[g]? = some fn ∧ (fn.name == "runtime.NumGoroutine") = false ∧ fn.body.isSome = true
theorem K.callFunc {Q : Next → Facts → Prop} {g : FuncId} {args : Array Value} (hb : HasBody P g) (h : Q (.enter g args) H) : K P (Go.callFunc g args) Q H := by
 obtain ⟨fn,h1,h2,h3⟩ := hb
 unfold Go.callFunc
 rw [K.bind]
 show K P program _ H
 simp only [program,K,h1]
 simp only [h2,Bool.false_eq_true,if_false]
 have h4 : fn.body.isNone = false := by cases hb : fn.body <;> simp_all
 simp only [h4,Bool.false_eq_true,if_false]
 exact h
def evs (E : Env) : List Operand → Option (List Value)
 | [] => some []
 | x :: xs => match ev E x,evs E xs with
  | some v,some vs => some (v :: vs)
  | _,_ => none
theorem evs_map {φ : Operand → Value} (hA : Agree E φ) : ∀ {xs : List Operand} {vs : List Value},evs E xs = some vs → xs.map φ = vs
 | [],vs,h => by cases h;rfl
 | x :: xs,vs,h => by
  unfold evs at h
  split at h
  ·rename_i v ws h1 h2
   cases h
   simp [hA x v h1,evs_map hA h2]
  ·cases h
theorem At.callG {ops : Array Oper} {i : Nat} {rest : List Nat} {o : Oper} {x : Operand} {az : Array Operand} {ats : Array TypeId} {g : FuncId} {first cap : Array Value} {vs : List Value} {Post : Value → Facts → Prop}
  (ho : ops[i]? = some o) (hw : wantE ops o E = some true) (hop : o.op = .call { callee := .value x,args := az,argTypes := ats }) (hd : ∀ t,o.dst = some t → t < n)
  (hx : ev E x = some (.func (.func g) first cap)) (has : evs E az.toList = some vs) (hb : HasBody P g)
  (hc : Spec L g (first ++ vs.toArray ++ cap) H Post)
  (h : ∀ v H',Post v H' → At L f ro ds cs n (putE o.dst v E) H' (.inRegion ops rest :: k)) : At L f ro ds cs n E H (.inRegion ops (i :: rest) :: k) := by
 refine At.opG ho hw (by rw [hop];intro c;simp) hd fun φ hA => ?_
 unfold execOp
 rw [hop]
 simp only
 have e : az.map φ = vs.toArray := by
  have := evs_map hA has
  apply Array.ext'
  simpa using this
 simp only [resolve,hA x _ hx,Deferred.ofValue,e]
 rw [K.bind]
 show K P (invoke _ _) _ H
 simp only [invoke]
 refine K.callFunc hb ?_
 intro tmps hs hE
 refine hc _ _ fun v H' hv => ?_
 rw [fr_finish,ho]
 exact at_put hd (h v H' hv) tmps hs hE
def envOf : Nat → List Value → Env
 | _,[] => []
 | i,v :: vs => (i,v) :: envOf (i + 1) vs
theorem envOf_ok {tmps : Array Value} : ∀ {i : Nat} {vs : List Value},(∀ j v,vs[j]? = some v → tmps[i + j]? = some v) → Env.ok (envOf i vs) tmps
 | i,[],_ => Env.ok_nil _
 | i,v :: vs,h => by
  intro t u hu
  unfold envOf at hu
  rw [look_cons] at hu
  by_cases e : i = t
  ·subst e
   simp at hu
   subst hu
   simpa using h 0 v rfl
  ·rw [if_neg e] at hu
   exact envOf_ok (i := i + 1) (vs := vs) (fun j w hj => by have := h (j + 1) w (by simpa using hj);rwa [show i + (j + 1) = i + 1 + j from by omega] at this) t u hu
theorem Spec.enter {g : FuncId} {fn : Func} {body : Code} {args : Array Value} {H : Facts} {Post : Value → Facts → Prop} (hf : P.funcs[g]? = some fn) (hb : fn.body = some body) (hn : args.size ≤ fn.ntmps)
  (h : ∀ c cs,(∀ v H',Post v H' → L.J (G (c.finish v) cs) H') → At L g none d0 (c :: cs) fn.ntmps (envOf 0 args.toList) H [.code body]) : Spec L g args H Post := by
 intro c cs hc
 have e : Frame.enter P g args .normal = Fr g none d0 (args ++ Array.replicate (fn.ntmps - args.size) undef) [.code body] := by
  simp [Frame.enter,Fr,hf,hb]
 rw [e]
 refine h c cs hc _ (by simp;omega) ?_;refine envOf_ok fun j v hj => ?_
 have hlt : j < args.size := by
  have := (List.getElem?_eq_some_iff.1 hj).1
  simpa using this
 rw [Nat.zero_add,Array.getElem?_append_left hlt]
 rw [← Array.getElem?_toList];exact hj
def retMode (fr : Frame) : Frame := { fr with mode := .returning }
theorem At.leave {c : Frame} {fn : Func} {todo : List Item} (hf : P.funcs[f]? = some fn)
  (hs : todo = [] ∨ ∃ k',todo = .code .ret :: k')
  (h : ∀ tmps : Array Value,tmps.size = n → E.ok tmps → K P (results fn tmps) (fun v H' => L.J (G (c.finish v) cs) H') H) : At L f none d0 (c :: cs) n E H todo := by
 intro tmps hn hE
 refine L.same (g' := G (retMode (Fr f none d0 tmps todo)) (c :: cs)) rfl (fun W => ?_) ?_
 ·rcases hs with rfl | ⟨k',rfl⟩ <;> simp [G,stepG,stepG.exec,Fr,retMode]
 refine L.closed _ _ rfl fun W hW => ?_
 obtain ⟨v,W',es,H',hr,ht,hq⟩ := K.sound (h tmps hn hE) (Tr.refl hW)
 have hev : ∀ e ∈ seen P f es,EvOk H W.heap.size W'.heap.size e := fun e he => ht.evs e (mem_seen he)
 refine ⟨G (c.finish v) cs,W',seen P f es,H',?_,⟨ht.holds,ht.os,ht.tape,ht.output,ht.size,ht.keep,ht.mine,ht.seen,hev⟩,hq⟩
 simp only [G,stepG,retMode,Fr]
 simp only [unwind,hf,hr,doReturn]
 simp [GStep.after]
end
end Go.Gx
end
section
namespace Go.Gx
open Go Go.Conc
def VS (Q : Value → Facts → Prop) : Next → Facts → Prop
 | .value v,H => Q v H
 | .skip,H => Q undef H
 | _,_ => False
def QOp (P : Program) (o : Oper) (E : Env) (H : Facts) (v : Value) : Prop :=
 (∀ c,o.op ≠ .defer c) ∧ ∀ φ,Agree E φ → ∀ Q : Value → Facts → Prop,Q v H → K P (execOp φ o) (VS Q) H
def LOp (P : Program) (o : Oper) (E : Env) (H : Facts) (Post : Value → Facts → Prop) : Prop :=
 (∀ c,o.op ≠ .defer c) ∧ ∀ φ,Agree E φ → ∀ Q : Value → Facts → Prop,(∀ v H',Post v H' → Q v H') → K P (execOp φ o) (VS Q) H
theorem QOp.lop {P : Program} {o : Oper} {E : Env} {H : Facts} {v : Value} (h : QOp P o E H v) : LOp P o E H (fun u H' => u = v ∧ H' = H) :=
 ⟨h.1,fun φ hA Q hQ => h.2 φ hA Q (hQ v H ⟨rfl,rfl⟩)⟩
def dstOk (d : Option Tmp) (n : Nat) : Bool :=
 match d with
 | none => true
 | some t => Nat.blt t n
theorem dstOk_lt {d : Option Tmp} {n : Nat} (h : dstOk d n = true) : ∀ t,d = some t → t < n := by
 rintro t rfl
 simpa [dstOk,Nat.blt_eq] using h
section
variable {P : Program} {main : Bool} {L : Lg P main} {f : FuncId} {ro : Option Nat} {ds : Dz} {cs : List Frame} {n : Nat} {E : Env} {H : Facts} {k : List Item}
theorem vs_next {ops : Array Oper} {i : Nat} {rest : List Nat} {d : Option Tmp} {nx : Next} {H' : Facts} (h : VS (fun v H' => At L f ro ds cs n (putE d v E) H' (.inRegion ops rest :: k)) nx H') : NextJ L f ro ds cs n E ops i rest k d nx H' := by
 cases nx <;> first | exact h | exact h.elim
theorem Ae {ops : Array Oper} {i : Nat} {rest : List Nat} {o : Oper} {d : Nat} {v : Value} (ho : ops[i]? = some o) (hw : wantE ops o E = some true) (hd : o.dst = some d) (hn : Nat.blt d n = true) (hq : QOp P o E H v)
  (h : At L f ro ds cs n ((d,v) :: E) H (.inRegion ops rest :: k)) : At L f ro ds cs n E H (.inRegion ops (i :: rest) :: k) :=
 At.opG ho hw hq.1 (by rw [hd];rintro t ⟨⟩;simpa [Nat.blt_eq] using hn) fun φ hA => K.mono (fun _ _ => vs_next) (hq.2 φ hA _ (by rw [hd];exact h))
theorem At.l {ops : Array Oper} {i : Nat} {rest : List Nat} {o : Oper} {d : Nat} {Post : Value → Facts → Prop} (ho : ops[i]? = some o) (hw : wantE ops o E = some true) (hd : o.dst = some d) (hn : Nat.blt d n = true) (hq : LOp P o E H Post)
  (h : ∀ v H',Post v H' → At L f ro ds cs n ((d,v) :: E) H' (.inRegion ops rest :: k)) : At L f ro ds cs n E H (.inRegion ops (i :: rest) :: k) :=
 At.opG ho hw hq.1 (by rw [hd];rintro t ⟨⟩;simpa [Nat.blt_eq] using hn) fun φ hA => K.mono (fun _ _ => vs_next) (hq.2 φ hA _ (by rw [hd];exact h))
theorem At.s {ops : Array Oper} {i : Nat} {rest : List Nat} {o : Oper} {Post : Value → Facts → Prop} (ho : ops[i]? = some o) (hw : wantE ops o E = some true) (hd : o.dst = none) (hq : LOp P o E H Post)
  (h : ∀ v H',Post v H' → At L f ro ds cs n E H' (.inRegion ops rest :: k)) : At L f ro ds cs n E H (.inRegion ops (i :: rest) :: k) :=
 At.opG ho hw hq.1 (by rw [hd];rintro t ⟨⟩) fun φ hA => K.mono (fun _ _ => vs_next) (hq.2 φ hA _ (by rw [hd];exact h))
theorem At.u {ops : Array Oper} {i : Nat} {rest : List Nat} {o : Oper} {d : Nat} (ho : ops[i]? = some o) (hw : wantE ops o E = some false) (hd : o.dst = some d) (hn : Nat.blt d n = true)
  (h : At L f ro ds cs n ((d,undef) :: E) H (.inRegion ops rest :: k)) : At L f ro ds cs n E H (.inRegion ops (i :: rest) :: k) :=
 At.unwanted ho hw (by rw [hd];rintro t ⟨⟩;simpa [Nat.blt_eq] using hn) (by rw [hd];exact h)
theorem At.c {ops : Array Oper} {i : Nat} {rest : List Nat} {o : Oper} {x : Operand} {az : Array Operand} {ats : Array TypeId} {g : FuncId} {first cap : Array Value} {vs : List Value} {d : Nat} {Post : Value → Facts → Prop}
  (ho : ops[i]? = some o) (hw : wantE ops o E = some true) (hop : o.op = .call { callee := .value x,args := az,argTypes := ats }) (hd : o.dst = some d) (hn : Nat.blt d n = true)
  (hx : ev E x = some (.func (.func g) first cap)) (has : evs E az.toList = some vs) (hb : HasBody P g)
  (hc : Spec L g (first ++ vs.toArray ++ cap) H Post)
  (h : ∀ v H',Post v H' → At L f ro ds cs n ((d,v) :: E) H' (.inRegion ops rest :: k)) : At L f ro ds cs n E H (.inRegion ops (i :: rest) :: k) :=
 At.callG ho hw hop (by rw [hd];rintro t ⟨⟩;simpa [Nat.blt_eq] using hn) hx has hb hc (by rw [hd];exact h)
theorem At.c0 {ops : Array Oper} {i : Nat} {rest : List Nat} {o : Oper} {x : Operand} {az : Array Operand} {ats : Array TypeId} {g : FuncId} {first cap : Array Value} {vs : List Value} {Post : Value → Facts → Prop}
  (ho : ops[i]? = some o) (hw : wantE ops o E = some true) (hop : o.op = .call { callee := .value x,args := az,argTypes := ats }) (hd : o.dst = none)
  (hx : ev E x = some (.func (.func g) first cap)) (has : evs E az.toList = some vs) (hb : HasBody P g)
  (hc : Spec L g (first ++ vs.toArray ++ cap) H Post)
  (h : ∀ v H',Post v H' → At L f ro ds cs n E H' (.inRegion ops rest :: k)) : At L f ro ds cs n E H (.inRegion ops (i :: rest) :: k) :=
 At.callG ho hw hop (by rw [hd];rintro t ⟨⟩) hx has hb hc (by rw [hd];exact h)
end
section
variable {P : Program} {H : Facts}
def isAggD : TypeDesc → Bool
 | .struct _ | .array _ _ => true
 | _ => false
def tyF (P : Program) (t : TypeId) : Option (Bool × Nat × Option Value × Nat) := (P.underlying t).bind fun d => (P.info? t).map fun i => (isAggD d,i.size,i.zero,i.bytes)
theorem tyF_parts {t : TypeId} {ag : Bool} {sz : Nat} {z : Option Value} {by_ : Nat} (h : tyF P t = some (ag,sz,z,by_)) : ∃ d i,P.underlying t = some d ∧ P.info? t = some i ∧ isAggD d = ag ∧ i.size = sz ∧ i.zero = z ∧ i.bytes = by_ := by
 unfold tyF at h
 cases hu : P.underlying t with
 | none => rw [hu] at h;cases h
 | some d =>
  cases hi : P.info? t with
  | none => rw [hu,hi] at h;cases h
  | some i =>
   rw [hu,hi] at h
   simp only [Option.bind_some,Option.map_some,Option.some.injEq,Prod.mk.injEq] at h
   exact ⟨d,i,rfl,rfl,h.1,h.2.1,h.2.2.1,h.2.2.2⟩
theorem k_typeInfo {t : TypeId} {i : TypeInfo} (h : P.info? t = some i) {Q : TypeInfo → Facts → Prop} : K P (typeInfo t) Q H ↔ Q i H := by
 unfold typeInfo
 rw [K.bind]
 simp only [program,K,h]
 exact Iff.rfl
theorem k_underlying {t : TypeId} {d : TypeDesc} (h : P.underlying t = some d) {Q : TypeDesc → Facts → Prop} : K P (underlying t) Q H ↔ Q d H := by
 unfold underlying
 rw [K.bind]
 simp only [program,K,h]
 exact Iff.rfl
theorem k_sizeOf {t : TypeId} {i : TypeInfo} (h : P.info? t = some i) {Q : Nat → Facts → Prop} : K P (sizeOf t) Q H ↔ Q i.size H := by
 unfold sizeOf
 rw [K.bind,k_typeInfo h]
 exact Iff.rfl
theorem k_zeroValue {t : TypeId} {i : TypeInfo} {z : Value} (h : P.info? t = some i) (hz : i.zero = some z) {Q : Value → Facts → Prop} : K P (zeroValue t) Q H ↔ Q z H := by
 unfold zeroValue
 rw [K.bind,k_typeInfo h,hz]
 exact Iff.rfl
theorem k_isAgg {t : TypeId} {d : TypeDesc} (h : P.underlying t = some d) {Q : Bool → Facts → Prop} : K P (isAgg t) Q H ↔ Q (isAggD d) H := by
 unfold isAgg
 rw [K.bind,k_underlying h]
 cases d <;> exact Iff.rfl
theorem k_newVar {t : TypeId} {v : Value} {Q : Addr → Facts → Prop} : K P (newVar t v) Q H ↔ ∀ r,Q ⟨r,0,none⟩ (.own r (.cells v.cells t (0,0)) :: H) := by
 unfold newVar newRow
 rw [K.bind]
 simp only [newObj,K]
 exact Iff.rfl
theorem add_none (b off n : Nat) : (⟨b,off,none⟩ : Addr).add n = ⟨b,off + n,none⟩ := by
 unfold Addr.add
 by_cases h : n = 0
 ·subst h;simp
 ·simp [h]
def Cells (H : Facts) (b off : Nat) (vs : List Value) : Prop := ∀ j v,vs[j]? = some v → Known H ⟨b,off + j,none⟩ v
theorem cells_own {b : Nat} {c : Array Value} {T : TypeId} {fr : Nat × Nat} {off : Nat} {vs : List Value} (hm : .own b (.cells c T fr) ∈ H) (h : (c.toList.drop off).take vs.length = vs) : Cells H b off vs := by
 intro j v hj
 refine ⟨rfl,_,hm,rfl,?_⟩
 show c[off + j]? = some v
 have hlt : j < vs.length := (List.getElem?_eq_some_iff.1 hj).1
 rw [← h,List.getElem?_take_of_lt hlt,List.getElem?_drop] at hj
 rw [← hj];simp
theorem cells_seg {b off : Nat} {us vs : List Value} (j : Nat) (hm : .seg b off us ∈ H) (h : (us.drop j).take vs.length = vs) : Cells H b (off + j) vs := by
 intro i v hi
 refine ⟨rfl,_,hm,rfl,?_⟩
 have hlt : i < vs.length := (List.getElem?_eq_some_iff.1 hi).1
 rw [← h,List.getElem?_take_of_lt hlt,List.getElem?_drop] at hi
 simp only [Fact.cell?]
 rw [if_pos (by omega),show off + j + i - off = j + i from by omega]
 exact hi
theorem cells_one {b off : Nat} {v : Value} (h : Cells H b off [v]) : Known H ⟨b,off,none⟩ v := by simpa using h 0 v rfl
theorem k_loadCellsFrom {b off : Nat} {vs : List Value} (h : Cells H b off vs) {Q : Array Value → Facts → Prop} : ∀ (m i : Nat) (acc : Array Value),i + m = vs.length → (Q (acc ++ (vs.drop i).toArray) H → K P (loadCellsFrom ⟨b,off,none⟩ i m acc) Q H)
 | 0,i,acc,hi => by
  intro hq
  rw [List.drop_of_length_le (by omega)] at hq
  have : Q acc H := by simpa using hq
  exact this
 | m + 1,i,acc,hi => by
  intro hq
  unfold loadCellsFrom
  rw [K.bind]
  have hlt : i < vs.length := by omega
  refine ⟨vs[i],rfl,?_,?_⟩
  ·rw [add_none];exact h i _ (List.getElem?_eq_getElem hlt)
  ·refine k_loadCellsFrom h m (i + 1) _ (by omega) ?_
   rw [List.drop_eq_getElem_cons hlt] at hq
   simpa using hq
theorem k_loadVar_agg {t : TypeId} {sz : Nat} {z : Option Value} {by_ : Nat} {b off : Nat} {vs : List Value} (ht : tyF P t = some (true,sz,z,by_)) (hc : Cells H b off vs) (hl : vs.length = sz) {Q : Value → Facts → Prop} (hq : Q (.agg vs.toArray) H) : K P (loadVar t ⟨b,off,none⟩) Q H := by
 obtain ⟨d,i,h1,h2,h3,h4,_,_⟩ := tyF_parts ht
 unfold loadVar
 rw [K.bind,k_isAgg h1,h3]
 simp only [if_true]
 rw [K.bind,k_sizeOf h2,K.bind]
 unfold loadCells
 refine k_loadCellsFrom hc i.size 0 #[] (by omega) ?_
 have e : #[] ++ (vs.drop 0).toArray = vs.toArray := by simp
 rw [e]
 exact hq
theorem k_loadVar_one {t : TypeId} {sz : Nat} {z : Option Value} {by_ : Nat} {b off : Nat} {v : Value} (ht : tyF P t = some (false,sz,z,by_)) (hc : Cells H b off [v]) {Q : Value → Facts → Prop} (hq : Q v H) : K P (loadVar t ⟨b,off,none⟩) Q H := by
 obtain ⟨d,i,h1,h2,h3,h4,_,_⟩ := tyF_parts ht
 unfold loadVar
 rw [K.bind,k_isAgg h1,h3]
 exact ⟨v,rfl,cells_one hc,hq⟩
inductive ResVs (P : Program) (E : Env) (H : Facts) : List ResultVar → List Value → Prop
 | nil : ResVs P E H [] []
 | tmp {t : Tmp} {v : Value} {rs : List ResultVar} {vs : List Value} (h : look E t = some v) (hs : ResVs P E H rs vs) : ResVs P E H (.tmp t :: rs) (v :: vs)
 | cellS {a : Tmp} {ty : TypeId} {b off sz by_ : Nat} {z : Option Value} {us : List Value} {rs : List ResultVar} {vs : List Value} (h : look E a = some (.pointer (some ⟨b,off,none⟩))) (ht : tyF P ty = some (true,sz,z,by_)) (hc : Cells H b off us) (hl : us.length = sz) (hs : ResVs P E H rs vs) : ResVs P E H (.cell a ty :: rs) (.agg us.toArray :: vs)
 | cell {a : Tmp} {ty : TypeId} {b off sz by_ : Nat} {z : Option Value} {u : Value} {rs : List ResultVar} {vs : List Value} (h : look E a = some (.pointer (some ⟨b,off,none⟩))) (ht : tyF P ty = some (false,sz,z,by_)) (hc : Cells H b off [u]) (hs : ResVs P E H rs vs) : ResVs P E H (.cell a ty :: rs) (u :: vs)
def resVal : List Value → Value
 | [v] => v
 | vs => .tuple vs.toArray
theorem getD_look {E : Env} {tmps : Array Value} (hE : E.ok tmps) {t : Nat} {v : Value} (h : look E t = some v) : tmps.getD t undef = v := by
 have := hE _ _ h;simp [Array.getD_eq_getD_getElem?,this]
theorem k_resVs {E : Env} {tmps : Array Value} (hE : E.ok tmps) {rs : List ResultVar} {vs : List Value} (h : ResVs P E H rs vs) : ∀ {Q : List Value → Facts → Prop},Q vs H → K P (rs.mapM fun | .tmp t => Pure.pure (tmps.getD t undef) | .cell a t => do loadVar t (← asAddr (tmps.getD a undef))) Q H := by
 induction h with
 | nil => intro Q hq;exact hq
 | tmp h hs ih =>
  intro Q hq
  rw [List.mapM_cons,K.bind]
  have e := getD_look hE h
  simp only [e,K.pure,K.bind]
  exact ih hq
 | cellS h ht hc hl hs ih =>
  intro Q hq
  rw [List.mapM_cons,K.bind]
  have e := getD_look hE h
  simp only [e,asAddr,K.pure,K.bind]
  refine k_loadVar_agg ht hc hl ?_
  exact ih hq
 | cell h ht hc hs ih =>
  intro Q hq
  rw [List.mapM_cons,K.bind]
  have e := getD_look hE h
  simp only [e,asAddr,K.pure,K.bind]
  refine k_loadVar_one ht hc ?_
  exact ih hq
theorem k_results {E : Env} {tmps : Array Value} (hE : E.ok tmps) {fn : Func} {rs : List ResultVar} {vs : List Value} (hr : fn.results.toList = rs) (h : ResVs P E H rs vs) {Q : Value → Facts → Prop} (hq : Q (resVal vs) H) : K P (results fn tmps) Q H := by
 unfold results
 rw [Array.mapM_eq_mapM_toList,hr,K.bind,K.map]
 refine k_resVs hE h ?_
 show Q _ H
 have e : (if h : vs.toArray.size = 1 then vs.toArray[0] else Value.tuple vs.toArray) = resVal vs := by
  match vs with
  | [] => rfl
  | [v] => rfl
  | v :: w :: us => simp [resVal]
 rw [e]
 exact hq
theorem At.ret {main : Bool} {L : Lg P main} {f : FuncId} {cs : List Frame} {n : Nat} {E : Env} {c : Frame} {fn : Func} {todo : List Item} {rs : List ResultVar} {vs : List Value} (hf : P.funcs[f]? = some fn) (hs : todo = [] ∨ ∃ k',todo = .code .ret :: k')
  (hr : fn.results.toList = rs) (hv : ResVs P E H rs vs) (h : L.J (G (c.finish (resVal vs)) cs) H) : At L f none d0 (c :: cs) n E H todo :=
 At.leave hf hs fun tmps _ hE => k_results hE hr hv h
theorem Upd.same {H H' : Facts} {f g : Fact} (h : Upd H f g H') (e : f = g) : H' = H := by
 induction h with
 | head f g H => rw [e]
 | tail x h ih => rw [ih e]
theorem k_storeCells {b off : Nat} {T : TypeId} {Q : Unit → Facts → Prop} : ∀ (vs : List Value) (i : Nat) (c : Array Value) (H H' : Facts),off + i + vs.length ≤ c.size → (∀ v ∈ vs,v.oneCell' = true) →
  Upd H (.own b (.cells c T (0,0))) (.own b (.cells (vs.zipIdx.foldl (fun c p => c.setIfInBounds (off + i + p.2) p.1) c) T (0,0))) H' → Q () H' → K P (storeCells ⟨b,off,none⟩ vs i) Q H := by
 intro vs
 induction vs with
 | nil =>
  intro i c H H' _ _ hu hq
  have := Upd.same hu rfl
  subst this
  exact hq
 | cons v vs ih =>
  intro i c H H' hsz h1 hu hq
  unfold storeCells
  rw [K.bind]
  simp only [List.length_cons] at hsz
  obtain ⟨A,B,rfl,rfl⟩ := hu.split
  refine ⟨rfl,h1 v (by simp),A ++ .own b (.cells (c.setIfInBounds (off + i) v) T (0,0)) :: B,⟨by rw [add_none],c,T,by rw [add_none];simp only;omega,?_⟩,?_⟩
  ·rw [add_none]
   clear hu hq
   induction A with
   | nil => exact .head _ _ _
   | cons x A ihA => exact .tail x ihA
  ·refine ih (i + 1) (c.setIfInBounds (off + i) v) _ _ (by simp;omega) (fun u hu => h1 u (by simp [hu])) ?_ hq
   have e : (List.zipIdx vs).foldl (fun c p => c.setIfInBounds (off + (i + 1) + p.2) p.1) (c.setIfInBounds (off + i) v) = ((v :: vs).zipIdx).foldl (fun c p => c.setIfInBounds (off + i + p.2) p.1) c := by
    simp only [List.zipIdx_cons,List.foldl_cons,Nat.add_zero,Nat.zero_add]
    rw [List.zipIdx_succ,List.foldl_map]
    congr 1
    funext c p
    obtain ⟨w,j⟩ := p
    simp only
    congr 1
    omega
   rw [e]
   clear hu hq
   induction A with
   | nil => exact .head _ _ _
   | cons x A ihA => exact .tail x ihA
end
end Go.Gx
end
section
namespace Go.Gx
open Go Go.Conc
section
variable {P : Program} {o : Oper} {E : Env} {H : Facts}
theorem nd {op : Op} (h : o.op = op) (hn : ∀ c,op ≠ .defer c) : ∀ c,o.op ≠ .defer c := fun c => by rw [h];exact hn c
theorem q_move {x : Operand} {v : Value} (ho : o.op = .move x) (hx : ev E x = some v) : QOp P o E H v :=
 ⟨nd ho (by intro c h;cases h),fun φ hA Q hQ => by unfold execOp;rw [ho];show VS Q (.value (φ x)) H;rw [hA x v hx];exact hQ⟩
theorem q_assign {x : Operand} {v : Value} (ho : o.op = .assign x) (hx : ev E x = some v) : QOp P o E H v :=
 ⟨nd ho (by intro c h;cases h),fun φ hA Q hQ => by unfold execOp;rw [ho];show VS Q (.value (φ x)) H;rw [hA x v hx];exact hQ⟩
theorem q_pickT {c x y : Operand} {v : Value} (ho : o.op = .pick c x y) (hc : ev E c = some (.bool true)) (hx : ev E x = some v) : QOp P o E H v :=
 ⟨nd ho (by intro c h;cases h),fun φ hA Q hQ => by
  unfold execOp;rw [ho];simp only [hA c _ hc,asBool,K.bind]
  show VS Q (.value (if (true : Bool) then φ x else φ y)) H
  rw [if_pos rfl,hA x v hx];exact hQ⟩
theorem q_pickF {c x y : Operand} {v : Value} (ho : o.op = .pick c x y) (hc : ev E c = some (.bool false)) (hy : ev E y = some v) : QOp P o E H v :=
 ⟨nd ho (by intro c h;cases h),fun φ hA Q hQ => by
  unfold execOp;rw [ho];simp only [hA c _ hc,asBool,K.bind]
  show VS Q (.value (if (false : Bool) then φ x else φ y)) H
  rw [if_neg (by simp),hA y v hy];exact hQ⟩
theorem q_extract {x : Operand} {i : Nat} {vs : Array Value} {v : Value} (ho : o.op = .extract x i) (hx : ev E x = some (.tuple vs)) (hi : vs[i]? = some v) : QOp P o E H v :=
 ⟨nd ho (by intro c h;cases h),fun φ hA Q hQ => by
  unfold execOp;rw [ho];simp only [hA x _ hx,Instr.extract,hi,K.bind]
  exact hQ⟩
theorem q_makeFunc {fn : Fn} {first cap : Array Operand} {fs cv : List Value} (ho : o.op = .makeFunc fn first cap) (h1 : evs E first.toList = some fs) (h2 : evs E cap.toList = some cv) : QOp P o E H (.func fn fs.toArray cv.toArray) :=
 ⟨nd ho (by intro c h;cases h),fun φ hA Q hQ => by
  unfold execOp;rw [ho]
  have e1 : first.map φ = fs.toArray := by
   have := evs_map hA h1
   apply Array.ext';simpa using this
  have e2 : cap.map φ = cv.toArray := by
   have := evs_map hA h2
   apply Array.ext';simpa using this
  simp only [Instr.makeFunc,K.bind,e1,e2]
  exact hQ⟩
theorem q_loadS {t : TypeId} {x : Operand} {b off sz by_ : Nat} {z : Option Value} {vs : List Value} (ho : o.op = .load t x) (hx : ev E x = some (.pointer (some ⟨b,off,none⟩))) (ht : tyF P t = some (true,sz,z,by_)) (hc : Cells H b off vs) (hl : vs.length = sz) : QOp P o E H (.agg vs.toArray) :=
 ⟨nd ho (by intro c h;cases h),fun φ hA Q hQ => by
  unfold execOp;rw [ho];simp only [hA x _ hx,Instr.loadAt,Instr.sureAddr,K.bind]
  exact k_loadVar_agg ht hc hl hQ⟩
theorem q_load {t : TypeId} {x : Operand} {b off sz by_ : Nat} {z : Option Value} {v : Value} (ho : o.op = .load t x) (hx : ev E x = some (.pointer (some ⟨b,off,none⟩))) (ht : tyF P t = some (false,sz,z,by_)) (hc : Cells H b off [v]) : QOp P o E H v :=
 ⟨nd ho (by intro c h;cases h),fun φ hA Q hQ => by
  unfold execOp;rw [ho];simp only [hA x _ hx,Instr.loadAt,Instr.sureAddr,K.bind]
  exact k_loadVar_one ht hc hQ⟩
theorem q_fieldAddr {t : TypeId} {x : Operand} {i b off : Nat} {fs : Array Field} {fd : Field} {ft : TypeInfo} (ho : o.op = .fieldAddr t x i) (hx : ev E x = some (.pointer (some ⟨b,off,none⟩))) (ht : P.underlying t = some (.struct fs)) (hi : fs[i]? = some fd) (hf : P.info? fd.type = some ft) (hz : ft.size ≠ 0) :
  QOp P o E H (.pointer (some ⟨b,off + fd.offset,none⟩)) :=
 ⟨nd ho (by intro c h;cases h),fun φ hA Q hQ => by
  unfold execOp;rw [ho];simp only [hA x _ hx,Instr.fieldAt,Instr.sureAddr,K.bind,k_underlying ht,hi,fieldPlace,K.pure]
  show K P (sizeOf fd.type) _ H
  rw [k_sizeOf hf,if_neg hz,add_none]
  exact hQ⟩
theorem q_indexAddr {t e : TypeId} {x y : Operand} {b off len cap : Nat} {kd : IntKind} {i : Int} {ft : TypeInfo} (ho : o.op = .indexAddr t x y) (hx : ev E x = some (.slice (some ⟨b,off,none⟩) len cap)) (hy : ev E y = some (.int kd i)) (ht : P.underlying t = some (.slice e)) (hf : P.info? e = some ft) (hr : 0 ≤ i ∧ i < len) :
  QOp P o E H (.pointer (some ⟨b,off + i.toNat * ft.size,none⟩)) :=
 ⟨nd ho (by intro c h;cases h),fun φ hA Q hQ => by
  unfold execOp;rw [ho];simp only [hA x _ hx,hA y _ hy,Instr.indexAt,asIntOf,K.bind,k_underlying ht]
  simp only [K.pure]
  rw [if_pos hr,K.bind,k_sizeOf hf,add_none]
  exact hQ⟩
theorem q_indexAddrA {t e : TypeId} {x y : Operand} {b off len : Nat} {kd : IntKind} {i : Int} {ft : TypeInfo} (ho : o.op = .indexAddr t x y) (hx : ev E x = some (.pointer (some ⟨b,off,none⟩))) (hy : ev E y = some (.int kd i)) (ht : P.underlying t = some (.array len e)) (hf : P.info? e = some ft) (hr : 0 ≤ i ∧ i < len) :
  QOp P o E H (.pointer (some ⟨b,off + i.toNat * ft.size,none⟩)) :=
 ⟨nd ho (by intro c h;cases h),fun φ hA Q hQ => by
  unfold execOp;rw [ho];simp only [hA x _ hx,hA y _ hy,Instr.indexAt,asIntOf,K.bind,k_underlying ht,Instr.sureAddr]
  simp only [K.pure]
  rw [if_pos hr,K.bind,k_sizeOf hf,add_none]
  exact hQ⟩
theorem l_alloc {t : TypeId} {ag : Bool} {sz by_ : Nat} {z : Value} (ho : o.op = .alloc t) (ht : tyF P t = some (ag,sz,some z,by_)) : LOp P o E H (fun v H' => ∃ r,v = .pointer (some ⟨r,0,none⟩) ∧ H' = .own r (.cells z.cells t (0,0)) :: H) :=
 ⟨nd ho (by intro c h;cases h),fun φ hA Q hQ => by
  obtain ⟨d,i,h1,h2,h3,h4,h5,_⟩ := tyF_parts ht
  unfold execOp;rw [ho];simp only [Instr.alloc,K.bind,k_zeroValue h2 h5]
  rw [k_newVar]
  exact fun r => hQ _ _ ⟨r,rfl,rfl⟩⟩
theorem l_box {t : TypeId} {x : Operand} {v : Value} {c : Array Value} (ho : o.op = .box t x) (hx : ev E x = some v) (hc : v.cells = c) : LOp P o E H (fun u H' => ∃ r,u = .pointer (some ⟨r,0,none⟩) ∧ H' = .own r (.cells c t (0,0)) :: H) :=
 ⟨nd ho (by intro c h;cases h),fun φ hA Q hQ => by
  unfold execOp;rw [ho];simp only [Instr.box,hA x _ hx,K.bind]
  rw [k_newVar,hc]
  exact fun r => hQ _ _ ⟨r,rfl,rfl⟩⟩
theorem l_store {t : TypeId} {x y : Operand} {ag : Bool} {b off sz by_ : Nat} {z : Option Value} {v : Value} {T : TypeId} {c c' : Array Value} {H' : Facts} (ho : o.op = .store t x y) (hx : ev E x = some (.pointer (some ⟨b,off,none⟩))) (hy : ev E y = some v) (ht : tyF P t = some (ag,sz,z,by_)) (hs : v.cells.size = sz)
  (h1 : v.cells.all (·.oneCell') = true) (hsz : off + sz ≤ c.size) (hc : (v.cells.toList.zipIdx.foldl (fun c p => c.setIfInBounds (off + p.2) p.1) c) = c')
  (hu : Upd H (.own b (.cells c T (0,0))) (.own b (.cells c' T (0,0))) H') : LOp P o E H (fun u H'' => u = undef ∧ H'' = H') :=
 ⟨nd ho (by intro c h;cases h),fun φ hA Q hQ => by
  obtain ⟨d,i,_,h2,_,h4,_,_⟩ := tyF_parts ht
  unfold execOp;rw [ho];simp only [hA x _ hx,hA y _ hy,Instr.storeAt,Instr.sureAddr,K.bind,storeVar,K.pure]
  rw [k_sizeOf h2,if_neg (by rw [hs,h4];simp)]
  refine k_storeCells v.cells.toList 0 c H H' (by simp;omega) (fun u hu => ?_) (by simpa [hc] using hu) (hQ _ _ ⟨rfl,rfl⟩)
  rw [Array.all_eq_true_iff_forall_mem] at h1
  exact h1 u (by simpa using hu)⟩
theorem wrap_in {n : Int} (h : -9223372036854775808 ≤ n ∧ n ≤ 9223372036854775807) : IntKind.wrap .i64 n = n := IntWalk.i64_in n h
abbrev InI (n : Int) : Prop := -9223372036854775808 ≤ n ∧ n ≤ 9223372036854775807
theorem q_add {t t' : TypeId} {x y : Operand} {a b : Int} (ho : o.op = .binOp .add t x y t') (hx : ev E x = some (.int .i64 a)) (hy : ev E y = some (.int .i64 b)) (hr : InI (a + b)) : QOp P o E H (.int .i64 (a + b)) :=
 ⟨nd ho (by intro c h;cases h),fun φ hA Q hQ => by
  unfold execOp;rw [ho];simp only [hA x _ hx,hA y _ hy,eqGuard,binOp,Op.intArith,K.bind,ne_eq,not_true_eq_false,if_false,K.pure]
  rw [wrap_in hr];exact hQ⟩
theorem q_sub {t t' : TypeId} {x y : Operand} {a b : Int} (ho : o.op = .binOp .sub t x y t') (hx : ev E x = some (.int .i64 a)) (hy : ev E y = some (.int .i64 b)) (hr : InI (a - b)) : QOp P o E H (.int .i64 (a - b)) :=
 ⟨nd ho (by intro c h;cases h),fun φ hA Q hQ => by
  unfold execOp;rw [ho];simp only [hA x _ hx,hA y _ hy,eqGuard,binOp,Op.intArith,K.bind,ne_eq,not_true_eq_false,if_false,K.pure]
  rw [wrap_in hr];exact hQ⟩
theorem q_mul {t t' : TypeId} {x y : Operand} {a b : Int} (ho : o.op = .binOp .mul t x y t') (hx : ev E x = some (.int .i64 a)) (hy : ev E y = some (.int .i64 b)) (hr : InI (a * b)) : QOp P o E H (.int .i64 (a * b)) :=
 ⟨nd ho (by intro c h;cases h),fun φ hA Q hQ => by
  unfold execOp;rw [ho];simp only [hA x _ hx,hA y _ hy,eqGuard,binOp,Op.intArith,K.bind,ne_eq,not_true_eq_false,if_false,K.pure]
  rw [wrap_in hr];exact hQ⟩
theorem q_quo {t t' : TypeId} {x y : Operand} {a b : Int} (ho : o.op = .binOp .quo t x y t') (hx : ev E x = some (.int .i64 a)) (hy : ev E y = some (.int .i64 b)) (hb : b ≠ 0) (hr : InI (a.tdiv b)) : QOp P o E H (.int .i64 (a.tdiv b)) :=
 ⟨nd ho (by intro c h;cases h),fun φ hA Q hQ => by
  unfold execOp;rw [ho];simp only [hA x _ hx,hA y _ hy,eqGuard,binOp,Op.intDiv,K.bind,ne_eq,not_true_eq_false,if_false,K.pure,hb]
  rw [wrap_in hr];exact hQ⟩
theorem q_rem {t t' : TypeId} {x y : Operand} {a b : Int} (ho : o.op = .binOp .rem t x y t') (hx : ev E x = some (.int .i64 a)) (hy : ev E y = some (.int .i64 b)) (hb : b ≠ 0) : QOp P o E H (.int .i64 (a.tmod b)) :=
 ⟨nd ho (by intro c h;cases h),fun φ hA Q hQ => by
  unfold execOp;rw [ho];simp only [hA x _ hx,hA y _ hy,eqGuard,binOp,Op.intDiv,K.bind,ne_eq,not_true_eq_false,if_false,K.pure,hb]
  exact hQ⟩
theorem q_neg {t : TypeId} {x : Operand} {a : Int} (ho : o.op = .unOp .neg t x) (hx : ev E x = some (.int .i64 a)) (hr : InI (-a)) : QOp P o E H (.int .i64 (-a)) :=
 ⟨nd ho (by intro c h;cases h),fun φ hA Q hQ => by
  unfold execOp;rw [ho];simp only [hA x _ hx,Op.unary,Op.intArith,K.bind,K.pure]
  rw [show (0 : Int) - a = -a from by omega,wrap_in hr];exact hQ⟩
theorem q_not {t : TypeId} {x : Operand} {a : Bool} (ho : o.op = .unOp .not t x) (hx : ev E x = some (.bool a)) : QOp P o E H (.bool (!a)) :=
 ⟨nd ho (by intro c h;cases h),fun φ hA Q hQ => by
  unfold execOp;rw [ho];simp only [hA x _ hx,Op.unary,K.bind,K.pure]
  exact hQ⟩
theorem q_lss {t t' : TypeId} {x y : Operand} {kd : IntKind} {a b : Int} (ho : o.op = .binOp .lss t x y t') (hx : ev E x = some (.int kd a)) (hy : ev E y = some (.int kd b)) : QOp P o E H (.bool (decide (a < b))) :=
 ⟨nd ho (by intro c h;cases h),fun φ hA Q hQ => by
  unfold execOp;rw [ho];simp only [hA x _ hx,hA y _ hy,eqGuard,binOp,Op.intCmp,K.bind,ne_eq,not_true_eq_false,if_false,K.pure]
  exact hQ⟩
theorem q_leq {t t' : TypeId} {x y : Operand} {kd : IntKind} {a b : Int} (ho : o.op = .binOp .leq t x y t') (hx : ev E x = some (.int kd a)) (hy : ev E y = some (.int kd b)) : QOp P o E H (.bool (decide (a ≤ b))) :=
 ⟨nd ho (by intro c h;cases h),fun φ hA Q hQ => by
  unfold execOp;rw [ho];simp only [hA x _ hx,hA y _ hy,eqGuard,binOp,Op.intCmp,K.bind,ne_eq,not_true_eq_false,if_false,K.pure]
  exact hQ⟩
theorem q_gtr {t t' : TypeId} {x y : Operand} {kd : IntKind} {a b : Int} (ho : o.op = .binOp .gtr t x y t') (hx : ev E x = some (.int kd a)) (hy : ev E y = some (.int kd b)) : QOp P o E H (.bool (decide (b < a))) :=
 ⟨nd ho (by intro c h;cases h),fun φ hA Q hQ => by
  unfold execOp;rw [ho];simp only [hA x _ hx,hA y _ hy,eqGuard,binOp,Op.intCmp,K.bind,ne_eq,not_true_eq_false,if_false,K.pure]
  exact hQ⟩
theorem q_geq {t t' : TypeId} {x y : Operand} {kd : IntKind} {a b : Int} (ho : o.op = .binOp .geq t x y t') (hx : ev E x = some (.int kd a)) (hy : ev E y = some (.int kd b)) : QOp P o E H (.bool (decide (b ≤ a))) :=
 ⟨nd ho (by intro c h;cases h),fun φ hA Q hQ => by
  unfold execOp;rw [ho];simp only [hA x _ hx,hA y _ hy,eqGuard,binOp,Op.intCmp,K.bind,ne_eq,not_true_eq_false,if_false,K.pure]
  exact hQ⟩
theorem q_eql {t t' : TypeId} {x y : Operand} {kd : IntKind} {a b : Int} (ho : o.op = .binOp .eql t x y t') (hx : ev E x = some (.int kd a)) (hy : ev E y = some (.int kd b)) : QOp P o E H (.bool (decide (a = b))) :=
 ⟨nd ho (by intro c h;cases h),fun φ hA Q hQ => by
  unfold execOp;rw [ho];simp only [hA x _ hx,hA y _ hy,eqGuard,binOp,Op.intCmp,K.bind,ne_eq,not_true_eq_false,if_false,K.pure]
  have e : (a == b) = decide (a = b) := by by_cases h : a = b <;> simp [h]
  simp only [e]
  exact hQ⟩
theorem q_neq {t t' : TypeId} {x y : Operand} {kd : IntKind} {a b : Int} (ho : o.op = .binOp .neq t x y t') (hx : ev E x = some (.int kd a)) (hy : ev E y = some (.int kd b)) : QOp P o E H (.bool (decide (a ≠ b))) :=
 ⟨nd ho (by intro c h;cases h),fun φ hA Q hQ => by
  unfold execOp;rw [ho];simp only [hA x _ hx,hA y _ hy,eqGuard,binOp,Op.intCmp,K.bind,ne_eq,not_true_eq_false,if_false,K.pure]
  have e : (a != b) = decide (a ≠ b) := by by_cases h : a = b <;> simp [h]
  simp only [e]
  exact hQ⟩
theorem q_len {az : Array Operand} {ats : Array TypeId} {x : Operand} {t e : TypeId} {a : Option Addr} {len cap : Nat} (ho : o.op = .call { callee := .builtin .len,args := az,argTypes := ats }) (has : az.toList = [x]) (hat : ats[0]? = some t) (hx : ev E x = some (.slice a len cap)) (ht : P.underlying t = some (.slice e)) : QOp P o E H (.int .i64 len) :=
 ⟨nd ho (by intro c h;cases h),fun φ hA Q hQ => by
  have e0 : az.map φ = #[.slice a len cap] := by
   apply Array.ext'
   simp [has,hA x _ hx]
  unfold execOp;rw [ho];simp only [resolve,K.bind,K.pure,invoke,builtin,Builtin.len_,e0,hat]
  have e1 : (#[Value.slice a len cap] : Array Value)[0]? = some (.slice a len cap) := rfl
  simp only [e1,K.bind]
  rw [k_underlying ht]
  exact hQ⟩
theorem q_max {az : Array Operand} {ats : Array TypeId} {x y : Operand} {a b : Int} (ho : o.op = .call { callee := .builtin .max,args := az,argTypes := ats }) (has : az.toList = [x,y]) (hx : ev E x = some (.int .i64 a)) (hy : ev E y = some (.int .i64 b)) : QOp P o E H (.int .i64 (if b > a then b else a)) :=
 ⟨nd ho (by intro c h;cases h),fun φ hA Q hQ => by
  have e0 : az.map φ = #[.int .i64 a,.int .i64 b] := by
   apply Array.ext'
   simp [has,hA x _ hx,hA y _ hy]
  unfold execOp;rw [ho];simp only [resolve,K.bind,K.pure,invoke,builtin,Builtin.max_,e0]
  exact hQ⟩
theorem q_min {az : Array Operand} {ats : Array TypeId} {x y : Operand} {a b : Int} (ho : o.op = .call { callee := .builtin .min,args := az,argTypes := ats }) (has : az.toList = [x,y]) (hx : ev E x = some (.int .i64 a)) (hy : ev E y = some (.int .i64 b)) : QOp P o E H (.int .i64 (if b < a then b else a)) :=
 ⟨nd ho (by intro c h;cases h),fun φ hA Q hQ => by
  have e0 : az.map φ = #[.int .i64 a,.int .i64 b] := by
   apply Array.ext'
   simp [has,hA x _ hx,hA y _ hy]
  unfold execOp;rw [ho];simp only [resolve,K.bind,K.pure,invoke,builtin,Builtin.min_,e0]
  exact hQ⟩
end
end Go.Gx
end
section
namespace Go.Gx
open Go Go.Conc
theorem evOk_more {A B : Facts} {n m : Nat} {e : Event} (h : EvOk A n m e) (hs : ∀ f ∈ A,f ∈ B) : EvOk B n m e := by
 obtain ⟨loc,wr,sy⟩ := e
 have rd : ∀ r,((∃ f ∈ A,f.block = r) ∨ (n ≤ r ∧ r < m)) → ((∃ f ∈ B,f.block = r) ∨ (n ≤ r ∧ r < m)) := by
  rintro r (⟨f,hf,hb⟩ | h)
  ·exact .inl ⟨f,hs f hf,hb⟩
  ·exact .inr h
 have wt : ∀ r,((∃ f ∈ A,f.isOwn = true ∧ f.block = r) ∨ (n ≤ r ∧ r < m)) → ((∃ f ∈ B,f.isOwn = true ∧ f.block = r) ∨ (n ≤ r ∧ r < m)) := by
  rintro r (⟨f,hf,ho,hb⟩ | h)
  ·exact .inl ⟨f,hs f hf,ho,hb⟩
  ·exact .inr h
 cases loc with
 | cell a => cases sy <;> cases wr <;> first | exact rd _ h | exact wt _ h | (simp [EvOk] at h)
 | obj r => cases sy <;> cases wr <;> first | exact rd _ h | exact wt _ h | (simp [EvOk] at h)
 | output => simp [EvOk] at h
 | goroutines => simp [EvOk] at h
 | mark m => cases m <;> first | trivial | (simp [EvOk] at h)
theorem Tr.frame {A R A' : Facts} {W W' : World} {es : Array Event} (h : Tr A W es W' A') (hW : Holds (A ++ R) W) : Tr (A ++ R) W es W' (A' ++ R) := by
 have hp := List.pairwise_append.1 hW.1
 have still : ∀ f ∈ R,f.Is W' := by
  intro f hf
  have ht : f.Is W := hW.2 f (List.mem_append_right _ hf)
  have hlt := ht.lt
  have hk : W'.heap[f.block]? = W.heap[f.block]? := h.keep f.block hlt fun g hg hgo e => hp.2.2 g hg f hf (.inl hgo) e
  cases f with
  | own r o => show W'.heap[r]? = some o;rw [show W'.heap[r]? = W.heap[r]? from hk];exact ht
  | seg b off vs =>
   refine ⟨Nat.lt_of_lt_of_le ht.1 h.size,fun k v hv => ?_⟩
   have := ht.2 k v hv
   simp only [World.cell?] at this ⊢
   rw [show W'.heap[b]? = W.heap[b]? from hk];exact this
 refine ⟨⟨List.pairwise_append.2 ⟨h.holds.1,hp.2.1,fun f hf g hg hor => ?_⟩,fun f hf => ?_⟩,h.os,h.tape,h.output,h.size,fun b hb hno => h.keep b hb fun f hf => hno f (List.mem_append_left _ hf),?_,?_,fun e he => evOk_more (h.evs e he) fun f hf => List.mem_append_left _ hf⟩
 ·
  have hglt : g.block < W.heap.size := (hW.2 g (List.mem_append_right _ hg)).lt
  by_cases hfo : f.isOwn = true
  ·rcases h.mine f hf hfo with ⟨g',hg',hgo',hgb'⟩ | hlt
   ·exact hgb' ▸ hp.2.2 g' hg' g hg (.inl hgo')
   ·omega
  ·rcases hor with hfo' | hgo
   ·exact absurd hfo' hfo
   ·rcases h.seen f hf with ⟨g',hg',hgb'⟩ | hlt
    ·exact hgb' ▸ hp.2.2 g' hg' g hg (.inr hgo)
    ·omega
 ·rcases List.mem_append.1 hf with hf | hf
  ·exact h.holds.2 f hf
  ·exact still f hf
 ·intro f hf ho
  rcases List.mem_append.1 hf with hf | hf
  ·exact (h.mine f hf ho).imp (fun ⟨g,hg,x⟩ => ⟨g,List.mem_append_left _ hg,x⟩) id
  ·exact .inl ⟨f,List.mem_append_right _ hf,ho,rfl⟩
 ·intro f hf
  rcases List.mem_append.1 hf with hf | hf
  ·exact (h.seen f hf).imp (fun ⟨g,hg,x⟩ => ⟨g,List.mem_append_left _ hg,x⟩) id
  ·exact .inl ⟨f,List.mem_append_right _ hf,rfl⟩
theorem Holds.perm {A B : Facts} (h : A.Perm B) {W : World} (hA : Holds A W) : Holds B W :=
 ⟨(h.pairwise_iff (fun h => Fact.apart_symm h)).1 hA.1,fun f hf => hA.2 f (h.mem_iff.2 hf)⟩
theorem Tr.perm {A B A' B' : Facts} {W W' : World} {es : Array Event} (h : Tr A W es W' A') (e : A.Perm B) (e' : A'.Perm B') : Tr B W es W' B' :=
 ⟨h.holds.perm e',h.os,h.tape,h.output,h.size,fun b hb hno => h.keep b hb fun f hf => hno f (e.mem_iff.1 hf),
  fun f hf ho => (h.mine f (e'.mem_iff.2 hf) ho).imp (fun ⟨g,hg,x⟩ => ⟨g,e.mem_iff.1 hg,x⟩) id,
  fun f hf => (h.seen f (e'.mem_iff.2 hf)).imp (fun ⟨g,hg,x⟩ => ⟨g,e.mem_iff.1 hg,x⟩) id,
  fun e'' he => evOk_more (h.evs e'' he) fun f hf => e.mem_iff.1 hf⟩
theorem Tr.frameSub {A H : Facts} {W W' : World} {es : Array Event} (h : Tr A W es W' A) (hs : Sub A H) (hW : Holds H W) : Tr H W es W' H := by
 obtain ⟨R,hR⟩ := hs
 exact (h.frame (hW.perm hR.symm)).perm hR hR
def tmpsOf (xs : List Operand) : List Nat := xs.filterMap fun | .tmp t => some t | _ => none
def readsOf (ops : Array Oper) (o : Oper) : List Nat := tmpsOf o.op.operands.toList ++ (match o.guard with | none => [] | some (j,_) => match (ops[j]?).bind (·.dst) with | some d => [d] | none => [])
def predsOf (o : Oper) : List Nat := (o.after.toList.filter fun e => Region.binds .any e).map (·.on)
structure Reg where
 i : Nat
 o : Oper
 E : Env
 v : Value
def noSel (o : Oper) : Bool := match o.op with | .select _ _ => false | _ => true
section
variable {P : Program} {main : Bool} {L : Lg P main} {f : FuncId} {ro : Option Nat} {ds : Dz} {cs : List Frame} {n : Nat} {k : List Item} {ops : Array Oper}
structure Reg.qk (P : Program) (ops : Array Oper) (n : Nat) (Hq : Facts) (r : Reg) : Prop where
 get : ops[r.i]? = some r.o
 dst : ∀ t,r.o.dst = some t → t < n
 run : (wantE ops r.o r.E = some true ∧ QOp P r.o r.E Hq r.v) ∨ (wantE ops r.o r.E = some false ∧ r.v = undef)
 sel : noSel r.o = true
structure Reg.ok (L : Lg P main) (f : FuncId) (ro : Option Nat) (ds : Dz) (cs : List Frame) (n : Nat) (ops : Array Oper) (k : List Item) (Hq : Facts) (r : Reg) : Prop where
 get : ops[r.i]? = some r.o
 dst : ∀ t,r.o.dst = some t → t < n
 go : ∀ {H : Facts},Sub Hq H → ∀ {rest : List Nat} {tmps : Array Value},tmps.size = n → (∀ t v,t ∈ readsOf ops r.o → look r.E t = some v → tmps[t]? = some v) →
  L.J (G (Fr f ro ds (putT r.o.dst r.v tmps) (.inRegion ops rest :: k)) cs) H → L.J (G (Fr f ro ds tmps (.inRegion ops (r.i :: rest) :: k)) cs) H
structure PStat (L : Lg P main) (f : FuncId) (ro : Option Nat) (ds : Dz) (cs : List Frame) (n : Nat) (ops : Array Oper) (k : List Item) (Hq : Facts) (R : List Reg) (E : Env) : Prop where
 ok : ∀ r ∈ R,r.ok L f ro ds cs n ops k Hq
 env : ∀ q ∈ R,∀ t,q.o.dst = some t → look E t = some q.v
 uniq : ∀ q ∈ R,∀ r ∈ R,q.i ≠ r.i → ∀ t,q.o.dst = some t → r.o.dst = some t → False
 pair : ∀ q ∈ R,∀ r ∈ R,q.i ≠ r.i → ∀ t,q.o.dst = some t → t ∈ readsOf ops r.o → (q.i ∈ predsOf r.o ∧ look r.E t = some q.v) ∨ r.i ∈ predsOf q.o
structure Flo where
 i : Nat
 o : Oper
 vl : Nat → Value
 ob : Obj
structure Flo.ok (P : Program) (ops : Array Oper) (n : Nat) (Hq : Facts) (F : Flo) : Prop where
 get : ops[F.i]? = some F.o
 dst : ∃ t,F.o.dst = some t ∧ t < n
 rd : readsOf ops F.o = []
 want : wantE ops F.o [] = some true
 run : LOp P F.o [] Hq fun v H' => ∃ r,v = F.vl r ∧ H' = .own r F.ob :: Hq
 sel : noSel F.o = true
structure FStat (P : Program) (ops : Array Oper) (n : Nat) (Hq : Facts) (R : List Reg) (Fs : List Flo) (E : Env) : Prop where
 ok : ∀ F ∈ Fs,F.ok P ops n Hq
 ne : ∀ F ∈ Fs,∀ q ∈ R,q.i ≠ F.i ∧ ∀ t,F.o.dst = some t → q.o.dst ≠ some t ∧ t ∉ readsOf ops q.o
 nF : Fs.Pairwise fun F F' => F.i ≠ F'.i ∧ ∀ t,F.o.dst = some t → F'.o.dst ≠ some t
 env : ∀ F ∈ Fs,∀ t,F.o.dst = some t → look E t = none
def ClB (ops : Array Oper) (listed : Array Bool) : Prop := ∀ j o,listed.getD j false = true → ops[j]? = some o → ∀ p ∈ predsOf o,listed.getD p false = true
structure PInv (ops : Array Oper) (n : Nat) (R : List Reg) (Ls : List Nat) (Fs : List Flo) (E : Env) (listed : Array Bool) (tmps : Array Value) (ρ : Nat → Nat) : Prop where
 size : tmps.size = n
 lsz : listed.size = ops.size
 reg : ∀ i,listed.getD i false = true → (∃ r ∈ R,r.i = i) ∨ i ∈ Ls ∨ ∃ F ∈ Fs,F.i = i
 ls : ∀ i ∈ Ls,listed.getD i false = true
 env : ∀ t v,look E t = some v → tmps[t]? = some v ∨ ∃ q ∈ R,listed.getD q.i false = false ∧ q.o.dst = some t ∧ q.v = v
 pend : ∀ r ∈ R,listed.getD r.i false = false → ∀ t v,t ∈ readsOf ops r.o → look r.E t = some v → tmps[t]? = some v ∨ ∃ q ∈ R,listed.getD q.i false = false ∧ q.o.dst = some t ∧ q.v = v ∧ q.i ∈ predsOf r.o
 flo : ∀ F ∈ Fs,listed.getD F.i false = true → ∀ t,F.o.dst = some t → tmps[t]? = some (F.vl (ρ F.i))
 cl : ClB ops listed
def unl (ops : Array Oper) (listed : Array Bool) : Nat := (List.range ops.size).countP fun i => !listed.getD i false
def floF (listed : Array Bool) (ρ : Nat → Nat) : List Flo → Facts
 | [] => []
 | F :: Fs => if listed.getD F.i false then .own (ρ F.i) F.ob :: floF listed ρ Fs else floF listed ρ Fs
def Pool (L : Lg P main) (f : FuncId) (ro : Option Nat) (ds : Dz) (cs : List Frame) (n : Nat) (ops : Array Oper) (k : List Item) (Hq : Facts) (R : List Reg) (Ls : List Nat) (Fs : List Flo) (E : Env) (H : Facts) : Prop :=
 PStat L f ro ds cs n ops k Hq R E → FStat P ops n Hq R Fs E → Sub Hq H → ∀ fuel t listed tmps ρ,PInv ops n R Ls Fs E listed tmps ρ → unl ops listed ≤ fuel →
  L.J (G (Fr f ro ds tmps (.inRegion ops (Region.linearise.go .any ops fuel t listed []) :: k)) cs) (floF listed ρ Fs ++ H)
theorem getD_set {listed : Array Bool} {i j : Nat} : (listed.setIfInBounds i true).getD j false = if i = j ∧ i < listed.size then true else listed.getD j false := by
 by_cases h : i = j
 ·subst h
  by_cases hl : i < listed.size
  ·simp [hl,Array.getD_eq_getD_getElem?]
  ·simp [hl,Array.getD_eq_getD_getElem?]
 ·simp [h,Array.getD_eq_getD_getElem?,Array.getElem?_setIfInBounds_ne h]
theorem getD_ne {listed : Array Bool} {i j : Nat} (h : i ≠ j) : (listed.setIfInBounds i true).getD j false = listed.getD j false := by rw [getD_set,if_neg (fun x => h x.1)]
theorem getD_eq {listed : Array Bool} {i : Nat} (h : i < listed.size) : (listed.setIfInBounds i true).getD i false = true := by rw [getD_set,if_pos ⟨rfl,h⟩]
theorem ClB.set {listed : Array Bool} {i : Nat} {o : Oper} (h : ClB ops listed) (ho : ops[i]? = some o) (hp : ∀ p ∈ predsOf o,listed.getD p false = true) : ClB ops (listed.setIfInBounds i true) := by
 intro j o' hj ho' p hpp
 have key : listed.getD p false = true := by
  rw [getD_set] at hj
  by_cases e : i = j
  ·subst e
   rw [ho] at ho'
   obtain rfl := Option.some.inj ho'
   exact hp p hpp
  ·rw [if_neg (fun x => e x.1)] at hj
   exact h j o' hj ho' p hpp
 rw [getD_set]
 split
 ·rfl
 ·exact key
theorem ready_spec {listed : Array Bool} (hl : listed.size = ops.size) {i : Nat} (h : i ∈ Region.ready .any ops listed) : i < ops.size ∧ listed.getD i false = false ∧ ∃ o,ops[i]? = some o ∧ ∀ p ∈ predsOf o,listed.getD p false = true := by
 unfold Region.ready at h
 rw [List.mem_filter] at h
 obtain ⟨h1,h2⟩ := h
 have hi : i < ops.size := by simpa using h1
 simp only [Bool.and_eq_true] at h2
 refine ⟨hi,?_,ops[i],Array.getElem?_eq_getElem hi,?_⟩
 ·have : listed.getD i true = false := by simpa using h2.1
  have hil : i < listed.size := by omega
  simpa [Array.getD_eq_getD_getElem?,hil] using this
 ·intro p hp
  rw [Array.getElem?_eq_getElem hi] at h2
  simp only [Option.map_some,Option.getD_some,Array.all_eq_true_iff_forall_mem] at h2
  unfold predsOf at hp
  rw [List.mem_map] at hp
  obtain ⟨e,he,rfl⟩ := hp
  rw [List.mem_filter] at he
  have := h2.2 e (by simpa using he.1)
  simpa [he.2] using this
theorem go_cons {fuel t : Nat} {listed : Array Bool} {i : Nat} {t' : Nat} (h : (Region.ready .any ops listed)[t % (Region.ready .any ops listed).length]? = some i) :
  Region.linearise.go .any ops (fuel + 1) t listed [] = i :: Region.linearise.go .any ops fuel (t / (Region.ready .any ops listed).length) (listed.setIfInBounds i true) [] := by
 rw [Region.linearise.go]
 unfold Region.ready at h
 simp only [h]
 rw [linearise_go_acc]
 rfl
theorem go_nil {fuel t : Nat} {listed : Array Bool} (h : Region.ready .any ops listed = []) : Region.linearise.go .any ops fuel t listed [] = [] := by
 cases fuel with
 | zero => rfl
 | succ fuel =>
  rw [Region.linearise.go]
  unfold Region.ready at h
  simp only [h]
  rfl
theorem unl_set {listed : Array Bool} (hl : listed.size = ops.size) {i : Nat} (hi : i < ops.size) (hu : listed.getD i false = false) : unl ops (listed.setIfInBounds i true) + 1 ≤ unl ops listed := by
 unfold unl
 have key : ∀ (l : List Nat),l.Nodup → (∀ j ∈ l,j < ops.size) → (l.countP fun j => !(listed.setIfInBounds i true).getD j false) + (if i ∈ l then 1 else 0) ≤ l.countP fun j => !listed.getD j false := by
  intro l
  induction l with
  | nil => intro _ _;simp
  | cons j l ih =>
   intro hn hb
   have hn' := List.nodup_cons.1 hn
   have h := ih hn'.2 fun x hx => hb x (by simp [hx])
   by_cases e : i = j
   ·have hv : (listed.setIfInBounds i true).getD j false = true := by rw [getD_set,if_pos ⟨e,by omega⟩]
    have hni : i ∉ l := e ▸ hn'.1
    rw [if_neg hni] at h
    rw [List.countP_cons,List.countP_cons,hv,← e,hu]
    simp only [Bool.not_true,Bool.not_false,if_true,List.mem_cons,true_or,Bool.false_eq_true,if_false]
    omega
   ·have hv : (listed.setIfInBounds i true).getD j false = listed.getD j false := by rw [getD_set,if_neg (fun x => e x.1)]
    rw [List.countP_cons,List.countP_cons,hv]
    simp only [List.mem_cons,e,false_or]
    omega
 have := key (List.range ops.size) List.nodup_range (fun j hj => by simpa using hj)
 simpa [hi] using this
theorem agree_of_reads {o : Oper} {E : Env} {tmps : Array Value} {todo : List Item} (h : ∀ t v,t ∈ tmpsOf o.op.operands.toList → look E t = some v → tmps[t]? = some v) :
  ∃ φ : Operand → Value,Agree E φ ∧ ∀ x ∈ o.op.operands,(Fr f ro ds tmps todo).eval x = φ x := by
 refine ⟨fun x => match ev E x with | some v => v | none => (Fr f ro ds tmps todo).eval x,fun x v hx => by simp only [hx],fun x hx => ?_⟩
 cases hv : ev E x with
 | none => simp only [hv]
 | some v =>
  simp only [hv]
  cases x with
  | tmp t =>
   have := h t v (by unfold tmpsOf;rw [List.mem_filterMap];exact ⟨.tmp t,by simpa using hx,rfl⟩) hv
   simp [Frame.eval,Fr,Array.getD_eq_getD_getElem?,this]
  | const c => exact Option.some.inj hv
  | global g => exact Option.some.inj hv
  | func g => exact Option.some.inj hv
theorem wanted_reads {o : Oper} {E : Env} {tmps : Array Value} {t : Bool} (h : ∀ t v,t ∈ readsOf ops o → look E t = some v → tmps[t]? = some v) (hw : wantE ops o E = some t) : Region.wanted o (yielded ops tmps) = t := by
 unfold wantE at hw
 unfold Region.wanted
 cases hg : o.guard with
 | none => rw [hg] at hw;simpa using hw
 | some p =>
  obtain ⟨j,want⟩ := p
  rw [hg] at hw
  simp only at hw ⊢
  unfold yielded
  cases hd : (ops[j]?).bind (·.dst) with
  | none => rw [hd] at hw;cases hw
  | some d =>
   rw [hd] at hw
   simp only at hw
   cases hl : look E d with
   | none => rw [hl] at hw;cases hw
   | some v =>
    have := h d v (by unfold readsOf;rw [hg];simp only;rw [hd];simp) hl
    rw [hl] at hw
    simp only [Option.bind_some,this]
    cases v with
    | bool b =>
     simp only [Option.some.injEq] at hw ⊢
     rw [← hw]
     cases b <;> cases want <;> rfl
    | tuple vs =>
     simp only [Option.some.injEq] at hw ⊢
     rw [← hw];rfl
    | _ => cases hw
theorem noSel_spec {o : Oper} (h : noSel o = true) : ∀ cs b,o.op ≠ .select cs b := by
 intro cs b e
 unfold noSel at h
 rw [e] at h
 cases h
theorem step_core {i : Nat} {rest : List Nat} {o : Oper} {E : Env} {H : Facts} {tmps : Array Value} (ho : ops[i]? = some o) (hs : tmps.size = n) (hsel : noSel o = true) (hnd : ∀ c,o.op ≠ .defer c)
  (hr : ∀ t v,t ∈ readsOf ops o → look E t = some v → tmps[t]? = some v) (hw : wantE ops o E = some true) {Q : Next → Facts → Prop}
  (hK : ∀ φ,Agree E φ → K P (execOp φ o) Q H)
  (hv : ∀ v H',Q (.value v) H' → L.J (G (Fr f ro ds (putT o.dst v tmps) (.inRegion ops rest :: k)) cs) H')
  (hk : ∀ H',Q .skip H' → L.J (G (Fr f ro ds (putT o.dst undef tmps) (.inRegion ops rest :: k)) cs) H')
  (he : ∀ g args H',Q (.enter g args) H' → L.J (G (Frame.enter P g args .normal) (Fr f ro ds tmps (.inRegion ops (i :: rest) :: k) :: cs)) H')
  (hl : ∀ l g t x y H',Q (.round l g t x y) H' → L.J (G (Frame.round l g t x y .normal) (Fr f ro ds tmps (.inRegion ops (i :: rest) :: k) :: cs)) H')
  (hno : ∀ nx H',Q nx H' → match nx with | .value _ | .skip | .enter _ _ | .round _ _ _ _ _ => True | _ => False) :
  L.J (G (Fr f ro ds tmps (.inRegion ops (i :: rest) :: k)) cs) H := by
 refine L.closed _ _ rfl fun W hW => ?_
 obtain ⟨φ,hA,hφ⟩ := agree_of_reads (f := f) (ro := ro) (ds := ds) (todo := .inRegion ops (i :: rest) :: k) (o := o) (E := E) (tmps := tmps) fun t v ht hv => hr t v (by unfold readsOf;exact List.mem_append_left _ ht) hv
 have hK' := hK φ hA
 rw [← execOp_congr o (noSel_spec hsel) hφ] at hK'
 obtain ⟨nx,W',es,H',hrun,ht,hq⟩ := K.sound hK' (Tr.refl hW)
 rw [stepG_opF ho (wanted_reads hr hw) hnd]
 have hev : ∀ e ∈ seen P f es,EvOk H W.heap.size W'.heap.size e := fun e he => ht.evs e (mem_seen he)
 have ht' : Tr H W (seen P f es) W' H' := ⟨ht.holds,ht.os,ht.tape,ht.output,ht.size,ht.keep,ht.mine,ht.seen,hev⟩
 cases nx with
 | value v =>
  refine ⟨G ((Fr f ro ds tmps (.inRegion ops (i :: rest) :: k)).finish v) cs,W',seen P f es,H',apply_value fr_kind hrun,ht',?_⟩
  rw [fr_finish,ho]
  exact hv v H' hq
 | skip =>
  refine ⟨G ((Fr f ro ds tmps (.inRegion ops (i :: rest) :: k)).finish undef) cs,W',seen P f es,H',apply_skip fr_kind hrun,ht',?_⟩
  rw [fr_finish,ho]
  exact hk H' hq
 | enter g args => exact ⟨_,W',seen P f es,H',apply_enter fr_kind (by intro d r sv k h;simp [Fr] at h) hrun,ht',he g args H' hq⟩
 | round l g t x y => exact ⟨_,W',seen P f es,H',apply_round fr_kind hrun,ht',hl l g t x y H' hq⟩
 | _ => exact (hno _ _ hq).elim
theorem step_reg {Hq H : Facts} {r : Reg} (hr : r.qk P ops n Hq) (hq : Sub Hq H) {rest : List Nat} {tmps : Array Value} (hs : tmps.size = n) (hrd : ∀ t v,t ∈ readsOf ops r.o → look r.E t = some v → tmps[t]? = some v)
  (h : L.J (G (Fr f ro ds (putT r.o.dst r.v tmps) (.inRegion ops rest :: k)) cs) H) : L.J (G (Fr f ro ds tmps (.inRegion ops (r.i :: rest) :: k)) cs) H := by
 rcases hr.run with ⟨hw,hQ⟩ | ⟨hw,hv⟩
 ·
  refine L.closed _ _ rfl fun W hW => ?_
  obtain ⟨φ,hA,hφ⟩ := agree_of_reads (f := f) (ro := ro) (ds := ds) (todo := .inRegion ops (r.i :: rest) :: k) (o := r.o) (E := r.E) (tmps := tmps) fun t v ht hv => hrd t v (by unfold readsOf;exact List.mem_append_left _ ht) hv
  have hK' := hQ.2 φ hA (fun u H' => u = r.v ∧ H' = Hq) ⟨rfl,rfl⟩
  rw [← execOp_congr r.o (noSel_spec hr.sel) hφ] at hK'
  obtain ⟨nx,W',es,H',hrun,ht,hq'⟩ := K.sound hK' (Tr.refl (hq.holds hW))
  rw [stepG_opF hr.get (wanted_reads hrd hw) hQ.1]
  cases nx with
  | value v =>
   obtain ⟨rfl,rfl⟩ : v = r.v ∧ H' = Hq := hq'
   have ht' := ht.frameSub hq hW
   refine ⟨G ((Fr f ro ds tmps (.inRegion ops (r.i :: rest) :: k)).finish r.v) cs,W',seen P f es,H,apply_value fr_kind hrun,⟨ht'.holds,ht'.os,ht'.tape,ht'.output,ht'.size,ht'.keep,ht'.mine,ht'.seen,fun e he => ht'.evs e (mem_seen he)⟩,?_⟩
   rw [fr_finish,hr.get]
   exact h
  | skip =>
   obtain ⟨hv,rfl⟩ : undef = r.v ∧ H' = Hq := hq'
   have ht' := ht.frameSub hq hW
   refine ⟨G ((Fr f ro ds tmps (.inRegion ops (r.i :: rest) :: k)).finish undef) cs,W',seen P f es,H,apply_skip fr_kind hrun,⟨ht'.holds,ht'.os,ht'.tape,ht'.output,ht'.size,ht'.keep,ht'.mine,ht'.seen,fun e he => ht'.evs e (mem_seen he)⟩,?_⟩
   rw [fr_finish,hr.get,hv]
   exact h
  | _ => exact hq'.elim
 ·refine L.same (g' := G ((Fr f ro ds tmps (.inRegion ops (r.i :: rest) :: k)).finish undef) cs) rfl (fun W => ?_) ?_
  ·have := wanted_reads hrd hw
   simp only [G,stepG,Fr]
   simp only [stepG.exec,hr.get,Option.map_some,Option.getD_some,this]
   simp
  ·rw [fr_finish,hr.get]
   rw [hv] at h
   exact h
theorem putT_ne {d : Option Tmp} {v : Value} {tmps : Array Value} {t : Nat} (h : d ≠ some t) : (putT d v tmps)[t]? = tmps[t]? := by
 cases d with
 | none => rfl
 | some d' =>
  have : d' ≠ t := fun e => h (by rw [e])
  exact Array.getElem?_setIfInBounds_ne this
theorem putT_eq {v : Value} {tmps : Array Value} {t : Nat} (h : t < tmps.size) : (putT (some t) v tmps)[t]? = some v := by
 show (tmps.setIfInBounds t v)[t]? = some v
 simp [h]
theorem putT_size {d : Option Tmp} {v : Value} {tmps : Array Value} : (putT d v tmps).size = tmps.size := by
 cases d with
 | none => rfl
 | some d' => exact Array.size_setIfInBounds ..
theorem floF_same {listed listed' : Array Bool} {ρ : Nat → Nat} : ∀ {Fs : List Flo},(∀ F ∈ Fs,listed'.getD F.i false = listed.getD F.i false) → floF listed' ρ Fs = floF listed ρ Fs
 | [],_ => rfl
 | F :: Fs,h => by
  unfold floF
  rw [h F (by simp),floF_same fun F' hF' => h F' (by simp [hF'])]
theorem PInv.exec {Hq : Facts} {R : List Reg} {Ls : List Nat} {Fs : List Flo} {E : Env} {listed : Array Bool} {tmps : Array Value} {ρ : Nat → Nat} (S : PStat L f ro ds cs n ops k Hq R E) (SF : FStat P ops n Hq R Fs E) (I : PInv ops n R Ls Fs E listed tmps ρ) {r : Reg} (hr : r ∈ R) (hu : listed.getD r.i false = false) (hp : ∀ p ∈ predsOf r.o,listed.getD p false = true) :
  PInv ops n R Ls Fs E (listed.setIfInBounds r.i true) (putT r.o.dst r.v tmps) ρ ∧ floF (listed.setIfInBounds r.i true) ρ Fs = floF listed ρ Fs := by
 have hlt : r.i < ops.size := (Array.getElem?_eq_some_iff.1 (S.ok r hr).get).1
 have same : ∀ q ∈ R,q.i = r.i → q.o = r.o := fun q hq e => by
  have h1 := (S.ok q hq).get
  rw [e,(S.ok r hr).get] at h1
  exact (Option.some.inj h1).symm
 have un : ∀ q ∈ R,q.i ≠ r.i → listed.getD q.i false = false → (listed.setIfInBounds r.i true).getD q.i false = false := fun q hq e h => by
  rw [getD_set,if_neg (by intro h;exact e h.1.symm)];exact h
 have fs : ∀ F ∈ Fs,(listed.setIfInBounds r.i true).getD F.i false = listed.getD F.i false := fun F hF => by
  rw [getD_set,if_neg (by intro h;exact (SF.ne F hF r hr).1 h.1)]
 refine ⟨⟨by rw [putT_size];exact I.size,by rw [Array.size_setIfInBounds];exact I.lsz,?_,?_,?_,?_,?_,I.cl.set (S.ok r hr).get hp⟩,floF_same fs⟩
 ·intro i hi
  rw [getD_set] at hi
  by_cases e : r.i = i
  ·exact .inl ⟨r,hr,e⟩
  ·rw [if_neg (by intro h;exact e h.1)] at hi
   exact I.reg i hi
 ·intro i hi
  rw [getD_set]
  split
  ·rfl
  ·exact I.ls i hi
 ·intro t v hv
  by_cases hd : r.o.dst = some t
  ·have := S.env r hr t hd
   rw [hv] at this
   obtain rfl := Option.some.inj this
   rw [hd]
   exact .inl (putT_eq (by rw [I.size];exact (S.ok r hr).dst t hd))
  ·rw [putT_ne hd]
   rcases I.env t v hv with h | ⟨q,hq,h1,h2,h3⟩
   ·exact .inl h
   ·have hne : q.i ≠ r.i := fun e => hd (by rw [← same q hq e];exact h2)
    exact .inr ⟨q,hq,un q hq hne h1,h2,h3⟩
 ·intro s hs hsu t v ht hv
  rw [getD_set] at hsu
  have hsr : s.i ≠ r.i := by
   intro e
   rw [if_pos ⟨e.symm,by rw [I.lsz];exact hlt⟩] at hsu
   cases hsu
  rw [if_neg (by intro h;exact hsr h.1.symm)] at hsu
  by_cases hd : r.o.dst = some t
  ·rcases S.pair r hr s hs (Ne.symm hsr) t hd ht with ⟨_,hlk⟩ | hpr
   ·rw [hv] at hlk
    obtain rfl := Option.some.inj hlk
    rw [hd]
    exact .inl (putT_eq (by rw [I.size];exact (S.ok r hr).dst t hd))
   ·rw [hp _ hpr] at hsu;cases hsu
  ·rw [putT_ne hd]
   rcases I.pend s hs hsu t v ht hv with h | ⟨q,hq,h1,h2,h3,h4⟩
   ·exact .inl h
   ·have hne : q.i ≠ r.i := fun e => hd (by rw [← same q hq e];exact h2)
    exact .inr ⟨q,hq,un q hq hne h1,h2,h3,h4⟩
 ·intro F hF hl t ht
  rw [fs F hF] at hl
  rw [putT_ne ((SF.ne F hF r hr).2 t ht).1]
  exact I.flo F hF hl t ht
theorem PInv.found {Hq : Facts} {R : List Reg} {Ls : List Nat} {Fs : List Flo} {E : Env} {listed : Array Bool} {tmps : Array Value} {ρ : Nat → Nat} (S : PStat L f ro ds cs n ops k Hq R E) (I : PInv ops n R Ls Fs E listed tmps ρ) {r : Reg} (hr : r ∈ R) (hu : listed.getD r.i false = false) (hp : ∀ p ∈ predsOf r.o,listed.getD p false = true) :
  ∀ t v,t ∈ readsOf ops r.o → look r.E t = some v → tmps[t]? = some v := by
 intro t v ht hv
 rcases I.pend r hr hu t v ht hv with h | ⟨q,hq,h1,_,_,h4⟩
 ·exact h
 ·rw [hp _ h4] at h1;cases h1
theorem floF_out {listed : Array Bool} {ρ : Nat → Nat} {r i : Nat} : ∀ {Fs : List Flo},(∀ G ∈ Fs,i ≠ G.i) → floF (listed.setIfInBounds i true) (fun j => if j = i then r else ρ j) Fs = floF listed ρ Fs
 | [],_ => rfl
 | G :: Fs,h => by
  have hne : i ≠ G.i := h G (by simp)
  unfold floF
  rw [getD_ne hne,floF_out fun x hx => h x (by simp [hx])]
  simp only [if_neg (Ne.symm hne)]
theorem floF_set {listed : Array Bool} {ρ : Nat → Nat} {r : Nat} {F : Flo} : ∀ {Fs : List Flo},F ∈ Fs → F.i < listed.size → listed.getD F.i false = false → Fs.Pairwise (fun F F' => F.i ≠ F'.i ∧ ∀ t,F.o.dst = some t → F'.o.dst ≠ some t) →
  (.own r F.ob :: floF listed ρ Fs).Perm (floF (listed.setIfInBounds F.i true) (fun j => if j = F.i then r else ρ j) Fs)
 | G :: Fs,hF,hl,hu,hp => by
  have hp' := List.pairwise_cons.1 hp
  rcases List.mem_cons.1 hF with rfl | hF'
  ·unfold floF
   rw [getD_eq hl,hu,floF_out fun G hG => (hp'.1 G hG).1]
   simp
  ·have hne : G.i ≠ F.i := (hp'.1 F hF').1
   have ih := floF_set (ρ := ρ) (r := r) hF' hl hu hp'.2
   unfold floF
   rw [getD_ne (Ne.symm hne)]
   by_cases hg : listed.getD G.i false = true
   ·rw [if_pos hg,if_pos hg]
    simp only [if_neg hne]
    exact (List.Perm.swap _ _ _).trans (ih.cons _)
   ·rw [if_neg hg,if_neg hg]
    exact ih
theorem floF_uniq {Fs : List Flo} (hp : Fs.Pairwise fun F F' => F.i ≠ F'.i ∧ ∀ t,F.o.dst = some t → F'.o.dst ≠ some t) : ∀ {F F' : Flo},F ∈ Fs → F' ∈ Fs → F.i = F'.i → F = F' := by
 induction Fs with
 | nil => intro F F' h;cases h
 | cons G Fs ih =>
  have hp' := List.pairwise_cons.1 hp
  intro F F' hF hF' e
  rcases List.mem_cons.1 hF with h1 | h1 <;> rcases List.mem_cons.1 hF' with h2 | h2
  ·rw [h1,h2]
  ·subst h1;exact absurd e (hp'.1 F' h2).1
  ·subst h2;exact absurd e.symm (hp'.1 F h1).1
  ·exact ih hp'.2 h1 h2 e
theorem floF_dst {Fs : List Flo} (hp : Fs.Pairwise fun F F' => F.i ≠ F'.i ∧ ∀ t,F.o.dst = some t → F'.o.dst ≠ some t) : ∀ {F F' : Flo} {t : Nat},F ∈ Fs → F' ∈ Fs → F.i ≠ F'.i → F.o.dst = some t → F'.o.dst = some t → False := by
 induction Fs with
 | nil => intro F F' t h;cases h
 | cons G Fs ih =>
  have hp' := List.pairwise_cons.1 hp
  intro F F' t hF hF' e d1 d2
  rcases List.mem_cons.1 hF with h1 | h1 <;> rcases List.mem_cons.1 hF' with h2 | h2
  ·exact e (by rw [h1,h2])
  ·subst h1;exact (hp'.1 F' h2).2 t d1 d2
  ·subst h2;exact (hp'.1 F h1).2 t d2 d1
  ·exact ih hp'.2 h1 h2 e d1 d2
theorem step_flo {Hq H : Facts} {R : List Reg} {Ls : List Nat} {Fs : List Flo} {E : Env} {listed : Array Bool} {tmps : Array Value} {ρ : Nat → Nat} (S : PStat L f ro ds cs n ops k Hq R E) (SF : FStat P ops n Hq R Fs E) (hsub : Sub Hq H) (I : PInv ops n R Ls Fs E listed tmps ρ) {F : Flo} (hF : F ∈ Fs) (hu : listed.getD F.i false = false) (hp0 : ∀ p ∈ predsOf F.o,listed.getD p false = true) {rest : List Nat}
  (h : ∀ tmps' ρ',PInv ops n R Ls Fs E (listed.setIfInBounds F.i true) tmps' ρ' → L.J (G (Fr f ro ds tmps' (.inRegion ops rest :: k)) cs) (floF (listed.setIfInBounds F.i true) ρ' Fs ++ H)) :
  L.J (G (Fr f ro ds tmps (.inRegion ops (F.i :: rest) :: k)) cs) (floF listed ρ Fs ++ H) := by
 have hok := SF.ok F hF
 obtain ⟨d,hd,hdn⟩ := hok.dst
 have hlt : F.i < ops.size := (Array.getElem?_eq_some_iff.1 hok.get).1
 have hlt' : F.i < listed.size := by rw [I.lsz];exact hlt
 obtain ⟨R',hR'⟩ := hsub
 refine L.closed _ _ rfl fun W hW => ?_
 obtain ⟨φ,hA,hφ⟩ := agree_of_reads (f := f) (ro := ro) (ds := ds) (todo := .inRegion ops (F.i :: rest) :: k) (o := F.o) (E := []) (tmps := tmps) fun t v ht hv => (by cases hv)
 have hK := hok.run.2 φ hA (fun u H' => ∃ r,u = F.vl r ∧ H' = .own r F.ob :: Hq) fun v H' x => x
 rw [← execOp_congr F.o (noSel_spec hok.sel) hφ] at hK
 have hperm : (Hq ++ (R' ++ floF listed ρ Fs)).Perm (floF listed ρ Fs ++ H) := by
  rw [← List.append_assoc]
  exact (List.Perm.append_right _ hR').trans List.perm_append_comm
 have hW' : Holds (Hq ++ (R' ++ floF listed ρ Fs)) W := hW.perm hperm.symm
 obtain ⟨nx,W',es,H',hrun,ht,hq'⟩ := K.sound hK (Tr.refl (show Holds Hq W from (Sub.holds ⟨R' ++ floF listed ρ Fs,.refl _⟩ hW')))
 rw [stepG_opF hok.get (wanted_reads (E := []) (fun t v ht hv => by cases hv) hok.want) hok.run.1]
 have fin : ∀ r,H' = .own r F.ob :: Hq → Tr (floF listed ρ Fs ++ H) W (seen P f es) W' (.own r F.ob :: (floF listed ρ Fs ++ H)) := by
  rintro r rfl
  have e' : ((Fact.own r F.ob :: Hq) ++ (R' ++ floF listed ρ Fs)).Perm (.own r F.ob :: (floF listed ρ Fs ++ H)) := by
   rw [List.cons_append];exact hperm.cons (.own r F.ob)
  have h1 := (ht.frame hW').perm hperm e'
  exact ⟨h1.holds,h1.os,h1.tape,h1.output,h1.size,h1.keep,h1.mine,h1.seen,fun e he => h1.evs e (mem_seen he)⟩
 have next : ∀ r,L.J (G (Fr f ro ds (putT F.o.dst (F.vl r) tmps) (.inRegion ops rest :: k)) cs) (.own r F.ob :: (floF listed ρ Fs ++ H)) := by
  intro r
  refine L.weak _ _ _ (Sub.of_perm ?_) (h (putT F.o.dst (F.vl r) tmps) (fun j => if j = F.i then r else ρ j) ⟨by rw [putT_size];exact I.size,by rw [Array.size_setIfInBounds];exact I.lsz,?_,?_,?_,?_,?_,I.cl.set hok.get hp0⟩)
  ·have := (floF_set (ρ := ρ) (r := r) hF hlt' hu SF.nF).symm
   exact (this.append_right H)
  ·intro i hi
   rw [getD_set] at hi
   by_cases e : F.i = i
   ·exact .inr (.inr ⟨F,hF,e⟩)
   ·rw [if_neg (by intro h;exact e h.1)] at hi
    exact I.reg i hi
  ·intro i hi
   rw [getD_set]
   split
   ·rfl
   ·exact I.ls i hi
  ·intro t v hv
   have hdt : F.o.dst ≠ some t := fun e => by rw [SF.env F hF t e] at hv;cases hv
   rw [putT_ne hdt]
   refine (I.env t v hv).imp id fun ⟨q,hq,q1,q2⟩ => ⟨q,hq,?_,q2⟩
   rw [getD_set,if_neg (by intro h;exact (SF.ne F hF q hq).1 h.1.symm)];exact q1
  ·intro s hs hsu t v hts hv
   rw [getD_set,if_neg (by intro h;exact (SF.ne F hF s hs).1 h.1.symm)] at hsu
   have hdt : F.o.dst ≠ some t := fun e => ((SF.ne F hF s hs).2 t e).2 hts
   rw [putT_ne hdt]
   refine (I.pend s hs hsu t v hts hv).imp id fun ⟨q,hq,q1,q2⟩ => ⟨q,hq,?_,q2⟩
   rw [getD_set,if_neg (by intro h;exact (SF.ne F hF q hq).1 h.1.symm)];exact q1
  ·intro F' hF' hl t ht'
   by_cases e : F'.i = F.i
   ·have : F' = F ∨ F' ≠ F := Classical.em _
    rcases this with rfl | hne
    ·simp only [if_pos]
     rw [ht']
     exact putT_eq (by rw [I.size];rw [hd] at ht';exact Option.some.inj ht' ▸ hdn)
    ·exfalso
     exact hne (floF_uniq SF.nF hF' hF e)
   ·simp only [if_neg e]
    have hdt : F.o.dst ≠ some t := fun e' => floF_dst SF.nF hF hF' (Ne.symm e) e' ht'
    rw [putT_ne hdt]
    refine I.flo F' hF' ?_ t ht'
    rw [getD_set,if_neg (by intro h;exact e h.1.symm)] at hl
    exact hl
 cases nx with
 | value v =>
  obtain ⟨r,rfl,rfl⟩ := hq'
  refine ⟨G ((Fr f ro ds tmps (.inRegion ops (F.i :: rest) :: k)).finish (F.vl r)) cs,W',seen P f es,_,apply_value fr_kind hrun,fin r rfl,?_⟩
  rw [fr_finish,hok.get]
  exact next r
 | skip =>
  obtain ⟨r,hr,rfl⟩ := hq'
  refine ⟨G ((Fr f ro ds tmps (.inRegion ops (F.i :: rest) :: k)).finish undef) cs,W',seen P f es,_,apply_skip fr_kind hrun,fin r rfl,?_⟩
  rw [fr_finish,hok.get,hr]
  exact next r
 | _ => exact hq'.elim
end
end Go.Gx
end
section
namespace Go.Gx
open Go Go.Conc
def regd (R : List Reg) (Ls : List Nat) (i : Nat) : Bool := R.any (fun q => q.i == i) || Ls.contains i
def flod (Fs : List Flo) (i : Nat) : Bool := Fs.any fun F => F.i == i
def checkFlo (Fs : List Flo) (ops : Array Oper) (i : Nat) (o : Oper) : Bool :=
 Fs.all fun F => F.i != i && match F.o.dst with
  | some t => !(readsOf ops o).contains t && (match o.dst with | some t' => t != t' | none => true)
  | none => true
def checkReg (R : List Reg) (Ls : List Nat) (Fs : List Flo) (ops : Array Oper) (i : Nat) (o : Oper) : Bool :=
 !regd R Ls i && checkFlo Fs ops i o && R.all fun q =>
  (match q.o.dst with
   | some t => (!(readsOf ops o).contains t || (predsOf o).contains q.i) && (match o.dst with | some t' => t != t' | none => true)
   | none => true) &&
  (match o.dst with
   | some t' => !(readsOf ops q.o).contains t' || (predsOf o).contains q.i
   | none => true)
def downOk (ops : Array Oper) : Bool := (List.range ops.size).all fun i => match ops[i]? with | some o => (predsOf o).all fun p => Nat.blt p i | none => true
def onlyIn (R : List Reg) (Ls : List Nat) (Fs : List Flo) (ops : Array Oper) (C : List Nat) : Bool :=
 (List.range ops.size).all fun j => C.contains j || regd R Ls j || flod Fs j || match ops[j]? with | some oj => (predsOf oj).any fun p => !regd R Ls p && !flod Fs p | none => true
def onlyT (R : List Reg) (Ls : List Nat) (Fs : List Flo) (fi : Nat) (ops : Array Oper) : Bool :=
 (List.range ops.size).all fun j => regd R Ls j || flod Fs j || match ops[j]? with | some oj => (predsOf oj).any fun p => p == fi || (!regd R Ls p && !flod Fs p) | none => true
section
variable {P : Program} {main : Bool} {L : Lg P main} {f : FuncId} {ro : Option Nat} {ds : Dz} {cs : List Frame} {n : Nat} {k : List Item} {ops : Array Oper} {Hq H : Facts} {R : List Reg} {Ls : List Nat} {Fs : List Flo} {E : Env}
theorem regd_spec {i : Nat} : regd R Ls i = true ↔ (∃ r ∈ R,r.i = i) ∨ i ∈ Ls := by
 unfold regd
 simp [List.any_eq_true]
theorem flod_spec {i : Nat} : flod Fs i = true ↔ ∃ F ∈ Fs,F.i = i := by
 unfold flod
 simp [List.any_eq_true]
structure Chk (R : List Reg) (Ls : List Nat) (Fs : List Flo) (ops : Array Oper) (i : Nat) (o : Oper) : Prop where
 fresh : regd R Ls i = false
 rd : ∀ q ∈ R,∀ t,q.o.dst = some t → t ∈ readsOf ops o → q.i ∈ predsOf o
 ne : ∀ q ∈ R,∀ t,q.o.dst = some t → o.dst ≠ some t
 wr : ∀ q ∈ R,∀ t,o.dst = some t → t ∈ readsOf ops q.o → q.i ∈ predsOf o
 fi : ∀ F ∈ Fs,i ≠ F.i
 fd : ∀ F ∈ Fs,∀ t,F.o.dst = some t → o.dst ≠ some t ∧ t ∉ readsOf ops o
theorem chk_of {i : Nat} {o : Oper} (h : checkReg R Ls Fs ops i o = true) : Chk R Ls Fs ops i o := by
 unfold checkReg at h
 simp only [Bool.and_eq_true,Bool.not_eq_true',List.all_eq_true] at h
 obtain ⟨⟨h0,hf⟩,h1⟩ := h
 unfold checkFlo at hf
 simp only [List.all_eq_true,Bool.and_eq_true,bne_iff_ne,ne_eq] at hf
 refine ⟨h0,?_,?_,?_,fun F hF e => (hf F hF).1 e.symm,?_⟩
 ·intro q hq t ht hr
  have := (h1 q hq).1
  rw [ht] at this
  simp only [Bool.and_eq_true,Bool.or_eq_true,Bool.not_eq_true',List.contains_eq_mem,decide_eq_true_eq,decide_eq_false_iff_not] at this
  exact this.1.resolve_left fun h => h hr
 ·intro q hq t ht hd
  have := (h1 q hq).1
  rw [ht,hd] at this
  simp at this
 ·intro q hq t ht hr
  have := (h1 q hq).2
  rw [ht] at this
  simp only [Bool.or_eq_true,Bool.not_eq_true',List.contains_eq_mem,decide_eq_true_eq,decide_eq_false_iff_not] at this
  exact this.resolve_left fun h => h hr
 ·intro F hF t ht
  have := (hf F hF).2
  rw [ht] at this
  simp only [Bool.and_eq_true,Bool.not_eq_true',List.contains_eq_mem,decide_eq_false_iff_not] at this
  refine ⟨fun e => ?_,this.1⟩
  have h2 := this.2
  rw [e] at h2
  simp at h2
theorem look_putE_ne {d : Option Tmp} {v : Value} {t : Nat} (h : d ≠ some t) : look (putE d v E) t = look E t := by
 cases d with
 | none => rfl
 | some d' =>
  show look ((d',v) :: E) t = _
  rw [look_cons,if_neg (fun e => h (by rw [e]))]
theorem look_putE_eq {v : Value} {t : Nat} : look (putE (some t) v E) t = some v := by
 show look ((t,v) :: E) t = _
 rw [look_cons,if_pos rfl]
theorem pool_reg {i : Nat} {o : Oper} {v : Value} (hok : Reg.ok L f ro ds cs n ops k Hq ⟨i,o,E,v⟩) (hc : checkReg R Ls Fs ops i o = true)
  (h : Pool L f ro ds cs n ops k Hq (⟨i,o,E,v⟩ :: R) Ls Fs (putE o.dst v E) H) : Pool L f ro ds cs n ops k Hq R Ls Fs E H := by
 have C := chk_of hc
 intro S SF hsub fuel t listed tmps ρ I hfuel
 refine h ⟨?_,?_,?_,?_⟩ ⟨SF.ok,?_,SF.nF,?_⟩ hsub fuel t listed tmps ρ ⟨I.size,I.lsz,?_,I.ls,?_,?_,I.flo,I.cl⟩ hfuel
 ·intro r hr
  rcases List.mem_cons.1 hr with rfl | hr
  ·exact hok
  ·exact S.ok r hr
 ·intro q hq t ht
  rcases List.mem_cons.1 hq with rfl | hq
  ·simp only at ht
   rw [ht];exact look_putE_eq
  ·rw [look_putE_ne (C.ne q hq t ht)]
   exact S.env q hq t ht
 ·intro q hq r hr hne t ht ht'
  rcases List.mem_cons.1 hq with rfl | hq <;> rcases List.mem_cons.1 hr with rfl | hr
  ·exact hne rfl
  ·exact C.ne r hr t ht' ht
  ·exact C.ne q hq t ht ht'
  ·exact S.uniq q hq r hr hne t ht ht'
 ·intro q hq r hr hne t ht htr
  rcases List.mem_cons.1 hq with rfl | hq <;> rcases List.mem_cons.1 hr with rfl | hr
  ·exact absurd rfl hne
  ·exact .inr (C.wr r hr t ht htr)
  ·exact .inl ⟨C.rd q hq t ht htr,S.env q hq t ht⟩
  ·exact S.pair q hq r hr hne t ht htr
 ·intro F hF q hq
  rcases List.mem_cons.1 hq with rfl | hq
  ·exact ⟨C.fi F hF,fun t ht => C.fd F hF t ht⟩
  ·exact SF.ne F hF q hq
 ·intro F hF t ht
  rw [look_putE_ne (C.fd F hF t ht).1]
  exact SF.env F hF t ht
 ·intro j hj
  rcases I.reg j hj with ⟨r,hr,e⟩ | hl
  ·exact .inl ⟨r,List.mem_cons_of_mem _ hr,e⟩
  ·exact .inr hl
 ·have hun : listed.getD i false = false := by
   cases hl : listed.getD i false with
   | false => rfl
   | true =>
    exfalso
    rcases I.reg i hl with h | h | ⟨F,hF,e⟩
    ·have := C.fresh;rw [regd_spec.2 (.inl h)] at this;cases this
    ·have := C.fresh;rw [regd_spec.2 (.inr h)] at this;cases this
    ·exact C.fi F hF e.symm
  intro t u hu
  by_cases hd : o.dst = some t
  ·rw [hd,look_putE_eq] at hu
   exact .inr ⟨_,List.mem_cons_self ..,hun,hd,Option.some.inj hu⟩
  ·rw [look_putE_ne hd] at hu
   exact (I.env t u hu).imp id fun ⟨q,hq,x⟩ => ⟨q,List.mem_cons_of_mem _ hq,x⟩
 ·intro r hr hu t u ht hlk
  rcases List.mem_cons.1 hr with rfl | hr
  ·rcases I.env t u hlk with h | ⟨q,hq,h1,h2,h3⟩
   ·exact .inl h
   ·exact .inr ⟨q,List.mem_cons_of_mem _ hq,h1,h2,h3,C.rd q hq t h2 ht⟩
  ·exact (I.pend r hr hu t u ht hlk).imp id fun ⟨q,hq,x⟩ => ⟨q,List.mem_cons_of_mem _ hq,x⟩
theorem pool_flo {i : Nat} {o : Oper} {vl : Nat → Value} {ob : Obj} {d : Nat} (hok : Flo.ok P ops n Hq ⟨i,o,vl,ob⟩) (hd : o.dst = some d) (he : look E d = none) (hc : checkReg R Ls Fs ops i o = true)
  (hr : R.all (fun q => !(readsOf ops q.o).contains d) = true)
  (h : Pool L f ro ds cs n ops k Hq R Ls (⟨i,o,vl,ob⟩ :: Fs) E H) : Pool L f ro ds cs n ops k Hq R Ls Fs E H := by
 have C := chk_of hc
 intro S SF hsub fuel t listed tmps ρ I hfuel
 have hun : listed.getD i false = false := by
  cases hl : listed.getD i false with
  | false => rfl
  | true =>
   exfalso
   rcases I.reg i hl with h | h | ⟨F,hF,e⟩
   ·have := C.fresh;rw [regd_spec.2 (.inl h)] at this;cases this
   ·have := C.fresh;rw [regd_spec.2 (.inr h)] at this;cases this
   ·exact C.fi F hF e.symm
 have hx := h S ⟨?_,?_,?_,?_⟩ hsub fuel t listed tmps ρ ⟨I.size,I.lsz,fun j hj => (I.reg j hj).imp id (.imp id fun ⟨F,hF,e⟩ => ⟨F,List.mem_cons_of_mem _ hF,e⟩),I.ls,I.env,I.pend,?_,I.cl⟩ hfuel
 ·have e : floF listed ρ (⟨i,o,vl,ob⟩ :: Fs) = floF listed ρ Fs := by
   show (if listed.getD i false then _ else _) = _
   rw [hun];rfl
  rw [e] at hx
  exact hx
 ·intro F hF
  rcases List.mem_cons.1 hF with rfl | hF
  ·exact hok
  ·exact SF.ok F hF
 ·intro F hF q hq
  rcases List.mem_cons.1 hF with rfl | hF
  ·refine ⟨fun e => ?_,fun t ht => ⟨fun e => C.ne q hq t e ht,fun e => ?_⟩⟩
   ·have := C.fresh;rw [regd_spec.2 (.inl ⟨q,hq,e⟩)] at this;cases this
   ·simp only at ht
    rw [hd] at ht
    cases ht
    rw [List.all_eq_true] at hr
    have := hr q hq
    simp at this
    exact this e
  ·exact SF.ne F hF q hq
 ·refine List.pairwise_cons.2 ⟨fun F hF => ⟨fun e => C.fi F hF e,fun t ht e => ?_⟩,SF.nF⟩
  exact (C.fd F hF t e).1 ht
 ·intro F hF t ht
  rcases List.mem_cons.1 hF with rfl | hF
  ·simp only at ht
   rw [hd] at ht
   cases ht
   exact he
  ·exact SF.env F hF t ht
 ·intro F hF hl t ht
  rcases List.mem_cons.1 hF with rfl | hF
  ·simp only at hl;rw [hun] at hl;cases hl
  ·exact I.flo F hF hl t ht
theorem ready_ne {listed : Array Bool} (hl : listed.size = ops.size) (hd : downOk ops = true) {i : Nat} (hi : i < ops.size) (hu : listed.getD i false = false) : Region.ready .any ops listed ≠ [] := by
  induction i using Nat.strongRecOn with
  | _ i ih =>
    by_cases hp : ∃ p ∈ predsOf ops[i], listed.getD p false = false
    · obtain ⟨p, hp, hpu⟩ := hp
      unfold downOk at hd
      rw [List.all_eq_true] at hd
      have := hd i (by simpa using hi)
      rw [Array.getElem?_eq_getElem hi] at this
      simp only [List.all_eq_true] at this
      have hlt : p < i := by simpa [Nat.blt_eq] using this p hp
      exact ih p hlt (by omega) hpu
    · intro he
      have : i ∈ Region.ready .any ops listed := by
        unfold Region.ready
        rw [List.mem_filter]
        refine ⟨by simpa using hi, ?_⟩
        rw [Array.getElem?_eq_getElem hi]
        simp only [Option.map_some, Option.getD_some, Bool.and_eq_true, Array.all_eq_true_iff_forall_mem]
        refine ⟨by have hil : i < listed.size := by omega
                   simpa [Array.getD_eq_getD_getElem?, hil] using hu, fun e he => ?_⟩
        by_cases hb : Region.binds .any e = true
        · have hm : e.on ∈ predsOf ops[i] := by
            unfold predsOf
            rw [List.mem_map]
            exact ⟨e, by rw [List.mem_filter]; exact ⟨by simpa using he, hb⟩, rfl⟩
          have : listed.getD e.on false = true := by
            cases hx : listed.getD e.on false with
            | true => rfl
            | false => exact absurd ⟨e.on, hm, hx⟩ hp
          simp [hb, this]
        · simp [hb]
      rw [he] at this
      cases this
theorem go_next {listed : Array Bool} (fuel t : Nat) (hl : listed.size = ops.size) (hf : unl ops listed ≤ fuel) (hne : Region.ready .any ops listed ≠ []) :
  ∃ i m t',fuel = m + 1 ∧ i ∈ Region.ready .any ops listed ∧ Region.linearise.go .any ops fuel t listed [] = i :: Region.linearise.go .any ops m t' (listed.setIfInBounds i true) [] ∧ unl ops (listed.setIfInBounds i true) ≤ m := by
 have hpos : 0 < (Region.ready .any ops listed).length := List.length_pos_iff.2 hne
 have hlt : t % (Region.ready .any ops listed).length < (Region.ready .any ops listed).length := Nat.mod_lt _ hpos
 have hmem := List.getElem_mem hlt
 obtain ⟨h1,h2,_⟩ := ready_spec hl hmem
 have hs := unl_set hl h1 h2
 obtain ⟨m,rfl⟩ : ∃ m,fuel = m + 1 := ⟨fuel - 1,by omega⟩
 exact ⟨_,m,_,rfl,hmem,go_cons (List.getElem?_eq_getElem hlt) (t' := 0),by omega⟩
theorem pool_end (hall : (List.range ops.size).all (fun i => regd R Ls i) = true) (hd : downOk ops = true) (h : At L f ro ds cs n E H (.inRegion ops [] :: k)) : Pool L f ro ds cs n ops k Hq R Ls [] E H := by
 intro S SF hsub fuel t listed tmps ρ I hfuel
 have close : Region.ready .any ops listed = [] → L.J (G (Fr f ro ds tmps (.inRegion ops [] :: k)) cs) (floF listed ρ [] ++ H) := fun hr => by
  refine h tmps I.size fun t v hv => ?_
  rcases I.env t v hv with h | ⟨q,hq,h1,_,_⟩
  ·exact h
  ·exact absurd hr (ready_ne I.lsz hd (Array.getElem?_eq_some_iff.1 (S.ok q hq).get).1 h1)
 induction fuel generalizing t listed tmps with
 | zero =>
  have hr : Region.ready .any ops listed = [] := by
   cases hx : Region.ready .any ops listed with
   | nil => rfl
   | cons i l =>
    obtain ⟨h1,h2,_⟩ := ready_spec I.lsz (i := i) (by rw [hx];simp)
    have := unl_set I.lsz h1 h2
    omega
  rw [go_nil hr]
  exact close hr
 | succ fuel ih =>
  by_cases hr : Region.ready .any ops listed = []
  ·rw [go_nil hr]
   exact close hr
  ·obtain ⟨i,m,t',hm,hi,hgo,hun⟩ := go_next (fuel + 1) t I.lsz hfuel hr
   obtain rfl : m = fuel := by omega
   rw [hgo]
   obtain ⟨h1,h2,o,ho,hp⟩ := ready_spec I.lsz hi
   rw [List.all_eq_true] at hall
   rcases regd_spec.1 (hall i (by simpa using h1)) with ⟨r,hr',rfl⟩ | hl
   ·have hro : r.o = o := by
     have := (S.ok r hr').get
     rw [ho] at this
     exact (Option.some.inj this).symm
    subst hro
    obtain ⟨I',hfl⟩ := I.exec S SF hr' h2 hp
    refine (S.ok r hr').go hsub I.size (I.found S hr' h2 hp) ?_;refine ih _ _ _ I' hun fun hr'' => ?_;refine h _ I'.size fun t v hv => ?_
    rcases I'.env t v hv with h | ⟨q,hq,h1,_,_⟩
    ·exact h
    ·exact absurd hr'' (ready_ne I'.lsz hd (Array.getElem?_eq_some_iff.1 (S.ok q hq).get).1 h1)
   ·rw [I.ls i hl] at h2;cases h2
def Loud (L : Lg P main) (f : FuncId) (ro : Option Nat) (ds : Dz) (cs : List Frame) (n : Nat) (ops : Array Oper) (k : List Item) (Hq : Facts) (R : List Reg) (Ls : List Nat) (Fs : List Flo) (E : Env) (H : Facts) (l : Nat) : Prop :=
 ∃ o,∃ Post : Value → Facts → Prop,ops[l]? = some o ∧ (∀ t,o.dst = some t → t < n) ∧ checkReg R Ls Fs ops l o = true ∧
  (∀ F rest tmps,tmps.size = n → (∀ t v,t ∈ readsOf ops o → look E t = some v → tmps[t]? = some v) →
   (∀ v H',Post v H' → L.J (G (Fr f ro ds (putT o.dst v tmps) (.inRegion ops rest :: k)) cs) (F ++ H')) → L.J (G (Fr f ro ds tmps (.inRegion ops (l :: rest) :: k)) cs) (F ++ H)) ∧
  (∀ v H',Post v H' → Sub Hq H' ∧ Pool L f ro ds cs n ops k Hq R (l :: Ls) Fs (putE o.dst v E) H')
theorem pool_any (C : List Nat) (hd : downOk ops = true) (honly : onlyIn R Ls Fs ops C = true) {l₀ : Nat} (hl₀ : l₀ < ops.size) (hf₀ : regd R Ls l₀ = false) (hg₀ : flod Fs l₀ = false) (h : ∀ l ∈ C,Loud L f ro ds cs n ops k Hq R Ls Fs E H l) : Pool L f ro ds cs n ops k Hq R Ls Fs E H := by
 intro S SF hsub fuel
 have un0 : ∀ {listed tmps ρ},PInv ops n R Ls Fs E listed tmps ρ → listed.getD l₀ false = false := fun {listed tmps ρ} I => by
  cases hx : listed.getD l₀ false with
  | false => rfl
  | true =>
   exfalso
   rcases I.reg l₀ hx with h | h | h
   ·rw [regd_spec.2 (.inl h)] at hf₀;cases hf₀
   ·rw [regd_spec.2 (.inr h)] at hf₀;cases hf₀
   ·rw [flod_spec.2 h] at hg₀;cases hg₀
 induction fuel with
 | zero =>
  intro t listed tmps ρ I hfuel
  exfalso
  have := unl_set I.lsz hl₀ (un0 I)
  omega
 | succ fuel ih =>
  intro t listed tmps ρ I hfuel
  have hne : Region.ready .any ops listed ≠ [] := ready_ne I.lsz hd hl₀ (un0 I)
  obtain ⟨i,m,t',hm,hi,hgo,hun⟩ := go_next (fuel + 1) t I.lsz hfuel hne
  obtain rfl : m = fuel := by omega
  rw [hgo]
  obtain ⟨h1,h2,o,ho,hp⟩ := ready_spec I.lsz hi
  unfold onlyIn at honly
  rw [List.all_eq_true] at honly
  have hcase := honly i (by simpa using h1)
  simp only [Bool.or_eq_true,List.contains_eq_mem,decide_eq_true_eq] at hcase
  rcases hcase with ((hcase | hcase) | hcase) | hcase
  ·
   obtain ⟨o',Post,ho',hdst,hc,hstep,hpost⟩ := h i hcase
   rw [ho] at ho'
   obtain rfl := Option.some.inj ho'
   have Ck := chk_of hc
   refine hstep _ _ tmps I.size (fun t v ht hv => ?_) fun v H' hv => ?_
   ·rcases I.env t v hv with h | ⟨q,hq,q1,q2,_⟩
    ·exact h
    ·rw [hp _ (Ck.rd q hq t q2 ht)] at q1;cases q1
   ·obtain ⟨hs',hpool⟩ := hpost v H' hv
    have efl : floF (listed.setIfInBounds i true) ρ Fs = floF listed ρ Fs := floF_same fun F hF => getD_ne (Ck.fi F hF)
    rw [← efl]
    refine hpool ⟨S.ok,fun q hq t ht => ?_,S.uniq,S.pair⟩ ⟨SF.ok,SF.ne,SF.nF,fun F hF t ht => ?_⟩ hs' _ _ _ _ _ ⟨by rw [putT_size];exact I.size,by rw [Array.size_setIfInBounds];exact I.lsz,?_,?_,?_,?_,?_,I.cl.set ho hp⟩ hun
    ·rw [look_putE_ne (Ck.ne q hq t ht)];exact S.env q hq t ht
    ·rw [look_putE_ne (Ck.fd F hF t ht).1];exact SF.env F hF t ht
    ·intro j hj
     rw [getD_set] at hj
     by_cases e : i = j
     ·exact .inr (.inl (by simp [e]))
     ·rw [if_neg (fun x => e x.1)] at hj
      exact (I.reg j hj).imp id (.imp (fun x => List.mem_cons_of_mem _ x) id)
    ·intro j hj
     rw [getD_set]
     rcases List.mem_cons.1 hj with rfl | hj
     ·rw [if_pos ⟨rfl,by rw [I.lsz];exact h1⟩]
     ·split
      ·rfl
      ·exact I.ls j hj
    ·intro t u hu
     by_cases hdt : o.dst = some t
     ·rw [hdt,look_putE_eq] at hu
      obtain rfl := Option.some.inj hu
      rw [hdt]
      exact .inl (putT_eq (by rw [I.size];exact hdst t hdt))
     ·rw [look_putE_ne hdt] at hu
      rw [putT_ne hdt]
      refine (I.env t u hu).imp id fun ⟨q,hq,q1,q2⟩ => ⟨q,hq,?_,q2⟩
      have : i ≠ q.i := fun e => by
       have := Ck.fresh
       rw [regd_spec.2 (.inl ⟨q,hq,e.symm⟩)] at this;cases this
      rw [getD_ne this];exact q1
    ·intro r hr hru t u ht hlk
     have hir : i ≠ r.i := fun e => by
      have := Ck.fresh
      rw [regd_spec.2 (.inl ⟨r,hr,e.symm⟩)] at this;cases this
     rw [getD_ne hir] at hru
     have hdt : o.dst ≠ some t := fun e => by
      rw [hp _ (Ck.wr r hr t e ht)] at hru;cases hru
     rw [putT_ne hdt]
     refine (I.pend r hr hru t u ht hlk).imp id fun ⟨q,hq,q1,q2⟩ => ⟨q,hq,?_,q2⟩
     have : i ≠ q.i := fun e => by
      have := Ck.fresh
      rw [regd_spec.2 (.inl ⟨q,hq,e.symm⟩)] at this;cases this
     rw [getD_ne this];exact q1
    ·intro F hF hl t ht
     rw [getD_ne (Ck.fi F hF)] at hl
     rw [putT_ne (Ck.fd F hF t ht).1]
     exact I.flo F hF hl t ht
  ·rcases regd_spec.1 hcase with ⟨r,hr',rfl⟩ | hl
   ·have hro : r.o = o := by
     have := (S.ok r hr').get
     rw [ho] at this
     exact (Option.some.inj this).symm
    subst hro
    obtain ⟨I',hfl⟩ := I.exec S SF hr' h2 hp
    refine (S.ok r hr').go (hsub.trans (Sub.append_left _ _)) I.size (I.found S hr' h2 hp) ?_
    rw [← hfl]
    exact ih _ _ _ _ I' hun
   ·rw [I.ls i hl] at h2;cases h2
  ·obtain ⟨F,hF,rfl⟩ := flod_spec.1 hcase
   exact step_flo S SF hsub I hF h2 (fun p hpp => hp p (by have hgt := (SF.ok F hF).get;rw [ho] at hgt;obtain rfl := Option.some.inj hgt;exact hpp)) fun tmps' ρ' I' => ih _ _ _ _ I' hun
  ·
   rw [ho] at hcase
   simp only [List.any_eq_true,Bool.and_eq_true,Bool.not_eq_true'] at hcase
   obtain ⟨p,hpm,hpr,hpf⟩ := hcase
   rcases I.reg p (hp p hpm) with h | h | h
   ·rw [regd_spec.2 (.inl h)] at hpr;cases hpr
   ·rw [regd_spec.2 (.inr h)] at hpr;cases hpr
   ·rw [flod_spec.2 h] at hpf;cases hpf
def ancs (ops : Array Oper) : Nat → List Nat → List Nat
 | 0,C => C
 | d + 1,C => ancs ops d (C ++ C.flatMap fun j => match ops[j]? with | some o => predsOf o | none => []).eraseDups
def coverB (ops : Array Oper) (i : Nat) : Bool := (List.range ops.size).all fun j => (ancs ops ops.size [i]).contains j
theorem ancs_listed {listed : Array Bool} {i : Nat} (hcl : ClB ops listed) (hi : ∀ o,ops[i]? = some o → ∀ p ∈ predsOf o,listed.getD p false = true) : ∀ (d : Nat) (C : List Nat),(∀ j ∈ C,j = i ∨ listed.getD j false = true) → ∀ j ∈ ancs ops d C,j = i ∨ listed.getD j false = true
 | 0,C,h => h
 | d + 1,C,h => ancs_listed hcl hi d _ fun j hj => by
  rw [List.mem_eraseDups] at hj
  rcases List.mem_append.1 hj with hj | hj
  ·exact h j hj
  ·obtain ⟨q,hq,hjq⟩ := List.mem_flatMap.1 hj
   cases ho : ops[q]? with
   | none => rw [ho] at hjq;cases hjq
   | some o =>
    rw [ho] at hjq
    rcases h q hq with rfl | hl
    ·exact .inr (hi o ho j hjq)
    ·exact .inr (hcl q o hl ho j hjq)
theorem pool_lastI (i : Nat) (hd : downOk ops = true) (honly : onlyIn R Ls [] ops [i] = true) (hlt : Nat.blt i ops.size = true) (hr : regd R Ls i = false) (hcov : coverB ops i = true) (h : At L f ro ds cs n E H (.inRegion ops [i] :: k)) : Pool L f ro ds cs n ops k Hq R Ls [] E H := by
 have hlt : i < ops.size := by simpa using hlt
 intro S SF hsub fuel
 have un0 : ∀ {listed tmps ρ},PInv ops n R Ls [] E listed tmps ρ → listed.getD i false = false := fun {listed tmps ρ} I => by
  cases hx : listed.getD i false with
  | false => rfl
  | true =>
   exfalso
   rcases I.reg i hx with h | h | ⟨_,h,_⟩
   ·rw [regd_spec.2 (.inl h)] at hr;cases hr
   ·rw [regd_spec.2 (.inr h)] at hr;cases hr
   ·cases h
 induction fuel with
 | zero =>
  intro t listed tmps ρ I hfuel
  exfalso
  have := unl_set I.lsz hlt (un0 I)
  omega
 | succ fuel ih =>
  intro t listed tmps ρ I hfuel
  have hne : Region.ready .any ops listed ≠ [] := ready_ne I.lsz hd hlt (un0 I)
  obtain ⟨j,m,t',hm,hj,hgo,hun⟩ := go_next (fuel + 1) t I.lsz hfuel hne
  obtain rfl : m = fuel := by omega
  rw [hgo]
  obtain ⟨h1,h2,o,ho,hp⟩ := ready_spec I.lsz hj
  unfold onlyIn at honly
  rw [List.all_eq_true] at honly
  have hcase := honly j (by simpa using h1)
  simp only [Bool.or_eq_true,List.contains_eq_mem,decide_eq_true_eq] at hcase
  rcases hcase with ((hcase | hcase) | hcase) | hcase
  ·obtain rfl : j = i := by simpa using hcase
   have hall : ∀ q,q < ops.size → q = j ∨ listed.getD q false = true := by
    intro q hq
    unfold coverB at hcov
    rw [List.all_eq_true] at hcov
    have hm := hcov q (by simpa using hq)
    simp only [List.contains_eq_mem,decide_eq_true_eq] at hm
    refine ancs_listed I.cl (fun o' ho' p hpp => ?_) _ [j] (by simp) q hm
    rw [ho] at ho'
    obtain rfl := Option.some.inj ho'
    exact hp p hpp
   have hrd : Region.ready .any ops (listed.setIfInBounds j true) = [] := by
    rw [List.eq_nil_iff_forall_not_mem]
    intro q hq
    obtain ⟨q1,q2,_⟩ := ready_spec (by rw [Array.size_setIfInBounds];exact I.lsz) hq
    rw [getD_set] at q2
    rcases hall q q1 with rfl | hl
    ·rw [if_pos ⟨rfl,by rw [I.lsz];exact q1⟩] at q2;cases q2
    ·split at q2
     ·cases q2
     ·rw [hl] at q2;cases q2
   rw [go_nil hrd]
   refine h tmps I.size fun t v hv => ?_
   rcases I.env t v hv with h | ⟨q,hq,q1,_,_⟩
   ·exact h
   ·exfalso
    have hql : q.i < ops.size := (Array.getElem?_eq_some_iff.1 (S.ok q hq).get).1
    rcases hall q.i hql with e | hl
    ·rw [regd_spec.2 (.inl ⟨q,hq,e⟩)] at hr;cases hr
    ·rw [hl] at q1;cases q1
  ·rcases regd_spec.1 hcase with ⟨r,hr',rfl⟩ | hl
   ·have hro : r.o = o := by
     have := (S.ok r hr').get
     rw [ho] at this
     exact (Option.some.inj this).symm
    subst hro
    obtain ⟨I',hfl⟩ := I.exec S SF hr' h2 hp
    refine (S.ok r hr').go hsub I.size (I.found S hr' h2 hp) ?_
    exact ih _ _ _ _ I' hun
   ·rw [I.ls j hl] at h2;cases h2
  ·obtain ⟨F,hF,_⟩ := flod_spec.1 hcase
   cases hF
  ·rw [ho] at hcase
   simp only [List.any_eq_true,Bool.and_eq_true,Bool.not_eq_true'] at hcase
   obtain ⟨p,hpm,hpr,hpf⟩ := hcase
   rcases I.reg p (hp p hpm) with h | h | ⟨_,h,_⟩
   ·rw [regd_spec.2 (.inl h)] at hpr;cases hpr
   ·rw [regd_spec.2 (.inr h)] at hpr;cases hpr
   ·cases h
theorem pool_take {F : Flo} {d : Nat} (hd : downOk ops = true) (hdst : F.o.dst = some d) (honly : onlyT R Ls (F :: Fs) F.i ops = true)
  (h : ∀ r,Pool L f ro ds cs n ops k Hq R (F.i :: Ls) Fs ((d,F.vl r) :: E) (.own r F.ob :: H)) : Pool L f ro ds cs n ops k Hq R Ls (F :: Fs) E H := by
 intro S SF hsub fuel
 have hp := List.pairwise_cons.1 SF.nF
 have done : ∀ (fuel t : Nat) listed tmps ρ,PInv ops n R Ls (F :: Fs) E listed tmps ρ → unl ops listed ≤ fuel → listed.getD F.i false = true →
   L.J (G (Fr f ro ds tmps (.inRegion ops (Region.linearise.go .any ops fuel t listed []) :: k)) cs) (floF listed ρ (F :: Fs) ++ H) := by
  intro fuel t listed tmps ρ I hfuel hl
  have e : floF listed ρ (F :: Fs) = .own (ρ F.i) F.ob :: floF listed ρ Fs := by
   show (if listed.getD F.i false then _ else _) = _
   rw [hl];rfl
  have hx := h (ρ F.i) ⟨S.ok,fun q hq t ht => ?_,S.uniq,S.pair⟩ ⟨fun G hG => SF.ok G (List.mem_cons_of_mem _ hG),fun G hG => SF.ne G (List.mem_cons_of_mem _ hG),hp.2,fun G hG t ht => ?_⟩ (hsub.drop _) fuel t listed tmps ρ
   ⟨I.size,I.lsz,fun j hj => ?_,fun j hj => ?_,fun t v hv => ?_,I.pend,fun G hG => I.flo G (List.mem_cons_of_mem _ hG),I.cl⟩ hfuel
  ·rw [e]
   refine L.weak _ _ _ (Sub.of_perm ?_) hx
   exact List.perm_middle
  ·rw [look_cons,if_neg (fun e => by subst e;exact ((SF.ne F (by simp) q hq).2 d hdst).1 ht)]
   exact S.env q hq t ht
  ·rw [look_cons,if_neg (fun e => by subst e;exact (hp.1 G hG).2 d hdst ht)]
   exact SF.env G (List.mem_cons_of_mem _ hG) t ht
  ·rcases I.reg j hj with h | h | ⟨G,hG,e⟩
   ·exact .inl h
   ·exact .inr (.inl (List.mem_cons_of_mem _ h))
   ·rcases List.mem_cons.1 hG with hG | hG
    ·exact .inr (.inl (by rw [← e,hG];simp))
    ·exact .inr (.inr ⟨G,hG,e⟩)
  ·rcases List.mem_cons.1 hj with rfl | hj
   ·exact hl
   ·exact I.ls j hj
  ·rw [look_cons] at hv
   by_cases hdt : d = t
   ·subst hdt
    simp at hv
    subst hv
    exact .inl (I.flo F (by simp) hl d hdst)
   ·rw [if_neg hdt] at hv
    exact I.env t v hv
 induction fuel with
 | zero =>
  intro t listed tmps ρ I hfuel
  refine done _ _ _ _ _ I hfuel ?_
  cases hx : listed.getD F.i false with
  | true => rfl
  | false =>
   have := unl_set I.lsz (Array.getElem?_eq_some_iff.1 (SF.ok F (by simp)).get).1 hx
   omega
 | succ fuel ih =>
  intro t listed tmps ρ I hfuel
  by_cases hl : listed.getD F.i false = true
  ·exact done _ _ _ _ _ I hfuel hl
  ·have hl' : listed.getD F.i false = false := by simpa using hl
   have hFlt : F.i < ops.size := (Array.getElem?_eq_some_iff.1 (SF.ok F (by simp)).get).1
   have hne : Region.ready .any ops listed ≠ [] := ready_ne I.lsz hd hFlt hl'
   obtain ⟨i,m,t',hm,hi,hgo,hun⟩ := go_next (fuel + 1) t I.lsz hfuel hne
   obtain rfl : m = fuel := by omega
   rw [hgo]
   obtain ⟨h1,h2,o,ho,hpr⟩ := ready_spec I.lsz hi
   unfold onlyT at honly
   rw [List.all_eq_true] at honly
   have hcase := honly i (by simpa using h1)
   simp only [Bool.or_eq_true] at hcase
   rcases hcase with (hcase | hcase) | hcase
   ·rcases regd_spec.1 hcase with ⟨r,hr',rfl⟩ | hl
    ·have hro : r.o = o := by
      have := (S.ok r hr').get
      rw [ho] at this
      exact (Option.some.inj this).symm
     subst hro
     obtain ⟨I',hfl⟩ := I.exec S SF hr' h2 hpr
     refine (S.ok r hr').go (hsub.trans (Sub.append_left _ _)) I.size (I.found S hr' h2 hpr) ?_
     rw [← hfl]
     exact ih _ _ _ _ I' hun
    ·rw [I.ls i hl] at h2;cases h2
   ·obtain ⟨F',hF',rfl⟩ := flod_spec.1 hcase
    exact step_flo S SF hsub I hF' h2 (fun p hpp => hpr p (by have hgt := (SF.ok _ hF').get;rw [ho] at hgt;obtain rfl := Option.some.inj hgt;exact hpp)) fun tmps' ρ' I' => ih _ _ _ _ I' hun
   ·rw [ho] at hcase
    simp only [List.any_eq_true,Bool.or_eq_true,beq_iff_eq,Bool.and_eq_true,Bool.not_eq_true'] at hcase
    obtain ⟨p,hpm,hpe⟩ := hcase
    rcases hpe with rfl | ⟨hpr',hpf⟩
    ·rw [hpr _ hpm] at hl';cases hl'
    rcases I.reg p (hpr p hpm) with h | h | h
    ·rw [regd_spec.2 (.inl h)] at hpr';cases hpr'
    ·rw [regd_spec.2 (.inr h)] at hpr';cases hpr'
    ·rw [flod_spec.2 h] at hpf;cases hpf
theorem K.frame {α : Type} {s : Sem α} {Q : α → Facts → Prop} {F : Facts} (h : K P s Q H) {W : World} (hW : Holds (F ++ H) W) :
  ∃ a W' es H',s.runT P W #[] = (.ok a W',es) ∧ Tr (F ++ H) W es W' (F ++ H') ∧ Q a H' := by
 have hW' : Holds (H ++ F) W := hW.perm List.perm_append_comm
 obtain ⟨a,W',es,H',h1,h2,h3⟩ := K.sound h (Tr.refl (show Holds H W from Sub.holds ⟨F,.refl _⟩ hW'))
 exact ⟨a,W',es,H',h1,(h2.frame hW').perm List.perm_append_comm List.perm_append_comm,h3⟩
theorem loud_l {l : Nat} {o : Oper} {Post : Value → Facts → Prop} (ho : ops[l]? = some o) (hw : wantE ops o E = some true) (hdst : dstOk o.dst n = true) (hc : checkReg R Ls Fs ops l o = true) (hsel : noSel o = true) (hq : LOp P o E H Post)
  (h : ∀ v H',Post v H' → Sub Hq H' ∧ Pool L f ro ds cs n ops k Hq R (l :: Ls) Fs (putE o.dst v E) H') : Loud L f ro ds cs n ops k Hq R Ls Fs E H l := by
 refine ⟨o,Post,ho,dstOk_lt hdst,hc,fun F rest tmps hs hr hn => ?_,h⟩
 refine L.closed _ _ rfl fun W hW => ?_
 obtain ⟨φ,hA,hφ⟩ := agree_of_reads (f := f) (ro := ro) (ds := ds) (todo := .inRegion ops (l :: rest) :: k) (o := o) (E := E) (tmps := tmps) fun t v ht hv => hr t v (by unfold readsOf;exact List.mem_append_left _ ht) hv
 have hK := hq.2 φ hA Post fun v H' x => x
 rw [← execOp_congr o (noSel_spec hsel) hφ] at hK
 obtain ⟨nx,W',es,H',hrun,ht,hq'⟩ := K.frame hK hW
 rw [stepG_opF ho (wanted_reads hr hw) hq.1]
 have ht' : Tr (F ++ H) W (seen P f es) W' (F ++ H') := ⟨ht.holds,ht.os,ht.tape,ht.output,ht.size,ht.keep,ht.mine,ht.seen,fun e he => ht.evs e (mem_seen he)⟩
 cases nx with
 | value v =>
  refine ⟨G ((Fr f ro ds tmps (.inRegion ops (l :: rest) :: k)).finish v) cs,W',seen P f es,_,apply_value fr_kind hrun,ht',?_⟩
  rw [fr_finish,ho]
  exact hn v H' hq'
 | skip =>
  refine ⟨G ((Fr f ro ds tmps (.inRegion ops (l :: rest) :: k)).finish undef) cs,W',seen P f es,_,apply_skip fr_kind hrun,ht',?_⟩
  rw [fr_finish,ho]
  exact hn undef H' hq'
 | _ => exact hq'.elim
theorem loud_c {l : Nat} {o : Oper} {x : Operand} {az : Array Operand} {ats : Array TypeId} {g : FuncId} {first cap : Array Value} {vs : List Value} {Post : Value → Facts → Prop} (ho : ops[l]? = some o) (hw : wantE ops o E = some true) (hop : o.op = .call { callee := .value x,args := az,argTypes := ats }) (hdst : dstOk o.dst n = true) (hc : checkReg R Ls Fs ops l o = true)
  (hx : ev E x = some (.func (.func g) first cap)) (has : evs E az.toList = some vs) (hb : HasBody P g) (hsp : ∀ F,Spec L g (first ++ vs.toArray ++ cap) (F ++ H) fun v H' => ∃ H₁,H' = F ++ H₁ ∧ Post v H₁)
  (h : ∀ v H',Post v H' → Sub Hq H' ∧ Pool L f ro ds cs n ops k Hq R (l :: Ls) Fs (putE o.dst v E) H') : Loud L f ro ds cs n ops k Hq R Ls Fs E H l := by
 refine ⟨o,Post,ho,dstOk_lt hdst,hc,fun F rest tmps hs hr hn => ?_,h⟩
 refine step_core (E := E) (Q := fun nx H' => nx = .enter g (first ++ vs.toArray ++ cap) ∧ H' = F ++ H) ho hs (by unfold noSel;rw [hop]) (by rw [hop];intro c;simp) hr hw (fun φ hA => ?_) ?_ ?_ ?_ ?_ ?_
 ·unfold execOp
  rw [hop]
  simp only
  have e : az.map φ = vs.toArray := by
   have := evs_map hA has
   apply Array.ext'
   simpa using this
  simp only [resolve,hA x _ hx,Deferred.ofValue,e]
  rw [K.bind]
  show K P (invoke _ _) _ (F ++ H)
  simp only [invoke]
  exact K.callFunc hb ⟨rfl,rfl⟩
 ·rintro v H' ⟨h,_⟩;cases h
 ·rintro H' ⟨h,_⟩;cases h
 ·rintro g' args' H' ⟨h,rfl⟩
  cases h
  refine hsp F _ _ fun v H' hv => ?_
  obtain ⟨H₁,rfl,hv⟩ := hv
  rw [fr_finish,ho]
  exact hn v H₁ hv
 ·rintro l g t x y H' ⟨h,_⟩;cases h
 ·rintro nx H' ⟨h,_⟩;subst h;trivial
theorem flo_l {i : Nat} {o : Oper} {vl : Nat → Value} {ob : Obj} (ho : ops[i]? = some o) (hdst : ∃ t,o.dst = some t ∧ Nat.blt t n = true) (hr : readsOf ops o = []) (hw : wantE ops o [] = some true) (hsel : noSel o = true) (hq : LOp P o [] Hq fun v H' => ∃ r,v = vl r ∧ H' = .own r ob :: Hq) : Flo.ok P ops n Hq ⟨i,o,vl,ob⟩ :=
 ⟨ho,let ⟨t,h1,h2⟩ := hdst;⟨t,h1,by simpa [Nat.blt_eq] using h2⟩,hr,hw,hq,hsel⟩
theorem reg_q {i : Nat} {o : Oper} {v : Value} (ho : ops[i]? = some o) (hdst : dstOk o.dst n = true) (hw : wantE ops o E = some true) (hsel : noSel o = true) (hq : QOp P o E Hq v) : Reg.ok L f ro ds cs n ops k Hq ⟨i,o,E,v⟩ :=
 ⟨ho,dstOk_lt hdst,fun {H} hs {rest} {tmps} hn hrd h => step_reg (r := ⟨i,o,E,v⟩) (Hq := Hq) ⟨ho,dstOk_lt hdst,.inl ⟨hw,hq⟩,hsel⟩ hs hn hrd h⟩
theorem reg_u {i : Nat} {o : Oper} (ho : ops[i]? = some o) (hdst : dstOk o.dst n = true) (hw : wantE ops o E = some false) (hsel : noSel o = true) : Reg.ok L f ro ds cs n ops k Hq ⟨i,o,E,undef⟩ :=
 ⟨ho,dstOk_lt hdst,fun {H} hs {rest} {tmps} hn hrd h => step_reg (r := ⟨i,o,E,undef⟩) (Hq := Hq) ⟨ho,dstOk_lt hdst,.inr ⟨hw,rfl⟩,hsel⟩ hs hn hrd h⟩
theorem reg_c {i : Nat} {o : Oper} {x : Operand} {az : Array Operand} {ats : Array TypeId} {g : FuncId} {first cap : Array Value} {vs : List Value} {v : Value} (ho : ops[i]? = some o) (hw : wantE ops o E = some true) (hop : o.op = .call { callee := .value x,args := az,argTypes := ats }) (hdst : dstOk o.dst n = true)
  (hx : ev E x = some (.func (.func g) first cap)) (has : evs E az.toList = some vs) (hb : HasBody P g) (hsp : ∀ H,Sub Hq H → Spec L g (first ++ vs.toArray ++ cap) H fun u H' => u = v ∧ H' = H) : Reg.ok L f ro ds cs n ops k Hq ⟨i,o,E,v⟩ := by
 refine ⟨ho,dstOk_lt hdst,fun {H} hs {rest tmps} hn hr h => ?_⟩
 refine step_core (E := E) (Q := fun nx H' => nx = .enter g (first ++ vs.toArray ++ cap) ∧ H' = H) ho hn (by unfold noSel;rw [hop]) (by rw [hop];intro c;simp) hr hw (fun φ hA => ?_) ?_ ?_ ?_ ?_ ?_
 ·unfold execOp
  rw [hop]
  simp only
  have e : az.map φ = vs.toArray := by
   have := evs_map hA has
   apply Array.ext'
   simpa using this
  simp only [resolve,hA x _ hx,Deferred.ofValue,e]
  rw [K.bind]
  show K P (invoke _ _) _ H
  simp only [invoke]
  exact K.callFunc hb ⟨rfl,rfl⟩
 ·rintro v H' ⟨h,_⟩;cases h
 ·rintro H' ⟨h,_⟩;cases h
 ·rintro g' args' H' ⟨e1,e2⟩
  cases e1
  subst e2
  refine hsp _ hs _ _ fun u H' hu => ?_
  obtain ⟨rfl,rfl⟩ := hu
  rw [fr_finish,ho]
  exact h
 ·rintro l g t x y H' ⟨h,_⟩;cases h
 ·rintro nx H' ⟨h,_⟩;subst h;trivial
theorem Bd (hmix : P.follows .mixedOrders = true) {id : Nat} (Hq : Facts) (hsub : Sub Hq H) (h : Pool L f ro ds cs n ops k Hq [] [] [] E H) : At L f ro ds cs n E H (.code (.region id ops true) :: k) := by
 intro tmps hs hE
 refine L.closed _ _ rfl fun W hW => ?_
 refine ⟨G (Fr f ro ds tmps (.inRegion ops (Region.schedule true ops (W.tape W.drawn (.order f id))) :: k)) cs,{ W with drawn := W.drawn + 1 },#[],H,?_,Tr.drew hW _,?_⟩
 ·simp [G,stepG,stepG.exec,Fr,choose,Sem.run,Question.forced,Question.cut,hmix]
 ·have e : Region.schedule true ops (W.tape W.drawn (.order f id)) = Region.linearise.go .any ops ops.size (W.tape W.drawn (.order f id)) (Array.replicate ops.size false) [] := by
   simp [Region.schedule,Region.linearise]
  rw [e]
  refine h ⟨fun r hr => (by cases hr),fun r hr => (by cases hr),fun r hr => (by cases hr),fun r hr => (by cases hr)⟩ ⟨fun r hr => (by cases hr),fun r hr => (by cases hr),.nil,fun r hr => (by cases hr)⟩ hsub _ _ _ _ (fun _ => 0) ⟨hs,by simp,?_,fun i hi => (by cases hi),fun t v hv => .inl (hE t v hv),fun r hr => (by cases hr),fun r hr => (by cases hr),fun j o hj => by
   exfalso
   by_cases hlt : j < ops.size
   ·simp [Array.getD_eq_getD_getElem?,hlt] at hj
   ·simp [Array.getD_eq_getD_getElem?,hlt] at hj⟩ ?_
  ·intro i hi
   exfalso
   by_cases hlt : i < ops.size
   ·simp [Array.getD_eq_getD_getElem?,hlt] at hi
   ·simp [Array.getD_eq_getD_getElem?,hlt] at hi
  ·unfold unl
   exact Nat.le_trans List.countP_le_length (by simp)
end
end Go.Gx
end
section
namespace Go.Gx
open Go Go.Conc
def nthF : Facts → Nat → Option Fact
 | [],_ => none
 | f :: _,0 => some f
 | _ :: H,i + 1 => nthF H i
theorem nthF_mem : ∀ {H : Facts} {i : Nat} {f : Fact},nthF H i = some f → f ∈ H
 | f :: H,0,g,h => by cases h;exact List.mem_cons_self ..
 | f :: H,i + 1,g,h => List.mem_cons_of_mem _ (nthF_mem (H := H) h)
def setF : Facts → Nat → Fact → Option Facts
 | [],_,_ => none
 | _ :: H,0,g => some (g :: H)
 | f :: H,i + 1,g =>
  match setF H i g with
  | some H' => some (f :: H')
  | none => none
theorem setF_upd : ∀ {H : Facts} {i : Nat} {f g : Fact} {H' : Facts},nthF H i = some f → setF H i g = some H' → Upd H f g H'
 | f :: H,0,f',g,H',h,h' => by cases h;cases h';exact .head ..
 | x :: H,i + 1,f,g,H',h,h' => by
  unfold setF at h'
  split at h'
  ·rename_i H'' e
   cases h'
   exact .tail x (setF_upd (H := H) h e)
  ·cases h'
def takeC : List Value → Nat → Option (List Value)
 | _,0 => some []
 | a :: l,n + 1 =>
  match takeC l n with
  | some vs => some (a :: vs)
  | none => none
 | [],_ + 1 => none
def getC : List Value → Nat → Nat → Option (List Value)
 | l,0,n => takeC l n
 | _ :: l,k + 1,n => getC l k n
 | [],_ + 1,_ => none
theorem takeC_eq : ∀ {l : List Value} {n : Nat} {vs : List Value},takeC l n = some vs → l.take n = vs ∧ vs.length = n
 | l,0,vs,h => by unfold takeC at h;cases h;simp
 | a :: l,n + 1,vs,h => by
  unfold takeC at h
  split at h
  ·rename_i vs' e
   cases h
   obtain ⟨h1,h2⟩ := takeC_eq e
   simp [h1,h2]
  ·cases h
 | [],n + 1,vs,h => by simp [takeC] at h
theorem getC_eq : ∀ {l : List Value} {off n : Nat} {vs : List Value},getC l off n = some vs → (l.drop off).take n = vs ∧ vs.length = n
 | l,0,n,vs,h => by unfold getC at h;simpa using takeC_eq h
 | a :: l,k + 1,n,vs,h => by
  unfold getC at h
  simpa using getC_eq (l := l) h
 | [],k + 1,n,vs,h => by simp [getC] at h
def putC : List Value → List Value → Option (List Value)
 | l,[] => some l
 | _ :: l,v :: vs =>
  match putC l vs with
  | some l' => some (v :: l')
  | none => none
 | [],_ :: _ => none
def setC : List Value → Nat → List Value → Option (List Value)
 | l,0,vs => putC l vs
 | a :: l,k + 1,vs =>
  match setC l k vs with
  | some l' => some (a :: l')
  | none => none
 | [],_ + 1,_ => none
def nthV : List Value → Nat → Option Value
 | [],_ => none
 | a :: _,0 => some a
 | _ :: l,i + 1 => nthV l i
theorem nthV_eq : ∀ {l : List Value} {i : Nat} {v : Value},nthV l i = some v → l[i]? = some v
 | a :: l,0,v,h => by cases h;rfl
 | a :: l,i + 1,v,h => by
  have := nthV_eq (l := l) (show nthV l i = some v from h)
  simpa using this
def splice (l : List Value) (off : Nat) (vs : List Value) : List Value := l.take off ++ vs ++ l.drop (off + vs.length)
theorem putC_eq : ∀ {l vs l' : List Value},putC l vs = some l' → l' = vs ++ l.drop vs.length ∧ vs.length ≤ l.length
 | l,[],l',h => by
  cases l <;> (simp only [putC,Option.some.injEq] at h;subst h;simp)
 | a :: l,v :: vs,l',h => by
  unfold putC at h
  split at h
  ·rename_i l'' e
   cases h
   obtain ⟨h1,h2⟩ := putC_eq e
   subst h1
   exact ⟨by simp,by simpa using h2⟩
  ·cases h
 | [],v :: vs,l',h => by simp [putC] at h
theorem setC_eq : ∀ {l : List Value} {off : Nat} {vs l' : List Value},setC l off vs = some l' → l' = splice l off vs ∧ off + vs.length ≤ l.length
 | l,0,vs,l',h => by
  have h' : putC l vs = some l' := by
   unfold setC at h
   exact h
  obtain ⟨h1,h2⟩ := putC_eq h'
  exact ⟨by simp [splice,h1],by simpa using h2⟩
 | a :: l,k + 1,vs,l',h => by
  unfold setC at h
  split at h
  ·rename_i l'' e
   cases h
   obtain ⟨h1,h2⟩ := setC_eq e
   subst h1
   refine ⟨?_,by simp;omega⟩
   simp only [splice,List.take_succ_cons,List.cons_append,List.cons.injEq,true_and]
   rw [show k + 1 + vs.length = (k + vs.length) + 1 from by omega,List.drop_succ_cons]
  ·cases h
 | [],k + 1,vs,l',h => by simp [setC] at h
theorem foldl_splice (vs : List Value) : ∀ (l : List Value) (off : Nat),off + vs.length ≤ l.length →
  (vs.zipIdx.foldl (fun c p => c.setIfInBounds (off + p.2) p.1) l.toArray) = (splice l off vs).toArray := by
 induction vs with
 | nil => intro l off h;simp [splice]
 | cons v vs ih =>
  intro l off h
  simp only [List.length_cons] at h
  rw [List.zipIdx_cons,List.foldl_cons,List.zipIdx_succ,List.foldl_map]
  have e : (fun (c : Array Value) (p : Value × Nat) => c.setIfInBounds (off + (p.1,p.2 + 1).2) (p.1,p.2 + 1).1) = fun c p => c.setIfInBounds ((off + 1) + p.2) p.1 := by
   funext c p
   congr 1
   simp only
   omega
  have e2 : (l.toArray.setIfInBounds (off + (v,0).2) (v,0).1) = (l.set off v).toArray := by simp
  simp only [e2]
  have := ih (l.set off v) (off + 1) (by simp;omega)
  have e4 : (fun (c : Array Value) (p : Value × Nat) => c.setIfInBounds ((off + 1) + p.2) p.1) = fun c p => c.setIfInBounds (off + (p.1,p.2 + 1).2) (p.1,p.2 + 1).1 := e.symm
  rw [e4] at this
  refine this.trans ?_
  congr 1
  have hlt : off < l.length := by omega
  obtain ⟨a,x,b,rfl,ha⟩ : ∃ a x b,l = a ++ x :: b ∧ a.length = off := ⟨l.take off,l[off],l.drop (off + 1),by simp,by simp;omega⟩
  subst ha
  have t1 : List.take (a.length + 1) a = a := List.take_of_length_le (by omega)
  have t2 : List.drop (a.length + 1 + vs.length) a = [] := List.drop_of_length_le (by omega)
  have t3 : List.drop (a.length + (vs.length + 1)) a = [] := List.drop_of_length_le (by omega)
  simp [splice,List.take_append,List.drop_append,t1,t2,t3,show a.length + 1 + vs.length - a.length = vs.length + 1 from by omega,show a.length + (vs.length + 1) - a.length = vs.length + 1 from by omega]
def cellsV : Value → Option (List Value)
 | .agg ⟨l⟩ => some l
 | .tuple _ => none
 | v => some [v]
theorem cellsV_eq {v : Value} {vs : List Value} (h : cellsV v = some vs) : v.cells = vs.toArray := by
 unfold cellsV at h
 split at h
 ·cases h;rfl
 ·cases h
 ·rename_i h1 h2
  cases h
  cases v <;> first | rfl | (exact absurd rfl (h2 _)) | (rename_i cs;exact absurd rfl (h1 cs.toList))
def mkV : Bool → List Value → Option Value
 | true,vs => some (.agg vs.toArray)
 | false,[v] => some v
 | false,_ => none
class TyI (P : Program) (t : TypeId) (ag : outParam Bool) (sz : outParam Nat) (z : outParam (List Value)) : Prop where
 h : ∃ zv by_,tyF P t = some (ag,sz,some zv,by_) ∧ cellsV zv = some z
def fdF (P : Program) (t : TypeId) (i : Nat) : Option (Nat × Bool × Nat) :=
 match P.underlying t with
 | some (.struct fs) => match fs[i]? with
  | some fd => match tyF P fd.type with
   | some (ag,sz,_,_) => some (fd.offset,ag,sz)
   | none => none
  | none => none
 | _ => none
def elF (P : Program) (t : TypeId) : Option (TypeId × Bool × Nat × Nat × Option Value) :=
 match P.underlying t with
 | some (.slice e) => match tyF P e with
  | some (ag,sz,z,by_) => some (e,ag,sz,by_,z)
  | none => none
 | _ => none
def arF (P : Program) (t : TypeId) : Option (Nat × TypeId × Bool × Nat) :=
 match P.underlying t with
 | some (.array n e) => match tyF P e with
  | some (ag,sz,_,_) => some (n,e,ag,sz)
  | none => none
 | _ => none
class FdI (P : Program) (t : TypeId) (i : Nat) (fo : outParam Nat) (ag : outParam Bool) (sz : outParam Nat) : Prop where
 h : fdF P t i = some (fo,ag,sz)
 nz : sz ≠ 0
class ElI (P : Program) (t : TypeId) (e : outParam TypeId) (ag : outParam Bool) (sz : outParam Nat) (by_ : outParam Nat) (z : outParam (List Value)) : Prop where
 h : ∃ zv,elF P t = some (e,ag,sz,by_,some zv) ∧ cellsV zv = some z
class ArI (P : Program) (t : TypeId) (len : outParam Nat) (e : outParam TypeId) (ag : outParam Bool) (sz : outParam Nat) : Prop where
 h : arF P t = some (len,e,ag,sz)
theorem FdI.parts {P : Program} {t : TypeId} {i fo sz : Nat} {ag : Bool} (h : FdI P t i fo ag sz) : ∃ fs fd z by_,P.underlying t = some (.struct fs) ∧ fs[i]? = some fd ∧ fd.offset = fo ∧ tyF P fd.type = some (ag,sz,z,by_) := by
 have := h.h
 unfold fdF at this
 split at this
 ·rename_i fs e1
  split at this
  ·rename_i fd e2
   split at this
   ·rename_i e3
    cases this
    exact ⟨fs,fd,_,_,e1,e2,rfl,e3⟩
   ·cases this
  ·cases this
 ·cases this
theorem ElI.parts {P : Program} {t e : TypeId} {sz by_ : Nat} {ag : Bool} {z : List Value} (h : ElI P t e ag sz by_ z) : ∃ zv,P.underlying t = some (.slice e) ∧ tyF P e = some (ag,sz,some zv,by_) ∧ cellsV zv = some z := by
 obtain ⟨zv,this,hz⟩ := h.h
 unfold elF at this
 split at this
 ·rename_i e' e1
  split at this
  ·rename_i e3
   cases this
   exact ⟨zv,e1,e3,hz⟩
  ·cases this
 ·cases this
theorem ArI.parts {P : Program} {t e : TypeId} {len sz : Nat} {ag : Bool} (h : ArI P t len e ag sz) : ∃ z by_,P.underlying t = some (.array len e) ∧ tyF P e = some (ag,sz,z,by_) := by
 have := h.h
 unfold arF at this
 split at this
 ·rename_i n e' e1
  split at this
  ·rename_i e3
   cases this
   exact ⟨_,_,e1,e3⟩
  ·cases this
 ·cases this
def qArith : BinOp → Int → Int → Option (Value × Prop)
 | .add,a,b => some (.int .i64 (a + b),InI (a + b))
 | .sub,a,b => some (.int .i64 (a - b),InI (a - b))
 | .mul,a,b => some (.int .i64 (a * b),InI (a * b))
 | .quo,a,b => some (.int .i64 (a.tdiv b),b ≠ 0 ∧ InI (a.tdiv b))
 | .rem,a,b => some (.int .i64 (a.tmod b),b ≠ 0)
 | _,_,_ => none
def qBuiltin (E : Env) : Builtin → List Operand → Option (Value × Prop)
 | .max,[x,y] =>
  match ev E x,ev E y with
  | some (.int .i64 a),some (.int .i64 b) => some (.int .i64 (if b > a then b else a),True)
  | _,_ => none
 | .min,[x,y] =>
  match ev E x,ev E y with
  | some (.int .i64 a),some (.int .i64 b) => some (.int .i64 (if b < a then b else a),True)
  | _,_ => none
 | _,_ => none
def qv (E : Env) : Op → Option (Value × Prop)
 | .move x => match ev E x with | some v => some (v,True) | none => none
 | .assign x => match ev E x with | some v => some (v,True) | none => none
 | .pick c x y =>
  match ev E c with
  | some (.bool true) => match ev E x with | some v => some (v,True) | none => none
  | some (.bool false) => match ev E y with | some v => some (v,True) | none => none
  | _ => none
 | .extract x i =>
  match ev E x with
  | some (.tuple ⟨l⟩) => match nthV l i with | some v => some (v,True) | none => none
  | _ => none
 | .makeFunc fn ⟨first⟩ ⟨cap⟩ =>
  match evs E first,evs E cap with
  | some fs,some cs => some (.func fn fs.toArray cs.toArray,True)
  | _,_ => none
 | .binOp op _ x y _ =>
  match ev E x,ev E y with
  | some (.int .i64 a),some (.int .i64 b) => qArith op a b
  | _,_ => none
 | .unOp .neg _ x => match ev E x with | some (.int .i64 a) => some (.int .i64 (-a),InI (-a)) | _ => none
 | .unOp .not _ x => match ev E x with | some (.bool a) => some (.bool (!a),True) | _ => none
 | .call { callee := .builtin b,args := ⟨az⟩,.. } => qBuiltin E b az
 | _ => none
theorem qv_sound {P : Program} {E : Env} {H : Facts} {o : Oper} {v : Value} {p : Prop} (h : qv E o.op = some (v,p)) (hp : p) : QOp P o E H v := by
 generalize ho : o.op = op at h
 unfold qv at h
 split at h
 ·split at h
  ·rename_i hx
   cases h
   exact q_move ho hx
  ·cases h
 ·split at h
  ·rename_i hx
   cases h
   exact q_assign ho hx
  ·cases h
 ·split at h
  ·rename_i hc
   split at h
   ·rename_i hx
    cases h
    exact q_pickT ho hc hx
   ·cases h
  ·rename_i hc
   split at h
   ·rename_i hx
    cases h
    exact q_pickF ho hc hx
   ·cases h
  ·cases h
 ·split at h
  ·rename_i l hx
   split at h
   ·rename_i v' hv
    cases h
    exact q_extract ho hx (by have := nthV_eq hv;simpa using this)
   ·cases h
  ·cases h
 ·split at h
  ·rename_i h1 h2
   cases h
   exact q_makeFunc ho h1 h2
  ·cases h
 ·rename_i bop _ x y _
  split at h
  ·rename_i a b hx hy
   cases bop <;> first
    | (cases h;exact q_add ho hx hy hp)
    | (cases h;exact q_sub ho hx hy hp)
    | (cases h;exact q_mul ho hx hy hp)
    | (cases h;exact q_quo ho hx hy hp.1 hp.2)
    | (cases h;exact q_rem ho hx hy hp)
    | (cases h)
  ·cases h
 ·split at h
  ·rename_i hx
   cases h
   exact q_neg ho hx hp
  ·cases h
 ·split at h
  ·rename_i hx
   cases h
   exact q_not ho hx
  ·cases h
 ·rename_i b az _
  unfold qBuiltin at h
  split at h
  ·split at h
   ·rename_i hx hy
    cases h
    exact q_max ho rfl hx hy
   ·cases h
  ·split at h
   ·rename_i hx hy
    cases h
    exact q_min ho rfl hx hy
   ·cases h
  ·cases h
 ·cases h
def qCmp : BinOp → Int → Int → Option Bool
 | .lss,a,b => some (decide (a < b))
 | .leq,a,b => some (decide (a ≤ b))
 | .gtr,a,b => some (decide (b < a))
 | .geq,a,b => some (decide (b ≤ a))
 | .eql,a,b => some (decide (a = b))
 | .neq,a,b => some (decide (a ≠ b))
 | _,_,_ => none
def qc (E : Env) : Op → Option Bool
 | .binOp op _ x y _ =>
  match ev E x,ev E y with
  | some (.int .i64 a),some (.int .i64 b) => qCmp op a b
  | some (.int .u64 a),some (.int .u64 b) => qCmp op a b
  | some (.int .u8 a),some (.int .u8 b) => qCmp op a b
  | _,_ => none
 | _ => none
theorem qc_sound {P : Program} {E : Env} {H : Facts} {o : Oper} {b : Bool} (h : qc E o.op = some b) : QOp P o E H (.bool b) := by
  generalize ho : o.op = op at h
  unfold qc at h
  split at h
  · rename_i bop _ x y _
    split at h
    all_goals first
      | (rename_i a b hx hy
         cases bop <;> first
          | (cases h; exact q_lss ho hx hy)
          | (cases h; exact q_leq ho hx hy)
          | (cases h; exact q_gtr ho hx hy)
          | (cases h; exact q_geq ho hx hy)
          | (cases h; exact q_eql ho hx hy)
          | (cases h; exact q_neq ho hx hy)
          | (cases h))
      | cases h
  · cases h
section
variable {P : Program} {main : Bool} {L : Lg P main} {f : FuncId} {ro : Option Nat} {ds : Dz} {cs : List Frame} {n : Nat} {E : Env} {H : Facts} {k : List Item} {ops : Array Oper} {i : Nat} {rest : List Nat} {o : Oper} {d : Nat}
theorem Aa {v : Value} {p : Prop} (ho : ops[i]? = some o) (hw : wantE ops o E = some true) (hd : o.dst = some d) (hn : Nat.blt d n = true) (hq : qv E o.op = some (v,p)) (hp : p)
  (h : At L f ro ds cs n ((d,v) :: E) H (.inRegion ops rest :: k)) : At L f ro ds cs n E H (.inRegion ops (i :: rest) :: k) := Ae ho hw hd hn (qv_sound hq hp) h
theorem Ad {b : Bool} (ho : ops[i]? = some o) (hw : wantE ops o E = some true) (hd : o.dst = some d) (hn : Nat.blt d n = true) (hq : qc E o.op = some b)
  (h : ∀ b',b = b' → At L f ro ds cs n ((d,.bool b') :: E) H (.inRegion ops rest :: k)) : At L f ro ds cs n E H (.inRegion ops (i :: rest) :: k) := Ae ho hw hd hn (qc_sound hq) (h _ rfl)
theorem Ah (off' : Nat) {t : TypeId} {x : Operand} {j b off fo sz : Nat} {ag : Bool} (ho : ops[i]? = some o) (hop : o.op = .fieldAddr t x j) (hw : wantE ops o E = some true) (hd : o.dst = some d) (hn : Nat.blt d n = true) (hx : ev E x = some (.pointer (some ⟨b,off,none⟩)))
  [ht : FdI P t j fo ag sz] (hoff : Nat.beq (off + fo) off' = true) (h : At L f ro ds cs n ((d,.pointer (some ⟨b,off',none⟩)) :: E) H (.inRegion ops rest :: k)) : At L f ro ds cs n E H (.inRegion ops (i :: rest) :: k) := by
 obtain ⟨fs,fd,z,by_,h1,h2,h3,h4⟩ := ht.parts
 obtain ⟨dd,ii,_,h7,_,h8,_,_⟩ := tyF_parts h4
 have e := Nat.eq_of_beq_eq_true hoff
 subst e h3
 exact Ae ho hw hd hn (q_fieldAddr hop hx h1 h2 h7 (by rw [h8];exact ht.nz)) h
theorem own_cells {b off sz : Nat} {l vs : List Value} {T : TypeId} {fr : Nat × Nat} {j : Nat} (hf : nthF H j = some (.own b (.cells (List.toArray l) T fr))) (hg : getC l off sz = some vs) : Cells H b off vs ∧ vs.length = sz := by
 obtain ⟨h1,h2⟩ := getC_eq hg
 exact ⟨cells_own (nthF_mem hf) (by rw [h2];exact h1),h2⟩
theorem Au {t : TypeId} {x : Operand} {b off sz : Nat} {ag : Bool} {z vs : List Value} {v : Value} (ho : ops[i]? = some o) (hop : o.op = .load t x) (hw : wantE ops o E = some true) (hd : o.dst = some d) (hn : Nat.blt d n = true) (hx : ev E x = some (.pointer (some ⟨b,off,none⟩)))
  [ht : TyI P t ag sz z] (hc : Cells H b off vs) (hl : vs.length = sz) (hv : mkV ag vs = some v) (h : At L f ro ds cs n ((d,v) :: E) H (.inRegion ops rest :: k)) : At L f ro ds cs n E H (.inRegion ops (i :: rest) :: k) := by
 obtain ⟨zv,by_,h1,_⟩ := ht.h
 cases ag with
 | true => cases hv;exact Ae ho hw hd hn (q_loadS hop hx h1 hc hl) h
 | false =>
  match vs,hv with
  | [v'],hv => cases hv;exact Ae ho hw hd hn (q_load hop hx h1 hc) h
theorem Af (j : Nat) {t : TypeId} {x : Operand} {b off sz : Nat} {ag : Bool} {z l vs : List Value} {v : Value} {T : TypeId} {fr : Nat × Nat} (ho : ops[i]? = some o) (hop : o.op = .load t x) (hw : wantE ops o E = some true) (hd : o.dst = some d) (hn : Nat.blt d n = true) (hx : ev E x = some (.pointer (some ⟨b,off,none⟩)))
  [ht : TyI P t ag sz z] (hf : nthF H j = some (.own b (.cells (List.toArray l) T fr))) (hg : getC l off sz = some vs) (hv : mkV ag vs = some v) (h : At L f ro ds cs n ((d,v) :: E) H (.inRegion ops rest :: k)) : At L f ro ds cs n E H (.inRegion ops (i :: rest) :: k) :=
 Au ho hop hw hd hn hx (own_cells hf hg).1 (own_cells hf hg).2 hv h
theorem Ag (j : Nat) {t : TypeId} {x y : Operand} {b off sz : Nat} {ag : Bool} {z l l' vs : List Value} {v : Value} {T : TypeId} {H' : Facts} (ho : ops[i]? = some o) (hop : o.op = .store t x y) (hw : wantE ops o E = some true) (hd : o.dst = none) (hx : ev E x = some (.pointer (some ⟨b,off,none⟩))) (hy : ev E y = some v)
  [ht : TyI P t ag sz z] (hv : cellsV v = some vs) (hl : Nat.beq vs.length sz = true) (h1 : vs.all (·.oneCell') = true) (hf : nthF H j = some (.own b (.cells (List.toArray l) T (0,0)))) (hs : setC l off vs = some l') (hH : setF H j (.own b (.cells (List.toArray l') T (0,0))) = some H')
  (h : At L f ro ds cs n E H' (.inRegion ops rest :: k)) : At L f ro ds cs n E H (.inRegion ops (i :: rest) :: k) := by
 obtain ⟨zv,by_,e1,_⟩ := ht.h
 have e2 := cellsV_eq hv
 have hl' := Nat.eq_of_beq_eq_true hl
 obtain ⟨e3,e4⟩ := setC_eq hs
 refine At.s ho hw hd (l_store hop hx hy e1 (T := T) (c := l.toArray) (c' := l'.toArray) (by rw [e2];simpa using hl') (by rw [e2];simpa using h1) (by rw [List.size_toArray,← hl'];exact e4) ?_ (setF_upd hf hH)) ?_
 ·rw [e2,e3]
  exact foldl_splice vs l off e4
 ·rintro _ _ ⟨rfl,rfl⟩
  exact h
theorem Al {t : TypeId} {sz : Nat} {ag : Bool} {z : List Value} (ho : ops[i]? = some o) (hop : o.op = .alloc t) (hw : wantE ops o E = some true) (hd : o.dst = some d) (hn : Nat.blt d n = true) [ht : TyI P t ag sz z]
  (h : ∀ r,At L f ro ds cs n ((d,.pointer (some ⟨r,0,none⟩)) :: E) (.own r (.cells (List.toArray z) t (0,0)) :: H) (.inRegion ops rest :: k)) : At L f ro ds cs n E H (.inRegion ops (i :: rest) :: k) := by
 obtain ⟨zv,by_,e1,e2⟩ := ht.h
 refine At.l ho hw hd hn (l_alloc hop e1) ?_
 rintro _ _ ⟨r,rfl,rfl⟩
 rw [cellsV_eq e2]
 exact h r
theorem An {t : TypeId} {x : Operand} {v : Value} {vs : List Value} (ho : ops[i]? = some o) (hop : o.op = .box t x) (hw : wantE ops o E = some true) (hd : o.dst = some d) (hn : Nat.blt d n = true) (hx : ev E x = some v) (hv : cellsV v = some vs)
  (h : ∀ r,At L f ro ds cs n ((d,.pointer (some ⟨r,0,none⟩)) :: E) (.own r (.cells (List.toArray vs) t (0,0)) :: H) (.inRegion ops rest :: k)) : At L f ro ds cs n E H (.inRegion ops (i :: rest) :: k) := by
 refine At.l ho hw hd hn (l_box hop hx (cellsV_eq hv)) ?_
 rintro _ _ ⟨r,rfl,rfl⟩
 exact h r
theorem Ao {az : Array Operand} {ats : Array TypeId} {x : Operand} {t e : TypeId} {sz by_ : Nat} {ag : Bool} {z : List Value} {a : Option Addr} {len cap : Nat} (ho : ops[i]? = some o) (hop : o.op = .call { callee := .builtin .len,args := az,argTypes := ats }) (hw : wantE ops o E = some true) (hd : o.dst = some d) (hn : Nat.blt d n = true)
  (has : az.toList = [x]) (hat : ats.toList = [t]) (hx : ev E x = some (.slice a len cap)) [ht : ElI P t e ag sz by_ z] (h : At L f ro ds cs n ((d,.int .i64 len) :: E) H (.inRegion ops rest :: k)) : At L f ro ds cs n E H (.inRegion ops (i :: rest) :: k) :=
 Ae ho hw hd hn (q_len hop has (by rw [← Array.getElem?_toList,hat];rfl) hx ht.parts.choose_spec.1) h
theorem Ar (ho : ops[i]? = some o) (hw : wantE ops o E = some false) (hd : o.dst = some d) (hn : Nat.blt d n = true) (h : At L f ro ds cs n ((d,undef) :: E) H (.inRegion ops rest :: k)) : At L f ro ds cs n E H (.inRegion ops (i :: rest) :: k) := At.u ho hw hd hn h
end
end Go.Gx
end
section
namespace Go.Gx
open Go Go.Conc
def Pure {P : Program} {main : Bool} (L : Lg P main) (g : FuncId) (args : Array Value) (H : Facts) (v : Value) : Prop := Spec L g args H fun u H' => u = v ∧ H' = H
def appO : List Value → List Value → Option (List Value)
 | [],l => some l
 | a :: l,l' =>
  match appO l l' with
  | some r => some (a :: r)
  | none => none
theorem appO_eq : ∀ {a b c : List Value},appO a b = some c → c = a ++ b
 | [],b,c,h => by cases h;rfl
 | x :: a,b,c,h => by
  unfold appO at h
  split at h
  ·rename_i r e
   cases h
   rw [appO_eq e];rfl
  ·cases h
def cat3 (a b c : List Value) : Option (List Value) :=
 match appO b c with
 | some r => appO a r
 | none => none
theorem cat3_eq {a b c d : List Value} (h : cat3 a b c = some d) : (⟨a⟩ : Array Value) ++ b.toArray ++ ⟨c⟩ = d.toArray := by
 unfold cat3 at h
 split at h
 ·rename_i r e
  rw [appO_eq h,appO_eq e]
  apply Array.ext'
  simp
 ·cases h
class HB (P : Program) (g : FuncId) : Prop where
 h : HasBody P g
section
variable {P : Program} {main : Bool} {L : Lg P main} {f : FuncId} {ro : Option Nat} {ds : Dz} {cs : List Frame} {n : Nat} {k : List Item} {ops : Array Oper} {Hq H : Facts} {R : List Reg} {Ls : List Nat} {Fs : List Flo} {E : Env} {o : Oper} {d : Nat}
theorem Ai {i : Nat} {rest : List Nat} {x : Operand} {az : Array Operand} {ats : Array TypeId} {g : FuncId} {first cap : List Value} {vs args : List Value} {v : Value} (ho : ops[i]? = some o) (hop : o.op = .call { callee := .value x,args := az,argTypes := ats }) (hw : wantE ops o E = some true) (hd : o.dst = some d) (hn : Nat.blt d n = true)
  (hx : ev E x = some (.func (.func g) ⟨first⟩ ⟨cap⟩)) (has : evs E az.toList = some vs) (hcat : cat3 first vs cap = some args) [hb : HB P g] (hc : Pure L g (List.toArray args) H v)
  (h : At L f ro ds cs n ((d,v) :: E) H (.inRegion ops rest :: k)) : At L f ro ds cs n E H (.inRegion ops (i :: rest) :: k) :=
 At.c ho hw hop hd hn hx has hb.h (by rw [cat3_eq hcat];exact hc) (by rintro _ _ ⟨rfl,rfl⟩;exact h)
theorem Bc {i : Nat} {rest : List Nat} {x : Operand} {az : Array Operand} {ats : Array TypeId} {g : FuncId} {first cap : List Value} {vs args : List Value} {b : Bool} (ho : ops[i]? = some o) (hop : o.op = .call { callee := .value x,args := az,argTypes := ats }) (hw : wantE ops o E = some true) (hd : o.dst = some d) (hn : Nat.blt d n = true)
  (hx : ev E x = some (.func (.func g) ⟨first⟩ ⟨cap⟩)) (has : evs E az.toList = some vs) (hcat : cat3 first vs cap = some args) [hb : HB P g] (hc : Pure L g (List.toArray args) H (.bool b))
  (h : ∀ b',b = b' → At L f ro ds cs n ((d,.bool b') :: E) H (.inRegion ops rest :: k)) : At L f ro ds cs n E H (.inRegion ops (i :: rest) :: k) :=
 Ai ho hop hw hd hn hx has hcat hc (h _ rfl)
theorem Ay {i : Nat} {rest : List Nat} {x : Operand} {az : Array Operand} {ats : Array TypeId} {g : FuncId} {first cap : List Value} {vs args : List Value} {Post : Value → Facts → Prop} (ho : ops[i]? = some o) (hop : o.op = .call { callee := .value x,args := az,argTypes := ats }) (hw : wantE ops o E = some true) (hd : o.dst = some d) (hn : Nat.blt d n = true)
  (hx : ev E x = some (.func (.func g) ⟨first⟩ ⟨cap⟩)) (has : evs E az.toList = some vs) (hcat : cat3 first vs cap = some args) [hb : HB P g] (hc : Spec L g (List.toArray args) H Post)
  (h : ∀ v H',Post v H' → At L f ro ds cs n ((d,v) :: E) H' (.inRegion ops rest :: k)) : At L f ro ds cs n E H (.inRegion ops (i :: rest) :: k) :=
 At.c ho hw hop hd hn hx has hb.h (by rw [cat3_eq hcat];exact hc) h
theorem Ac (i : Nat) {v : Value} {p : Prop} (ho : ops[i]? = some o) (hdst : dstOk o.dst n = true) (hw : wantE ops o E = some true) (hsel : noSel o = true) (hd : o.dst = some d) (hq : qv E o.op = some (v,p)) (hc : checkReg R Ls Fs ops i o = true) (hp : p)
  (h : Pool L f ro ds cs n ops k Hq (⟨i,o,E,v⟩ :: R) Ls Fs ((d,v) :: E) H) : Pool L f ro ds cs n ops k Hq R Ls Fs E H :=
 pool_reg (reg_q ho hdst hw hsel (qv_sound hq hp)) hc (by rw [hd];exact h)
theorem Bb (i : Nat) {b : Bool} (ho : ops[i]? = some o) (hdst : dstOk o.dst n = true) (hw : wantE ops o E = some true) (hsel : noSel o = true) (hd : o.dst = some d) (hq : qc E o.op = some b) (hc : checkReg R Ls Fs ops i o = true)
  (h : ∀ b',b = b' → Pool L f ro ds cs n ops k Hq (⟨i,o,E,.bool b'⟩ :: R) Ls Fs ((d,.bool b') :: E) H) : Pool L f ro ds cs n ops k Hq R Ls Fs E H :=
 pool_reg (reg_q ho hdst hw hsel (qc_sound hq)) hc (by rw [hd];exact h _ rfl)
theorem Ak (i : Nat) {v : Value} (ho : ops[i]? = some o) (hdst : dstOk o.dst n = true) (hw : wantE ops o E = some true) (hsel : noSel o = true) (hd : o.dst = some d) (hq : QOp P o E Hq v) (hc : checkReg R Ls Fs ops i o = true)
  (h : Pool L f ro ds cs n ops k Hq (⟨i,o,E,v⟩ :: R) Ls Fs ((d,v) :: E) H) : Pool L f ro ds cs n ops k Hq R Ls Fs E H :=
 pool_reg (reg_q ho hdst hw hsel hq) hc (by rw [hd];exact h)
theorem Av (i : Nat) (ho : ops[i]? = some o) (hdst : dstOk o.dst n = true) (hw : wantE ops o E = some false) (hsel : noSel o = true) (hd : o.dst = some d) (hc : checkReg R Ls Fs ops i o = true)
  (h : Pool L f ro ds cs n ops k Hq (⟨i,o,E,undef⟩ :: R) Ls Fs ((d,undef) :: E) H) : Pool L f ro ds cs n ops k Hq R Ls Fs E H :=
 pool_reg (reg_u ho hdst hw hsel) hc (by rw [hd];exact h)
theorem Am (off' i : Nat) {t : TypeId} {x : Operand} {j b off fo sz : Nat} {ag : Bool} (ho : ops[i]? = some o) (hdst : dstOk o.dst n = true) (hw : wantE ops o E = some true) (hsel : noSel o = true) (hd : o.dst = some d) (hop : o.op = .fieldAddr t x j) (hx : ev E x = some (.pointer (some ⟨b,off,none⟩)))
  [ht : FdI P t j fo ag sz] (hoff : Nat.beq (off + fo) off' = true) (hc : checkReg R Ls Fs ops i o = true)
  (h : Pool L f ro ds cs n ops k Hq (⟨i,o,E,.pointer (some ⟨b,off',none⟩)⟩ :: R) Ls Fs ((d,.pointer (some ⟨b,off',none⟩)) :: E) H) : Pool L f ro ds cs n ops k Hq R Ls Fs E H := by
 obtain ⟨fs,fd,z,by_,h1,h2,h3,h4⟩ := ht.parts
 obtain ⟨dd,ii,_,h7,_,h8,_,_⟩ := tyF_parts h4
 have e := Nat.eq_of_beq_eq_true hoff
 subst e h3
 exact Ak i ho hdst hw hsel hd (q_fieldAddr hop hx h1 h2 h7 (by rw [h8];exact ht.nz)) hc h
theorem Ax (i : Nat) {t : TypeId} {x : Operand} {b off sz : Nat} {ag : Bool} {z vs : List Value} {v : Value} (ho : ops[i]? = some o) (hdst : dstOk o.dst n = true) (hw : wantE ops o E = some true) (hsel : noSel o = true) (hd : o.dst = some d) (hop : o.op = .load t x) (hx : ev E x = some (.pointer (some ⟨b,off,none⟩)))
  [ht : TyI P t ag sz z] (hcl : Cells Hq b off vs) (hl : vs.length = sz) (hv : mkV ag vs = some v) (hc : checkReg R Ls Fs ops i o = true)
  (h : Pool L f ro ds cs n ops k Hq (⟨i,o,E,v⟩ :: R) Ls Fs ((d,v) :: E) H) : Pool L f ro ds cs n ops k Hq R Ls Fs E H := by
 obtain ⟨zv,by_,h1,_⟩ := ht.h
 cases ag with
 | true => cases hv;exact Ak i ho hdst hw hsel hd (q_loadS hop hx h1 hcl hl) hc h
 | false =>
  match vs,hv with
  | [v'],hv => cases hv;exact Ak i ho hdst hw hsel hd (q_load hop hx h1 hcl) hc h
theorem Aj (j i : Nat) {t : TypeId} {x : Operand} {b off sz : Nat} {ag : Bool} {z l vs : List Value} {v : Value} {T : TypeId} {fr : Nat × Nat} (ho : ops[i]? = some o) (hdst : dstOk o.dst n = true) (hw : wantE ops o E = some true) (hsel : noSel o = true) (hd : o.dst = some d) (hop : o.op = .load t x) (hx : ev E x = some (.pointer (some ⟨b,off,none⟩)))
  [ht : TyI P t ag sz z] (hf : nthF Hq j = some (.own b (.cells (List.toArray l) T fr))) (hg : getC l off sz = some vs) (hv : mkV ag vs = some v) (hc : checkReg R Ls Fs ops i o = true)
  (h : Pool L f ro ds cs n ops k Hq (⟨i,o,E,v⟩ :: R) Ls Fs ((d,v) :: E) H) : Pool L f ro ds cs n ops k Hq R Ls Fs E H :=
 Ax i ho hdst hw hsel hd hop hx (own_cells hf hg).1 (own_cells hf hg).2 hv hc h
theorem Pool.ln (i : Nat) {az : Array Operand} {ats : Array TypeId} {x : Operand} {t e : TypeId} {sz by_ : Nat} {ag : Bool} {z : List Value} {a : Option Addr} {len cap : Nat} (ho : ops[i]? = some o) (hdst : dstOk o.dst n = true) (hw : wantE ops o E = some true) (hsel : noSel o = true) (hd : o.dst = some d) (hop : o.op = .call { callee := .builtin .len,args := az,argTypes := ats })
  (has : az.toList = [x]) (hat : ats.toList = [t]) (hx : ev E x = some (.slice a len cap)) [ht : ElI P t e ag sz by_ z] (hc : checkReg R Ls Fs ops i o = true)
  (h : Pool L f ro ds cs n ops k Hq (⟨i,o,E,.int .i64 len⟩ :: R) Ls Fs ((d,.int .i64 len) :: E) H) : Pool L f ro ds cs n ops k Hq R Ls Fs E H :=
 Ak i ho hdst hw hsel hd (q_len hop has (by rw [← Array.getElem?_toList,hat];rfl) hx ht.parts.choose_spec.1) hc h
theorem blt_lt {a b : Nat} (h : Nat.blt a b = true) : a < b := by simpa [Nat.blt_eq] using h
theorem Ap (i : Nat) {x : Operand} {az : Array Operand} {ats : Array TypeId} {g : FuncId} {first cap : List Value} {vs args : List Value} {v : Value} (ho : ops[i]? = some o) (hdst : dstOk o.dst n = true) (hw : wantE ops o E = some true) (hd : o.dst = some d) (hop : o.op = .call { callee := .value x,args := az,argTypes := ats })
  (hx : ev E x = some (.func (.func g) ⟨first⟩ ⟨cap⟩)) (has : evs E az.toList = some vs) (hcat : cat3 first vs cap = some args) [hb : HB P g] (hc : checkReg R Ls Fs ops i o = true) (hsp : ∀ H,Sub Hq H → Pure L g (List.toArray args) H v)
  (h : Pool L f ro ds cs n ops k Hq (⟨i,o,E,v⟩ :: R) Ls Fs ((d,v) :: E) H) : Pool L f ro ds cs n ops k Hq R Ls Fs E H :=
 pool_reg (reg_c ho hw hop hdst hx has hb.h fun H hs => by rw [cat3_eq hcat];exact hsp H hs) hc (by rw [hd];exact h)
theorem Pool.cqb (i : Nat) {x : Operand} {az : Array Operand} {ats : Array TypeId} {g : FuncId} {first cap : List Value} {vs args : List Value} {b : Bool} (ho : ops[i]? = some o) (hdst : dstOk o.dst n = true) (hw : wantE ops o E = some true) (hd : o.dst = some d) (hop : o.op = .call { callee := .value x,args := az,argTypes := ats })
  (hx : ev E x = some (.func (.func g) ⟨first⟩ ⟨cap⟩)) (has : evs E az.toList = some vs) (hcat : cat3 first vs cap = some args) [hb : HB P g] (hc : checkReg R Ls Fs ops i o = true) (hsp : ∀ H,Sub Hq H → Pure L g (List.toArray args) H (.bool b))
  (h : ∀ b',b = b' → Pool L f ro ds cs n ops k Hq (⟨i,o,E,.bool b'⟩ :: R) Ls Fs ((d,.bool b') :: E) H) : Pool L f ro ds cs n ops k Hq R Ls Fs E H :=
 Ap i ho hdst hw hd hop hx has hcat hc hsp (h _ rfl)
theorem Pool.al (i : Nat) {t : TypeId} {sz : Nat} {ag : Bool} {z : List Value} (ho : ops[i]? = some o) (hdst : dstOk o.dst n = true) (hw : wantE ops o E = some true) (hd : o.dst = some d) (hop : o.op = .alloc t) (hdn : downOk ops = true) (honly : onlyIn R Ls Fs ops [i] = true)
  (hlt : Nat.blt i ops.size = true) (hr : regd R Ls i = false) (hfl : flod Fs i = false) (hc : checkReg R Ls Fs ops i o = true) [ht : TyI P t ag sz z] (hq : Sub Hq H)
  (h : ∀ r,Pool L f ro ds cs n ops k Hq R (i :: Ls) Fs ((d,.pointer (some ⟨r,0,none⟩)) :: E) (.own r (.cells (List.toArray z) t (0,0)) :: H)) : Pool L f ro ds cs n ops k Hq R Ls Fs E H := by
 obtain ⟨zv,by_,e1,e2⟩ := ht.h
 refine pool_any [i] hdn honly (blt_lt hlt) hr hfl fun l hl => ?_
 obtain rfl : l = i := by simpa using hl
 refine loud_l ho hw hdst hc (by unfold noSel;rw [hop]) (l_alloc hop e1) ?_
 rintro _ _ ⟨r,rfl,rfl⟩
 rw [cellsV_eq e2,hd]
 exact ⟨hq.drop _,h r⟩
theorem Pool.bx (i : Nat) {t : TypeId} {x : Operand} {v : Value} {vs : List Value} (ho : ops[i]? = some o) (hdst : dstOk o.dst n = true) (hw : wantE ops o E = some true) (hd : o.dst = some d) (hop : o.op = .box t x) (hdn : downOk ops = true) (honly : onlyIn R Ls Fs ops [i] = true)
  (hlt : Nat.blt i ops.size = true) (hr : regd R Ls i = false) (hfl : flod Fs i = false) (hc : checkReg R Ls Fs ops i o = true) (hx : ev E x = some v) (hv : cellsV v = some vs) (hq : Sub Hq H)
  (h : ∀ r,Pool L f ro ds cs n ops k Hq R (i :: Ls) Fs ((d,.pointer (some ⟨r,0,none⟩)) :: E) (.own r (.cells (List.toArray vs) t (0,0)) :: H)) : Pool L f ro ds cs n ops k Hq R Ls Fs E H := by
 refine pool_any [i] hdn honly (blt_lt hlt) hr hfl fun l hl => ?_
 obtain rfl : l = i := by simpa using hl
 refine loud_l ho hw hdst hc (by unfold noSel;rw [hop]) (l_box hop hx (cellsV_eq hv)) ?_
 rintro _ _ ⟨r,rfl,rfl⟩
 rw [hd]
 exact ⟨hq.drop _,h r⟩
theorem Ba (j i : Nat) {t : TypeId} {x y : Operand} {b off sz : Nat} {ag : Bool} {z l l' vs : List Value} {v : Value} {T : TypeId} {H' : Facts} (ho : ops[i]? = some o) (hw : wantE ops o E = some true) (hd : o.dst = none) (hop : o.op = .store t x y) (hdn : downOk ops = true) (honly : onlyIn R Ls Fs ops [i] = true)
  (hlt : Nat.blt i ops.size = true) (hr : regd R Ls i = false) (hfl : flod Fs i = false) (hc : checkReg R Ls Fs ops i o = true) (hx : ev E x = some (.pointer (some ⟨b,off,none⟩))) (hy : ev E y = some v)
  [ht : TyI P t ag sz z] (hv : cellsV v = some vs) (hl : Nat.beq vs.length sz = true) (h1 : vs.all (·.oneCell') = true) (hf : nthF H j = some (.own b (.cells (List.toArray l) T (0,0)))) (hs : setC l off vs = some l') (hH : setF H j (.own b (.cells (List.toArray l') T (0,0))) = some H') (hq : Sub Hq H')
  (h : Pool L f ro ds cs n ops k Hq R (i :: Ls) Fs E H') : Pool L f ro ds cs n ops k Hq R Ls Fs E H := by
 obtain ⟨zv,by_,e1,_⟩ := ht.h
 have e2 := cellsV_eq hv
 have hl' := Nat.eq_of_beq_eq_true hl
 obtain ⟨e3,e4⟩ := setC_eq hs
 refine pool_any [i] hdn honly (blt_lt hlt) hr hfl fun l'' hl'' => ?_
 obtain rfl : l'' = i := by simpa using hl''
 refine loud_l ho hw (by rw [hd];rfl) hc (by unfold noSel;rw [hop]) (l_store hop hx hy e1 (T := T) (c := l.toArray) (c' := l'.toArray) (by rw [e2];simpa using hl') (by rw [e2];simpa using h1) (by rw [List.size_toArray,← hl'];exact e4) (by rw [e2,e3];exact foldl_splice vs l off e4) (setF_upd hf hH)) ?_
 rintro _ _ ⟨rfl,rfl⟩
 rw [hd]
 exact ⟨hq,h⟩
def dropOne : Nat → Facts → Option Facts
 | 0,H => match H with
  | _ :: H => some H
  | [] => none
 | j + 1,H => match H with
  | f :: H => match dropOne j H with
   | some H' => some (f :: H')
   | none => none
  | [] => none
def dropF : List Nat → Facts → Option Facts
 | [],H => some H
 | j :: js,H => match dropOne j H with
  | some H' => dropF js H'
  | none => none
theorem dropOne_sub : ∀ {j : Nat} {H H' : Facts},dropOne j H = some H' → Sub H' H
 | 0,f :: H,H',h => by cases h;exact Sub.tail _ _
 | j + 1,f :: H,H',h => by
  unfold dropOne at h
  simp only at h
  split at h
  ·rename_i H'' e
   cases h
   exact (dropOne_sub e).cons f
  ·cases h
theorem dropF_sub : ∀ {js : List Nat} {H H' : Facts},dropF js H = some H' → Sub H' H
 | [],H,H',h => by cases h;exact Sub.refl _
 | j :: js,H,H',h => by
  unfold dropF at h
  split at h
  ·rename_i H'' e
   exact (dropF_sub h).trans (dropOne_sub e)
  ·cases h
theorem Aw (hmix : P.follows .mixedOrders = true) (js : List Nat) {id : Nat} (hH : dropF js H = some Hq) (h : Pool L f ro ds cs n ops k Hq [] [] [] E H) : At L f ro ds cs n E H (.code (.region id ops true) :: k) :=
 Bd hmix Hq (dropF_sub hH) h
theorem ResVs.aggJ (j : Nat) {a : Tmp} {ty : TypeId} {b off sz : Nat} {z us l : List Value} {T : TypeId} {fr : Nat × Nat} {rs : List ResultVar} {vs : List Value} (h : look E a = some (.pointer (some ⟨b,off,none⟩))) [ht : TyI P ty true sz z] (hf : nthF H j = some (.own b (.cells (List.toArray l) T fr))) (hg : getC l off sz = some us) (hs : ResVs P E H rs vs) : ResVs P E H (.cell a ty :: rs) (.agg us.toArray :: vs) := by
 obtain ⟨zv,by_,h1,_⟩ := ht.h
 exact .cellS h h1 (own_cells hf hg).1 (own_cells hf hg).2 hs
theorem ResVs.oneJ (j : Nat) {a : Tmp} {ty : TypeId} {b off sz : Nat} {z l : List Value} {u : Value} {T : TypeId} {fr : Nat × Nat} {rs : List ResultVar} {vs : List Value} (h : look E a = some (.pointer (some ⟨b,off,none⟩))) [ht : TyI P ty false sz z] (hf : nthF H j = some (.own b (.cells (List.toArray l) T fr))) (hg : getC l off 1 = some [u]) (hs : ResVs P E H rs vs) : ResVs P E H (.cell a ty :: rs) (u :: vs) := by
 obtain ⟨zv,by_,h1,_⟩ := ht.h
 exact .cell h h1 (own_cells hf hg).1 hs
theorem pool_done (hall : (List.range ops.size).all (fun i => regd R Ls i) = true) (hd : downOk ops = true) (h : At L f ro ds cs n E H (.inRegion ops [] :: k)) : Pool L f ro ds cs n ops k Hq R Ls [] E H := pool_end hall hd h
theorem Sub.left (F H : Facts) : Sub H (F ++ H) := Sub.append_left F H
theorem cells_more {H H' : Facts} {b off : Nat} {vs : List Value} (h : Cells H b off vs) (hs : Sub H H') : Cells H' b off vs := by
 intro j v hj
 obtain ⟨h1,f,hf,h2,h3⟩ := h j v hj
 exact ⟨h1,f,hs.mem hf,h2,h3⟩
end
end Go.Gx
end
section
namespace Go.Gx
open Go Go.Conc
section
variable {P : Program} {main : Bool}
def CallN (L : Lg P main) (c : Frame) (cs : List Frame) : Next → Facts → Prop
 | .enter g az,H => L.J (G (Frame.enter P g az .normal) (c :: cs)) H
 | .round l g t x y,H => L.J (G (Frame.round l g t x y .normal) (c :: cs)) H
 | _,_ => False
def Calls (L : Lg P main) (fv : Value) (args : Array Value) (c : Frame) (cs : List Frame) (H : Facts) : Prop := K P (do let d ← Deferred.ofValue fv args;invoke d.target d.args) (CallN L c cs) H
def SpecV (L : Lg P main) (fv : Value) (args : Array Value) (H : Facts) (Post : Value → Facts → Prop) : Prop :=
 ∀ (c : Frame) (cs : List Frame),(∀ v H',Post v H' → L.J (G (c.finish v) cs) H') → Calls L fv args c cs H
variable {L : Lg P main}
theorem SpecV.of {g : FuncId} {first cap args : Array Value} {H : Facts} {Post : Value → Facts → Prop} (hb : HasBody P g) (h : Spec L g (first ++ args ++ cap) H Post) : SpecV L (.func (.func g) first cap) args H Post := by
 intro c cs hc
 unfold Calls
 simp only [Deferred.ofValue]
 rw [K.bind]
 show K P (invoke _ _) _ H
 simp only [invoke]
 exact K.callFunc hb (h c cs hc)
theorem SpecV.mono {fv : Value} {args : Array Value} {H : Facts} {Post Post' : Value → Facts → Prop} (h : SpecV L fv args H Post) (hp : ∀ v H',Post v H' → Post' v H') : SpecV L fv args H Post' :=
 fun c cs hc => h c cs fun v H' hv => hc v H' (hp v H' hv)
variable {f : FuncId} {ro : Option Nat} {ds : Dz} {cs : List Frame} {n : Nat} {E : Env} {H : Facts} {k : List Item}
theorem At.cv {ops : Array Oper} {i : Nat} {rest : List Nat} {o : Oper} {x : Operand} {az : Array Operand} {ats : Array TypeId} {fv : Value} {vs : List Value} {Post : Value → Facts → Prop}
  (ho : ops[i]? = some o) (hop : o.op = .call { callee := .value x,args := az,argTypes := ats }) (hw : wantE ops o E = some true) (hd : dstOk o.dst n = true)
  (hx : ev E x = some fv) (has : evs E az.toList = some vs) (hc : SpecV L fv vs.toArray H Post)
  (h : ∀ v H',Post v H' → At L f ro ds cs n (putE o.dst v E) H' (.inRegion ops rest :: k)) : At L f ro ds cs n E H (.inRegion ops (i :: rest) :: k) := by
 intro tmps hs hE
 refine L.closed _ _ rfl fun W hW => ?_
 have hA : Agree E (Fr f ro ds tmps (.inRegion ops (i :: rest) :: k)).eval := fun x v hx => ev_fr hE _ _ _ _ hx
 have hK : K P (execOp (Fr f ro ds tmps (.inRegion ops (i :: rest) :: k)).eval o) (CallN L (Fr f ro ds tmps (.inRegion ops (i :: rest) :: k)) cs) H := by
  unfold execOp
  rw [hop]
  simp only
  have e : az.map (Fr f ro ds tmps (.inRegion ops (i :: rest) :: k)).eval = vs.toArray := by
   have := evs_map hA has
   apply Array.ext'
   simpa using this
  simp only [resolve,hA x _ hx,e]
  refine hc _ _ fun v H' hv => ?_
  rw [fr_finish,ho]
  exact at_put (dstOk_lt hd) (h v H' hv) tmps hs hE
 obtain ⟨nx,W',es,H',hr,ht,hq⟩ := K.sound hK (Tr.refl hW)
 rw [stepG_opF ho (wantE_ok hw hE) (by rw [hop];intro c;simp)]
 have ht' : Tr H W (seen P f es) W' H' := ⟨ht.holds,ht.os,ht.tape,ht.output,ht.size,ht.keep,ht.mine,ht.seen,fun e he => ht.evs e (mem_seen he)⟩
 cases nx with
 | enter g az => exact ⟨_,W',seen P f es,H',apply_enter fr_kind (by intro d r sv k h;simp [Fr] at h) hr,ht',hq⟩
 | round l g t x y => exact ⟨_,W',seen P f es,H',apply_round fr_kind hr,ht',hq⟩
 | _ => exact hq.elim
theorem two_steps {H : Facts} {W W₁ W₂ : World} {H₁ H₂ : Facts} {es es' : Array Event} (h : Tr H W es W₁ H₁) (h' : Tr H₁ W₁ es' W₂ H₂) : Tr H W (es ++ es') W₂ H₂ :=
 h.step h' (es ++ es') fun e he => by simpa using he
def mark (r : Nat) : Deferred := { target := .collected r,args := #[] }
theorem After_go {es : Array Event} {g' : Goroutine} {w' : World} {es' : Array Event} : GStep.after es (.go g' w' es') = .go g' w' (es ++ es') := rfl
theorem At.rfunc {x : Operand} {params : Array Tmp} {assign body : Code} {fv : Value} {Post : Value → Facts → Prop} (hx : ev E x = some fv)
  (h : ∀ (l r : Nat) (tmps : Array Value),tmps.size = n → E.ok tmps →
   Calls L fv #[.func (.yield l) #[] #[]] (Fr f none ⟨ds.late,mark r :: ds.ds⟩ tmps (.inRangeFunc l :: k)) cs
    (.own l (.loop { state := .ready,pending := none,fn := f,tmps := tmps,params := params,assign := assign,body := body,defers := r }) :: .own r (.deferred (some [])) :: H)) :
  At L f none ds cs n E H (.code (.rangeFunc x params assign body) :: k) := by
 intro tmps hs hE
 refine L.closed _ _ rfl fun W hW => ?_
 have hK : K P (Instr.enterLoop f tmps params assign body none) (fun p H' => ∃ r,p.2 = [mark r] ∧ H' = .own p.1 (.loop { state := .ready,pending := none,fn := f,tmps := tmps,params := params,assign := assign,body := body,defers := r }) :: .own r (.deferred (some [])) :: H) H := by
  unfold Instr.enterLoop
  rw [K.bind]
  simp only
  show K P (newObj _) _ H
  simp only [newObj,K]
  intro r
  rw [K.bind,K.pure,K.bind]
  simp only [K]
  intro l
  exact ⟨r,rfl,rfl⟩
 obtain ⟨⟨l,mk⟩,W₁,es₁,H₁,hr,ht,r,hmk,rfl⟩ := K.sound hK (Tr.refl hW)
 simp only at hmk
 subst hmk
 have hc := h l r tmps hs hE
 have hc' : K P (do let d ← Deferred.ofValue fv #[.func (.yield l) #[] #[]];invoke d.target d.args) (CallN L (Fr f none ⟨ds.late,mark r :: ds.ds⟩ tmps (.inRangeFunc l :: k)) cs) _ := hc
 obtain ⟨nx,W₂,es₂,H₂,hr₂,ht₂,hq⟩ := K.sound hc' (Tr.refl ht.holds)
 have hfx : (Fr f none ⟨ds.late,mark r :: ds.ds⟩ tmps (.inRangeFunc l :: k)).eval x = fv := ev_fr hE _ _ _ _ hx
 have hstep : stepG P main (G (Fr f none ds tmps (.code (.rangeFunc x params assign body) :: k)) cs) W =
   GStep.after (seen P f es₁) (stepG.apply P true (Fr f none ⟨ds.late,mark r :: ds.ds⟩ tmps (.inRangeFunc l :: k)) cs none (do let d ← Deferred.ofValue fv #[.func (.yield l) #[] #[]];invoke d.target d.args) W₁) := by
  simp only [G,stepG,stepG.exec]
  have e1 : (Fr f none ds tmps (.code (.rangeFunc x params assign body) :: k)).todo = .code (.rangeFunc x params assign body) :: k := rfl
  have e2 : (Fr f none ds tmps (.code (.rangeFunc x params assign body) :: k)).tmps = tmps := rfl
  simp only [Fr] at hr hfx ⊢
  simp only [hr]
  simp only [List.cons_append,List.nil_append,resolve,hfx,List.map_toArray,List.map_cons,List.map_nil]
  rfl
 have ht' : Tr H W (seen P f es₁ ++ seen P f es₂) W₂ H₂ := two_steps ⟨ht.holds,ht.os,ht.tape,ht.output,ht.size,ht.keep,ht.mine,ht.seen,fun e he => ht.evs e (mem_seen he)⟩ ⟨ht₂.holds,ht₂.os,ht₂.tape,ht₂.output,ht₂.size,ht₂.keep,ht₂.mine,ht₂.seen,fun e he => ht₂.evs e (mem_seen he)⟩
 cases nx with
 | enter g az => exact ⟨_,W₂,_,H₂,by rw [hstep,apply_enter fr_kind (by intro d r sv k h;simp [Fr] at h) hr₂,After_go];rfl,ht',hq⟩
 | round l' g t x y => exact ⟨_,W₂,_,H₂,by rw [hstep,apply_round fr_kind hr₂,After_go];rfl,ht',hq⟩
 | _ => exact hq.elim
theorem fr_finish_loop {l : Nat} {tmps : Array Value} {v : Value} : (Fr f ro ds tmps (.inRangeFunc l :: k)).finish v = Fr f ro ds tmps (.endRangeFunc l :: k) := rfl
theorem k_getLoop {l : Nat} {rc : Loop} {Q : Loop → Facts → Prop} (hm : .own l (.loop rc) ∈ H) (hq : Q rc H) : K P (Instr.getLoop l) Q H := by
 unfold Instr.getLoop
 rw [K.bind]
 exact ⟨_,hm,rfl,hq⟩
theorem At.endLoop (j : Nat) {l : Nat} {rc : Loop} {H' : Facts} (hf : nthF H j = some (.own l (.loop rc))) (hs : rc.state ≠ .busy) (hH : setF H j (.own l (.loop { rc with state := .exhausted })) = some H')
  (h : At L f ro ds cs n E H' ((rc.pending.map Item.code).toList ++ k)) : At L f ro ds cs n E H (.endRangeFunc l :: k) := by
 intro tmps hn hE
 refine L.closed _ _ rfl fun W hW => ?_
 have hK : K P (Instr.endLoop l) (fun p H'' => p = rc.pending ∧ H'' = H') H := by
  unfold Instr.endLoop
  rw [K.bind]
  refine k_getLoop (nthF_mem hf) ?_
  have : (rc.state == LoopState.busy) = false := by
   cases hst : rc.state <;> first | rfl | exact absurd hst hs
  simp only [this,Bool.false_eq_true,if_false]
  rw [K.bind]
  show K P (setObj l _) _ H
  exact ⟨_,H',rfl,rfl,setF_upd hf hH,rfl,rfl⟩
 obtain ⟨p,W',es,H'',hr,ht,rfl,rfl⟩ := K.sound hK (Tr.refl hW)
 refine ⟨G (Fr f ro ds tmps ((rc.pending.map Item.code).toList ++ k)) cs,W',seen P f es,H'',?_,⟨ht.holds,ht.os,ht.tape,ht.output,ht.size,ht.keep,ht.mine,ht.seen,fun e he => ht.evs e (mem_seen he)⟩,h tmps hn hE⟩
 simp only [G,stepG,stepG.exec,Fr,hr]
 simp [GStep.after]
theorem At.beginRound (j : Nat) {l : Nat} {rc : Loop} {H' : Facts} (hf : nthF H j = some (.own l (.loop rc))) (hs : rc.state = .ready) (hH : setF H j (.own l (.loop { rc with state := .busy })) = some H')
  (h : At L f (some l) ds cs n E H' k) : At L f (some l) ds cs n E H (.beginRound :: k) := by
 intro tmps hn hE
 refine L.closed _ _ rfl fun W hW => ?_
 have hK : K P (Instr.beginRound l) (fun _ H'' => H'' = H') H := by
  unfold Instr.beginRound
  rw [K.bind]
  refine k_getLoop (nthF_mem hf) ?_
  rw [K.bind]
  refine ⟨_,H',rfl,rfl,setF_upd hf hH,?_⟩
  simp only [hs]
  rfl
 have hK2 : K P (do (some l).elim (stuck "beginRound: no round") Instr.beginRound;pure .skip : Sem Next) (fun nx H'' => nx = .skip ∧ H'' = H') H := by
  rw [K.bind]
  exact K.mono (fun _ H'' e => ⟨rfl,e⟩) hK
 obtain ⟨nx,W',es,H'',hr,ht,rfl,rfl⟩ := K.sound hK2 (Tr.refl hW)
 refine ⟨G (Fr f (some l) ds tmps k) cs,W',seen P f es,H'',?_,⟨ht.holds,ht.os,ht.tape,ht.output,ht.size,ht.keep,ht.mine,ht.seen,fun e he => ht.evs e (mem_seen he)⟩,h tmps hn hE⟩
 have : stepG P main (G (Fr f (some l) ds tmps (.beginRound :: k)) cs) W = stepG.apply P true (Fr f (some l) ds tmps (.beginRound :: k)) cs none (do (some l).elim (stuck "beginRound: no round") Instr.beginRound;pure .skip : Sem Next) W := by
  simp [G,stepG,stepG.exec,Fr]
 rw [this,apply_skip fr_kind hr]
 rfl
theorem At.endRound (j : Nat) {l : Nat} {rc : Loop} {H' : Facts} {c : Frame} {todo : List Item} {jump : Option Code}
  (hj : (todo = [] ∧ jump = none) ∨ (∃ k',todo = .code .ret :: k' ∧ jump = some .ret) ∨ (∃ id k',todo = .code (.exit id) :: k' ∧ exitTo id k' = none ∧ jump = some (.exit id)))
  (hl : ds.late = false)
  (hf : nthF H j = some (.own l (.loop rc))) (hH : setF H j (.own l (.loop { rc with state := if jump.isNone then .ready else .done,pending := jump })) = some H')
  (h : L.J (G (c.finish (.bool jump.isNone)) cs) H') : At L f (some l) ds (c :: cs) n E H todo := by
 intro tmps hn hE
 refine L.closed _ _ rfl fun W hW => ?_
 have hK : K P (Instr.endRound l jump) (fun v H'' => v = .bool jump.isNone ∧ H'' = H') H := by
  unfold Instr.endRound
  rw [K.bind]
  refine k_getLoop (nthF_mem hf) ?_
  rw [K.bind]
  exact ⟨_,H',rfl,rfl,setF_upd hf hH,rfl,rfl⟩
 obtain ⟨v,W',es,H'',hr,ht,rfl,rfl⟩ := K.sound hK (Tr.refl hW)
 refine ⟨G (c.finish (.bool jump.isNone)) cs,W',seen P f es,H'',?_,⟨ht.holds,ht.os,ht.tape,ht.output,ht.size,ht.keep,ht.mine,ht.seen,fun e he => ht.evs e (mem_seen he)⟩,h⟩
 rcases hj with ⟨rfl,rfl⟩ | ⟨k',rfl,rfl⟩ | ⟨id,k',rfl,hx,rfl⟩
 ·simp only [G,stepG,stepG.exec,Fr,hr,hl]
  simp [GStep.after,doReturn]
 ·simp only [G,stepG,stepG.exec,Fr,hr,hl]
  simp [GStep.after,doReturn]
 ·simp only [G,stepG,stepG.exec,Fr,hx,Option.elim,hr,hl]
  simp [GStep.after,doReturn]
theorem calls_yield {l : Nat} {args : Array Value} {rc : Loop} {c : Frame} (hm : .own l (.loop rc) ∈ H) (hs : args.size = rc.params.size)
  (h : L.J (G (Frame.round l rc.fn ((rc.params.zip args).foldl (fun tmps (t,a) => tmps.setIfInBounds t a) rc.tmps) rc.assign rc.body .normal) (c :: cs)) H) : Calls L (.func (.yield l) #[] #[]) args c cs H := by
 unfold Calls
 simp only [Deferred.ofValue]
 rw [K.bind]
 show K P (invoke _ _) _ H
 simp only [invoke,Array.empty_append]
 unfold Instr.yield
 rw [K.bind]
 refine k_getLoop hm ?_
 rw [if_neg (by simpa using hs)]
 exact h
theorem round1 {l t : Nat} {tmps : Array Value} {rc : Loop} {v : Value} {c : Frame} (hp : rc.params = #[t]) (hn : tmps.size = n) (ht : Nat.blt t n = true) (hrt : rc.tmps = tmps) (hE : E.ok tmps)
  (h : At L rc.fn (some l) d0 (c :: cs) n ((t,v) :: E) H [.code rc.assign,.beginRound,.code rc.body]) :
  L.J (G (Frame.round l rc.fn ((rc.params.zip #[v]).foldl (fun tmps (t,a) => tmps.setIfInBounds t a) rc.tmps) rc.assign rc.body .normal) (c :: cs)) H := by
 have e : (rc.params.zip #[v]).foldl (fun tmps (t,a) => tmps.setIfInBounds t a) rc.tmps = tmps.setIfInBounds t v := by
  rw [hp,hrt]
  simp
 rw [e]
 exact h _ (by rw [Array.size_setIfInBounds];exact hn) (Env.ok_put hE (by rw [hn];exact blt_lt ht) v)
theorem At.retC (j : Nat) {c : Frame} {fn : Func} {todo : List Item} {r : Nat} {H' : Facts} {rs : List ResultVar} {vs : List Value} (hf : P.funcs[f]? = some fn) (hs : todo = [] ∨ ∃ k',todo = .code .ret :: k')
  (hm : nthF H j = some (.own r (.deferred (some [])))) (hH : setF H j (.own r (.deferred none)) = some H')
  (hr : fn.results.toList = rs) (hv : ResVs P E H' rs vs) (h : L.J (G (c.finish (resVal vs)) cs) H') : At L f none ⟨false,[mark r]⟩ (c :: cs) n E H todo := by
 intro tmps hn hE
 refine L.same (g' := G (retMode (Fr f none ⟨false,[mark r]⟩ tmps todo)) (c :: cs)) rfl (fun W => ?_) ?_
 ·rcases hs with rfl | ⟨k',rfl⟩ <;> simp [G,stepG,stepG.exec,Fr,retMode]
 refine L.closed _ _ rfl fun W hW => ?_
 have hK : K P (Instr.takeDeferred r) (fun ds H'' => ds = [] ∧ H'' = H') H := by
  unfold Instr.takeDeferred
  rw [K.bind]
  refine ⟨_,nthF_mem hm,rfl,?_⟩
  show K P (setObj r (Obj.deferred none) >>= fun _ => Pure.pure []) _ H
  rw [K.bind]
  exact ⟨_,H',rfl,rfl,setF_upd hm hH,rfl,rfl⟩
 obtain ⟨p,W',es,H'',hrr,ht,rfl,rfl⟩ := K.sound hK (Tr.refl hW)
 refine ⟨G (retMode (Fr f none d0 tmps todo)) (c :: cs),W',seen P f es,H'',?_,⟨ht.holds,ht.os,ht.tape,ht.output,ht.size,ht.keep,ht.mine,ht.seen,fun e he => ht.evs e (mem_seen he)⟩,?_⟩
 ·simp only [G,stepG,retMode,Fr,mark]
  simp only [unwind,hrr]
  simp [GStep.after]
 refine L.closed _ _ rfl fun W hW => ?_
 obtain ⟨v,W',es,H₂,hr2,ht2,rfl,rfl⟩ := K.sound (k_results (Q := fun v H₂ => v = resVal vs ∧ H₂ = H'') hE hr hv ⟨rfl,rfl⟩) (Tr.refl hW)
 refine ⟨G (c.finish (resVal vs)) cs,W',seen P f es,_,?_,⟨ht2.holds,ht2.os,ht2.tape,ht2.output,ht2.size,ht2.keep,ht2.mine,ht2.seen,fun e he => ht2.evs e (mem_seen he)⟩,h⟩
 simp only [G,stepG,retMode,Fr]
 simp only [unwind,hf,hr2,doReturn]
 simp [GStep.after]
end
end Go.Gx
end
section
namespace Go.Gx
open Go Go.Conc
def fillL (pl : Nat → Option (Nat × Nat)) : List Value → List (Nat × Value) → Option (List Value)
 | l,[] => some l
 | l,(i,v) :: rest =>
  match pl i with
  | some (off,sz) =>
   match cellsV v with
   | some vs =>
    bif Nat.beq vs.length sz then
     match setC l off vs with
     | some l' => fillL pl l' rest
     | none => none
    else none
   | none => none
  | none => none
theorem fillL_eq {pl : Nat → Option (Nat × Nat)} : ∀ {ps : List (Nat × Value)} {l l' : List Value},fillL pl l ps = some l' → Instr.fill pl l.toArray ps = some l'.toArray
 | [],l,l',h => by cases h;rfl
 | (i,v) :: rest,l,l',h => by
  unfold fillL at h
  unfold Instr.fill
  split at h
  ·rename_i off sz hpl
   rw [hpl]
   split at h
   ·rename_i vs hvs
    cases hb : Nat.beq vs.length sz with
    | false => rw [hb] at h;cases h
    | true =>
     rw [hb] at h
     simp only [cond_true] at h
     split at h
     ·rename_i l'' hs
      have e := cellsV_eq hvs
      have e2 := Nat.eq_of_beq_eq_true hb
      obtain ⟨e3,e4⟩ := setC_eq hs
      simp only
      rw [if_neg (by rw [e];simp;omega)]
      have e5 : (v.cells.zipIdx.foldl (fun cs (x : Value × Nat) => cs.setIfInBounds (off + x.2) x.1) l.toArray) = l''.toArray := by
       rw [e,e3,← foldl_splice vs l off e4]
       rw [← Array.foldl_toList]
       simp
      have := fillL_eq (pl := pl) h
      rw [← this]
      congr 1
     ·cases h
   ·cases h
  ·cases h
def evP (E : Env) : List (Nat × Operand) → Option (List (Nat × Value))
 | [] => some []
 | (i,x) :: xs =>
  match ev E x,evP E xs with
  | some v,some vs => some ((i,v) :: vs)
  | _,_ => none
theorem evP_map {E : Env} {φ : Operand → Value} (hA : Agree E φ) : ∀ {xs : List (Nat × Operand)} {vs : List (Nat × Value)},evP E xs = some vs → xs.map (fun p => (p.1,φ p.2)) = vs
 | [],vs,h => by cases h;rfl
 | (i,x) :: xs,vs,h => by
  unfold evP at h
  split at h
  ·rename_i v ws h1 h2
   cases h
   simp [hA x v h1,evP_map hA h2]
  ·cases h
def nthP : List (Nat × Nat) → Nat → Option (Nat × Nat)
 | [],_ => none
 | a :: _,0 => some a
 | _ :: l,i + 1 => nthP l i
theorem nthP_eq : ∀ (l : List (Nat × Nat)) (i : Nat),nthP l i = l[i]?
 | [],i => by simp [nthP]
 | a :: l,0 => rfl
 | a :: l,i + 1 => by simp [nthP,nthP_eq l i]
def plF (P : Program) : List Field → Option (List (Nat × Nat))
 | [] => some []
 | f :: fs =>
  match P.info? f.type,plF P fs with
  | some i,some l => some ((f.offset,i.size) :: l)
  | _,_ => none
def bdF (P : Program) (t : TypeId) : Option (List (Nat × Nat)) :=
 match P.underlying t with
 | some (.struct fs) => plF P fs.toList
 | _ => none
class BdI (P : Program) (t : TypeId) (pl : outParam (List (Nat × Nat))) : Prop where
 h : bdF P t = some pl
section
variable {P : Program} {H : Facts} {E : Env} {o : Oper}
theorem k_places : ∀ {fs : List Field} {l : List (Nat × Nat)} {Q : List (Nat × Nat) → Facts → Prop} {H : Facts},plF P fs = some l → Q l H → K P (List.mapM (m := Sem) (fun (f : Field) => do Pure.pure (f.offset,← sizeOf f.type)) fs) Q H
 | [],l,Q,H,h,hq => by cases h;exact hq
 | f :: fs,l,Q,H,h,hq => by
  unfold plF at h
  split at h
  ·rename_i i l' h1 h2
   cases h
   rw [List.mapM_cons,K.bind,K.bind,k_sizeOf h1,K.pure,K.bind]
   exact k_places h2 hq
  ·cases h
theorem q_build {t : TypeId} {parts : Array (Nat × Operand)} {ag : Bool} {sz : Nat} {z l : List Value} {pl : List (Nat × Nat)} {ps : List (Nat × Value)} [ht : TyI P t ag sz z] [hb : BdI P t pl] (ho : o.op = .build t parts) (hp : evP E parts.toList = some ps) (hf : fillL (nthP pl) z ps = some l) : QOp P o E H (.agg l.toArray) :=
 ⟨nd ho (by intro c h;cases h),fun φ hA Q hQ => by
  obtain ⟨zv,by_,h1,h2⟩ := ht.h
  obtain ⟨d,i,e1,e2,e3,e4,e5,_⟩ := tyF_parts h1
  have hbd := hb.h
  unfold bdF at hbd
  unfold execOp;rw [ho];simp only [Instr.build,K.bind,k_zeroValue e2 e5,K.pure]
  split at hbd
  ·rename_i fs hu
   rw [k_underlying hu]
   simp only
   rw [K.bind,Array.mapM_eq_mapM_toList,K.map]
   refine k_places hbd ?_
   have e6 : Instr.fill (fun x => pl.toArray[x]?) zv.cells (parts.map fun x => (x.1,φ x.2)).toList = some l.toArray := by
    have := fillL_eq hf
    rw [cellsV_eq h2]
    have e7 : (fun x => pl.toArray[x]?) = nthP pl := by funext x;rw [nthP_eq];simp
    have e8 : (parts.map fun x => (x.1,φ x.2)).toList = ps := by rw [Array.toList_map];exact evP_map hA hp
    rw [e7,e8];exact this
   simp only [e6]
   exact hQ
  ·cases hbd⟩
theorem k_part {t : TypeId} {ag : Bool} {sz by_ : Nat} {z : Option Value} {l vs : List Value} {off : Nat} {v : Value} (ht : tyF P t = some (ag,sz,z,by_)) (hg : getC l off sz = some vs) (hv : mkV ag vs = some v) {Q : Value → Facts → Prop} (hq : Q v H) : K P (part t (List.toArray l) off) Q H := by
 obtain ⟨d,i,h1,h2,h3,h4,_,_⟩ := tyF_parts ht
 obtain ⟨g1,g2⟩ := getC_eq hg
 unfold part
 rw [K.bind,k_isAgg h1,h3]
 cases ag with
 | true =>
  simp only [if_true]
  rw [K.bind,k_sizeOf h2,K.pure,h4]
  have e : (List.toArray l).extract off (off + sz) = vs.toArray := by
   rw [← g1]
   apply Array.ext'
   simp [List.take_drop]
  rw [e]
  cases hv
  exact hq
 | false =>
  match vs,hv with
  | [v'],hv =>
   cases hv
   have e : (List.toArray l)[off]? = some v := by
    have h5 : ((l.drop off).take sz)[0]? = some v := by rw [g1];rfl
    have hsz : 0 < sz := by simp at g2;omega
    rw [List.getElem?_take_of_lt hsz,List.getElem?_drop] at h5
    simpa using h5
   simp only [Bool.false_eq_true,if_false,e]
   exact hq
theorem q_index {t e : TypeId} {x y : Operand} {j len sz : Nat} {ag : Bool} {l vs : List Value} {v : Value} {kd : IntKind} [har : ArI P t len e ag sz] (ho : o.op = .index t x y) (hx : ev E x = some (.agg (List.toArray l))) (hy : ev E y = some (.int kd (j : Int))) (hj : j < len) (hg : getC l (j * sz) sz = some vs) (hv : mkV ag vs = some v) : QOp P o E H v :=
 ⟨nd ho (by intro c h;cases h),fun φ hA Q hQ => by
  obtain ⟨z,by_,h1,h2⟩ := har.parts
  obtain ⟨d,i,_,h4,_,h6,_,_⟩ := tyF_parts h2
  unfold execOp;rw [ho];simp only [hA x _ hx,hA y _ hy,Instr.index,asIntOf,K.bind,K.pure,k_underlying h1]
  rw [if_pos (by omega),K.bind,k_sizeOf h4,h6]
  exact k_part h2 (by simpa using hg) hv hQ⟩
theorem q_ia {t e : TypeId} {x y : Operand} {b off len cap k sz by_ : Nat} {ag : Bool} {z : List Value} {kd : IntKind} [hel : ElI P t e ag sz by_ z] (ho : o.op = .indexAddr t x y) (hx : ev E x = some (.slice (some ⟨b,off,none⟩) len cap)) (hy : ev E y = some (.int kd (k : Int))) (hk : k < len) :
  QOp P o E H (.pointer (some ⟨b,off + k * sz,none⟩)) := by
 obtain ⟨zv,h1,h2,_⟩ := hel.parts
 obtain ⟨d,i,_,h4,_,h6,_,_⟩ := tyF_parts h2
 have := q_indexAddr (P := P) (H := H) ho hx hy h1 h4 (by omega)
 rw [h6] at this
 simpa using this
theorem q_iaA {t e : TypeId} {x y : Operand} {b off len k sz : Nat} {ag : Bool} {kd : IntKind} [har : ArI P t len e ag sz] (ho : o.op = .indexAddr t x y) (hx : ev E x = some (.pointer (some ⟨b,off,none⟩))) (hy : ev E y = some (.int kd (k : Int))) (hk : k < len) :
  QOp P o E H (.pointer (some ⟨b,off + k * sz,none⟩)) := by
 obtain ⟨z,by_,h1,h2⟩ := har.parts
 obtain ⟨d,i,_,h4,_,h6,_,_⟩ := tyF_parts h2
 have := q_indexAddrA (P := P) (H := H) ho hx hy h1 h4 (by omega)
 rw [h6] at this
 simpa using this
def seqC (sz : Nat) : Nat → List (Nat × Value) → Option (List Value)
 | _,[] => some []
 | i,(j,v) :: ps =>
  bif Nat.beq i j then
   match cellsV v,seqC sz (i + 1) ps with
   | some vs,some l => bif Nat.beq vs.length sz then appO vs l else none
   | _,_ => none
  else none
theorem fill_seq {sz : Nat} : ∀ {ps : List (Nat × Value)} {i : Nat} {done tail l : List Value},seqC sz i ps = some l → done.length = i * sz → tail.length = ps.length * sz →
  Instr.fill (fun i => some (i * sz,sz)) (done ++ tail).toArray ps = some (done ++ l).toArray
 | [],i,done,tail,l,h,hd,ht => by
  cases h
  have : tail = [] := List.length_eq_zero_iff.1 (by simpa using ht)
  subst this
  rfl
 | (j,v) :: ps,i,done,tail,l,h,hd,ht => by
  unfold seqC at h
  cases hij : Nat.beq i j with
  | false => rw [hij] at h;cases h
  | true =>
   rw [hij] at h
   simp only [cond_true] at h
   split at h
   ·rename_i vs l' h1 h2
    cases hl : Nat.beq vs.length sz with
    | false => rw [hl] at h;cases h
    | true =>
     rw [hl] at h
     simp only [cond_true] at h
     have e1 := Nat.eq_of_beq_eq_true hij
     subst e1
     have e2 := Nat.eq_of_beq_eq_true hl
     have e3 := cellsV_eq h1
     have e4 := appO_eq h
     subst e4
     simp only [List.length_cons,Nat.succ_mul] at ht
     unfold Instr.fill
     simp only
     rw [if_neg (by rw [e3];simp;omega)]
     have e5 : (v.cells.zipIdx.foldl (fun cs (x : Value × Nat) => cs.setIfInBounds (i * sz + x.2) x.1) (done ++ tail).toArray) = (done ++ vs ++ tail.drop sz).toArray := by
      rw [e3]
      have := foldl_splice vs (done ++ tail) (i * sz) (by simp;omega)
      rw [← Array.foldl_toList]
      simp only [Array.toList_zipIdx] at this ⊢
      refine Eq.trans ?_ (this.trans ?_)
      ·rfl
      ·congr 1
       rw [← hd,← e2]
       simp [splice,List.take_append,List.drop_append]
     have := fill_seq (ps := ps) (i := i + 1) (done := done ++ vs) (tail := tail.drop sz) h2 (by rw [List.length_append,hd,e2,Nat.succ_mul]) (by rw [List.length_drop];omega)
     rw [← List.append_assoc] at *
     rw [← this]
     congr 1
   ·cases h
theorem l_buildSlice {t e : TypeId} {len sz by_ : Nat} {ag : Bool} {z l : List Value} {parts : Array (Nat × Operand)} {ps : List (Nat × Value)} [hel : ElI P t e ag sz by_ z] (ho : o.op = .buildSlice t len parts) (hp : evP E parts.toList = some ps) (hlen : Nat.beq ps.length len = true) (hs : seqC sz 0 ps = some l) (hbig : Nat.ble (len * sz) 16777216 = true) :
  LOp P o E H (fun v H' => ∃ r,v = .slice (some ⟨r,0,none⟩) len len ∧ H' = .own r (.cells (List.toArray l) e (0,0)) :: H) :=
 ⟨nd ho (by intro c h;cases h),fun φ hA Q hQ => by
  obtain ⟨zv,h1,h2,h3⟩ := hel.parts
  obtain ⟨d,i,_,h4,_,h6,h7,_⟩ := tyF_parts h2
  have e0 := Nat.eq_of_beq_eq_true hlen
  unfold execOp;rw [ho];simp only [Instr.buildSlice,K.bind,k_underlying h1,k_sizeOf h4]
  rw [h6,if_neg (by have := Nat.le_of_ble_eq_true hbig;omega)]
  have key : ∀ zero : Array Value,K P (do
    let some cells := Instr.fill (fun i => some (i * sz,sz)) ((Array.range (len * sz)).map (zero[· % zero.size]!)) (parts.map fun x => (x.1,φ x.2)).toList | stuck "buildSlice: a part of the wrong size"
    pure (.slice (some (← newRow e cells)) len len)) (fun v H' => VS Q (.value v) H') H := by
   intro zero
   have e1 : Instr.fill (fun i => some (i * sz,sz)) ((Array.range (len * sz)).map (zero[· % zero.size]!)) (parts.map fun x => (x.1,φ x.2)).toList = some l.toArray := by
    have e8 : (parts.map fun x => (x.1,φ x.2)).toList = ps := by rw [Array.toList_map];exact evP_map hA hp
    rw [e8]
    have := fill_seq (ps := ps) (i := 0) (done := []) (tail := ((Array.range (len * sz)).map (zero[· % zero.size]!)).toList) hs (by simp) (by simp [e0])
    rw [List.nil_append,List.nil_append,Array.toArray_toList] at this
    exact this
   simp only [e1]
   rw [K.bind]
   show K P (newObj _ >>= _) _ _
   rw [K.bind]
   simp only [newObj,K]
   intro r
   exact hQ _ _ ⟨r,rfl,rfl⟩
  by_cases h0 : len * sz = 0
  ·rw [if_pos h0,K.bind,K.pure]
   exact key #[]
  ·rw [if_neg h0,K.bind,k_zeroValue h4 h7,K.bind,K.pure]
   exact key zv.cells⟩
end
def Rd (H : Facts) (a : Option Addr) (vs : List Value) : Prop := vs = [] ∨ ∃ b off,a = some ⟨b,off,none⟩ ∧ Cells H b off vs
theorem Rd.more {H H' : Facts} {a : Option Addr} {vs : List Value} (h : Rd H a vs) (hs : Sub H H') : Rd H' a vs :=
 h.imp id fun ⟨b,off,e,hc⟩ => ⟨b,off,e,cells_more hc hs⟩
end Go.Gx
end
