/-
  Part 1 of the proof of what several laws share.
-/
import Derived.WalkKit
import Derived.KernelRfl
import Derived.Orders
import Derived.Below
set_option linter.unusedVariables false
set_option linter.unusedSimpArgs false
section
namespace Go.Kx
abbrev Y6:=Option (Nat × Nat)
def bk (A:Y6):Nat:=(A.getD (0,0)).1
def EY (A:Y6):Nat:=(A.getD (0,0)).2
def loc (A:Y6) (i:Nat):Addr:=⟨bk A,EY A+i,none⟩
def ptr (A:Y6) (i:Nat):Value := .pointer (some (loc A i))
def sl (A:Y6) (n c:Nat):Value := .slice (A.map fun p=>⟨p.1,p.2,none⟩) n c
def sh (A:Y6) (k:Nat):Y6:=A.map fun p=>(p.1,p.2+k)
structure Ent where
 A:Y6
 cs:List Value
abbrev Mem:=List Ent
def yF (w:World) (e:Ent):Prop :=
 (e.A=none → e.cs=[]) ∧ ∀ i v,e.cs[i]? = some v → w.cell? (loc e.A i)=some v∧w.frozen? (loc e.A i)=false
def JX (e f:Ent):Prop := ∀ i j,i<e.cs.length → j<f.cs.length → loc e.A i ≠ loc f.A j
theorem JX.symm {e f:Ent} (h:JX e f):JX f e:=fun i j hi hj=>(h j i hj hi).symm
def NZ (w:World) (L:Mem):Prop:=(∀ e ∈ L,yF w e)∧L.Pairwise JX
def foot (L:Mem) (a:Addr):Prop := ∃ e ∈ L, ∃ i,i<e.cs.length∧a=loc e.A i
structure jX (w0:World) (L0:Mem) (w:World):Prop where
 os:w.os=w0.os
 tape:w.tape=w0.tape
 output:w.output=w0.output
 size:w0.heap.size≤w.heap.size
 cell : ∀ b o,b<w0.heap.size → ¬ foot L0 ⟨b,o,none⟩ → w.cell? ⟨b,o,none⟩=w0.cell? ⟨b,o,none⟩∧w.frozen? ⟨b,o,none⟩=w0.frozen? ⟨b,o,none⟩
 block : ∀ b,b<w0.heap.size → (∀ o, ¬ foot L0 ⟨b,o,none⟩) → w.heap[b]? = w0.heap[b]?
structure Step (w0:World) (L0:Mem) (w:World) (L:Mem):Prop where
 chg:jX w0 L0 w
 ok:NZ w L
 new : ∀ a,foot L a → w0.heap.size≤a.block ∨ foot L0 a
theorem block_lt {w:World} {a:Addr} {v:Value} (h:w.cell? a=some v):a.block<w.heap.size:=by
 by_cases hlt:a.block<w.heap.size
 ·exact hlt
 ·have hn:w.heap[a.block]? = none:=by simp; omega
  simp [World.cell?,hn] at h
theorem yF.lt {w:World} {e:Ent} (h:yF w e) {i:Nat} (hi:i<e.cs.length):(loc e.A i).block<w.heap.size :=
 block_lt (h.2 i _ (List.getElem?_eq_getElem hi)).1
theorem OD {A B:Mem} {a:Addr}:foot (A++B) a ↔ foot A a ∨ foot B a:=by
 constructor
 ·rintro ⟨e,he,h⟩
  rcases List.mem_append.1 he with h1 | h1
  ·exact .inl ⟨e,h1,h⟩
  ·exact .inr ⟨e,h1,h⟩
 ·rintro (⟨e,he,h⟩ | ⟨e,he,h⟩)
  ·exact ⟨e,List.mem_append_left _ he,h⟩
  ·exact ⟨e,List.mem_append_right _ he,h⟩
theorem xL {a:Addr} : ¬ foot [] a:=fun ⟨_,h,_⟩=>by cases h
theorem jX.refl (w:World) (L:Mem):jX w L w:=⟨rfl,rfl,rfl,Nat.le_refl _,fun _ _ _ _=>⟨rfl,rfl⟩,fun _ _ _=>rfl⟩
theorem Step.refl {w:World} {L:Mem} (h:NZ w L):Step w L w L:=⟨jX.refl w L,h,fun _ h => .inr h⟩
theorem NZ.disj {w:World} {A R:Mem} (h:NZ w (A++R)) {e f:Ent} (he:e ∈ A) (hf:f ∈ R):JX e f :=
 (List.pairwise_append.1 h.2).2.2 e he f hf
theorem Step.frame {w0 w w':World} {L0 A R B:Mem} (h:Step w0 L0 w (A++R)) (k:Step w A w' B):Step w0 L0 w' (B++R):=by
 have hA : ∀ b o,b<w0.heap.size → ¬ foot L0 ⟨b,o,none⟩ → ¬ foot A ⟨b,o,none⟩:=fun b o hb hn hf=>by
  rcases h.new _ (OD.2 (.inl hf)) with h1 | h1
  ·exact absurd hb (Nat.not_lt.2 h1)
  ·exact hn h1
 have hR : ∀ f ∈ R, ∀ i,i<f.cs.length → ¬ foot A (loc f.A i):=fun f hf i hi ⟨e,he,j,hj,heq⟩ =>
  h.ok.disj he hf j i hj hi heq.symm
 refine ⟨⟨k.chg.os.trans h.chg.os,k.chg.tape.trans h.chg.tape,k.chg.output.trans h.chg.output,Nat.le_trans h.chg.size k.chg.size,?_,?_⟩,⟨?_,?_⟩,?_⟩
 ·intro b o hb hn
  have h1:=h.chg.cell b o hb hn
  have h2:=k.chg.cell b o (Nat.lt_of_lt_of_le hb h.chg.size) (hA b o hb hn)
  exact ⟨h2.1.trans h1.1,h2.2.trans h1.2⟩
 ·intro b hb hn
  exact (k.chg.block b (Nat.lt_of_lt_of_le hb h.chg.size) (fun o=>hA b o hb (hn o))).trans (h.chg.block b hb hn)
 ·intro e he
  rcases List.mem_append.1 he with h1 | h1
  ·exact k.ok.1 e h1
  ·have ho:=h.ok.1 e (List.mem_append_right _ h1)
   refine ⟨ho.1,fun i v hv=>?_⟩
   have hi:i<e.cs.length:=(List.getElem?_eq_some_iff.1 hv).1
   have h2:=ho.2 i v hv
   have h3:=k.chg.cell (loc e.A i).block (loc e.A i).off (block_lt h2.1) (hR e h1 i hi)
   exact ⟨h3.1.trans h2.1,h3.2.trans h2.2⟩
 ·refine List.pairwise_append.2 ⟨k.ok.2,(List.pairwise_append.1 h.ok.2).2.1,fun e he f hf i j hi hj heq=>?_⟩
  rcases k.new _ ⟨e,he,i,hi,rfl⟩ with h1 | h1
  ·rw [heq] at h1
   exact absurd ((h.ok.1 f (List.mem_append_right _ hf)).lt hj) (Nat.not_lt.2 h1)
  ·rw [heq] at h1
   exact hR f hf j hj h1
 ·intro a ha
  rcases OD.1 ha with h1 | h1
  ·rcases k.new a h1 with h2 | h2
   ·exact .inl (Nat.le_trans h.chg.size h2)
   ·exact h.new a (OD.2 (.inl h2))
  ·exact h.new a (OD.2 (.inr h1))
theorem qV {L L':Mem} (hp:L.Perm L') {a:Addr} (h:foot L a):foot L' a :=
 let ⟨e,he,x⟩:=h; ⟨e,hp.mem_iff.1 he,x⟩
theorem NZ.perm {w:World} {L L':Mem} (h:NZ w L) (hp:L.Perm L'):NZ w L' :=
 ⟨fun e he=>h.1 e (hp.mem_iff.2 he),(hp.pairwise_iff (fun {_ _} h=>JX.symm h)).1 h.2⟩
theorem Step.perm {w0 w:World} {L0 L L':Mem} (h:Step w0 L0 w L) (hp:L.Perm L'):Step w0 L0 w L' :=
 ⟨h.chg,h.ok.perm hp,fun a ha=>h.new a (qV hp.symm ha)⟩
theorem NZ.left {w:World} {A B:Mem} (h:NZ w (A++B)):NZ w A :=
 ⟨fun e he=>h.1 e (List.mem_append_left _ he),(List.pairwise_append.1 h.2).1⟩
theorem NZ.right {w:World} {A B:Mem} (h:NZ w (A++B)):NZ w B :=
 ⟨fun e he=>h.1 e (List.mem_append_right _ he),(List.pairwise_append.1 h.2).2.1⟩
theorem Step.left {w0 w:World} {L0 A B:Mem} (h:Step w0 L0 w (A++B)):Step w0 L0 w A :=
 ⟨h.chg,h.ok.left,fun a ha=>h.new a (OD.2 (.inl ha))⟩
def Fq {α:Type}:Nat → List α → Option (α × List α)
 | _,[]=>none
 | 0,x :: L=>some (x,L)
 | i+1,x :: L=>match Fq i L with
  | none=>none
  | some (y,b)=>some (y,x :: b)
def pull {α:Type}:List Nat → List α → Option (List α × List α)
 | [],L=>some ([],L)
 | i :: is,L=>match Fq i L with
  | none=>none
  | some (x,L')=>match pull is L' with
   | none=>none
   | some (a,b)=>some (x :: a,b)
theorem QL {α:Type} : ∀ (L:List α) (i:Nat) (x:α),L[i]? = some x → L.Perm (x :: L.eraseIdx i)
 | [],_,_,h=>by simp at h
 | y :: L,0,x,h=>by simp at h; subst h; exact List.Perm.refl _
 | y :: L,i+1,x,h=>by
  simp only [List.getElem?_cons_succ] at h
  exact ((QL L i x h).cons y).trans (List.Perm.swap x y _)
theorem EE {α:Type} : ∀ (i:Nat) (L:List α) (x:α) (B:List α),Fq i L=some (x,B) → L.Perm (x :: B)
 | _,[],_,_,h=>by simp [Fq] at h
 | 0,y :: L,x,B,h=>by simp only [Fq,Option.some.injEq,Prod.mk.injEq] at h; obtain ⟨rfl,rfl⟩:=h; exact List.Perm.refl _
 | i+1,y :: L,x,B,h=>by
  simp only [Fq] at h
  cases hp:Fq i L with
  | none=>simp [hp] at h
  | some p =>
   obtain ⟨z,b⟩:=p
   simp only [hp,Option.some.injEq,Prod.mk.injEq] at h
   obtain ⟨rfl,rfl⟩:=h
   exact ((EE i L _ _ hp).cons y).trans (List.Perm.swap _ y _)
theorem BS {α:Type} : ∀ (is:List Nat) (L A B:List α),pull is L=some (A,B) → L.Perm (A++B)
 | [],L,A,B,h=>by simp only [pull,Option.some.injEq,Prod.mk.injEq] at h; obtain ⟨rfl,rfl⟩:=h; exact List.Perm.refl _
 | i :: is,L,A,B,h=>by
  simp only [pull] at h
  cases hx:Fq i L with
  | none=>simp [hx] at h
  | some q =>
   obtain ⟨x,L'⟩:=q
   simp only [hx] at h
   cases hp:pull is L' with
   | none=>simp [hp] at h
   | some p =>
    obtain ⟨a,b⟩:=p
    simp only [hp,Option.some.injEq,Prod.mk.injEq] at h
    obtain ⟨rfl,rfl⟩:=h
    have ih:=BS is _ _ _ hp
    exact (EE i L x L' hx).trans (ih.cons x)
theorem Step.pulled {w0 w:World} {L0 L A B:Mem} (h:Step w0 L0 w L) {is:List Nat} (hp:pull is L=some (A,B)):Step w0 L0 w (A++B) :=
 h.perm (BS is L A B hp)
theorem DD {w:World} {o:Obj} {b k:Nat} (h:b<w.heap.size):({ w with heap:=w.heap.push o }:World).cell? ⟨b,k,none⟩=w.cell? ⟨b,k,none⟩ ∧
  ({ w with heap:=w.heap.push o }:World).frozen? ⟨b,k,none⟩=w.frozen? ⟨b,k,none⟩:=by
 have:(w.heap.push o)[b]? = w.heap[b]? := by rw [Array.getElem?_push,if_neg (by omega)]
 simp [World.cell?,World.frozen?,this]
theorem Step.alloc (w:World) (cs:Array Value) (t:TypeId) (fr:Nat × Nat) (hfr:cs.size≤fr.1 ∨ fr.2=0) :
  Step w [] { w with heap:=w.heap.push (.cells cs t fr) } [⟨some (w.heap.size,0),cs.toList⟩]:=by
 refine ⟨⟨rfl,rfl,rfl,by simp,fun b o hb _=>DD hb,fun b hb _=>by
   show (w.heap.push _)[b]? = _
   rw [Array.getElem?_push,if_neg (by omega)]⟩,⟨?_,by simp⟩,?_⟩
 ·intro e he
  rw [List.mem_singleton] at he
  subst he
  refine ⟨(fun h=>by cases h),fun i v hv=>?_⟩
  have hi:i<cs.size:=by have:=(List.getElem?_eq_some_iff.1 hv).1; simpa using this
  have hn:(w.heap.push (.cells cs t fr))[w.heap.size]? = some (.cells cs t fr):=by simp
  have hv':cs[i]? = some v:=by simpa using hv
  constructor
  ·simp [World.cell?,loc,bk,EY,hv']
  ·simp only [World.frozen?,loc,bk,EY,Option.getD_some,hn,Nat.zero_add]
   rcases hfr with h | h
   ·simp; omega
   ·simp [h]
 ·rintro a ⟨e,he,i,hi,rfl⟩
  rw [List.mem_singleton] at he
  subst he
  exact .inl (Nat.le_refl _)
theorem CO {w:World} {A:Y6} {i:Nat} {v u:Value} (h:w.cell? (loc A i)=some u):(w.setCell (loc A i) v).cell? (loc A i)=some v:=by
 unfold World.cell? at h ⊢
 unfold World.setCell
 simp only [Array.getElem?_modify,if_true,loc,Option.isSome_none] at h ⊢
 cases hb:w.heap[bk A]? with
 | none=>simp [hb] at h
 | some o =>
  cases o <;> simp only [hb,Option.map_some,Bool.false_eq_true,if_false,reduceCtorEq] at h ⊢
  have hlt:=(Array.getElem?_eq_some_iff.1 h).1
  rw [Array.getElem?_setIfInBounds_self_of_lt hlt]
theorem Je {w:World} {a:Addr} {v:Value} {b o:Nat} (h:a ≠ ⟨b,o,none⟩):(w.setCell a v).cell? ⟨b,o,none⟩=w.cell? ⟨b,o,none⟩:=by
 unfold World.cell? World.setCell
 simp only [Array.getElem?_modify]
 by_cases hb:a.block=b
 ·subst hb
  simp only [if_true]
  cases hh:w.heap[a.block]? with
  | none=>rfl
  | some x =>
   cases x <;> simp
   split
   ·rfl
   ·rename_i hs
    have hs':a.spot=none:=by simpa using hs
    have hne:a.off ≠ o:=fun he=>h (by cases a; simp_all)
    rw [Array.getElem?_setIfInBounds_ne hne]
 ·rw [if_neg (by omega)]
theorem DR {w:World} {a:Addr} {v:Value} {p:Addr}:(w.setCell a v).frozen? p=w.frozen? p:=by
 unfold World.frozen? World.setCell
 simp only [Array.getElem?_modify]
 by_cases hb:a.block=p.block
 ·rw [if_pos hb]
  cases hh:w.heap[p.block]? with
  | none=>simp
  | some x=>cases x <;> simp
 ·rw [if_neg (by omega)]
theorem Step.set {w:World} {e:Ent} {i:Nat} (v:Value) (h:NZ w [e]) (hi:i<e.cs.length) :
  Step w [e] (w.setCell (loc e.A i) v) [⟨e.A,e.cs.set i v⟩]:=by
 have he:=h.1 e (List.mem_singleton.2 rfl)
 have hne:e.A ≠ none:=fun hn=>by rw [he.1 hn] at hi; exact absurd hi (by simp)
 refine ⟨⟨rfl,rfl,rfl,by simp [World.setCell],fun b o hb hn=>?_,fun b hb hn=>?_⟩,⟨?_,by simp⟩,?_⟩
 ·have:loc e.A i ≠ ⟨b,o,none⟩:=fun heq=>hn ⟨e,List.mem_singleton.2 rfl,i,hi,heq.symm⟩
  exact ⟨Je this,DR⟩
 ·have:(loc e.A i).block ≠ b:=fun heq=>hn (EY e.A+i) ⟨e,List.mem_singleton.2 rfl,i,hi,by cases heq; rfl⟩
  simp only [World.setCell,Array.getElem?_modify]
  rw [if_neg this]
 ·intro f hf
  rw [List.mem_singleton] at hf
  subst hf
  refine ⟨fun hn=>absurd hn hne,fun j u hu=>?_⟩
  refine ⟨?_,?_⟩
  ·by_cases hij:i=j
   ·subst hij
    simp only [List.getElem?_set,if_true,hi] at hu
    cases hu
    exact CO (he.2 i _ (List.getElem?_eq_getElem hi)).1
   ·rw [List.getElem?_set_ne hij] at hu
    have hne':loc e.A i ≠ loc e.A j:=fun heq=>hij (by simp only [loc,Addr.mk.injEq] at heq; omega)
    exact (Je hne').trans (he.2 j u hu).1
  ·rw [DR]
   have hj:j<e.cs.length:=by have:=(List.getElem?_eq_some_iff.1 hu).1; simpa using this
   exact (he.2 j _ (List.getElem?_eq_getElem hj)).2
 ·rintro a ⟨f,hf,j,hj,rfl⟩
  rw [List.mem_singleton] at hf
  subst hf
  exact .inr ⟨e,List.mem_singleton.2 rfl,j,by simpa using hj,rfl⟩
theorem Step.draws (w:World) (n:Nat):Step w [] { w with drawn:=n } [] :=
 ⟨⟨rfl,rfl,rfl,Nat.le_refl _,fun _ _ _ _=>⟨rfl,rfl⟩,fun _ _ _=>rfl⟩,⟨(fun _ h=>by cases h),List.Pairwise.nil⟩,fun _ h=>absurd h xL⟩
theorem Step.below {w w':World} {L:Mem} (h:Step w [] w' L):Go.RowKit.Below w.heap.size w w' :=
 ⟨h.chg.os,h.chg.tape,h.chg.output,h.chg.size,fun k hk=>h.chg.block k hk fun _=>xL⟩
def Has (w:World) (e:Ent):Prop:=(e.A=none → e.cs=[]) ∧ ∀ i v,e.cs[i]? = some v → w.cell? (loc e.A i)=some v
theorem yF.has {w:World} {e:Ent} (h:yF w e):Has w e:=⟨h.1,fun i v hv=>(h.2 i v hv).1⟩
theorem Has.keep {w0 w:World} {L0:Mem} {e:Ent} (h:Has w0 e) (hc:jX w0 L0 w) (hd : ∀ f ∈ L0,JX f e):Has w e :=
 ⟨h.1,fun i v hv=>by
  have h1:=h.2 i v hv
  have hi:i<e.cs.length:=(List.getElem?_eq_some_iff.1 hv).1
  exact (hc.cell (loc e.A i).block (loc e.A i).off (block_lt h1) fun ⟨f,hf,j,hj,heq⟩=>hd f hf j i hj hi heq.symm).1.trans h1⟩
theorem Has.join {w:World} {A:Y6} {c1 c2:List Value} (h1:Has w ⟨A,c1⟩) (h2:Has w ⟨sh A c1.length,c2⟩):Has w ⟨A,c1++c2⟩:=by
 refine ⟨fun hn=>?_,fun i v hv=>?_⟩
 ·have a1:=h1.1 hn
  have a2:=h2.1 (by subst hn; rfl)
  simp only at a1 a2
  simp [a1,a2]
 ·by_cases hi:i<c1.length
  ·rw [List.getElem?_append_left hi] at hv; exact h1.2 i v hv
  ·rw [List.getElem?_append_right (by omega)] at hv
   have h3:=h2.2 _ v hv
   cases A with
   | none =>
    have a2:=h2.1 rfl
    simp only at a2
    rw [a2] at hv
    cases hv
   | some p =>
    have:loc (sh (some p) c1.length) (i - c1.length)=loc (some p) i:=by
     simp only [loc,sh,bk,EY,Option.map_some,Option.getD_some,Addr.mk.injEq,and_true,true_and]; omega
    rw [this] at h3
    exact h3
abbrev Str:=List (BitVec 8)
def ZJ (x:Int):Int:=(x+9223372036854775808) % 18446744073709551616 - 9223372036854775808
def HZ (f:BitVec 64 → BitVec 64 → BitVec 64) (a b:Int):Int:=ZJ (f (BitVec.ofInt 64 a) (BitVec.ofInt 64 b)).toNat
def EB (a s:Int):Int:=ZJ (a * 2 ^ (min s.toNat 64))
def VO (a s:Int):Int:=a / 2 ^ (min s.toNat 64)
def sg (s:Str) (i:Int):BitVec 8:=s.getD i.toNat 0#8
def sub (s:Str) (l h:Nat):Str:=(s.drop l).take (h - l)
def vg {α:Type} [Inhabited α] {n:Nat} (V:Vector α n) (i:Nat):α:=V.toArray.toList.getD i default
def vp {α:Type} {n:Nat} (V:Vector α n) (i:Nat) (x:α):Vector α n:=V.setIfInBounds i x
def lg {α:Type} [Inhabited α] (l:List α) (i:Nat):α:=l.getD i default
def X5 {α β:Type} (x:α) (f:α → β):β:=f x
def loop {σ τ:Type} (body:σ → Option (σ ⊕ τ)):Nat → σ → Option τ
 | 0,_=>none
 | n+1,s=>match body s with
  | none=>none
  | some (.inl s')=>loop body n s'
  | some (.inr t)=>some t
def BIG:Nat:=1152921504606846976
def splice {α:Type} (z:List α) (o:Nat) (c:List α):List α:=z.take o++c++z.drop (o+c.length)
theorem ZX {α β:Type} {x:α} {f:α → β} {r:β} (h:X5 x f=r) : ∃ v,x=v∧f v=r:=⟨x,rfl,h⟩
theorem Z9 {α β:Type} {x:Option α} {f:α → Option β} {r:β} (h:x.bind f=some r) : ∃ v,x=some v∧f v=some r:=by
 cases x with
 | none=>simp at h
 | some v=>exact ⟨v,rfl,h⟩
theorem Z4 {α:Type} {p:Prop} [Decidable p] {x:Option α} {r:α} (h:(if p then x else none)=some r):p∧x=some r:=by
 by_cases hp:p
 ·exact ⟨hp,by rwa [if_pos hp] at h⟩
 ·rw [if_neg hp] at h; cases h
theorem U8 {α:Type} {p:Prop} [Decidable p] {x y r:α} (hp:p) (h:(if p then x else y)=r):x=r:=by rwa [if_pos hp] at h
theorem U7 {α:Type} {p:Prop} [Decidable p] {x y r:α} (hp : ¬ p) (h:(if p then x else y)=r):y=r:=by rwa [if_neg hp] at h
end Go.Kx
namespace Go.Kx
def EX {α:Type} {n:Nat} (V:Vector α n) (o:Nat):List α → Vector α n
 | []=>V
 | x :: r=>EX (vp V o x) (o+1) r
theorem WA {s:Str} {l h:Nat} (hh:h≤s.length):(sub s l h).length=h - l:=by
 simp only [sub,List.length_take,List.length_drop]; omega
open Go
def v8 (x:BitVec 8):Value := .int .u8 x.toNat
def v32 (x:BitVec 32):Value := .int .u32 x.toNat
def v64 (x:BitVec 64):Value := .int .u64 x.toNat
def vi (x:Int):Value := .int .i64 x
def vb (b:Bool):Value := .bool b
def bytes (s:Str):ByteArray:=⟨(s.map UInt8.ofBitVec).toArray⟩
def vs (s:Str):Value := .string (bytes s)
def lk:List (Nat × Value) → Nat → Option Value
 | [],_=>none
 | (k,v) :: r,t=>match Nat.beq k t with
  | true=>some v
  | false=>lk r t
abbrev Sl:=List (Nat × Value)
def ev (m:Sl):Operand → Option Value
 | .tmp t=>lk m t
 | .const v=>some v
 | .global g=>some (.pointer (some ⟨g,0,none⟩))
 | .func f=>some (.func (.func f) #[] #[])
def evs (m:Sl):List Operand → Option (List Value)
 | []=>some []
 | x :: r=>match ev m x with
  | none=>none
  | some v=>match evs m r with
   | none=>none
   | some vs=>some (v :: vs)
def Jf (m:Sl) (a:Act):Prop := ∀ t v,lk m t=some v → a.tmps[t]? = some v
theorem Jf.ev {m:Sl} {a:Act} {x:Operand} {v:Value} (h:Jf m a) (hx:ev m x=some v):a.eval x=v:=by
 cases x with
 | tmp t=>simp only [Kx.ev] at hx; have:=h t v hx; simp [Act.eval,this]
 | const u=>simp only [Kx.ev,Option.some.injEq] at hx; simpa [Act.eval] using hx
 | global g=>simp only [Kx.ev,Option.some.injEq] at hx; simpa [Act.eval] using hx
 | func f=>simp only [Kx.ev,Option.some.injEq] at hx; simpa [Act.eval] using hx
theorem Jf.evs {m:Sl} {a:Act} (h:Jf m a) : ∀ {xs:List Operand} {vs:List Value},evs m xs=some vs → xs.map a.eval=vs
 | [],vs,hx=>by simp only [Kx.evs,Option.some.injEq] at hx; subst hx; rfl
 | x :: r,vs,hx=>by
  simp only [Kx.evs] at hx
  cases h1:Kx.ev m x with
  | none=>simp [h1] at hx
  | some v =>
   simp only [h1] at hx
   cases h2:Kx.evs m r with
   | none=>simp [h2] at hx
   | some us =>
    simp only [h2,Option.some.injEq] at hx
    subst hx
    simp [h.ev h1,Jf.evs h h2]
theorem Jf.put {m:Sl} {a:Act} {d:Nat} {v:Value} (h:Jf m a) (hd:d<a.tmps.size):Jf ((d,v) :: m) (a.put (some d) v):=by
 intro t u ht
 simp only [lk] at ht
 by_cases hdt:d=t
 ·subst hdt
  simp only [Nat.beq_refl,Option.some.injEq] at ht
  subst ht
  simp [Act.put,hd]
 ·have hb:Nat.beq d t=false:=by
   cases hb:Nat.beq d t with
   | false=>rfl
   | true=>exact absurd (Nat.eq_of_beq_eq_true hb) hdt
  simp only [hb] at ht
  have:=h t u ht
  simp [Act.put,Array.getElem?_setIfInBounds_ne hdt,this]
def E_:Sl → Sl → Prop
 | [],_=>True
 | (t,v) :: r,m=>lk m t=some v∧E_ r m
theorem E_.lk : ∀ {m' m:Sl},E_ m' m → ∀ t v,lk m' t=some v → lk m t=some v
 | [],_,_,_,_,h=>by simp [Kx.lk] at h
 | (k,u) :: r,m,hs,t,v,h=>by
  simp only [Kx.lk] at h
  cases hb:Nat.beq k t with
  | true =>
   simp only [hb,Option.some.injEq] at h
   subst h
   have:=Nat.eq_of_beq_eq_true hb
   subst this
   exact hs.1
  | false=>simp only [hb] at h; exact E_.lk hs.2 t v h
structure Ctx where
 P:Program
 w0:World
 L0:Mem
 Ro:Mem
 N:Nat
def gp (C:Ctx):Prop:=(∀ e ∈ C.Ro,Has C.w0 e) ∧ ∀ f ∈ C.L0, ∀ e ∈ C.Ro,JX f e
structure Sat (C:Ctx) (m:Sl) (L:Mem) (a:Act) (w:World):Prop where
 defers:a.defers=[]
 size:a.tmps.size=C.N
 slots:Jf m a
 step:Step C.w0 C.L0 w L
 ro:gp C
def TL (C:Ctx) (ops:Array Oper) (Q:Exit → Act → World → Prop) (l:List Oper) (m:Sl) (L:Mem):Prop :=
 ∀ a w,Sat C m L a w → wpList C.P ops Q l a w
def TC (C:Ctx) (c:Code) (Q:Exit → Act → World → Prop) (m:Sl) (L:Mem):Prop := ∀ a w,Sat C m L a w → c.wp C.P Q a w
def TX (C:Ctx) (Q:Exit → Act → World → Prop) (e:Exit) (m:Sl) (L:Mem):Prop := ∀ a w,Sat C m L a w → Q e a w
theorem Sat.sub {C:Ctx} {m m':Sl} {L:Mem} {a:Act} {w:World} (h:Sat C m L a w) (hs:E_ m' m):Sat C m' L a w :=
 ⟨h.defers,h.size,fun t v ht=>h.slots t v (hs.lk t v ht),h.step,h.ro⟩
theorem Sat.mem {C:Ctx} {m:Sl} {L L':Mem} {a:Act} {w w':World} (h:Sat C m L a w) (hs:Step C.w0 C.L0 w' L'):Sat C m L' a w' :=
 ⟨h.defers,h.size,h.slots,hs,h.ro⟩
theorem Sat.put {C:Ctx} {m:Sl} {L L':Mem} {a:Act} {w w':World} (h:Sat C m L a w) {d:Nat} {v:Value} (hd:Nat.blt d C.N=true)
  (hs:Step C.w0 C.L0 w' L'):Sat C ((d,v) :: m) L' (a.put (some d) v) w' :=
 ⟨h.defers,by simp [Act.put,h.size],h.slots.put (by rw [h.size]; exact Nat.le_of_ble_eq_true hd),hs,h.ro⟩
section rules
variable {C:Ctx} {Q:Exit → Act → World → Prop} {m m':Sl} {L L' R:Mem} {ops:Array Oper} {l rest:List Oper} {c c1 c2:Code} {id:Nat}
theorem TC.sub (hm:E_ m' m) (h:TC C c Q m' L):TC C c Q m L:=fun a w hs=>h a w (hs.sub hm)
theorem TX.sub {e:Exit} (hm:E_ m' m) (h:TX C Q e m' L):TX C Q e m L:=fun a w hs=>h a w (hs.sub hm)
theorem TC.pull {is:List Nat} (hL:pull is L=some (L',R)) (h:TC C c Q m L'):TC C c Q m L :=
 fun a w hs=>h a w (hs.mem (hs.step.pulled hL).left)
theorem TX.pull {e:Exit} {is:List Nat} (hL:pull is L=some (L',R)) (h:TX C Q e m L'):TX C Q e m L :=
 fun a w hs=>h a w (hs.mem (hs.step.pulled hL).left)
theorem ZY (h:TC C c1 (Exit.then (fun a w=>c2.wp C.P Q a w) Q) m L):TC C (.seq c1 c2) Q m L:=fun a w hs=>wp_seq (h a w hs)
theorem ZP (h:TC C c (Exit.inBlock id Q) m L):TC C (.block id c) Q m L:=fun a w hs=>wp_block (h a w hs)
theorem ZN (h:TX C Q .normal m L):TC C .skip Q m L:=fun a w hs=>wp_skip (h a w hs)
theorem YW (h:TX C Q (.exit id) m L):TC C (.exit id) Q m L:=fun a w hs=>wp_exit (h a w hs)
theorem Y7 (h:TX C Q .ret m L):TC C .ret Q m L:=fun a w hs=>wp_ret (h a w hs)
theorem tK {x:Operand} {b:Bool} (hx:ev m x=some (vb b)) (ht:b=true → TC C c1 Q m L) (hf:b=false → TC C c2 Q m L) :
  TC C (.cond x c1 c2) Q m L:=fun a w hs=>wp_cond_split (hs.slots.ev hx) (fun h=>ht h a w hs) (fun h=>hf h a w hs)
theorem ZH (h:TL C l.toArray Q l m L):TC C (.region id l.toArray false) Q m L:=fun a w hs=>wp_region_lit (h a w hs)
theorem ZK (h:TX C Q .normal m L):TL C ops Q [] m L:=fun a w hs=>h a w hs
theorem Z7 (h:TC C c Q m L):TX C (Exit.then (fun a w=>c.wp C.P Q a w) Q) .normal m L:=fun a w hs=>h a w hs
theorem Z0 {k:Act → World → Prop} (h:TX C Q (.exit id) m L):TX C (Exit.then k Q) (.exit id) m L:=fun a w hs=>h a w hs
theorem ZZ {k:Act → World → Prop} (h:TX C Q .ret m L):TX C (Exit.then k Q) .ret m L:=fun a w hs=>h a w hs
theorem ZW (h:TX C Q .normal m L):TX C (Exit.inBlock id Q) .normal m L:=fun a w hs=>h a w hs
theorem ZE (h:TX C Q .ret m L):TX C (Exit.inBlock id Q) .ret m L:=fun a w hs=>h a w hs
theorem ZL (h:TX C Q .normal m L):TX C (Exit.inBlock id Q) (.exit id) m L:=fun a w hs=>by
 simp only [Exit.inBlock,if_true]; exact h a w hs
theorem QX {i:Nat} (hne:Nat.beq i id=false) (h:TX C Q (.exit i) m L):TX C (Exit.inBlock id Q) (.exit i) m L:=fun a w hs=>by
 have : ¬ i=id:=fun he=>by subst he; simp at hne
 simp only [Exit.inBlock,if_neg this]; exact h a w hs
theorem Ai {σ τ Γ:Type} {body:σ → Option (σ ⊕ τ)} (ms:σ → Γ → Sl) (Ls:σ → Γ → Mem) (Ex:τ → Prop)
  (hb : ∀ s g r,body s=some r → ∀ K:Act → World → Prop,
   (∀ s',r = .inl s' → ∀ g' a w,Sat C (ms s' g') (Ls s' g') a w → K a w) → (∀ t,r = .inr t → Ex t) → TC C c (Exit.then K Q) (ms s g) (Ls s g))
  (n:Nat) (s:σ) (g:Γ) (t:τ) (hl:loop body n s=some t) (hx:Ex t):TC C (.loop c) Q (ms s g) (Ls s g):=by
 intro a w hs
 refine wp_loop_rounds n ?_
 induction n generalizing s g a w with
 | zero=>simp [loop] at hl
 | succ n ih =>
  rw [rounds_succ]
  simp only [loop] at hl
  cases hr:body s with
  | none=>simp [hr] at hl
  | some r =>
   cases r with
   | inl s' =>
    simp only [hr] at hl
    exact hb s g _ hr _ (fun s'' he g' a' w' hs'=>by cases he; exact ih s' g' hl a' w' hs') (fun t he=>by cases he) a w hs
   | inr t' =>
    simp only [hr,Option.some.injEq] at hl
    subst hl
    exact hb s g _ hr _ (fun s'' he=>by cases he) (fun t he=>by cases he; exact hx) a w hs
theorem Ns {Γ:Type} (mj:Γ → Sl) (Lj:Γ → Mem) (hrest : ∀ g,TX C Q .normal (mj g) (Lj g))
  (harm:(∀ g,TX C Q .normal (mj g) (Lj g)) → TC C c Q m L):TC C c Q m L:=harm hrest
theorem VI {x:Operand} (hx:ev m x=some (.bool true)) (h:TC C c1 Q m L):TC C (.cond x c1 c2) Q m L:=fun a w hs=>wp_cond_true (hs.slots.ev hx) (h a w hs)
theorem KJ {x:Operand} (hx:ev m x=some (.bool false)) (h:TC C c2 Q m L):TC C (.cond x c1 c2) Q m L:=fun a w hs=>wp_cond_false (hs.slots.ev hx) (h a w hs)
def Ou (C:Ctx) (o:Oper) (m:Sl) (L:Mem) (v:Value):Prop :=
 ∀ a w,Sat C m L a w → (execOp a.eval o).run C.P w = .ok (.value v) w
def OP (C:Ctx) (o:Oper) (m:Sl) (L:Mem) {Γ:Type} (val:Γ → Value) (mem:Γ → Mem):Prop :=
 ∀ a w,Sat C m L a w → ∀ (Q:Exit → Act → World → Prop) (K:Act → World → Prop),(∀ g w',Step C.w0 C.L0 w' (mem g) → K (a.put o.dst (val g)) w') → o.wp C.P a w K Q
theorem qE {o:Oper} {d:Nat} {v:Value} (hg:o.guard=none) (hd:o.dst=some d) (hN:Nat.blt d C.N=true) (ho:Ou C o m L v)
  (h:TL C ops Q rest ((d,v) :: m) L):TL C ops Q (o :: rest) m L:=fun a w hs =>
 wpList_plain hg fun K hK=>by
  unfold Oper.wp
  rw [ho a w hs,Oper.upon_value]
  refine hK _ _ (h _ _ ?_)
  rw [hd]
  exact hs.put hN hs.step
theorem vO {o:Oper} {d:Nat} {Γ:Type} {val:Γ → Value} {mem:Γ → Mem} (hg:o.guard=none) (hd:o.dst=some d) (hN:Nat.blt d C.N=true)
  (ho:OP C o m L val mem) (h : ∀ g,TL C ops Q rest ((d,val g) :: m) (mem g)):TL C ops Q (o :: rest) m L:=fun a w hs =>
 wpList_plain hg fun K hK=>ho a w hs Q K fun g w' hs'=>hK _ _ (h g _ _ (by rw [hd]; exact hs.put hN hs'))
theorem adv {o:Oper} {Γ:Type} {val:Γ → Value} {mem:Γ → Mem} (hg:o.guard=none) (hd:o.dst=none)
  (ho:OP C o m L val mem) (h : ∀ g,TL C ops Q rest m (mem g)):TL C ops Q (o :: rest) m L:=fun a w hs =>
 wpList_plain hg fun K hK=>ho a w hs Q K fun g w' hs'=>hK _ _ (h g _ _ (by rw [hd]; exact hs.mem hs'))
theorem jr {o:Oper} {d j:Nat} {want b:Bool} {oj:Oper} {dj:Nat} (hg:o.guard=some (j,want)) (hd:o.dst=some d) (hN:Nat.blt d C.N=true)
  (hj:ops[j]? = some oj) (hdj:oj.dst=some dj) (hb:lk m dj=some (.bool b)) (hne:(b == want)=false)
  (h:TL C ops Q rest ((d,undef) :: m) L):TL C ops Q (o :: rest) m L:=fun a w hs=>by
 have hw:Region.wanted o (yielded ops a.tmps)=false:=by
  have h1:=hs.slots dj _ hb
  simp only [Region.wanted,hg,yielded,hj,hdj,Option.bind_some,h1]
  cases b <;> cases want <;> simp_all
 refine wpList_skip hw (h _ _ ?_)
 rw [hd]
 exact hs.put hN hs.step
theorem tX {o:Oper} {j:Nat} {want:Bool} {oj:Oper} {dj:Nat} {d:Nat} {v:Value} (hg:o.guard=some (j,want)) (hd:o.dst=some d) (hN:Nat.blt d C.N=true)
  (hj:ops[j]? = some oj) (hdj:oj.dst=some dj) (hb:lk m dj=some (.bool want)) (ho:Ou C o m L v)
  (h:TL C ops Q rest ((d,v) :: m) L):TL C ops Q (o :: rest) m L:=fun a w hs=>by
 have hw:Region.wanted o (yielded ops a.tmps)=true:=by
  have h1:=hs.slots dj _ hb
  simp [Region.wanted,hg,yielded,hj,hdj,h1]
 refine wpList_step fun K hK=>?_
 rw [if_pos hw]
 unfold Oper.wp
 rw [ho a w hs,Oper.upon_value]
 refine hK _ _ (h _ _ ?_)
 rw [hd]
 exact hs.put hN hs.step
theorem mJ {o:Oper} {j:Nat} {want:Bool} {oj:Oper} {dj:Nat} {d:Nat} {Γ:Type} {val:Γ → Value} {mem:Γ → Mem} (hg:o.guard=some (j,want)) (hd:o.dst=some d) (hN:Nat.blt d C.N=true)
  (hj:ops[j]? = some oj) (hdj:oj.dst=some dj) (hb:lk m dj=some (.bool want)) (ho:OP C o m L val mem)
  (h : ∀ g,TL C ops Q rest ((d,val g) :: m) (mem g)):TL C ops Q (o :: rest) m L:=fun a w hs=>by
 have hw:Region.wanted o (yielded ops a.tmps)=true:=by
  have h1:=hs.slots dj _ hb
  simp [Region.wanted,hg,yielded,hj,hdj,h1]
 refine wpList_step fun K hK=>?_
 rw [if_pos hw]
 exact ho a w hs Q K fun g w' hs'=>hK _ _ (h g _ _ (by rw [hd]; exact hs.put hN hs'))
theorem nu {P:Program} {f:FuncId} {fn:Func} {c:Code} {args:List Value} {w:World} {L0 Ro:Mem} {R:Ending → World → Prop} {N:Nat} {m0:Sl}
  (hf:P.funcs[f]? = some fn) (hb:fn.body=some c) (hN:fn.ntmps=N) (hm : ∀ t v,lk m0 t=some v → args[t]? = some v) (hsz:Nat.ble args.length N=true)
  (hmem:NZ w L0) (hro : ∀ e ∈ Ro,Has w e) (hd : ∀ f ∈ L0, ∀ e ∈ Ro,JX f e)
  (h:TC ⟨P,w,L0,Ro,N⟩ c (bodyPost P fn R) m0 L0):Calls P f args.toArray w R:=by
 refine calls_of_wp hf hb (h _ _ ⟨rfl,?_,?_,Step.refl hmem,hro,hd⟩)
 ·have:=Nat.le_of_ble_eq_true hsz
  simp [hN]
  omega
 ·intro t v ht
  have h1:=hm t v ht
  have hlt:t<args.length:=(List.getElem?_eq_some_iff.1 h1).1
  simp only [Array.getElem?_append,List.size_toArray,hlt,if_true]
  simpa using h1
def oZ:Nat → List Value → Sl
 | _,[]=>[]
 | k,v :: r=>(k,v) :: oZ (k+1) r
theorem uY : ∀ (vs:List Value) (k t:Nat) (v:Value),lk (oZ k vs) t=some v → k≤t∧vs[t - k]? = some v
 | [],_,_,_,h=>by simp [oZ,lk] at h
 | u :: r,k,t,v,h=>by
  simp only [oZ,lk] at h
  cases hb:Nat.beq k t with
  | true =>
   simp only [hb,Option.some.injEq] at h
   have:=Nat.eq_of_beq_eq_true hb
   subst this
   simp [h]
  | false =>
   simp only [hb] at h
   obtain ⟨h1,h2⟩:=uY r (k+1) t v h
   refine ⟨by omega,?_⟩
   have:t - k=(t - (k+1))+1:=by omega
   rw [this]
   simpa using h2
theorem ib (vs:List Value) : ∀ t v,lk (oZ 0 vs) t=some v → vs[t]? = some v:=fun t v h=>by
 have:=uY vs 0 t v h
 simpa using this.2
def bA (C:Ctx) (m:Sl) (L:Mem):ResultVar → Value → Prop
 | .tmp t,v=>lk m t=some v
 | .cell p ty,v => ∃ a:Addr,lk m p=some (.pointer (some a)) ∧ ∀ w,Step C.w0 C.L0 w L → gp C → (loadVar ty a).run C.P w = .ok v w
def GR (C:Ctx) (m:Sl) (L:Mem):List ResultVar → List Value → Prop
 | [],[]=>True
 | r :: rs,v :: vs=>bA C m L r v∧GR C m L rs vs
 | _,_=>False
def JE:List Value → Value
 | [v]=>v
 | vs => .tuple vs.toArray
theorem Fy {a:Act} {w:World} (hs:Sat C m L a w) : ∀ (rs:List ResultVar) (vs:List Value),GR C m L rs vs →
  (rs.mapM (m:=Sem) fun
   | .tmp t=>(pure (a.tmps.getD t undef):Sem Value)
   | .cell x t=>do loadVar t (← asAddr (a.tmps.getD x undef))).run C.P w = .ok vs w
 | [],[],_=>by simp
 | [],_ :: _,h=>h.elim
 | _ :: _,[],h=>h.elim
 | r :: rs,v :: vs,⟨h1,h2⟩=>by
  have ih:=Fy hs rs vs h2
  rw [List.mapM_cons,Sem.run_bind]
  have h3:(match r with
   | .tmp t=>(pure (a.tmps.getD t undef):Sem Value)
   | .cell x t=>do loadVar t (← asAddr (a.tmps.getD x undef))).run C.P w = .ok v w:=by
   cases r with
   | tmp t =>
    have:=hs.slots t v h1
    simp [this]
   | cell p ty =>
    obtain ⟨ad,hp,hl⟩:=h1
    have:=hs.slots p _ hp
    simp [this,asAddr,hl w hs.step hs.ro]
  cases r <;> simp only at h3 <;> rw [h3] <;> simp only [Result.andThen_ok] <;> rw [Sem.run_bind,ih] <;> simp
theorem wD {fn:Func} {R:Ending → World → Prop} {rs:List ResultVar} {vs:List Value} (hr:fn.results=rs.toArray) (hv:GR C m L rs vs)
  (hR : ∀ w,Step C.w0 C.L0 w L → R (.returned (JE vs)) w):TX C (bodyPost C.P fn R) .ret m L:=fun a w hs=>by
 refine ⟨hs.defers,_,?_,hR w hs.step⟩
 have h1:=Fy hs rs vs hv
 have hlen : ∀ (rs:List ResultVar) (vs:List Value),GR C m L rs vs → rs.length=vs.length:=by
  intro rs
  induction rs with
  | nil=>intro vs h; cases vs <;> simp_all [GR]
  | cons r rs ih=>intro vs h; cases vs with
   | nil=>simp [GR] at h
   | cons v vs=>simp [ih vs h.2]
 unfold results
 rw [hr,Sem.run_bind]
 have h2:(Array.mapM (m:=Sem) (fun
   | .tmp t=>(pure (a.tmps.getD t undef):Sem Value)
   | .cell x t=>do loadVar t (← asAddr (a.tmps.getD x undef))) rs.toArray).run C.P w = .ok vs.toArray w:=by
  rw [List.mapM_toArray, ← bind_pure_comp,Sem.run_bind,h1]
  simp
 refine (congrArg (fun r=>Result.andThen r _) h2).trans ?_
 simp only [Result.andThen_ok]
 match vs with
 | []=>simp [JE]
 | [v]=>simp [JE]
 | v :: u :: r=>simp [JE]
end rules
end Go.Kx
end

section
namespace Go.Kx
open Go
section
variable {C:Ctx} {m:Sl} {L:Mem} {dst:Option Tmp} {ty:TypeId} {pos:String} {af:Array Edge} {gd:Option (Nat × Bool)}
theorem ZO {x:Operand} {v:Value} (hx:ev m x=some v):Ou C ⟨dst, .move x,ty,pos,af,gd⟩ m L v:=fun a w hs=>by
 simp [execOp,hs.slots.ev hx]
theorem XL {x:Operand} {v:Value} (hx:ev m x=some v):Ou C ⟨dst, .assign x,ty,pos,af,gd⟩ m L v:=fun a w hs=>by
 simp [execOp,hs.slots.ev hx]
theorem zR {c x y:Operand} {b:Bool} {vx:Value} (hc:ev m c=some (.bool b)) (hx:ev m (if b then x else y)=some vx) :
  Ou C ⟨dst, .pick c x y,ty,pos,af,gd⟩ m L vx:=fun a w hs=>by
 have h2:=hs.slots.ev hx
 cases b <;> simp_all [execOp,hs.slots.ev hc,asBool]
def TU (op:BinOp) (t:TypeId) (x y:Operand) (a b:Value):Sem Value:=do eqGuard op t x y a b; binOp op t a b
theorem Zg {op:BinOp} {t t':TypeId} {x y:Operand} {vx vy v:Value} (hx:ev m x=some vx) (hy:ev m y=some vy)
  (hr : ∀ w,(TU op t x y vx vy).run C.P w = .ok v w):Ou C ⟨dst, .binOp op t x y t',ty,pos,af,gd⟩ m L v:=fun a w hs=>by
 show ((TU op t x y (a.eval x) (a.eval y)) >>= fun r=>pure (Next.value r)).run C.P w=_
 rw [Sem.run_bind,hs.slots.ev hx,hs.slots.ev hy,hr w]
 simp
theorem ac3 {op:UnOp} {t:TypeId} {x:Operand} {vx v:Value} (hx:ev m x=some vx)
  (hr : ∀ w,(Op.unary op vx).run C.P w = .ok v w):Ou C ⟨dst, .unOp op t x,ty,pos,af,gd⟩ m L v:=fun a w hs=>by
 simp [execOp,hs.slots.ev hx,Sem.run_bind,hr w]
theorem Vu {s t:TypeId} {x:Operand} {vx v:Value} (hx:ev m x=some vx)
  (hr : ∀ w,(convert s t vx).run C.P w = .ok v w):Ou C ⟨dst, .convert s t x,ty,pos,af,gd⟩ m L v:=fun a w hs=>by
 simp [execOp,hs.slots.ev hx,Sem.run_bind,hr w]
theorem Cm {x:Operand} {i:Nat} {vs:List Value} {v:Value} (hx:ev m x=some (.tuple vs.toArray)) (hv:vs[i]? = some v) :
  Ou C ⟨dst, .extract x i,ty,pos,af,gd⟩ m L v:=fun a w hs=>by
 simp [execOp,hs.slots.ev hx,Instr.extract,hv]
theorem Zh {x:Operand} {ad:Addr} (hx:ev m x=some (.pointer (some ad))):Ou C ⟨dst, .nilCheck x,ty,pos,af,gd⟩ m L (.pointer (some ad)):=fun a w hs=>by
 simp [execOp,hs.slots.ev hx]
theorem ZG {x:Operand} {A:Y6} {n c:Nat} {t e:TypeId} (hx:ev m x=some (sl A n c)) (hu:C.P.underlying t=some (.slice e)) :
  Ou C ⟨dst, .call ⟨.builtin .len, #[x], #[t]⟩,ty,pos,af,gd⟩ m L (vi n):=fun a w hs=>by
 simp [execOp,resolve,hs.slots.ev hx,invoke,builtin,Builtin.len_,Sem.run_bind,run_underlying hu,sl,goInt,vi]
theorem OQ (s:Str):(bytes s).size=s.length:=by simp [bytes,ByteArray.size]
theorem Zf {x:Operand} {s:Str} {t:TypeId} (hx:ev m x=some (vs s)) (hu:C.P.underlying t=some .string) :
  Ou C ⟨dst, .call ⟨.builtin .len, #[x], #[t]⟩,ty,pos,af,gd⟩ m L (vi s.length):=fun a w hs=>by
 simp [execOp,resolve,hs.slots.ev hx,invoke,builtin,Builtin.len_,Sem.run_bind,run_underlying hu,vs,goInt,vi,OQ]
theorem Ob {A:Y6} {i k:Nat}:(loc A i).add k=loc A (i+k):=by
 unfold Addr.add loc
 split
 ·rename_i h; subst h; rfl
 ·simp [Nat.add_assoc]
theorem Vk {x:Operand} {A:Y6} {o k f:Nat} {t:TypeId} {fs:Array Field} {fd:Field} (hx:ev m x=some (ptr A o)) (hu:C.P.underlying t=some (.struct fs))
  (hf:fs[f]? = some fd) (hk:fd.offset=k) {inf:TypeInfo} (hi:C.P.info? fd.type=some inf) (h0:Nat.beq inf.size 0=false) :
  Ou C ⟨dst, .fieldAddr t x f,ty,pos,af,gd⟩ m L (ptr A (o+k)):=fun a w hs=>by
 have h0':inf.size ≠ 0:=fun h=>by rw [h] at h0; cases h0
 simp [execOp,hs.slots.ev hx,Instr.fieldAt,Sem.run_bind,run_underlying hu,hf,ptr,Instr.sureAddr,fieldPlace,sizeOf,typeInfo,hi,h0',Ob,hk]
theorem Zw {x ix:Operand} {A:Y6} {o n s k:Nat} {kd:IntKind} {i:Int} {t e:TypeId} {inf:TypeInfo} (hx:ev m x=some (ptr A o)) (hi:ev m ix=some (.int kd i))
  (hu:C.P.underlying t=some (.array n e)) (hs':C.P.info? e=some inf) (hsz:inf.size=s) (h0:0≤i) (h1:i<n) (hk:o+i.toNat * s=k) :
  Ou C ⟨dst, .indexAddr t x ix,ty,pos,af,gd⟩ m L (ptr A k):=fun a w hs=>by
 simp [execOp,hs.slots.ev hx,hs.slots.ev hi,Instr.indexAt,Sem.run_bind,run_underlying hu,ptr,Instr.sureAddr,asIntOf,h0,h1,sizeOf,typeInfo,hs',hsz,Ob,hk]
theorem RQ {x ix:Operand} {A:Y6} {n c s k:Nat} {kd:IntKind} {i:Int} {t e:TypeId} {inf:TypeInfo} (hx:ev m x=some (sl A n c)) (hi:ev m ix=some (.int kd i))
  (hu:C.P.underlying t=some (.slice e)) (hs':C.P.info? e=some inf) (hsz:inf.size=s) (hA:n ≠ 0 → A ≠ none) (h0:0≤i) (h1:i<n) (hk:i.toNat * s=k) :
  Ou C ⟨dst, .indexAddr t x ix,ty,pos,af,gd⟩ m L (ptr A k):=fun a w hs=>by
 have hn:A ≠ none:=hA (by omega)
 cases A with
 | none=>exact absurd rfl hn
 | some p =>
  have hadd:(⟨p.1,p.2,none⟩:Addr).add (i.toNat * s)=loc (some p) k:=by
   have := @Ob (some p) 0 (i.toNat * s)
   simpa [loc,bk,EY,hk] using this
  simp [execOp,hs.slots.ev hx,hs.slots.ev hi,Instr.indexAt,Sem.run_bind,run_underlying hu,ptr,sl,asIntOf,h0,h1,sizeOf,typeInfo,hs',hsz,hadd]
def Src (C:Ctx) (L:Mem) (e:Ent):Prop := ∀ w,Step C.w0 C.L0 w L → gp C → Has w e
theorem Src.own {j:Nat} {e:Ent} (h:L[j]? = some e):Src C L e:=fun w hs _=>(hs.ok.1 e (List.mem_of_getElem? h)).has
theorem Src.ro {j:Nat} {e:Ent} (h:C.Ro[j]? = some e):Src C L e:=fun w hs hr =>
 (hr.1 e (List.mem_of_getElem? h)).keep hs.chg (fun f hf=>hr.2 f hf e (List.mem_of_getElem? h))
theorem Src.join {A:Y6} {c1 c2:List Value} {n:Nat} (hn:c1.length=n) (h1:Src C L ⟨A,c1⟩) (h2:Src C L ⟨sh A n,c2⟩):Src C L ⟨A,c1++c2⟩ :=
 fun w hs hr=>(h1 w hs hr).join (by rw [hn]; exact h2 w hs hr)
theorem Src.part {A:Y6} {cs:List Value} (k n:Nat) (h:Src C L ⟨A,cs⟩):Src C L ⟨sh A k,(cs.drop k).take n⟩:=fun w hs hr=>by
 obtain ⟨h1,h2⟩:=h w hs hr
 refine ⟨fun hn=>?_,fun i v hv=>?_⟩
 ·have:A=none:=by cases A <;> simp_all [sh]
  have h4:cs=[]:=h1 this
  simp [h4]
 ·rw [List.getElem?_take] at hv
  split at hv
  ·rw [List.getElem?_drop] at hv
   have h3:=h2 _ v hv
   cases A with
   | none=>simp only [forall_const] at h1; rw [h1] at hv; simp at hv
   | some p =>
    have:loc (sh (some p) k) i=loc (some p) (k+i):=by simp [loc,sh,bk,EY,Nat.add_assoc]
    rw [this]
    exact h3
  ·cases hv
theorem Z8 {x:Operand} {A:Y6} {o:Nat} {cs:List Value} {v:Value} {t:TypeId} (hx:ev m x=some (ptr A o)) (hsrc:Src C L ⟨A,cs⟩) (hv:cs[o]? = some v)
  (hty : ∀ w,(isAgg t).run C.P w = .ok false w):Ou C ⟨dst, .load t x,ty,pos,af,gd⟩ m L v:=fun a w hs=>by
 have h1:=(hsrc w hs.step hs.ro).2 o v hv
 simp [execOp,hs.slots.ev hx,Instr.loadAt,Instr.sureAddr,ptr,Sem.run_bind,loadVar,hty,load,Sem.run,h1]
theorem LK {w:World} {A:Y6} {cs:List Value} {P:Program} (h:Has w ⟨A,cs⟩) (hA:A ≠ none):(loadCells (loc A 0) cs.length).run P w = .ok cs.toArray w :=
 run_loadCells_list (P:=P) w (loc A 0) cs (fun j v hv=>by rw [Ob,Nat.zero_add]; exact h.2 j v hv)
theorem aI {A:Y6} {o:Nat} (hA:A ≠ none):ptr A o=ptr (sh A o) 0:=by
 cases A with
 | none=>exact absurd rfl hA
 | some p=>simp [ptr,loc,sh,bk,EY]
theorem FZ {x:Operand} {A:Y6} {cs:List Value} {t:TypeId} {inf:TypeInfo} {n:Nat} (hx:ev m x=some (ptr A 0)) (hA:A ≠ none) (hsrc:Src C L ⟨A,cs⟩)
  (hty : ∀ w,(isAgg t).run C.P w = .ok true w) (hi:C.P.info? t=some inf) (hn:inf.size=n) (hlen:cs.length=n):Ou C ⟨dst, .load t x,ty,pos,af,gd⟩ m L (.agg cs.toArray):=fun a w hs=>by
 have h1:=LK (P:=C.P) (hsrc w hs.step hs.ro) hA
 rw [hlen] at h1
 simp [execOp,hs.slots.ev hx,Instr.loadAt,Instr.sureAddr,ptr,Sem.run_bind,loadVar,hty,sizeOf,typeInfo,hi,hn,h1]
theorem Wm {p:Tmp} {A:Y6} {cs:List Value} {t:TypeId} {inf:TypeInfo} {n:Nat} (hx:lk m p=some (ptr A 0)) (hA:A ≠ none) (hsrc:Src C L ⟨A,cs⟩)
  (hty : ∀ w,(isAgg t).run C.P w = .ok true w) (hi:C.P.info? t=some inf) (hn:inf.size=n) (hlen:cs.length=n):bA C m L (.cell p t) (.agg cs.toArray) :=
 ⟨loc A 0,hx,fun w hs hr=>by
  have h1:=LK (P:=C.P) (hsrc w hs hr) hA
  rw [hlen] at h1
  simp [Sem.run_bind,loadVar,hty,sizeOf,typeInfo,hi,hn,h1]⟩
theorem run_store {P:Program} {w:World} {A:Y6} {i:Nat} {v u:Value} (hc:w.cell? (loc A i)=some u) (hf:w.frozen? (loc A i)=false) (hv:v.oneCell'=true) :
  (store (loc A i) v).run P w = .ok () (w.setCell (loc A i) v):=by
 cases v <;> simp_all [store,Sem.run,Value.oneCell']
theorem YR {x y:Operand} {A:Y6} {o j:Nat} {cs cs':List Value} {v:Value} {t:TypeId} {inf:TypeInfo} (hx:ev m x=some (ptr A o)) (hy:ev m y=some v)
  (hi:C.P.info? t=some inf) (hn:inf.size=1) (hv:v.oneCell'=true)
  (hj:L[j]? = some ⟨A,cs⟩) (ho:o<cs.length) (hcs:cs.set o v=cs') :
  OP C ⟨dst, .store t x y,ty,pos,af,gd⟩ m L (Γ:=Unit) (fun _=>undef) (fun _=>L.set j ⟨A,cs'⟩):=fun a w hs Q K hK=>by
 subst hcs
 have hok:=hs.step.ok.1 _ (List.mem_of_getElem? hj)
 have hc:=hok.2 o _ (List.getElem?_eq_getElem ho)
 have hcells:v.cells = #[v]:=by cases v <;> simp_all [Value.cells,Value.oneCell']
 have hrun:(execOp a.eval ⟨dst, .store t x y,ty,pos,af,gd⟩).run C.P w = .ok .skip (w.setCell (loc A o) v):=by
  have hst:=run_store (P:=C.P) hc.1 hc.2 hv
  simp [execOp,hs.slots.ev hx,hs.slots.ev hy,Instr.storeAt,Instr.sureAddr,ptr,Sem.run_bind,storeVar,sizeOf,typeInfo,hi,hn,hcells,storeCells,Ob,hst]
 unfold Oper.wp
 rw [hrun]
 have hlt:j<L.length:=(List.getElem?_eq_some_iff.1 hj).1
 have hp:L.Perm (⟨A,cs⟩ :: L.eraseIdx j):=QL L j _ hj
 have h1:Step C.w0 C.L0 w ([⟨A,cs⟩]++L.eraseIdx j):=hs.step.perm hp
 have h2:=h1.frame (Step.set (e:=⟨A,cs⟩) (i:=o) v h1.ok.left ho)
 refine hK () _ (h2.perm ?_)
 have h3:(L.set j ⟨A,cs.set o v⟩).Perm (⟨A,cs.set o v⟩ :: (L.set j ⟨A,cs.set o v⟩).eraseIdx j):=QL _ j _ (by simp [hlt])
 rw [List.eraseIdx_set_eq] at h3
 exact h3.symm
end
end Go.Kx
end
