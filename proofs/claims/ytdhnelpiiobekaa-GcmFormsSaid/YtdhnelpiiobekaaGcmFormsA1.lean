/-
  Part 1 of the proof of GcmForms.
-/
import Derived.WalkKit
import Derived.KernelRfl
import Derived.Orders
import Derived.Below
import Derived.Laws.BytesArg
import Derived.Laws.Append
import Derived.Laws.AppendOwn
set_option linter.unusedVariables false
set_option linter.unusedSimpArgs false
section
namespace Go.Kx
abbrev Adr:=Option (Nat × Nat)
def bk (A:Adr):Nat:=(A.getD (0,0)).1
def ofs (A:Adr):Nat:=(A.getD (0,0)).2
def loc (A:Adr) (i:Nat):Addr:=⟨bk A,ofs A+i,none⟩
def ptr (A:Adr) (i:Nat):Value := .pointer (some (loc A i))
def sl (A:Adr) (n c:Nat):Value := .slice (A.map fun p=>⟨p.1,p.2,none⟩) n c
def sh (A:Adr) (k:Nat):Adr:=A.map fun p=>(p.1,p.2+k)
structure Ent where
 A:Adr
 cs:List Value
abbrev Mem:=List Ent
def EntOk (w:World) (e:Ent):Prop :=
 (e.A=none → e.cs=[]) ∧ ∀ i v,e.cs[i]? = some v → w.cell? (loc e.A i)=some v∧w.frozen? (loc e.A i)=false
def EDisj (e f:Ent):Prop := ∀ i j,i<e.cs.length → j<f.cs.length → loc e.A i ≠ loc f.A j
theorem EDisj.symm {e f:Ent} (h:EDisj e f):EDisj f e:=fun i j hi hj=>(h j i hj hi).symm
def MemOk (w:World) (L:Mem):Prop:=(∀ e ∈ L,EntOk w e)∧L.Pairwise EDisj
def foot (L:Mem) (a:Addr):Prop := ∃ e ∈ L, ∃ i,i<e.cs.length∧a=loc e.A i
structure Chg (w0:World) (L0:Mem) (w:World):Prop where
 os:w.os=w0.os
 tape:w.tape=w0.tape
 output:w.output=w0.output
 size:w0.heap.size≤w.heap.size
 cell : ∀ b o,b<w0.heap.size → ¬ foot L0 ⟨b,o,none⟩ → w.cell? ⟨b,o,none⟩=w0.cell? ⟨b,o,none⟩∧w.frozen? ⟨b,o,none⟩=w0.frozen? ⟨b,o,none⟩
 block : ∀ b,b<w0.heap.size → (∀ o, ¬ foot L0 ⟨b,o,none⟩) → w.heap[b]? = w0.heap[b]?
structure Step (w0:World) (L0:Mem) (w:World) (L:Mem):Prop where
 chg:Chg w0 L0 w
 ok:MemOk w L
 new : ∀ a,foot L a → w0.heap.size≤a.block ∨ foot L0 a
theorem block_lt {w:World} {a:Addr} {v:Value} (h:w.cell? a=some v):a.block<w.heap.size:=by
 by_cases hlt:a.block<w.heap.size
 ·exact hlt
 ·have hn:w.heap[a.block]? = none:=by simp; omega
  simp [World.cell?,hn] at h
theorem EntOk.lt {w:World} {e:Ent} (h:EntOk w e) {i:Nat} (hi:i<e.cs.length):(loc e.A i).block<w.heap.size :=
 block_lt (h.2 i _ (List.getElem?_eq_getElem hi)).1
theorem foot_append {A B:Mem} {a:Addr}:foot (A++B) a ↔ foot A a ∨ foot B a:=by
 constructor
 ·rintro ⟨e,he,h⟩
  rcases List.mem_append.1 he with h1 | h1
  ·exact .inl ⟨e,h1,h⟩
  ·exact .inr ⟨e,h1,h⟩
 ·rintro (⟨e,he,h⟩ | ⟨e,he,h⟩)
  ·exact ⟨e,List.mem_append_left _ he,h⟩
  ·exact ⟨e,List.mem_append_right _ he,h⟩
theorem foot_nil {a:Addr} : ¬ foot [] a:=fun ⟨_,h,_⟩=>by cases h
theorem Chg.refl (w:World) (L:Mem):Chg w L w:=⟨rfl,rfl,rfl,Nat.le_refl _,fun _ _ _ _=>⟨rfl,rfl⟩,fun _ _ _=>rfl⟩
theorem Step.refl {w:World} {L:Mem} (h:MemOk w L):Step w L w L:=⟨Chg.refl w L,h,fun _ h => .inr h⟩
theorem MemOk.disj {w:World} {A R:Mem} (h:MemOk w (A++R)) {e f:Ent} (he:e ∈ A) (hf:f ∈ R):EDisj e f :=
 (List.pairwise_append.1 h.2).2.2 e he f hf
theorem Step.frame {w0 w w':World} {L0 A R B:Mem} (h:Step w0 L0 w (A++R)) (k:Step w A w' B):Step w0 L0 w' (B++R):=by
 have hA : ∀ b o,b<w0.heap.size → ¬ foot L0 ⟨b,o,none⟩ → ¬ foot A ⟨b,o,none⟩:=fun b o hb hn hf=>by
  rcases h.new _ (foot_append.2 (.inl hf)) with h1 | h1
  ·exact absurd hb (Nat.not_lt.2 h1)
  ·exact hn h1
 have hR : ∀ f ∈ R, ∀ i,i<f.cs.length → ¬ foot A (loc f.A i):=fun f hf i hi ⟨e,he,j,hj,heq⟩ =>
  h.ok.disj he hf j i hj hi heq.symm
 refine ⟨⟨k.chg.os.trans h.chg.os,k.chg.tape.trans h.chg.tape,k.chg.output.trans h.chg.output,Nat.le_trans h.chg.size k.chg.size,?_,?_⟩,⟨?_,?_⟩,?_⟩
 ·intro b o hb hn
  have h1:=h.chg.cell b o hb hn
  have h2:=k.chg.cell b o (Nat.lt_of_lt_of_le hb h.chg.size) (hA b o hb hn)
  exact ⟨h2.1.trans h1.1,h2.2.trans h1.2⟩
 ·intro b hb hn
  exact (k.chg.block b (Nat.lt_of_lt_of_le hb h.chg.size) (fun o=>hA b o hb (hn o))).trans (h.chg.block b hb hn)
 ·intro e he
  rcases List.mem_append.1 he with h1 | h1
  ·exact k.ok.1 e h1
  ·have ho:=h.ok.1 e (List.mem_append_right _ h1)
   refine ⟨ho.1,fun i v hv=>?_⟩
   have hi:i<e.cs.length:=(List.getElem?_eq_some_iff.1 hv).1
   have h2:=ho.2 i v hv
   have h3:=k.chg.cell (loc e.A i).block (loc e.A i).off (block_lt h2.1) (hR e h1 i hi)
   exact ⟨h3.1.trans h2.1,h3.2.trans h2.2⟩
 ·refine List.pairwise_append.2 ⟨k.ok.2,(List.pairwise_append.1 h.ok.2).2.1,fun e he f hf i j hi hj heq=>?_⟩
  rcases k.new _ ⟨e,he,i,hi,rfl⟩ with h1 | h1
  ·rw [heq] at h1
   exact absurd ((h.ok.1 f (List.mem_append_right _ hf)).lt hj) (Nat.not_lt.2 h1)
  ·rw [heq] at h1
   exact hR f hf j hj h1
 ·intro a ha
  rcases foot_append.1 ha with h1 | h1
  ·rcases k.new a h1 with h2 | h2
   ·exact .inl (Nat.le_trans h.chg.size h2)
   ·exact h.new a (foot_append.2 (.inl h2))
  ·exact h.new a (foot_append.2 (.inr h1))
theorem foot_perm {L L':Mem} (hp:L.Perm L') {a:Addr} (h:foot L a):foot L' a :=
 let ⟨e,he,x⟩:=h; ⟨e,hp.mem_iff.1 he,x⟩
theorem MemOk.perm {w:World} {L L':Mem} (h:MemOk w L) (hp:L.Perm L'):MemOk w L' :=
 ⟨fun e he=>h.1 e (hp.mem_iff.2 he),(hp.pairwise_iff (fun {_ _} h=>EDisj.symm h)).1 h.2⟩
theorem Step.perm {w0 w:World} {L0 L L':Mem} (h:Step w0 L0 w L) (hp:L.Perm L'):Step w0 L0 w L' :=
 ⟨h.chg,h.ok.perm hp,fun a ha=>h.new a (foot_perm hp.symm ha)⟩
theorem MemOk.left {w:World} {A B:Mem} (h:MemOk w (A++B)):MemOk w A :=
 ⟨fun e he=>h.1 e (List.mem_append_left _ he),(List.pairwise_append.1 h.2).1⟩
theorem Step.left {w0 w:World} {L0 A B:Mem} (h:Step w0 L0 w (A++B)):Step w0 L0 w A :=
 ⟨h.chg,h.ok.left,fun a ha=>h.new a (foot_append.2 (.inl ha))⟩
def pull {α:Type}:List Nat → List α → Option (List α × List α)
 | [],L=>some ([],L)
 | i :: is,L=>match L[i]? with
  | none=>none
  | some x=>match pull is (L.eraseIdx i) with
   | none=>none
   | some (a,b)=>some (x :: a,b)
theorem perm_erase {α:Type} : ∀ (L:List α) (i:Nat) (x:α),L[i]? = some x → L.Perm (x :: L.eraseIdx i)
 | [],_,_,h=>by simp at h
 | y :: L,0,x,h=>by simp at h; subst h; exact List.Perm.refl _
 | y :: L,i+1,x,h=>by
  simp only [List.getElem?_cons_succ] at h
  exact ((perm_erase L i x h).cons y).trans (List.Perm.swap x y _)
theorem pull_perm {α:Type} : ∀ (is:List Nat) (L A B:List α),pull is L=some (A,B) → L.Perm (A++B)
 | [],L,A,B,h=>by simp only [pull,Option.some.injEq,Prod.mk.injEq] at h; obtain ⟨rfl,rfl⟩:=h; exact List.Perm.refl _
 | i :: is,L,A,B,h=>by
  simp only [pull] at h
  cases hx:L[i]? with
  | none=>simp [hx] at h
  | some x =>
   simp only [hx] at h
   cases hp:pull is (L.eraseIdx i) with
   | none=>simp [hp] at h
   | some p =>
    obtain ⟨a,b⟩:=p
    simp only [hp,Option.some.injEq,Prod.mk.injEq] at h
    obtain ⟨rfl,rfl⟩:=h
    have ih:=pull_perm is _ _ _ hp
    obtain ⟨hi,hxi⟩:=List.getElem?_eq_some_iff.1 hx
    have h1:L.Perm (x :: L.eraseIdx i):=perm_erase L i x hx
    exact h1.trans (ih.cons x)
theorem Step.pulled {w0 w:World} {L0 L A B:Mem} (h:Step w0 L0 w L) {is:List Nat} (hp:pull is L=some (A,B)):Step w0 L0 w (A++B) :=
 h.perm (pull_perm is L A B hp)
theorem cell_alloc_old {w:World} {o:Obj} {b k:Nat} (h:b<w.heap.size):({ w with heap:=w.heap.push o }:World).cell? ⟨b,k,none⟩=w.cell? ⟨b,k,none⟩ ∧
  ({ w with heap:=w.heap.push o }:World).frozen? ⟨b,k,none⟩=w.frozen? ⟨b,k,none⟩:=by
 have:(w.heap.push o)[b]? = w.heap[b]? := by rw [Array.getElem?_push,if_neg (by omega)]
 simp [World.cell?,World.frozen?,this]
theorem Step.alloc (w:World) (cs:Array Value) (t:TypeId) (fr:Nat × Nat) (hfr:cs.size≤fr.1 ∨ fr.2=0) :
  Step w [] { w with heap:=w.heap.push (.cells cs t fr) } [⟨some (w.heap.size,0),cs.toList⟩]:=by
 refine ⟨⟨rfl,rfl,rfl,by simp,fun b o hb _=>cell_alloc_old hb,fun b hb _=>by
   show (w.heap.push _)[b]? = _
   rw [Array.getElem?_push,if_neg (by omega)]⟩,⟨?_,by simp⟩,?_⟩
 ·intro e he
  rw [List.mem_singleton] at he
  subst he
  refine ⟨(fun h=>by cases h),fun i v hv=>?_⟩
  have hi:i<cs.size:=by have:=(List.getElem?_eq_some_iff.1 hv).1; simpa using this
  have hn:(w.heap.push (.cells cs t fr))[w.heap.size]? = some (.cells cs t fr):=by simp
  have hv':cs[i]? = some v:=by simpa using hv
  constructor
  ·simp [World.cell?,loc,bk,ofs,hv']
  ·simp only [World.frozen?,loc,bk,ofs,Option.getD_some,hn,Nat.zero_add]
   rcases hfr with h | h
   ·simp; omega
   ·simp [h]
 ·rintro a ⟨e,he,i,hi,rfl⟩
  rw [List.mem_singleton] at he
  subst he
  exact .inl (Nat.le_refl _)
theorem cell_set_same {w:World} {A:Adr} {i:Nat} {v u:Value} (h:w.cell? (loc A i)=some u):(w.setCell (loc A i) v).cell? (loc A i)=some v:=by
 unfold World.cell? at h ⊢
 unfold World.setCell
 simp only [Array.getElem?_modify,if_true,loc,Option.isSome_none] at h ⊢
 cases hb:w.heap[bk A]? with
 | none=>simp [hb] at h
 | some o =>
  cases o <;> simp only [hb,Option.map_some,Bool.false_eq_true,if_false,reduceCtorEq] at h ⊢
  have hlt:=(Array.getElem?_eq_some_iff.1 h).1
  rw [Array.getElem?_setIfInBounds_self_of_lt hlt]
theorem cell_set_other {w:World} {a:Addr} {v:Value} {b o:Nat} (h:a ≠ ⟨b,o,none⟩):(w.setCell a v).cell? ⟨b,o,none⟩=w.cell? ⟨b,o,none⟩:=by
 unfold World.cell? World.setCell
 simp only [Array.getElem?_modify]
 by_cases hb:a.block=b
 ·subst hb
  simp only [if_true]
  cases hh:w.heap[a.block]? with
  | none=>rfl
  | some x =>
   cases x <;> simp
   split
   ·rfl
   ·rename_i hs
    have hs':a.spot=none:=by simpa using hs
    have hne:a.off ≠ o:=fun he=>h (by cases a; simp_all)
    rw [Array.getElem?_setIfInBounds_ne hne]
 ·rw [if_neg (by omega)]
theorem frozen_set {w:World} {a:Addr} {v:Value} {p:Addr}:(w.setCell a v).frozen? p=w.frozen? p:=by
 unfold World.frozen? World.setCell
 simp only [Array.getElem?_modify]
 by_cases hb:a.block=p.block
 ·rw [if_pos hb]
  cases hh:w.heap[p.block]? with
  | none=>simp
  | some x=>cases x <;> simp
 ·rw [if_neg (by omega)]
theorem Step.set {w:World} {e:Ent} {i:Nat} (v:Value) (h:MemOk w [e]) (hi:i<e.cs.length) :
  Step w [e] (w.setCell (loc e.A i) v) [⟨e.A,e.cs.set i v⟩]:=by
 have he:=h.1 e (List.mem_singleton.2 rfl)
 have hne:e.A ≠ none:=fun hn=>by rw [he.1 hn] at hi; exact absurd hi (by simp)
 refine ⟨⟨rfl,rfl,rfl,by simp [World.setCell],fun b o hb hn=>?_,fun b hb hn=>?_⟩,⟨?_,by simp⟩,?_⟩
 ·have:loc e.A i ≠ ⟨b,o,none⟩:=fun heq=>hn ⟨e,List.mem_singleton.2 rfl,i,hi,heq.symm⟩
  exact ⟨cell_set_other this,frozen_set⟩
 ·have:(loc e.A i).block ≠ b:=fun heq=>hn (ofs e.A+i) ⟨e,List.mem_singleton.2 rfl,i,hi,by cases heq; rfl⟩
  simp only [World.setCell,Array.getElem?_modify]
  rw [if_neg this]
 ·intro f hf
  rw [List.mem_singleton] at hf
  subst hf
  refine ⟨fun hn=>absurd hn hne,fun j u hu=>?_⟩
  refine ⟨?_,?_⟩
  ·by_cases hij:i=j
   ·subst hij
    simp only [List.getElem?_set,if_true,hi] at hu
    cases hu
    exact cell_set_same (he.2 i _ (List.getElem?_eq_getElem hi)).1
   ·rw [List.getElem?_set_ne hij] at hu
    have hne':loc e.A i ≠ loc e.A j:=fun heq=>hij (by simp only [loc,Addr.mk.injEq] at heq; omega)
    exact (cell_set_other hne').trans (he.2 j u hu).1
  ·rw [frozen_set]
   have hj:j<e.cs.length:=by have:=(List.getElem?_eq_some_iff.1 hu).1; simpa using this
   exact (he.2 j _ (List.getElem?_eq_getElem hj)).2
 ·rintro a ⟨f,hf,j,hj,rfl⟩
  rw [List.mem_singleton] at hf
  subst hf
  exact .inr ⟨e,List.mem_singleton.2 rfl,j,by simpa using hj,rfl⟩
theorem Step.draws (w:World) (n:Nat):Step w [] { w with drawn:=n } [] :=
 ⟨⟨rfl,rfl,rfl,Nat.le_refl _,fun _ _ _ _=>⟨rfl,rfl⟩,fun _ _ _=>rfl⟩,⟨(fun _ h=>by cases h),List.Pairwise.nil⟩,fun _ h=>absurd h foot_nil⟩
theorem Step.below {w w':World} {L:Mem} (h:Step w [] w' L):Go.RowKit.Below w.heap.size w w' :=
 ⟨h.chg.os,h.chg.tape,h.chg.output,h.chg.size,fun k hk=>h.chg.block k hk fun _=>foot_nil⟩
def Has (w:World) (e:Ent):Prop:=(e.A=none → e.cs=[]) ∧ ∀ i v,e.cs[i]? = some v → w.cell? (loc e.A i)=some v
theorem EntOk.has {w:World} {e:Ent} (h:EntOk w e):Has w e:=⟨h.1,fun i v hv=>(h.2 i v hv).1⟩
theorem Has.keep {w0 w:World} {L0:Mem} {e:Ent} (h:Has w0 e) (hc:Chg w0 L0 w) (hd : ∀ f ∈ L0,EDisj f e):Has w e :=
 ⟨h.1,fun i v hv=>by
  have h1:=h.2 i v hv
  have hi:i<e.cs.length:=(List.getElem?_eq_some_iff.1 hv).1
  exact (hc.cell (loc e.A i).block (loc e.A i).off (block_lt h1) fun ⟨f,hf,j,hj,heq⟩=>hd f hf j i hj hi heq.symm).1.trans h1⟩
theorem Has.join {w:World} {A:Adr} {c1 c2:List Value} (h1:Has w ⟨A,c1⟩) (h2:Has w ⟨sh A c1.length,c2⟩):Has w ⟨A,c1++c2⟩:=by
 refine ⟨fun hn=>?_,fun i v hv=>?_⟩
 ·have a1:=h1.1 hn
  have a2:=h2.1 (by subst hn; rfl)
  simp only at a1 a2
  simp [a1,a2]
 ·by_cases hi:i<c1.length
  ·rw [List.getElem?_append_left hi] at hv; exact h1.2 i v hv
  ·rw [List.getElem?_append_right (by omega)] at hv
   have h3:=h2.2 _ v hv
   cases A with
   | none =>
    have a2:=h2.1 rfl
    simp only at a2
    rw [a2] at hv
    cases hv
   | some p =>
    have:loc (sh (some p) c1.length) (i - c1.length)=loc (some p) i:=by
     simp only [loc,sh,bk,ofs,Option.map_some,Option.getD_some,Addr.mk.injEq,and_true,true_and]; omega
    rw [this] at h3
    exact h3
end Go.Kx
end

section
namespace Go.Kx
abbrev Str:=List (BitVec 8)
def w64 (x:Int):Int:=(x+9223372036854775808) % 18446744073709551616 - 9223372036854775808
def iop (f:BitVec 64 → BitVec 64 → BitVec 64) (a b:Int):Int:=w64 (f (BitVec.ofInt 64 a) (BitVec.ofInt 64 b)).toNat
def shrI' (a s:Int):Int:=a / 2 ^ (min s.toNat 64)
def sg (s:Str) (i:Int):BitVec 8:=s.getD i.toNat 0#8
def sub (s:Str) (l h:Nat):Str:=(s.drop l).take (h - l)
def vg {α:Type} [Inhabited α] {n:Nat} (V:Vector α n) (i:Nat):α:=V.toArray.toList.getD i default
def vp {α:Type} {n:Nat} (V:Vector α n) (i:Nat) (x:α):Vector α n:=V.setIfInBounds i x
def lg {α:Type} [Inhabited α] (l:List α) (i:Nat):α:=l.getD i default
def ltt {α β:Type} (x:α) (f:α → β):β:=f x
def loop {σ τ:Type} (body:σ → Option (σ ⊕ τ)):Nat → σ → Option τ
 | 0,_=>none
 | n+1,s=>match body s with
  | none=>none
  | some (.inl s')=>loop body n s'
  | some (.inr t)=>some t
def BIG:Nat:=1152921504606846976
def splice {α:Type} (z:List α) (o:Nat) (c:List α):List α:=z.take o++c++z.drop (o+c.length)
theorem ltt_elim {α β:Type} {x:α} {f:α → β} {r:β} (h:ltt x f=r) : ∃ v,x=v∧f v=r:=⟨x,rfl,h⟩
theorem bind_elim {α β:Type} {x:Option α} {f:α → Option β} {r:β} (h:x.bind f=some r) : ∃ v,x=some v∧f v=some r:=by
 cases x with
 | none=>simp at h
 | some v=>exact ⟨v,rfl,h⟩
theorem if_elim {α:Type} {p:Prop} [Decidable p] {x:Option α} {r:α} (h:(if p then x else none)=some r):p∧x=some r:=by
 by_cases hp:p
 ·exact ⟨hp,by rwa [if_pos hp] at h⟩
 ·rw [if_neg hp] at h; cases h
theorem ite_t {α:Type} {p:Prop} [Decidable p] {x y r:α} (hp:p) (h:(if p then x else y)=r):x=r:=by rwa [if_pos hp] at h
theorem ite_f {α:Type} {p:Prop} [Decidable p] {x y r:α} (hp : ¬ p) (h:(if p then x else y)=r):y=r:=by rwa [if_neg hp] at h
end Go.Kx
namespace Go.Kx
def vsp {α:Type} {n:Nat} (V:Vector α n) (o:Nat):List α → Vector α n
 | []=>V
 | x :: r=>vsp (vp V o x) (o+1) r
theorem sub_length {s:Str} {l h:Nat} (hh:h≤s.length):(sub s l h).length=h - l:=by
 simp only [sub,List.length_take,List.length_drop]; omega
end Go.Kx
end

section
namespace Go.Kx
open Go
def v8 (x:BitVec 8):Value := .int .u8 x.toNat
def v32 (x:BitVec 32):Value := .int .u32 x.toNat
def v64 (x:BitVec 64):Value := .int .u64 x.toNat
def vi (x:Int):Value := .int .i64 x
def vb (b:Bool):Value := .bool b
def bytes (s:Str):ByteArray:=⟨(s.map UInt8.ofBitVec).toArray⟩
def vs (s:Str):Value := .string (bytes s)
def lk:List (Nat × Value) → Nat → Option Value
 | [],_=>none
 | (k,v) :: r,t=>match Nat.beq k t with
  | true=>some v
  | false=>lk r t
abbrev Sl:=List (Nat × Value)
def ev (m:Sl):Operand → Option Value
 | .tmp t=>lk m t
 | .const v=>some v
 | .global g=>some (.pointer (some ⟨g,0,none⟩))
 | .func f=>some (.func (.func f) #[] #[])
def evs (m:Sl):List Operand → Option (List Value)
 | []=>some []
 | x :: r=>match ev m x with
  | none=>none
  | some v=>match evs m r with
   | none=>none
   | some vs=>some (v :: vs)
def Slots (m:Sl) (a:Act):Prop := ∀ t v,lk m t=some v → a.tmps[t]? = some v
theorem Slots.ev {m:Sl} {a:Act} {x:Operand} {v:Value} (h:Slots m a) (hx:ev m x=some v):a.eval x=v:=by
 cases x with
 | tmp t=>simp only [Kx.ev] at hx; have:=h t v hx; simp [Act.eval,this]
 | const u=>simp only [Kx.ev,Option.some.injEq] at hx; simpa [Act.eval] using hx
 | global g=>simp only [Kx.ev,Option.some.injEq] at hx; simpa [Act.eval] using hx
 | func f=>simp only [Kx.ev,Option.some.injEq] at hx; simpa [Act.eval] using hx
theorem Slots.evs {m:Sl} {a:Act} (h:Slots m a) : ∀ {xs:List Operand} {vs:List Value},evs m xs=some vs → xs.map a.eval=vs
 | [],vs,hx=>by simp only [Kx.evs,Option.some.injEq] at hx; subst hx; rfl
 | x :: r,vs,hx=>by
  simp only [Kx.evs] at hx
  cases h1:Kx.ev m x with
  | none=>simp [h1] at hx
  | some v =>
   simp only [h1] at hx
   cases h2:Kx.evs m r with
   | none=>simp [h2] at hx
   | some us =>
    simp only [h2,Option.some.injEq] at hx
    subst hx
    simp [h.ev h1,Slots.evs h h2]
theorem Slots.put {m:Sl} {a:Act} {d:Nat} {v:Value} (h:Slots m a) (hd:d<a.tmps.size):Slots ((d,v) :: m) (a.put (some d) v):=by
 intro t u ht
 simp only [lk] at ht
 by_cases hdt:d=t
 ·subst hdt
  simp only [Nat.beq_refl,Option.some.injEq] at ht
  subst ht
  simp [Act.put,hd]
 ·have hb:Nat.beq d t=false:=by
   cases hb:Nat.beq d t with
   | false=>rfl
   | true=>exact absurd (Nat.eq_of_beq_eq_true hb) hdt
  simp only [hb] at ht
  have:=h t u ht
  simp [Act.put,Array.getElem?_setIfInBounds_ne hdt,this]
def SubM:Sl → Sl → Prop
 | [],_=>True
 | (t,v) :: r,m=>lk m t=some v∧SubM r m
theorem SubM.lk : ∀ {m' m:Sl},SubM m' m → ∀ t v,lk m' t=some v → lk m t=some v
 | [],_,_,_,_,h=>by simp [Kx.lk] at h
 | (k,u) :: r,m,hs,t,v,h=>by
  simp only [Kx.lk] at h
  cases hb:Nat.beq k t with
  | true =>
   simp only [hb,Option.some.injEq] at h
   subst h
   have:=Nat.eq_of_beq_eq_true hb
   subst this
   exact hs.1
  | false=>simp only [hb] at h; exact SubM.lk hs.2 t v h
structure Ctx where
 P:Program
 w0:World
 L0:Mem
 Ro:Mem
 N:Nat
def RoOk (C:Ctx):Prop:=(∀ e ∈ C.Ro,Has C.w0 e) ∧ ∀ f ∈ C.L0, ∀ e ∈ C.Ro,EDisj f e
structure Sat (C:Ctx) (m:Sl) (L:Mem) (a:Act) (w:World):Prop where
 defers:a.defers=[]
 size:a.tmps.size=C.N
 slots:Slots m a
 step:Step C.w0 C.L0 w L
 ro:RoOk C
def TL (C:Ctx) (ops:Array Oper) (Q:Exit → Act → World → Prop) (l:List Oper) (m:Sl) (L:Mem):Prop :=
 ∀ a w,Sat C m L a w → wpList C.P ops Q l a w
def TC (C:Ctx) (c:Code) (Q:Exit → Act → World → Prop) (m:Sl) (L:Mem):Prop := ∀ a w,Sat C m L a w → c.wp C.P Q a w
def TX (C:Ctx) (Q:Exit → Act → World → Prop) (e:Exit) (m:Sl) (L:Mem):Prop := ∀ a w,Sat C m L a w → Q e a w
theorem Sat.sub {C:Ctx} {m m':Sl} {L:Mem} {a:Act} {w:World} (h:Sat C m L a w) (hs:SubM m' m):Sat C m' L a w :=
 ⟨h.defers,h.size,fun t v ht=>h.slots t v (hs.lk t v ht),h.step,h.ro⟩
theorem Sat.mem {C:Ctx} {m:Sl} {L L':Mem} {a:Act} {w w':World} (h:Sat C m L a w) (hs:Step C.w0 C.L0 w' L'):Sat C m L' a w' :=
 ⟨h.defers,h.size,h.slots,hs,h.ro⟩
theorem Sat.put {C:Ctx} {m:Sl} {L L':Mem} {a:Act} {w w':World} (h:Sat C m L a w) {d:Nat} {v:Value} (hd:Nat.blt d C.N=true)
  (hs:Step C.w0 C.L0 w' L'):Sat C ((d,v) :: m) L' (a.put (some d) v) w' :=
 ⟨h.defers,by simp [Act.put,h.size],h.slots.put (by rw [h.size]; exact Nat.le_of_ble_eq_true hd),hs,h.ro⟩
section rules
variable {C:Ctx} {Q:Exit → Act → World → Prop} {m m':Sl} {L L' R:Mem} {ops:Array Oper} {l rest:List Oper} {c c1 c2:Code} {id:Nat}
theorem TC.sub (hm:SubM m' m) (h:TC C c Q m' L):TC C c Q m L:=fun a w hs=>h a w (hs.sub hm)
theorem TX.sub {e:Exit} (hm:SubM m' m) (h:TX C Q e m' L):TX C Q e m L:=fun a w hs=>h a w (hs.sub hm)
theorem TC.pull {is:List Nat} (hL:pull is L=some (L',R)) (h:TC C c Q m L'):TC C c Q m L :=
 fun a w hs=>h a w (hs.mem (hs.step.pulled hL).left)
theorem TX.pull {e:Exit} {is:List Nat} (hL:pull is L=some (L',R)) (h:TX C Q e m L'):TX C Q e m L :=
 fun a w hs=>h a w (hs.mem (hs.step.pulled hL).left)
theorem TC_seq (h:TC C c1 (Exit.then (fun a w=>c2.wp C.P Q a w) Q) m L):TC C (.seq c1 c2) Q m L:=fun a w hs=>wp_seq (h a w hs)
theorem TC_block (h:TC C c (Exit.inBlock id Q) m L):TC C (.block id c) Q m L:=fun a w hs=>wp_block (h a w hs)
theorem TC_skip (h:TX C Q .normal m L):TC C .skip Q m L:=fun a w hs=>wp_skip (h a w hs)
theorem TC_exit (h:TX C Q (.exit id) m L):TC C (.exit id) Q m L:=fun a w hs=>wp_exit (h a w hs)
theorem TC_ret (h:TX C Q .ret m L):TC C .ret Q m L:=fun a w hs=>wp_ret (h a w hs)
theorem TC_cond {x:Operand} {b:Bool} (hx:ev m x=some (vb b)) (ht:b=true → TC C c1 Q m L) (hf:b=false → TC C c2 Q m L) :
  TC C (.cond x c1 c2) Q m L:=fun a w hs=>wp_cond_split (hs.slots.ev hx) (fun h=>ht h a w hs) (fun h=>hf h a w hs)
theorem TC_region (h:TL C l.toArray Q l m L):TC C (.region id l.toArray false) Q m L:=fun a w hs=>wp_region_lit (h a w hs)
theorem TL_nil (h:TX C Q .normal m L):TL C ops Q [] m L:=fun a w hs=>h a w hs
theorem TX_next (h:TC C c Q m L):TX C (Exit.then (fun a w=>c.wp C.P Q a w) Q) .normal m L:=fun a w hs=>h a w hs
theorem TX_then_exit {k:Act → World → Prop} (h:TX C Q (.exit id) m L):TX C (Exit.then k Q) (.exit id) m L:=fun a w hs=>h a w hs
theorem TX_then_ret {k:Act → World → Prop} (h:TX C Q .ret m L):TX C (Exit.then k Q) .ret m L:=fun a w hs=>h a w hs
theorem TX_block_normal (h:TX C Q .normal m L):TX C (Exit.inBlock id Q) .normal m L:=fun a w hs=>h a w hs
theorem TX_block_ret (h:TX C Q .ret m L):TX C (Exit.inBlock id Q) .ret m L:=fun a w hs=>h a w hs
theorem TX_block_exit (h:TX C Q .normal m L):TX C (Exit.inBlock id Q) (.exit id) m L:=fun a w hs=>by
 simp only [Exit.inBlock,if_true]; exact h a w hs
theorem TC_loop {σ τ Γ:Type} {body:σ → Option (σ ⊕ τ)} (ms:σ → Γ → Sl) (Ls:σ → Γ → Mem) (Ex:τ → Prop)
  (hb : ∀ s g r,body s=some r → ∀ K:Act → World → Prop,
   (∀ s',r = .inl s' → ∀ g' a w,Sat C (ms s' g') (Ls s' g') a w → K a w) → (∀ t,r = .inr t → Ex t) → TC C c (Exit.then K Q) (ms s g) (Ls s g))
  (n:Nat) (s:σ) (g:Γ) (t:τ) (hl:loop body n s=some t) (hx:Ex t):TC C (.loop c) Q (ms s g) (Ls s g):=by
 intro a w hs
 refine wp_loop_rounds n ?_
 induction n generalizing s g a w with
 | zero=>simp [loop] at hl
 | succ n ih =>
  rw [rounds_succ]
  simp only [loop] at hl
  cases hr:body s with
  | none=>simp [hr] at hl
  | some r =>
   cases r with
   | inl s' =>
    simp only [hr] at hl
    exact hb s g _ hr _ (fun s'' he g' a' w' hs'=>by cases he; exact ih s' g' hl a' w' hs') (fun t he=>by cases he) a w hs
   | inr t' =>
    simp only [hr,Option.some.injEq] at hl
    subst hl
    exact hb s g _ hr _ (fun s'' he=>by cases he) (fun t he=>by cases he; exact hx) a w hs
theorem TC_join {Γ:Type} (mj:Γ → Sl) (Lj:Γ → Mem) (hrest : ∀ g,TX C Q .normal (mj g) (Lj g))
  (harm:(∀ g,TX C Q .normal (mj g) (Lj g)) → TC C c Q m L):TC C c Q m L:=harm hrest
theorem TC_cond_t {x:Operand} (hx:ev m x=some (.bool true)) (h:TC C c1 Q m L):TC C (.cond x c1 c2) Q m L:=fun a w hs=>wp_cond_true (hs.slots.ev hx) (h a w hs)
theorem TC_cond_f {x:Operand} (hx:ev m x=some (.bool false)) (h:TC C c2 Q m L):TC C (.cond x c1 c2) Q m L:=fun a w hs=>wp_cond_false (hs.slots.ev hx) (h a w hs)
def OpV (C:Ctx) (o:Oper) (m:Sl) (L:Mem) (v:Value):Prop :=
 ∀ a w,Sat C m L a w → (execOp a.eval o).run C.P w = .ok (.value v) w
def OpE (C:Ctx) (o:Oper) (m:Sl) (L:Mem) {Γ:Type} (val:Γ → Value) (mem:Γ → Mem):Prop :=
 ∀ a w,Sat C m L a w → ∀ (Q:Exit → Act → World → Prop) (K:Act → World → Prop),(∀ g w',Step C.w0 C.L0 w' (mem g) → K (a.put o.dst (val g)) w') → o.wp C.P a w K Q
theorem TL_v {o:Oper} {d:Nat} {v:Value} (hg:o.guard=none) (hd:o.dst=some d) (hN:Nat.blt d C.N=true) (ho:OpV C o m L v)
  (h:TL C ops Q rest ((d,v) :: m) L):TL C ops Q (o :: rest) m L:=fun a w hs =>
 wpList_plain hg fun K hK=>by
  unfold Oper.wp
  rw [ho a w hs,Oper.upon_value]
  refine hK _ _ (h _ _ ?_)
  rw [hd]
  exact hs.put hN hs.step
theorem TL_e {o:Oper} {d:Nat} {Γ:Type} {val:Γ → Value} {mem:Γ → Mem} (hg:o.guard=none) (hd:o.dst=some d) (hN:Nat.blt d C.N=true)
  (ho:OpE C o m L val mem) (h : ∀ g,TL C ops Q rest ((d,val g) :: m) (mem g)):TL C ops Q (o :: rest) m L:=fun a w hs =>
 wpList_plain hg fun K hK=>ho a w hs Q K fun g w' hs'=>hK _ _ (h g _ _ (by rw [hd]; exact hs.put hN hs'))
theorem TL_n {o:Oper} {Γ:Type} {val:Γ → Value} {mem:Γ → Mem} (hg:o.guard=none) (hd:o.dst=none)
  (ho:OpE C o m L val mem) (h : ∀ g,TL C ops Q rest m (mem g)):TL C ops Q (o :: rest) m L:=fun a w hs =>
 wpList_plain hg fun K hK=>ho a w hs Q K fun g w' hs'=>hK _ _ (h g _ _ (by rw [hd]; exact hs.mem hs'))
theorem TL_skip {o:Oper} {d j:Nat} {want b:Bool} {oj:Oper} {dj:Nat} (hg:o.guard=some (j,want)) (hd:o.dst=some d) (hN:Nat.blt d C.N=true)
  (hj:ops[j]? = some oj) (hdj:oj.dst=some dj) (hb:lk m dj=some (.bool b)) (hne:(b == want)=false)
  (h:TL C ops Q rest ((d,undef) :: m) L):TL C ops Q (o :: rest) m L:=fun a w hs=>by
 have hw:Region.wanted o (yielded ops a.tmps)=false:=by
  have h1:=hs.slots dj _ hb
  simp only [Region.wanted,hg,yielded,hj,hdj,Option.bind_some,h1]
  cases b <;> cases want <;> simp_all
 refine wpList_skip hw (h _ _ ?_)
 rw [hd]
 exact hs.put hN hs.step
theorem TL_want {o:Oper} {j:Nat} {want:Bool} {oj:Oper} {dj:Nat} {d:Nat} {v:Value} (hg:o.guard=some (j,want)) (hd:o.dst=some d) (hN:Nat.blt d C.N=true)
  (hj:ops[j]? = some oj) (hdj:oj.dst=some dj) (hb:lk m dj=some (.bool want)) (ho:OpV C o m L v)
  (h:TL C ops Q rest ((d,v) :: m) L):TL C ops Q (o :: rest) m L:=fun a w hs=>by
 have hw:Region.wanted o (yielded ops a.tmps)=true:=by
  have h1:=hs.slots dj _ hb
  simp [Region.wanted,hg,yielded,hj,hdj,h1]
 refine wpList_step fun K hK=>?_
 rw [if_pos hw]
 unfold Oper.wp
 rw [ho a w hs,Oper.upon_value]
 refine hK _ _ (h _ _ ?_)
 rw [hd]
 exact hs.put hN hs.step
theorem TL_wantE {o:Oper} {j:Nat} {want:Bool} {oj:Oper} {dj:Nat} {d:Nat} {Γ:Type} {val:Γ → Value} {mem:Γ → Mem} (hg:o.guard=some (j,want)) (hd:o.dst=some d) (hN:Nat.blt d C.N=true)
  (hj:ops[j]? = some oj) (hdj:oj.dst=some dj) (hb:lk m dj=some (.bool want)) (ho:OpE C o m L val mem)
  (h : ∀ g,TL C ops Q rest ((d,val g) :: m) (mem g)):TL C ops Q (o :: rest) m L:=fun a w hs=>by
 have hw:Region.wanted o (yielded ops a.tmps)=true:=by
  have h1:=hs.slots dj _ hb
  simp [Region.wanted,hg,yielded,hj,hdj,h1]
 refine wpList_step fun K hK=>?_
 rw [if_pos hw]
 exact ho a w hs Q K fun g w' hs'=>hK _ _ (h g _ _ (by rw [hd]; exact hs.put hN hs'))
theorem calls_of {P:Program} {f:FuncId} {fn:Func} {c:Code} {args:List Value} {w:World} {L0 Ro:Mem} {R:Ending → World → Prop} {N:Nat} {m0:Sl}
  (hf:P.funcs[f]? = some fn) (hb:fn.body=some c) (hN:fn.ntmps=N) (hm : ∀ t v,lk m0 t=some v → args[t]? = some v) (hsz:Nat.ble args.length N=true)
  (hmem:MemOk w L0) (hro : ∀ e ∈ Ro,Has w e) (hd : ∀ f ∈ L0, ∀ e ∈ Ro,EDisj f e)
  (h:TC ⟨P,w,L0,Ro,N⟩ c (bodyPost P fn R) m0 L0):Calls P f args.toArray w R:=by
 refine calls_of_wp hf hb (h _ _ ⟨rfl,?_,?_,Step.refl hmem,hro,hd⟩)
 ·have:=Nat.le_of_ble_eq_true hsz
  simp [hN]
  omega
 ·intro t v ht
  have h1:=hm t v ht
  have hlt:t<args.length:=(List.getElem?_eq_some_iff.1 h1).1
  simp only [Array.getElem?_append,List.size_toArray,hlt,if_true]
  simpa using h1
def argM:Nat → List Value → Sl
 | _,[]=>[]
 | k,v :: r=>(k,v) :: argM (k+1) r
theorem argM_lk : ∀ (vs:List Value) (k t:Nat) (v:Value),lk (argM k vs) t=some v → k≤t∧vs[t - k]? = some v
 | [],_,_,_,h=>by simp [argM,lk] at h
 | u :: r,k,t,v,h=>by
  simp only [argM,lk] at h
  cases hb:Nat.beq k t with
  | true =>
   simp only [hb,Option.some.injEq] at h
   have:=Nat.eq_of_beq_eq_true hb
   subst this
   simp [h]
  | false =>
   simp only [hb] at h
   obtain ⟨h1,h2⟩:=argM_lk r (k+1) t v h
   refine ⟨by omega,?_⟩
   have:t - k=(t - (k+1))+1:=by omega
   rw [this]
   simpa using h2
theorem argM_ok (vs:List Value) : ∀ t v,lk (argM 0 vs) t=some v → vs[t]? = some v:=fun t v h=>by
 have:=argM_lk vs 0 t v h
 simpa using this.2
def ResV (C:Ctx) (m:Sl) (L:Mem):ResultVar → Value → Prop
 | .tmp t,v=>lk m t=some v
 | .cell p ty,v => ∃ a:Addr,lk m p=some (.pointer (some a)) ∧ ∀ w,Step C.w0 C.L0 w L → RoOk C → (loadVar ty a).run C.P w = .ok v w
def ResVs (C:Ctx) (m:Sl) (L:Mem):List ResultVar → List Value → Prop
 | [],[]=>True
 | r :: rs,v :: vs=>ResV C m L r v∧ResVs C m L rs vs
 | _,_=>False
def retVal:List Value → Value
 | [v]=>v
 | vs => .tuple vs.toArray
theorem results_run {a:Act} {w:World} (hs:Sat C m L a w) : ∀ (rs:List ResultVar) (vs:List Value),ResVs C m L rs vs →
  (rs.mapM (m:=Sem) fun
   | .tmp t=>(pure (a.tmps.getD t undef):Sem Value)
   | .cell x t=>do loadVar t (← asAddr (a.tmps.getD x undef))).run C.P w = .ok vs w
 | [],[],_=>by simp
 | [],_ :: _,h=>h.elim
 | _ :: _,[],h=>h.elim
 | r :: rs,v :: vs,⟨h1,h2⟩=>by
  have ih:=results_run hs rs vs h2
  rw [List.mapM_cons,Sem.run_bind]
  have h3:(match r with
   | .tmp t=>(pure (a.tmps.getD t undef):Sem Value)
   | .cell x t=>do loadVar t (← asAddr (a.tmps.getD x undef))).run C.P w = .ok v w:=by
   cases r with
   | tmp t =>
    have:=hs.slots t v h1
    simp [this]
   | cell p ty =>
    obtain ⟨ad,hp,hl⟩:=h1
    have:=hs.slots p _ hp
    simp [this,asAddr,hl w hs.step hs.ro]
  cases r <;> simp only at h3 <;> rw [h3] <;> simp only [Result.andThen_ok] <;> rw [Sem.run_bind,ih] <;> simp
theorem TX_ret {fn:Func} {R:Ending → World → Prop} {rs:List ResultVar} {vs:List Value} (hr:fn.results=rs.toArray) (hv:ResVs C m L rs vs)
  (hR : ∀ w,Step C.w0 C.L0 w L → R (.returned (retVal vs)) w):TX C (bodyPost C.P fn R) .ret m L:=fun a w hs=>by
 refine ⟨hs.defers,_,?_,hR w hs.step⟩
 have h1:=results_run hs rs vs hv
 have hlen : ∀ (rs:List ResultVar) (vs:List Value),ResVs C m L rs vs → rs.length=vs.length:=by
  intro rs
  induction rs with
  | nil=>intro vs h; cases vs <;> simp_all [ResVs]
  | cons r rs ih=>intro vs h; cases vs with
   | nil=>simp [ResVs] at h
   | cons v vs=>simp [ih vs h.2]
 unfold results
 rw [hr,Sem.run_bind]
 have h2:(Array.mapM (m:=Sem) (fun
   | .tmp t=>(pure (a.tmps.getD t undef):Sem Value)
   | .cell x t=>do loadVar t (← asAddr (a.tmps.getD x undef))) rs.toArray).run C.P w = .ok vs.toArray w:=by
  rw [List.mapM_toArray, ← bind_pure_comp,Sem.run_bind,h1]
  simp
 refine (congrArg (fun r=>Result.andThen r _) h2).trans ?_
 simp only [Result.andThen_ok]
 match vs with
 | []=>simp [retVal]
 | [v]=>simp [retVal]
 | v :: u :: r=>simp [retVal]
end rules
end Go.Kx
end

section
namespace Go.Kx
open Go
section
variable {C:Ctx} {m:Sl} {L:Mem} {dst:Option Tmp} {ty:TypeId} {pos:String} {af:Array Edge} {gd:Option (Nat × Bool)}
theorem V_move {x:Operand} {v:Value} (hx:ev m x=some v):OpV C ⟨dst, .move x,ty,pos,af,gd⟩ m L v:=fun a w hs=>by
 simp [execOp,hs.slots.ev hx]
theorem V_assign {x:Operand} {v:Value} (hx:ev m x=some v):OpV C ⟨dst, .assign x,ty,pos,af,gd⟩ m L v:=fun a w hs=>by
 simp [execOp,hs.slots.ev hx]
theorem V_pick {c x y:Operand} {b:Bool} {vx:Value} (hc:ev m c=some (.bool b)) (hx:ev m (if b then x else y)=some vx) :
  OpV C ⟨dst, .pick c x y,ty,pos,af,gd⟩ m L vx:=fun a w hs=>by
 have h2:=hs.slots.ev hx
 cases b <;> simp_all [execOp,hs.slots.ev hc,asBool]
def binG (op:BinOp) (t:TypeId) (x y:Operand) (a b:Value):Sem Value:=do eqGuard op t x y a b; binOp op t a b
theorem V_bin {op:BinOp} {t t':TypeId} {x y:Operand} {vx vy v:Value} (hx:ev m x=some vx) (hy:ev m y=some vy)
  (hr : ∀ w,(binG op t x y vx vy).run C.P w = .ok v w):OpV C ⟨dst, .binOp op t x y t',ty,pos,af,gd⟩ m L v:=fun a w hs=>by
 show ((binG op t x y (a.eval x) (a.eval y)) >>= fun r=>pure (Next.value r)).run C.P w=_
 rw [Sem.run_bind,hs.slots.ev hx,hs.slots.ev hy,hr w]
 simp
theorem V_un {op:UnOp} {t:TypeId} {x:Operand} {vx v:Value} (hx:ev m x=some vx)
  (hr : ∀ w,(Op.unary op vx).run C.P w = .ok v w):OpV C ⟨dst, .unOp op t x,ty,pos,af,gd⟩ m L v:=fun a w hs=>by
 simp [execOp,hs.slots.ev hx,Sem.run_bind,hr w]
theorem V_conv {s t:TypeId} {x:Operand} {vx v:Value} (hx:ev m x=some vx)
  (hr : ∀ w,(convert s t vx).run C.P w = .ok v w):OpV C ⟨dst, .convert s t x,ty,pos,af,gd⟩ m L v:=fun a w hs=>by
 simp [execOp,hs.slots.ev hx,Sem.run_bind,hr w]
theorem V_extract {x:Operand} {i:Nat} {vs:List Value} {v:Value} (hx:ev m x=some (.tuple vs.toArray)) (hv:vs[i]? = some v) :
  OpV C ⟨dst, .extract x i,ty,pos,af,gd⟩ m L v:=fun a w hs=>by
 simp [execOp,hs.slots.ev hx,Instr.extract,hv]
theorem V_nilCheck {x:Operand} {ad:Addr} (hx:ev m x=some (.pointer (some ad))):OpV C ⟨dst, .nilCheck x,ty,pos,af,gd⟩ m L (.pointer (some ad)):=fun a w hs=>by
 simp [execOp,hs.slots.ev hx]
theorem V_len_slice {x:Operand} {A:Adr} {n c:Nat} {t e:TypeId} (hx:ev m x=some (sl A n c)) (hu:C.P.underlying t=some (.slice e)) :
  OpV C ⟨dst, .call ⟨.builtin .len, #[x], #[t]⟩,ty,pos,af,gd⟩ m L (vi n):=fun a w hs=>by
 simp [execOp,resolve,hs.slots.ev hx,invoke,builtin,Builtin.len_,Sem.run_bind,run_underlying hu,sl,goInt,vi]
theorem bytes_size (s:Str):(bytes s).size=s.length:=by simp [bytes,ByteArray.size]
theorem V_len_str {x:Operand} {s:Str} {t:TypeId} (hx:ev m x=some (vs s)) (hu:C.P.underlying t=some .string) :
  OpV C ⟨dst, .call ⟨.builtin .len, #[x], #[t]⟩,ty,pos,af,gd⟩ m L (vi s.length):=fun a w hs=>by
 simp [execOp,resolve,hs.slots.ev hx,invoke,builtin,Builtin.len_,Sem.run_bind,run_underlying hu,vs,goInt,vi,bytes_size]
theorem loc_add {A:Adr} {i k:Nat}:(loc A i).add k=loc A (i+k):=by
 unfold Addr.add loc
 split
 ·rename_i h; subst h; rfl
 ·simp [Nat.add_assoc]
theorem V_field {x:Operand} {A:Adr} {o k f:Nat} {t:TypeId} {fs:Array Field} {fd:Field} (hx:ev m x=some (ptr A o)) (hu:C.P.underlying t=some (.struct fs))
  (hf:fs[f]? = some fd) (hk:fd.offset=k) {inf:TypeInfo} (hi:C.P.info? fd.type=some inf) (h0:Nat.beq inf.size 0=false) :
  OpV C ⟨dst, .fieldAddr t x f,ty,pos,af,gd⟩ m L (ptr A (o+k)):=fun a w hs=>by
 have h0':inf.size ≠ 0:=fun h=>by rw [h] at h0; cases h0
 simp [execOp,hs.slots.ev hx,Instr.fieldAt,Sem.run_bind,run_underlying hu,hf,ptr,Instr.sureAddr,fieldPlace,sizeOf,typeInfo,hi,h0',loc_add,hk]
theorem V_idxArr {x ix:Operand} {A:Adr} {o n s k:Nat} {kd:IntKind} {i:Int} {t e:TypeId} {inf:TypeInfo} (hx:ev m x=some (ptr A o)) (hi:ev m ix=some (.int kd i))
  (hu:C.P.underlying t=some (.array n e)) (hs':C.P.info? e=some inf) (hsz:inf.size=s) (h0:0≤i) (h1:i<n) (hk:o+i.toNat * s=k) :
  OpV C ⟨dst, .indexAddr t x ix,ty,pos,af,gd⟩ m L (ptr A k):=fun a w hs=>by
 simp [execOp,hs.slots.ev hx,hs.slots.ev hi,Instr.indexAt,Sem.run_bind,run_underlying hu,ptr,Instr.sureAddr,asIntOf,h0,h1,sizeOf,typeInfo,hs',hsz,loc_add,hk]
theorem V_idxSl {x ix:Operand} {A:Adr} {n c s k:Nat} {kd:IntKind} {i:Int} {t e:TypeId} {inf:TypeInfo} (hx:ev m x=some (sl A n c)) (hi:ev m ix=some (.int kd i))
  (hu:C.P.underlying t=some (.slice e)) (hs':C.P.info? e=some inf) (hsz:inf.size=s) (hA:n ≠ 0 → A ≠ none) (h0:0≤i) (h1:i<n) (hk:i.toNat * s=k) :
  OpV C ⟨dst, .indexAddr t x ix,ty,pos,af,gd⟩ m L (ptr A k):=fun a w hs=>by
 have hn:A ≠ none:=hA (by omega)
 cases A with
 | none=>exact absurd rfl hn
 | some p =>
  have hadd:(⟨p.1,p.2,none⟩:Addr).add (i.toNat * s)=loc (some p) k:=by
   have := @loc_add (some p) 0 (i.toNat * s)
   simpa [loc,bk,ofs,hk] using this
  simp [execOp,hs.slots.ev hx,hs.slots.ev hi,Instr.indexAt,Sem.run_bind,run_underlying hu,ptr,sl,asIntOf,h0,h1,sizeOf,typeInfo,hs',hsz,hadd]
def Src (C:Ctx) (L:Mem) (e:Ent):Prop := ∀ w,Step C.w0 C.L0 w L → RoOk C → Has w e
theorem Src.own {j:Nat} {e:Ent} (h:L[j]? = some e):Src C L e:=fun w hs _=>(hs.ok.1 e (List.mem_of_getElem? h)).has
theorem Src.ro {j:Nat} {e:Ent} (h:C.Ro[j]? = some e):Src C L e:=fun w hs hr =>
 (hr.1 e (List.mem_of_getElem? h)).keep hs.chg (fun f hf=>hr.2 f hf e (List.mem_of_getElem? h))
theorem Src.join {A:Adr} {c1 c2:List Value} {n:Nat} (hn:c1.length=n) (h1:Src C L ⟨A,c1⟩) (h2:Src C L ⟨sh A n,c2⟩):Src C L ⟨A,c1++c2⟩ :=
 fun w hs hr=>(h1 w hs hr).join (by rw [hn]; exact h2 w hs hr)
theorem Src.part {A:Adr} {cs:List Value} (k n:Nat) (h:Src C L ⟨A,cs⟩):Src C L ⟨sh A k,(cs.drop k).take n⟩:=fun w hs hr=>by
 obtain ⟨h1,h2⟩:=h w hs hr
 refine ⟨fun hn=>?_,fun i v hv=>?_⟩
 ·have:A=none:=by cases A <;> simp_all [sh]
  have h4:cs=[]:=h1 this
  simp [h4]
 ·rw [List.getElem?_take] at hv
  split at hv
  ·rw [List.getElem?_drop] at hv
   have h3:=h2 _ v hv
   cases A with
   | none=>simp only [forall_const] at h1; rw [h1] at hv; simp at hv
   | some p =>
    have:loc (sh (some p) k) i=loc (some p) (k+i):=by simp [loc,sh,bk,ofs,Nat.add_assoc]
    rw [this]
    exact h3
  ·cases hv
theorem V_load {x:Operand} {A:Adr} {o:Nat} {cs:List Value} {v:Value} {t:TypeId} (hx:ev m x=some (ptr A o)) (hsrc:Src C L ⟨A,cs⟩) (hv:cs[o]? = some v)
  (hty : ∀ w,(isAgg t).run C.P w = .ok false w):OpV C ⟨dst, .load t x,ty,pos,af,gd⟩ m L v:=fun a w hs=>by
 have h1:=(hsrc w hs.step hs.ro).2 o v hv
 simp [execOp,hs.slots.ev hx,Instr.loadAt,Instr.sureAddr,ptr,Sem.run_bind,loadVar,hty,load,Sem.run,h1]
theorem run_loadCells_has {w:World} {A:Adr} {cs:List Value} {P:Program} (h:Has w ⟨A,cs⟩) (hA:A ≠ none):(loadCells (loc A 0) cs.length).run P w = .ok cs.toArray w :=
 run_loadCells_list (P:=P) w (loc A 0) cs (fun j v hv=>by rw [loc_add,Nat.zero_add]; exact h.2 j v hv)
theorem ptr_sh {A:Adr} {o:Nat} (hA:A ≠ none):ptr A o=ptr (sh A o) 0:=by
 cases A with
 | none=>exact absurd rfl hA
 | some p=>simp [ptr,loc,sh,bk,ofs]
theorem V_loadAgg {x:Operand} {A:Adr} {cs:List Value} {t:TypeId} {inf:TypeInfo} {n:Nat} (hx:ev m x=some (ptr A 0)) (hA:A ≠ none) (hsrc:Src C L ⟨A,cs⟩)
  (hty : ∀ w,(isAgg t).run C.P w = .ok true w) (hi:C.P.info? t=some inf) (hn:inf.size=n) (hlen:cs.length=n):OpV C ⟨dst, .load t x,ty,pos,af,gd⟩ m L (.agg cs.toArray):=fun a w hs=>by
 have h1:=run_loadCells_has (P:=C.P) (hsrc w hs.step hs.ro) hA
 rw [hlen] at h1
 simp [execOp,hs.slots.ev hx,Instr.loadAt,Instr.sureAddr,ptr,Sem.run_bind,loadVar,hty,sizeOf,typeInfo,hi,hn,h1]
theorem Res_agg {p:Tmp} {A:Adr} {cs:List Value} {t:TypeId} {inf:TypeInfo} {n:Nat} (hx:lk m p=some (ptr A 0)) (hA:A ≠ none) (hsrc:Src C L ⟨A,cs⟩)
  (hty : ∀ w,(isAgg t).run C.P w = .ok true w) (hi:C.P.info? t=some inf) (hn:inf.size=n) (hlen:cs.length=n):ResV C m L (.cell p t) (.agg cs.toArray) :=
 ⟨loc A 0,hx,fun w hs hr=>by
  have h1:=run_loadCells_has (P:=C.P) (hsrc w hs hr) hA
  rw [hlen] at h1
  simp [Sem.run_bind,loadVar,hty,sizeOf,typeInfo,hi,hn,h1]⟩
theorem run_store {P:Program} {w:World} {A:Adr} {i:Nat} {v u:Value} (hc:w.cell? (loc A i)=some u) (hf:w.frozen? (loc A i)=false) (hv:v.oneCell'=true) :
  (store (loc A i) v).run P w = .ok () (w.setCell (loc A i) v):=by
 cases v <;> simp_all [store,Sem.run,Value.oneCell']
theorem E_store {x y:Operand} {A:Adr} {o j:Nat} {cs cs':List Value} {v:Value} {t:TypeId} {inf:TypeInfo} (hx:ev m x=some (ptr A o)) (hy:ev m y=some v)
  (hi:C.P.info? t=some inf) (hn:inf.size=1) (hv:v.oneCell'=true)
  (hj:L[j]? = some ⟨A,cs⟩) (ho:o<cs.length) (hcs:cs.set o v=cs') :
  OpE C ⟨dst, .store t x y,ty,pos,af,gd⟩ m L (Γ:=Unit) (fun _=>undef) (fun _=>L.set j ⟨A,cs'⟩):=fun a w hs Q K hK=>by
 subst hcs
 have hok:=hs.step.ok.1 _ (List.mem_of_getElem? hj)
 have hc:=hok.2 o _ (List.getElem?_eq_getElem ho)
 have hcells:v.cells = #[v]:=by cases v <;> simp_all [Value.cells,Value.oneCell']
 have hrun:(execOp a.eval ⟨dst, .store t x y,ty,pos,af,gd⟩).run C.P w = .ok .skip (w.setCell (loc A o) v):=by
  have hst:=run_store (P:=C.P) hc.1 hc.2 hv
  simp [execOp,hs.slots.ev hx,hs.slots.ev hy,Instr.storeAt,Instr.sureAddr,ptr,Sem.run_bind,storeVar,sizeOf,typeInfo,hi,hn,hcells,storeCells,loc_add,hst]
 unfold Oper.wp
 rw [hrun]
 have hlt:j<L.length:=(List.getElem?_eq_some_iff.1 hj).1
 have hp:L.Perm (⟨A,cs⟩ :: L.eraseIdx j):=perm_erase L j _ hj
 have h1:Step C.w0 C.L0 w ([⟨A,cs⟩]++L.eraseIdx j):=hs.step.perm hp
 have h2:=h1.frame (Step.set (e:=⟨A,cs⟩) (i:=o) v h1.ok.left ho)
 refine hK () _ (h2.perm ?_)
 have h3:(L.set j ⟨A,cs.set o v⟩).Perm (⟨A,cs.set o v⟩ :: (L.set j ⟨A,cs.set o v⟩).eraseIdx j):=perm_erase _ j _ (by simp [hlt])
 rw [List.eraseIdx_set_eq] at h3
 exact h3.symm
end
end Go.Kx
end

section
namespace Go.Kx
open Go
section
variable {P:Program} {t:TypeId} {x y:Operand} (w:World)
theorem binG_of {op:BinOp} {vx vy v:Value} (h1:(eqGuard op t x y vx vy).run P w = .ok () w) (h2:(binOp op t vx vy).run P w = .ok v w):(binG op t x y vx vy).run P w = .ok v w:=by
 unfold binG
 rw [Sem.run_bind,h1]
 exact h2
theorem guard_int {op:BinOp} {k k':IntKind} {a b:Int}:(eqGuard op t x y (.int k a) (.int k' b)).run P w = .ok () w:=by
 cases op <;> simp [eqGuard]
theorem guard_bool {op:BinOp} {a b:Bool}:(eqGuard op t x y (.bool a) (.bool b)).run P w = .ok () w:=by
 cases op <;> simp [eqGuard]
theorem guard_str {op:BinOp} {a b:ByteArray}:(eqGuard op t x y (.string a) (.string b)).run P w = .ok () w:=by
 cases op <;> simp [eqGuard]
theorem wrapN8 (a:BitVec 8):IntKind.u8.wrap (a.toNat:Int)=a.toNat:=by
 have:=a.isLt
 simp only [IntKind.wrap,IntKind.bits,IntKind.signed,Bool.false_and,Bool.false_eq_true,if_false]
 omega
theorem wrapI8 (z:Int):IntKind.u8.wrap z=((BitVec.ofInt 8 z).toNat:Int):=by
 simp only [IntKind.wrap,IntKind.bits,IntKind.signed,Bool.false_and,Bool.false_eq_true,if_false,BitVec.toNat_ofInt]
 omega
theorem ofInt8 (a:BitVec 8):BitVec.ofInt 8 (a.toNat:Int)=a:=by
 apply BitVec.eq_of_toNat_eq
 simp only [BitVec.toNat_ofInt]
 have:=a.isLt
 omega
theorem xor8 (a b:BitVec 8):(binG .xor t x y (v8 a) (v8 b)).run P w = .ok (v8 (a ^^^ b)) w :=
 binG_of w (guard_int w) (by
  have h1:BitVec.ofInt (IntKind.bits .u8) (a.toNat:Int)=a:=ofInt8 a
  have h2:BitVec.ofInt (IntKind.bits .u8) (b.toNat:Int)=b:=ofInt8 b
  have h3:=wrapN8 (a ^^^ b)
  show Result.ok (Value.int .u8 (IntKind.u8.wrap (((BitVec.ofInt (IntKind.bits .u8) (a.toNat:Int)) ^^^ (BitVec.ofInt (IntKind.bits .u8) (b.toNat:Int)):BitVec (IntKind.bits .u8)).toNat:Int))) w=_
  rw [h1,h2]
  exact congrArg (fun z=>Result.ok (Value.int .u8 z) w) h3)
theorem and8 (a b:BitVec 8):(binG .and t x y (v8 a) (v8 b)).run P w = .ok (v8 (a &&& b)) w :=
 binG_of w (guard_int w) (by
  have h1:BitVec.ofInt (IntKind.bits .u8) (a.toNat:Int)=a:=ofInt8 a
  have h2:BitVec.ofInt (IntKind.bits .u8) (b.toNat:Int)=b:=ofInt8 b
  have h3:=wrapN8 (a &&& b)
  show Result.ok (Value.int .u8 (IntKind.u8.wrap (((BitVec.ofInt (IntKind.bits .u8) (a.toNat:Int)) &&& (BitVec.ofInt (IntKind.bits .u8) (b.toNat:Int)):BitVec (IntKind.bits .u8)).toNat:Int))) w=_
  rw [h1,h2]
  exact congrArg (fun z=>Result.ok (Value.int .u8 z) w) h3)
theorem or8 (a b:BitVec 8):(binG .or t x y (v8 a) (v8 b)).run P w = .ok (v8 (a ||| b)) w :=
 binG_of w (guard_int w) (by
  have h1:BitVec.ofInt (IntKind.bits .u8) (a.toNat:Int)=a:=ofInt8 a
  have h2:BitVec.ofInt (IntKind.bits .u8) (b.toNat:Int)=b:=ofInt8 b
  have h3:=wrapN8 (a ||| b)
  show Result.ok (Value.int .u8 (IntKind.u8.wrap (((BitVec.ofInt (IntKind.bits .u8) (a.toNat:Int)) ||| (BitVec.ofInt (IntKind.bits .u8) (b.toNat:Int)):BitVec (IntKind.bits .u8)).toNat:Int))) w=_
  rw [h1,h2]
  exact congrArg (fun z=>Result.ok (Value.int .u8 z) w) h3)
theorem eql8 (a b:BitVec 8):(binG .eql t x y (v8 a) (v8 b)).run P w = .ok (vb (decide (a=b))) w :=
 binG_of w (guard_int w) (by
  have:((a.toNat:Int) == b.toNat)=decide (a=b):=by
   rw [Bool.eq_iff_iff]; simp [BitVec.toNat_inj,Int.ofNat_inj]
  simp [binOp,v8,vb,Op.intCmp,this])
theorem neg8 (a:BitVec 8):(Op.unary .neg (v8 a)).run P w = .ok (v8 (-a)) w:=by
 have:IntKind.u8.wrap (0 - (a.toNat:Int))=((-a).toNat:Int):=by rw [wrapI8,Int.zero_sub,BitVec.ofInt_neg,ofInt8]
 simp only [Op.unary,v8,Op.intArith,this]
 simp
theorem shl8 (a:BitVec 8) (k:IntKind) (s:Int) (h:0≤s):(binG .shl t x y (v8 a) (.int k s)).run P w = .ok (v8 (a <<< s.toNat)) w :=
 binG_of w (guard_int w) (by
  have hs : ¬ s<0:=by omega
  have h2:IntKind.u8.wrap ((a.toNat:Int) * 2 ^ (min s.toNat 8))=((a <<< s.toNat).toNat:Int):=by
   rw [wrapI8]
   congr 1
   rw [BitVec.toNat_ofInt,BitVec.toNat_shiftLeft,Nat.shiftLeft_eq]
   rcases Nat.le_total s.toNat 8 with h3 | h3
   ·rw [Nat.min_eq_left h3]
    have:((a.toNat:Int) * 2 ^ s.toNat)=((a.toNat * 2 ^ s.toNat:Nat):Int):=by simp
    rw [this]
    omega
   ·rw [Nat.min_eq_right h3]
    have e:2 ^ s.toNat=2 ^ 8 * 2 ^ (s.toNat - 8):=by rw [← Nat.pow_add]; congr 1; omega
    have h4:a.toNat * 2 ^ s.toNat % 2 ^ 8=0:=by
     rw [e, ← Nat.mul_assoc,Nat.mul_comm a.toNat,Nat.mul_assoc]; exact Nat.mul_mod_right _ _
    rw [h4]
    have h5:((a.toNat:Int) * 2 ^ 8) % ((2 ^ 8:Nat):Int)=0:=by simp
    rw [h5]; rfl
  simp only [binOp,v8,Op.shift,if_neg hs,IntKind.bits,h2]
  simp)
theorem shr8 (a:BitVec 8) (k:IntKind) (s:Int) (h:0≤s):(binG .shr t x y (v8 a) (.int k s)).run P w = .ok (v8 (a >>> s.toNat)) w :=
 binG_of w (guard_int w) (by
  have hs : ¬ s<0:=by omega
  have h2:(a.toNat:Int).fdiv (2 ^ (min s.toNat 8))=((a >>> s.toNat).toNat:Int):=by
   rw [BitVec.toNat_ushiftRight,Nat.shiftRight_eq_div_pow]
   have hc : ∀ k:Nat,((2:Int) ^ k)=((2 ^ k:Nat):Int):=fun k=>by simp
   rw [hc,Int.fdiv_eq_ediv_of_nonneg _ (Int.natCast_nonneg _), ← Int.natCast_ediv]
   congr 1
   rcases Nat.le_total s.toNat 8 with h3 | h3
   ·rw [Nat.min_eq_left h3]
   ·rw [Nat.min_eq_right h3]
    have hlt:=a.isLt
    rw [Nat.div_eq_of_lt hlt,Nat.div_eq_of_lt]
    exact Nat.lt_of_lt_of_le hlt (Nat.pow_le_pow_right (by omega) h3)
  simp only [binOp,v8,Op.shift,if_neg hs,IntKind.bits,h2]
  simp)
theorem cvI8 (s t':TypeId) (hd:P.underlying t'=some (.int .u8)) (hs':(P.underlying s).isSome=true) (k:IntKind) (z:Int):(convert s t' (.int k z)).run P w = .ok (v8 (BitVec.ofInt 8 z)) w:=by
 obtain ⟨d,hd'⟩:=Option.isSome_iff_exists.1 hs'
 simp [convert,Sem.run_bind,run_underlying hd',run_underlying hd,Conv.intToInt,wrapI8,v8, -BitVec.toNat_ofInt]
theorem cv32to8 (s t':TypeId) (hd:P.underlying t'=some (.int .u8)) (hs':(P.underlying s).isSome=true) (a:BitVec 32):(convert s t' (v32 a)).run P w = .ok (v8 (a.setWidth 8)) w:=by
 have h:=cvI8 (P:=P) w s t' hd hs' .u32 (a.toNat:Int)
 have e:BitVec.ofInt 8 (a.toNat:Int)=a.setWidth 8:=by apply BitVec.eq_of_toNat_eq; rw [BitVec.toNat_ofInt,BitVec.toNat_setWidth]; omega
 rw [e] at h
 exact h
theorem cv64to8 (s t':TypeId) (hd:P.underlying t'=some (.int .u8)) (hs':(P.underlying s).isSome=true) (a:BitVec 64):(convert s t' (v64 a)).run P w = .ok (v8 (a.setWidth 8)) w:=by
 have h:=cvI8 (P:=P) w s t' hd hs' .u64 (a.toNat:Int)
 have e:BitVec.ofInt 8 (a.toNat:Int)=a.setWidth 8:=by apply BitVec.eq_of_toNat_eq; rw [BitVec.toNat_ofInt,BitVec.toNat_setWidth]; omega
 rw [e] at h
 exact h
theorem wrapI32 (z:Int):IntKind.u32.wrap z=((BitVec.ofInt 32 z).toNat:Int):=by
 simp only [IntKind.wrap,IntKind.bits,IntKind.signed,Bool.false_and,Bool.false_eq_true,if_false,BitVec.toNat_ofInt]
 omega
theorem ofInt32 (a:BitVec 32):BitVec.ofInt 32 (a.toNat:Int)=a:=by
 apply BitVec.eq_of_toNat_eq
 simp only [BitVec.toNat_ofInt]
 have:=a.isLt
 omega
theorem add32 (a b:BitVec 32):(binG .add t x y (v32 a) (v32 b)).run P w = .ok (v32 (a+b)) w :=
 binG_of w (guard_int w) (by
  have:IntKind.u32.wrap ((a.toNat:Int)+b.toNat)=((a+b).toNat:Int):=by rw [wrapI32,BitVec.ofInt_add,ofInt32,ofInt32]
  simp [binOp,v32,Op.intArith,this, -BitVec.toNat_add])
theorem shr32 (a:BitVec 32) (k:IntKind) (s:Int) (h:0≤s):(binG .shr t x y (v32 a) (.int k s)).run P w = .ok (v32 (a >>> s.toNat)) w :=
 binG_of w (guard_int w) (by
  have hs : ¬ s<0:=by omega
  have h2:(a.toNat:Int).fdiv (2 ^ (min s.toNat 32))=((a >>> s.toNat).toNat:Int):=by
   rw [BitVec.toNat_ushiftRight,Nat.shiftRight_eq_div_pow]
   have hc : ∀ k:Nat,((2:Int) ^ k)=((2 ^ k:Nat):Int):=fun k=>by simp
   rw [hc,Int.fdiv_eq_ediv_of_nonneg _ (Int.natCast_nonneg _), ← Int.natCast_ediv]
   congr 1
   rcases Nat.le_total s.toNat 32 with h3 | h3
   ·rw [Nat.min_eq_left h3]
   ·rw [Nat.min_eq_right h3]
    have hlt:=a.isLt
    rw [Nat.div_eq_of_lt hlt,Nat.div_eq_of_lt]
    exact Nat.lt_of_lt_of_le hlt (Nat.pow_le_pow_right (by omega) h3)
  simp only [binOp,v32,Op.shift,if_neg hs,IntKind.bits,h2]
  simp)
theorem wrapN64 (a:BitVec 64):IntKind.u64.wrap (a.toNat:Int)=a.toNat:=by
 have:=a.isLt
 simp only [IntKind.wrap,IntKind.bits,IntKind.signed,Bool.false_and,Bool.false_eq_true,if_false]
 omega
theorem wrapI64 (z:Int):IntKind.u64.wrap z=((BitVec.ofInt 64 z).toNat:Int):=by
 simp only [IntKind.wrap,IntKind.bits,IntKind.signed,Bool.false_and,Bool.false_eq_true,if_false,BitVec.toNat_ofInt]
 omega
theorem ofInt64 (a:BitVec 64):BitVec.ofInt 64 (a.toNat:Int)=a:=by
 apply BitVec.eq_of_toNat_eq
 simp only [BitVec.toNat_ofInt]
 have:=a.isLt
 omega
theorem sub64 (a b:BitVec 64):(binG .sub t x y (v64 a) (v64 b)).run P w = .ok (v64 (a - b)) w :=
 binG_of w (guard_int w) (by
  have:IntKind.u64.wrap ((a.toNat:Int) - b.toNat)=((a - b).toNat:Int):=by
   rw [wrapI64]
   have h:BitVec.ofInt 64 ((a.toNat:Int) - b.toNat)=a - b:=by
    rw [Int.sub_eq_add_neg,BitVec.ofInt_add,BitVec.ofInt_neg,ofInt64,ofInt64,BitVec.sub_eq_add_neg]
   rw [h]
  simp [binOp,v64,Op.intArith,this, -BitVec.toNat_sub])
theorem mul64 (a b:BitVec 64):(binG .mul t x y (v64 a) (v64 b)).run P w = .ok (v64 (a * b)) w :=
 binG_of w (guard_int w) (by
  have:IntKind.u64.wrap ((a.toNat:Int) * b.toNat)=((a * b).toNat:Int):=by rw [wrapI64,BitVec.ofInt_mul,ofInt64,ofInt64]
  simp [binOp,v64,Op.intArith,this, -BitVec.toNat_mul])
theorem xor64 (a b:BitVec 64):(binG .xor t x y (v64 a) (v64 b)).run P w = .ok (v64 (a ^^^ b)) w :=
 binG_of w (guard_int w) (by
  have h1:BitVec.ofInt (IntKind.bits .u64) (a.toNat:Int)=a:=ofInt64 a
  have h2:BitVec.ofInt (IntKind.bits .u64) (b.toNat:Int)=b:=ofInt64 b
  have h3:=wrapN64 (a ^^^ b)
  show Result.ok (Value.int .u64 (IntKind.u64.wrap (((BitVec.ofInt (IntKind.bits .u64) (a.toNat:Int)) ^^^ (BitVec.ofInt (IntKind.bits .u64) (b.toNat:Int)):BitVec (IntKind.bits .u64)).toNat:Int))) w=_
  rw [h1,h2]
  exact congrArg (fun z=>Result.ok (Value.int .u64 z) w) h3)
theorem and64 (a b:BitVec 64):(binG .and t x y (v64 a) (v64 b)).run P w = .ok (v64 (a &&& b)) w :=
 binG_of w (guard_int w) (by
  have h1:BitVec.ofInt (IntKind.bits .u64) (a.toNat:Int)=a:=ofInt64 a
  have h2:BitVec.ofInt (IntKind.bits .u64) (b.toNat:Int)=b:=ofInt64 b
  have h3:=wrapN64 (a &&& b)
  show Result.ok (Value.int .u64 (IntKind.u64.wrap (((BitVec.ofInt (IntKind.bits .u64) (a.toNat:Int)) &&& (BitVec.ofInt (IntKind.bits .u64) (b.toNat:Int)):BitVec (IntKind.bits .u64)).toNat:Int))) w=_
  rw [h1,h2]
  exact congrArg (fun z=>Result.ok (Value.int .u64 z) w) h3)
theorem or64 (a b:BitVec 64):(binG .or t x y (v64 a) (v64 b)).run P w = .ok (v64 (a ||| b)) w :=
 binG_of w (guard_int w) (by
  have h1:BitVec.ofInt (IntKind.bits .u64) (a.toNat:Int)=a:=ofInt64 a
  have h2:BitVec.ofInt (IntKind.bits .u64) (b.toNat:Int)=b:=ofInt64 b
  have h3:=wrapN64 (a ||| b)
  show Result.ok (Value.int .u64 (IntKind.u64.wrap (((BitVec.ofInt (IntKind.bits .u64) (a.toNat:Int)) ||| (BitVec.ofInt (IntKind.bits .u64) (b.toNat:Int)):BitVec (IntKind.bits .u64)).toNat:Int))) w=_
  rw [h1,h2]
  exact congrArg (fun z=>Result.ok (Value.int .u64 z) w) h3)
theorem neg64 (a:BitVec 64):(Op.unary .neg (v64 a)).run P w = .ok (v64 (-a)) w:=by
 have:IntKind.u64.wrap (0 - (a.toNat:Int))=((-a).toNat:Int):=by rw [wrapI64,Int.zero_sub,BitVec.ofInt_neg,ofInt64]
 simp only [Op.unary,v64,Op.intArith,this]
 simp
theorem shl64 (a:BitVec 64) (k:IntKind) (s:Int) (h:0≤s):(binG .shl t x y (v64 a) (.int k s)).run P w = .ok (v64 (a <<< s.toNat)) w :=
 binG_of w (guard_int w) (by
  have hs : ¬ s<0:=by omega
  have h2:IntKind.u64.wrap ((a.toNat:Int) * 2 ^ (min s.toNat 64))=((a <<< s.toNat).toNat:Int):=by
   rw [wrapI64]
   congr 1
   rw [BitVec.toNat_ofInt,BitVec.toNat_shiftLeft,Nat.shiftLeft_eq]
   rcases Nat.le_total s.toNat 64 with h3 | h3
   ·rw [Nat.min_eq_left h3]
    have:((a.toNat:Int) * 2 ^ s.toNat)=((a.toNat * 2 ^ s.toNat:Nat):Int):=by simp
    rw [this]
    omega
   ·rw [Nat.min_eq_right h3]
    have e:2 ^ s.toNat=2 ^ 64 * 2 ^ (s.toNat - 64):=by rw [← Nat.pow_add]; congr 1; omega
    have h4:a.toNat * 2 ^ s.toNat % 2 ^ 64=0:=by
     rw [e, ← Nat.mul_assoc,Nat.mul_comm a.toNat,Nat.mul_assoc]; exact Nat.mul_mod_right _ _
    rw [h4]
    have h5:((a.toNat:Int) * 2 ^ 64) % ((2 ^ 64:Nat):Int)=0:=by simp
    rw [h5]; rfl
  simp only [binOp,v64,Op.shift,if_neg hs,IntKind.bits,h2]
  simp)
theorem shr64 (a:BitVec 64) (k:IntKind) (s:Int) (h:0≤s):(binG .shr t x y (v64 a) (.int k s)).run P w = .ok (v64 (a >>> s.toNat)) w :=
 binG_of w (guard_int w) (by
  have hs : ¬ s<0:=by omega
  have h2:(a.toNat:Int).fdiv (2 ^ (min s.toNat 64))=((a >>> s.toNat).toNat:Int):=by
   rw [BitVec.toNat_ushiftRight,Nat.shiftRight_eq_div_pow]
   have hc : ∀ k:Nat,((2:Int) ^ k)=((2 ^ k:Nat):Int):=fun k=>by simp
   rw [hc,Int.fdiv_eq_ediv_of_nonneg _ (Int.natCast_nonneg _), ← Int.natCast_ediv]
   congr 1
   rcases Nat.le_total s.toNat 64 with h3 | h3
   ·rw [Nat.min_eq_left h3]
   ·rw [Nat.min_eq_right h3]
    have hlt:=a.isLt
    rw [Nat.div_eq_of_lt hlt,Nat.div_eq_of_lt]
    exact Nat.lt_of_lt_of_le hlt (Nat.pow_le_pow_right (by omega) h3)
  simp only [binOp,v64,Op.shift,if_neg hs,IntKind.bits,h2]
  simp)
theorem cvI64 (s t':TypeId) (hd:P.underlying t'=some (.int .u64)) (hs':(P.underlying s).isSome=true) (k:IntKind) (z:Int):(convert s t' (.int k z)).run P w = .ok (v64 (BitVec.ofInt 64 z)) w:=by
 obtain ⟨d,hd'⟩:=Option.isSome_iff_exists.1 hs'
 simp [convert,Sem.run_bind,run_underlying hd',run_underlying hd,Conv.intToInt,wrapI64,v64, -BitVec.toNat_ofInt]
theorem cv8to64 (s t':TypeId) (hd:P.underlying t'=some (.int .u64)) (hs':(P.underlying s).isSome=true) (a:BitVec 8):(convert s t' (v8 a)).run P w = .ok (v64 (a.setWidth 64)) w:=by
 have h:=cvI64 (P:=P) w s t' hd hs' .u8 (a.toNat:Int)
 have e:BitVec.ofInt 64 (a.toNat:Int)=a.setWidth 64:=by apply BitVec.eq_of_toNat_eq; rw [BitVec.toNat_ofInt,BitVec.toNat_setWidth]; omega
 rw [e] at h
 exact h
theorem wrap_w64 (z:Int):IntKind.i64.wrap z=w64 z:=IntKind.wrap_i64 z
theorem addI (a b:Int):(binG .add t x y (vi a) (vi b)).run P w = .ok (vi (w64 (a+b))) w:=binG_of w (guard_int w) (by simp [binOp,vi,Op.intArith,wrap_w64])
theorem subI (a b:Int):(binG .sub t x y (vi a) (vi b)).run P w = .ok (vi (w64 (a - b))) w:=binG_of w (guard_int w) (by simp [binOp,vi,Op.intArith,wrap_w64])
theorem mulI (a b:Int):(binG .mul t x y (vi a) (vi b)).run P w = .ok (vi (w64 (a * b))) w:=binG_of w (guard_int w) (by simp [binOp,vi,Op.intArith,wrap_w64])
theorem quoI (a b:Int) (h:b ≠ 0):(binG .quo t x y (vi a) (vi b)).run P w = .ok (vi (w64 (a.tdiv b))) w:=binG_of w (guard_int w) (by simp [binOp,vi,Op.intDiv,wrap_w64,h])
theorem remI (a b:Int) (h:b ≠ 0):(binG .rem t x y (vi a) (vi b)).run P w = .ok (vi (a.tmod b)) w:=binG_of w (guard_int w) (by simp [binOp,vi,Op.intDiv,h])
theorem andI (a b:Int):(binG .and t x y (vi a) (vi b)).run P w = .ok (vi (iop (· &&& ·) a b)) w:=binG_of w (guard_int w) (congrArg (fun z=>Result.ok (Value.int .i64 z) w) (wrap_w64 ((BitVec.ofInt 64 a &&& BitVec.ofInt 64 b:BitVec 64).toNat:Int)))
theorem eqlI (a b:Int):(binG .eql t x y (vi a) (vi b)).run P w = .ok (vb (decide (a=b))) w:=binG_of w (guard_int w) (by
 have:(a == b)=decide (a=b):=by rw [Bool.eq_iff_iff]; simp
 simp [binOp,vi,vb,Op.intCmp,this])
theorem neqI (a b:Int):(binG .neq t x y (vi a) (vi b)).run P w = .ok (vb (decide (a ≠ b))) w:=binG_of w (guard_int w) (by
 have:(a != b)=decide (a ≠ b):=by rw [Bool.eq_iff_iff]; simp
 simp [binOp,vi,vb,Op.intCmp,this])
theorem lssI (a b:Int):(binG .lss t x y (vi a) (vi b)).run P w = .ok (vb (decide (a<b))) w:=binG_of w (guard_int w) (by simp [binOp,vi,vb,Op.intCmp])
theorem leqI (a b:Int):(binG .leq t x y (vi a) (vi b)).run P w = .ok (vb (decide (a≤b))) w:=binG_of w (guard_int w) (by simp [binOp,vi,vb,Op.intCmp])
theorem gtrI (a b:Int):(binG .gtr t x y (vi a) (vi b)).run P w = .ok (vb (decide (b<a))) w:=binG_of w (guard_int w) (by simp [binOp,vi,vb,Op.intCmp])
theorem geqI (a b:Int):(binG .geq t x y (vi a) (vi b)).run P w = .ok (vb (decide (b≤a))) w:=binG_of w (guard_int w) (by simp [binOp,vi,vb,Op.intCmp])
theorem eqB (d:Nat) (a b:Bool) (ht:P.underlying t=some .bool):(Op.equalIn (d+1) t (.bool a) (.bool b)).run P w = .ok (a == b) w:=by
 simp [Op.equalIn,Sem.run_bind,run_underlying ht]
theorem eqlB (a b:Bool) (ht:P.underlying t=some .bool):(binG .eql t x y (vb a) (vb b)).run P w = .ok (vb (a == b)) w:=binG_of w (guard_bool w) (by
 have h:=eqB w 9999 a b ht
 show ((Op.equalIn (9999+1) t (.bool a) (.bool b)) >>= fun r=>pure (Value.bool r)).run P w=_
 rw [Sem.run_bind,h]; simp [vb])
theorem notB (a:Bool):(Op.unary .not (vb a)).run P w = .ok (vb (!a)) w:=by simp [Op.unary,vb]
theorem bytes_toList (a:Str):(bytes a).toList=a.map UInt8.ofBitVec:=by simp [bytes]
theorem bytes_append (a b:Str):bytes a++bytes b=bytes (a++b):=by
 apply ByteArray.ext
 simp [bytes,ByteArray.data_append]
theorem addS (a b:Str) (h:a.length+b.length≤4611686018427387904):(binG .add t x y (vs a) (vs b)).run P w = .ok (vs (a++b)) w:=binG_of w (guard_str w) (by
 have h1 : ¬ (((bytes a).size+(bytes b).size:Nat):Int) > IntKind.max .i64:=by
  rw [bytes_size,bytes_size]
  have:IntKind.max .i64=9223372036854775807:=by decide
  rw [this]
  omega
 simp only [binOp,vs,Op.stringOp,if_neg h1,bytes_append]
 simp)
theorem eqS (a b:Str):((bytes a).toList == (bytes b).toList)=decide (a=b):=by
 rw [Bool.eq_iff_iff,bytes_toList,bytes_toList]
 simp only [beq_iff_eq,decide_eq_true_eq]
 exact List.map_inj_right (fun p q h=>by cases h; rfl)
theorem eqlS (a b:Str):(binG .eql t x y (vs a) (vs b)).run P w = .ok (vb (decide (a=b))) w:=binG_of w (guard_str w) (by
 simp only [binOp,vs,Op.stringOp,eqS]
 simp [vb])
theorem neqS (a b:Str):(binG .neq t x y (vs a) (vs b)).run P w = .ok (vb (decide (a ≠ b))) w:=binG_of w (guard_str w) (by
 simp only [binOp,vs,Op.stringOp,eqS]
 simp [vb])
end
end Go.Kx
end

section
namespace Go.Kx
open Go
theorem newBlock {w0 w:World} {L0 L:Mem} (h:Step w0 L0 w L) (cs:Array Value) (t:TypeId) :
  Step w0 L0 { w with heap:=w.heap.push (.cells cs t) } (⟨some (w.heap.size,0),cs.toList⟩ :: L) :=
 Step.frame (A:=[]) h (Step.alloc w cs t (0,0) (.inr rfl))
theorem drewStep {w0 w:World} {L0 L:Mem} (h:Step w0 L0 w L) (n:Nat):Step w0 L0 { w with drawn:=n } L :=
 Step.frame (A:=[]) (B:=[]) h (Step.draws w n)
section
variable {C:Ctx} {m:Sl} {L:Mem} {dst:Option Tmp} {ty:TypeId} {pos:String} {af:Array Edge} {gd:Option (Nat × Bool)}
theorem E_alloc {e:TypeId} {inf:TypeInfo} {z:Value} {cs:List Value} (hi:C.P.info? e=some inf) (hz:inf.zero=some z) (hcs:z.cells.toList=cs) :
  OpE C ⟨dst, .alloc e,ty,pos,af,gd⟩ m L (Γ:=Nat) (fun b=>ptr (some (b,0)) 0) (fun b=>⟨some (b,0),cs⟩ :: L):=fun a w hs Q K hK=>by
 subst hcs
 have hrun:(execOp a.eval ⟨dst, .alloc e,ty,pos,af,gd⟩).run C.P w = .ok (.value (ptr (some (w.heap.size,0)) 0)) { w with heap:=w.heap.push (.cells z.cells e) }:=by
  simp [execOp,Instr.alloc,zeroValue,typeInfo,hi,hz,Sem.run_bind,newVar,newRow,newObj,Sem.run,ptr,loc,bk,ofs]
 unfold Oper.wp
 rw [hrun]
 exact hK _ _ (newBlock hs.step z.cells e)
theorem E_box {x:Operand} {v:Value} {e:TypeId} {cs:List Value} (hx:ev m x=some v) (hcs:v.cells.toList=cs) :
  OpE C ⟨dst, .box e x,ty,pos,af,gd⟩ m L (Γ:=Nat) (fun b=>ptr (some (b,0)) 0) (fun b=>⟨some (b,0),cs⟩ :: L):=fun a w hs Q K hK=>by
 subst hcs
 have hrun:(execOp a.eval ⟨dst, .box e x,ty,pos,af,gd⟩).run C.P w = .ok (.value (ptr (some (w.heap.size,0)) 0)) { w with heap:=w.heap.push (.cells v.cells e) }:=by
  simp [execOp,hs.slots.ev hx,Instr.box,Sem.run_bind,newVar,newRow,newObj,Sem.run,ptr,loc,bk,ofs]
 unfold Oper.wp
 rw [hrun]
 exact hK _ _ (newBlock hs.step v.cells e)
theorem bytes_get {s:Str} {k:Nat} (h:k<s.length):(bytes s)[k]? = some (UInt8.ofBitVec (s.getD k 0#8)):=by
 have h1:k<(bytes s).size:=by rw [bytes_size]; exact h
 rw [getElem?_pos (bytes s) k h1]
 congr 1
 show (bytes s).data[k]=_
 simp [bytes,h]
theorem V_idxStr {x ix:Operand} {s:Str} {kd:IntKind} {i:Int} {t:TypeId} (hx:ev m x=some (vs s)) (hi:ev m ix=some (.int kd i))
  (hu:C.P.underlying t=some .string) (h0:0≤i) (h1:i<s.length):OpV C ⟨dst, .index t x ix,ty,pos,af,gd⟩ m L (v8 (sg s i)):=fun a w hs=>by
 have hlt:i.toNat<s.length:=by omega
 have hb:=bytes_get hlt
 have e1:(execOp a.eval ⟨dst, .index t x ix,ty,pos,af,gd⟩)=(do pure (.value (← Instr.index t (vs s) (.int kd i)))):=by
  simp only [execOp,hs.slots.ev hx,hs.slots.ev hi]
 rw [e1]
 simp only [Instr.index,asIntOf,vs,Sem.run_bind,run_underlying hu,Sem.run_pure,Result.andThen_ok,if_pos h0,hb]
 simp [v8,sg]
def Bnd (m:Sl) (o:Option Operand) (dflt v:Nat):Prop :=
 match o with
 | none=>v=dflt
 | some x => ∃ k i,ev m x=some (.int k i)∧0≤i∧i.toNat=v
theorem Bnd.some' {x:Operand} {d:Nat} {k:IntKind} {i:Int} (hx:ev m x=some (.int k i)) (h0:0≤i):Bnd m (some x) d i.toNat:=⟨k,i,hx,h0,rfl⟩
theorem Bnd.none' {d:Nat}:Bnd m none d d:=rfl
theorem run_sliceBound {P:Program} {w:World} {k:IntKind} {i:Int} {y:Nat} {code:BoundsCode} (h0:0≤i) (h1:i.toNat≤y) :
  (Instr.sliceBound (.int k i) y code).run P w = .ok i.toNat w:=by
 have:0≤i∧i≤y:=⟨h0,by omega⟩
 simp [Instr.sliceBound,asIntOf,this]
theorem run_bounds {P:Program} {w:World} {a:Act} (hs:Slots m a) {isS:Bool} {len cap:Nat} {lo hi:Option Operand} {l h:Nat}
  (hlo:Bnd m lo 0 l) (hhi:Bnd m hi len h) (h1:l≤h) (h2:h≤cap) :
  (Instr.sliceBounds isS len cap (lo.map a.eval) (hi.map a.eval) none).run P w = .ok (l,h,cap) w:=by
 cases lo with
 | none =>
  have e1:l=0:=hlo
  subst e1
  cases hi with
  | none=>have e2:h=len:=hhi; subst e2; simp [Instr.sliceBounds,Sem.run_bind]
  | some y =>
   obtain ⟨k,i,hy,h0,rfl⟩:=hhi
   simp [Instr.sliceBounds,Sem.run_bind,hs.ev hy,run_sliceBound h0 h2]
 | some x =>
  obtain ⟨k,i,hx,h0,rfl⟩:=hlo
  cases hi with
  | none=>have e2:h=len:=hhi; subst e2; simp [Instr.sliceBounds,Sem.run_bind,hs.ev hx,run_sliceBound h0 h1]
  | some y =>
   obtain ⟨k',i',hy,h0',rfl⟩:=hhi
   simp [Instr.sliceBounds,Sem.run_bind,hs.ev hx,hs.ev hy,run_sliceBound h0' h2,run_sliceBound h0 h1]
theorem bytes_extract (s:Str) (l h:Nat):(bytes s).extract l h=bytes ((s.drop l).take (h - l)):=by
 apply ByteArray.ext
 apply Array.toList_inj.1
 simp [bytes,ByteArray.data_extract,List.extract_eq_drop_take',List.map_drop,List.map_take]
theorem V_sliceStr {x:Operand} {lo hi:Option Operand} {s:Str} {t:TypeId} {l h:Nat} (hx:ev m x=some (vs s)) (hu:C.P.underlying t=some .string)
  (hlo:Bnd m lo 0 l) (hhi:Bnd m hi s.length h) (h1:l≤h) (h2:h≤s.length) :
  OpV C ⟨dst, .slice t x lo hi none,ty,pos,af,gd⟩ m L (vs (sub s l h)):=fun a w hs=>by
 have hb:=run_bounds (P:=C.P) (w:=w) (isS:=false) hs.slots hlo hhi h1 h2
 simp [execOp,hs.slots.ev hx,Instr.sliceAt,Instr.slice,Sem.run_bind,run_underlying hu,vs,bytes_size,hb,bytes_extract,sub]
def cutA (A:Adr) (c l s:Nat):Adr:=if c=l then A else sh A (l * s)
theorem V_sliceSl {x:Operand} {lo hi:Option Operand} {A:Adr} {n c:Nat} {t e:TypeId} {inf:TypeInfo} {s l h:Nat} (hx:ev m x=some (sl A n c)) (hu:C.P.underlying t=some (.slice e))
  (hi':C.P.info? e=some inf) (hsz:inf.size=s) (hlo:Bnd m lo 0 l) (hhi:Bnd m hi n h) (h1:l≤h) (h2:h≤c) :
  OpV C ⟨dst, .slice t x lo hi none,ty,pos,af,gd⟩ m L (sl (cutA A c l s) (h - l) (c - l)):=fun a w hs=>by
 have hb:=run_bounds (P:=C.P) (w:=w) (isS:=true) hs.slots hlo hhi h1 h2
 have hA:(if c=l then (A.map fun p=>(⟨p.1,p.2,none⟩:Addr)) else (A.map fun p=>(⟨p.1,p.2,none⟩:Addr)).map (·.add (l * s)))=(cutA A c l s).map fun p=>⟨p.1,p.2,none⟩:=by
  unfold cutA
  split
  ·rfl
  ·cases A with
   | none=>rfl
   | some p =>
    have := @loc_add (some p) 0 (l * s)
    simpa [loc,bk,ofs,sh] using this
 simp only [execOp,hs.slots.ev hx,Instr.sliceAt,Instr.slice,Sem.run_bind,run_underlying hu,sl,Result.andThen_ok,Option.map_none,hb,sizeOf,typeInfo,program,hi',Sem.run_pure]
 simp [hi',hsz, ← hA,Sem.run]
theorem V_sliceArr {x:Operand} {lo hi:Option Operand} {A:Adr} {o n:Nat} {t e:TypeId} {inf:TypeInfo} {s l h:Nat} (hx:ev m x=some (ptr A o)) (hA:A ≠ none) (hu:C.P.underlying t=some (.array n e))
  (hi':C.P.info? e=some inf) (hsz:inf.size=s) (hlo:Bnd m lo 0 l) (hhi:Bnd m hi n h) (h1:l≤h) (h2:h≤n) :
  OpV C ⟨dst, .slice t x lo hi none,ty,pos,af,gd⟩ m L (sl (cutA (sh A o) n l s) (h - l) (n - l)):=fun a w hs=>by
 have hb:=run_bounds (P:=C.P) (w:=w) (isS:=false) hs.slots hlo hhi h1 h2
 have hA':some (if n=l then loc A o else (loc A o).add (l * s))=(cutA (sh A o) n l s).map fun p=>(⟨p.1,p.2,none⟩:Addr):=by
  cases A with
  | none=>exact absurd rfl hA
  | some p =>
   unfold cutA
   split
   ·simp [loc,bk,ofs,sh]
   ·rw [loc_add]; simp [loc,bk,ofs,sh,Nat.add_assoc]
 simp only [execOp,hs.slots.ev hx,Instr.sliceAt,Sem.run_bind,run_underlying hu,ptr,Instr.sureAddr,Result.andThen_ok,Option.map_none,hb,sizeOf,typeInfo,program,hi',Sem.run_pure]
 simp [hi',hsz,sl, ← hA',Sem.run]
theorem Src.cut {A:Adr} {cs:List Value} {c l h s:Nat} (hsrc:Src C L ⟨A,cs⟩) (h1:l≤h) (h2:h≤c):Src C L ⟨cutA A c l s,(cs.drop (l * s)).take ((h - l) * s)⟩:=by
 unfold cutA
 split
 ·have:h - l=0:=by omega
  rw [this,Nat.zero_mul,List.take_zero]
  exact fun w hs hr=>⟨fun _=>rfl,fun i v hv=>by simp at hv⟩
 ·exact hsrc.part _ _
theorem E_make1 {x y:Operand} {t e:TypeId} {inf:TypeInfo} {z:Value} {n c:Int} (hx:ev m x=some (vi n)) (hy:ev m y=some (vi c)) (hu:C.P.underlying t=some (.slice e))
  (hi:C.P.info? e=some inf) (hz:inf.zero=some z) (hone:z.cells = #[z]) (hsz:inf.size=1) (h0:0≤n) (h1:n≤c) (hb:inf.bytes * c.toNat≤281474976710656) (hc:c≤4611686018427387904) :
  OpE C ⟨dst, .makeSlice t x y,ty,pos,af,gd⟩ m L (Γ:=Nat) (fun b=>sl (some (b,0)) n.toNat c.toNat) (fun b=>⟨some (b,0),List.replicate c.toNat z⟩ :: L):=fun a w hs Q K hK=>by
 have hw : ∀ q:Int,0≤q → q≤c → IntKind.i64.wrap q=q:=fun q g0 g1=>by rw [IntKind.wrap_i64]; omega
 have hbc : ¬ ((inf.bytes:Int) * c > 2 ^ 48):=by
  have:((inf.bytes * c.toNat:Nat):Int)=(inf.bytes:Int) * c:=by rw [Int.natCast_mul,Int.toNat_of_nonneg (by omega)]
  omega
 have hc0 : ¬ c<0:=by omega
 have hn0 : ¬ n<0:=by omega
 have hnc : ¬ n > c:=by omega
 have hcells:(Array.range c.toNat).map (fun i=>(#[z]:Array Value)[i % 1]!)=(List.replicate c.toNat z).toArray:=by
  apply Array.ext
  ·simp
  ·intro i h1 h2; simp [Nat.mod_one]
 have hrun:(execOp a.eval ⟨dst, .makeSlice t x y,ty,pos,af,gd⟩).run C.P w = .ok (.value (sl (some (w.heap.size,0)) n.toNat c.toNat)) { w with heap:=w.heap.push (.cells (List.replicate c.toNat z).toArray e) }:=by
  have hroom : ∀ q w',(askRoom q).run C.P w' = .ok () w':=fun q w'=>by unfold askRoom; split <;> simp [mark,Sem.run]
  simp only [execOp,hs.slots.ev hx,hs.slots.ev hy,Instr.makeSlice,Sem.run_bind,run_underlying hu,vi,asInt,asIntOf,Result.andThen_ok,Sem.run_pure,typeInfo,program,Sem.run,hi,
   hw c (by omega) (by omega),hw n h0 h1,hc0,hn0,hnc,hbc,decide_false,Bool.or_false,Bool.false_eq_true,if_false,hroom,sizeOf,hsz,Nat.mul_one,zeroValue,hz,or_self,false_or]
  by_cases hcz:c.toNat=0
  ·simp [hcz,newRow,newObj,Sem.run,sl]
   congr 2
   exact Array.eq_empty_of_size_eq_zero (by simp)
  ·simp only [if_neg hcz,Result.andThen_ok,hone,Sem.run_bind,Sem.run_pure,Sem.run,hi,hz]
   have:(Array.range c.toNat).map (fun i=>(#[z]:Array Value)[i % (#[z]:Array Value).size]!)=(List.replicate c.toNat z).toArray:=hcells
   simp only [this]
   simp [newRow,newObj,Sem.run,sl]
 unfold Oper.wp
 rw [hrun]
 exact hK _ _ (newBlock hs.step (List.replicate c.toNat z).toArray e)
end
end Go.Kx
end

section
namespace Go.Kx
open Go
@[reducible] def e8 (l:List (BitVec 8)):List Value:=l.map v8
@[reducible] def e32 (l:List (BitVec 32)):List Value:=l.map v32
@[reducible] def e64 (l:List (BitVec 64)):List Value:=l.map v64
@[reducible] def eI (l:List Int):List Value:=l.map vi
@[reducible] def eS (l:List Str):List Value:=l.map vs
@[simp] theorem e8_length (l):(e8 l).length=l.length:=List.length_map ..
@[simp] theorem e32_length (l):(e32 l).length=l.length:=List.length_map ..
@[simp] theorem e64_length (l):(e64 l).length=l.length:=List.length_map ..
@[simp] theorem eI_length (l):(eI l).length=l.length:=List.length_map ..
@[simp] theorem eS_length (l):(eS l).length=l.length:=List.length_map ..
section
variable {C:Ctx} {m:Sl} {L:Mem} {dst:Option Tmp} {ty:TypeId} {pos:String} {af:Array Edge} {gd:Option (Nat × Bool)}
theorem run_make_room {P:Program} (q:Nat) (w':World):(askRoom q).run P w' = .ok () w':=by unfold askRoom; split <;> simp [mark,Sem.run]
theorem made_flatten (zs:Array Value) (hz:zs.size ≠ 0) : ∀ n:Nat,((Array.range (n * zs.size)).map fun i=>zs[i % zs.size]!).toList=(List.replicate n zs.toList).flatten
 | 0=>by simp
 | n+1=>by
  have ih:=made_flatten zs hz n
  rw [List.replicate_succ',List.flatten_append, ← ih]
  simp only [Array.toList_map,Array.toList_range,List.flatten_cons,List.flatten_nil,List.append_nil]
  rw [Nat.succ_mul,List.range_add,List.map_append]
  congr 1
  apply List.ext_getElem
  ·simp
  ·intro i h1 h2
   have hi:i<zs.size:=by simpa using h2
   simp [Nat.mul_comm n zs.size,Nat.mul_add_mod,Nat.mod_eq_of_lt hi,hi]
theorem E_makeN {x y:Operand} {t e:TypeId} {inf:TypeInfo} {z:Value} {zs:List Value} {n c:Int} {s:Nat} (hx:ev m x=some (vi n)) (hy:ev m y=some (vi c)) (hu:C.P.underlying t=some (.slice e))
  (hi:C.P.info? e=some inf) (hz:inf.zero=some z) (hzs:z.cells.toList=zs) (hl:zs.length=s) (hs0:s ≠ 0) (hsz:inf.size=s) (h0:0≤n) (h1:n≤c) (hb:inf.bytes * c.toNat≤281474976710656) (hc:c≤4611686018427387904) :
  OpE C ⟨dst, .makeSlice t x y,ty,pos,af,gd⟩ m L (Γ:=Nat) (fun b=>sl (some (b,0)) n.toNat c.toNat) (fun b=>⟨some (b,0),(List.replicate c.toNat zs).flatten⟩ :: L):=fun a w hs Q K hK=>by
 have hw : ∀ q:Int,0≤q → q≤c → IntKind.i64.wrap q=q:=fun q g0 g1=>by rw [IntKind.wrap_i64]; omega
 have hbc : ¬ ((inf.bytes:Int) * c > 2 ^ 48):=by
  have:((inf.bytes * c.toNat:Nat):Int)=(inf.bytes:Int) * c:=by rw [Int.natCast_mul,Int.toNat_of_nonneg (by omega)]
  omega
 have hc0 : ¬ c<0:=by omega
 have hn0 : ¬ n<0:=by omega
 have hnc : ¬ n > c:=by omega
 have hzsz:z.cells.size=s:=by rw [← Array.length_toList,hzs,hl]
 have hcells:((Array.range (c.toNat * s)).map fun i=>z.cells[i % z.cells.size]!)=((List.replicate c.toNat zs).flatten).toArray:=by
  apply Array.toList_inj.1
  have:=made_flatten z.cells (by omega) c.toNat
  rw [hzsz] at this ⊢
  rw [this,hzs]
 have hrun:(execOp a.eval ⟨dst, .makeSlice t x y,ty,pos,af,gd⟩).run C.P w = .ok (.value (sl (some (w.heap.size,0)) n.toNat c.toNat)) { w with heap:=w.heap.push (.cells ((List.replicate c.toNat zs).flatten).toArray e) }:=by
  simp only [execOp,hs.slots.ev hx,hs.slots.ev hy,Instr.makeSlice,Sem.run_bind,run_underlying hu,vi,asInt,asIntOf,Result.andThen_ok,Sem.run_pure,typeInfo,program,Sem.run,hi,
   hw c (by omega) (by omega),hw n h0 h1,hc0,hn0,hnc,hbc,decide_false,Bool.or_false,Bool.false_eq_true,if_false,run_make_room,sizeOf,hsz,zeroValue,hz,or_self,false_or]
  by_cases hcz:c.toNat=0
  ·simp [hcz,newRow,newObj,Sem.run,sl]
   congr 2
   exact Array.eq_empty_of_size_eq_zero (by simp)
  ·have hne : ¬ c.toNat * s=0:=Nat.mul_ne_zero hcz hs0
   simp only [if_neg hne,Result.andThen_ok,Sem.run_bind,Sem.run_pure,Sem.run,hi,hz]
   simp only [hcells]
   simp [newRow,newObj,Sem.run,sl]
 unfold Oper.wp
 rw [hrun]
 have:=newBlock hs.step ((List.replicate c.toNat zs).flatten).toArray e
 exact hK _ _ this
theorem freeze_new (w:World) (cs:Array Value) (e:TypeId) (n:Nat) :
  (w.alloc (.cells cs e)).freeze ⟨w.heap.size,n,none⟩ 1 = { w with heap:=w.heap.push (.cells cs e (n,n+1)) }:=by
 have hm : ∀ (h:Array Obj) (o:Obj) (f:Obj → Obj),(h.push o).modify h.size f=h.push (f o):=fun h o f=>by
  apply Array.ext
  ·simp
  ·intro i h1 h2
   simp only [Array.getElem_modify,Array.getElem_push]
   by_cases hi:i<h.size
   ·simp [hi,Nat.ne_of_gt hi]
   ·have:i=h.size:=by simp at h1; omega
    simp [this]
 show (if (1:Nat)=0 then _ else ({ w with heap:=(w.heap.push (.cells cs e)).modify w.heap.size _ }:World))=_
 rw [if_neg (by omega),hm]
 simp
theorem run_mark_new {P:Program} (w:World) (cs:Array Value) (e:TypeId) :
  (markStringish ⟨w.heap.size,0,none⟩).run P (w.alloc (.cells cs e)) = .ok () { w with heap:=w.heap.push (.cells cs e (cs.size,cs.size+1)) }:=by
 have hh:(w.alloc (.cells cs e)).heap[w.heap.size]? = some (.cells cs e):=heap_alloc_new w _
 have hs:(w.alloc (.cells cs e)).shape? w.heap.size=some (e,cs.size):=by unfold World.shape?; rw [hh]
 have h1:(shape w.heap.size).run P (w.alloc (.cells cs e)) = .ok (some (e,cs.size)) (w.alloc (.cells cs e)):=by
  show Result.ok ((w.alloc (.cells cs e)).shape? w.heap.size) _=_
  rw [hs]
 unfold markStringish
 rw [Sem.run_bind,h1]
 show Result.ok () ((w.alloc (.cells cs e)).freeze ⟨w.heap.size,cs.size,none⟩ 1)=_
 rw [freeze_new]
theorem strOf_bytes (l:List (BitVec 8)):strOfNums (l.map fun b=>(b.toNat:Int))=bytes l:=by
 apply ByteArray.ext
 apply Array.toList_inj.1
 simp only [strOfNums,bytes,List.map_map]
 refine List.map_congr_left fun b _=>?_
 show UInt8.ofNat b.toNat=UInt8.ofBitVec b
 exact UInt8.toNat_inj.1 (by simp [Nat.mod_eq_of_lt b.isLt])
theorem V_b2s {x:Operand} {A:Adr} {n c:Nat} {l:List (BitVec 8)} {s t e:TypeId} (hx:ev m x=some (sl A n c)) (hs1:C.P.underlying s=some (.slice e)) (he:C.P.underlying e=some (.int .u8))
  (ht:C.P.underlying t=some .string) (hsrc:Src C L ⟨A,e8 l⟩) (hl:l.length=n) :
  OpV C ⟨dst, .convert s t x,ty,pos,af,gd⟩ m L (vs l):=fun a w hs=>by
 have hH:=hsrc w hs.step hs.ro
 have hr:(convert s t (sl A n c)).run C.P w = .ok (vs l) w:=by
  cases A with
  | none =>
   have:l=[]:=by have:=hH.1 rfl; simpa [e8] using this
   subst this
   exact run_convert_bytes_nil w s e hs1 he n c t ht
  | some p =>
   have h:=run_convert_bytes_arg w s e hs1 he p.1 p.2 n c (l.map fun b=>(b.toNat:Int)) (by simpa using hl) (fun i hi=>by
    have hi':i<l.length:=by omega
    have h1:=hH.2 i (v8 l[i]) (by simp [e8,hi'])
    have h2:((l.map fun b=>(b.toNat:Int)).getD i 0)=(l[i].toNat:Int):=by simp [hi']
    rw [h2]
    exact h1) t ht
   rw [strOf_bytes] at h
   exact h
 simp [execOp,hs.slots.ev hx,Sem.run_bind,hr]
def Does (P:Program) (f:FuncId) (args:List Value) (Lin Ro:Mem) {Γ:Type} (val:Γ → Value) (mem:Γ → Mem):Prop :=
 ∀ w,MemOk w Lin → (∀ e ∈ Ro,Has w e) → (∀ f ∈ Lin, ∀ e ∈ Ro,EDisj f e) → Calls P f args.toArray w fun e w' => ∃ g:Γ,e = .returned (val g)∧Step w Lin w' (mem g)
def SrcD (C:Ctx) (Lin R:Mem) (e:Ent):Prop := ∀ w,Step C.w0 C.L0 w (Lin++R) → RoOk C → Has w e ∧ ∀ f ∈ Lin,EDisj f e
theorem SrcD.nil {R:Mem} {e:Ent} (h:Src C R e):SrcD C [] R e:=fun w hs hr=>⟨h w hs hr,fun f hf=>by cases hf⟩
theorem SrcD.own {Lin R:Mem} {j:Nat} {e:Ent} (h:R[j]? = some e):SrcD C Lin R e:=fun w hs _ =>
 ⟨(hs.ok.1 e (List.mem_append_right _ (List.mem_of_getElem? h))).has,fun f hf=>hs.ok.disj hf (List.mem_of_getElem? h)⟩
theorem SrcD.ro {Lin R:Mem} {j:Nat} {e:Ent} (h:C.Ro[j]? = some e):SrcD C Lin R e:=fun w hs hr=>by
 have he:=List.mem_of_getElem? h
 have h0:=hr.1 e he
 refine ⟨h0.keep hs.chg (fun f hf=>hr.2 f hf e he),fun f hf i k hi hk heq=>?_⟩
 rcases hs.new _ (foot_append.2 (.inl ⟨f,hf,i,hi,rfl⟩)) with h1 | ⟨f2,hf2,i2,hi2,heq2⟩
 ·have:=block_lt (h0.2 k _ (List.getElem?_eq_getElem hk))
  rw [heq] at h1
  omega
 ·exact hr.2 f2 hf2 e he i2 k hi2 hk (heq2.symm.trans heq)
theorem SrcD.part {Lin R:Mem} {A:Adr} {cs:List Value} (k n:Nat) (h:SrcD C Lin R ⟨A,cs⟩):SrcD C Lin R ⟨sh A k,(cs.drop k).take n⟩:=fun w hs hr=>by
 obtain ⟨⟨h1,h2⟩,h3⟩:=h w hs hr
 have key : ∀ i,i<((cs.drop k).take n).length → A ≠ none∧loc (sh A k) i=loc A (k+i)∧k+i<cs.length:=fun i hi=>by
  simp only [List.length_take,List.length_drop] at hi
  cases A with
  | none=>have:cs=[]:=h1 rfl; subst this; simp at hi
  | some p=>exact ⟨by simp,by simp [loc,sh,bk,ofs,Nat.add_assoc],by omega⟩
 refine ⟨⟨fun hn=>?_,fun i v hv=>?_⟩,fun f hf i j hi hj=>?_⟩
 ·have:A=none:=by cases A <;> simp_all [sh]
  have h4:cs=[]:=h1 this
  simp [h4]
 ·have hi:=(List.getElem?_eq_some_iff.1 hv).1
  obtain ⟨_,e1,e2⟩:=key i hi
  rw [List.getElem?_take,List.getElem?_drop] at hv
  split at hv
  ·show w.cell? (loc (sh A k) i)=_
   rw [e1]; exact h2 _ v hv
  ·cases hv
 ·obtain ⟨_,e1,e2⟩:=key j hj
  show loc f.A i ≠ loc (sh A k) j
  rw [e1]; exact h3 f hf i (k+j) hi e2
theorem SrcD.cut {Lin R:Mem} {A:Adr} {cs:List Value} {c l h s:Nat} (hsrc:SrcD C Lin R ⟨A,cs⟩) (h1:l≤h) (h2:h≤c):SrcD C Lin R ⟨cutA A c l s,(cs.drop (l * s)).take ((h - l) * s)⟩:=by
 unfold cutA
 split
 ·have:h - l=0:=by omega
  rw [this,Nat.zero_mul,List.take_zero]
  exact fun w hs hr=>⟨⟨fun _=>rfl,fun i v hv=>by simp at hv⟩,fun f hf i j hi hj=>by simp at hj⟩
 ·exact hsrc.part _ _
def SrcDs (C:Ctx) (Lin R:Mem):Mem → Prop
 | []=>True
 | e :: r=>SrcD C Lin R e∧SrcDs C Lin R r
theorem SrcDs.all {Lin R:Mem} : ∀ {Ro:Mem},SrcDs C Lin R Ro → ∀ e ∈ Ro,SrcD C Lin R e
 | [],_,e,he=>by cases he
 | x :: r,h,e,he=>by
  rcases List.mem_cons.1 he with rfl | h1
  ·exact h.1
  ·exact SrcDs.all h.2 e h1
theorem E_call {xs:List Operand} {ats:Array TypeId} {f:FuncId} {vs:List Value} {Lin Ro R:Mem} {is:List Nat} {Γ:Type} {val:Γ → Value} {mem:Γ → Mem}
  (hxs:evs m xs=some vs) (hcall : ∀ args w,(callFunc f args).run C.P w = .ok (.enter f args) w) (hf:Does C.P f vs Lin Ro val mem) (hp:pull is L=some (Lin,R)) (hro:SrcDs C Lin R Ro) :
  OpE C ⟨dst, .call ⟨.value (.func f),xs.toArray,ats⟩,ty,pos,af,gd⟩ m L val (fun g=>mem g++R):=fun a w hs Q K hK=>by
 have h1:Step C.w0 C.L0 w (Lin++R):=hs.step.pulled hp
 have hrun:(execOp a.eval ⟨dst, .call ⟨.value (.func f),xs.toArray,ats⟩,ty,pos,af,gd⟩).run C.P w = .ok (.enter f vs.toArray) w:=by
  have hargs:xs.toArray.map a.eval=vs.toArray:=by simp [hs.slots.evs hxs]
  have hfv:a.eval (.func f) = .func (.func f) #[] #[]:=rfl
  simp only [execOp,resolve,hargs,hfv,Deferred.ofValue]
  simp [invoke,hcall]
 unfold Oper.wp
 rw [hrun,Oper.upon_enter]
 refine (hf w h1.ok.left (fun e he=>(hro.all e he w h1 hs.ro).1) (fun f hf e he=>(hro.all e he w h1 hs.ro).2 f hf)).mono ?_
 rintro e w' ⟨g,rfl,hg⟩
 exact hK g w' (h1.frame hg)
end
end Go.Kx
end

section
namespace Go.Kx
open Go
set_option linter.unusedSectionVars false
section
variable {α:Type} [Inhabited α] {f:α → Value} {n k i:Nat}
theorem get_map {l:List α} (h:k<l.length):(l.map f)[k]? = some (f (lg l k)):=by
 simp [lg,h]
theorem get_vec {V:Vector α n} (h:k<n):(V.toList.map f)[k]? = some (f (vg V k)):=by
 simp [vg,h]
theorem set_map {l:List α} {x:α}:(l.map f).set k (f x)=(l.set k x).map f:=by simp [List.map_set]
theorem vp_list {V:Vector α n} {x:α}:(vp V k x).toList=V.toList.set k x:=by
 simp [vp,Vector.toList,Array.toList_setIfInBounds]
theorem set_vec {V:Vector α n} {x:α}:(V.toList.map f).set k (f x)=(vp V k x).toList.map f:=by rw [vp_list,List.map_set]
@[reducible] def eF (g:α → List Value) (l:List α):List Value:=(l.map g).flatten
theorem eF_length {g:α → List Value} {s:Nat} (hg : ∀ a,(g a).length=s) : ∀ l:List α,(eF g l).length=l.length * s
 | []=>by simp [eF]
 | a :: l=>by simp [eF] at *; simp [hg,eF_length hg l,Nat.succ_mul,Nat.add_comm]; exact (by have:=eF_length hg l; simp [eF] at this; omega)
theorem get_eF {g:α → List Value} {s:Nat} (hg : ∀ a,(g a).length=s) : ∀ (l:List α) (i k:Nat),i<l.length → k<s → (eF g l)[i * s+k]? = (g (lg l i))[k]?
 | [],i,k,hi,_=>by simp at hi
 | a :: l,0,k,_,hk=>by
  simp only [eF,List.map_cons,List.flatten_cons,Nat.zero_mul,Nat.zero_add]
  rw [List.getElem?_append_left (by rw [hg]; exact hk)]
  simp [lg]
 | a :: l,i+1,k,hi,hk=>by
  have ih:=get_eF hg l i k (by simpa using hi) hk
  simp only [eF,List.map_cons,List.flatten_cons]
  rw [List.getElem?_append_right (by rw [hg,Nat.succ_mul]; omega),hg]
  have e:(i+1) * s+k - s=i * s+k:=by rw [Nat.succ_mul]; omega
  rw [e]
  simpa [eF,lg] using ih
theorem part_eF {g:α → List Value} {s:Nat} (hg : ∀ a,(g a).length=s) : ∀ (l:List α) (i:Nat),i<l.length → ((eF g l).drop (i * s)).take s=g (lg l i)
 | [],i,hi=>by simp at hi
 | a :: l,0,_=>by
  simp only [eF,List.map_cons,List.flatten_cons,Nat.zero_mul,List.drop_zero]
  rw [List.take_append_of_le_length (by rw [hg]; exact Nat.le_refl _),List.take_of_length_le (by rw [hg]; exact Nat.le_refl _)]
  simp [lg]
 | a :: l,i+1,hi=>by
  have ih:=part_eF hg l i (by simpa using hi)
  simp only [eF,List.map_cons,List.flatten_cons]
  have e:(i+1) * s=s+i * s:=by rw [Nat.succ_mul]; omega
  have e2:(g a++(l.map g).flatten).drop s=(l.map g).flatten:=by
   have:=hg a
   rw [List.drop_append_of_le_length (by omega),List.drop_of_length_le (by omega),List.nil_append]
  rw [e, ← List.drop_drop,e2]
  simpa [eF,lg] using ih
theorem set_eF {g:α → List Value} {s:Nat} (hg : ∀ a,(g a).length=s) : ∀ (l:List α) (i k:Nat) (x:α) (v:Value),i<l.length → k<s → (g (lg l i)).set k v=g x → (eF g l).set (i * s+k) v=eF g (l.set i x)
 | [],i,k,_,_,hi,_,_=>by simp at hi
 | a :: l,0,k,x,v,_,hk,h=>by
  simp only [eF,List.map_cons,List.flatten_cons,Nat.zero_mul,Nat.zero_add,List.set_cons_zero]
  rw [List.set_append_left _ _ (by rw [hg]; exact hk)]
  have h':(g a).set k v=g x:=by simpa [lg] using h
  rw [h']
 | a :: l,i+1,k,x,v,hi,hk,h=>by
  have ih:=set_eF hg l i k x v (by simpa using hi) hk (by simpa [lg] using h)
  simp only [eF,List.map_cons,List.flatten_cons,List.set_cons_succ]
  rw [List.set_append_right _ _ (by rw [hg,Nat.succ_mul]; omega),hg]
  have e:(i+1) * s+k - s=i * s+k:=by rw [Nat.succ_mul]; omega
  rw [e]
  simpa [eF] using ih
end
theorem toNat_lt {i:Int} {n:Nat} (h0:0≤i) (h1:i<n):i.toNat<n:=by omega
theorem k01 (n:Nat):0+n * 1=n:=by omega
theorem k1 (o n:Nat):o+n * 1=o+n:=by omega
theorem k0 (n s:Nat):0+n * s=n * s:=by omega
theorem km1 (n:Nat):n * 1=n:=by omega
theorem zb {n:Nat} {k:Nat} (a:BitVec n) (h:2 ^ n=k):(a.toNat:Int)<k:=by have:=a.isLt; omega
def putAll (cs:List Value):Nat → List Value → List Value
 | _,[]=>cs
 | o,v :: r=>putAll (cs.set o v) (o+1) r
theorem putAll_splice : ∀ (vs cs:List Value) (o:Nat),o+vs.length≤cs.length → putAll cs o vs=splice cs o vs
 | [],cs,o,_=>by simp [putAll,splice]
 | v :: r,cs,o,h=>by
  simp only [List.length_cons] at h
  rw [putAll,putAll_splice r (cs.set o v) (o+1) (by simp; omega)]
  simp only [splice,List.length_cons]
  have h1:(cs.set o v).take (o+1)=cs.take o++[v]:=by
   rw [List.take_succ_eq_append_getElem (by simp; omega),List.take_set_of_le (Nat.le_refl _)]
   simp
  have h2:(cs.set o v).drop (o+1+r.length)=cs.drop (o+(r.length+1)):=by
   rw [List.drop_set_of_lt (by omega)]; congr 1; omega
  rw [h1,h2]
  simp
theorem splice_all {α:Type} {z c:List α} (h:c.length=z.length):splice z 0 c=c:=by simp [splice,h]
def OneC (vs:List Value):Prop := ∀ v ∈ vs,v.oneCell'=true
theorem OneC.map {α:Type} {f:α → Value} (hf : ∀ a,(f a).oneCell'=true) (l:List α):OneC (l.map f):=fun v hv=>by
 obtain ⟨a,_,rfl⟩:=List.mem_map.1 hv; exact hf a
theorem OneC.app {a b:List Value} (h1:OneC a) (h2:OneC b):OneC (a++b):=fun v hv=>by
 rcases List.mem_append.1 hv with h | h
 ·exact h1 v h
 ·exact h2 v h
theorem OneC.nil:OneC []:=fun v hv=>by cases hv
theorem OneC.cons {v:Value} {b:List Value} (h1:v.oneCell'=true) (h2:OneC b):OneC (v :: b):=fun u hu=>by
 rcases List.mem_cons.1 hu with rfl | h
 ·exact h1
 ·exact h2 u h
theorem OneC.eF {α:Type} [Inhabited α] {g:α → List Value} (hg : ∀ a,OneC (g a)) (l:List α):OneC (Kx.eF g l):=fun v hv=>by
 obtain ⟨x,hx,hv⟩:=List.mem_flatten.1 hv
 obtain ⟨a,_,rfl⟩:=List.mem_map.1 hx
 exact hg a v hv
theorem run_storeCells_step {P:Program} {A:Adr} {o:Nat} : ∀ (vs:List Value) (i:Nat) (cs:List Value) (w:World),MemOk w [⟨A,cs⟩] → o+i+vs.length≤cs.length → OneC vs →
  ∃ w',(storeCells (loc A o) vs i).run P w = .ok () w'∧Step w [⟨A,cs⟩] w' [⟨A,putAll cs (o+i) vs⟩]
 | [],i,cs,w,hm,_,_=>⟨w,by simp [storeCells],Step.refl hm⟩
 | v :: r,i,cs,w,hm,hl,h1=>by
  simp only [List.length_cons] at hl
  have hlt:o+i<cs.length:=by omega
  have hc:=(hm.1 _ (List.mem_singleton.2 rfl)).2 (o+i) _ (List.getElem?_eq_getElem hlt)
  have hst:=run_store (P:=P) hc.1 hc.2 (h1 v (List.mem_cons_self ..))
  have hstep:=Step.set (e:=⟨A,cs⟩) (i:=o+i) v hm hlt
  obtain ⟨w',hr,hs'⟩:=run_storeCells_step (P:=P) (A:=A) (o:=o) r (i+1) (cs.set (o+i) v) (w.setCell (loc A (o+i)) v) hstep.ok (by rw [List.length_set]; omega) (fun u hu=>h1 u (List.mem_cons_of_mem _ hu))
  refine ⟨w',?_,?_⟩
  ·rw [storeCells,loc_add,Sem.run_bind,hst]
   exact hr
  ·have:=Step.frame (R:=[]) (by simpa using hstep) (by simpa using hs')
   simpa [putAll,Nat.add_assoc] using this
section
variable {C:Ctx} {m:Sl} {L:Mem} {dst:Option Tmp} {ty:TypeId} {pos:String} {af:Array Edge} {gd:Option (Nat × Bool)}
theorem storeMany {w:World} {A:Adr} {o j:Nat} {cs vs:List Value} (hs:Step C.w0 C.L0 w L) (hj:L[j]? = some ⟨A,cs⟩) (ho:o+vs.length≤cs.length) (h1:OneC vs) :
  ∃ w',(storeCells (loc A o) vs).run C.P w = .ok () w'∧Step C.w0 C.L0 w' (L.set j ⟨A,splice cs o vs⟩):=by
 have hp:L.Perm (⟨A,cs⟩ :: L.eraseIdx j):=perm_erase L j _ hj
 have h2:Step C.w0 C.L0 w ([⟨A,cs⟩]++L.eraseIdx j):=hs.perm hp
 obtain ⟨w',hr,hs'⟩:=run_storeCells_step (P:=C.P) (o:=o) vs 0 cs w h2.ok.left (by omega) h1
 refine ⟨w',hr,?_⟩
 have h3:=h2.frame hs'
 rw [Nat.add_zero,putAll_splice _ _ _ ho] at h3
 have hlt:j<L.length:=(List.getElem?_eq_some_iff.1 hj).1
 have h4:(L.set j ⟨A,splice cs o vs⟩).Perm (⟨A,splice cs o vs⟩ :: (L.set j ⟨A,splice cs o vs⟩).eraseIdx j):=perm_erase _ j _ (by simp [hlt])
 rw [List.eraseIdx_set_eq] at h4
 exact h3.perm h4.symm
theorem E_storeAgg {x y:Operand} {A:Adr} {o j n:Nat} {cs cs' vs:List Value} {t:TypeId} {inf:TypeInfo} (hx:ev m x=some (ptr A o)) (hy:ev m y=some (.agg vs.toArray))
  (hi:C.P.info? t=some inf) (hn:inf.size=n) (hl:vs.length=n) (hv:OneC vs)
  (hj:L[j]? = some ⟨A,cs⟩) (ho:o+vs.length≤cs.length) (hcs:splice cs o vs=cs') :
  OpE C ⟨dst, .store t x y,ty,pos,af,gd⟩ m L (Γ:=Unit) (fun _=>undef) (fun _=>L.set j ⟨A,cs'⟩):=fun a w hs Q K hK=>by
 subst hcs
 obtain ⟨w',hr,hs'⟩:=storeMany hs.step hj ho hv
 have hrun:(execOp a.eval ⟨dst, .store t x y,ty,pos,af,gd⟩).run C.P w = .ok .skip w':=by
  simp [execOp,hs.slots.ev hx,hs.slots.ev hy,Instr.storeAt,Instr.sureAddr,ptr,Sem.run_bind,storeVar,sizeOf,typeInfo,hi,hn,hl,Value.cells,hr]
 unfold Oper.wp
 rw [hrun]
 exact hK () w' hs'
theorem E_copySl {x y:Operand} {A B:Adr} {d s c c2 j o k:Nat} {cs cs' ds:List Value} {t e t2:TypeId} {inf:TypeInfo} {sz:Nat} (hx:ev m x=some (sl (sh A o) d c)) (hy:ev m y=some (sl B s c2)) (hA:A ≠ none)
  (hu:C.P.underlying t=some (.slice e)) (hi:C.P.info? e=some inf) (hsz:inf.size=sz)
  (hsrc:Src C L ⟨B,ds⟩) (hk:Nat.min s d=k) (hl:k * sz≤ds.length) (hv:OneC ds) (hj:L[j]? = some ⟨A,cs⟩) (ho:o+k * sz≤cs.length) (hcs:splice cs o (ds.take (k * sz))=cs') :
  OpE C ⟨dst, .call ⟨.builtin .copy, #[x,y], #[t,t2]⟩,ty,pos,af,gd⟩ m L (Γ:=Unit) (fun _=>vi k) (fun _=>L.set j ⟨A,cs'⟩):=fun a w hs Q K hK=>by
 subst hcs
 cases A with
 | none=>exact absurd rfl hA
 | some p =>
 have hlen:(ds.take (k * sz)).length=k * sz:=by simp; omega
 obtain ⟨w',hr,hs'⟩:=storeMany (C:=C) (vs:=ds.take (k * sz)) hs.step hj (by rw [hlen]; exact ho) (fun v hv'=>hv v (List.mem_of_mem_take hv'))
 have hH:=hsrc w hs.step hs.ro
 have hfc:(Builtin.firstCells sz k (sl B s c2)).run C.P w = .ok (ds.take (k * sz)).toArray w:=by
  cases B with
  | none =>
   have:ds=[]:=hH.1 rfl
   subst this
   simp [Builtin.firstCells,sl]
  | some q =>
   have h1:=run_loadCells_list (P:=C.P) w (loc (some q) 0) (ds.take (k * sz)) (fun i v hv'=>by
    rw [List.getElem?_take] at hv'
    split at hv'
    ·rw [loc_add,Nat.zero_add]; exact hH.2 i v hv'
    ·cases hv')
   rw [hlen] at h1
   simpa [Builtin.firstCells,sl,loc,bk,ofs] using h1
 have hdst:(sl (sh (some p) o) d c) = .slice (some (loc (some p) o)) d c:=by simp [sl,sh,loc,bk,ofs]
 have hk':s.min d=k:=hk
 have hrun:(execOp a.eval ⟨dst, .call ⟨.builtin .copy, #[x,y], #[t,t2]⟩,ty,pos,af,gd⟩).run C.P w = .ok (.value (vi k)) w':=by
  have hlo:(Builtin.lenOf (sl B s c2)).run C.P w = .ok s w:=by simp [Builtin.lenOf,sl]
  have hargs:(#[x,y].map a.eval) = #[.slice (some (loc (some p) o)) d c,sl B s c2]:=by simp [hs.slots.ev hx,hs.slots.ev hy,hdst]
  simp only [execOp,resolve,hargs]
  simp [invoke,builtin,Builtin.copy_,Sem.run_bind,run_underlying hu,hlo,hk',sizeOf,typeInfo,hi,hsz,hfc,hr,goInt,vi]
 unfold Oper.wp
 rw [hrun]
 exact hK () w' hs'
theorem E_copyStr {x y:Operand} {A:Adr} {d c j o k:Nat} {cs cs':List Value} {s:Str} {t e t2:TypeId} {inf:TypeInfo} (hx:ev m x=some (sl (sh A o) d c)) (hy:ev m y=some (vs s)) (hA:A ≠ none)
  (hu:C.P.underlying t=some (.slice e)) (hi:C.P.info? e=some inf)
  (hk:Nat.min s.length d=k) (hj:L[j]? = some ⟨A,cs⟩) (ho:o+k≤cs.length) (hcs:splice cs o (e8 (s.take k))=cs') :
  OpE C ⟨dst, .call ⟨.builtin .copy, #[x,y], #[t,t2]⟩,ty,pos,af,gd⟩ m L (Γ:=Unit) (fun _=>vi k) (fun _=>L.set j ⟨A,cs'⟩):=fun a w hs Q K hK=>by
 subst hcs
 cases A with
 | none=>exact absurd rfl hA
 | some p =>
 have hks:k≤s.length:=by rw [← hk]; exact Nat.min_le_left _ _
 have hlen:(e8 (s.take k)).length=k:=by rw [e8_length,List.length_take,Nat.min_eq_left hks]
 obtain ⟨w',hr,hs'⟩:=storeMany (C:=C) (vs:=e8 (s.take k)) hs.step hj (by rw [hlen]; exact ho) (OneC.map (fun _=>rfl) _)
 have hfc:(Builtin.firstCells inf.size k (vs s)).run C.P w = .ok (e8 (s.take k)).toArray w:=by
  have:((bytes s).extract 0 k).data.map (fun b=>Value.int .u8 (b.toNat:Int))=(e8 (s.take k)).toArray:=by
   rw [bytes_extract]
   apply Array.toList_inj.1
   simp only [bytes,e8,List.drop_zero,Nat.sub_zero,List.map_take]
   simp only [List.map_toArray,List.map_map, ← List.map_take]
   rfl
  simp only [Builtin.firstCells,vs,this]
  simp
 have hdst:(sl (sh (some p) o) d c) = .slice (some (loc (some p) o)) d c:=by simp [sl,sh,loc,bk,ofs]
 have hrun:(execOp a.eval ⟨dst, .call ⟨.builtin .copy, #[x,y], #[t,t2]⟩,ty,pos,af,gd⟩).run C.P w = .ok (.value (vi k)) w':=by
  have hlo:(Builtin.lenOf (vs s)).run C.P w = .ok s.length w:=by simp [Builtin.lenOf,vs,bytes_size]
  have hargs:(#[x,y].map a.eval) = #[.slice (some (loc (some p) o)) d c,vs s]:=by simp [hs.slots.ev hx,hs.slots.ev hy,hdst]
  have hk':s.length.min d=k:=hk
  simp only [execOp,resolve,hargs]
  simp [invoke,builtin,Builtin.copy_,Sem.run_bind,run_underlying hu,hlo,hk',sizeOf,typeInfo,hi,hfc,goInt,vi, -List.map_take]
  rw [hr]
  rfl
 unfold Oper.wp
 rw [hrun]
 exact hK () w' hs'
end
end Go.Kx
end
