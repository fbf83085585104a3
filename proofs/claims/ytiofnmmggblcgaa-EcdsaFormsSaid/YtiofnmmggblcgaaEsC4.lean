/-
  Part 4 of the proof of what several laws share.
-/
import Derived.Test.YtiofnmmggblcgaaProg
import Derived.Laws.Externs
import Derived.Shelf.Spec.BitsCarry
import Derived.Test.YtiofnmmggblcgaaEsC1
import Derived.Test.YtiofnmmggblcgaaEsC2
import Derived.Test.YtiofnmmggblcgaaEsC3
set_option linter.unusedVariables false
set_option linter.unusedSimpArgs false
section
namespace Go.Kx
open Go
set_option linter.unusedSectionVars false
section
variable {α:Type} [Inhabited α] {n s:Nat} {g:α → List Value} {f:α → Value}
theorem lt_app {l sp:List α} {i:Nat} (h:i<l.length):i<(l++sp).length:=by simp; omega
theorem lg_app {l sp:List α} {i:Nat} (h:i<l.length):lg (l++sp) i=lg l i:=by simp [lg,List.getElem?_append_left h]
theorem get_row {l sp:List α} {i:Nat} (h:i<l.length):((l++sp).map f)[i]? = some (f (lg l i)):=by
 rw [get_map (lt_app h),lg_app h]
theorem eF_ne2 (hg : ∀ a,(g a).length=s) (hs:Nat.beq s 0=false) {l:List α} {i:Nat} (h:i<l.length):eF g l ≠ []:=fun h'=>by
 have h1:=eF_length hg l
 rw [h'] at h1
 have h2:s ≠ 0:=fun h=>by rw [h] at hs; cases hs
 rcases Nat.mul_eq_zero.1 h1.symm with h3 | h3
 ·omega
 ·exact h2 h3
end
theorem PartsOk.sum : ∀ {ps:Parts},PartsOk ps → (flat ps).length=(ps.map (·.1)).sum
 | [],_=>rfl
 | p :: r,h=>by rw [flat_cons,List.length_append,PartsOk.sum h.2,h.1]; simp
theorem flat_len {ps:Parts} {n:Nat} (h:PartsOk ps) (hn:(ps.map (·.1)).sum=n):(flat ps).length=n:=by rw [PartsOk.sum h,hn]
def PartsOne:Parts → Prop
 | []=>True
 | p :: r=>OneC p.2∧PartsOne r
theorem flat_onec : ∀ {ps:Parts},PartsOne ps → OneC (flat ps)
 | [],_=>OneC.nil
 | p :: r,h=>by rw [flat_cons]; exact OneC.app h.1 (flat_onec h.2)
theorem Step.merge {w0 w:World} {L0 L:Mem} {b o:Nat} {c1 c2:List Value} (h:Step w0 L0 w (⟨some (b,o),c1⟩ :: ⟨some (b,o+c1.length),c2⟩ :: L)) :
  Step w0 L0 w (⟨some (b,o),c1++c2⟩ :: L):=by
 have hm:=h.ok.left (A:=[⟨some (b,o),c1⟩,⟨some (b,o+c1.length),c2⟩]) (B:=L)
 have h1:=hm.1 _ (List.mem_cons_self ..)
 have h2:=hm.1 _ (List.mem_cons_of_mem _ (List.mem_cons_self ..))
 have hloc : ∀ i,loc (some (b,o+c1.length)) i=loc (some (b,o)) (c1.length+i):=fun i=>by simp [loc,bk,ofs,Nat.add_assoc]
 refine Step.frame (A:=[⟨some (b,o),c1⟩,⟨some (b,o+c1.length),c2⟩]) (R:=L) (B:=[⟨some (b,o),c1++c2⟩]) h ⟨Chg.refl _ _,⟨?_,by simp⟩,?_⟩
 ·intro e he
  rw [List.mem_singleton] at he
  subst he
  refine ⟨(fun h=>by cases h),fun i v hv=>?_⟩
  by_cases hi:i<c1.length
  ·rw [List.getElem?_append_left hi] at hv; exact h1.2 i v hv
  ·rw [List.getElem?_append_right (by omega)] at hv
   have h3:=h2.2 _ v hv
   have e:loc (some (b,o+c1.length)) (i - c1.length)=loc (some (b,o)) i:=by rw [hloc]; congr 1; omega
   simp only at h3
   rw [e] at h3
   exact h3
 ·rintro a ⟨e,he,i,hi,rfl⟩
  rw [List.mem_singleton] at he
  subst he
  refine .inr ?_
  by_cases hlt:i<c1.length
  ·exact ⟨_,List.mem_cons_self ..,i,hlt,rfl⟩
  ·refine ⟨_,List.mem_cons_of_mem _ (List.mem_cons_self ..),i - c1.length,?_,?_⟩
   ·simp only [List.length_append] at hi ⊢; omega
   ·show loc (some (b,o)) i=loc (some (b,o+c1.length)) (i - c1.length)
    rw [hloc]; congr 1; omega
theorem Step.unents {w0 w:World} {L0 L:Mem} {b:Nat} : ∀ (ps:Parts) (o:Nat),PartsOk ps → ps ≠ [] → Step w0 L0 w (Kx.ents b o ps++L) → Step w0 L0 w (⟨some (b,o),flat ps⟩ :: L)
 | [],_,_,h,_=>absurd rfl h
 | [p],o,_,_,h=>h
 | p :: q :: r,o,hp,_,h=>by
  have h1:Step w0 L0 w (Kx.ents b (o+p.1) (q :: r)++(⟨some (b,o),p.2⟩ :: L)):=by
   refine h.perm ?_
   simp only [Kx.ents,List.cons_append]
   exact (List.Perm.swap _ _ _).trans ((List.perm_middle.symm).cons _)
  have h2:=Step.unents (q :: r) (o+p.1) hp.2 (by simp) h1
  have h3:Step w0 L0 w (⟨some (b,o),p.2⟩ :: ⟨some (b,o+p.2.length),flat (q :: r)⟩ :: L):=by rw [hp.1]; exact h2.perm (List.Perm.swap ..)
  rw [flat_cons]
  exact h3.merge
section
variable {C:Ctx} {Q:Exit → Act → World → Prop} {m:Sl} {L:Mem} {ops:Array Oper} {l rest:List Oper} {dst:Option Tmp} {ty:TypeId} {pos:String} {af:Array Edge} {gd:Option (Nat × Bool)}
theorem E_storeParts {x y:Operand} {b o n:Nat} {is:List Nat} {R:Mem} {t:TypeId} {inf:TypeInfo} (ps ns:Parts) (hx:ev m x=some (ptr (some (b,o)) 0)) (hy:ev m y=some (.agg (flat ns).toArray))
  (hp:pull is L=some (ents b o ps,R)) (hi:C.P.info? t=some inf) (hn:inf.size=n) (hps:PartsOk ps) (hns:PartsOk ns) (hl1:(flat ps).length=n) (hl2:(flat ns).length=n) (h1c:OneC (flat ns)) :
  OpE C ⟨dst, .store t x y,ty,pos,af,gd⟩ m L (Γ:=Unit) (fun _=>undef) (fun _=>ents b o ns++R):=fun a w hs Q K hK=>by
 by_cases h0:ps=[]
 ·subst h0
  have hn0:n=0:=hl1.symm
  have hns0:flat ns=[]:=List.eq_nil_of_length_eq_zero (by rw [hl2,hn0])
  have hrun:(execOp a.eval ⟨dst, .store t x y,ty,pos,af,gd⟩).run C.P w = .ok .skip w:=by
   simp [execOp,hs.slots.ev hx,hs.slots.ev hy,Instr.storeAt,Instr.sureAddr,ptr,Sem.run_bind,storeVar,sizeOf,typeInfo,hi,hn,hns0,hn0,Value.cells,storeCells]
  unfold Oper.wp
  rw [hrun]
  refine hK () w ?_
  have h2:Step C.w0 C.L0 w R:=by have:=hs.step.pulled hp; simpa [ents] using this
  have h3 : ∀ (ns:Parts) (o:Nat),flat ns=[] → Step C.w0 C.L0 w (ents b o ns++R):=by
   intro ns
   induction ns with
   | nil=>intro o _; simpa [ents] using h2
   | cons p r ih =>
    intro o hf
    rw [flat_cons] at hf
    have hp2:=(List.append_eq_nil_iff.1 hf)
    have:=ih (o+p.1) hp2.2
    refine Step.frame (A:=[]) (B:=[⟨some (b,o),p.2⟩]) this ⟨Chg.refl _ _,⟨fun e he=>?_,by simp⟩,fun ad ⟨e,he,i,hi,_⟩=>?_⟩
    ·rw [List.mem_singleton] at he; subst he; exact ⟨(fun h=>by cases h),fun i v hv=>by simp [hp2.1] at hv⟩
    ·rw [List.mem_singleton] at he; subst he; simp [hp2.1] at hi
  exact h3 ns o hns0
 ·have h2:=Step.unents ps o hps h0 (hs.step.pulled hp)
  obtain ⟨w',hr,hs'⟩:=storeMany (C:=C) (j:=0) (o:=0) (vs:=flat ns) h2 rfl (by rw [hl1,hl2]; omega) h1c
  rw [splice_all (by rw [hl1,hl2])] at hs'
  have hrun:(execOp a.eval ⟨dst, .store t x y,ty,pos,af,gd⟩).run C.P w = .ok .skip w':=by
   simp [execOp,hs.slots.ev hx,hs.slots.ev hy,Instr.storeAt,Instr.sureAddr,ptr,Sem.run_bind,storeVar,sizeOf,typeInfo,hi,hn,hl2,Value.cells,hr]
  unfold Oper.wp
  rw [hrun]
  exact hK () w' (Step.ents ns o hns hs')
theorem srcRow {α:Type} {f:α → Value} {A:Adr} {l sp:List α} (h:Src C L ⟨A,(l++sp).map f⟩):Src C L ⟨A,l.map f⟩:=fun w hs hr=>by
 obtain ⟨h1,h2⟩:=h w hs hr
 refine ⟨fun hA=>?_,fun i v hv=>h2 i v ?_⟩
 ·have h3:(l++sp).map f=[]:=h1 hA
  simp at h3
  simp [h3.1]
 ·show ((l++sp).map f)[i]? = _
  rw [List.map_append,List.getElem?_append_left (List.getElem?_eq_some_iff.1 hv).1]
  exact hv
end
section
variable {P:Program} {t e:TypeId} {x y:Operand} (w:World)
end
end Go.Kx
end

section
namespace Go.Kx
open Go
set_option linter.unusedSectionVars false
theorem splice_mid {A c B ds:List Value} {o:Nat} (ho:A.length=o) (h:ds.length=c.length):splice (A++c++B) o ds=A++ds++B:=by
 subst ho
 unfold splice
 have h1:(A++c++B).take A.length=A:=by rw [List.append_assoc,List.take_left]
 have h2:(A++c++B).drop (A.length+ds.length)=B:=by
  rw [h, ← List.length_append,List.drop_left]
 rw [h1,h2]
theorem flat_app : ∀ (A B:Parts),flat (A++B)=flat A++flat B
 | [],B=>by simp [flat]
 | p :: r,B=>by rw [List.cons_append,flat_cons,flat_cons,flat_app r B,List.append_assoc]
theorem fill_part {place:Nat → Option (Nat × Nat)} {i o n:Nat} {v:Value} {r:List (Nat × Value)} {out c ds:List Value} (A B:Parts) (hp:place i=some (o,n)) (hv:v.cells.toList=ds) (hA:PartsOk A) (ho:(A.map (·.1)).sum=o)
  (hc:c.length=n) (hd:ds.length=n) (h:fillL place (flat (A++(n,ds) :: B)) r=some out):fillL place (flat (A++(n,c) :: B)) ((i,v) :: r)=some out:=by
 have e : ∀ x:List Value,flat (A++(n,x) :: B)=flat A++x++flat B:=fun x=>by rw [flat_app,flat_cons,List.append_assoc]
 have hl:=flat_len hA ho
 have hs:splice (flat (A++(n,c) :: B)) o ds=flat (A++(n,ds) :: B):=by
  rw [e,e]; exact splice_mid hl (hd.trans hc.symm)
 unfold fillL
 rw [hp,hv]
 have hle:Nat.ble (o+n) (flat (A++(n,c) :: B)).length=true:=by
  apply Nat.ble_eq_true_of_le
  rw [e]; simp only [List.length_append,hl,hc]; omega
 simp only [hd,Nat.beq_refl,hle,Bool.and_self,hs]
 exact h
theorem fill_end {place:Nat → Option (Nat × Nat)} {cs:List Value}:fillL place cs []=some cs:=rfl
section
variable {C:Ctx} {ops:Array Oper} {Q:Exit → Act → World → Prop} {l:List Oper} {m:Sl} {L:Mem} {js n:Nat} {Lr:Mem} {done:Array Bool}
variable {i:Nat}
end
section
variable {α:Type} [Inhabited α] {n s:Nat} {g:α → List Value} {f:α → Value}
theorem set_row {l sp:List α} {i:Nat} {x:α} (h:i<l.length):((l++sp).map f).set i (f x)=(l.set i x++sp).map f:=by
 rw [set_map,List.set_append_left _ _ h]
end
end Go.Kx
end

section
namespace Go.Kx
open Go
set_option linter.unusedSectionVars false
def cutB (A:Adr) (c lo b s:Nat):Adr:=if c=lo then sh A (b * s) else sh A (lo * s)
@[reducible] def vw (A:Adr) (c lo hi b s:Nat):Value:=sl (cutB A c lo b s) (hi - lo) (c - lo)
section
variable {C:Ctx} {m:Sl} {L:Mem} {dst:Option Tmp} {ty:TypeId} {pos:String} {af:Array Edge} {gd:Option (Nat × Bool)}
end
section
variable {C:Ctx} {m:Sl} {L:Mem} {Q:Exit → Act → World → Prop} {c:Code} {α:Type}
theorem row_set {A:Adr} {l l' sp:List α} {i:Nat} {x:α} (h:l.set i x=l'):sl A l.length (l++sp).length=sl A l'.length (l'++sp).length:=by
 subst h; simp
end
end Go.Kx
end

section
namespace Go.Proofs.TryI
open Go Go.Kx
open Vector (replicate)
set_option maxRecDepth 20000
theorem inf3:Try.prog.info? 3=some Try.t3:=by kernel_rfl
theorem und3:(Try.prog.underlying 3).isSome=true:=by kernel_rfl
theorem inf5:Try.prog.info? 5=some Try.t5:=by kernel_rfl
theorem und5:(Try.prog.underlying 5).isSome=true:=by kernel_rfl
theorem zer5:zcells Try.t5=some (flat [(1,[v8 0#8])]):=by kernel_rfl
theorem inf9:Try.prog.info? 9=some Try.t9:=by kernel_rfl
theorem zer9:zcells Try.t9=some (flat [(1,[vs ([]:Str)])]):=by kernel_rfl
theorem inf29:Try.prog.info? 29=some Try.t29:=by kernel_rfl
theorem und29:(Try.prog.underlying 29).isSome=true:=by kernel_rfl
theorem inf30:Try.prog.info? 30=some Try.t30:=by kernel_rfl
theorem zer30:zcells Try.t30=some (flat [(8,e32 ((replicate 8 0#32).toList))]):=by kernel_rfl
theorem inf31:Try.prog.info? 31=some Try.t31:=by kernel_rfl
theorem zer31:zcells Try.t31=some (flat [(8,e32 ((replicate 8 0#32).toList))]):=by kernel_rfl
theorem inf33:Try.prog.info? 33=some Try.t33:=by kernel_rfl
theorem zer33:zcells Try.t33=some (flat [(8,e32 ((replicate 8 0#32).toList)),(8,e32 ((replicate 8 0#32).toList)),(8,e32 ((replicate 8 0#32).toList))]):=by kernel_rfl
theorem places33 (w:World):((#[Field.mk "X" 31 0 false "" "" 0,Field.mk "Y" 31 8 false "" "" 32,Field.mk "Z" 31 16 false "" "" 64]:Array Field).mapM (m:=Sem) fun f:Field=>do pure (f.offset, ← sizeOf f.type)).run Try.prog w = .ok ([(0,8),(8,8),(16,8)]:List (Nat × Nat)).toArray w:=by kernel_rfl
theorem und44:(Try.prog.underlying 44).isSome=true:=by kernel_rfl
theorem inf55:Try.prog.info? 55=some Try.t55:=by kernel_rfl
theorem und55:(Try.prog.underlying 55).isSome=true:=by kernel_rfl
theorem inf57:Try.prog.info? 57=some Try.t57:=by kernel_rfl
theorem zer57:zcells Try.t57=some (flat [(4,e64 ((replicate 4 0#64).toList))]):=by kernel_rfl
theorem inf64:Try.prog.info? 64=some Try.t64:=by kernel_rfl
theorem zer64:zcells Try.t64=some (flat [(4,e64 ((replicate 4 0#64).toList)),(4,e64 ((replicate 4 0#64).toList)),(4,e64 ((replicate 4 0#64).toList))]):=by kernel_rfl
theorem places64 (w:World):((#[Field.mk "x" 57 0 false "" "halberd/pcurve" 0,Field.mk "y" 57 4 false "" "halberd/pcurve" 32,Field.mk "z" 57 8 false "" "halberd/pcurve" 64]:Array Field).mapM (m:=Sem) fun f:Field=>do pure (f.offset, ← sizeOf f.type)).run Try.prog w = .ok ([(0,4),(4,4),(8,4)]:List (Nat × Nat)).toArray w:=by kernel_rfl
theorem inf82:Try.prog.info? 82=some Try.t82:=by kernel_rfl
theorem inf100:Try.prog.info? 100=some Try.t100:=by kernel_rfl
theorem zer100:zcells Try.t100=some (flat [(1,[Value.pointer none]),(4,e64 ((replicate 4 0#64).toList))]):=by kernel_rfl
theorem places100 (w:World):((#[Field.mk "Field" 82 0 true "" "" 0,Field.mk "b" 57 1 false "" "halberd/pcurve" 8]:Array Field).mapM (m:=Sem) fun f:Field=>do pure (f.offset, ← sizeOf f.type)).run Try.prog w = .ok ([(0,1),(1,4)]:List (Nat × Nat)).toArray w:=by kernel_rfl
theorem inf107:Try.prog.info? 107=some Try.t107:=by kernel_rfl
theorem zer107:zcells Try.t107=some (flat [(10,e64 ((replicate 10 0#64).toList))]):=by kernel_rfl
theorem inf113:Try.prog.info? 113=some Try.t113:=by kernel_rfl
theorem zer113:zcells Try.t113=some (flat [(4,e64 ((replicate 4 0#64).toList)),(1,[v64 0#64]),(4,e64 ((replicate 4 0#64).toList)),(4,e64 ((replicate 4 0#64).toList))]):=by kernel_rfl
theorem places113 (w:World):((#[Field.mk "M" 57 0 false "" "" 0,Field.mk "inv" 55 4 false "" "halberd/num" 32,Field.mk "one" 57 5 false "" "halberd/num" 40,Field.mk "two" 57 9 false "" "halberd/num" 72]:Array Field).mapM (m:=Sem) fun f:Field=>do pure (f.offset, ← sizeOf f.type)).run Try.prog w = .ok ([(0,4),(4,1),(5,4),(9,4)]:List (Nat × Nat)).toArray w:=by kernel_rfl
theorem inf116:Try.prog.info? 116=some Try.t116:=by kernel_rfl
theorem zer116:zcells Try.t116=some (flat [(6,e64 ((replicate 6 0#64).toList))]):=by kernel_rfl
theorem inf123:Try.prog.info? 123=some Try.t123:=by kernel_rfl
theorem zer123:zcells Try.t123=some (flat [(1,[vi 0]),(1,[vs ([]:Str)])]):=by kernel_rfl
theorem places123 (w:World):((#[Field.mk "Tag" 3 0 false "" "" 0,Field.mk "Body" 9 1 false "" "" 8]:Array Field).mapM (m:=Sem) fun f:Field=>do pure (f.offset, ← sizeOf f.type)).run Try.prog w = .ok ([(0,1),(1,1)]:List (Nat × Nat)).toArray w:=by kernel_rfl
theorem inf137:Try.prog.info? 137=some Try.t137:=by kernel_rfl
theorem zer137:zcells Try.t137=some (flat [(64,e32 ((replicate 64 0#32).toList))]):=by kernel_rfl
end Go.Proofs.TryI
end

section
namespace Go.Kx
open Go
def iter {σ:Type} (step:Nat → σ → σ):Nat → σ → σ
 | 0,s=>s
 | n+1,s=>step n (iter step n s)
theorem loop_at {σ τ:Type} {body:σ → Option (σ ⊕ τ)} (f:Nat → σ) (n:Nat) (t:τ) (hstep : ∀ k,k<n → body (f k)=some (.inl (f (k+1)))) (hend:body (f n)=some (.inr t)) :
  ∀ (d m fuel:Nat),m+d=n → d<fuel → loop body fuel (f m)=some t
 | 0,m,0,_,h=>by omega
 | 0,m,fuel+1,hm,_=>by
  have:m=n:=by omega
  subst this
  simp only [loop,hend]
 | d+1,m,0,_,h=>by omega
 | d+1,m,fuel+1,hm,h=>by
  simp only [loop,hstep m (by omega)]
  exact loop_at f n t hstep hend d (m+1) fuel (by omega) (by omega)
theorem loop_iter {σ τ:Type} {body:σ → Option (σ ⊕ τ)} (f:Nat → σ) (n:Nat) (t:τ) (hn:n<1152921504606846976) (hstep : ∀ k,k<n → body (f k)=some (.inl (f (k+1)))) (hend:body (f n)=some (.inr t)):loop body BIG (f 0)=some t :=
 loop_at f n t hstep hend n 0 BIG (by omega) hn
theorem loop_count {σ τ:Type} {body:Int × σ → Option ((Int × σ) ⊕ τ)} (n:Nat) (step:Nat → σ → σ) (s0:σ) (t:τ) (I:Nat → σ → Prop) (hn:n<1152921504606846976) (h0:I 0 s0)
  (hstep : ∀ k s,k<n → I k s → body ((k:Int),s)=some (.inl (((k+1:Nat):Int),step k s))∧I (k+1) (step k s)) (hend : ∀ s,I n s → s=iter step n s0 → body ((n:Int),s)=some (.inr t)) :
  loop body BIG ((0:Int),s0)=some t:=by
 have hI : ∀ k,k≤n → I k (iter step k s0):=by
  intro k
  induction k with
  | zero=>intro _; exact h0
  | succ k ih=>intro hk; exact (hstep k _ (by omega) (ih (by omega))).2
 exact loop_iter (fun k=>((k:Int),iter step k s0)) n t hn (fun k hk=>(hstep k _ hk (hI k (by omega))).1) (hend _ (hI n (Nat.le_refl _)) rfl)
theorem w64_id {x:Int} (h0 : -9223372036854775808≤x) (h1:x<9223372036854775808):w64 x=x:=by
 unfold w64
 omega
theorem w64_nat {n:Nat} (h:n<9223372036854775808):w64 (n:Int)=n:=w64_id (by omega) (by omega)
theorem vg_eq' {α:Type} [Inhabited α] {n:Nat} {V:Vector α n} {k:Nat} (h:k<n):vg V k=V[k]:=by simp [vg,h]
theorem vg_vp {α:Type} [Inhabited α] {n:Nat} {V:Vector α n} {k j:Nat} {x:α} (h:k<n) (hj:j<n):vg (vp V k x) j=if k=j then x else vg V j:=by
 rw [vg_eq' hj,vg_eq' hj]
 simp [vp,Vector.getElem_setIfInBounds]
theorem vec_ext {α:Type} [Inhabited α] {n:Nat} {V W:Vector α n} (h : ∀ i,i<n → vg V i=vg W i):V=W:=by
 ext i hi
 have:=h i hi
 rwa [vg_eq' hi,vg_eq' hi] at this
theorem vg_ofFn {α:Type} [Inhabited α] {n:Nat} {f:Fin n → α} {i:Nat} (h:i<n):vg (Vector.ofFn f) i=f ⟨i,h⟩:=by
 rw [vg_eq' h]; simp
theorem ltt_i {α β:Type} {x:α} {f:α → β} {r:β} (h : ∀ v,v=x → f v=r):ltt x f=r:=h x rfl
theorem if_i {α:Type} {p:Prop} [Decidable p] {x y r:α} (hp:p) (h:x=r):(if p then x else y)=r:=by rwa [if_pos hp]
theorem if_n {α:Type} {p:Prop} [Decidable p] {x y r:α} (hp : ¬ p) (h:y=r):(if p then x else y)=r:=by rwa [if_neg hp]
theorem bind_i {α β:Type} {x:Option α} {f:α → Option β} {r:Option β} {v:α} (hx:x=some v) (h:f v=r):x.bind f=r:=by subst hx; exact h
theorem loop_fill {α τ:Type} [Inhabited α] {n:Nat} {body:Int × Vector α n → Option ((Int × Vector α n) ⊕ τ)} (v0:Vector α n) (g:Nat → α) (t:Vector α n → τ) (hn:n<1152921504606846976)
  (hstep : ∀ k v,k<n → (∀ j,k≤j → j<n → vg v j=vg v0 j) → body ((k:Int),v)=some (.inl (((k+1:Nat):Int),vp v k (g k))))
  (hend : ∀ v,body ((n:Int),v)=some (.inr (t v))):loop body BIG ((0:Int),v0)=some (t (Vector.ofFn fun i=>g i.val)):=by
 have key : ∀ k,k≤n → ∀ j,j<n → vg (iter (fun k v=>vp v k (g k)) k v0) j=if j<k then g j else vg v0 j:=by
  intro k
  induction k with
  | zero=>intro _ j hj; simp [iter]
  | succ k ih =>
   intro hk j hj
   show vg (vp _ k (g k)) j=_
   rw [vg_vp (by omega) hj,ih (by omega) j hj]
   by_cases h1:k=j
   ·subst h1; simp
   ·rw [if_neg h1]
    by_cases h2:j<k
    ·rw [if_pos h2,if_pos (by omega)]
    ·rw [if_neg h2,if_neg (by omega)]
 refine loop_count n (fun k v=>vp v k (g k)) v0 _ (fun k v => ∀ j,j<n → vg v j=if j<k then g j else vg v0 j) hn (fun j hj=>by simp) (fun k v hk hv=>⟨hstep k v hk (fun j h1 h2=>by rw [hv j h2,if_neg (by omega)]),fun j hj=>?_⟩) (fun v hv _=>?_)
 ·show vg (vp v k (g k)) j=_
  rw [vg_vp hk hj,hv j hj]
  by_cases h1:k=j
  ·subst h1; simp
  ·rw [if_neg h1]
   by_cases h2:j<k
   ·rw [if_pos h2,if_pos (by omega)]
   ·rw [if_neg h2,if_neg (by omega)]
 ·rw [hend v]
  have:v=Vector.ofFn fun i=>g i.val:=vec_ext fun i hi=>by rw [hv i hi,if_pos hi,vg_ofFn hi]
  rw [this]
end Go.Kx
end

section
namespace Go.Kx
open Go
theorem loop_fn {S τ:Type} {body:S → Option (S ⊕ τ)} (f:Nat → S) (n:Nat) {s0:S} (t:τ) (hn:n<1152921504606846976) (h0:s0=f 0)
  (hstep : ∀ k,k<n → body (f k)=some (.inl (f (k+1)))) (hend:body (f n)=some (.inr t)):loop body BIG s0=some t:=by
 subst h0; exact loop_iter f n t hn hstep hend
theorem sub_all (s:Str):sub s 0 s.length=s:=by simp [sub]
theorem sg_nat (s:Str) (i:Nat):sg s (i:Int)=s.getD i 0#8:=rfl
theorem tmodN' (k m:Nat):((k:Int).tmod (m:Int))=((k % m:Nat):Int):=by
 rw [Int.tmod_eq_emod_of_nonneg (by omega)]; omega
theorem tdivN' (k m:Nat):((k:Int).tdiv (m:Int))=((k / m:Nat):Int):=by
 rw [Int.tdiv_eq_ediv_of_nonneg (by omega)]; omega
end Go.Kx
namespace Go.Kx
theorem w64_add {a b:Nat} (h:a+b<9223372036854775808):w64 ((a:Int)+(b:Int))=((a+b:Nat):Int):=by
 rw [w64_id (by omega) (by omega)]; omega
theorem w64_mul {a b:Nat} (h:a * b<9223372036854775808):w64 ((a:Int) * (b:Int))=((a * b:Nat):Int):=by
 rw [← Int.natCast_mul]; exact w64_nat h
theorem w64_div {a b:Nat} (h:a<9223372036854775808):w64 ((a:Int).tdiv (b:Int))=((a / b:Nat):Int):=by
 rw [tdivN']; exact w64_nat (by have:=Nat.div_le_self a b; omega)
end Go.Kx
namespace Go.Kx
theorem loop_ex {S τ:Type} {body:S → Option (S ⊕ τ)} (Q:Option τ → Prop) : ∀ (d fuel:Nat) (I:Nat → S → Prop) (s:S),I d s → d<fuel →
  (∀ k s,I (k+1) s → (∃ s',body s=some (.inl s')∧I k s') ∨ ∃ t,body s=some (.inr t)∧Q (some t)) → (∀ s,I 0 s → ∃ t,body s=some (.inr t)∧Q (some t)) → Q (loop body fuel s)
 | 0,0,_,_,_,h,_,_=>by omega
 | 0,fuel+1,I,s,hI,_,_,h0=>by
  obtain ⟨t,ht,hq⟩:=h0 s hI
  simp only [loop,ht]; exact hq
 | d+1,0,_,_,_,h,_,_=>by omega
 | d+1,fuel+1,I,s,hI,h,hs,h0=>by
  rcases hs d s hI with ⟨s',hb,hI'⟩ | ⟨t,ht,hq⟩
  ·simp only [loop,hb]
   exact loop_ex Q d fuel I s' hI' (by omega) hs h0
  ·simp only [loop,ht]; exact hq
end Go.Kx
end

section
namespace Go.Kx
open Go
theorem TL_join {C:Ctx} {ops:Array Oper} {Q:Exit → Act → World → Prop} {l:List Oper} {m:Sl} {L:Mem} {Γ:Type} (m':Γ → Sl) (L':Γ → Mem)
  (hr : ∀ g,TX C Q .normal (m' g) (L' g)) (h:(∀ g,TX C Q .normal (m' g) (L' g)) → TL C ops Q l m L):TL C ops Q l m L:=h hr
end Go.Kx
end

section
namespace Go.Kx
open Go Go.Proofs
theorem V_ext {C:Ctx} {m:Sl} {L:Mem} {dst ty pos af gd} {xs:List Operand} {ats:Array TypeId} {f:FuncId} {vs:List Value} {v:Value}
  (hxs:evs m xs=some vs) (hx : ∀ w,(callFunc f vs.toArray).run C.P w = .ok (.value v) w) :
  OpV C ⟨dst, .call ⟨.value (.func f),xs.toArray,ats⟩,ty,pos,af,gd⟩ m L v:=fun a w hs=>by
 have hargs:xs.toArray.map a.eval=vs.toArray:=by simp [hs.slots.evs hxs]
 have hfv:a.eval (.func f) = .func (.func f) #[] #[]:=rfl
 simp only [execOp,resolve,hargs,hfv,Deferred.ofValue]
 simp [invoke,hx]
def math_bits_Add64 (x y c:BitVec 64):Option (BitVec 64 × BitVec 64) :=
 if c.toNat≤1 then some (BitVec.ofNat 64 (x.toNat+y.toNat+c.toNat),BitVec.ofNat 64 ((x.toNat+y.toNat+c.toNat) / 18446744073709551616)) else none
def math_bits_Sub64 (x y c:BitVec 64):Option (BitVec 64 × BitVec 64) :=
 if c.toNat≤1 then some (BitVec.ofNat 64 (x.toNat+18446744073709551616 - y.toNat - c.toNat),if x.toNat<y.toNat+c.toNat then 1#64 else 0#64) else none
theorem ext_add {P:Program} {f:FuncId} {fn:Func} (hf:P.funcs[f]? = some fn) (h1:(fn.name == "runtime.NumGoroutine")=false) (h2:fn.body.isNone=true) (h3:Extern.findNext fn=none)
  (h4:Extern.find fn=some add64Entry) {x y c:BitVec 64} {r:BitVec 64 × BitVec 64} (H:math_bits_Add64 x y c=some r) (w:World) :
  (callFunc f ([v64 x,v64 y,v64 c]:List Value).toArray).run P w = .ok (.value (.tuple #[v64 r.1,v64 r.2])) w:=by
 unfold math_bits_Add64 at H
 split at H
 ·rename_i hc
  cases H
  have hx:=x.isLt
  have hy:=y.isLt
  refine (run_callFunc_extern hf h1 h2 h3 h4 _ w).trans ?_
  have:=run_add64 (P:=P) (x.toNat:Int) y.toNat c.toNat (by omega) (by omega) (by omega) (by omega) w
  refine (congrArg (fun r=>Result.andThen r _) this).trans ?_
  have e1:((x.toNat:Int)+y.toNat+c.toNat) % 18446744073709551616=(((x.toNat+y.toNat+c.toNat) % 2 ^ 64:Nat):Int):=by omega
  have e2:((x.toNat:Int)+y.toNat+c.toNat) / 18446744073709551616=(((x.toNat+y.toNat+c.toNat) / 18446744073709551616 % 2 ^ 64:Nat):Int):=by omega
  rw [e1,e2]
  simp only [Result.andThen,v64,BitVec.toNat_ofNat]
 ·cases H
theorem ext_sub {P:Program} {f:FuncId} {fn:Func} (hf:P.funcs[f]? = some fn) (h1:(fn.name == "runtime.NumGoroutine")=false) (h2:fn.body.isNone=true) (h3:Extern.findNext fn=none)
  (h4:Extern.find fn=some sub64Entry) {x y c:BitVec 64} {r:BitVec 64 × BitVec 64} (H:math_bits_Sub64 x y c=some r) (w:World) :
  (callFunc f ([v64 x,v64 y,v64 c]:List Value).toArray).run P w = .ok (.value (.tuple #[v64 r.1,v64 r.2])) w:=by
 unfold math_bits_Sub64 at H
 split at H
 ·rename_i hc
  cases H
  refine (run_callFunc_extern hf h1 h2 h3 h4 _ w).trans ?_
  have:=run_sub64 (P:=P) x.toNat y.toNat c.toNat hc w
  refine (congrArg (fun r=>Result.andThen r _) this).trans ?_
  simp only [Result.andThen,v64,BitVec.toNat_ofNat]
  congr 5
  split <;> rfl
 ·cases H
end Go.Kx
end

section
namespace Go.Kx
open Go
theorem loop_inv {S τ:Type} {body:S → Option (S ⊕ τ)} (n:Nat) (I:Nat → S → Prop) (P:τ → Prop) {s0:S} (hn:n<1152921504606846976) (h0:I 0 s0)
  (hstep : ∀ k s,k<n → I k s → ∃ s',body s=some (.inl s')∧I (k+1) s') (hend : ∀ s,I n s → ∃ t,body s=some (.inr t)∧P t) : ∃ t,loop body BIG s0=some t∧P t:=by
 have:=loop_ex (body:=body) (fun r => ∃ t,r=some t∧P t) n BIG (fun d s=>d≤n∧I (n - d) s) s0 ⟨Nat.le_refl _,by simpa using h0⟩ hn ?_ ?_
 ·exact this
 ·rintro k s ⟨hk,hI⟩
  obtain ⟨s',h1,h2⟩:=hstep (n - (k+1)) s (by omega) hI
  refine .inl ⟨s',h1,by omega,?_⟩
  have:n - (k+1)+1=n - k:=by omega
  rwa [this] at h2
 ·rintro s ⟨_,hI⟩
  obtain ⟨t,h1,h2⟩:=hend s (by simpa using hI)
  exact ⟨t,h1,t,rfl,h2⟩
def pv (B:Nat) (f:Nat → Nat):Nat → Nat
 | 0=>0
 | k+1=>pv B f k+f k * B ^ k
theorem pv_congr {B:Nat} {f g:Nat → Nat} : ∀ {k:Nat},(∀ j,j<k → f j=g j) → pv B f k=pv B g k
 | 0,_=>rfl
 | k+1,h=>by
  show pv B f k+f k * B ^ k=pv B g k+g k * B ^ k
  rw [pv_congr fun j hj=>h j (by omega),h k (by omega)]
theorem pv_lt {B:Nat} {f:Nat → Nat} (hf : ∀ j,f j<B) : ∀ k,pv B f k<B ^ k
 | 0=>Nat.one_pos
 | k+1=>by
  show pv B f k+f k * B ^ k<B ^ (k+1)
  have h1:=pv_lt hf k
  have h2:=Nat.mul_le_mul_right (B ^ k) (Nat.succ_le_of_lt (hf k))
  rw [Nat.pow_succ,Nat.mul_comm (B ^ k) B]
  rw [Nat.succ_mul] at h2
  omega
theorem pv_shift {B:Nat} {f:Nat → Nat} : ∀ k,pv B f (k+1)=f 0+B * pv B (fun j=>f (j+1)) k
 | 0=>by simp [pv]
 | k+1=>by
  show pv B f (k+1)+f (k+1) * B ^ (k+1)=f 0+B * (pv B (fun j=>f (j+1)) k+f (k+1) * B ^ k)
  rw [pv_shift k,Nat.pow_succ,Nat.mul_add,Nat.add_assoc, ← Nat.mul_assoc,Nat.mul_comm (f (k+1) * B ^ k) B]
theorem pv_ext {B:Nat} {f g:Nat → Nat} (hf : ∀ j,f j<B) (hg : ∀ j,g j<B) : ∀ k,pv B f k=pv B g k → ∀ j,j<k → f j=g j
 | 0,_,j,hj=>by omega
 | k+1,h,j,hj=>by
  have h':pv B f k+f k * B ^ k=pv B g k+g k * B ^ k:=h
  have h1:=pv_lt hf k
  have h2:=pv_lt hg k
  have hB:0<B ^ k:=by omega
  have e1:(pv B f k+f k * B ^ k) / B ^ k=f k:=by rw [Nat.add_mul_div_right _ _ hB,Nat.div_eq_of_lt h1,Nat.zero_add]
  have e2:(pv B g k+g k * B ^ k) / B ^ k=g k:=by rw [Nat.add_mul_div_right _ _ hB,Nat.div_eq_of_lt h2,Nat.zero_add]
  have ek:f k=g k:=by rw [← e1, ← e2,h']
  by_cases hjk:j=k
  ·rw [hjk,ek]
  ·refine pv_ext hf hg k ?_ j (by omega)
   rw [ek] at h'
   exact Nat.add_right_cancel h'
theorem pow_s (B k:Nat):B ^ (k+1)=B ^ k * B:=rfl
def wv {b n:Nat} (v:Vector (BitVec b) n) (j:Nat):Nat:=(vg v j).toNat
theorem wv_lt {b n:Nat} (v:Vector (BitVec b) n) (j:Nat):wv v j<2 ^ b:=(vg v j).isLt
theorem wv_vp {b n:Nat} {v:Vector (BitVec b) n} {k j:Nat} {x:BitVec b} (h:k<n) (hj:j<n):wv (vp v k x) j=if k=j then x.toNat else wv v j:=by
 unfold wv; rw [vg_vp h hj]; split <;> rfl
theorem pv_vp {B b n:Nat} {v:Vector (BitVec b) n} {i k:Nat} {x:BitVec b} (hi:i<n) (hk:k≤i):pv B (wv (vp v i x)) k=pv B (wv v) k :=
 pv_congr fun j hj=>by rw [wv_vp hi (by omega),if_neg (by omega)]
theorem pv_vp1 {B b n:Nat} {v:Vector (BitVec b) n} {k:Nat} {x:BitVec b} (hk:k<n):pv B (wv (vp v k x)) (k+1)=pv B (wv v) k+x.toNat * B ^ k:=by
 show pv B _ k+wv _ k * B ^ k=_
 rw [pv_vp hk (Nat.le_refl _),wv_vp hk hk,if_pos rfl]
theorem wv_ext {b n:Nat} {v w:Vector (BitVec b) n} (h:pv (2 ^ b) (wv v) n=pv (2 ^ b) (wv w) n):v=w :=
 vec_ext fun i hi=>BitVec.eq_of_toNat_eq (pv_ext (wv_lt v) (wv_lt w) n h i hi)
def n4 (v:Vector (BitVec 64) 4):Nat:=pv (2 ^ 64) (wv v) 4
def n8 (v:Vector (BitVec 32) 8):Nat:=pv (2 ^ 32) (wv v) 8
theorem n4_lt (v:Vector (BitVec 64) 4):n4 v<2 ^ 256:=by
 have:=pv_lt (wv_lt v) 4
 have e:(2 ^ 64:Nat) ^ 4=2 ^ 256:=by decide
 rw [e] at this; exact this
theorem n8_lt (v:Vector (BitVec 32) 8):n8 v<2 ^ 256:=by
 have:=pv_lt (wv_lt v) 8
 have e:(2 ^ 32:Nat) ^ 8=2 ^ 256:=by decide
 rw [e] at this; exact this
theorem n4_ext {v w:Vector (BitVec 64) 4} (h:n4 v=n4 w):v=w:=wv_ext h
theorem n8_ext {v w:Vector (BitVec 32) 8} (h:n8 v=n8 w):v=w:=wv_ext h
theorem add64_ex (x y c:BitVec 64) (hc:c.toNat≤1) : ∃ r,math_bits_Add64 x y c=some r∧r.1.toNat+2 ^ 64 * r.2.toNat=x.toNat+y.toNat+c.toNat∧r.2.toNat≤1:=by
 refine ⟨_,if_pos hc,?_⟩
 have hx:=x.isLt
 have hy:=y.isLt
 simp only [BitVec.toNat_ofNat]
 omega
theorem sub64_ex (x y c:BitVec 64) (hc:c.toNat≤1) : ∃ r,math_bits_Sub64 x y c=some r∧r.1.toNat+y.toNat+c.toNat=x.toNat+2 ^ 64 * r.2.toNat∧r.2.toNat≤1:=by
 refine ⟨_,if_pos hc,?_⟩
 have hx:=x.isLt
 have hy:=y.isLt
 simp only [BitVec.toNat_ofNat]
 split
 ·have:(1#64).toNat=1:=rfl
  omega
 ·have:(0#64).toNat=0:=rfl
  omega
theorem and32w (x:BitVec 64):(x &&& 4294967295#64).toNat=x.toNat % 2 ^ 32:=by
 rw [BitVec.toNat_and]
 exact Nat.and_two_pow_sub_one_eq_mod x.toNat 32
theorem shr32w (x:BitVec 64):(x >>> 32).toNat=x.toNat / 2 ^ 32:=by rw [BitVec.toNat_ushiftRight,Nat.shiftRight_eq_div_pow]
theorem mul_lt32 {a b:Nat} (ha:a<2 ^ 32) (hb:b<2 ^ 32):a * b≤(2 ^ 32 - 1) * (2 ^ 32 - 1):=Nat.mul_le_mul (by omega) (by omega)
theorem step_up {B w lo hi a b c p q r:Nat} (h:lo+B * hi=a+b+c) (h2:p+c * w=q+r):p+lo * w+hi * (w * B)=q+a * w+(r+b * w):=by
 have:=congrArg (· * w) h
 simp only [Nat.add_mul] at this
 rw [show hi * (w * B)=B * hi * w by rw [Nat.mul_comm w B, ← Nat.mul_assoc,Nat.mul_comm hi B]]
 omega
theorem step_dn {B w lo hi a b c p q r:Nat} (h:lo+b+c=a+B * hi) (h2:p+q=r+c * w):p+lo * w+(q+b * w)=r+a * w+hi * (w * B):=by
 have:=congrArg (· * w) h
 simp only [Nat.add_mul] at this
 rw [show hi * (w * B)=B * hi * w by rw [Nat.mul_comm w B, ← Nat.mul_assoc,Nat.mul_comm hi B]]
 omega
theorem step_mul {B w lo c' t a b c p q:Nat} (h:lo+B * c'=a * b+t+c) (h2:p+c * w=q):p+lo * w+c' * (w * B)=q+t * w+a * b * w:=by
 have:=congrArg (· * w) h
 simp only [Nat.add_mul] at this
 rw [show c' * (w * B)=B * c' * w by rw [Nat.mul_comm w B, ← Nat.mul_assoc,Nat.mul_comm c' B]]
 omega
end Go.Kx
end
