/-
  Part 3 of the proof of what several laws share.
-/
import Derived.OrdersHeld
import Derived.Test.YtiofnmmggblcgaaEsC1
import Derived.Test.YtiofnmmggblcgaaEsC2
set_option linter.unusedVariables false
set_option linter.unusedSimpArgs false
section
namespace Go.Kx
open Go
set_option linter.unusedSectionVars false
abbrev Parts:=List (Nat × List Value)
def flat:Parts → List Value
 | []=>[]
 | [p]=>p.2
 | p :: r=>p.2++flat r
theorem flat_cons (p:Nat × List Value) (r:Parts):flat (p :: r)=p.2++flat r:=by
 cases r with
 | nil=>simp [flat]
 | cons q r=>rfl
def ents (b:Nat):Nat → Parts → Mem
 | _,[]=>[]
 | o,p :: r=>⟨some (b,o),p.2⟩ :: ents b (o+p.1) r
def PartsOk:Parts → Prop
 | []=>True
 | p :: r=>p.2.length=p.1∧PartsOk r
theorem Step.split {w0 w:World} {L0 L:Mem} {b o:Nat} {c1 c2:List Value} (h:Step w0 L0 w (⟨some (b,o),c1++c2⟩ :: L)) :
  Step w0 L0 w (⟨some (b,o),c1⟩ :: ⟨some (b,o+c1.length),c2⟩ :: L):=by
 have hok:=(h.ok.left (A:=[⟨some (b,o),c1++c2⟩]) (B:=L)).1 _ (List.mem_singleton.2 rfl)
 have hloc : ∀ i,loc (some (b,o+c1.length)) i=loc (some (b,o)) (c1.length+i):=fun i=>by simp [loc,bk,ofs,Nat.add_assoc]
 refine Step.frame (A:=[⟨some (b,o),c1++c2⟩]) (R:=L) (B:=[⟨some (b,o),c1⟩,⟨some (b,o+c1.length),c2⟩]) h ⟨Chg.refl _ _,⟨?_,?_⟩,?_⟩
 ·intro e he
  rcases List.mem_cons.1 he with rfl | he
  ·exact ⟨(fun h=>by cases h),fun i v hv=>hok.2 i v (by
    have hi:=(List.getElem?_eq_some_iff.1 hv).1
    show (c1++c2)[i]? = _
    rw [List.getElem?_append_left hi]; exact hv)⟩
  ·rw [List.mem_singleton] at he
   subst he
   refine ⟨(fun h=>by cases h),fun i v hv=>?_⟩
   show w.cell? (loc (some (b,o+c1.length)) i)=_∧w.frozen? (loc (some (b,o+c1.length)) i)=_
   rw [hloc]
   exact hok.2 (c1.length+i) v (by
    show (c1++c2)[c1.length+i]? = _
    rw [List.getElem?_append_right (by omega)]; simpa using hv)
 ·simp only [List.pairwise_cons,List.mem_singleton,List.not_mem_nil,false_implies,implies_true,List.Pairwise.nil,and_true,forall_eq]
  intro i j hi hj heq
  simp only at hi hj heq
  rw [hloc] at heq
  simp only [loc,Addr.mk.injEq] at heq
  omega
 ·rintro a ⟨e,he,i,hi,rfl⟩
  refine .inr ⟨_,List.mem_singleton.2 rfl,?_⟩
  rcases List.mem_cons.1 he with rfl | he
  ·exact ⟨i,by simp only [List.length_append]; simp only at hi; omega,rfl⟩
  ·rw [List.mem_singleton] at he
   subst he
   exact ⟨c1.length+i,by simp only [List.length_append]; simp only at hi; omega,hloc i⟩
theorem Step.ents {w0 w:World} {L0 L:Mem} {b:Nat} : ∀ (ps:Parts) (o:Nat),PartsOk ps → Step w0 L0 w (⟨some (b,o),flat ps⟩ :: L) → Step w0 L0 w (Kx.ents b o ps++L)
 | [],o,_,h=>Step.left (B:=[⟨some (b,o),flat []⟩]) (h.perm (List.perm_append_comm (l₁:=[(⟨some (b,o),flat []⟩:Ent)]) (l₂:=L)))
 | p :: r,o,hp,h=>by
  rw [flat_cons] at h
  have h1:=h.split
  rw [hp.1] at h1
  have h2:Step w0 L0 w (⟨some (b,o+p.1),flat r⟩ :: ⟨some (b,o),p.2⟩ :: L):=h1.perm (List.Perm.swap ..)
  have h3:=Step.ents r (o+p.1) hp.2 h2
  refine h3.perm ?_
  simp only [Kx.ents,List.cons_append]
  exact List.perm_middle
theorem SrcEnts {C:Ctx} {L:Mem} {b:Nat} : ∀ (ps:Parts) (o:Nat),PartsOk ps → (∀ e ∈ Kx.ents b o ps,Src C L e) → Src C L ⟨some (b,o),flat ps⟩
 | [],o,_,_=>fun w hs hr=>⟨(fun h=>by cases h),fun i v hv=>by simp [flat] at hv⟩
 | p :: r,o,hp,h=>by
  rw [flat_cons]
  refine Src.join hp.1 (h _ (List.mem_cons_self ..)) ?_
  have h2:=SrcEnts (C:=C) (L:=L) (b:=b) r (o+p.1) hp.2 (fun e he=>h e (List.mem_cons_of_mem _ he))
  exact h2
def AllSrc (C:Ctx) (L:Mem):Mem → Prop
 | []=>True
 | e :: r=>Src C L e∧AllSrc C L r
theorem AllSrc.all {C:Ctx} {L:Mem} : ∀ {M:Mem},AllSrc C L M → ∀ e ∈ M,Src C L e
 | [],_,e,he=>by cases he
 | x :: r,h,e,he=>by
  rcases List.mem_cons.1 he with rfl | h1
  ·exact h.1
  ·exact AllSrc.all h.2 e h1
def zcells (i:TypeInfo):Option (List Value):=i.zero.map fun z=>z.cells.toList
section
variable {C:Ctx} {m:Sl} {L:Mem} {dst:Option Tmp} {ty:TypeId} {pos:String} {af:Array Edge} {gd:Option (Nat × Bool)}
theorem E_allocP {e:TypeId} {inf:TypeInfo} (ps:Parts) (hi:C.P.info? e=some inf) (hz:zcells inf=some (flat ps)) (hp:PartsOk ps) :
  OpE C ⟨dst, .alloc e,ty,pos,af,gd⟩ m L (Γ:=Nat) (fun b=>ptr (some (b,0)) 0) (fun b=>ents b 0 ps++L):=fun a w hs Q K hK=>by
 cases hz0:inf.zero with
 | none=>simp [zcells,hz0] at hz
 | some z =>
  have hcs:z.cells.toList=flat ps:=by simpa [zcells,hz0] using hz
  exact E_alloc hi hz0 hcs a w hs Q K fun g w' h=>hK g w' (Step.ents ps 0 hp h)
theorem E_boxP {x:Operand} {v:Value} {e:TypeId} (ps:Parts) (hx:ev m x=some v) (hcs:v.cells.toList=flat ps) (hp:PartsOk ps) :
  OpE C ⟨dst, .box e x,ty,pos,af,gd⟩ m L (Γ:=Nat) (fun b=>ptr (some (b,0)) 0) (fun b=>ents b 0 ps++L):=fun a w hs Q K hK =>
 E_box hx hcs a w hs Q K fun g w' h=>hK g w' (Step.ents ps 0 hp h)
theorem E_mk1 {x y:Operand} {t e:TypeId} {inf:TypeInfo} {z:Value} {n c:Int} {n' c':Nat} {cs:List Value} (hx:ev m x=some (vi n)) (hy:ev m y=some (vi c)) (hu:C.P.underlying t=some (.slice e))
  (hi:C.P.info? e=some inf) (hz:inf.zero=some z) (hone:z.cells = #[z]) (hsz:inf.size=1) {B:Nat} (hB:inf.bytes=B) (h0:0≤n) (h1:n≤c) (hb:B * c.toNat≤281474976710656) (hc:c≤4611686018427387904)
  (hn':n.toNat=n') (hc':c.toNat=c') (hcs:List.replicate c' z=cs) :
  OpE C ⟨dst, .makeSlice t x y,ty,pos,af,gd⟩ m L (Γ:=Nat) (fun b=>sl (some (b,0)) n' c') (fun b=>⟨some (b,0),cs⟩ :: L):=by
 subst hn' hc' hcs hB
 exact E_make1 hx hy hu hi hz hone hsz h0 h1 hb hc
def fillL (place:Nat → Option (Nat × Nat)) (cs:List Value):List (Nat × Value) → Option (List Value)
 | []=>some cs
 | (i,v) :: r=>match place i with
  | none=>none
  | some (o,s)=>match Nat.beq v.cells.toList.length s && Nat.ble (o+s) cs.length with
   | true=>fillL place (splice cs o v.cells.toList) r
   | false=>none
theorem foldl_put (off:Nat) : ∀ (l:List Value) (k:Nat) (cs:Array Value),((l.zipIdx k).foldl (fun (cs:Array Value) (p:Value × Nat)=>cs.setIfInBounds (off+p.2) p.1) cs).toList=putAll cs.toList (off+k) l
 | [],k,cs=>by simp [putAll]
 | v :: r,k,cs=>by
  simp only [List.zipIdx_cons,List.foldl_cons,putAll]
  rw [foldl_put off r (k+1)]
  simp [Nat.add_assoc]
theorem fill_eq (place:Nat → Option (Nat × Nat)) : ∀ (ps:List (Nat × Value)) (cs r:List Value),fillL place cs ps=some r → Instr.fill place cs.toArray ps=some r.toArray
 | [],cs,r,h=>by simp only [fillL,Option.some.injEq] at h; subst h; rfl
 | (i,v) :: ps,cs,r,h=>by
  simp only [fillL] at h
  simp only [Instr.fill]
  cases hp:place i with
  | none=>simp [hp] at h
  | some os =>
   obtain ⟨o,s⟩:=os
   simp only [hp] at h
   dsimp only at h ⊢
   cases hb:(Nat.beq v.cells.toList.length s && Nat.ble (o+s) cs.length) with
   | false=>rw [hb] at h; cases h
   | true =>
    rw [hb] at h
    rw [Bool.and_eq_true] at hb
    have h1:v.cells.size=s:=by have:=Nat.eq_of_beq_eq_true hb.1; simpa using this
    have h2:=Nat.le_of_ble_eq_true hb.2
    have h3 : ¬ (v.cells.size ≠ s || o+v.cells.size > cs.toArray.size)=true:=by simp [h1]; omega
    simp only [h3,if_false]
    have e:(v.cells.zipIdx.foldl (fun cs (c,j)=>cs.setIfInBounds (o+j) c) cs.toArray)=(splice cs o v.cells.toList).toArray:=by
     apply Array.toList_inj.1
     have h4:=foldl_put o v.cells.toList 0 cs.toArray
     rw [← Array.foldl_toList,Array.toList_zipIdx]
     refine h4.trans ?_
     rw [Nat.add_zero,putAll_splice _ _ _ (by simp; omega)]
    rw [e]
    exact fill_eq place ps _ r h
theorem V_buildArr {t e:TypeId} {ps:List (Nat × Operand)} {pv:List (Nat × Value)} {n s:Nat} {inf ie:TypeInfo} {zs cs:List Value} (hps:evs m (ps.map (·.2))=some (pv.map (·.2))) (hps1:ps.map (·.1)=pv.map (·.1))
  (hu:C.P.underlying t=some (.array n e)) (hi:C.P.info? t=some inf) (hie:C.P.info? e=some ie) (hs:ie.size=s) (hz:zcells inf=some zs)
  (hf:fillL (fun i=>some (i * s,s)) zs pv=some cs):OpV C ⟨dst, .build t ps.toArray,ty,pos,af,gd⟩ m L (.agg cs.toArray):=fun a w hs'=>by
 have h1:=hs'.slots.evs hps
 have hmap:(ps.toArray.map fun (i,x)=>(i,a.eval x))=pv.toArray:=by
  apply Array.toList_inj.1
  simp only [List.map_toArray,List.toList_toArray]
  apply List.ext_getElem
  ·have:=congrArg List.length hps1; simpa using this
  ·intro k k1 k2
   have g1:=congrArg (fun l=>l[k]?) h1
   have g2:=congrArg (fun l=>l[k]?) hps1
   simp only [List.length_map] at k1
   simp only [List.getElem?_map] at g1 g2
   rw [List.getElem?_eq_getElem k1,List.getElem?_eq_getElem k2] at g1 g2
   simp only [Option.map_some,Option.some.injEq] at g1 g2
   simp only [List.getElem_map]
   exact Prod.ext g2 g1
 cases hz0:inf.zero with
 | none=>simp [zcells,hz0] at hz
 | some z =>
  have hzs:z.cells=zs.toArray:=by
   have:z.cells.toList=zs:=by simpa [zcells,hz0] using hz
   rw [← this]
  have hfe:=fill_eq _ _ _ _ hf
  simp only [execOp,hmap,Instr.build,zeroValue,typeInfo,Sem.run_bind,program,Sem.run,hi,hz0,Result.andThen_ok,Sem.run_pure,run_underlying hu,sizeOf,hie,hs,hzs,hfe]
theorem V_buildStruct {t:TypeId} {ps:List (Nat × Operand)} {pv:List (Nat × Value)} {inf:TypeInfo} {fs:Array Field} {pl:List (Nat × Nat)} {zs cs:List Value} (hps:evs m (ps.map (·.2))=some (pv.map (·.2))) (hps1:ps.map (·.1)=pv.map (·.1))
  (hu:C.P.underlying t=some (.struct fs)) (hi:C.P.info? t=some inf) (hpl : ∀ w,(fs.mapM (m:=Sem) fun f=>do pure (f.offset, ← sizeOf f.type)).run C.P w = .ok pl.toArray w) (hz:zcells inf=some zs)
  (hf:fillL (pl.toArray[·]?) zs pv=some cs):OpV C ⟨dst, .build t ps.toArray,ty,pos,af,gd⟩ m L (.agg cs.toArray):=fun a w hs'=>by
 have h1:=hs'.slots.evs hps
 have hmap:(ps.toArray.map fun (i,x)=>(i,a.eval x))=pv.toArray:=by
  apply Array.toList_inj.1
  simp only [List.map_toArray,List.toList_toArray]
  apply List.ext_getElem
  ·have:=congrArg List.length hps1; simpa using this
  ·intro k k1 k2
   have g1:=congrArg (fun l=>l[k]?) h1
   have g2:=congrArg (fun l=>l[k]?) hps1
   simp only [List.length_map] at k1
   simp only [List.getElem?_map] at g1 g2
   rw [List.getElem?_eq_getElem k1,List.getElem?_eq_getElem k2] at g1 g2
   simp only [Option.map_some,Option.some.injEq] at g1 g2
   simp only [List.getElem_map]
   exact Prod.ext g2 g1
 cases hz0:inf.zero with
 | none=>simp [zcells,hz0] at hz
 | some z =>
  have hzs:z.cells=zs.toArray:=by
   have:z.cells.toList=zs:=by simpa [zcells,hz0] using hz
   rw [← this]
  have hfe:=fill_eq _ _ _ _ hf
  simp only [execOp,hmap,Instr.build,zeroValue,typeInfo,Sem.run_bind,program,Sem.run,hi,hz0,Result.andThen_ok,Sem.run_pure,run_underlying hu,hpl,hzs,hfe]
end
end Go.Kx
namespace Go.Kx
section
variable {C:Ctx} {Q:Exit → Act → World → Prop} {m:Sl} {L:Mem} {c:Code} {id:Nat}
theorem TC_loopL {σ τ Γ Γx:Type} {body:σ → Option (σ ⊕ τ)} (ms:σ → Γ → Sl) (Ls:σ → Γ → Mem) (mx:τ → Γx → Sl) (Lx:τ → Γx → Mem)
  (hb : ∀ s g r,body s=some r → ∀ K:Act → World → Prop,
   (∀ s',r = .inl s' → ∀ g' a w,Sat C (ms s' g') (Ls s' g') a w → K a w) → (∀ t,r = .inr t → ∀ g,TX C Q (.exit id) (mx t g) (Lx t g)) → TC C c (Exit.then K Q) (ms s g) (Ls s g))
  (n:Nat) (s:σ) (g:Γ) (t:τ) (hl:loop body n s=some t) (hx : ∀ g,TX C Q (.exit id) (mx t g) (Lx t g)):TC C (.loop c) Q (ms s g) (Ls s g) :=
 TC_loop ms Ls (fun t => ∀ g,TX C Q (.exit id) (mx t g) (Lx t g)) hb n s g t hl hx
def LoopEx {τ ρ:Type} (X:τ → Prop) (r0:ρ):τ ⊕ ρ → Prop
 | .inl t=>X t
 | .inr v=>v=r0
theorem TC_loopR {σ τ ρ Γ Γx:Type} {body:σ → Option (σ ⊕ (τ ⊕ ρ))} (ms:σ → Γ → Sl) (Ls:σ → Γ → Mem) (mx:τ → Γx → Sl) (Lx:τ → Γx → Mem) (r0:ρ)
  (hb : ∀ s g r,body s=some r → ∀ K:Act → World → Prop,
   (∀ s',r = .inl s' → ∀ g' a w,Sat C (ms s' g') (Ls s' g') a w → K a w) → (∀ t,r = .inr (.inl t) → ∀ g,TX C Q (.exit id) (mx t g) (Lx t g)) → (∀ v,r = .inr (.inr v) → v=r0) → TC C c (Exit.then K Q) (ms s g) (Ls s g))
  (n:Nat) (s:σ) (g:Γ) (t:τ ⊕ ρ) (hl:loop body n s=some t) (hx:LoopEx (fun t => ∀ g,TX C Q (.exit id) (mx t g) (Lx t g)) r0 t):TC C (.loop c) Q (ms s g) (Ls s g) :=
 TC_loop ms Ls (LoopEx (fun t => ∀ g,TX C Q (.exit id) (mx t g) (Lx t g)) r0)
  (fun s g r h K hK hE=>hb s g r h K hK (fun t ht=>hE (.inl t) ht) (fun v hv=>hE (.inr v) hv)) n s g t hl hx
end
end Go.Kx
end

section
namespace Go.Kx
open Go
set_option linter.unusedSectionVars false
section
variable {C:Ctx} {Q:Exit → Act → World → Prop} {m:Sl} {L:Mem} {ops:Array Oper} {l rest:List Oper} {dst:Option Tmp} {ty:TypeId} {pos:String} {af:Array Edge} {gd:Option (Nat × Bool)}
theorem TL_re {d:Nat} {v v':Value} (hd:lk m d=some v) (hv:v=v') (h:TL C ops Q l ((d,v') :: m) L):TL C ops Q l m L:=fun a w hs =>
 h a w ⟨hs.defers,hs.size,fun t u ht=>by
  simp only [lk] at ht
  cases hb:Nat.beq d t with
  | true =>
   simp only [hb,Option.some.injEq] at ht
   have:=Nat.eq_of_beq_eq_true hb
   subst this; subst ht; subst hv
   exact hs.slots d _ hd
  | false=>simp only [hb] at ht; exact hs.slots t u ht,hs.step,hs.ro⟩
theorem TL_reE {j:Nat} {A:Adr} {cs cs':List Value} (hj:L[j]? = some ⟨A,cs⟩) (hc:cs=cs') (h:TL C ops Q l m (L.set j ⟨A,cs'⟩)):TL C ops Q l m L:=by
 subst hc
 have:L.set j ⟨A,cs⟩=L:=by
  apply List.ext_getElem?
  intro i
  by_cases hi:i=j
  ·subst hi
   rw [List.getElem?_set_self (List.getElem?_eq_some_iff.1 hj).1,hj]
  ·rw [List.getElem?_set_ne (Ne.symm hi)]
 rwa [this] at h
theorem TL_fork {d:Nat} {b:Bool} (hd:lk m d=some (vb b)) (ht:b=true → TL C ops Q l ((d, .bool true) :: m) L) (hf:b=false → TL C ops Q l ((d, .bool false) :: m) L):TL C ops Q l m L:=by
 cases b
 ·exact TL_re hd rfl (hf rfl)
 ·exact TL_re hd rfl (ht rfl)
theorem V_fieldE {x:Operand} {A:Adr} {o k f:Nat} {t:TypeId} {fs:Array Field} {fd:Field} (hx:ev m x=some (ptr A o)) (hu:C.P.underlying t=some (.struct fs))
  (hf:fs[f]? = some fd) (hk:fd.offset=k) {inf:TypeInfo} (hi:C.P.info? fd.type=some inf) (h0:Nat.beq inf.size 0=false) {v:Value} (hv:ptr A (o+k)=v) :
  OpV C ⟨dst, .fieldAddr t x f,ty,pos,af,gd⟩ m L v:=hv ▸ V_field hx hu hf hk hi h0
theorem V_idxSlS {x ix:Operand} {A:Adr} {n c s k:Nat} {kd:IntKind} {i:Int} {t e:TypeId} {inf:TypeInfo} {cs:List Value} (hx:ev m x=some (sl A n c)) (hi:ev m ix=some (.int kd i))
  (hu:C.P.underlying t=some (.slice e)) (hs':C.P.info? e=some inf) (hsz:inf.size=s) (hsrc:Src C L ⟨A,cs⟩) (hne:cs ≠ []) (h0:0≤i) (h1:i<n) (hk:i.toNat * s=k) :
  OpV C ⟨dst, .indexAddr t x ix,ty,pos,af,gd⟩ m L (ptr A k):=fun a w hs =>
 V_idxSl hx hi hu hs' hsz (fun _ hA=>hne ((hsrc w hs.step hs.ro).1 hA)) h0 h1 hk a w hs
theorem lenV {α:Type} {n:Nat} {f:α → Value} (V:Vector α n):(V.toList.map f).length=n:=by simp
theorem map_ne {α:Type} {f:α → Value} {l:List α} {i:Nat} (h:i<l.length):l.map f ≠ []:=fun h'=>by
 have:=congrArg List.length h'; simp at this; subst this; simp at h
theorem E_nilS {x:Operand} {z:List Value} (hx:ev m x=some (.slice none 0 0)) (hz:z=[]) :
  OpE C ⟨dst, .assign x,ty,pos,af,gd⟩ m L (Γ:=Adr) (fun A=>sl A 0 0) (fun A=>⟨A,z⟩ :: L):=fun a w hs Q K hK=>by
 subst hz
 have hrun:(execOp a.eval ⟨dst, .assign x,ty,pos,af,gd⟩).run C.P w = .ok (.value (.slice none 0 0)) w:=by simp [execOp,hs.slots.ev hx]
 unfold Oper.wp
 rw [hrun]
 exact hK none w (Step.frame (A:=[]) (B:=[⟨none,[]⟩]) hs.step ⟨Chg.refl _ _,⟨fun e he=>by rw [List.mem_singleton] at he; subst he; exact ⟨fun _=>rfl,fun i v hv=>by simp at hv⟩,by simp⟩,
  fun ad ⟨e,he,i,hi,_⟩=>by rw [List.mem_singleton] at he; subst he; simp at hi⟩)
theorem rep_map {α:Type} {f:α → Value} {k:Nat} {x:α}:List.replicate k (f x)=(List.replicate k x).map f:=by simp
theorem rep_eF {α:Type} {g:α → List Value} {k:Nat} {x:α}:(List.replicate k (g x)).flatten=eF g (List.replicate k x):=by simp [eF]
theorem V_loadPart {x:Operand} {A:Adr} {o n:Nat} {cs ds:List Value} {t:TypeId} {inf:TypeInfo} (hx:ev m x=some (ptr A o)) (hsrc:Src C L ⟨A,cs⟩) (hd:(cs.drop o).take n=ds) (hlen:ds.length=n) (hn0:Nat.beq n 0=false)
  (hty : ∀ w,(isAgg t).run C.P w = .ok true w) (hi:C.P.info? t=some inf) (hn:inf.size=n):OpV C ⟨dst, .load t x,ty,pos,af,gd⟩ m L (.agg ds.toArray):=fun a w hs=>by
 have hA:A ≠ none:=fun hA=>by
  have h1:=(hsrc w hs.step hs.ro).1 hA
  simp only at h1
  subst h1
  simp at hd
  subst hd
  simp at hlen
  subst hlen
  simp at hn0
 have h2:=hsrc.part o n
 rw [hd] at h2
 exact V_loadAgg (by rw [← ptr_sh hA]; exact hx) (by cases A <;> simp_all [sh]) h2 hty hi hn hlen a w hs
end
end Go.Kx
end

section
namespace Go.Kx
open Go
def QP (Q:Exit → Act → World → Prop):Prop := ∀ c a w d v,Q (.panic c) (a.put d v) w → Q (.panic c) a w
theorem QP.body {P:Program} {fn:Func} {R:Ending → World → Prop}:QP (bodyPost P fn R):=fun c a w d v h=>by
 cases d <;> exact h
theorem QP.then {Q:Exit → Act → World → Prop} {k:Act → World → Prop} (h:QP Q):QP (Exit.then k Q):=fun c a w d v hh=>h c a w d v hh
theorem QP.block {Q:Exit → Act → World → Prop} {id:Nat} (h:QP Q):QP (Exit.inBlock id Q):=fun c a w d v hh=>h c a w d v hh
section
variable {P:Program} {ops:Array Oper} {Q:Exit → Act → World → Prop} {js:Nat} {S0:World → Prop}
def wpD (P:Program) (ops:Array Oper) (Q:Exit → Act → World → Prop) (js:Nat) (S0:World → Prop):Nat → Array Bool → Act → World → Prop
 | 0,done,a,w=>Region.ready .any ops done=[]∧Q .normal a w
 | n+1,done,a,w=>(Region.ready .any ops done=[] → Q .normal a w) ∧
  ∀ i,i ∈ Region.ready .any ops done → wpOp P ops Q i (fun a' w'=>((done.setIfInBounds i true).getD js false=false → S0 w')∧wpD P ops Q js S0 n (done.setIfInBounds i true) a' w') a w
theorem wpD_any : ∀ (n:Nat) (done:Array Bool) (a:Act) (w:World),wpD P ops Q js S0 n done a w → wpAny P .any ops Q n done a w
 | 0,_,_,_,h=>h
 | n+1,_,_,_,h=>⟨h.1,fun i hi=>wpOp_mono (fun a' w' k=>wpD_any n _ a' w' k.2) (h.2 i hi)⟩
def waitsFor (ops:Array Oper) (js i:Nat):Bool :=
 match ops[js]? with
 | none=>true
 | some o=>o.after.any fun e=>Region.binds .any e && e.on == i
theorem not_ready {i:Nat} {done:Array Bool} (hw:waitsFor ops js i=true) (hi:i ∈ Region.ready .any ops done):js ∉ Region.ready .any ops done:=fun hj=>by
 obtain ⟨_,o,ho,hall⟩:=mem_ready.1 hj
 simp only [waitsFor,ho,Array.any_eq_true'] at hw
 obtain ⟨e,he,hb⟩:=hw
 rw [Bool.and_eq_true,beq_iff_eq] at hb
 have h1:=hall e he hb.1
 rw [hb.2] at h1
 have h0:=(mem_ready.1 hi).1
 by_cases hlt:i<done.size
 ·simp only [Array.getD_eq_getD_getElem?,Array.getElem?_eq_getElem hlt,Option.getD_some] at h0 h1
  rw [h0] at h1; cases h1
 ·simp only [Array.getD_eq_getD_getElem?,Array.getElem?_eq_none (by omega:done.size≤i),Option.getD_none] at h1
  cases h1
theorem wpD_first {i:Nat} {oi:Oper} {v:Value} (hi:ops[i]? = some oi) (hsel:Region.noSelect ops=true) (hQ:QP Q) (hw:waitsFor ops js i=true) :
  ∀ (n:Nat) (done:Array Bool) (a:Act) (w:World),
   (∀ j oj,ops[j]? = some oj → j ≠ i → done.getD j true=false → (∀ e ∈ oj.after,Region.binds .any e=true → e.on ≠ i) → oi.apart ops oj=true) →
   i ∈ Region.ready .any ops done → done.getD js false=false → YieldsIf P ops S0 oi v a → S0 w →
   wpD P ops Q js S0 n (done.setIfInBounds i true) (a.put oi.dst v) w → wpD P ops Q js S0 (n+1) done a w:=by
 intro n
 induction n with
 | zero =>
  intro done a w _ hr hjs hy hS H
  refine ⟨fun h=>absurd (h ▸ hr) (List.not_mem_nil),fun j hj=>?_⟩
  by_cases hji:j=i
  ·subst hji; exact hy.wpOp hi hS ⟨fun _=>hS,H⟩
  ·exact absurd (H.1 ▸ ready_mono hj hji) (List.not_mem_nil)
 | succ n ih =>
  intro done a w hfree hr hjs hy hS H
  refine ⟨fun h=>absurd (h ▸ hr) (List.not_mem_nil),fun j hj=>?_⟩
  by_cases hji:j=i
  ·subst hji; exact hy.wpOp hi hS ⟨fun _=>hS,H⟩
  ·have hjjs:j ≠ js:=fun h=>not_ready hw hr (h ▸ hj)
   have hb:=H.2 j (ready_mono hj hji)
   obtain ⟨hjun,oj,hoj,hall⟩:=mem_ready.1 hj
   have hno : ∀ e ∈ oj.after,Region.binds .any e=true → e.on ≠ i:=fun e he hbd heq=>by
    have h1:=hall e he hbd
    rw [heq] at h1
    have h0:=(mem_ready.1 hr).1
    by_cases hlt:i<done.size
    ·simp only [Array.getD_eq_getD_getElem?,Array.getElem?_eq_getElem hlt,Option.getD_some] at h0 h1
     rw [h0] at h1; cases h1
    ·simp only [Array.getD_eq_getD_getElem?,Array.getElem?_eq_none (by omega:done.size≤i),Option.getD_none] at h1
     cases h1
   have hap:=hfree j oj hoj hji hjun hno
   have hp:=wpOp_putIf hoj hap (fun cs b=>Region.noSelect_spec hsel i oi cs b hi) (fun cs b=>Region.noSelect_spec hsel j oj cs b hoj) (fun c a w h=>hQ c a w _ _ h) hy hb
   refine wpOp_mono (fun a' w' k=>?_) hp
   obtain ⟨ky,kS,kH⟩:=k
   have hjs':(done.setIfInBounds j true).getD js false=false:=by rw [getD_set_ne false hjjs]; exact hjs
   have hjs2:((done.setIfInBounds i true).setIfInBounds j true).getD js false=false:=by
    rw [getD_set_ne false hjjs]
    by_cases hij:i=js
    ·subst hij
     exact absurd hr (not_ready hw hr)
    ·rw [getD_set_ne false hij]; exact hjs
   have hS':=kS hjs2
   refine ⟨fun _=>hS',ih (done.setIfInBounds j true) a' w' (fun k ok hk hki hun hn=>hfree k ok hk hki ?_ hn) (ready_mono hr (Ne.symm hji)) hjs' ky hS' ?_⟩
   ·by_cases hjk:j=k
    ·subst hjk; exact hjun
    ·rw [getD_set_ne true hjk] at hun; exact hun
   ·rw [Array.setIfInBounds_comm _ _ hji]; exact kH
end
section
variable {C:Ctx} {Q:Exit → Act → World → Prop} {m:Sl} {L Lr R:Mem} {ops:Array Oper} {js n:Nat} {done done':Array Bool}
def TA (C:Ctx) (ops:Array Oper) (Q:Exit → Act → World → Prop) (js:Nat) (Lr:Mem) (n:Nat) (done:Array Bool) (m:Sl) (L:Mem):Prop :=
 ∀ a w,Sat C m L a w → wpD C.P ops Q js (fun w=>Step C.w0 C.L0 w Lr) n done a w
theorem TA_begin {id:Nat} (Lr:Mem) (js:Nat) (hm:C.P.follows .mixedOrders=true) {N:Nat} (hN:ops.size=N) (h:TA C ops Q js Lr N (Array.replicate N false) m L):TC C (.region id ops true) Q m L:=fun a w hs=>by
 subst hN
 exact wp_region_any hm (wpD_any _ _ _ _ (h a _ (hs.mem (drewStep hs.step (w.drawn+1)))))
def Took (ops:Array Oper) (js i:Nat) (done done':Array Bool):Bool :=
 Region.free .any ops done i && ((Region.ready .any ops done).contains i && (!(done.getD js false) && (waitsFor ops js i && (done.setIfInBounds i true).toList == done'.toList)))
theorem TA_take {i d:Nat} {oi:Oper} {v:Value} {is:List Nat} (hi:ops[i]? = some oi) (hg:oi.guard=none) (hd:oi.dst=some d) (hN:Nat.blt d C.N=true) (hsel:Region.noSelect ops=true) (hQ:QP Q)
  (ht:Took ops js i done done'=true) (hp:pull is L=some (Lr,R)) (hv:OpV C oi m Lr v) (h:TA C ops Q js Lr n done' ((d,v) :: m) L):TA C ops Q js Lr (n+1) done m L:=fun a w hs=>by
 simp only [Took,Bool.and_eq_true,Bool.not_eq_true',beq_iff_eq,Array.toList_inj] at ht
 obtain ⟨h1,h2,h3,h4,h5⟩:=ht
 have hS0:Step C.w0 C.L0 w Lr:=(hs.step.pulled hp).left
 refine wpD_first hi hsel hQ h4 n done a w (Region.free_spec hi h1) (by simpa using h2) h3 (.inl ⟨by simp [Region.wanted,hg],fun w' hw'=>hv a w' (hs.mem hw')⟩) hS0 ?_
 rw [h5]
 refine h _ _ ?_
 rw [hd]
 exact hs.put hN hs.step
def TO (C:Ctx) (ops:Array Oper) (Q:Exit → Act → World → Prop) (js:Nat) (Lr:Mem) (n:Nat) (done:Array Bool) (m:Sl) (L:Mem) (i:Nat):Prop :=
 ∀ a w,Sat C m L a w → wpOp C.P ops Q i (fun a' w'=>((done.setIfInBounds i true).getD js false=false → Step C.w0 C.L0 w' Lr)∧wpD C.P ops Q js (fun w=>Step C.w0 C.L0 w Lr) n (done.setIfInBounds i true) a' w') a w
def AllTO (C:Ctx) (ops:Array Oper) (Q:Exit → Act → World → Prop) (js:Nat) (Lr:Mem) (n:Nat) (done:Array Bool) (m:Sl) (L:Mem):List Nat → Prop
 | []=>True
 | i :: r=>TO C ops Q js Lr n done m L i∧AllTO C ops Q js Lr n done m L r
theorem AllTO.all {rs:List Nat}:AllTO C ops Q js Lr n done m L rs → ∀ i ∈ rs,TO C ops Q js Lr n done m L i:=by
 induction rs with
 | nil=>intro _ i hi; cases hi
 | cons x r ih =>
  intro h i hi
  rcases List.mem_cons.1 hi with rfl | h1
  ·exact h.1
  ·exact ih h.2 i h1
theorem TA_all {rs:List Nat} (hr:Region.ready .any ops done=rs) (hne:rs.isEmpty=false) (h:AllTO C ops Q js Lr n done m L rs):TA C ops Q js Lr (n+1) done m L:=fun a w hs =>
 ⟨(fun h0=>by rw [h0] at hr; subst hr; cases hne),fun i hi=>h.all i (hr ▸ hi) a w hs⟩
theorem TO_e {i d:Nat} {oi:Oper} {Γ:Type} {val:Γ → Value} {mem:Γ → Mem} {is:List Nat} {R:Γ → Mem} (hi:ops[i]? = some oi) (hg:oi.guard=none) (hd:oi.dst=some d) (hN:Nat.blt d C.N=true)
  (hset:((done.setIfInBounds i true).toList == done'.toList)=true) (ho:OpE C oi m L val mem) (hk:done'.getD js false=false → ∀ g,pull is (mem g)=some (Lr,R g)) (h : ∀ g,TA C ops Q js Lr n done' ((d,val g) :: m) (mem g)) :
  TO C ops Q js Lr n done m L i:=fun a w hs=>by
 have hset':done.setIfInBounds i true=done':=Array.toList_inj.1 (eq_of_beq hset)
 unfold wpOp
 simp only [hi]
 rw [if_pos (by simp [Region.wanted,hg])]
 rw [hset']
 refine .inl (ho a w hs Q _ fun g w' hs'=>⟨fun hj=>(hs'.pulled (hk hj g)).left,h g _ _ ?_⟩)
 rw [hd]; exact hs.put hN hs'
theorem TO_n {i:Nat} {oi:Oper} {Γ:Type} {val:Γ → Value} {mem:Γ → Mem} {is:List Nat} {R:Γ → Mem} (hi:ops[i]? = some oi) (hg:oi.guard=none) (hd:oi.dst=none)
  (hset:((done.setIfInBounds i true).toList == done'.toList)=true) (ho:OpE C oi m L val mem) (hk:done'.getD js false=false → ∀ g,pull is (mem g)=some (Lr,R g)) (h : ∀ g,TA C ops Q js Lr n done' m (mem g)) :
  TO C ops Q js Lr n done m L i:=fun a w hs=>by
 have hset':done.setIfInBounds i true=done':=Array.toList_inj.1 (eq_of_beq hset)
 unfold wpOp
 simp only [hi]
 rw [if_pos (by simp [Region.wanted,hg])]
 rw [hset']
 refine .inl (ho a w hs Q _ fun g w' hs'=>⟨fun hj=>(hs'.pulled (hk hj g)).left,h g _ _ ?_⟩)
 rw [hd]; exact hs.mem hs'
theorem TO_v {i d:Nat} {oi:Oper} {v:Value} {is:List Nat} (hi:ops[i]? = some oi) (hg:oi.guard=none) (hd:oi.dst=some d) (hN:Nat.blt d C.N=true)
  (hset:((done.setIfInBounds i true).toList == done'.toList)=true) (ho:OpV C oi m L v) (hk:done'.getD js false=false → pull is L=some (Lr,R)) (h:TA C ops Q js Lr n done' ((d,v) :: m) L) :
  TO C ops Q js Lr n done m L i:=fun a w hs=>by
 have hset':done.setIfInBounds i true=done':=Array.toList_inj.1 (eq_of_beq hset)
 unfold wpOp
 simp only [hi]
 rw [if_pos (by simp [Region.wanted,hg])]
 rw [hset']
 refine .inl ?_
 unfold Oper.wp
 rw [ho a w hs,Oper.upon_value]
 refine ⟨fun hj=>(hs.step.pulled (hk hj)).left,h _ _ ?_⟩
 rw [hd]; exact hs.put hN hs.step
theorem TA_done (hr:(Region.ready .any ops done).isEmpty=true) (h:TX C Q .normal m L) : ∀ n,TA C ops Q js Lr n done m L
 | 0=>fun a w hs=>⟨by simpa using hr,h a w hs⟩
 | n+1=>fun a w hs=>⟨fun _=>h a w hs,fun i hi=>by
   have:Region.ready .any ops done=[]:=by simpa using hr
   rw [this] at hi; cases hi⟩
theorem wpD_mono {P:Program} {S0 S1:World → Prop} (h01 : ∀ w,S1 w → S0 w) : ∀ (n:Nat) (done:Array Bool) (a:Act) (w:World),wpD P ops Q js S1 n done a w → wpD P ops Q js S0 n done a w
 | 0,_,_,_,h=>h
 | n+1,_,_,_,h=>⟨h.1,fun i hi=>wpOp_mono (fun a' w' k=>⟨fun hj=>h01 _ (k.1 hj),wpD_mono h01 n _ a' w' k.2⟩) (h.2 i hi)⟩
theorem TA_more {Lr2 R2 R3:Mem} {is is2:List Nat} (h1:pull is Lr2=some (Lr,R2)) (_:pull is2 L=some (Lr2,R3)) (h:TA C ops Q js Lr2 n done m L):TA C ops Q js Lr n done m L:=fun a w hs =>
 wpD_mono (fun w hw=>(hw.pulled h1).left) n done a w (h a w hs)
theorem TA_re {d:Nat} {v v':Value} (hd:lk m d=some v) (hv:v=v') (h:TA C ops Q js Lr n done ((d,v') :: m) L):TA C ops Q js Lr n done m L:=fun a w hs =>
 h a w ⟨hs.defers,hs.size,fun t u ht=>by
  simp only [lk] at ht
  cases hb:Nat.beq d t with
  | true =>
   simp only [hb,Option.some.injEq] at ht
   have:=Nat.eq_of_beq_eq_true hb
   subst this; subst ht; subst hv
   exact hs.slots d _ hd
  | false=>simp only [hb] at ht; exact hs.slots t u ht,hs.step,hs.ro⟩
theorem TA_reE {j:Nat} {A:Adr} {cs cs':List Value} (hj:L[j]? = some ⟨A,cs⟩) (hc:cs=cs') (h:TA C ops Q js Lr n done m (L.set j ⟨A,cs'⟩)):TA C ops Q js Lr n done m L:=by
 subst hc
 have:L.set j ⟨A,cs⟩=L:=by
  apply List.ext_getElem?
  intro i
  by_cases hi:i=j
  ·subst hi
   rw [List.getElem?_set_self (List.getElem?_eq_some_iff.1 hj).1,hj]
  ·rw [List.getElem?_set_ne (Ne.symm hi)]
 rwa [this] at h
end
end Go.Kx
end

section
namespace Go.Kx
open Go
set_option linter.unusedSectionVars false
section
variable {α:Type} [Inhabited α] {g:α → List Value} {s:Nat}
theorem eF_app (a b:List α):eF g (a++b)=eF g a++eF g b:=by simp [eF]
theorem eF_one {f:α → Value} (l:List α):eF (fun x=>[f x]) l=l.map f:=by
 induction l with
 | nil=>rfl
 | cons a l ih=>simp only [eF,List.map_cons,List.flatten_cons] at ih ⊢; rw [ih]; rfl
theorem eF_take (hg : ∀ a,(g a).length=s) (a b:List α):(eF g (a++b)).take (a.length * s)=eF g a:=by
 rw [eF_app,List.take_append_of_le_length (by rw [eF_length hg]; exact Nat.le_refl _),List.take_of_length_le (by rw [eF_length hg]; exact Nat.le_refl _)]
theorem eF_drop (hg : ∀ a,(g a).length=s) (a b:List α):(eF g (a++b)).drop (a.length * s)=eF g b:=by
 rw [eF_app,List.drop_append_of_le_length (by rw [eF_length hg]; exact Nat.le_refl _),List.drop_of_length_le (by rw [eF_length hg]; exact Nat.le_refl _),List.nil_append]
section
variable {C:Ctx} {m:Sl} {L:Mem} {dst:Option Tmp} {ty:TypeId} {pos:String} {af:Array Edge} {gd:Option (Nat × Bool)}
theorem Src.pre {A:Adr} {l sp:List α} (hg : ∀ a,(g a).length=s) (h:Src C L ⟨A,eF g (l++sp)⟩):Src C L ⟨A,eF g l⟩:=fun w hs hr=>by
 obtain ⟨h1,h2⟩:=h w hs hr
 refine ⟨fun hA=>?_,fun i v hv=>h2 i v ?_⟩
 ·have h3:eF g (l++sp)=[]:=h1 hA
  rw [eF_app] at h3
  exact (List.append_eq_nil_iff.1 h3).1
 ·show (eF g (l++sp))[i]? = _
  rw [eF_app,List.getElem?_append_left (List.getElem?_eq_some_iff.1 hv).1]
  exact hv
theorem run_first {P:Program} {w:World} {B:Adr} {ds:List Value} {n k c:Nat} (hH:Has w ⟨B,ds⟩) (hl:ds.length=n * k):(Builtin.firstCells k n (sl B n c)).run P w = .ok ds.toArray w:=by
 cases B with
 | none =>
  have:ds=[]:=hH.1 rfl
  subst this
  simp [Builtin.firstCells,sl]
 | some q =>
  have h1:=run_loadCells_list (P:=P) w (loc (some q) 0) ds (fun i v hv'=>by rw [loc_add,Nat.zero_add]; exact hH.2 i v hv')
  rw [hl] at h1
  simpa [Builtin.firstCells,sl,loc,bk,ofs] using h1
theorem zeroCells_flatten (zs:Array Value) : ∀ n:Nat,(Builtin.zeroCells zs n).toList=(List.replicate n zs.toList).flatten:=fun n=>by
 by_cases hz:zs.size=0
 ·have:zs = #[]:=Array.eq_empty_of_size_eq_zero hz
  subst this
  simp [Builtin.zeroCells]
 ·exact made_flatten zs hz n
theorem app_core {w:World} {j:Nat} {A:Adr} {l sp ds:List α} {t e xt:TypeId} {inf:TypeInfo} {z0:α} {bytes:Nat} {y:Value} (hs:Step C.w0 C.L0 w L)
  (hj:L[j]? = some ⟨A,eF g (l++sp)⟩) (hg : ∀ a,(g a).length=s) (hs0:s ≠ 0) (h1c : ∀ a,OneC (g a))
  (hu:C.P.underlying t=some (.slice e)) (hx:(∃ e',C.P.underlying xt=some (.slice e')) ∨ C.P.underlying xt=some .string) (hi:C.P.info? e=some inf) (hsz:inf.size=s) (hz:zcells inf=some (g z0)) (hB:inf.bytes=bytes)
  (hlen:(Builtin.lenOf y).run C.P w = .ok ds.length w) (hfc : ∀ w',w'.heap=w.heap → (Builtin.firstCells s ds.length y).run C.P w' = .ok (eF g ds).toArray w')
  (hfit:(l.length+ds.length) * bytes≤140737488355328) (h63:l.length+ds.length≤4611686018427387904) :
  ∃ A' sp' w',(Builtin.append_ #[t,xt] ty #[sl A l.length (l++sp).length,y]).run C.P w = .ok (sl A' (l++ds).length ((l++ds)++sp').length) w' ∧
   Step C.w0 C.L0 w' (L.set j ⟨A',eF g ((l++ds)++sp')⟩):=by
 have hok:=hs.ok.1 _ (List.mem_of_getElem? hj)
 have hlt:j<L.length:=(List.getElem?_eq_some_iff.1 hj).1
 have hz0 : ∃ z,inf.zero=some z∧z.cells.toList=g z0:=by
  cases h0:inf.zero with
  | none=>simp [zcells,h0] at hz
  | some z=>exact ⟨z,rfl,by simpa [zcells,h0] using hz⟩
 obtain ⟨z,hz1,hz2⟩:=hz0
 by_cases hroom:l.length+ds.length≤(l++sp).length
 ·
  have hdsl:ds.length≤sp.length:=by simp at hroom; omega
  have hcells:splice (eF g (l++sp)) (l.length * s) (eF g ds)=eF g ((l++ds)++sp.drop ds.length):=by
   unfold splice
   rw [eF_take hg,eF_length hg, ← List.drop_drop,eF_drop hg,eF_app,eF_app]
   congr 1
   have hsp:sp=sp.take ds.length++sp.drop ds.length:=(List.take_append_drop _ _).symm
   have hlen2:(sp.take ds.length).length=ds.length:=by simp; omega
   conv=>lhs; rw [hsp]
   have:=eF_drop hg (sp.take ds.length) (sp.drop ds.length)
   rw [hlen2] at this
   exact this
  cases A with
  | none =>
   have h3:eF g (l++sp)=[]:=hok.1 rfl
   have h4:(l++sp).length * s=0:=by rw [← eF_length hg (l++sp),h3]; rfl
   have h5:(l++sp).length=0:=by
    rcases Nat.mul_eq_zero.1 h4 with h | h
    ·exact h
    ·exact absurd h hs0
   have hl0:l=[]:=by simp at h5; exact h5.1
   have hsp0:sp=[]:=by simp at h5; exact h5.2
   subst hl0; subst hsp0
   have hds0:ds=[]:=by simpa using hdsl
   subst hds0
   refine ⟨none,[],w,?_,?_⟩
   ·have hf:=hfc w rfl
    have hlen':(Builtin.lenOf y).run C.P w = .ok 0 w:=hlen
    simp only [List.length_nil] at hf
    rcases hx with ⟨e',hxd⟩ | hxd <;> simp [Builtin.append_,run_underlying hu,run_underlying hxd,sizeOf,typeInfo,hi,hsz,sl,hlen',hf]
   ·have:L.set j ⟨none,eF g (([]++[])++[])⟩=L:=by
     apply List.ext_getElem?
     intro i
     by_cases hi':i=j
     ·subst hi'; rw [List.getElem?_set_self hlt,hj]; rfl
     ·rw [List.getElem?_set_ne (Ne.symm hi')]
    rw [this]; exact hs
  | some p =>
   obtain ⟨w',hr,hs'⟩:=storeMany (C:=C) (o:=l.length * s) (vs:=eF g ds) hs hj (by rw [eF_length hg,eF_length hg]; calc l.length * s+ds.length * s=(l.length+ds.length) * s:=by rw [Nat.add_mul]
      _≤(l++sp).length * s:=Nat.mul_le_mul_right _ hroom) (OneC.eF h1c ds)
   rw [hcells] at hs'
   refine ⟨some p,sp.drop ds.length,w',?_,hs'⟩
   have hf:=hfc w rfl
   have hadd:(⟨p.1,p.2,none⟩:Addr).add (l.length * s)=loc (some p) (l.length * s):=by
    have := @loc_add (some p) 0 (l.length * s); simpa [loc,bk,ofs] using this
   have hval:sl (some p) (l++ds).length ((l++ds)++sp.drop ds.length).length = .slice (some ⟨p.1,p.2,none⟩) (l.length+ds.length) (l++sp).length:=by
    have:((l++ds)++sp.drop ds.length).length=(l++sp).length:=by simp; omega
    rw [this]; simp [sl]
   rw [hval]
   have hroom':l.length+ds.length≤(l++sp).length:=hroom
   rcases hx with ⟨e',hxd⟩ | hxd <;> simp only [Builtin.append_,List.getElem?_toArray,List.getElem?_cons_zero,List.getElem?_cons_succ,Sem.run_bind,run_underlying hu,run_underlying hxd,Result.andThen_ok,sizeOf,typeInfo,program,Sem.run,hi,Sem.run_pure,hsz,sl,Option.map_some,Bool.false_eq_true,if_false,hlen,if_pos hroom',Bool.not_false,if_true,hf,hadd,hr]
 ·
  have hg1:(l++sp).length<l.length+ds.length:=by omega
  let need:=l.length+ds.length
  let q:Question := .appendCap need (l++sp).length e
  let cap:=q.cut (w.tape w.drawn q)
  have h48 : ¬ (Builtin.nextslicecap need (l++sp).length * bytes > 2 ^ 48):=by
   have:=growslice_fits (need:=need) (old:=(l++sp).length) (bytes:=bytes) hg1 hfit
   omega
  have hmax : ¬ ((need:Int) > IntKind.max .i64):=by
   have:IntKind.max .i64=9223372036854775807:=by decide
   rw [this]; show ¬ (((l.length+ds.length:Nat):Int) > _); omega
  let sp':=List.replicate (cap - need) z0
  let cells:Array Value:=(eF g l).toArray++(eF g ds).toArray++Builtin.zeroCells z.cells (cap - need)
  have hcells:cells.toList=eF g ((l++ds)++sp'):=by
   simp only [cells,Array.toList_append,eF_app,zeroCells_flatten,hz2,sp']
   rw [← rep_eF]
  have hcap:need≤cap:=by show need≤need+_; omega
  have hstep:Step C.w0 C.L0 { w.drew with heap:=w.drew.heap.push (.cells cells e) } (⟨some (w.heap.size,0),eF g ((l++ds)++sp')⟩ :: L):=by
   have h1:=drewStep hs (w.drawn+1)
   have h2:=newBlock h1 cells e
   rw [hcells] at h2
   exact h2
  refine ⟨some (w.heap.size,0),sp', { w.drew with heap:=w.drew.heap.push (.cells cells e) },?_,?_⟩
  ·have hf:=hfc w.drew rfl
   have hold:(Builtin.firstCells s l.length (sl A l.length (l++sp).length)).run C.P w.drew = .ok (eF g l).toArray w.drew:=by
    refine run_first (B:=A) ?_ (eF_length hg l)
    refine ⟨fun hA=>?_,fun i v hv=>?_⟩
    ·have h3:eF g (l++sp)=[]:=hok.1 hA
     rw [eF_app] at h3
     exact (List.append_eq_nil_iff.1 h3).1
    ·exact (hok.2 i v (by
      show (eF g (l++sp))[i]? = _
      rw [eF_app,List.getElem?_append_left (List.getElem?_eq_some_iff.1 hv).1]; exact hv)).1
   have hval:sl (some (w.heap.size,0)) (l++ds).length ((l++ds)++sp').length = .slice (some ⟨w.heap.size,0,none⟩) (l.length+ds.length) cap:=by
    have:((l++ds)++sp').length=cap:=by rw [List.length_append,List.length_append,List.length_replicate]; exact Nat.add_sub_cancel' hcap
    rw [this]; simp [sl]
   rw [hval]
   have hch:(choose (.appendCap (l.length+ds.length) (l++sp).length e)).run C.P w = .ok cap w.drew:=by simp [choose,Sem.run,Question.forced,q,cap,need]
   have hnew:(newRow e cells).run C.P w.drew = .ok ⟨w.heap.size,0,none⟩ { w.drew with heap:=w.drew.heap.push (.cells cells e) }:=rfl
   have hold':(Builtin.firstCells s l.length (.slice (A.map fun p=>⟨p.1,p.2,none⟩) l.length (l++sp).length)).run C.P w.drew = .ok (eF g l).toArray w.drew:=hold
   have hmax' : ¬ ((((l.length+ds.length:Nat)):Int) > IntKind.max .i64):=hmax
   have h48' : ¬ (Builtin.nextslicecap (l.length+ds.length) (l++sp).length * bytes > 2 ^ 48):=h48
   rcases hx with ⟨e',hxd⟩ | hxd <;> simp only [Builtin.append_,List.getElem?_toArray,List.getElem?_cons_zero,List.getElem?_cons_succ,Sem.run_bind,run_underlying hu,run_underlying hxd,Result.andThen_ok,sizeOf,typeInfo,program,Sem.run,hi,Sem.run_pure,hsz,sl,Option.map_some,Bool.false_eq_true,if_false,hlen,if_neg hroom,Bool.not_false,if_true,hmax',false_and,hB,h48',hch,run_make_room,hold',hf]
   all_goals
    have hzv:(zeroValue e).run C.P w.drew = .ok z w.drew:=by simp [zeroValue,typeInfo,Sem.run_bind,hi,hz1]
    rw [hzv]
    simp only [Result.andThen_ok]
    have hnew':(newRow e ((eF g l).toArray++(eF g ds).toArray++Builtin.zeroCells z.cells (cap - (l.length+ds.length)))).run C.P w.drew = .ok ⟨w.heap.size,0,none⟩ { w.drew with heap:=w.drew.heap.push (.cells cells e) }:=hnew
    rw [hnew']
    rfl
  ·have h2:Step C.w0 C.L0 { w.drew with heap:=w.drew.heap.push (.cells cells e) } ((L.set j ⟨some (w.heap.size,0),eF g ((l++ds)++sp')⟩)++[⟨A,eF g (l++sp)⟩]):=by
    refine hstep.perm ?_
    have p1:=perm_erase L j _ hj
    have p2:(L.set j ⟨some (w.heap.size,0),eF g ((l++ds)++sp')⟩).Perm (⟨some (w.heap.size,0),eF g ((l++ds)++sp')⟩ :: L.eraseIdx j):=by
     have:=perm_erase (L.set j ⟨some (w.heap.size,0),eF g ((l++ds)++sp')⟩) j ⟨some (w.heap.size,0),eF g ((l++ds)++sp')⟩ (by simp [hlt])
     rwa [List.eraseIdx_set_eq] at this
    refine (p1.cons _).trans ?_
    refine (List.Perm.swap _ _ _).trans ?_
    refine (List.Perm.cons _ p2.symm).trans ?_
    exact (List.perm_append_comm (l₁:=[_]))
   exact h2.left
theorem E_appSl {x y:Operand} {j:Nat} {A B:Adr} {l sp ds l':List α} {c2:Nat} {t e e' xt:TypeId} {inf:TypeInfo} (z0:α) {bytes:Nat} (hx:ev m x=some (sl A l.length (l++sp).length)) (hy:ev m y=some (sl B ds.length c2))
  (hj:L[j]? = some ⟨A,eF g (l++sp)⟩) (hg : ∀ a,(g a).length=s) (hs0:Nat.beq s 0=false) (h1c : ∀ a,OneC (g a)) (hsrc:Src C L ⟨B,eF g ds⟩)
  (hu:C.P.underlying t=some (.slice e)) (hux:C.P.underlying xt=some (.slice e')) (hi:C.P.info? e=some inf) (hsz:inf.size=s) (hz:zcells inf=some (g z0)) (hB:inf.bytes=bytes)
  (hfit:(l.length+ds.length) * bytes≤140737488355328) (h63:l.length+ds.length≤4611686018427387904) (hl:l++ds=l') :
  OpE C ⟨dst, .call ⟨.builtin .append, #[x,y], #[t,xt]⟩,ty,pos,af,gd⟩ m L (Γ:=Adr × List α) (fun q=>sl q.1 l'.length (l'++q.2).length) (fun q=>L.set j ⟨q.1,eF g (l'++q.2)⟩):=fun a w hs Q K hK=>by
 subst hl
 obtain ⟨A',sp',w',hr,hs'⟩:=app_core (C:=C) (ty:=ty) (y:=sl B ds.length c2) (ds:=ds) hs.step hj hg (fun h=>by rw [h] at hs0; cases hs0) h1c hu (.inl ⟨e',hux⟩) hi hsz hz hB (by simp [Builtin.lenOf,sl])
  (fun w' hw'=>run_first (by
   have hH:=hsrc w hs.step hs.ro
   exact ⟨hH.1,fun i v hv=>by have:=hH.2 i v hv; simpa [World.cell?,hw'] using this⟩) (eF_length hg ds)) hfit h63
 have hrun:(execOp a.eval ⟨dst, .call ⟨.builtin .append, #[x,y], #[t,xt]⟩,ty,pos,af,gd⟩).run C.P w = .ok (.value (sl A' (l++ds).length ((l++ds)++sp').length)) w':=by
  have hargs:(#[x,y].map a.eval) = #[sl A l.length (l++sp).length,sl B ds.length c2]:=by simp [hs.slots.ev hx,hs.slots.ev hy]
  simp only [execOp,resolve,hargs]
  simp only [invoke,builtin,Sem.run_bind,Sem.run_pure,Result.andThen_ok,hr]
 unfold Oper.wp
 rw [hrun]
 exact hK (A',sp') w' hs'
end
section
variable {C:Ctx} {m:Sl} {L:Mem} {dst:Option Tmp} {ty:TypeId} {pos:String} {af:Array Edge} {gd:Option (Nat × Bool)}
theorem E_appStr {x y:Operand} {j:Nat} {A:Adr} {l sp l':List (BitVec 8)} {st:Str} {t e xt:TypeId} {inf:TypeInfo} {B:Nat} (hx:ev m x=some (sl A l.length (l++sp).length)) (hy:ev m y=some (vs st))
  (hj:L[j]? = some ⟨A,e8 (l++sp)⟩) (hu:C.P.underlying t=some (.slice e)) (hux:C.P.underlying xt=some .string) (hi:C.P.info? e=some inf) (hsz:inf.size=1) (hz:zcells inf=some [v8 0#8]) (hB:inf.bytes=B)
  (hfit:(l.length+st.length) * B≤140737488355328) (h63:l.length+st.length≤4611686018427387904) (hl:l++st=l') :
  OpE C ⟨dst, .call ⟨.builtin .append, #[x,y], #[t,xt]⟩,ty,pos,af,gd⟩ m L (Γ:=Adr × List (BitVec 8)) (fun q=>sl q.1 l'.length (l'++q.2).length) (fun q=>L.set j ⟨q.1,e8 (l'++q.2)⟩):=fun a w hs Q K hK=>by
 subst hl
 obtain ⟨A',sp',w',hr,hs'⟩:=app_core (C:=C) (ty:=ty) (y:=vs st) (ds:=st) (g:=fun x=>[v8 x]) (s:=1) (z0:=0#8) hs.step (by rw [eF_one]; exact hj) (fun _=>rfl) (by omega) (fun _=>OneC.cons rfl OneC.nil) hu (.inr hux) hi hsz hz hB
  (by simp [Builtin.lenOf,vs,bytes_size]) (fun w' hw'=>by
   have h0:(bytes st).extract 0 st.length=bytes st:=by rw [bytes_extract]; simp
   have h1:((bytes st).extract 0 st.length).data.map (fun b=>Value.int .u8 (b.toNat:Int))=(e8 st).toArray:=by
    rw [h0]
    apply Array.toList_inj.1
    simp only [bytes,e8,List.map_toArray,List.map_map]
    rfl
   rw [eF_one]
   simp only [Builtin.firstCells,vs,h1]
   simp) hfit h63
 rw [eF_one] at hs'
 have hrun:(execOp a.eval ⟨dst, .call ⟨.builtin .append, #[x,y], #[t,xt]⟩,ty,pos,af,gd⟩).run C.P w = .ok (.value (sl A' (l++st).length ((l++st)++sp').length)) w':=by
  have hargs:(#[x,y].map a.eval) = #[sl A l.length (l++sp).length,vs st]:=by simp [hs.slots.ev hx,hs.slots.ev hy]
  simp only [execOp,resolve,hargs]
  simp only [invoke,builtin,Sem.run_bind,Sem.run_pure,Result.andThen_ok,hr]
 unfold Oper.wp
 rw [hrun]
 exact hK (A',sp') w' hs'
theorem E_buildSlice {t e:TypeId} {n s:Nat} {ps:List (Nat × Operand)} {pv:List (Nat × Value)} {ie:TypeInfo} {ze cs:List Value} (hps:evs m (ps.map (·.2))=some (pv.map (·.2))) (hps1:ps.map (·.1)=pv.map (·.1))
  (hu:C.P.underlying t=some (.slice e)) (hie:C.P.info? e=some ie) (hsz:ie.size=s) (hz:zcells ie=some ze) (hzl:ze.length=s) (hn:Nat.ble (n * s) 16777216=true) (hn0:Nat.beq (n * s) 0=false)
  (hf:fillL (fun i=>some (i * s,s)) ((List.replicate n ze).flatten) pv=some cs) :
  OpE C ⟨dst, .buildSlice t n ps.toArray,ty,pos,af,gd⟩ m L (Γ:=Nat) (fun b=>sl (some (b,0)) n n) (fun b=>⟨some (b,0),cs⟩ :: L):=fun a w hs' Q K hK=>by
 have h1:=hs'.slots.evs hps
 have hmap:(ps.toArray.map fun (i,x)=>(i,a.eval x))=pv.toArray:=by
  apply Array.toList_inj.1
  simp only [List.map_toArray,List.toList_toArray]
  apply List.ext_getElem
  ·have:=congrArg List.length hps1; simpa using this
  ·intro k k1 k2
   have g1:=congrArg (fun l=>l[k]?) h1
   have g2:=congrArg (fun l=>l[k]?) hps1
   simp only [List.length_map] at k1
   simp only [List.getElem?_map] at g1 g2
   rw [List.getElem?_eq_getElem k1,List.getElem?_eq_getElem k2] at g1 g2
   simp only [Option.map_some,Option.some.injEq] at g1 g2
   simp only [List.getElem_map]
   exact Prod.ext g2 g1
 cases hz0:ie.zero with
 | none=>simp [zcells,hz0] at hz
 | some z =>
  have hzs:z.cells.toList=ze:=by simpa [zcells,hz0] using hz
  have hzsz:z.cells.size=s:=by rw [← Array.length_toList,hzs,hzl]
  have hne : ¬ n * s=0:=fun h=>by rw [h] at hn0; cases hn0
  have hle : ¬ n * s > 2 ^ 24:=by have:=Nat.le_of_ble_eq_true hn; omega
  have hs0:s ≠ 0:=fun h=>hne (by rw [h]; simp)
  have hmade:((Array.range (n * s)).map fun i=>z.cells[i % z.cells.size]!)=((List.replicate n ze).flatten).toArray:=by
   apply Array.toList_inj.1
   have:=made_flatten z.cells (by omega) n
   rw [hzsz] at this ⊢
   rw [this,hzs]
  have hfe:=fill_eq _ _ _ _ hf
  have hrun:(execOp a.eval ⟨dst, .buildSlice t n ps.toArray,ty,pos,af,gd⟩).run C.P w = .ok (.value (sl (some (w.heap.size,0)) n n)) { w with heap:=w.heap.push (.cells cs.toArray e) }:=by
   have hm2:((Array.range (n * s)).map (z.cells[· % z.cells.size]!))=((List.replicate n ze).flatten).toArray:=hmade
   simp only [execOp,hmap,Instr.buildSlice,zeroValue,typeInfo,Sem.run_bind,program,Sem.run,hie,hz0,Result.andThen_ok,Sem.run_pure,run_underlying hu,sizeOf,hsz,if_neg hle,if_neg hne,hm2,hfe]
   simp [newRow,newObj,Sem.run,sl]
  unfold Oper.wp
  rw [hrun]
  exact hK _ _ (by have:=newBlock hs'.step cs.toArray e; simpa using this)
theorem E_s2bR {x:Operand} {s:Str} {st t e:TypeId} (hx:ev m x=some (vs s)) (hs1:C.P.underlying st=some .string) (ht:C.P.underlying t=some (.slice e)) (he:C.P.underlying e=some (.int .u8)) :
  OpE C ⟨dst, .convert st t x,ty,pos,af,gd⟩ m L (Γ:=Nat × List (BitVec 8)) (fun g=>sl (some (g.1,0)) s.length (s++g.2).length) (fun g=>⟨some (g.1,0),e8 (s++g.2)⟩ :: L):=fun a w hs Q K hK=>by
 let q:Question := .appendCap s.length 0 e
 let cap:=q.cut (w.tape w.drawn q)
 let sp:List (BitVec 8):=List.replicate (cap - s.length) 0#8
 let cells:Array Value:=(e8 s).toArray++Array.replicate (cap - s.length) (.int .u8 0)
 let n:=cells.size
 have hcl:cells.toList=e8 (s++sp):=by simp [cells,e8,sp,v8]
 have hcap:s.length≤cap:=by show s.length≤s.length+_; omega
 have hcells:((bytes s).data.map fun b=>Value.int .u8 (b.toNat:Int))=(e8 s).toArray:=by
  apply Array.toList_inj.1
  simp [bytes,e8,v8]
 have hval:sl (some (w.heap.size,0)) s.length (s++sp).length=sl (some (w.heap.size,0)) s.length cap:=by
  rw [List.length_append,List.length_replicate,Nat.add_sub_cancel' hcap]
 have hrun:(execOp a.eval ⟨dst, .convert st t x,ty,pos,af,gd⟩).run C.P w =
   .ok (.value (sl (some (w.heap.size,0)) s.length (s++sp).length)) { w with drawn:=w.drawn+1,heap:=w.heap.push (.cells cells e (n,n+1)) }:=by
  rw [hval]
  simp only [execOp,hs.slots.ev hx,convert,Sem.run_bind,run_underlying hs1,run_underlying ht,run_underlying he,vs,Result.andThen_ok,Conv.stringToBytes,bytes_size,hcells]
  have hz:=run_mark_new (P:=C.P) w.drew cells e
  have hz':(markStringish ⟨w.heap.size,0,none⟩).run C.P (w.drew.alloc (.cells cells e)) = .ok () { w with drawn:=w.drawn+1,heap:=w.heap.push (.cells cells e (n,n+1)) }:=hz
  have hch:(choose (.appendCap s.length 0 e)).run C.P w = .ok cap w.drew:=by simp [choose,Sem.run,Question.forced,q,cap]
  have hnew:(newRow e ((e8 s).toArray++Array.replicate (cap - s.length) (.int .u8 0))).run C.P w.drew = .ok ⟨w.heap.size,0,none⟩ (w.drew.alloc (.cells cells e)):=by simp [newRow,newObj,Sem.run]; rfl
  rw [hch]
  simp only [Result.andThen_ok]
  rw [hnew]
  simp only [Result.andThen_ok]
  rw [hz']
  rfl
 unfold Oper.wp
 rw [hrun]
 have h1:=drewStep hs.step (w.drawn+1)
 have h2:Step C.w0 C.L0 { w with drawn:=w.drawn+1,heap:=w.heap.push (.cells cells e (n,n+1)) } (⟨some (w.heap.size,0),cells.toList⟩ :: L) :=
  Step.frame (A:=[]) h1 (Step.alloc { w with drawn:=w.drawn+1 } cells e (n,n+1) (.inl (Nat.le_refl _)))
 rw [hcl] at h2
 exact hK (w.heap.size,sp) _ h2
end
end
end Go.Kx
end
