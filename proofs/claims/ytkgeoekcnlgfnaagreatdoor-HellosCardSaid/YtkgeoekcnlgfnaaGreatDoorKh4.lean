/-
  Part 4 of the proof of what several laws share.
-/
import Derived.Test.YtkgeoekcnlgfnaaGreatDoorKh3
set_option linter.unusedVariables false
set_option linter.unusedSimpArgs false
section
namespace Go.Kx
open Go
set_option linter.unusedSectionVars false
section
variable {α:Type} [Inhabited α] {g:α → List Value} {s:Nat}
theorem LA (a b:List α):eF g (a++b)=eF g a++eF g b:=by simp [eF]
theorem wR {f:α → Value} (l:List α):eF (fun x=>[f x]) l=l.map f:=by
 induction l with
 | nil=>rfl
 | cons a l ih=>simp only [eF,List.map_cons,List.flatten_cons] at ih ⊢; rw [ih]; rfl
theorem iP (hg : ∀ a,(g a).length=s) (a b:List α):(eF g (a++b)).take (a.length * s)=eF g a:=by
 rw [LA,List.take_append_of_le_length (by rw [UB hg]; exact Nat.le_refl _),List.take_of_length_le (by rw [UB hg]; exact Nat.le_refl _)]
theorem uG (hg : ∀ a,(g a).length=s) (a b:List α):(eF g (a++b)).drop (a.length * s)=eF g b:=by
 rw [LA,List.drop_append_of_le_length (by rw [UB hg]; exact Nat.le_refl _),List.drop_of_length_le (by rw [UB hg]; exact Nat.le_refl _),List.nil_append]
section
variable {C:Ctx} {m:Sl} {L:Mem} {dst:Option Tmp} {ty:TypeId} {pos:String} {af:Array Edge} {gd:Option (Nat × Bool)}
theorem Src.pre {A:Y6} {l sp:List α} (hg : ∀ a,(g a).length=s) (h:Src C L ⟨A,eF g (l++sp)⟩):Src C L ⟨A,eF g l⟩:=fun w hs hr=>by
 obtain ⟨h1,h2⟩:=h w hs hr
 refine ⟨fun hA=>?_,fun i v hv=>h2 i v ?_⟩
 ·have h3:eF g (l++sp)=[]:=h1 hA
  rw [LA] at h3
  exact (List.append_eq_nil_iff.1 h3).1
 ·show (eF g (l++sp))[i]? = _
  rw [LA,List.getElem?_append_left (List.getElem?_eq_some_iff.1 hv).1]
  exact hv
theorem Bp {P:Program} {w:World} {B:Y6} {ds:List Value} {n k c:Nat} (hH:Has w ⟨B,ds⟩) (hl:ds.length=n * k):(Builtin.firstCells k n (sl B n c)).run P w = .ok ds.toArray w:=by
 cases B with
 | none =>
  have:ds=[]:=hH.1 rfl
  subst this
  simp [Builtin.firstCells,sl]
 | some q =>
  have h1:=run_loadCells_list (P:=P) w (loc (some q) 0) ds (fun i v hv'=>by rw [Ob,Nat.zero_add]; exact hH.2 i v hv')
  rw [hl] at h1
  simpa [Builtin.firstCells,sl,loc,bk,EY] using h1
theorem GZ (zs:Array Value) : ∀ n:Nat,(Builtin.zeroCells zs n).toList=(List.replicate n zs.toList).flatten:=fun n=>by
 by_cases hz:zs.size=0
 ·have:zs = #[]:=Array.eq_empty_of_size_eq_zero hz
  subst this
  simp [Builtin.zeroCells]
 ·exact MR zs hz n
theorem mH {w:World} {j:Nat} {A:Y6} {l sp ds:List α} {t e xt:TypeId} {inf:TypeInfo} {z0:α} {bytes:Nat} {y:Value} (hs:Step C.w0 C.L0 w L)
  (hj:L[j]? = some ⟨A,eF g (l++sp)⟩) (hg : ∀ a,(g a).length=s) (oC:s ≠ 0) (bR : ∀ a,S_ (g a))
  (hu:C.P.underlying t=some (.slice e)) (hx:(∃ e',C.P.underlying xt=some (.slice e')) ∨ C.P.underlying xt=some .string) (hi:C.P.info? e=some inf) (hsz:inf.size=s) (hz:Wo inf=some (g z0)) (hB:inf.bytes=bytes)
  (hlen:(Builtin.lenOf y).run C.P w = .ok ds.length w) (hfc : ∀ w',w'.heap=w.heap → (Builtin.firstCells s ds.length y).run C.P w' = .ok (eF g ds).toArray w')
  (hfit:(l.length+ds.length) * bytes≤140737488355328) (h63:l.length+ds.length≤4611686018427387904) :
  ∃ A' sp' w',(Builtin.append_ #[t,xt] ty #[sl A l.length (l++sp).length,y]).run C.P w = .ok (sl A' (l++ds).length ((l++ds)++sp').length) w' ∧
   Step C.w0 C.L0 w' (L.set j ⟨A',eF g ((l++ds)++sp')⟩):=by
 have hok:=hs.ok.1 _ (List.mem_of_getElem? hj)
 have hlt:j<L.length:=(List.getElem?_eq_some_iff.1 hj).1
 have Ij : ∃ z,inf.zero=some z∧z.cells.toList=g z0:=by
  cases h0:inf.zero with
  | none=>simp [Wo,h0] at hz
  | some z=>exact ⟨z,rfl,by simpa [Wo,h0] using hz⟩
 obtain ⟨z,A9,hz2⟩:=Ij
 by_cases hroom:l.length+ds.length≤(l++sp).length
 ·
  have adm:ds.length≤sp.length:=by simp at hroom; omega
  have hcells:splice (eF g (l++sp)) (l.length * s) (eF g ds)=eF g ((l++ds)++sp.drop ds.length):=by
   unfold splice
   rw [iP hg,UB hg, ← List.drop_drop,uG hg,LA,LA]
   congr 1
   have hsp:sp=sp.take ds.length++sp.drop ds.length:=(List.take_append_drop _ _).symm
   have Eg:(sp.take ds.length).length=ds.length:=by simp; omega
   conv=>lhs; rw [hsp]
   have:=uG hg (sp.take ds.length) (sp.drop ds.length)
   rw [Eg] at this
   exact this
  cases A with
  | none =>
   have h3:eF g (l++sp)=[]:=hok.1 rfl
   have h4:(l++sp).length * s=0:=by rw [← UB hg (l++sp),h3]; rfl
   have h5:(l++sp).length=0:=by
    rcases Nat.mul_eq_zero.1 h4 with h | h
    ·exact h
    ·exact absurd h oC
   have hl0:l=[]:=by simp at h5; exact h5.1
   have adn:sp=[]:=by simp at h5; exact h5.2
   subst hl0; subst adn
   have acN:ds=[]:=by simpa using adm
   subst acN
   refine ⟨none,[],w,?_,?_⟩
   ·have hf:=hfc w rfl
    have hlen':(Builtin.lenOf y).run C.P w = .ok 0 w:=hlen
    simp only [List.length_nil] at hf
    rcases hx with ⟨e',hxd⟩ | hxd <;> simp [Builtin.append_,run_underlying hu,run_underlying hxd,sizeOf,typeInfo,hi,hsz,sl,hlen',hf]
   ·have:L.set j ⟨none,eF g (([]++[])++[])⟩=L:=by
     apply List.ext_getElem?
     intro i
     by_cases hi':i=j
     ·subst hi'; rw [List.getElem?_set_self hlt,hj]; rfl
     ·rw [List.getElem?_set_ne (Ne.symm hi')]
    rw [this]; exact hs
  | some p =>
   obtain ⟨w',hr,hs'⟩:=KM (C:=C) (o:=l.length * s) (vs:=eF g ds) hs hj (by rw [UB hg,UB hg]; calc l.length * s+ds.length * s=(l.length+ds.length) * s:=by rw [Nat.add_mul]
      _≤(l++sp).length * s:=Nat.mul_le_mul_right _ hroom) (S_.eF bR ds)
   rw [hcells] at hs'
   refine ⟨some p,sp.drop ds.length,w',?_,hs'⟩
   have hf:=hfc w rfl
   have hadd:(⟨p.1,p.2,none⟩:Addr).add (l.length * s)=loc (some p) (l.length * s):=by
    have := @Ob (some p) 0 (l.length * s); simpa [loc,bk,EY] using this
   have hval:sl (some p) (l++ds).length ((l++ds)++sp.drop ds.length).length = .slice (some ⟨p.1,p.2,none⟩) (l.length+ds.length) (l++sp).length:=by
    have:((l++ds)++sp.drop ds.length).length=(l++sp).length:=by simp; omega
    rw [this]; simp [sl]
   rw [hval]
   have hroom':l.length+ds.length≤(l++sp).length:=hroom
   rcases hx with ⟨e',hxd⟩ | hxd <;> simp only [Builtin.append_,List.getElem?_toArray,List.getElem?_cons_zero,List.getElem?_cons_succ,Sem.run_bind,run_underlying hu,run_underlying hxd,Result.andThen_ok,sizeOf,typeInfo,program,Sem.run,hi,Sem.run_pure,hsz,sl,Option.map_some,Bool.false_eq_true,if_false,hlen,if_pos hroom',Bool.not_false,if_true,hf,hadd,hr]
 ·
  have hg1:(l++sp).length<l.length+ds.length:=by omega
  let need:=l.length+ds.length
  let q:Question := .appendCap need (l++sp).length e
  let cap:=q.cut (w.tape w.drawn q)
  have h48 : ¬ (Builtin.nextslicecap need (l++sp).length * bytes > 2 ^ 48):=by
   have:=growslice_fits (need:=need) (old:=(l++sp).length) (bytes:=bytes) hg1 hfit
   omega
  have hmax : ¬ ((need:Int) > IntKind.max .i64):=by
   have:IntKind.max .i64=9223372036854775807:=by decide
   rw [this]; show ¬ (((l.length+ds.length:Nat):Int) > _); omega
  let sp':=List.replicate (cap - need) z0
  let cells:Array Value:=(eF g l).toArray++(eF g ds).toArray++Builtin.zeroCells z.cells (cap - need)
  have hcells:cells.toList=eF g ((l++ds)++sp'):=by
   simp only [cells,Array.toList_append,LA,GZ,hz2,sp']
   rw [← wJ]
  have hcap:need≤cap:=by show need≤need+_; omega
  have hstep:Step C.w0 C.L0 { w.drew with heap:=w.drew.heap.push (.cells cells e) } (⟨some (w.heap.size,0),eF g ((l++ds)++sp')⟩ :: L):=by
   have h1:=El hs (w.drawn+1)
   have h2:=Md h1 cells e
   rw [hcells] at h2
   exact h2
  refine ⟨some (w.heap.size,0),sp', { w.drew with heap:=w.drew.heap.push (.cells cells e) },?_,?_⟩
  ·have hf:=hfc w.drew rfl
   have hold:(Builtin.firstCells s l.length (sl A l.length (l++sp).length)).run C.P w.drew = .ok (eF g l).toArray w.drew:=by
    refine Bp (B:=A) ?_ (UB hg l)
    refine ⟨fun hA=>?_,fun i v hv=>?_⟩
    ·have h3:eF g (l++sp)=[]:=hok.1 hA
     rw [LA] at h3
     exact (List.append_eq_nil_iff.1 h3).1
    ·exact (hok.2 i v (by
      show (eF g (l++sp))[i]? = _
      rw [LA,List.getElem?_append_left (List.getElem?_eq_some_iff.1 hv).1]; exact hv)).1
   have hval:sl (some (w.heap.size,0)) (l++ds).length ((l++ds)++sp').length = .slice (some ⟨w.heap.size,0,none⟩) (l.length+ds.length) cap:=by
    have:((l++ds)++sp').length=cap:=by rw [List.length_append,List.length_append,List.length_replicate]; exact Nat.add_sub_cancel' hcap
    rw [this]; simp [sl]
   rw [hval]
   have hch:(choose (.appendCap (l.length+ds.length) (l++sp).length e)).run C.P w = .ok cap w.drew:=by simp [choose,Sem.run,Question.forced,q,cap,need]
   have hnew:(newRow e cells).run C.P w.drew = .ok ⟨w.heap.size,0,none⟩ { w.drew with heap:=w.drew.heap.push (.cells cells e) }:=rfl
   have hold':(Builtin.firstCells s l.length (.slice (A.map fun p=>⟨p.1,p.2,none⟩) l.length (l++sp).length)).run C.P w.drew = .ok (eF g l).toArray w.drew:=hold
   have aa5 : ¬ ((((l.length+ds.length:Nat)):Int) > IntKind.max .i64):=hmax
   have acJ : ¬ (Builtin.nextslicecap (l.length+ds.length) (l++sp).length * bytes > 2 ^ 48):=h48
   rcases hx with ⟨e',hxd⟩ | hxd <;> simp only [Builtin.append_,List.getElem?_toArray,List.getElem?_cons_zero,List.getElem?_cons_succ,Sem.run_bind,run_underlying hu,run_underlying hxd,Result.andThen_ok,sizeOf,typeInfo,program,Sem.run,hi,Sem.run_pure,hsz,sl,Option.map_some,Bool.false_eq_true,if_false,hlen,if_neg hroom,Bool.not_false,if_true,aa5,false_and,hB,acJ,hch,run_make_room,hold',hf]
   all_goals
    have hzv:(zeroValue e).run C.P w.drew = .ok z w.drew:=by simp [zeroValue,typeInfo,Sem.run_bind,hi,A9]
    rw [hzv]
    simp only [Result.andThen_ok]
    have aa0:(newRow e ((eF g l).toArray++(eF g ds).toArray++Builtin.zeroCells z.cells (cap - (l.length+ds.length)))).run C.P w.drew = .ok ⟨w.heap.size,0,none⟩ { w.drew with heap:=w.drew.heap.push (.cells cells e) }:=hnew
    rw [aa0]
    rfl
  ·have h2:Step C.w0 C.L0 { w.drew with heap:=w.drew.heap.push (.cells cells e) } ((L.set j ⟨some (w.heap.size,0),eF g ((l++ds)++sp')⟩)++[⟨A,eF g (l++sp)⟩]):=by
    refine hstep.perm ?_
    have p1:=QL L j _ hj
    have p2:(L.set j ⟨some (w.heap.size,0),eF g ((l++ds)++sp')⟩).Perm (⟨some (w.heap.size,0),eF g ((l++ds)++sp')⟩ :: L.eraseIdx j):=by
     have:=QL (L.set j ⟨some (w.heap.size,0),eF g ((l++ds)++sp')⟩) j ⟨some (w.heap.size,0),eF g ((l++ds)++sp')⟩ (by simp [hlt])
     rwa [List.eraseIdx_set_eq] at this
    refine (p1.cons _).trans ?_
    refine (List.Perm.swap _ _ _).trans ?_
    refine (List.Perm.cons _ p2.symm).trans ?_
    exact (List.perm_append_comm (l₁:=[_]))
   exact h2.left
theorem I8 {x y:Operand} {j:Nat} {A B:Y6} {l sp ds l':List α} {c2:Nat} {t e e' xt:TypeId} {inf:TypeInfo} (z0:α) {bytes:Nat} (hx:ev m x=some (sl A l.length (l++sp).length)) (hy:ev m y=some (sl B ds.length c2))
  (hj:L[j]? = some ⟨A,eF g (l++sp)⟩) (hg : ∀ a,(g a).length=s) (oC:Nat.beq s 0=false) (bR : ∀ a,S_ (g a)) (hsrc:Src C L ⟨B,eF g ds⟩)
  (hu:C.P.underlying t=some (.slice e)) (hux:C.P.underlying xt=some (.slice e')) (hi:C.P.info? e=some inf) (hsz:inf.size=s) (hz:Wo inf=some (g z0)) (hB:inf.bytes=bytes)
  (hfit:(l.length+ds.length) * bytes≤140737488355328) (h63:l.length+ds.length≤4611686018427387904) (hl:l++ds=l') :
  OP C ⟨dst, .call ⟨.builtin .append, #[x,y], #[t,xt]⟩,ty,pos,af,gd⟩ m L (Γ:=Y6 × List α) (fun q=>sl q.1 l'.length (l'++q.2).length) (fun q=>L.set j ⟨q.1,eF g (l'++q.2)⟩):=fun a w hs Q K hK=>by
 subst hl
 obtain ⟨A',sp',w',hr,hs'⟩:=mH (C:=C) (ty:=ty) (y:=sl B ds.length c2) (ds:=ds) hs.step hj hg (fun h=>by rw [h] at oC; cases oC) bR hu (.inl ⟨e',hux⟩) hi hsz hz hB (by simp [Builtin.lenOf,sl])
  (fun w' hw'=>Bp (by
   have hH:=hsrc w hs.step hs.ro
   exact ⟨hH.1,fun i v hv=>by have:=hH.2 i v hv; simpa [World.cell?,hw'] using this⟩) (UB hg ds)) hfit h63
 have hrun:(execOp a.eval ⟨dst, .call ⟨.builtin .append, #[x,y], #[t,xt]⟩,ty,pos,af,gd⟩).run C.P w = .ok (.value (sl A' (l++ds).length ((l++ds)++sp').length)) w':=by
  have hargs:(#[x,y].map a.eval) = #[sl A l.length (l++sp).length,sl B ds.length c2]:=by simp [hs.slots.ev hx,hs.slots.ev hy]
  simp only [execOp,resolve,hargs]
  simp only [invoke,builtin,Sem.run_bind,Sem.run_pure,Result.andThen_ok,hr]
 unfold Oper.wp
 rw [hrun]
 exact hK (A',sp') w' hs'
end
section
variable {C:Ctx} {m:Sl} {L:Mem} {dst:Option Tmp} {ty:TypeId} {pos:String} {af:Array Edge} {gd:Option (Nat × Bool)}
theorem Ya {t e:TypeId} {n s:Nat} {ps:List (Nat × Operand)} {pv:List (Nat × Value)} {ie:TypeInfo} {ze cs:List Value} (hps:evs m (ps.map (·.2))=some (pv.map (·.2))) (yA:ps.map (·.1)=pv.map (·.1))
  (hu:C.P.underlying t=some (.slice e)) (hie:C.P.info? e=some ie) (hsz:ie.size=s) (hz:Wo ie=some ze) (hzl:ze.length=s) (hn:Nat.ble (n * s) 16777216=true) (uV:Nat.beq (n * s) 0=false)
  (hf:KW (fun i=>some (i * s,s)) ((List.replicate n ze).flatten) pv=some cs) :
  OP C ⟨dst, .buildSlice t n ps.toArray,ty,pos,af,gd⟩ m L (Γ:=Nat) (fun b=>sl (some (b,0)) n n) (fun b=>⟨some (b,0),cs⟩ :: L):=fun a w hs' Q K hK=>by
 have h1:=hs'.slots.evs hps
 have hmap:(ps.toArray.map fun (i,x)=>(i,a.eval x))=pv.toArray:=by
  apply Array.toList_inj.1
  simp only [List.map_toArray,List.toList_toArray]
  apply List.ext_getElem
  ·have:=congrArg List.length yA; simpa using this
  ·intro k k1 k2
   have g1:=congrArg (fun l=>l[k]?) h1
   have g2:=congrArg (fun l=>l[k]?) yA
   simp only [List.length_map] at k1
   simp only [List.getElem?_map] at g1 g2
   rw [List.getElem?_eq_getElem k1,List.getElem?_eq_getElem k2] at g1 g2
   simp only [Option.map_some,Option.some.injEq] at g1 g2
   simp only [List.getElem_map]
   exact Prod.ext g2 g1
 cases Ij:ie.zero with
 | none=>simp [Wo,Ij] at hz
 | some z =>
  have hzs:z.cells.toList=ze:=by simpa [Wo,Ij] using hz
  have aac:z.cells.size=s:=by rw [← Array.length_toList,hzs,hzl]
  have hne : ¬ n * s=0:=fun h=>by rw [h] at uV; cases uV
  have hle : ¬ n * s > 2 ^ 24:=by have:=Nat.le_of_ble_eq_true hn; omega
  have oC:s ≠ 0:=fun h=>hne (by rw [h]; simp)
  have ab0:((Array.range (n * s)).map fun i=>z.cells[i % z.cells.size]!)=((List.replicate n ze).flatten).toArray:=by
   apply Array.toList_inj.1
   have:=MR z.cells (by omega) n
   rw [aac] at this ⊢
   rw [this,hzs]
  have hfe:=EL _ _ _ _ hf
  have hrun:(execOp a.eval ⟨dst, .buildSlice t n ps.toArray,ty,pos,af,gd⟩).run C.P w = .ok (.value (sl (some (w.heap.size,0)) n n)) { w with heap:=w.heap.push (.cells cs.toArray e) }:=by
   have qz:((Array.range (n * s)).map (z.cells[· % z.cells.size]!))=((List.replicate n ze).flatten).toArray:=ab0
   simp only [execOp,hmap,Instr.buildSlice,zeroValue,typeInfo,Sem.run_bind,program,Sem.run,hie,Ij,Result.andThen_ok,Sem.run_pure,run_underlying hu,sizeOf,hsz,if_neg hle,if_neg hne,qz,hfe]
   simp [newRow,newObj,Sem.run,sl]
  unfold Oper.wp
  rw [hrun]
  exact hK _ _ (by have:=Md hs'.step cs.toArray e; simpa using this)
theorem lF {x:Operand} {s:Str} {st t e:TypeId} (hx:ev m x=some (vs s)) (hs1:C.P.underlying st=some .string) (ht:C.P.underlying t=some (.slice e)) (he:C.P.underlying e=some (.int .u8)) :
  OP C ⟨dst, .convert st t x,ty,pos,af,gd⟩ m L (Γ:=Nat × List (BitVec 8)) (fun g=>sl (some (g.1,0)) s.length (s++g.2).length) (fun g=>⟨some (g.1,0),e8 (s++g.2)⟩ :: L):=fun a w hs Q K hK=>by
 let q:Question := .appendCap s.length 0 e
 let cap:=q.cut (w.tape w.drawn q)
 let sp:List (BitVec 8):=List.replicate (cap - s.length) 0#8
 let cells:Array Value:=(e8 s).toArray++Array.replicate (cap - s.length) (.int .u8 0)
 let n:=cells.size
 have hcl:cells.toList=e8 (s++sp):=by simp [cells,e8,sp,v8]
 have hcap:s.length≤cap:=by show s.length≤s.length+_; omega
 have hcells:((bytes s).data.map fun b=>Value.int .u8 (b.toNat:Int))=(e8 s).toArray:=by
  apply Array.toList_inj.1
  simp [bytes,e8,v8]
 have hval:sl (some (w.heap.size,0)) s.length (s++sp).length=sl (some (w.heap.size,0)) s.length cap:=by
  rw [List.length_append,List.length_replicate,Nat.add_sub_cancel' hcap]
 have hrun:(execOp a.eval ⟨dst, .convert st t x,ty,pos,af,gd⟩).run C.P w =
   .ok (.value (sl (some (w.heap.size,0)) s.length (s++sp).length)) { w with drawn:=w.drawn+1,heap:=w.heap.push (.cells cells e (n,n+1)) }:=by
  rw [hval]
  simp only [execOp,hs.slots.ev hx,convert,Sem.run_bind,run_underlying hs1,run_underlying ht,run_underlying he,vs,Result.andThen_ok,Conv.stringToBytes,OQ,hcells]
  have hz:=Ay (P:=C.P) w.drew cells e
  have hz':(markStringish ⟨w.heap.size,0,none⟩).run C.P (w.drew.alloc (.cells cells e)) = .ok () { w with drawn:=w.drawn+1,heap:=w.heap.push (.cells cells e (n,n+1)) }:=hz
  have hch:(choose (.appendCap s.length 0 e)).run C.P w = .ok cap w.drew:=by simp [choose,Sem.run,Question.forced,q,cap]
  have hnew:(newRow e ((e8 s).toArray++Array.replicate (cap - s.length) (.int .u8 0))).run C.P w.drew = .ok ⟨w.heap.size,0,none⟩ (w.drew.alloc (.cells cells e)):=by simp [newRow,newObj,Sem.run]; rfl
  rw [hch]
  simp only [Result.andThen_ok]
  rw [hnew]
  simp only [Result.andThen_ok]
  rw [hz']
  rfl
 unfold Oper.wp
 rw [hrun]
 have h1:=El hs.step (w.drawn+1)
 have h2:Step C.w0 C.L0 { w with drawn:=w.drawn+1,heap:=w.heap.push (.cells cells e (n,n+1)) } (⟨some (w.heap.size,0),cells.toList⟩ :: L) :=
  Step.frame (A:=[]) h1 (Step.alloc { w with drawn:=w.drawn+1 } cells e (n,n+1) (.inl (Nat.le_refl _)))
 rw [hcl] at h2
 exact hK (w.heap.size,sp) _ h2
end
end
end Go.Kx
end

section
namespace Go.Kx
open Go
set_option linter.unusedSectionVars false
section
variable {α:Type} [Inhabited α] {n s:Nat} {g:α → List Value} {f:α → Value}
theorem Ke {V:Vector α n} {i:Nat} (h:i<n):i<V.toList.length:=by simpa using h
theorem Si {l sp:List α} {i:Nat} (h:i<l.length):i<(l++sp).length:=by simp; omega
theorem FR {l sp:List α} {i:Nat} (h:i<l.length):lg (l++sp) i=lg l i:=by simp [lg,List.getElem?_append_left h]
theorem Zy (l sp:List α):l.length≤(l++sp).length:=by simp
theorem Aw {l sp:List α} {i:Nat} (h:i<l.length):((l++sp).map f)[i]? = some (f (lg l i)):=by
 rw [UL (Si h),FR h]
theorem lV (hg : ∀ a,(g a).length=s) (V:Vector α n) (i k:Nat) (x:α) (v:Value) (hi:i<n) (hk:k<s) (h:(g (vg V i)).set k v=g x):(eF g V.toList).set (i * s+k) v=eF g (vp V i x).toList:=by
 rw [Au hg V.toList i k x v (Ke hi) hk h,Af]
theorem abL (hg : ∀ a,(g a).length=s) (V:Vector α n):(eF g V.toList).length=n * s:=by rw [UB hg]; simp
theorem VC (hg : ∀ a,(g a).length=s) (hs:Nat.beq s 0=false) {l:List α} {i:Nat} (h:i<l.length):eF g l ≠ []:=fun h'=>by
 have h1:=UB hg l
 rw [h'] at h1
 have h2:s ≠ 0:=fun h=>by rw [h] at hs; cases hs
 rcases Nat.mul_eq_zero.1 h1.symm with h3 | h3
 ·omega
 ·exact h2 h3
theorem Ja {l d:Nat} {k:Nat} {ds:List α} (h:l+d≤n):l+(ds.take (min k d)).length≤n:=by
 rw [List.length_take]; have:=Nat.min_le_left (min k d) ds.length; have:=Nat.min_le_right k d; omega
theorem xQ {V:Vector α n} {l d k:Nat} (h:l+d≤n):l+min k d≤(V.toList.map f).length:=by
 simp; have:=Nat.min_le_right k d; omega
theorem ym {L:List (Vector α n)} {i l d k:Nat} (hi:i<L.length) (h:l+d≤n):(i * n+l)+min k d≤(eF (fun V:Vector α n=>V.toList.map f) L).length:=by
 have h1:=UB (g:=fun V:Vector α n=>V.toList.map f) (s:=n) (fun _=>by simp) L
 rw [h1]
 have h2:(i+1) * n≤L.length * n:=Nat.mul_le_mul_right _ hi
 rw [Nat.succ_mul] at h2
 have:=Nat.min_le_right k d
 omega
end
theorem R9.sum : ∀ {ps:Parts},R9 ps → (flat ps).length=(ps.map (·.1)).sum
 | [],_=>rfl
 | p :: r,h=>by rw [QZ,List.length_append,R9.sum h.2,h.1]; simp
theorem Mt {ps:Parts} {n:Nat} (h:R9 ps) (hn:(ps.map (·.1)).sum=n):(flat ps).length=n:=by rw [R9.sum h,hn]
def Hm:Parts → Prop
 | []=>True
 | p :: r=>S_ p.2∧Hm r
theorem BA : ∀ {ps:Parts},Hm ps → S_ (flat ps)
 | [],_=>S_.nil
 | p :: r,h=>by rw [QZ]; exact S_.app h.1 (BA h.2)
theorem Step.merge {w0 w:World} {L0 L:Mem} {b o:Nat} {c1 c2:List Value} (h:Step w0 L0 w (⟨some (b,o),c1⟩ :: ⟨some (b,o+c1.length),c2⟩ :: L)) :
  Step w0 L0 w (⟨some (b,o),c1++c2⟩ :: L):=by
 have hm:=h.ok.left (A:=[⟨some (b,o),c1⟩,⟨some (b,o+c1.length),c2⟩]) (B:=L)
 have h1:=hm.1 _ (List.mem_cons_self ..)
 have h2:=hm.1 _ (List.mem_cons_of_mem _ (List.mem_cons_self ..))
 have hloc : ∀ i,loc (some (b,o+c1.length)) i=loc (some (b,o)) (c1.length+i):=fun i=>by simp [loc,bk,EY,Nat.add_assoc]
 refine Step.frame (A:=[⟨some (b,o),c1⟩,⟨some (b,o+c1.length),c2⟩]) (R:=L) (B:=[⟨some (b,o),c1++c2⟩]) h ⟨jX.refl _ _,⟨?_,by simp⟩,?_⟩
 ·intro e he
  rw [List.mem_singleton] at he
  subst he
  refine ⟨(fun h=>by cases h),fun i v hv=>?_⟩
  by_cases hi:i<c1.length
  ·rw [List.getElem?_append_left hi] at hv; exact h1.2 i v hv
  ·rw [List.getElem?_append_right (by omega)] at hv
   have h3:=h2.2 _ v hv
   have e:loc (some (b,o+c1.length)) (i - c1.length)=loc (some (b,o)) i:=by rw [hloc]; congr 1; omega
   simp only at h3
   rw [e] at h3
   exact h3
 ·rintro a ⟨e,he,i,hi,rfl⟩
  rw [List.mem_singleton] at he
  subst he
  refine .inr ?_
  by_cases hlt:i<c1.length
  ·exact ⟨_,List.mem_cons_self ..,i,hlt,rfl⟩
  ·refine ⟨_,List.mem_cons_of_mem _ (List.mem_cons_self ..),i - c1.length,?_,?_⟩
   ·simp only [List.length_append] at hi ⊢; omega
   ·show loc (some (b,o)) i=loc (some (b,o+c1.length)) (i - c1.length)
    rw [hloc]; congr 1; omega
theorem Step.unents {w0 w:World} {L0 L:Mem} {b:Nat} : ∀ (ps:Parts) (o:Nat),R9 ps → ps ≠ [] → Step w0 L0 w (Kx.ents b o ps++L) → Step w0 L0 w (⟨some (b,o),flat ps⟩ :: L)
 | [],_,_,h,_=>absurd rfl h
 | [p],o,_,_,h=>h
 | p :: q :: r,o,hp,_,h=>by
  have h1:Step w0 L0 w (Kx.ents b (o+p.1) (q :: r)++(⟨some (b,o),p.2⟩ :: L)):=by
   refine h.perm ?_
   simp only [Kx.ents,List.cons_append]
   exact (List.Perm.swap _ _ _).trans ((List.perm_middle.symm).cons _)
  have h2:=Step.unents (q :: r) (o+p.1) hp.2 (by simp) h1
  have h3:Step w0 L0 w (⟨some (b,o),p.2⟩ :: ⟨some (b,o+p.2.length),flat (q :: r)⟩ :: L):=by rw [hp.1]; exact h2.perm (List.Perm.swap ..)
  rw [QZ]
  exact h3.merge
section
variable {C:Ctx} {Q:Exit → Act → World → Prop} {m:Sl} {L:Mem} {ops:Array Oper} {l rest:List Oper} {dst:Option Tmp} {ty:TypeId} {pos:String} {af:Array Edge} {gd:Option (Nat × Bool)}
theorem Ag {x y:Operand} {b o n:Nat} {is:List Nat} {R:Mem} {t:TypeId} {inf:TypeInfo} (ps ns:Parts) (hx:ev m x=some (ptr (some (b,o)) 0)) (hy:ev m y=some (.agg (flat ns).toArray))
  (hp:pull is L=some (ents b o ps,R)) (hi:C.P.info? t=some inf) (hn:inf.size=n) (hps:R9 ps) (hns:R9 ns) (AO:(flat ps).length=n) (Cw:(flat ns).length=n) (bR:S_ (flat ns)) :
  OP C ⟨dst, .store t x y,ty,pos,af,gd⟩ m L (Γ:=Unit) (fun _=>undef) (fun _=>ents b o ns++R):=fun a w hs Q K hK=>by
 by_cases h0:ps=[]
 ·subst h0
  have uV:n=0:=AO.symm
  have abU:flat ns=[]:=List.eq_nil_of_length_eq_zero (by rw [Cw,uV])
  have hrun:(execOp a.eval ⟨dst, .store t x y,ty,pos,af,gd⟩).run C.P w = .ok .skip w:=by
   simp [execOp,hs.slots.ev hx,hs.slots.ev hy,Instr.storeAt,Instr.sureAddr,ptr,Sem.run_bind,storeVar,sizeOf,typeInfo,hi,hn,abU,uV,Value.cells,storeCells]
  unfold Oper.wp
  rw [hrun]
  refine hK () w ?_
  have h2:Step C.w0 C.L0 w R:=by have:=hs.step.pulled hp; simpa [ents] using this
  have h3 : ∀ (ns:Parts) (o:Nat),flat ns=[] → Step C.w0 C.L0 w (ents b o ns++R):=by
   intro ns
   induction ns with
   | nil=>intro o _; simpa [ents] using h2
   | cons p r ih =>
    intro o hf
    rw [QZ] at hf
    have hp2:=(List.append_eq_nil_iff.1 hf)
    have:=ih (o+p.1) hp2.2
    refine Step.frame (A:=[]) (B:=[⟨some (b,o),p.2⟩]) this ⟨jX.refl _ _,⟨fun e he=>?_,by simp⟩,fun ad ⟨e,he,i,hi,_⟩=>?_⟩
    ·rw [List.mem_singleton] at he; subst he; exact ⟨(fun h=>by cases h),fun i v hv=>by simp [hp2.1] at hv⟩
    ·rw [List.mem_singleton] at he; subst he; simp [hp2.1] at hi
  exact h3 ns o abU
 ·have h2:=Step.unents ps o hps h0 (hs.step.pulled hp)
  obtain ⟨w',hr,hs'⟩:=KM (C:=C) (j:=0) (o:=0) (vs:=flat ns) h2 rfl (by rw [AO,Cw]; omega) bR
  rw [DF (by rw [AO,Cw])] at hs'
  have hrun:(execOp a.eval ⟨dst, .store t x y,ty,pos,af,gd⟩).run C.P w = .ok .skip w':=by
   simp [execOp,hs.slots.ev hx,hs.slots.ev hy,Instr.storeAt,Instr.sureAddr,ptr,Sem.run_bind,storeVar,sizeOf,typeInfo,hi,hn,Cw,Value.cells,hr]
  unfold Oper.wp
  rw [hrun]
  exact hK () w' (Step.ents ns o hns hs')
theorem Kv {fn:Func} {R:Ending → World → Prop} {rs:List ResultVar} {vs:List Value} (hr:fn.results=rs.toArray) (hv:GR C m L rs vs)
  (hR : ∀ w,Step C.w0 C.L0 w L → R (.returned (JE vs)) w):TX C (bodyPost C.P fn R) .normal m L:=fun a w hs=>wD hr hv hR a w hs
theorem Us {α:Type} {A:Y6} {n:Nat} {l:List α} (h:n=l.length):sl A n n=sl A l.length (l++[]).length:=by subst h; simp
theorem EG {α:Type} {f:α → Value} {A:Y6} {l sp:List α} (h:Src C L ⟨A,(l++sp).map f⟩):Src C L ⟨A,l.map f⟩:=fun w hs hr=>by
 obtain ⟨h1,h2⟩:=h w hs hr
 refine ⟨fun hA=>?_,fun i v hv=>h2 i v ?_⟩
 ·have h3:(l++sp).map f=[]:=h1 hA
  simp at h3
  simp [h3.1]
 ·show ((l++sp).map f)[i]? = _
  rw [List.map_append,List.getElem?_append_left (List.getElem?_eq_some_iff.1 hv).1]
  exact hv
theorem QH.prefix' {Qf R:Mem} {A:Y6} {c1 c2:List Value} (h:QH C Qf R ⟨A,c1++c2⟩):QH C Qf R ⟨A,c1⟩:=fun w hs hr=>by
 obtain ⟨⟨h1,h2⟩,h3⟩:=h w hs hr
 refine ⟨⟨fun hA=>?_,fun i v hv=>h2 i v ?_⟩,fun e he i j hi hj=>h3 e he i j hi ?_⟩
 ·have h4:c1++c2=[]:=h1 hA
  exact (List.append_eq_nil_iff.1 h4).1
 ·show (c1++c2)[i]? = _
  rw [List.getElem?_append_left (List.getElem?_eq_some_iff.1 hv).1]; exact hv
 ·simp only [List.length_append] at hj ⊢; omega
theorem Zt {α:Type} {f:α → Value} {Qf R:Mem} {A:Y6} {l sp:List α} (h:QH C Qf R ⟨A,(l++sp).map f⟩):QH C Qf R ⟨A,l.map f⟩:=by
 rw [List.map_append] at h; exact h.prefix'
theorem Xt {α:Type} [Inhabited α] {g:α → List Value} {s:Nat} {Qf R:Mem} {A:Y6} {l sp:List α} (hg : ∀ a,(g a).length=s) (h:QH C Qf R ⟨A,eF g (l++sp)⟩):QH C Qf R ⟨A,eF g l⟩:=by
 rw [LA] at h; exact h.prefix'
theorem SH {α:Type} [Inhabited α] {f:α → Value} {x y:Operand} {j:Nat} {A B:Y6} {l sp ds l':List α} {c2:Nat} {t e e' xt:TypeId} {inf:TypeInfo} (z0:α) {B':Nat} (hsrc:Src C L ⟨B,ds.map f⟩) (hx:ev m x=some (sl A l.length (l++sp).length)) (hy:ev m y=some (sl B ds.length c2))
  (hj:L[j]? = some ⟨A,(l++sp).map f⟩) (hf : ∀ a,(f a).oneCell'=true) (hu:C.P.underlying t=some (.slice e)) (hux:C.P.underlying xt=some (.slice e')) (hi:C.P.info? e=some inf) (hsz:inf.size=1) (hz:Wo inf=some [f z0]) (hB:inf.bytes=B')
  (hfit:(l.length+ds.length) * B'≤140737488355328) (h63:l.length+ds.length≤4611686018427387904) (hl:l++ds=l') :
  OP C ⟨dst, .call ⟨.builtin .append, #[x,y], #[t,xt]⟩,ty,pos,af,gd⟩ m L (Γ:=Y6 × List α) (fun q=>sl q.1 l'.length (l'++q.2).length) (fun q=>L.set j ⟨q.1,(l'++q.2).map f⟩):=by
 have h:=I8 (C:=C) (L:=L) (m:=m) (dst:=dst) (ty:=ty) (pos:=pos) (af:=af) (gd:=gd) (g:=fun a=>[f a]) (s:=1) (j:=j) (sp:=sp) z0 hx hy (by rw [wR]; exact hj) (fun _=>rfl) rfl (fun a=>S_.cons (hf a) S_.nil) (by rw [wR]; exact hsrc) hu hux hi hsz hz hB hfit h63 hl
 simp only [wR] at h
 exact h
theorem eP {x y:Operand} {a b:Int} {ts:Array TypeId} (hx:ev m x=some (vi a)) (hy:ev m y=some (vi b)):Ou C ⟨dst, .call ⟨.builtin .min, #[x,y],ts⟩,ty,pos,af,gd⟩ m L (vi (min a b)):=fun ac w hs=>by
 have e:(if b<a then b else a)=min a b:=by rw [Int.min_def]; split <;> split <;> omega
 simp [execOp,resolve,hs.slots.ev hx,hs.slots.ev hy,invoke,builtin,Builtin.min_,Builtin.min2,Sem.run_bind,vi,e]
theorem eu {A:Y6} {n c:Nat} {o:Option Value} (h:o=some (sl A n c)):o=some (sl (sh A 0) n c):=by
 rw [h]; cases A <;> simp [sh,sl]
theorem Ht {x:Operand} {lo hi:Option Operand} {A:Y6} {o n:Nat} {t e:TypeId} {inf:TypeInfo} {l h:Nat} (hx:ev m x=some (ptr A o)) (hA:A ≠ none) (hu:C.P.underlying t=some (.array n e))
  (hi':C.P.info? e=some inf) (hsz:inf.size=1) (hlo:OZ m lo 0 l) (hhi:OZ m hi n h) (h1:l≤h) (h2:h≤n) (hl:l<n) :
  Ou C ⟨dst, .slice t x lo hi none,ty,pos,af,gd⟩ m L (sl (sh A (o+l)) (h - l) (n - l)):=by
 have h3:=Du (C:=C) (L:=L) (dst:=dst) (ty:=ty) (pos:=pos) (af:=af) (gd:=gd) hx hA hu hi' hsz hlo hhi h1 h2
 have e1:J9 (sh A o) n l 1=sh A (o+l):=by
  unfold J9
  rw [if_neg (by omega)]
  cases A <;> simp [sh,Nat.add_assoc]
 rw [e1] at h3
 exact h3
theorem sw {x y:Operand} {A B:Y6} {d s c c2 j o k:Nat} {cs cs':List Value} {ds:List (BitVec 8)} {t e t2:TypeId} {inf:TypeInfo} (hx:ev m x=some (sl (sh A o) d c)) (hy:ev m y=some (sl B s c2)) (hA:A ≠ none)
  (hu:C.P.underlying t=some (.slice e)) (hi:C.P.info? e=some inf) (hsz:inf.size=1)
  (hsrc:Src C L ⟨B,e8 ds⟩) (hl:ds.length=s) (hk:Nat.min s d=k) (hj:L[j]? = some ⟨A,cs⟩) (ho:o+k≤cs.length) (hcs:splice cs o (e8 (ds.take k))=cs') :
  OP C ⟨dst, .call ⟨.builtin .copy, #[x,y], #[t,t2]⟩,ty,pos,af,gd⟩ m L (Γ:=Unit) (fun _=>vi k) (fun _=>L.set j ⟨A,cs'⟩) :=
 nM hx hy hA hu hi hsz hsrc hk (by rw [Nat.mul_one,Cq,hl, ← hk]; exact Nat.min_le_left _ _) (S_.map (fun _=>rfl) _) hj (by rw [Nat.mul_one]; exact ho) (by rw [Nat.mul_one, ← List.map_take]; exact hcs)
end
section
variable {P:Program} {t e:TypeId} {x y:Operand} (w:World)
end
end Go.Kx
end

section
namespace Go.Kx
open Go
set_option linter.unusedSectionVars false
theorem wo {A c B ds:List Value} {o:Nat} (ho:A.length=o) (h:ds.length=c.length):splice (A++c++B) o ds=A++ds++B:=by
 subst ho
 unfold splice
 have h1:(A++c++B).take A.length=A:=by rw [List.append_assoc,List.take_left]
 have h2:(A++c++B).drop (A.length+ds.length)=B:=by
  rw [h, ← List.length_append,List.drop_left]
 rw [h1,h2]
theorem zf : ∀ (A B:Parts),flat (A++B)=flat A++flat B
 | [],B=>by simp [flat]
 | p :: r,B=>by rw [List.cons_append,QZ,QZ,zf r B,List.append_assoc]
theorem NN {place:Nat → Option (Nat × Nat)} {i o n:Nat} {v:Value} {r:List (Nat × Value)} {out c ds:List Value} (A B:Parts) (hp:place i=some (o,n)) (hv:v.cells.toList=ds) (hA:R9 A) (ho:(A.map (·.1)).sum=o)
  (hc:c.length=n) (hd:ds.length=n) (h:KW place (flat (A++(n,ds) :: B)) r=some out):KW place (flat (A++(n,c) :: B)) ((i,v) :: r)=some out:=by
 have e : ∀ x:List Value,flat (A++(n,x) :: B)=flat A++x++flat B:=fun x=>by rw [zf,QZ,List.append_assoc]
 have hl:=Mt hA ho
 have hs:splice (flat (A++(n,c) :: B)) o ds=flat (A++(n,ds) :: B):=by
  rw [e,e]; exact wo hl (hd.trans hc.symm)
 unfold KW
 rw [hp,hv]
 have hle:Nat.ble (o+n) (flat (A++(n,c) :: B)).length=true:=by
  apply Nat.ble_eq_true_of_le
  rw [e]; simp only [List.length_append,hl,hc]; omega
 simp only [hd,Nat.beq_refl,hle,Bool.and_self,hs]
 exact h
theorem KN {place:Nat → Option (Nat × Nat)} {cs:List Value}:KW place cs []=some cs:=rfl
theorem dV {A:Y6} {a b:Nat}:sh (sh A a) b=sh A (a+b):=by cases A <;> simp [sh,Nat.add_assoc]
theorem iD {C:Ctx} {L:Mem} {A:Y6} {n i:Nat} {ws:List (Vector (BitVec 8) n)} (l h:Nat) (hi:i<ws.length) (hs:Src C L ⟨A,eF (fun V:Vector (BitVec 8) n=>e8 V.toList) ws⟩) :
  Src C L ⟨sh A (i * n+l),e8 (sub (lg ws i).toList l h)⟩:=by
 have h1:=hs.part (i * n) n
 rw [RJ (s:=n) (fun _=>by simp) ws i hi] at h1
 have h2:=h1.part l (h - l)
 rw [dV] at h2
 simpa [sub,e8,List.map_take,List.map_drop] using h2
section
variable {C:Ctx} {ops:Array Oper} {Q:Exit → Act → World → Prop} {l:List Oper} {m:Sl} {L:Mem} {js n:Nat} {Lr:Mem} {done:Array Bool}
theorem Sat.noneE {a:Act} {w:World} (h:Sat C m L a w):Sat C m (⟨none,[]⟩ :: L) a w :=
 h.mem (Step.frame (A:=[]) (B:=[⟨none,[]⟩]) h.step ⟨jX.refl _ _,⟨fun e he=>by rw [List.mem_singleton] at he; subst he; exact ⟨fun _=>rfl,fun i v hv=>by simp at hv⟩,by simp⟩,
  fun ad ⟨e,he,i,hi,_⟩=>by rw [List.mem_singleton] at he; subst he; simp at hi⟩)
theorem Sat.re {a:Act} {w:World} {d:Nat} {v v':Value} (hs:Sat C m L a w) (hd:lk m d=some v) (hv:v=v'):Sat C ((d,v') :: m) L a w :=
 ⟨hs.defers,hs.size,fun t u ht=>by
  simp only [lk] at ht
  cases hb:Nat.beq d t with
  | true =>
   simp only [hb,Option.some.injEq] at ht
   have:=Nat.eq_of_beq_eq_true hb
   subst this; subst ht; subst hv
   exact hs.slots d _ hd
  | false=>simp only [hb] at ht; exact hs.slots t u ht,hs.step,hs.ro⟩
variable {i:Nat}
theorem KC (h:TL C ops Q l m (⟨none,[]⟩ :: L)):TL C ops Q l m L:=fun a w hs=>h a w hs.noneE
end
section
variable {α:Type} [Inhabited α] {n s:Nat} {g:α → List Value} {f:α → Value}
theorem AQ {l sp:List α} {i:Nat} {x:α} (h:i<l.length):((l++sp).map f).set i (f x)=(l.set i x++sp).map f:=by
 rw [I1,List.set_append_left _ _ h]
theorem xV (hg : ∀ a,(g a).length=s) (l sp:List α) (i k:Nat) (x:α) (v:Value) (hi:i<l.length) (hk:k<s) (h:(g (lg l i)).set k v=g x):(eF g (l++sp)).set (i * s+k) v=eF g (l.set i x++sp):=by
 rw [Au hg (l++sp) i k x v (Si hi) hk (by rw [FR hi]; exact h),List.set_append_left _ _ hi]
end
end Go.Kx
end

section
namespace Go.Kx
open Go
set_option linter.unusedSectionVars false
def R5 (A:Y6) (c lo b s:Nat):Y6:=if c=lo then sh A (b * s) else sh A (lo * s)
@[reducible] def vw (A:Y6) (c lo hi b s:Nat):Value:=sl (R5 A c lo b s) (hi - lo) (c - lo)
theorem uu {A:Y6}:sh A 0=A:=by cases A <;> simp [sh]
theorem sG {A:Y6} {n c:Nat} (s:Nat):sl A n c=vw A c 0 n 0 s:=by
 simp [vw,R5,uu]
theorem bn {A:Y6} {c l h:Nat} (s:Nat):sl (J9 A c l s) (h - l) (c - l)=vw A c l h 0 s:=by
 unfold vw R5 J9
 split <;> simp [uu]
theorem acf {A:Y6} {c lo b s l h hi':Nat} (hl:l≤c - lo) (hh:lo+h=hi'):sl (J9 (R5 A c lo b s) (c - lo) l s) (h - l) (c - lo - l)=vw A c (lo+l) hi' (if c=lo then b else lo) s:=by
 have e:J9 (R5 A c lo b s) (c - lo) l s=R5 A c (lo+l) (if c=lo then b else lo) s:=by
  unfold J9 R5
  by_cases h1:c=lo
  ·have:l=0:=by omega
   subst h1; subst this
   simp
  ·rw [if_neg h1,if_neg h1]
   by_cases h2:c - lo=l
   ·rw [if_pos h2]
    by_cases h3:c=lo+l
    ·rw [if_pos h3]
    ·rw [if_neg h3]
     have:l=0:=by omega
     subst this; simp
   ·rw [if_neg h2]
    by_cases h3:c=lo+l
    ·omega
    ·rw [if_neg h3,dV,Nat.add_mul]
 unfold vw
 rw [e]
 subst hh
 have e1:h - l=lo+h - (lo+l):=by omega
 have e2:c - lo - l=c - (lo+l):=by omega
 rw [e1,e2]
theorem ad2 {A:Y6} {c c' lo hi b s:Nat} (h:c=c'):vw A c lo hi b s=vw A c' lo hi b s:=by rw [h]
section
variable {C:Ctx} {m:Sl} {L:Mem} {dst:Option Tmp} {ty:TypeId} {pos:String} {af:Array Edge} {gd:Option (Nat × Bool)}
theorem t_ {α:Type} {g:α → List Value} {s:Nat} : ∀ xs:List α,flat (xs.map fun x=>(s,g x))=eF g xs
 | []=>rfl
 | x :: r=>by
  have ih:=t_ (g:=g) (s:=s) r
  rw [List.map_cons,QZ,ih]; rfl
theorem yu {s:Nat} {ze:List Value} : ∀ n:Nat,flat (List.replicate n (s,ze))=(List.replicate n ze).flatten
 | 0=>rfl
 | n+1=>by
  have ih:=yu (s:=s) (ze:=ze) n
  rw [List.replicate_succ,QZ,ih]; rfl
theorem sN {α:Type} {g:α → List Value} {n:Nat} {place:Nat → Option (Nat × Nat)} {ze:List Value} {pv:List (Nat × Value)} {xs:List α} (s:Nat)
  (h:KW place (flat (List.replicate n (s,ze))) pv=some (flat (xs.map fun x=>(s,g x)))):KW place ((List.replicate n ze).flatten) pv=some (eF g xs):=by
 rw [← yu (s:=s), ← t_ (s:=s)]; exact h
theorem KE {x:Operand} {lo hi:Option Operand} {A:Y6} {n c:Nat} {t e:TypeId} {inf:TypeInfo} {s l h:Nat} (hx:ev m x=some (sl A n c)) (hu:C.P.underlying t=some (.slice e))
  (hi':C.P.info? e=some inf) (hsz:inf.size=s) (hlo:OZ m lo 0 l) (hhi:OZ m hi n h) (h1:l≤h) (h2:h≤c) :
  Ou C ⟨dst, .slice t x lo hi none,ty,pos,af,gd⟩ m L (vw A c l h 0 s):=by
 rw [← bn]
 exact Bg hx hu hi' hsz hlo hhi h1 h2
theorem Ck {x:Operand} {lo hi:Option Operand} {A:Y6} {c la ha b hb:Nat} {t e:TypeId} {inf:TypeInfo} {s l h:Nat} (hx:ev m x=some (vw A c la ha b s)) (hu:C.P.underlying t=some (.slice e))
  (hi':C.P.info? e=some inf) (hsz:inf.size=s) (hlo:OZ m lo 0 l) (hhi:OZ m hi (ha - la) h) (h1:l≤h) (h2:h≤ha - la) (hc:ha≤c) (hh:la+h=hb) :
  Ou C ⟨dst, .slice t x lo hi none,ty,pos,af,gd⟩ m L (vw A c (la+l) hb (if c=la then b else la) s):=by
 rw [← acf (by omega) hh]
 exact Bg hx hu hi' hsz hlo hhi h1 (by omega)
theorem D8 {lo hi len:Nat} {i:Int} (h1:i<((hi - lo:Nat):Int)) (h0:0≤i) (h:hi≤len):lo+i.toNat<len:=by omega
theorem vT {α:Type} {n:Nat} {V:Vector α n}:V.toList.length=n:=by simp
theorem aaC {A:Y6} {Db:Str} {c lo hi b:Nat} (hs:Src C L ⟨A,e8 Db⟩) (h2:hi≤c):Src C L ⟨R5 A c lo b 1,e8 (sub Db lo hi)⟩:=by
 unfold R5
 split
 ·have:hi - lo=0:=by omega
  have e:sub Db lo hi=[]:=by simp [sub,this]
  rw [e]
  exact fun w _ _=>⟨fun _=>rfl,fun i v hv=>by simp [e8] at hv⟩
 ·have:=hs.part (lo * 1) (hi - lo)
  simpa [sub,e8,List.map_take,List.map_drop] using this
theorem aQ {Qf R:Mem} {A:Y6} {Db:Str} {c lo hi b:Nat} (hs:QH C Qf R ⟨A,e8 Db⟩) (h2:hi≤c):QH C Qf R ⟨R5 A c lo b 1,e8 (sub Db lo hi)⟩:=by
 unfold R5
 split
 ·have:hi - lo=0:=by omega
  have e:sub Db lo hi=[]:=by simp [sub,this]
  rw [e]
  exact fun w hs hr=>⟨⟨fun _=>rfl,fun i v hv=>by simp [e8] at hv⟩,fun f hf i j hi hj=>by simp [e8] at hj⟩
 ·have:=hs.part (lo * 1) (hi - lo)
  simpa [sub,e8,List.map_take,List.map_drop] using this
theorem au {c lo hi:Nat} {s:Str} (h:hi≤s.length) (h2:hi≤c):(sub s lo hi).length≤c - lo:=by
 rw [WA h]; omega
theorem iq {A:Y6} {a b:Nat} (h:A ≠ none):ptr (sh A a) b=ptr A (a+b):=by
 cases A with
 | none=>exact absurd rfl h
 | some p=>simp [ptr,sh,loc,bk,EY,Nat.add_assoc]
theorem sS {x ix:Operand} {A:Y6} {c lo hi b s k:Nat} {kd:IntKind} {i:Int} {t e:TypeId} {inf:TypeInfo} {cs:List Value} (hx:ev m x=some (vw A c lo hi b s)) (hi':ev m ix=some (.int kd i))
  (hu:C.P.underlying t=some (.slice e)) (hs':C.P.info? e=some inf) (hsz:inf.size=s) (hsrc:Src C L ⟨A,cs⟩) (hne:cs ≠ []) (h0:0≤i) (h1:i<((hi - lo:Nat):Int)) (hc:hi≤c) (hk:(lo+i.toNat) * s=k) :
  Ou C ⟨dst, .indexAddr t x ix,ty,pos,af,gd⟩ m L (ptr A k):=fun a w hs=>by
 have hA:A ≠ none:=fun h=>hne ((hsrc w hs.step hs.ro).1 h)
 have e1:R5 A c lo b s=sh A (lo * s):=by
  unfold R5
  rw [if_neg (by omega)]
 have h:=RQ (C:=C) (L:=L) (dst:=dst) (ty:=ty) (pos:=pos) (af:=af) (gd:=gd) (k:=i.toNat * s) (A:=R5 A c lo b s) hx hi' hu hs' hsz (fun _ hn=>by rw [e1] at hn; cases A with | none=>exact hA rfl | some p=>simp [sh] at hn) h0 h1 rfl a w hs
 rw [e1,iq hA, ← Nat.add_mul,hk] at h
 exact h
end
section
variable {C:Ctx} {m:Sl} {L:Mem} {Q:Exit → Act → World → Prop} {c:Code} {α:Type}
theorem dW {d:Nat} {v v':Value} (hd:lk m d=some v) (hv:v=v') (h:TC C c Q ((d,v') :: m) L):TC C c Q m L:=fun a w hs=>h a w (hs.re hd hv)
theorem VG {A:Y6} {l l' sp:List α} (h:l'.length=l.length):sl A l.length (l++sp).length=sl A l'.length (l'++sp).length:=by
 simp [h]
theorem Rf {A:Y6} {l l' sp:List α} {i:Nat} {x:α} (h:l.set i x=l'):sl A l.length (l++sp).length=sl A l'.length (l'++sp).length:=by
 subst h; simp
theorem g_ {l l' sp:List α} {i:Nat} {x:α} (h:l.set i x=l'):(l++sp).length=(l'++sp).length:=by
 subst h; simp
end
end Go.Kx
end

section
namespace Go.Kx
open Go
inductive Er where
 | nil
 | no (n:Int)
 | wr (o:Int) (i:Er)
def Er.isNil:Er → Bool
 | .nil=>true
 | _=>false
def Er.tell:Er → Int → Int
 | .nil,d=>d
 | .no n,_=>n
 | .wr o _,_=>o
def vE:Er → Value
 | .nil => .nilIface
 | .no n => .iface 36 (vi n)
 | .wr o i => .iface 179 (.agg #[vi o,vE i])
@[reducible] def eE (l:List Er):List Value:=l.map vE
def vo:Value := .iface 230 (.agg #[.pointer (some ⟨1,153,none⟩)])
end Go.Kx
end
