/-
  Part 3 of the proof of what several laws share.
-/
import Derived.OrdersHeld
import Derived.Test.YtkgeoekcnlgfnaaGreatDoorKh2
set_option linter.unusedVariables false
set_option linter.unusedSimpArgs false
section
namespace Go.Kx
open Go
set_option linter.unusedSectionVars false
section
variable {α:Type} [Inhabited α] {f:α → Value} {n k i:Nat}
theorem UL {l:List α} (h:k<l.length):(l.map f)[k]? = some (f (lg l k)):=by
 simp [lg,h]
theorem YL {V:Vector α n} (h:k<n):(V.toList.map f)[k]? = some (f (vg V k)):=by
 simp [vg,h]
theorem I1 {l:List α} {x:α}:(l.map f).set k (f x)=(l.set k x).map f:=by simp [List.map_set]
theorem Af {V:Vector α n} {x:α}:(vp V k x).toList=V.toList.set k x:=by
 simp [vp,Vector.toList,Array.toList_setIfInBounds]
theorem VR {V:Vector α n} {x:α}:(V.toList.map f).set k (f x)=(vp V k x).toList.map f:=by rw [Af,List.map_set]
@[reducible] def eF (g:α → List Value) (l:List α):List Value:=(l.map g).flatten
theorem UB {g:α → List Value} {s:Nat} (hg : ∀ a,(g a).length=s) : ∀ l:List α,(eF g l).length=l.length * s
 | []=>by simp [eF]
 | a :: l=>by simp [eF] at *; simp [hg,UB hg l,Nat.succ_mul,Nat.add_comm]; exact (by have:=UB hg l; simp [eF] at this; omega)
theorem UM {g:α → List Value} {s:Nat} (hg : ∀ a,(g a).length=s) : ∀ (l:List α) (i k:Nat),i<l.length → k<s → (eF g l)[i * s+k]? = (g (lg l i))[k]?
 | [],i,k,hi,_=>by simp at hi
 | a :: l,0,k,_,hk=>by
  simp only [eF,List.map_cons,List.flatten_cons,Nat.zero_mul,Nat.zero_add]
  rw [List.getElem?_append_left (by rw [hg]; exact hk)]
  simp [lg]
 | a :: l,i+1,k,hi,hk=>by
  have ih:=UM hg l i k (by simpa using hi) hk
  simp only [eF,List.map_cons,List.flatten_cons]
  rw [List.getElem?_append_right (by rw [hg,Nat.succ_mul]; omega),hg]
  have e:(i+1) * s+k - s=i * s+k:=by rw [Nat.succ_mul]; omega
  rw [e]
  simpa [eF,lg] using ih
theorem RJ {g:α → List Value} {s:Nat} (hg : ∀ a,(g a).length=s) : ∀ (l:List α) (i:Nat),i<l.length → ((eF g l).drop (i * s)).take s=g (lg l i)
 | [],i,hi=>by simp at hi
 | a :: l,0,_=>by
  simp only [eF,List.map_cons,List.flatten_cons,Nat.zero_mul,List.drop_zero]
  rw [List.take_append_of_le_length (by rw [hg]; exact Nat.le_refl _),List.take_of_length_le (by rw [hg]; exact Nat.le_refl _)]
  simp [lg]
 | a :: l,i+1,hi=>by
  have ih:=RJ hg l i (by simpa using hi)
  simp only [eF,List.map_cons,List.flatten_cons]
  have e:(i+1) * s=s+i * s:=by rw [Nat.succ_mul]; omega
  have e2:(g a++(l.map g).flatten).drop s=(l.map g).flatten:=by
   have:=hg a
   rw [List.drop_append_of_le_length (by omega),List.drop_of_length_le (by omega),List.nil_append]
  rw [e, ← List.drop_drop,e2]
  simpa [eF,lg] using ih
theorem Au {g:α → List Value} {s:Nat} (hg : ∀ a,(g a).length=s) : ∀ (l:List α) (i k:Nat) (x:α) (v:Value),i<l.length → k<s → (g (lg l i)).set k v=g x → (eF g l).set (i * s+k) v=eF g (l.set i x)
 | [],i,k,_,_,hi,_,_=>by simp at hi
 | a :: l,0,k,x,v,_,hk,h=>by
  simp only [eF,List.map_cons,List.flatten_cons,Nat.zero_mul,Nat.zero_add,List.set_cons_zero]
  rw [List.set_append_left _ _ (by rw [hg]; exact hk)]
  have h':(g a).set k v=g x:=by simpa [lg] using h
  rw [h']
 | a :: l,i+1,k,x,v,hi,hk,h=>by
  have ih:=Au hg l i k x v (by simpa using hi) hk (by simpa [lg] using h)
  simp only [eF,List.map_cons,List.flatten_cons,List.set_cons_succ]
  rw [List.set_append_right _ _ (by rw [hg,Nat.succ_mul]; omega),hg]
  have e:(i+1) * s+k - s=i * s+k:=by rw [Nat.succ_mul]; omega
  rw [e]
  simpa [eF] using ih
end
theorem toNat_lt {i:Int} {n:Nat} (h0:0≤i) (h1:i<n):i.toNat<n:=by omega
theorem Tz (n:Nat):0+n * 1=n:=by omega
theorem k1 (o n:Nat):o+n * 1=o+n:=by omega
theorem k0 (n s:Nat):0+n * s=n * s:=by omega
theorem JZ (n:Nat):n * 1=n:=by omega
theorem zb {n:Nat} {k:Nat} (a:BitVec n) (h:2 ^ n=k):(a.toNat:Int)<k:=by have:=a.isLt; omega
def Ku (cs:List Value):Nat → List Value → List Value
 | _,[]=>cs
 | o,v :: r=>Ku (cs.set o v) (o+1) r
theorem LC : ∀ (vs cs:List Value) (o:Nat),o+vs.length≤cs.length → Ku cs o vs=splice cs o vs
 | [],cs,o,_=>by simp [Ku,splice]
 | v :: r,cs,o,h=>by
  simp only [List.length_cons] at h
  rw [Ku,LC r (cs.set o v) (o+1) (by simp; omega)]
  simp only [splice,List.length_cons]
  have h1:(cs.set o v).take (o+1)=cs.take o++[v]:=by
   rw [List.take_succ_eq_append_getElem (by simp; omega),List.take_set_of_le (Nat.le_refl _)]
   simp
  have h2:(cs.set o v).drop (o+1+r.length)=cs.drop (o+(r.length+1)):=by
   rw [List.drop_set_of_lt (by omega)]; congr 1; omega
  rw [h1,h2]
  simp
theorem DF {α:Type} {z c:List α} (h:c.length=z.length):splice z 0 c=c:=by simp [splice,h]
def S_ (vs:List Value):Prop := ∀ v ∈ vs,v.oneCell'=true
theorem S_.map {α:Type} {f:α → Value} (hf : ∀ a,(f a).oneCell'=true) (l:List α):S_ (l.map f):=fun v hv=>by
 obtain ⟨a,_,rfl⟩:=List.mem_map.1 hv; exact hf a
theorem S_.app {a b:List Value} (h1:S_ a) (h2:S_ b):S_ (a++b):=fun v hv=>by
 rcases List.mem_append.1 hv with h | h
 ·exact h1 v h
 ·exact h2 v h
theorem S_.nil:S_ []:=fun v hv=>by cases hv
theorem S_.cons {v:Value} {b:List Value} (h1:v.oneCell'=true) (h2:S_ b):S_ (v :: b):=fun u hu=>by
 rcases List.mem_cons.1 hu with rfl | h
 ·exact h1
 ·exact h2 u h
theorem S_.eF {α:Type} [Inhabited α] {g:α → List Value} (hg : ∀ a,S_ (g a)) (l:List α):S_ (Kx.eF g l):=fun v hv=>by
 obtain ⟨x,hx,hv⟩:=List.mem_flatten.1 hv
 obtain ⟨a,_,rfl⟩:=List.mem_map.1 hx
 exact hg a v hv
theorem MU {P:Program} {A:Y6} {o:Nat} : ∀ (vs:List Value) (i:Nat) (cs:List Value) (w:World),NZ w [⟨A,cs⟩] → o+i+vs.length≤cs.length → S_ vs →
  ∃ w',(storeCells (loc A o) vs i).run P w = .ok () w'∧Step w [⟨A,cs⟩] w' [⟨A,Ku cs (o+i) vs⟩]
 | [],i,cs,w,hm,_,_=>⟨w,by simp [storeCells],Step.refl hm⟩
 | v :: r,i,cs,w,hm,hl,h1=>by
  simp only [List.length_cons] at hl
  have hlt:o+i<cs.length:=by omega
  have hc:=(hm.1 _ (List.mem_singleton.2 rfl)).2 (o+i) _ (List.getElem?_eq_getElem hlt)
  have hst:=run_store (P:=P) hc.1 hc.2 (h1 v (List.mem_cons_self ..))
  have hstep:=Step.set (e:=⟨A,cs⟩) (i:=o+i) v hm hlt
  obtain ⟨w',hr,hs'⟩:=MU (P:=P) (A:=A) (o:=o) r (i+1) (cs.set (o+i) v) (w.setCell (loc A (o+i)) v) hstep.ok (by rw [List.length_set]; omega) (fun u hu=>h1 u (List.mem_cons_of_mem _ hu))
  refine ⟨w',?_,?_⟩
  ·rw [storeCells,Ob,Sem.run_bind,hst]
   exact hr
  ·have:=Step.frame (R:=[]) (by simpa using hstep) (by simpa using hs')
   simpa [Ku,Nat.add_assoc] using this
section
variable {C:Ctx} {m:Sl} {L:Mem} {dst:Option Tmp} {ty:TypeId} {pos:String} {af:Array Edge} {gd:Option (Nat × Bool)}
theorem KM {w:World} {A:Y6} {o j:Nat} {cs vs:List Value} (hs:Step C.w0 C.L0 w L) (hj:L[j]? = some ⟨A,cs⟩) (ho:o+vs.length≤cs.length) (h1:S_ vs) :
  ∃ w',(storeCells (loc A o) vs).run C.P w = .ok () w'∧Step C.w0 C.L0 w' (L.set j ⟨A,splice cs o vs⟩):=by
 have hp:L.Perm (⟨A,cs⟩ :: L.eraseIdx j):=QL L j _ hj
 have h2:Step C.w0 C.L0 w ([⟨A,cs⟩]++L.eraseIdx j):=hs.perm hp
 obtain ⟨w',hr,hs'⟩:=MU (P:=C.P) (o:=o) vs 0 cs w h2.ok.left (by omega) h1
 refine ⟨w',hr,?_⟩
 have h3:=h2.frame hs'
 rw [Nat.add_zero,LC _ _ _ ho] at h3
 have hlt:j<L.length:=(List.getElem?_eq_some_iff.1 hj).1
 have h4:(L.set j ⟨A,splice cs o vs⟩).Perm (⟨A,splice cs o vs⟩ :: (L.set j ⟨A,splice cs o vs⟩).eraseIdx j):=QL _ j _ (by simp [hlt])
 rw [List.eraseIdx_set_eq] at h4
 exact h3.perm h4.symm
theorem vL {x y:Operand} {A:Y6} {o j n:Nat} {cs cs' vs:List Value} {t:TypeId} {inf:TypeInfo} (hx:ev m x=some (ptr A o)) (hy:ev m y=some (.agg vs.toArray))
  (hi:C.P.info? t=some inf) (hn:inf.size=n) (hl:vs.length=n) (hv:S_ vs)
  (hj:L[j]? = some ⟨A,cs⟩) (ho:o+vs.length≤cs.length) (hcs:splice cs o vs=cs') :
  OP C ⟨dst, .store t x y,ty,pos,af,gd⟩ m L (Γ:=Unit) (fun _=>undef) (fun _=>L.set j ⟨A,cs'⟩):=fun a w hs Q K hK=>by
 subst hcs
 obtain ⟨w',hr,hs'⟩:=KM hs.step hj ho hv
 have hrun:(execOp a.eval ⟨dst, .store t x y,ty,pos,af,gd⟩).run C.P w = .ok .skip w':=by
  simp [execOp,hs.slots.ev hx,hs.slots.ev hy,Instr.storeAt,Instr.sureAddr,ptr,Sem.run_bind,storeVar,sizeOf,typeInfo,hi,hn,hl,Value.cells,hr]
 unfold Oper.wp
 rw [hrun]
 exact hK () w' hs'
theorem nM {x y:Operand} {A B:Y6} {d s c c2 j o k:Nat} {cs cs' ds:List Value} {t e t2:TypeId} {inf:TypeInfo} {sz:Nat} (hx:ev m x=some (sl (sh A o) d c)) (hy:ev m y=some (sl B s c2)) (hA:A ≠ none)
  (hu:C.P.underlying t=some (.slice e)) (hi:C.P.info? e=some inf) (hsz:inf.size=sz)
  (hsrc:Src C L ⟨B,ds⟩) (hk:Nat.min s d=k) (hl:k * sz≤ds.length) (hv:S_ ds) (hj:L[j]? = some ⟨A,cs⟩) (ho:o+k * sz≤cs.length) (hcs:splice cs o (ds.take (k * sz))=cs') :
  OP C ⟨dst, .call ⟨.builtin .copy, #[x,y], #[t,t2]⟩,ty,pos,af,gd⟩ m L (Γ:=Unit) (fun _=>vi k) (fun _=>L.set j ⟨A,cs'⟩):=fun a w hs Q K hK=>by
 subst hcs
 cases A with
 | none=>exact absurd rfl hA
 | some p =>
 have hlen:(ds.take (k * sz)).length=k * sz:=by simp; omega
 obtain ⟨w',hr,hs'⟩:=KM (C:=C) (vs:=ds.take (k * sz)) hs.step hj (by rw [hlen]; exact ho) (fun v hv'=>hv v (List.mem_of_mem_take hv'))
 have hH:=hsrc w hs.step hs.ro
 have hfc:(Builtin.firstCells sz k (sl B s c2)).run C.P w = .ok (ds.take (k * sz)).toArray w:=by
  cases B with
  | none =>
   have:ds=[]:=hH.1 rfl
   subst this
   simp [Builtin.firstCells,sl]
  | some q =>
   have h1:=run_loadCells_list (P:=C.P) w (loc (some q) 0) (ds.take (k * sz)) (fun i v hv'=>by
    rw [List.getElem?_take] at hv'
    split at hv'
    ·rw [Ob,Nat.zero_add]; exact hH.2 i v hv'
    ·cases hv')
   rw [hlen] at h1
   simpa [Builtin.firstCells,sl,loc,bk,EY] using h1
 have hdst:(sl (sh (some p) o) d c) = .slice (some (loc (some p) o)) d c:=by simp [sl,sh,loc,bk,EY]
 have hk':s.min d=k:=hk
 have hrun:(execOp a.eval ⟨dst, .call ⟨.builtin .copy, #[x,y], #[t,t2]⟩,ty,pos,af,gd⟩).run C.P w = .ok (.value (vi k)) w':=by
  have hlo:(Builtin.lenOf (sl B s c2)).run C.P w = .ok s w:=by simp [Builtin.lenOf,sl]
  have hargs:(#[x,y].map a.eval) = #[.slice (some (loc (some p) o)) d c,sl B s c2]:=by simp [hs.slots.ev hx,hs.slots.ev hy,hdst]
  simp only [execOp,resolve,hargs]
  simp [invoke,builtin,Builtin.copy_,Sem.run_bind,run_underlying hu,hlo,hk',sizeOf,typeInfo,hi,hsz,hfc,hr,goInt,vi]
 unfold Oper.wp
 rw [hrun]
 exact hK () w' hs'
theorem BP {x y:Operand} {A:Y6} {d c j o k:Nat} {cs cs':List Value} {s:Str} {t e t2:TypeId} {inf:TypeInfo} (hx:ev m x=some (sl (sh A o) d c)) (hy:ev m y=some (vs s)) (hA:A ≠ none)
  (hu:C.P.underlying t=some (.slice e)) (hi:C.P.info? e=some inf)
  (hk:Nat.min s.length d=k) (hj:L[j]? = some ⟨A,cs⟩) (ho:o+k≤cs.length) (hcs:splice cs o (e8 (s.take k))=cs') :
  OP C ⟨dst, .call ⟨.builtin .copy, #[x,y], #[t,t2]⟩,ty,pos,af,gd⟩ m L (Γ:=Unit) (fun _=>vi k) (fun _=>L.set j ⟨A,cs'⟩):=fun a w hs Q K hK=>by
 subst hcs
 cases A with
 | none=>exact absurd rfl hA
 | some p =>
 have hks:k≤s.length:=by rw [← hk]; exact Nat.min_le_left _ _
 have hlen:(e8 (s.take k)).length=k:=by rw [Cq,List.length_take,Nat.min_eq_left hks]
 obtain ⟨w',hr,hs'⟩:=KM (C:=C) (vs:=e8 (s.take k)) hs.step hj (by rw [hlen]; exact ho) (S_.map (fun _=>rfl) _)
 have hfc:(Builtin.firstCells inf.size k (vs s)).run C.P w = .ok (e8 (s.take k)).toArray w:=by
  have:((bytes s).extract 0 k).data.map (fun b=>Value.int .u8 (b.toNat:Int))=(e8 (s.take k)).toArray:=by
   rw [Io]
   apply Array.toList_inj.1
   simp only [bytes,e8,List.drop_zero,Nat.sub_zero,List.map_take]
   simp only [List.map_toArray,List.map_map, ← List.map_take]
   rfl
  simp only [Builtin.firstCells,vs,this]
  simp
 have hdst:(sl (sh (some p) o) d c) = .slice (some (loc (some p) o)) d c:=by simp [sl,sh,loc,bk,EY]
 have hrun:(execOp a.eval ⟨dst, .call ⟨.builtin .copy, #[x,y], #[t,t2]⟩,ty,pos,af,gd⟩).run C.P w = .ok (.value (vi k)) w':=by
  have hlo:(Builtin.lenOf (vs s)).run C.P w = .ok s.length w:=by simp [Builtin.lenOf,vs,OQ]
  have hargs:(#[x,y].map a.eval) = #[.slice (some (loc (some p) o)) d c,vs s]:=by simp [hs.slots.ev hx,hs.slots.ev hy,hdst]
  have hk':s.length.min d=k:=hk
  simp only [execOp,resolve,hargs]
  simp [invoke,builtin,Builtin.copy_,Sem.run_bind,run_underlying hu,hlo,hk',sizeOf,typeInfo,hi,hfc,goInt,vi, -List.map_take]
  rw [hr]
  rfl
 unfold Oper.wp
 rw [hrun]
 exact hK () w' hs'
end
end Go.Kx
end

section
namespace Go.Kx
open Go
set_option linter.unusedSectionVars false
abbrev Parts:=List (Nat × List Value)
def flat:Parts → List Value
 | []=>[]
 | [p]=>p.2
 | p :: r=>p.2++flat r
theorem QZ (p:Nat × List Value) (r:Parts):flat (p :: r)=p.2++flat r:=by
 cases r with
 | nil=>simp [flat]
 | cons q r=>rfl
def ents (b:Nat):Nat → Parts → Mem
 | _,[]=>[]
 | o,p :: r=>⟨some (b,o),p.2⟩ :: ents b (o+p.1) r
def R9:Parts → Prop
 | []=>True
 | p :: r=>p.2.length=p.1∧R9 r
theorem Step.split {w0 w:World} {L0 L:Mem} {b o:Nat} {c1 c2:List Value} (h:Step w0 L0 w (⟨some (b,o),c1++c2⟩ :: L)) :
  Step w0 L0 w (⟨some (b,o),c1⟩ :: ⟨some (b,o+c1.length),c2⟩ :: L):=by
 have hok:=(h.ok.left (A:=[⟨some (b,o),c1++c2⟩]) (B:=L)).1 _ (List.mem_singleton.2 rfl)
 have hloc : ∀ i,loc (some (b,o+c1.length)) i=loc (some (b,o)) (c1.length+i):=fun i=>by simp [loc,bk,EY,Nat.add_assoc]
 refine Step.frame (A:=[⟨some (b,o),c1++c2⟩]) (R:=L) (B:=[⟨some (b,o),c1⟩,⟨some (b,o+c1.length),c2⟩]) h ⟨jX.refl _ _,⟨?_,?_⟩,?_⟩
 ·intro e he
  rcases List.mem_cons.1 he with rfl | he
  ·exact ⟨(fun h=>by cases h),fun i v hv=>hok.2 i v (by
    have hi:=(List.getElem?_eq_some_iff.1 hv).1
    show (c1++c2)[i]? = _
    rw [List.getElem?_append_left hi]; exact hv)⟩
  ·rw [List.mem_singleton] at he
   subst he
   refine ⟨(fun h=>by cases h),fun i v hv=>?_⟩
   show w.cell? (loc (some (b,o+c1.length)) i)=_∧w.frozen? (loc (some (b,o+c1.length)) i)=_
   rw [hloc]
   exact hok.2 (c1.length+i) v (by
    show (c1++c2)[c1.length+i]? = _
    rw [List.getElem?_append_right (by omega)]; simpa using hv)
 ·simp only [List.pairwise_cons,List.mem_singleton,List.not_mem_nil,false_implies,implies_true,List.Pairwise.nil,and_true,forall_eq]
  intro i j hi hj heq
  simp only at hi hj heq
  rw [hloc] at heq
  simp only [loc,Addr.mk.injEq] at heq
  omega
 ·rintro a ⟨e,he,i,hi,rfl⟩
  refine .inr ⟨_,List.mem_singleton.2 rfl,?_⟩
  rcases List.mem_cons.1 he with rfl | he
  ·exact ⟨i,by simp only [List.length_append]; simp only at hi; omega,rfl⟩
  ·rw [List.mem_singleton] at he
   subst he
   exact ⟨c1.length+i,by simp only [List.length_append]; simp only at hi; omega,hloc i⟩
theorem Step.ents {w0 w:World} {L0 L:Mem} {b:Nat} : ∀ (ps:Parts) (o:Nat),R9 ps → Step w0 L0 w (⟨some (b,o),flat ps⟩ :: L) → Step w0 L0 w (Kx.ents b o ps++L)
 | [],o,_,h=>Step.left (B:=[⟨some (b,o),flat []⟩]) (h.perm (List.perm_append_comm (l₁:=[(⟨some (b,o),flat []⟩:Ent)]) (l₂:=L)))
 | p :: r,o,hp,h=>by
  rw [QZ] at h
  have h1:=h.split
  rw [hp.1] at h1
  have h2:Step w0 L0 w (⟨some (b,o+p.1),flat r⟩ :: ⟨some (b,o),p.2⟩ :: L):=h1.perm (List.Perm.swap ..)
  have h3:=Step.ents r (o+p.1) hp.2 h2
  refine h3.perm ?_
  simp only [Kx.ents,List.cons_append]
  exact List.perm_middle
theorem Ac {C:Ctx} {L:Mem} {b:Nat} : ∀ (ps:Parts) (o:Nat),R9 ps → (∀ e ∈ Kx.ents b o ps,Src C L e) → Src C L ⟨some (b,o),flat ps⟩
 | [],o,_,_=>fun w hs hr=>⟨(fun h=>by cases h),fun i v hv=>by simp [flat] at hv⟩
 | p :: r,o,hp,h=>by
  rw [QZ]
  refine Src.join hp.1 (h _ (List.mem_cons_self ..)) ?_
  have h2:=Ac (C:=C) (L:=L) (b:=b) r (o+p.1) hp.2 (fun e he=>h e (List.mem_cons_of_mem _ he))
  exact h2
def Ak (C:Ctx) (L:Mem):Mem → Prop
 | []=>True
 | e :: r=>Src C L e∧Ak C L r
theorem Ak.all {C:Ctx} {L:Mem} : ∀ {M:Mem},Ak C L M → ∀ e ∈ M,Src C L e
 | [],_,e,he=>by cases he
 | x :: r,h,e,he=>by
  rcases List.mem_cons.1 he with rfl | h1
  ·exact h.1
  ·exact Ak.all h.2 e h1
def Wo (i:TypeInfo):Option (List Value):=i.zero.map fun z=>z.cells.toList
section
variable {C:Ctx} {m:Sl} {L:Mem} {dst:Option Tmp} {ty:TypeId} {pos:String} {af:Array Edge} {gd:Option (Nat × Bool)}
theorem Wh {e:TypeId} {inf:TypeInfo} (ps:Parts) (hi:C.P.info? e=some inf) (hz:Wo inf=some (flat ps)) (hp:R9 ps) :
  OP C ⟨dst, .alloc e,ty,pos,af,gd⟩ m L (Γ:=Nat) (fun b=>ptr (some (b,0)) 0) (fun b=>ents b 0 ps++L):=fun a w hs Q K hK=>by
 cases Ij:inf.zero with
 | none=>simp [Wo,Ij] at hz
 | some z =>
  have hcs:z.cells.toList=flat ps:=by simpa [Wo,Ij] using hz
  exact jU hi Ij hcs a w hs Q K fun g w' h=>hK g w' (Step.ents ps 0 hp h)
theorem UN {x:Operand} {v:Value} {e:TypeId} (ps:Parts) (hx:ev m x=some v) (hcs:v.cells.toList=flat ps) (hp:R9 ps) :
  OP C ⟨dst, .box e x,ty,pos,af,gd⟩ m L (Γ:=Nat) (fun b=>ptr (some (b,0)) 0) (fun b=>ents b 0 ps++L):=fun a w hs Q K hK =>
 abF hx hcs a w hs Q K fun g w' h=>hK g w' (Step.ents ps 0 hp h)
theorem OA {x y:Operand} {t e:TypeId} {inf:TypeInfo} {z:Value} {n c:Int} {n' c':Nat} {cs:List Value} (hx:ev m x=some (vi n)) (hy:ev m y=some (vi c)) (hu:C.P.underlying t=some (.slice e))
  (hi:C.P.info? e=some inf) (hz:inf.zero=some z) (hone:z.cells = #[z]) (hsz:inf.size=1) {B:Nat} (hB:inf.bytes=B) (h0:0≤n) (h1:n≤c) (hb:B * c.toNat≤281474976710656) (hc:c≤4611686018427387904)
  (hn':n.toNat=n') (hc':c.toNat=c') (hcs:List.replicate c' z=cs) :
  OP C ⟨dst, .makeSlice t x y,ty,pos,af,gd⟩ m L (Γ:=Nat) (fun b=>sl (some (b,0)) n' c') (fun b=>⟨some (b,0),cs⟩ :: L):=by
 subst hn' hc' hcs hB
 exact iJ hx hy hu hi hz hone hsz h0 h1 hb hc
theorem eU {x y:Operand} {t e:TypeId} {inf:TypeInfo} {zs:List Value} {n c:Int} {s n' c':Nat} {cs:List Value} (hx:ev m x=some (vi n)) (hy:ev m y=some (vi c)) (hu:C.P.underlying t=some (.slice e))
  (hi:C.P.info? e=some inf) (hz:Wo inf=some zs) (hl:zs.length=s) (oC:Nat.beq s 0=false) (hsz:inf.size=s) {B:Nat} (hB:inf.bytes=B) (h0:0≤n) (h1:n≤c) (hb:B * c.toNat≤281474976710656) (hc:c≤4611686018427387904)
  (hn':n.toNat=n') (hc':c.toNat=c') (hcs:(List.replicate c' zs).flatten=cs) :
  OP C ⟨dst, .makeSlice t x y,ty,pos,af,gd⟩ m L (Γ:=Nat) (fun b=>sl (some (b,0)) n' c') (fun b=>⟨some (b,0),cs⟩ :: L):=by
 subst hn' hc' hcs hB
 cases Ij:inf.zero with
 | none=>simp [Wo,Ij] at hz
 | some z =>
  have hzs:z.cells.toList=zs:=by simpa [Wo,Ij] using hz
  exact jL hx hy hu hi Ij hzs hl (fun h=>by rw [h] at oC; cases oC) hsz h0 h1 hb hc
def KW (place:Nat → Option (Nat × Nat)) (cs:List Value):List (Nat × Value) → Option (List Value)
 | []=>some cs
 | (i,v) :: r=>match place i with
  | none=>none
  | some (o,s)=>match Nat.beq v.cells.toList.length s && Nat.ble (o+s) cs.length with
   | true=>KW place (splice cs o v.cells.toList) r
   | false=>none
theorem BO (off:Nat) : ∀ (l:List Value) (k:Nat) (cs:Array Value),((l.zipIdx k).foldl (fun (cs:Array Value) (p:Value × Nat)=>cs.setIfInBounds (off+p.2) p.1) cs).toList=Ku cs.toList (off+k) l
 | [],k,cs=>by simp [Ku]
 | v :: r,k,cs=>by
  simp only [List.zipIdx_cons,List.foldl_cons,Ku]
  rw [BO off r (k+1)]
  simp [Nat.add_assoc]
theorem EL (place:Nat → Option (Nat × Nat)) : ∀ (ps:List (Nat × Value)) (cs r:List Value),KW place cs ps=some r → Instr.fill place cs.toArray ps=some r.toArray
 | [],cs,r,h=>by simp only [KW,Option.some.injEq] at h; subst h; rfl
 | (i,v) :: ps,cs,r,h=>by
  simp only [KW] at h
  simp only [Instr.fill]
  cases hp:place i with
  | none=>simp [hp] at h
  | some os =>
   obtain ⟨o,s⟩:=os
   simp only [hp] at h
   dsimp only at h ⊢
   cases hb:(Nat.beq v.cells.toList.length s && Nat.ble (o+s) cs.length) with
   | false=>rw [hb] at h; cases h
   | true =>
    rw [hb] at h
    rw [Bool.and_eq_true] at hb
    have h1:v.cells.size=s:=by have:=Nat.eq_of_beq_eq_true hb.1; simpa using this
    have h2:=Nat.le_of_ble_eq_true hb.2
    have h3 : ¬ (v.cells.size ≠ s || o+v.cells.size > cs.toArray.size)=true:=by simp [h1]; omega
    simp only [h3,if_false]
    have e:(v.cells.zipIdx.foldl (fun cs (c,j)=>cs.setIfInBounds (o+j) c) cs.toArray)=(splice cs o v.cells.toList).toArray:=by
     apply Array.toList_inj.1
     have h4:=BO o v.cells.toList 0 cs.toArray
     rw [← Array.foldl_toList,Array.toList_zipIdx]
     refine h4.trans ?_
     rw [Nat.add_zero,LC _ _ _ (by simp; omega)]
    rw [e]
    exact EL place ps _ r h
theorem VJ {t e:TypeId} {ps:List (Nat × Operand)} {pv:List (Nat × Value)} {n s:Nat} {inf ie:TypeInfo} {zs cs:List Value} (hps:evs m (ps.map (·.2))=some (pv.map (·.2))) (yA:ps.map (·.1)=pv.map (·.1))
  (hu:C.P.underlying t=some (.array n e)) (hi:C.P.info? t=some inf) (hie:C.P.info? e=some ie) (hs:ie.size=s) (hz:Wo inf=some zs)
  (hf:KW (fun i=>some (i * s,s)) zs pv=some cs):Ou C ⟨dst, .build t ps.toArray,ty,pos,af,gd⟩ m L (.agg cs.toArray):=fun a w hs'=>by
 have h1:=hs'.slots.evs hps
 have hmap:(ps.toArray.map fun (i,x)=>(i,a.eval x))=pv.toArray:=by
  apply Array.toList_inj.1
  simp only [List.map_toArray,List.toList_toArray]
  apply List.ext_getElem
  ·have:=congrArg List.length yA; simpa using this
  ·intro k k1 k2
   have g1:=congrArg (fun l=>l[k]?) h1
   have g2:=congrArg (fun l=>l[k]?) yA
   simp only [List.length_map] at k1
   simp only [List.getElem?_map] at g1 g2
   rw [List.getElem?_eq_getElem k1,List.getElem?_eq_getElem k2] at g1 g2
   simp only [Option.map_some,Option.some.injEq] at g1 g2
   simp only [List.getElem_map]
   exact Prod.ext g2 g1
 cases Ij:inf.zero with
 | none=>simp [Wo,Ij] at hz
 | some z =>
  have hzs:z.cells=zs.toArray:=by
   have:z.cells.toList=zs:=by simpa [Wo,Ij] using hz
   rw [← this]
  have hfe:=EL _ _ _ _ hf
  simp only [execOp,hmap,Instr.build,zeroValue,typeInfo,Sem.run_bind,program,Sem.run,hi,Ij,Result.andThen_ok,Sem.run_pure,run_underlying hu,sizeOf,hie,hs,hzs,hfe]
theorem Y9 {t:TypeId} {ps:List (Nat × Operand)} {pv:List (Nat × Value)} {inf:TypeInfo} {fs:Array Field} {pl:List (Nat × Nat)} {zs cs:List Value} (hps:evs m (ps.map (·.2))=some (pv.map (·.2))) (yA:ps.map (·.1)=pv.map (·.1))
  (hu:C.P.underlying t=some (.struct fs)) (hi:C.P.info? t=some inf) (hpl : ∀ w,(fs.mapM (m:=Sem) fun f=>do pure (f.offset, ← sizeOf f.type)).run C.P w = .ok pl.toArray w) (hz:Wo inf=some zs)
  (hf:KW (pl.toArray[·]?) zs pv=some cs):Ou C ⟨dst, .build t ps.toArray,ty,pos,af,gd⟩ m L (.agg cs.toArray):=fun a w hs'=>by
 have h1:=hs'.slots.evs hps
 have hmap:(ps.toArray.map fun (i,x)=>(i,a.eval x))=pv.toArray:=by
  apply Array.toList_inj.1
  simp only [List.map_toArray,List.toList_toArray]
  apply List.ext_getElem
  ·have:=congrArg List.length yA; simpa using this
  ·intro k k1 k2
   have g1:=congrArg (fun l=>l[k]?) h1
   have g2:=congrArg (fun l=>l[k]?) yA
   simp only [List.length_map] at k1
   simp only [List.getElem?_map] at g1 g2
   rw [List.getElem?_eq_getElem k1,List.getElem?_eq_getElem k2] at g1 g2
   simp only [Option.map_some,Option.some.injEq] at g1 g2
   simp only [List.getElem_map]
   exact Prod.ext g2 g1
 cases Ij:inf.zero with
 | none=>simp [Wo,Ij] at hz
 | some z =>
  have hzs:z.cells=zs.toArray:=by
   have:z.cells.toList=zs:=by simpa [Wo,Ij] using hz
   rw [← this]
  have hfe:=EL _ _ _ _ hf
  simp only [execOp,hmap,Instr.build,zeroValue,typeInfo,Sem.run_bind,program,Sem.run,hi,Ij,Result.andThen_ok,Sem.run_pure,run_underlying hu,hpl,hzs,hfe]
end
end Go.Kx
namespace Go.Kx
section
variable {C:Ctx} {Q:Exit → Act → World → Prop} {m:Sl} {L:Mem} {c:Code} {id:Nat}
theorem Yv {σ τ Γ Γx:Type} {body:σ → Option (σ ⊕ τ)} (ms:σ → Γ → Sl) (Ls:σ → Γ → Mem) (mx:τ → Γx → Sl) (Lx:τ → Γx → Mem)
  (hb : ∀ s g r,body s=some r → ∀ K:Act → World → Prop,
   (∀ s',r = .inl s' → ∀ g' a w,Sat C (ms s' g') (Ls s' g') a w → K a w) → (∀ t,r = .inr t → ∀ g,TX C Q (.exit id) (mx t g) (Lx t g)) → TC C c (Exit.then K Q) (ms s g) (Ls s g))
  (n:Nat) (s:σ) (g:Γ) (t:τ) (hl:loop body n s=some t) (hx : ∀ g,TX C Q (.exit id) (mx t g) (Lx t g)):TC C (.loop c) Q (ms s g) (Ls s g) :=
 Ai ms Ls (fun t => ∀ g,TX C Q (.exit id) (mx t g) (Lx t g)) hb n s g t hl hx
def mf {τ ρ:Type} (X:τ → Prop) (r0:ρ):τ ⊕ ρ → Prop
 | .inl t=>X t
 | .inr v=>v=r0
theorem U0 {σ τ ρ Γ Γx:Type} {body:σ → Option (σ ⊕ (τ ⊕ ρ))} (ms:σ → Γ → Sl) (Ls:σ → Γ → Mem) (mx:τ → Γx → Sl) (Lx:τ → Γx → Mem) (r0:ρ)
  (hb : ∀ s g r,body s=some r → ∀ K:Act → World → Prop,
   (∀ s',r = .inl s' → ∀ g' a w,Sat C (ms s' g') (Ls s' g') a w → K a w) → (∀ t,r = .inr (.inl t) → ∀ g,TX C Q (.exit id) (mx t g) (Lx t g)) → (∀ v,r = .inr (.inr v) → v=r0) → TC C c (Exit.then K Q) (ms s g) (Ls s g))
  (n:Nat) (s:σ) (g:Γ) (t:τ ⊕ ρ) (hl:loop body n s=some t) (hx:mf (fun t => ∀ g,TX C Q (.exit id) (mx t g) (Lx t g)) r0 t):TC C (.loop c) Q (ms s g) (Ls s g) :=
 Ai ms Ls (mf (fun t => ∀ g,TX C Q (.exit id) (mx t g) (Lx t g)) r0)
  (fun s g r h K hK hE=>hb s g r h K hK (fun t ht=>hE (.inl t) ht) (fun v hv=>hE (.inr v) hv)) n s g t hl hx
theorem kL {σ ρ Γ Γx:Type} {body:σ → Option (σ ⊕ ρ)} (ms:σ → Γ → Sl) (Ls:σ → Γ → Mem) (_:Unit → Γx → Sl) (_:Unit → Γx → Mem) (r0:ρ)
  (hb : ∀ s g r,body s=some r → ∀ K:Act → World → Prop,
   (∀ s',r = .inl s' → ∀ g' a w,Sat C (ms s' g') (Ls s' g') a w → K a w) → True → (∀ v,r = .inr v → v=r0) → TC C c (Exit.then K Q) (ms s g) (Ls s g))
  (n:Nat) (s:σ) (g:Γ) (t:ρ) (hl:loop body n s=some t) (hx:t=r0):TC C (.loop c) Q (ms s g) (Ls s g) :=
 Ai ms Ls (fun v=>v=r0) (fun s g r h K hK hE=>hb s g r h K hK trivial (fun v hv=>hE v hv)) n s g t hl hx
end
end Go.Kx
end

section
namespace Go.Kx
open Go
set_option linter.unusedSectionVars false
section
variable {C:Ctx} {Q:Exit → Act → World → Prop} {m:Sl} {L:Mem} {ops:Array Oper} {l rest:List Oper} {dst:Option Tmp} {ty:TypeId} {pos:String} {af:Array Edge} {gd:Option (Nat × Bool)}
theorem mW {d:Nat} {v v':Value} (hd:lk m d=some v) (hv:v=v') (h:TL C ops Q l ((d,v') :: m) L):TL C ops Q l m L:=fun a w hs =>
 h a w ⟨hs.defers,hs.size,fun t u ht=>by
  simp only [lk] at ht
  cases hb:Nat.beq d t with
  | true =>
   simp only [hb,Option.some.injEq] at ht
   have:=Nat.eq_of_beq_eq_true hb
   subst this; subst ht; subst hv
   exact hs.slots d _ hd
  | false=>simp only [hb] at ht; exact hs.slots t u ht,hs.step,hs.ro⟩
theorem dF {j:Nat} {A:Y6} {cs cs':List Value} (hj:L[j]? = some ⟨A,cs⟩) (hc:cs=cs') (h:TL C ops Q l m (L.set j ⟨A,cs'⟩)):TL C ops Q l m L:=by
 subst hc
 have:L.set j ⟨A,cs⟩=L:=by
  apply List.ext_getElem?
  intro i
  by_cases hi:i=j
  ·subst hi
   rw [List.getElem?_set_self (List.getElem?_eq_some_iff.1 hj).1,hj]
  ·rw [List.getElem?_set_ne (Ne.symm hi)]
 rwa [this] at h
theorem uC {d:Nat} {b:Bool} (hd:lk m d=some (vb b)) (ht:b=true → TL C ops Q l ((d, .bool true) :: m) L) (hf:b=false → TL C ops Q l ((d, .bool false) :: m) L):TL C ops Q l m L:=by
 cases b
 ·exact mW hd rfl (hf rfl)
 ·exact mW hd rfl (ht rfl)
theorem Vs {o:Oper} {d j:Nat} {want:Bool} {oj:Oper} {dj:Nat} (hg:o.guard=some (j,want)) (hd:o.dst=some d) (hN:Nat.blt d C.N=true)
  (hj:ops[j]? = some oj) (hdj:oj.dst=some dj) (hb:lk m dj=some undef)
  (h:TL C ops Q rest ((d,undef) :: m) L):TL C ops Q (o :: rest) m L:=fun a w hs=>by
 have hw:Region.wanted o (yielded ops a.tmps)=false:=by
  have h1:=hs.slots dj _ hb
  simp [Region.wanted,hg,yielded,hj,hdj,h1,undef]
 refine wpList_skip hw (h _ _ ?_)
 rw [hd]
 exact hs.put hN hs.step
theorem mZ {x:Operand} {A:Y6} {o k f:Nat} {t:TypeId} {fs:Array Field} {fd:Field} (hx:ev m x=some (ptr A o)) (hu:C.P.underlying t=some (.struct fs))
  (hf:fs[f]? = some fd) (hk:fd.offset=k) {inf:TypeInfo} (hi:C.P.info? fd.type=some inf) (h0:Nat.beq inf.size 0=false) {v:Value} (hv:ptr A (o+k)=v) :
  Ou C ⟨dst, .fieldAddr t x f,ty,pos,af,gd⟩ m L v:=hv ▸ Vk hx hu hf hk hi h0
theorem YK {x ix:Operand} {A:Y6} {n c s k:Nat} {kd:IntKind} {i:Int} {t e:TypeId} {inf:TypeInfo} {cs:List Value} (hx:ev m x=some (sl A n c)) (hi:ev m ix=some (.int kd i))
  (hu:C.P.underlying t=some (.slice e)) (hs':C.P.info? e=some inf) (hsz:inf.size=s) (hsrc:Src C L ⟨A,cs⟩) (hne:cs ≠ []) (h0:0≤i) (h1:i<n) (hk:i.toNat * s=k) :
  Ou C ⟨dst, .indexAddr t x ix,ty,pos,af,gd⟩ m L (ptr A k):=fun a w hs =>
 RQ hx hi hu hs' hsz (fun _ hA=>hne ((hsrc w hs.step hs.ro).1 hA)) h0 h1 hk a w hs
theorem Wl {α:Type} {n:Nat} {f:α → Value} (V:Vector α n):(V.toList.map f).length=n:=by simp
theorem Uf {α:Type} {f:α → Value} {l:List α} {i:Nat} (h:i<l.length):l.map f ≠ []:=fun h'=>by
 have:=congrArg List.length h'; simp at this; subst this; simp at h
theorem xZ {α:Type} [Inhabited α] {g:α → List Value} {s:Nat} (hg : ∀ a,(g a).length=s) {l:List α} {i k:Nat} (hi:i<l.length) (hk:k<s):i * s+k<(eF g l).length:=by
 rw [UB hg]
 calc i * s+k<i * s+s:=by omega
  _=(i+1) * s:=by rw [Nat.succ_mul]
  _≤l.length * s:=Nat.mul_le_mul_right _ hi
theorem FM {x:Operand} {z:List Value} (hx:ev m x=some (.slice none 0 0)) (hz:z=[]) :
  OP C ⟨dst, .assign x,ty,pos,af,gd⟩ m L (Γ:=Y6) (fun A=>sl A 0 0) (fun A=>⟨A,z⟩ :: L):=fun a w hs Q K hK=>by
 subst hz
 have hrun:(execOp a.eval ⟨dst, .assign x,ty,pos,af,gd⟩).run C.P w = .ok (.value (.slice none 0 0)) w:=by simp [execOp,hs.slots.ev hx]
 unfold Oper.wp
 rw [hrun]
 exact hK none w (Step.frame (A:=[]) (B:=[⟨none,[]⟩]) hs.step ⟨jX.refl _ _,⟨fun e he=>by rw [List.mem_singleton] at he; subst he; exact ⟨fun _=>rfl,fun i v hv=>by simp at hv⟩,by simp⟩,
  fun ad ⟨e,he,i,hi,_⟩=>by rw [List.mem_singleton] at he; subst he; simp at hi⟩)
theorem Ti {α:Type} {f:α → Value} {k:Nat} {x:α}:List.replicate k (f x)=(List.replicate k x).map f:=by simp
theorem wJ {α:Type} {g:α → List Value} {k:Nat} {x:α}:(List.replicate k (g x)).flatten=eF g (List.replicate k x):=by simp [eF]
theorem P6 {x:Operand} {A:Y6} {n:Nat} {t e:TypeId} {inf:TypeInfo} {s:Nat} (hx:ev m x=some (ptr A 0)) (hA:A ≠ none) (hu:C.P.underlying t=some (.array n e))
  (hi':C.P.info? e=some inf) (hsz:inf.size=s):Ou C ⟨dst, .slice t x none none none,ty,pos,af,gd⟩ m L (sl A n n):=by
 have h:=Du (C:=C) (L:=L) (dst:=dst) (ty:=ty) (pos:=pos) (af:=af) (gd:=gd) (lo:=none) (hi:=none) (l:=0) (h:=n) hx hA hu hi' hsz rfl rfl (Nat.zero_le _) (Nat.le_refl _)
 have e:J9 (sh A 0) n 0 s=A:=by
  unfold J9
  cases A with
  | none=>exact absurd rfl hA
  | some p=>split <;> simp [sh]
 rw [e] at h
 simpa using h
theorem UE {x:Operand} {A:Y6} {o n:Nat} {cs ds:List Value} {t:TypeId} {inf:TypeInfo} (hx:ev m x=some (ptr A o)) (hsrc:Src C L ⟨A,cs⟩) (hd:(cs.drop o).take n=ds) (hlen:ds.length=n) (uV:Nat.beq n 0=false)
  (hty : ∀ w,(isAgg t).run C.P w = .ok true w) (hi:C.P.info? t=some inf) (hn:inf.size=n):Ou C ⟨dst, .load t x,ty,pos,af,gd⟩ m L (.agg ds.toArray):=fun a w hs=>by
 have hA:A ≠ none:=fun hA=>by
  have h1:=(hsrc w hs.step hs.ro).1 hA
  simp only at h1
  subst h1
  simp at hd
  subst hd
  simp at hlen
  subst hlen
  simp at uV
 have h2:=hsrc.part o n
 rw [hd] at h2
 exact FZ (by rw [← aI hA]; exact hx) (by cases A <;> simp_all [sh]) h2 hty hi hn hlen a w hs
theorem xX {α:Type} [Inhabited α] {n:Nat} : ∀ (l:List α) (V:Vector α n) (o:Nat),o+l.length≤n → (EX V o l).toList=splice V.toList o l
 | [],V,o,_=>by simp [EX,splice]
 | x :: r,V,o,h=>by
  simp only [List.length_cons] at h
  rw [EX,xX r (vp V o x) (o+1) (by omega),Af]
  simp only [splice,List.length_cons]
  have h1:(V.toList.set o x).take (o+1)=V.toList.take o++[x]:=by
   rw [List.take_succ_eq_append_getElem (by simp; omega),List.take_set_of_le (Nat.le_refl _)]
   simp
  have h2:(V.toList.set o x).drop (o+1+r.length)=V.toList.drop (o+(r.length+1)):=by
   rw [List.drop_set_of_lt (by omega)]; congr 1; omega
  rw [h1,h2]
  simp
theorem Ig {α:Type} [Inhabited α] {f:α → Value} {n:Nat} {V:Vector α n} {o:Nat} {l:List α} (h:o+l.length≤n):splice (V.toList.map f) o (l.map f)=(EX V o l).toList.map f:=by
 rw [xX _ _ _ h]
 simp [splice,List.map_take,List.map_drop]
theorem Fw {α:Type} [Inhabited α] {f:α → Value} {n i:Nat} {l:List (Vector α n)} {o:Nat} {ds:List α} (hi:i<l.length) (h:o+ds.length≤n) :
  splice (eF (fun V:Vector α n=>V.toList.map f) l) (i * n+o) (ds.map f)=eF (fun V:Vector α n=>V.toList.map f) (l.set i (EX (lg l i) o ds)):=by
 induction l generalizing i with
 | nil=>simp at hi
 | cons a l ih =>
  have hal:(a.toList.map f).length=n:=by simp
  cases i with
  | zero =>
   have h1:lg (a :: l) 0=a:=by simp [lg]
   rw [h1,Nat.zero_mul,Nat.zero_add]
   simp only [List.set_cons_zero,eF,List.map_cons,List.flatten_cons]
   rw [← Ig h]
   simp only [splice,List.length_map]
   rw [List.take_append_of_le_length (by omega),List.drop_append_of_le_length (by omega)]
   simp [List.append_assoc]
  | succ i =>
   have h1:lg (a :: l) (i+1)=lg l i:=by simp [lg]
   rw [h1]
   have ih':=ih (i:=i) (by simpa using hi)
   simp only [List.set_cons_succ,eF,List.map_cons,List.flatten_cons] at ih' ⊢
   rw [← ih']
   have e1:(i+1) * n+o=n+(i * n+o):=by rw [Nat.succ_mul]; omega
   rw [e1]
   simp only [splice,List.length_map]
   have e2 : ∀ k (t:List Value),(a.toList.map f++t).take (n+k)=a.toList.map f++t.take k:=fun k t=>by
    rw [List.take_append,List.take_of_length_le (by omega)]; congr 2; omega
   have e3 : ∀ k (t:List Value),(a.toList.map f++t).drop (n+k)=t.drop k:=fun k t=>by
    rw [List.drop_append,List.drop_of_length_le (by omega),List.nil_append]; congr 1; omega
   rw [e2,Nat.add_assoc,e3]
   simp [List.append_assoc]
end
end Go.Kx
end

section
namespace Go.Kx
open Go
def QP (Q:Exit → Act → World → Prop):Prop := ∀ c a w d v,Q (.panic c) (a.put d v) w → Q (.panic c) a w
theorem QP.body {P:Program} {fn:Func} {R:Ending → World → Prop}:QP (bodyPost P fn R):=fun c a w d v h=>by
 cases d <;> exact h
theorem QP.then {Q:Exit → Act → World → Prop} {k:Act → World → Prop} (h:QP Q):QP (Exit.then k Q):=fun c a w d v hh=>h c a w d v hh
theorem QP.block {Q:Exit → Act → World → Prop} {id:Nat} (h:QP Q):QP (Exit.inBlock id Q):=fun c a w d v hh=>h c a w d v hh
section
variable {P:Program} {ops:Array Oper} {Q:Exit → Act → World → Prop} {js:Nat} {S0:World → Prop}
def h_ (P:Program) (ops:Array Oper) (Q:Exit → Act → World → Prop) (js:Nat) (S0:World → Prop):Nat → Array Bool → Act → World → Prop
 | 0,done,a,w=>Region.ready .any ops done=[]∧Q .normal a w
 | n+1,done,a,w=>(Region.ready .any ops done=[] → Q .normal a w) ∧
  ∀ i,i ∈ Region.ready .any ops done → wpOp P ops Q i (fun a' w'=>((done.setIfInBounds i true).getD js false=false → S0 w')∧h_ P ops Q js S0 n (done.setIfInBounds i true) a' w') a w
theorem uN : ∀ (n:Nat) (done:Array Bool) (a:Act) (w:World),h_ P ops Q js S0 n done a w → wpAny P .any ops Q n done a w
 | 0,_,_,_,h=>h
 | n+1,_,_,_,h=>⟨h.1,fun i hi=>wpOp_mono (fun a' w' k=>uN n _ a' w' k.2) (h.2 i hi)⟩
def waitsFor (ops:Array Oper) (js i:Nat):Bool :=
 match ops[js]? with
 | none=>true
 | some o=>o.after.any fun e=>Region.binds .any e && e.on == i
theorem Bu {i:Nat} {done:Array Bool} (hw:waitsFor ops js i=true) (hi:i ∈ Region.ready .any ops done):js ∉ Region.ready .any ops done:=fun hj=>by
 obtain ⟨_,o,ho,hall⟩:=mem_ready.1 hj
 simp only [waitsFor,ho,Array.any_eq_true'] at hw
 obtain ⟨e,he,hb⟩:=hw
 rw [Bool.and_eq_true,beq_iff_eq] at hb
 have h1:=hall e he hb.1
 rw [hb.2] at h1
 have h0:=(mem_ready.1 hi).1
 by_cases hlt:i<done.size
 ·simp only [Array.getD_eq_getD_getElem?,Array.getElem?_eq_getElem hlt,Option.getD_some] at h0 h1
  rw [h0] at h1; cases h1
 ·simp only [Array.getD_eq_getD_getElem?,Array.getElem?_eq_none (by omega:done.size≤i),Option.getD_none] at h1
  cases h1
theorem Lb {i:Nat} {oi:Oper} {v:Value} (hi:ops[i]? = some oi) (hsel:Region.noSelect ops=true) (hQ:QP Q) (hw:waitsFor ops js i=true) :
  ∀ (n:Nat) (done:Array Bool) (a:Act) (w:World),
   (∀ j oj,ops[j]? = some oj → j ≠ i → done.getD j true=false → (∀ e ∈ oj.after,Region.binds .any e=true → e.on ≠ i) → oi.apart ops oj=true) →
   i ∈ Region.ready .any ops done → done.getD js false=false → YieldsIf P ops S0 oi v a → S0 w →
   h_ P ops Q js S0 n (done.setIfInBounds i true) (a.put oi.dst v) w → h_ P ops Q js S0 (n+1) done a w:=by
 intro n
 induction n with
 | zero =>
  intro done a w _ hr hjs hy hS H
  refine ⟨fun h=>absurd (h ▸ hr) (List.not_mem_nil),fun j hj=>?_⟩
  by_cases hji:j=i
  ·subst hji; exact hy.wpOp hi hS ⟨fun _=>hS,H⟩
  ·exact absurd (H.1 ▸ ready_mono hj hji) (List.not_mem_nil)
 | succ n ih =>
  intro done a w hfree hr hjs hy hS H
  refine ⟨fun h=>absurd (h ▸ hr) (List.not_mem_nil),fun j hj=>?_⟩
  by_cases hji:j=i
  ·subst hji; exact hy.wpOp hi hS ⟨fun _=>hS,H⟩
  ·have aa9:j ≠ js:=fun h=>Bu hw hr (h ▸ hj)
   have hb:=H.2 j (ready_mono hj hji)
   obtain ⟨hjun,oj,hoj,hall⟩:=mem_ready.1 hj
   have hno : ∀ e ∈ oj.after,Region.binds .any e=true → e.on ≠ i:=fun e he hbd heq=>by
    have h1:=hall e he hbd
    rw [heq] at h1
    have h0:=(mem_ready.1 hr).1
    by_cases hlt:i<done.size
    ·simp only [Array.getD_eq_getD_getElem?,Array.getElem?_eq_getElem hlt,Option.getD_some] at h0 h1
     rw [h0] at h1; cases h1
    ·simp only [Array.getD_eq_getD_getElem?,Array.getElem?_eq_none (by omega:done.size≤i),Option.getD_none] at h1
     cases h1
   have hap:=hfree j oj hoj hji hjun hno
   have hp:=wpOp_putIf hoj hap (fun cs b=>Region.noSelect_spec hsel i oi cs b hi) (fun cs b=>Region.noSelect_spec hsel j oj cs b hoj) (fun c a w h=>hQ c a w _ _ h) hy hb
   refine wpOp_mono (fun a' w' k=>?_) hp
   obtain ⟨ky,kS,kH⟩:=k
   have adB:(done.setIfInBounds j true).getD js false=false:=by rw [getD_set_ne false aa9]; exact hjs
   have kR:((done.setIfInBounds i true).setIfInBounds j true).getD js false=false:=by
    rw [getD_set_ne false aa9]
    by_cases hij:i=js
    ·subst hij
     exact absurd hr (Bu hw hr)
    ·rw [getD_set_ne false hij]; exact hjs
   have hS':=kS kR
   refine ⟨fun _=>hS',ih (done.setIfInBounds j true) a' w' (fun k ok hk hki hun hn=>hfree k ok hk hki ?_ hn) (ready_mono hr (Ne.symm hji)) adB ky hS' ?_⟩
   ·by_cases hjk:j=k
    ·subst hjk; exact hjun
    ·rw [getD_set_ne true hjk] at hun; exact hun
   ·rw [Array.setIfInBounds_comm _ _ hji]; exact kH
end
section
variable {C:Ctx} {Q:Exit → Act → World → Prop} {m:Sl} {L Lr R:Mem} {ops:Array Oper} {js n:Nat} {done done':Array Bool}
def TA (C:Ctx) (ops:Array Oper) (Q:Exit → Act → World → Prop) (js:Nat) (Lr:Mem) (n:Nat) (done:Array Bool) (m:Sl) (L:Mem):Prop :=
 ∀ a w,Sat C m L a w → h_ C.P ops Q js (fun w=>Step C.w0 C.L0 w Lr) n done a w
theorem mh {id:Nat} (Lr:Mem) (js:Nat) (hm:C.P.follows .mixedOrders=true) {N:Nat} (hN:ops.size=N) (h:TA C ops Q js Lr N (Array.replicate N false) m L):TC C (.region id ops true) Q m L:=fun a w hs=>by
 subst hN
 exact wp_region_any hm (uN _ _ _ _ (h a _ (hs.mem (El hs.step (w.drawn+1)))))
def IC (ops:Array Oper) (js i:Nat) (done done':Array Bool):Bool :=
 Region.free .any ops done i && ((Region.ready .any ops done).contains i && (!(done.getD js false) && (waitsFor ops js i && (done.setIfInBounds i true).toList == done'.toList)))
theorem rW {i d:Nat} {oi:Oper} {v:Value} {is:List Nat} (hi:ops[i]? = some oi) (hg:oi.guard=none) (hd:oi.dst=some d) (hN:Nat.blt d C.N=true) (hsel:Region.noSelect ops=true) (hQ:QP Q)
  (ht:IC ops js i done done'=true) (hp:pull is L=some (Lr,R)) (hv:Ou C oi m Lr v) (h:TA C ops Q js Lr n done' ((d,v) :: m) L):TA C ops Q js Lr (n+1) done m L:=fun a w hs=>by
 simp only [IC,Bool.and_eq_true,Bool.not_eq_true',beq_iff_eq,Array.toList_inj] at ht
 obtain ⟨h1,h2,h3,h4,h5⟩:=ht
 have iC:Step C.w0 C.L0 w Lr:=(hs.step.pulled hp).left
 refine Lb hi hsel hQ h4 n done a w (Region.free_spec hi h1) (by simpa using h2) h3 (.inl ⟨by simp [Region.wanted,hg],fun w' hw'=>hv a w' (hs.mem hw')⟩) iC ?_
 rw [h5]
 refine h _ _ ?_
 rw [hd]
 exact hs.put hN hs.step
def TO (C:Ctx) (ops:Array Oper) (Q:Exit → Act → World → Prop) (js:Nat) (Lr:Mem) (n:Nat) (done:Array Bool) (m:Sl) (L:Mem) (i:Nat):Prop :=
 ∀ a w,Sat C m L a w → wpOp C.P ops Q i (fun a' w'=>((done.setIfInBounds i true).getD js false=false → Step C.w0 C.L0 w' Lr)∧h_ C.P ops Q js (fun w=>Step C.w0 C.L0 w Lr) n (done.setIfInBounds i true) a' w') a w
def zl (C:Ctx) (ops:Array Oper) (Q:Exit → Act → World → Prop) (js:Nat) (Lr:Mem) (n:Nat) (done:Array Bool) (m:Sl) (L:Mem):List Nat → Prop
 | []=>True
 | i :: r=>TO C ops Q js Lr n done m L i∧zl C ops Q js Lr n done m L r
theorem zl.all {rs:List Nat}:zl C ops Q js Lr n done m L rs → ∀ i ∈ rs,TO C ops Q js Lr n done m L i:=by
 induction rs with
 | nil=>intro _ i hi; cases hi
 | cons x r ih =>
  intro h i hi
  rcases List.mem_cons.1 hi with rfl | h1
  ·exact h.1
  ·exact ih h.2 i h1
theorem aaa {rs:List Nat} (hr:Region.ready .any ops done=rs) (hne:rs.isEmpty=false) (h:zl C ops Q js Lr n done m L rs):TA C ops Q js Lr (n+1) done m L:=fun a w hs =>
 ⟨(fun h0=>by rw [h0] at hr; subst hr; cases hne),fun i hi=>h.all i (hr ▸ hi) a w hs⟩
theorem iA (hr:(Region.ready .any ops done).isEmpty=true) (h:TX C Q .normal m L) : ∀ n,TA C ops Q js Lr n done m L
 | 0=>fun a w hs=>⟨by simpa using hr,h a w hs⟩
 | n+1=>fun a w hs=>⟨fun _=>h a w hs,fun i hi=>by
   have:Region.ready .any ops done=[]:=by simpa using hr
   rw [this] at hi; cases hi⟩
theorem y5 {P:Program} {S0 S1:World → Prop} (h01 : ∀ w,S1 w → S0 w) : ∀ (n:Nat) (done:Array Bool) (a:Act) (w:World),h_ P ops Q js S1 n done a w → h_ P ops Q js S0 n done a w
 | 0,_,_,_,h=>h
 | n+1,_,_,_,h=>⟨h.1,fun i hi=>wpOp_mono (fun a' w' k=>⟨fun hj=>h01 _ (k.1 hj),y5 h01 n _ a' w' k.2⟩) (h.2 i hi)⟩
theorem iB {Lr2 R2 R3:Mem} {is is2:List Nat} (h1:pull is Lr2=some (Lr,R2)) (_:pull is2 L=some (Lr2,R3)) (h:TA C ops Q js Lr2 n done m L):TA C ops Q js Lr n done m L:=fun a w hs =>
 y5 (fun w hw=>(hw.pulled h1).left) n done a w (h a w hs)
theorem aby {d:Nat} {v v':Value} (hd:lk m d=some v) (hv:v=v') (h:TA C ops Q js Lr n done ((d,v') :: m) L):TA C ops Q js Lr n done m L:=fun a w hs =>
 h a w ⟨hs.defers,hs.size,fun t u ht=>by
  simp only [lk] at ht
  cases hb:Nat.beq d t with
  | true =>
   simp only [hb,Option.some.injEq] at ht
   have:=Nat.eq_of_beq_eq_true hb
   subst this; subst ht; subst hv
   exact hs.slots d _ hd
  | false=>simp only [hb] at ht; exact hs.slots t u ht,hs.step,hs.ro⟩
end
end Go.Kx
end
