/-
  Part 7 of the proof of what several laws share.
-/
import Derived.Laws.Externs
import Derived.Shelf.Spec.BitsCarry
import Derived.Test.YtkgeoekcnlgfnaaGreatDoorKc1
import Derived.Test.YtkgeoekcnlgfnaaGreatDoorKc2
import Derived.Test.YtkgeoekcnlgfnaaGreatDoorKc3
import Derived.Test.YtkgeoekcnlgfnaaGreatDoorKc4
import Derived.Test.YtkgeoekcnlgfnaaGreatDoorKc5
import Derived.Test.YtkgeoekcnlgfnaaGreatDoorKc6
set_option linter.unusedVariables false
set_option linter.unusedSimpArgs false
section
namespace Go.Kx
open Go
def okB:Parts → Bool
 | []=>true
 | p :: r=>Nat.beq p.2.length p.1 && okB r
theorem okB_ok : ∀ {ps:Parts},okB ps=true → PartsOk ps
 | [],_=>trivial
 | p :: r,h=>by
  simp only [okB,Bool.and_eq_true] at h
  exact ⟨Nat.eq_of_beq_eq_true h.1,okB_ok h.2⟩
def oneB:Parts → Bool
 | []=>true
 | p :: r=>(p.2.all fun v=>v.oneCell') && oneB r
theorem oneB_ok : ∀ {ps:Parts},oneB ps=true → PartsOne ps
 | [],_=>trivial
 | p :: r,h=>by
  simp only [oneB,Bool.and_eq_true,List.all_eq_true] at h
  exact ⟨h.1,oneB_ok h.2⟩
def rp (n k:Nat):List Nat:=List.replicate n k
abbrev nI:List Int:=[]
abbrev nS:List Str:=[]
abbrev nP:List (Str × Str × Int × Int × Int × Int):=[]
abbrev nA:List (Str × Int):=[]
abbrev nB:List (Int × Str):=[]
section
variable {C:Ctx} {m:Sl} {L:Mem} {dst:Option Tmp} {ty:TypeId} {pos:String} {af:Array Edge} {gd:Option (Nat × Bool)}
theorem V_lp {x:Operand} {b o n:Nat} {t:TypeId} {inf:TypeInfo} {ps:Parts} (hs:AllSrc C L (ents b o ps)) (hty : ∀ w,(isAgg t).run C.P w = .ok true w) (hi:C.P.info? t=some inf)
  (hx:ev m x=some (ptr (some (b,o)) 0):=by rfl) (hn:inf.size=n:=by rfl) (hok:okB ps=true:=by rfl) (hl:(ps.map (·.1)).sum=n:=by rfl) :
  OpV C ⟨dst, .load t x,ty,pos,af,gd⟩ m L (aG ps):=V_loadAgg hx (by simp) (SrcEnts ps o (okB_ok hok) hs.all) hty hi hn (flat_len (okB_ok hok) hl)
theorem Res_lp {p:Tmp} {b o n:Nat} {t:TypeId} {inf:TypeInfo} {ps:Parts} (hs:AllSrc C L (ents b o ps)) (hty : ∀ w,(isAgg t).run C.P w = .ok true w) (hi:C.P.info? t=some inf)
  (hx:lk m p=some (ptr (some (b,o)) 0):=by rfl) (hn:inf.size=n:=by rfl) (hok:okB ps=true:=by rfl) (hl:(ps.map (·.1)).sum=n:=by rfl) :
  ResV C m L (.cell p t) (aG ps):=Res_agg hx (by simp) (SrcEnts ps o (okB_ok hok) hs.all) hty hi hn (flat_len (okB_ok hok) hl)
theorem E_sq {x y:Operand} {b o n:Nat} {R:Mem} {t:TypeId} {inf:TypeInfo} {ns:Parts} (is:List Nat) (ps:Parts) (hp:pull is L=some (ents b o ps,R)) (hi:C.P.info? t=some inf)
  (hx:ev m x=some (ptr (some (b,o)) 0):=by rfl) (hy:ev m y=some (aG ns):=by rfl) (hn:inf.size=n:=by rfl) (hps:okB ps=true:=by rfl) (hns:okB ns=true:=by rfl) (h1:oneB ns=true:=by rfl)
  (hl1:(ps.map (·.1)).sum=n:=by rfl) (hl2:(ns.map (·.1)).sum=n:=by rfl) :
  OpE C ⟨dst, .store t x y,ty,pos,af,gd⟩ m L (Γ:=Unit) (fun _=>undef) (fun _=>ents b o ns++R):=E_sp is ps ns hp hi (okB_ok hps) (okB_ok hns) (oneB_ok h1) hx hy hn hl1 hl2
theorem E_ap {e:TypeId} {inf:TypeInfo} {ps:Parts} (hi:C.P.info? e=some inf) (hz:zcells inf=some (flat ps)) (hp:okB ps=true:=by rfl) :
  OpE C ⟨dst, .alloc e,ty,pos,af,gd⟩ m L (Γ:=Nat) (fun b=>ptr (some (b,0)) 0) (fun b=>ents b 0 ps++L):=E_allocP ps hi hz (okB_ok hp)
end
section
variable {C:Ctx} {Q:Exit → Act → World → Prop} {m:Sl} {L Lr R:Mem} {ops:Array Oper} {js n:Nat} {done done':Array Bool}
end
section
variable {C:Ctx} {m:Sl} {L:Mem} {dst:Option Tmp} {ty:TypeId} {pos:String} {af:Array Edge} {gd:Option (Nat × Bool)}
end
end Go.Kx
end

section
namespace Go.Kx
open Go
section
variable {C:Ctx} {m:Sl} {L:Mem} {dst:Option Tmp} {ty:TypeId} {pos:String} {af:Array Edge} {gd:Option (Nat × Bool)}
theorem E_callV {g:Operand} {xs:List Operand} {ats:Array TypeId} {f:FuncId} {cap vs:List Value} {Lin Ro R:Mem} {is:List Nat} {Γ:Type} {val:Γ → Value} {mem:Γ → Mem}
  (hg:ev m g=some (.func (.func f) #[] cap.toArray)) (hxs:evs m xs=some vs) (hcall : ∀ args w,(callFunc f args).run C.P w = .ok (.enter f args) w) (hf:Does C.P f (vs++cap) Lin Ro val mem) (hp:pull is L=some (Lin,R)) (hro:SrcDs C Lin R Ro) :
  OpE C ⟨dst, .call ⟨.value g,xs.toArray,ats⟩,ty,pos,af,gd⟩ m L val (fun g=>mem g++R):=fun a w hs Q K hK=>by
 have h1:Step C.w0 C.L0 w (Lin++R):=hs.step.pulled hp
 have hrun:(execOp a.eval ⟨dst, .call ⟨.value g,xs.toArray,ats⟩,ty,pos,af,gd⟩).run C.P w = .ok (.enter f (vs++cap).toArray) w:=by
  have hargs:xs.toArray.map a.eval=vs.toArray:=by simp [hs.slots.evs hxs]
  have hfv:a.eval g = .func (.func f) #[] cap.toArray:=hs.slots.ev hg
  simp only [execOp,resolve,hargs,hfv,Deferred.ofValue]
  simp [invoke,hcall]
 unfold Oper.wp
 rw [hrun,Oper.upon_enter]
 refine (hf w h1.ok.left (fun e he=>(hro.all e he w h1 hs.ro).1) (fun f hf e he=>(hro.all e he w h1 hs.ro).2 f hf)).mono ?_
 rintro e w' ⟨g,rfl,hg⟩
 exact hK g w' (h1.frame hg)
theorem E_c0V {g:Operand} {xs:List Operand} {ats:Array TypeId} {f:FuncId} {cap vs:List Value} {Ro:Mem} {Γ:Type} {val:Γ → Value} {mem:Γ → Mem}
  (hf:Does C.P f (vs++cap) [] Ro val mem) (hcall : ∀ args w,(callFunc f args).run C.P w = .ok (.enter f args) w) (hro:SrcDs C [] L Ro) (hg:ev m g=some (.func (.func f) #[] cap.toArray):=by rfl) (hxs:evs m xs=some vs:=by rfl) :
  OpE C ⟨dst, .call ⟨.value g,xs.toArray,ats⟩,ty,pos,af,gd⟩ m L val (fun g=>mem g++L):=E_callV hg hxs hcall hf (SrcDs.nil_pull L) hro
theorem V_makeFunc {f:Fn} {cap:List Operand} {cv:List Value} (hc:evs m cap=some cv):OpV C ⟨dst, .makeFunc f #[] cap.toArray,ty,pos,af,gd⟩ m L (.func f #[] cv.toArray):=fun a w hs=>by
 have hargs:cap.toArray.map a.eval=cv.toArray:=by simp [hs.slots.evs hc]
 show ((Instr.makeFunc f (#[].map a.eval) (cap.toArray.map a.eval)) >>= fun r=>pure (Next.value r)).run C.P w=_
 rw [hargs]
 simp [Instr.makeFunc]
end
def TR (C:Ctx) (c:Code) (Q:Exit → Act → World → Prop) (n:Nat) (m:Sl) (L:Mem):Prop := ∀ a w,Sat C m L a w → Code.rounds C.P c Q n a w
section
variable {C:Ctx} {Q:Exit → Act → World → Prop} {c:Code} {m:Sl} {L:Mem} {n:Nat}
theorem TC_rounds (n:Nat) (h:TR C c Q n m L):TC C (.loop c) Q m L:=fun a w hs=>wp_loop_rounds n (h a w hs)
theorem TR_step (h:TC C c (Exit.then (Code.rounds C.P c Q n) Q) m L):TR C c Q (n+1) m L:=h
theorem TX_again (h:TR C c Q n m L):TX C (Exit.then (Code.rounds C.P c Q n) Q) .normal m L:=h
theorem TC_nil {A:Adr} {cs:List Value} (hsrc:Src C L ⟨A,cs⟩) (h1:A=none → cs=[] → TC C c Q m L) (h2:A ≠ none → TC C c Q m L):TC C c Q m L:=fun a w hs=>by
 by_cases hA:A=none
 ·exact h1 hA ((hsrc w hs.step hs.ro).1 hA) a w hs
 ·exact h2 hA a w hs
end
section
variable {P:Program} (w:World) {t:TypeId} {x y:Operand}
theorem addI_lit {a b c:Int} (h:w64 (a+b)=c):(binG .add t x y (vi a) (vi b)).run P w = .ok (vi c) w:=h ▸ addI w a b
theorem guard_sl {op:BinOp} {a b:Option Addr} {n c n' c':Nat}:(eqGuard op t x y (.slice a n c) (.slice b n' c')).run P w = .ok () w:=by
 cases op <;> simp [eqGuard]
theorem eqSl (d:Nat) {e:TypeId} {A:Adr} {n c:Nat} (ht:P.underlying t=some (.slice e)):(Op.equalIn (d+1) t (sl A n c) (.slice none 0 0)).run P w = .ok A.isNone w:=by
 cases A <;> simp [Op.equalIn,Sem.run_bind,run_underlying ht,sl]
theorem eqlSln {e:TypeId} {A:Adr} {n c:Nat} (ht:P.underlying t=some (.slice e)) (hA:A ≠ none):(binG .eql t x y (sl A n c) (.slice none 0 0)).run P w = .ok (vb false) w:=binG_of w (guard_sl w) (by
 show ((Op.equalIn (9999+1) t (sl A n c) (.slice none 0 0)) >>= fun r=>pure (Value.bool r)).run P w=_
 rw [Sem.run_bind,eqSl w 9999 ht]
 cases A with
 | none=>exact absurd rfl hA
 | some p=>simp [vb])
theorem eqlSlnn {e:TypeId} {n c:Nat} (ht:P.underlying t=some (.slice e)):(binG .eql t x y (sl none n c) (.slice none 0 0)).run P w = .ok (vb true) w:=binG_of w (guard_sl w) (by
 show ((Op.equalIn (9999+1) t (sl none n c) (.slice none 0 0)) >>= fun r=>pure (Value.bool r)).run P w=_
 rw [Sem.run_bind,eqSl w 9999 ht]
 simp [vb])
end
def subL {α:Type} (l:List α) (lo hi:Nat):List α:=(l.drop lo).take (hi - lo)
theorem subL_length {α:Type} {l:List α} {lo hi:Nat} (hh:hi≤l.length):(subL l lo hi).length=hi - lo:=by
 simp only [subL,List.length_take,List.length_drop]; omega
theorem vwL_cap {α:Type} {c lo hi:Nat} {s:List α} (h:hi≤s.length) (h2:hi≤c):(subL s lo hi).length≤c - lo:=by
 rw [subL_length h]; omega
theorem srcdE {C:Ctx} {Lin R:Mem} {A:Adr} {z:List Value} (hz:z=[]):SrcD C Lin R ⟨A,z⟩:=by
 subst hz
 exact fun w hs hr=>⟨⟨fun _=>rfl,fun i v hv=>by simp at hv⟩,fun f hf i j hi hj=>by simp at hj⟩
theorem srcdVwL {C:Ctx} {α:Type} {f:α → Value} {Lin R:Mem} {A:Adr} {lst:List α} {c lo hi b:Nat} (hs:SrcD C Lin R ⟨A,lst.map f⟩) (h2:hi≤c):SrcD C Lin R ⟨cutB A c lo b 1,(subL lst lo hi).map f⟩:=by
 unfold cutB
 split
 ·have:hi - lo=0:=by omega
  have e:subL lst lo hi=[]:=by simp [subL,this]
  rw [e]
  exact fun w hs hr=>⟨⟨fun _=>rfl,fun i v hv=>by simp at hv⟩,fun f hf i j hi hj=>by simp at hj⟩
 ·have:=hs.part (lo * 1) (hi - lo)
  simpa [subL,List.map_take,List.map_drop] using this
theorem flat_drop {α:Type} {g:α → List Value} {s:Nat} (hg : ∀ a,(g a).length=s) : ∀ (l:List α) (k:Nat),((l.map g).flatten).drop (k * s)=((l.drop k).map g).flatten
 | l,0=>by simp
 | [],k+1=>by simp
 | a :: l,k+1=>by
  have e:(k+1) * s=(g a).length+k * s:=by rw [hg,Nat.add_mul,Nat.one_mul,Nat.add_comm]
  rw [List.map_cons,List.flatten_cons,e,List.drop_append,List.drop_eq_nil_of_le (Nat.le_add_right _ _)]
  simpa using flat_drop hg l k
theorem flat_take {α:Type} {g:α → List Value} {s:Nat} (hg : ∀ a,(g a).length=s) : ∀ (l:List α) (k:Nat),((l.map g).flatten).take (k * s)=((l.take k).map g).flatten
 | l,0=>by simp
 | [],k+1=>by simp
 | a :: l,k+1=>by
  have e:(k+1) * s=(g a).length+k * s:=by rw [hg,Nat.add_mul,Nat.one_mul,Nat.add_comm]
  rw [List.map_cons,List.flatten_cons,e,List.take_append,List.take_of_length_le (Nat.le_add_right _ _)]
  simpa using flat_take hg l k
theorem srcdVwF {C:Ctx} {α:Type} {g:α → List Value} {s:Nat} (hg : ∀ a,(g a).length=s) {Lin R:Mem} {A:Adr} {lst:List α} {c lo hi b:Nat} (hs:SrcD C Lin R ⟨A,eF g lst⟩) (h2:hi≤c):SrcD C Lin R ⟨cutB A c lo b s,eF g (subL lst lo hi)⟩:=by
 unfold cutB
 split
 ·have:hi - lo=0:=by omega
  have e:subL lst lo hi=[]:=by simp [subL,this]
  rw [e]
  exact fun w hs hr=>⟨⟨fun _=>rfl,fun i v hv=>by simp at hv⟩,fun f hf i j hi hj=>by simp at hj⟩
 ·have:=hs.part (lo * s) ((hi - lo) * s)
  rw [show eF g lst=(lst.map g).flatten from rfl,flat_drop hg,flat_take hg] at this
  exact this
theorem nil_of {α:Type} {f:α → Value} {l:List α} (h:l.map f=[]):l=[]:=by simpa using h
def npair:Nat → Nat × Nat
 | 0=>(0,0)
 | n+1=>match npair n with
  | (0,b)=>(b+1,0)
  | (a+1,b)=>(a,b+1)
theorem npair_ex : ∀ s b:Nat, ∀ a,a+b=s → ∃ n,npair n=(a,b)
 | 0,b,a,h=>by
  have h1:a=0:=by omega
  have h2:b=0:=by omega
  subst h1 h2
  exact ⟨0,rfl⟩
 | s+1,0,a,h=>by
  obtain ⟨n,hn⟩:=npair_ex s s 0 (by omega)
  have h1:a=s+1:=by omega
  exact ⟨n+1,by simp only [npair,hn]; rw [h1]⟩
 | s+1,b+1,a,h=>by
  obtain ⟨n,hn⟩:=npair_ex (s+1) b (a+1) (by omega)
  exact ⟨n+1,by simp only [npair,hn]⟩
termination_by s b=>(s,b)
def Cnt (α:Type):Prop := ∃ f:Nat → α, ∀ a, ∃ n,f n=a
theorem cnt_nat:Cnt Nat:=⟨id,fun a=>⟨a,rfl⟩⟩
theorem Cnt.prod {α β:Type}:Cnt α → Cnt β → Cnt (α × β):=fun ⟨f,hf⟩ ⟨g,hg⟩=>⟨fun n=>(f (npair n).1,g (npair n).2),fun (a,b)=>by
 obtain ⟨i,hi⟩:=hf a
 obtain ⟨j,hj⟩:=hg b
 obtain ⟨n,hn⟩:=npair_ex (i+j) j i rfl
 exact ⟨n,by simp [hn,hi,hj]⟩⟩
theorem Cnt.option {α:Type}:Cnt α → Cnt (Option α):=fun ⟨f,hf⟩=>⟨fun n=>match n with | 0=>none | k+1=>some (f k),fun a=>by
 cases a with
 | none=>exact ⟨0,rfl⟩
 | some a=>obtain ⟨k,hk⟩:=hf a; exact ⟨k+1,by simp [hk]⟩⟩
theorem cnt_int:Cnt Int:=by
 obtain ⟨f,hf⟩:=Cnt.prod cnt_nat cnt_nat
 refine ⟨fun n=>((f n).1:Int) - (f n).2,fun a=>?_⟩
 obtain ⟨n,hn⟩:=hf (a.toNat,(-a).toNat)
 exact ⟨n,by simp only [hn]; omega⟩
def listOf {α:Type} (f:Nat → α):Nat → Nat → List α
 | 0,_=>[]
 | k+1,n=>f (npair n).1 :: listOf f k (npair n).2
theorem listOf_ex {α:Type} {f:Nat → α} (hf : ∀ a, ∃ n,f n=a) : ∀ l:List α, ∃ n,listOf f l.length n=l
 | []=>⟨0,rfl⟩
 | a :: l=>by
  obtain ⟨i,hi⟩:=hf a
  obtain ⟨j,hj⟩:=listOf_ex hf l
  obtain ⟨n,hn⟩:=npair_ex (i+j) j i rfl
  exact ⟨n,by simp [listOf,hn,hi,hj]⟩
theorem Cnt.list {α:Type}:Cnt α → Cnt (List α):=fun ⟨f,hf⟩=>⟨fun n=>listOf f (npair n).1 (npair n).2,fun l=>by
 obtain ⟨j,hj⟩:=listOf_ex hf l
 obtain ⟨n,hn⟩:=npair_ex (l.length+j) j l.length rfl
 exact ⟨n,by simp [hn,hj]⟩⟩
theorem cnt_ai:Cnt (Adr × List Int):=((cnt_nat.prod cnt_nat).option).prod cnt_int.list
noncomputable def cf:Nat → Adr × List Int:=Classical.choose cnt_ai
theorem cf_ex : ∀ a, ∃ n,cf n=a:=Classical.choose_spec cnt_ai
section
variable {C:Ctx} {m:Sl} {L:Mem} {dst:Option Tmp} {ty:TypeId} {pos:String} {af:Array Edge} {gd:Option (Nat × Bool)}
theorem OpE_cf {o:Oper} {val:Adr × List Int → Value} {mem:Adr × List Int → Mem} (h:OpE C o m L val mem):OpE C o m L (Γ:=Nat) (fun n=>val (cf n)) (fun n=>mem (cf n)):=fun a w hs Q K hK =>
 h a w hs Q K fun g w' hs'=>by
  obtain ⟨n,rfl⟩:=cf_ex g
  exact hK n w' hs'
theorem E_cn {xs:List Operand} {ats:Array TypeId} {f:FuncId} {vs:List Value} {Ro:Mem} {val:Adr × List Int → Value} {mem:Adr × List Int → Mem}
  (hf:Does C.P f vs [] Ro val mem) (hcall : ∀ args w,(callFunc f args).run C.P w = .ok (.enter f args) w) (hro:SrcDs C [] L Ro) (hxs:evs m xs=some vs:=by rfl) :
  OpE C ⟨dst, .call ⟨.value (.func f),xs.toArray,ats⟩,ty,pos,af,gd⟩ m L (Γ:=Nat) (fun n=>val (cf n)) (fun n=>mem (cf n)++L):=OpE_cf (E_c0 hf hcall hro hxs)
end
section
variable {C:Ctx} {Q:Exit → Act → World → Prop} {m:Sl} {L:Mem} {ops:Array Oper} {l:List Oper}
theorem TL_gen3 {Lf:Adr → Adr → Adr → Mem} (hL:Lf none none none=⟨none,[]⟩ :: ⟨none,[]⟩ :: ⟨none,[]⟩ :: L) (h : ∀ A0 A1 A2,TL C ops Q l m (Lf A0 A1 A2)):TL C ops Q l m L:=TL_none (TL_none (TL_none ((hL ▸ h none none none))))
theorem TL_gen5 {Lf:Adr → Adr → Adr → Adr → Adr → Mem} (hL:Lf none none none none none=⟨none,[]⟩ :: ⟨none,[]⟩ :: ⟨none,[]⟩ :: ⟨none,[]⟩ :: ⟨none,[]⟩ :: L) (h : ∀ A0 A1 A2 A3 A4,TL C ops Q l m (Lf A0 A1 A2 A3 A4)):TL C ops Q l m L:=TL_none (TL_none (TL_none (TL_none (TL_none ((hL ▸ h none none none none none))))))
theorem TL_gen10 {Lf:Adr → Adr → Adr → Adr → Adr → Adr → Adr → Adr → Adr → Adr → Mem} (hL:Lf none none none none none none none none none none=⟨none,[]⟩ :: ⟨none,[]⟩ :: ⟨none,[]⟩ :: ⟨none,[]⟩ :: ⟨none,[]⟩ :: ⟨none,[]⟩ :: ⟨none,[]⟩ :: ⟨none,[]⟩ :: ⟨none,[]⟩ :: ⟨none,[]⟩ :: L) (h : ∀ A0 A1 A2 A3 A4 A5 A6 A7 A8 A9,TL C ops Q l m (Lf A0 A1 A2 A3 A4 A5 A6 A7 A8 A9)):TL C ops Q l m L:=TL_none (TL_none (TL_none (TL_none (TL_none (TL_none (TL_none (TL_none (TL_none (TL_none ((hL ▸ h none none none none none none none none none none)))))))))))
end
section
variable {C:Ctx} {m:Sl} {L:Mem} {dst:Option Tmp} {ty:TypeId} {pos:String} {af:Array Edge} {gd:Option (Nat × Bool)}
theorem E_buildSlice0 {t e:TypeId} {ie:TypeInfo} {cs:List Value} (hu:C.P.underlying t=some (.slice e)) (hie:C.P.info? e=some ie) (hc:cs=[]) :
  OpE C ⟨dst, .buildSlice t 0 #[],ty,pos,af,gd⟩ m L (Γ:=Nat) (fun b=>sl (some (b,0)) 0 0) (fun b=>⟨some (b,0),cs⟩ :: L):=fun a w hs' Q K hK=>by
 subst hc
 have hrun:(execOp a.eval ⟨dst, .buildSlice t 0 #[],ty,pos,af,gd⟩).run C.P w = .ok (.value (sl (some (w.heap.size,0)) 0 0)) { w with heap:=w.heap.push (.cells #[] e) }:=by
  simp only [execOp,Instr.buildSlice,typeInfo,Sem.run_bind,program,Sem.run,hie,Result.andThen_ok,Sem.run_pure,run_underlying hu,sizeOf]
  simp [newRow,newObj,sl,Instr.fill]
  have e1 : ∀ f:Nat → Value,Array.map f (Array.range 0) = #[]:=fun f=>by apply Array.toList_inj.1; simp
  rw [e1]
  rfl
 unfold Oper.wp
 rw [hrun]
 exact hK _ _ (by have:=newBlock hs'.step #[] e; simpa using this)
end
end Go.Kx
end

section
namespace Go.Kx
open Go
def notI:TypeDesc → Bool
 | .interface _=>false
 | _=>true
section
variable {C:Ctx} {m:Sl} {L:Mem} {dst:Option Tmp} {ty:TypeId} {pos:String} {af:Array Edge} {gd:Option (Nat × Bool)}
theorem V_mkI {x:Operand} {v r:Value} {t:TypeId} {d:TypeDesc} (hx:ev m x=some v) (hu:C.P.underlying t=some d) (hd:notI d=true) (hr:Value.iface t v=r):OpV C ⟨dst, .makeInterface t x,ty,pos,af,gd⟩ m L r:=fun a w hs=>by
 subst hr
 show ((Instr.makeInterface t (a.eval x)) >>= fun r=>pure (Next.value r)).run C.P w=_
 rw [hs.slots.ev hx]
 unfold Instr.makeInterface
 simp only [Sem.run_bind,run_underlying hu]
 cases d <;> simp_all [notI,Result.andThen]
end
section
variable {P:Program} {t:TypeId} {x:Operand} {c:Value}
theorem eqE0 (w:World) (k:Nat) (e:Er) {ms} (ht:P.underlying t=some (.interface ms)):(Op.equalIn (k+1) t (vE e) .nilIface).run P w = .ok (Er.isNil e) w:=by
 cases e <;> simp [Op.equalIn,vE,Sem.run_bind,run_underlying ht,Er.isNil]
theorem guardE {op:BinOp} (w:World) (e:Er):(eqGuard op t x (.const c) (vE e) .nilIface).run P w = .ok () w:=by
 cases e <;> cases op <;> simp [eqGuard,vE]
theorem neqE (w:World) (e:Er) {ms} (ht:P.underlying t=some (.interface ms)):(binG .neq t x (.const c) (vE e) (vE Er.nil)).run P w = .ok (vb (!(Er.isNil e))) w:=binG_of w (guardE w e) (by
 have h:=eqE0 (P:=P) (t:=t) w 9999 e ht
 cases e <;> (show ((Op.equalIn (9999+1) t _ .nilIface) >>= fun r=>pure (Value.bool (!r))).run P w=_; rw [Sem.run_bind,h]; simp [vb]))
end
end Go.Kx
end

section
namespace Go.Proofs
open Go Go.Kx
open TryzI Tryz
def hello_in (x:Int) (least:Int) (most:Int):Option (Bool) :=
 if least≤x then (ltt (decide (x≤most)) fun (x1:Bool)=>(some x1)) else (some false)
set_option maxHeartbeats 4000000 in
set_option maxRecDepth 20000 in
theorem F46_calls (x:Int) (least:Int) (most:Int) (r:Bool) (H:hello_in x least most=some r) :
  Does Tryz.prog 46 [vi x,vi least,vi most] [] [] (Γ:=Unit) (fun g=>vb r) (fun g=>[]):=by
 intro w hmem hro hd
 refine calls_of (N:=15) (m0:=[(0,vi x),(1,vi least),(2,vi most)]) func46 rfl ntmps46 (argM_ok [vi x,vi least,vi most]) rfl hmem hro hd ?_
 unfold hello_in at H
 refine TC_seq (TC_region (TVa ?_))
 refine TL_nil (TX_next (TC_seq (TC_region (TVm ?_))))
 refine TVm ?_
 refine TLv (V_bin rfl rfl (fun w=>geqI w x least)) ?_
 refine TVm ?_
 refine TFd (d:=10) H (fun hc H=>?_) (fun hc H=>?_)
 ·refine TLw (V_move rfl) ?_
  refine TLw (V_move rfl) ?_
  refine TLw (V_bin rfl rfl (fun w=>leqI w x most)) ?_
  refine TVt ?_
  refine TVa ?_
  obtain ⟨x1,hx1,H⟩:=ltt_elim H
  refine TLr 6 (congrArg vb hx1) ?_
  refine TL_nil (TX_next (TC_ret ?_))
  obtain rfl:=sj H
  exact TX1
 ·refine TLs ?_
  refine TLs ?_
  refine TLs ?_
  refine TVf ?_
  refine TVa ?_
  refine TL_nil (TX_next (TC_ret ?_))
  obtain rfl:=sj H
  exact TX1
end Go.Proofs
end

section
namespace Go.Proofs
open Go Go.Kx
open TryzI Tryz
def slices_Index___int_int_.b0 (s_:List (Int)) (v:Int) (s0:Int):Option ((Int) ⊕ ((Unit) ⊕ (Int))) :=
 if s0<((s_).length:Int) then (if 0≤s0∧s0<((s_).length:Int) then (if v=(lg s_ ((s0).toNat)) then (some (.inr (.inr s0))) else (some (.inl (w64 (s0+1))))) else none) else (some (.inr (.inl ())))
def slices_Index___int_int_ (s_:List (Int)) (v:Int):Option (Int) :=
 (loop (slices_Index___int_int_.b0 s_ v) BIG 0).bind fun (t_1:(Unit) ⊕ (Int))=>(match t_1 with | .inl t_1=>(some (-1)) | .inr rv=>some rv)
set_option maxHeartbeats 4000000 in
set_option maxRecDepth 20000 in
theorem F83_calls (As_:Adr) (cs_:Nat) (s_:List (Int)) (v:Int) (hcs_:(s_).length≤cs_) (r:Int) (H:slices_Index___int_int_ s_ v=some r) :
  Does Tryz.prog 83 [sl As_ ((s_).length) cs_,vi v] [] [⟨As_,eI s_⟩] (Γ:=Unit) (fun g=>vi r) (fun g=>[]):=by
 intro w hmem hro hd
 refine calls_of (N:=19) (m0:=[(0,sl As_ ((s_).length) cs_),(1,vi v)]) func83 rfl ntmps83 (argM_ok [sl As_ ((s_).length) cs_,vi v]) rfl hmem hro hd ?_
 unfold slices_Index___int_int_ at H
 refine TC_seq (TC_region (TVa ?_))
 refine TL_nil (TX_next (TC_seq (TC_seq (TC_region (TVm ?_)))))
 refine TLv (V_len_slice rfl underlying22) ?_
 refine TVm ?_
 refine TL_nil (TX_next (TC_block ?_))
 obtain ⟨t_1,Hl,H⟩:=bind_elim H
 refine TC.sub (m':=[(0,_),(1,_),(7,_),(8,_)]) ⟨rfl,rfl,rfl,rfl,trivial⟩ ?_
 refine TC.pull (is:=[]) (L':=[]) rfl ?_
 refine TC_loopR (id:=0) (body:=(slices_Index___int_int_.b0 s_ v)) (σ:=Int) (Γ:=Unit) (Γx:=Unit) (fun s0 g0_=>[(0,sl As_ ((s_).length) cs_),(1,vi v),(7,vi ((s_).length:Int)),(8,vi s0)]) (fun s0 g0_=>[]) (fun t g=>[]) (fun t g=>[]) r ?_ BIG 0 () t_1 Hl ?_
 ·intro s0 g0_ r1 H K hK hE hR1
  unfold slices_Index___int_int_.b0 at H
  refine TC_seq (TC_region (TLv (V_bin rfl rfl (fun w=>lssI w s0 ((s_).length:Int))) ?_))
  refine TL_nil (TX_next (TC_seq (TCd H (fun hc H=>?_) (fun hc H=>?_))))
  ·refine TC_skip (TX_next (TC_seq (TC_block (TC_seq (TC_region (TVm ?_))))))
   refine TVa ?_
   refine TL_nil (TX_next (TC_seq (TC_region (TVm ?_))))
   refine TVm ?_
   refine TVm ?_
   obtain ⟨h1,H⟩:=if_elim H
   refine TLv (V_idxSlS (i:=s0) rfl rfl underlying22 inf3 rfl (.r 0) (map_ne (toNat_lt h1.1 h1.2)) h1.1 h1.2 (k:=(s0).toNat) (km1 _)) ?_
   refine TLv (V_load rfl (.r 0) (get_map (f:=vi) (l:=s_) (toNat_lt h1.1 h1.2)) isAgg3) ?_
   refine TLv (V_bin rfl rfl (fun w=>eqlI w v (lg s_ ((s0).toNat)))) ?_
   refine TL_nil (TX_next (TCd H (fun hc H=>?_) (fun hc H=>?_)))
   ·refine TC_seq (TC_region (TVm ?_))
    refine TVa ?_
    refine TL_nil (TX_next (TC_ret (TX_block_ret (TX_then_ret (TX_then_ret (TX_block_ret (TX_then_ret ?_)))))))
    have hrv:=(hR1 _ (Option.some.inj H).symm)
    subst hrv
    exact TX1
   ·refine TC_skip (TX_block_normal (TX_next (TC_region (TLv (V_bin rfl rfl (fun w=>addI w s0 1)) ?_))))
    refine TVm ?_
    refine TL_nil ?_
    obtain rfl:=sj H
    exact TXk [] (hK (w64 (s0+1)) rfl ())
  ·refine TC_exit (TX_then_exit (TX_then_exit ?_))
   obtain rfl:=sj H
   exact TXj [] (hE () rfl ())
 ·rcases t_1 with t_1 | rv
  ·intro gx1
   dsimp only at H
   refine TX_block_exit (TX_next (TC_seq (TC_region (TVa ?_))))
   refine TL_nil (TX_next (TC_ret ?_))
   obtain rfl:=sj H
   exact TX1
  ·exact (Option.some.inj H)
end Go.Proofs
end

section
namespace Go.Proofs
open Go Go.Kx
open TryzI Tryz
def slices_Contains___int_int_ (s_:List (Int)) (v:Int):Option (Bool) :=
 (slices_Index___int_int_ s_ v).bind fun (r_1:Int)=>(ltt (decide (0≤r_1)) fun (x1:Bool)=>(some x1))
set_option maxHeartbeats 4000000 in
set_option maxRecDepth 20000 in
theorem F62_calls (As_:Adr) (cs_:Nat) (s_:List (Int)) (v:Int) (hcs_:(s_).length≤cs_) (r:Bool) (H:slices_Contains___int_int_ s_ v=some r) :
  Does Tryz.prog 62 [sl As_ ((s_).length) cs_,vi v] [] [⟨As_,eI s_⟩] (Γ:=Unit) (fun g=>vb r) (fun g=>[]):=by
 intro w hmem hro hd
 refine calls_of (N:=9) (m0:=[(0,sl As_ ((s_).length) cs_),(1,vi v)]) func62 rfl ntmps62 (argM_ok [sl As_ ((s_).length) cs_,vi v]) rfl hmem hro hd ?_
 unfold slices_Contains___int_int_ at H
 refine TC_seq (TC_region (TVa ?_))
 refine TL_nil (TX_next (TC_seq (TC_region (TVm ?_))))
 refine TVm ?_
 obtain ⟨r_1,hr_1,H⟩:=bind_elim H
 refine TLe (E_c0 (F83_calls As_ cs_ s_ v hcs_ r_1 hr_1) call83 ⟨.r 0,trivial⟩) (fun g_1=>?_)
 refine TLv (V_bin rfl rfl (fun w=>geqI w r_1 0)) ?_
 refine TVa ?_
 obtain ⟨x1,hx1,H⟩:=ltt_elim H
 refine TLr 4 (congrArg vb hx1) ?_
 refine TL_nil (TX_next (TC_ret ?_))
 obtain rfl:=sj H
 exact TX1
end Go.Proofs
end

section
namespace Go.Proofs
open Go Go.Kx
open TryzI Tryz
def aead_Sizes (suite:Int):Option (Int × Int × Int) :=
 ltt (decide (suite=4865)) fun (x1:Bool)=>(if x1=true then (some (16,256,0)) else (ltt (decide (suite=4866)) fun (x2:Bool)=>(if x2=true then (some (32,384,0)) else (ltt (decide (suite=4867)) fun (x3:Bool)=>(if x3=true then (some (32,256,0)) else (some (0,0,800)))))))
set_option maxHeartbeats 4000000 in
set_option maxRecDepth 20000 in
theorem F70_calls (suite:Int) (r:Int × Int × Int) (H:aead_Sizes suite=some r) :
  Does Tryz.prog 70 [vi suite] [] [] (Γ:=Unit) (fun g=>Value.tuple [vi r.1,vi r.2.1,vi r.2.2].toArray) (fun g=>[]):=by
 intro w hmem hro hd
 refine calls_of (N:=12) (m0:=[(0,vi suite)]) func70 rfl ntmps70 (argM_ok [vi suite]) rfl hmem hro hd ?_
 unfold aead_Sizes at H
 refine TC_seq (TC_region (TVa ?_))
 refine TVa ?_
 refine TVa ?_
 refine TL_nil (TX_next (TC_seq (TC_seq (TC_region (TVm ?_)))))
 refine TL_nil (TX_next (TC_block (TC_seq (TC_region (TLv (V_bin rfl rfl (fun w=>eqlI w suite 4865)) ?_)))))
 refine TVa ?_
 obtain ⟨x1,hx1,H⟩:=ltt_elim H
 refine TLr 6 (congrArg vb hx1) ?_
 refine TL_nil (TX_next (TCb H (fun hc H=>?_) (fun hc H=>?_)))
 ·refine TC_seq (TC_region (TVa ?_))
  refine TVa ?_
  refine TVa ?_
  refine TL_nil (TX_next (TC_ret (TX_block_ret (TX_then_ret ?_))))
  obtain rfl:=sj H
  exact TXr (vs:=[_,_,_]) rfl ⟨rfl,rfl,rfl,trivial⟩
 ·refine TC_seq (TC_region (TLv (V_bin rfl rfl (fun w=>eqlI w suite 4866)) ?_))
  refine TVa ?_
  obtain ⟨x2,hx2,H⟩:=ltt_elim H
  refine TLr 8 (congrArg vb hx2) ?_
  refine TL_nil (TX_next (TCb H (fun hc H=>?_) (fun hc H=>?_)))
  ·refine TC_seq (TC_region (TVa ?_))
   refine TVa ?_
   refine TVa ?_
   refine TL_nil (TX_next (TC_ret (TX_block_ret (TX_then_ret ?_))))
   obtain rfl:=sj H
   exact TXr (vs:=[_,_,_]) rfl ⟨rfl,rfl,rfl,trivial⟩
  ·refine TC_seq (TC_region (TLv (V_bin rfl rfl (fun w=>eqlI w suite 4867)) ?_))
   refine TVa ?_
   obtain ⟨x3,hx3,H⟩:=ltt_elim H
   refine TLr 10 (congrArg vb hx3) ?_
   refine TL_nil (TX_next (TCb H (fun hc H=>?_) (fun hc H=>?_)))
   ·refine TC_seq (TC_region (TVa ?_))
    refine TVa ?_
    refine TVa ?_
    refine TL_nil (TX_next (TC_ret (TX_block_ret (TX_then_ret ?_))))
    obtain rfl:=sj H
    exact TXr (vs:=[_,_,_]) rfl ⟨rfl,rfl,rfl,trivial⟩
   ·refine TC_skip (TX_block_normal (TX_next (TC_seq (TC_region (TVa ?_)))))
    refine TVa ?_
    refine TVa ?_
    refine TL_nil (TX_next (TC_ret ?_))
    obtain rfl:=sj H
    exact TXr (vs:=[_,_,_]) rfl ⟨rfl,rfl,rfl,trivial⟩
end Go.Proofs
end

section
namespace Go.Proofs
open Go Go.Kx
open TryzI Tryz
def hello_suite (x:Int):Option (Bool) :=
 (aead_Sizes x).bind fun (r_1:Int × Int × Int)=>(ltt (decide (r_1.2.2=0)) fun (x1:Bool)=>(some x1))
set_option maxHeartbeats 4000000 in
set_option maxRecDepth 20000 in
theorem F44_calls (x:Int) (r:Bool) (H:hello_suite x=some r) :
  Does Tryz.prog 44 [vi x] [] [] (Γ:=Unit) (fun g=>vb r) (fun g=>[]):=by
 intro w hmem hro hd
 refine calls_of (N:=14) (m0:=[(0,vi x)]) func44 rfl ntmps44 (argM_ok [vi x]) rfl hmem hro hd ?_
 unfold hello_suite at H
 refine TC_seq (TC_region (TVa ?_))
 refine TL_nil (TX_next (TC_seq (TC_region (TVm ?_))))
 obtain ⟨r_1,hr_1,H⟩:=bind_elim H
 refine TLe (E_c0 (F70_calls x r_1 hr_1) call70 .z) (fun g_1=>?_)
 refine TVm ?_
 refine TLv V_ex ?_
 refine TLv V_ex ?_
 refine TLv V_ex ?_
 refine TVa ?_
 refine TVa ?_
 refine TVa ?_
 refine TL_nil (TX_next (TC_seq (TC_region (TVm ?_))))
 refine TLv (V_bin rfl rfl (fun w=>eqlI w r_1.2.2 0)) ?_
 refine TVa ?_
 obtain ⟨x1,hx1,H⟩:=ltt_elim H
 refine TLr 2 (congrArg vb hx1) ?_
 refine TL_nil (TX_next (TC_ret ?_))
 obtain rfl:=sj H
 exact TX1
end Go.Proofs
end

section
namespace Go.Proofs
open Go Go.Kx
open TryzI Tryz
def hello_group (x:Int):Option (Bool) :=
 if x=29 then (some true) else (ltt (decide (x=23)) fun (x1:Bool)=>(some x1))
set_option maxHeartbeats 4000000 in
set_option maxRecDepth 20000 in
theorem F45_calls (x:Int) (r:Bool) (H:hello_group x=some r) :
  Does Tryz.prog 45 [vi x] [] [] (Γ:=Unit) (fun g=>vb r) (fun g=>[]):=by
 intro w hmem hro hd
 refine calls_of (N:=9) (m0:=[(0,vi x)]) func45 rfl ntmps45 (argM_ok [vi x]) rfl hmem hro hd ?_
 unfold hello_group at H
 refine TC_seq (TC_region (TVa ?_))
 refine TL_nil (TX_next (TC_seq (TC_region (TVm ?_))))
 refine TLv (V_bin rfl rfl (fun w=>eqlI w x 29)) ?_
 refine TVm ?_
 refine TFd (d:=5) H (fun hc H=>?_) (fun hc H=>?_)
 ·refine TLs ?_
  refine TLs ?_
  refine TVt ?_
  refine TVa ?_
  refine TL_nil (TX_next (TC_ret ?_))
  obtain rfl:=sj H
  exact TX1
 ·refine TLw (V_move rfl) ?_
  refine TLw (V_bin rfl rfl (fun w=>eqlI w x 23)) ?_
  refine TVf ?_
  refine TVa ?_
  obtain ⟨x1,hx1,H⟩:=ltt_elim H
  refine TLr 2 (congrArg vb hx1) ?_
  refine TL_nil (TX_next (TC_ret ?_))
  obtain rfl:=sj H
  exact TX1
end Go.Proofs
end

section
namespace Go.Proofs
open Go Go.Kx
open TryzI Tryz
def hello_each_fn2_44.b0 (xs:List (Int)) (s0:Int):Option ((Int) ⊕ ((Unit) ⊕ (Bool))) :=
 if s0<((xs).length:Int) then (if 0≤s0∧s0<((xs).length:Int) then (ltt (lg xs ((s0).toNat)) fun (x1:Int)=>((hello_suite x1).bind fun (r_2:Bool)=>((if (!r_2)=true then (some true) else (if 0≤s0 then (if (s0).toNat≤(xs).length then (if (s0).toNat≤(xs).length then (if (s0).toNat≤(xs).length then ((slices_Contains___int_int_ (subL xs 0 ((s0).toNat)) x1).bind fun (r_3:Bool)=>(some r_3)) else none) else none) else none) else none)).bind fun (j1:Bool)=>(if j1=true then (some (.inr (.inr false))) else (some (.inl (w64 (s0+1)))))))) else none) else (some (.inr (.inl ())))
def hello_each_fn2_44 (xs:List (Int)) (most:Int):Option (Bool) :=
 (hello_in ((xs).length:Int) 1 most).bind fun (r_1:Bool)=>(if (!r_1)=true then (some false) else ((loop (hello_each_fn2_44.b0 xs) BIG 0).bind fun (t_1:(Unit) ⊕ (Bool))=>(match t_1 with | .inl t_1=>(some true) | .inr rv=>some rv)))
def hello_each_fn2_45.b0 (xs:List (Int)) (s0:Int):Option ((Int) ⊕ ((Unit) ⊕ (Bool))) :=
 if s0<((xs).length:Int) then (if 0≤s0∧s0<((xs).length:Int) then (ltt (lg xs ((s0).toNat)) fun (x1:Int)=>((hello_group x1).bind fun (r_2:Bool)=>((if (!r_2)=true then (some true) else (if 0≤s0 then (if (s0).toNat≤(xs).length then (if (s0).toNat≤(xs).length then (if (s0).toNat≤(xs).length then ((slices_Contains___int_int_ (subL xs 0 ((s0).toNat)) x1).bind fun (r_3:Bool)=>(some r_3)) else none) else none) else none) else none)).bind fun (j1:Bool)=>(if j1=true then (some (.inr (.inr false))) else (some (.inl (w64 (s0+1)))))))) else none) else (some (.inr (.inl ())))
def hello_each_fn2_45 (xs:List (Int)) (most:Int):Option (Bool) :=
 (hello_in ((xs).length:Int) 1 most).bind fun (r_1:Bool)=>(if (!r_1)=true then (some false) else ((loop (hello_each_fn2_45.b0 xs) BIG 0).bind fun (t_1:(Unit) ⊕ (Bool))=>(match t_1 with | .inl t_1=>(some true) | .inr rv=>some rv)))
set_option maxHeartbeats 4000000 in
set_option maxRecDepth 20000 in
theorem F43_fn2_44_calls (Axs:Adr) (cxs:Nat) (xs:List (Int)) (most:Int) (hcxs:(xs).length≤cxs) (r:Bool) (H:hello_each_fn2_44 xs most=some r) :
  Does Tryz.prog 43 [sl Axs ((xs).length) cxs,vi most,Value.func (.func 44) #[] #[]] [] [⟨Axs,eI xs⟩] (Γ:=Unit) (fun g=>vb r) (fun g=>[]):=by
 intro w hmem hro hd
 refine calls_of (N:=33) (m0:=[(0,sl Axs ((xs).length) cxs),(1,vi most),(2,Value.func (.func 44) #[] #[])]) func43 rfl ntmps43 (argM_ok [sl Axs ((xs).length) cxs,vi most,Value.func (.func 44) #[] #[]]) rfl hmem hro hd ?_
 unfold hello_each_fn2_44 at H
 refine TC_seq (TC_region (TVa ?_))
 refine TL_nil (TX_next (TC_seq (TC_seq (TC_region (TVm ?_)))))
 refine TLv (V_len_slice rfl underlying22) ?_
 refine TVm ?_
 obtain ⟨r_1,hr_1,H⟩:=bind_elim H
 refine TLe (E_c0 (F46_calls ((xs).length:Int) 1 most r_1 hr_1) call46 .z) (fun g_1=>?_)
 refine TLv (V_un rfl (fun w=>notB w r_1)) ?_
 refine TL_nil (TX_next (TCb H (fun hc H=>?_) (fun hc H=>?_)))
 ·refine TC_seq (TC_region (TVa ?_))
  refine TL_nil (TX_next (TC_ret (TX_then_ret ?_)))
  obtain rfl:=sj H
  exact TX1
 ·refine TC_skip (TX_next (TC_seq (TC_seq (TC_region (TVm ?_)))))
  refine TLv (V_len_slice rfl underlying22) ?_
  refine TVm ?_
  refine TL_nil (TX_next (TC_block ?_))
  obtain ⟨t_1,Hl,H⟩:=bind_elim H
  refine TC.sub (m':=[(0,_),(2,_),(14,_),(15,_),(16,_)]) ⟨rfl,rfl,rfl,rfl,rfl,trivial⟩ ?_
  refine TC.pull (is:=[]) (L':=[]) rfl ?_
  refine TC_loopR (id:=0) (body:=(hello_each_fn2_44.b0 xs)) (σ:=Int) (Γ:=Unit) (Γx:=Unit) (fun s0 g0_=>[(0,sl Axs ((xs).length) cxs),(2,Value.func (.func 44) #[] #[]),(14,sl Axs ((xs).length) cxs),(15,vi ((xs).length:Int)),(16,vi s0)]) (fun s0 g0_=>[]) (fun t g=>[]) (fun t g=>[]) r ?_ BIG 0 () t_1 Hl ?_
  ·intro s0 g0_ r1 H K hK hE hR1
   unfold hello_each_fn2_44.b0 at H
   refine TC_seq (TC_region (TLv (V_bin rfl rfl (fun w=>lssI w s0 ((xs).length:Int))) ?_))
   refine TL_nil (TX_next (TC_seq (TCd H (fun hc H=>?_) (fun hc H=>?_))))
   ·refine TC_skip (TX_next (TC_seq (TC_block (TC_seq (TC_region (TVm ?_))))))
    obtain ⟨h1,H⟩:=if_elim H
    refine TLv (V_idxSlS (i:=s0) rfl rfl underlying22 inf3 rfl (.r 0) (map_ne (toNat_lt h1.1 h1.2)) h1.1 h1.2 (k:=(s0).toNat) (km1 _)) ?_
    refine TLv (V_load rfl (.r 0) (get_map (f:=vi) (l:=xs) (toNat_lt h1.1 h1.2)) isAgg3) ?_
    refine TVa ?_
    refine TVa ?_
    obtain ⟨x1,hx1,H⟩:=ltt_elim H
    refine TLr 8 (congrArg vi hx1) ?_
    refine TL_nil (TX_next (TC_seq (TC_region (TVm ?_))))
    refine TVm ?_
    obtain ⟨r_2,hr_2,H⟩:=bind_elim H
    refine TLe (E_c0V (vs:=[vi x1]) (cap:=[]) (F44_calls x1 r_2 hr_2) call44 .z) (fun g_2=>?_)
    refine TLv (V_un rfl (fun w=>notB w r_2)) ?_
    refine TVm ?_
    obtain ⟨j1,Hj,H⟩:=bind_elim H
    refine TL_join (Γ:=Unit) (fun gj1=>[(0,sl Axs ((xs).length) cxs),(2,Value.func (.func 44) #[] #[]),(14,sl Axs ((xs).length) cxs),(15,vi ((xs).length:Int)),(16,vi s0),(31,vb j1)]) (fun gj1=>[]) ?_ ?_
    ·intro gj1
     refine TX_next (TCb H (fun hc H=>?_) (fun hc H=>?_))
     ·refine TC_seq (TC_region (TVa ?_))
      refine TL_nil (TX_next (TC_ret (TX_block_ret (TX_then_ret (TX_then_ret (TX_block_ret (TX_then_ret ?_)))))))
      have hrv:=(hR1 _ (Option.some.inj H).symm)
      subst hrv
      exact TX1
     ·refine TC_skip (TX_block_normal (TX_next (TC_region (TLv (V_bin rfl rfl (fun w=>addI w s0 1)) ?_))))
      refine TVm ?_
      refine TL_nil ?_
      obtain rfl:=sj H
      exact TXk [] (hK (w64 (s0+1)) rfl ())
    ·intro hJ
     replace H:=Hj
     refine TFb (d:=25) H (fun hc H=>?_) (fun hc H=>?_)
     ·refine TLs ?_
      refine TLs ?_
      refine TLs ?_
      refine TLs ?_
      refine TLs ?_
      refine TVt ?_
      refine TL_nil ?_
      obtain rfl:=sj H
      exact TXj [] (hJ ())
     ·refine TLw (V_move rfl) ?_
      refine TLw (V_move rfl) ?_
      obtain ⟨h2,H⟩:=if_elim H
      obtain ⟨h3,H⟩:=if_elim H
      refine TLw (V_sliceVw0 (l:=0) (h:=(s0).toNat) rfl underlying22 inf3 rfl Bnd.none' (Bnd.some' (i:=s0) rfl h2) (Nat.zero_le _) (Nat.le_trans h3 hcxs)) ?_
      refine TLw (V_move rfl) ?_
      obtain ⟨h4,H⟩:=if_elim H
      obtain ⟨h5,H⟩:=if_elim H
      refine TL_re (d:=28) (v:=sl (cutB Axs cxs 0 0 1) (((s0).toNat) - 0) (cxs - 0)) (v':=sl (cutB Axs cxs 0 0 1) ((subL xs 0 ((s0).toNat)).length) (cxs - 0)) rfl (congrArg (fun n=>sl (cutB Axs cxs 0 0 1) n (cxs - 0)) (subL_length h5).symm) ?_
      obtain ⟨r_3,hr_3,H⟩:=bind_elim H
      refine TLu (E_c0 (F62_calls (cutB Axs cxs 0 0 1) (cxs - 0) (subL xs 0 ((s0).toNat)) x1 (vwL_cap h4 (Nat.le_trans h3 hcxs)) r_3 hr_3) call62 ⟨(srcdVwL (f:=vi) (lst:=xs) (SrcD.ro (j:=0) rfl) (Nat.le_trans h3 hcxs)),trivial⟩) (fun g_3=>?_)
      refine TL_re (d:=28) (v:=sl (cutB Axs cxs 0 0 1) ((subL xs 0 ((s0).toNat)).length) (cxs - 0)) (v':=sl (cutB Axs cxs 0 0 1) (((s0).toNat) - 0) (cxs - 0)) rfl (congrArg (fun n=>sl (cutB Axs cxs 0 0 1) n (cxs - 0)) (subL_length h5)) ?_
      refine TVf ?_
      refine TL_nil ?_
      obtain rfl:=sj H
      exact TXj [] (hJ ())
   ·refine TC_exit (TX_then_exit (TX_then_exit ?_))
    obtain rfl:=sj H
    exact TXj [] (hE () rfl ())
  ·rcases t_1 with t_1 | rv
   ·intro gx1
    dsimp only at H
    refine TX_block_exit (TX_next (TC_seq (TC_region (TVa ?_))))
    refine TL_nil (TX_next (TC_ret ?_))
    obtain rfl:=sj H
    exact TX1
   ·exact (Option.some.inj H)
set_option maxHeartbeats 4000000 in
set_option maxRecDepth 20000 in
theorem F43_fn2_45_calls (Axs:Adr) (cxs:Nat) (xs:List (Int)) (most:Int) (hcxs:(xs).length≤cxs) (r:Bool) (H:hello_each_fn2_45 xs most=some r) :
  Does Tryz.prog 43 [sl Axs ((xs).length) cxs,vi most,Value.func (.func 45) #[] #[]] [] [⟨Axs,eI xs⟩] (Γ:=Unit) (fun g=>vb r) (fun g=>[]):=by
 intro w hmem hro hd
 refine calls_of (N:=33) (m0:=[(0,sl Axs ((xs).length) cxs),(1,vi most),(2,Value.func (.func 45) #[] #[])]) func43 rfl ntmps43 (argM_ok [sl Axs ((xs).length) cxs,vi most,Value.func (.func 45) #[] #[]]) rfl hmem hro hd ?_
 unfold hello_each_fn2_45 at H
 refine TC_seq (TC_region (TVa ?_))
 refine TL_nil (TX_next (TC_seq (TC_seq (TC_region (TVm ?_)))))
 refine TLv (V_len_slice rfl underlying22) ?_
 refine TVm ?_
 obtain ⟨r_1,hr_1,H⟩:=bind_elim H
 refine TLe (E_c0 (F46_calls ((xs).length:Int) 1 most r_1 hr_1) call46 .z) (fun g_1=>?_)
 refine TLv (V_un rfl (fun w=>notB w r_1)) ?_
 refine TL_nil (TX_next (TCb H (fun hc H=>?_) (fun hc H=>?_)))
 ·refine TC_seq (TC_region (TVa ?_))
  refine TL_nil (TX_next (TC_ret (TX_then_ret ?_)))
  obtain rfl:=sj H
  exact TX1
 ·refine TC_skip (TX_next (TC_seq (TC_seq (TC_region (TVm ?_)))))
  refine TLv (V_len_slice rfl underlying22) ?_
  refine TVm ?_
  refine TL_nil (TX_next (TC_block ?_))
  obtain ⟨t_1,Hl,H⟩:=bind_elim H
  refine TC.sub (m':=[(0,_),(2,_),(14,_),(15,_),(16,_)]) ⟨rfl,rfl,rfl,rfl,rfl,trivial⟩ ?_
  refine TC.pull (is:=[]) (L':=[]) rfl ?_
  refine TC_loopR (id:=0) (body:=(hello_each_fn2_45.b0 xs)) (σ:=Int) (Γ:=Unit) (Γx:=Unit) (fun s0 g0_=>[(0,sl Axs ((xs).length) cxs),(2,Value.func (.func 45) #[] #[]),(14,sl Axs ((xs).length) cxs),(15,vi ((xs).length:Int)),(16,vi s0)]) (fun s0 g0_=>[]) (fun t g=>[]) (fun t g=>[]) r ?_ BIG 0 () t_1 Hl ?_
  ·intro s0 g0_ r1 H K hK hE hR1
   unfold hello_each_fn2_45.b0 at H
   refine TC_seq (TC_region (TLv (V_bin rfl rfl (fun w=>lssI w s0 ((xs).length:Int))) ?_))
   refine TL_nil (TX_next (TC_seq (TCd H (fun hc H=>?_) (fun hc H=>?_))))
   ·refine TC_skip (TX_next (TC_seq (TC_block (TC_seq (TC_region (TVm ?_))))))
    obtain ⟨h1,H⟩:=if_elim H
    refine TLv (V_idxSlS (i:=s0) rfl rfl underlying22 inf3 rfl (.r 0) (map_ne (toNat_lt h1.1 h1.2)) h1.1 h1.2 (k:=(s0).toNat) (km1 _)) ?_
    refine TLv (V_load rfl (.r 0) (get_map (f:=vi) (l:=xs) (toNat_lt h1.1 h1.2)) isAgg3) ?_
    refine TVa ?_
    refine TVa ?_
    obtain ⟨x1,hx1,H⟩:=ltt_elim H
    refine TLr 8 (congrArg vi hx1) ?_
    refine TL_nil (TX_next (TC_seq (TC_region (TVm ?_))))
    refine TVm ?_
    obtain ⟨r_2,hr_2,H⟩:=bind_elim H
    refine TLe (E_c0V (vs:=[vi x1]) (cap:=[]) (F45_calls x1 r_2 hr_2) call45 .z) (fun g_2=>?_)
    refine TLv (V_un rfl (fun w=>notB w r_2)) ?_
    refine TVm ?_
    obtain ⟨j1,Hj,H⟩:=bind_elim H
    refine TL_join (Γ:=Unit) (fun gj1=>[(0,sl Axs ((xs).length) cxs),(2,Value.func (.func 45) #[] #[]),(14,sl Axs ((xs).length) cxs),(15,vi ((xs).length:Int)),(16,vi s0),(31,vb j1)]) (fun gj1=>[]) ?_ ?_
    ·intro gj1
     refine TX_next (TCb H (fun hc H=>?_) (fun hc H=>?_))
     ·refine TC_seq (TC_region (TVa ?_))
      refine TL_nil (TX_next (TC_ret (TX_block_ret (TX_then_ret (TX_then_ret (TX_block_ret (TX_then_ret ?_)))))))
      have hrv:=(hR1 _ (Option.some.inj H).symm)
      subst hrv
      exact TX1
     ·refine TC_skip (TX_block_normal (TX_next (TC_region (TLv (V_bin rfl rfl (fun w=>addI w s0 1)) ?_))))
      refine TVm ?_
      refine TL_nil ?_
      obtain rfl:=sj H
      exact TXk [] (hK (w64 (s0+1)) rfl ())
    ·intro hJ
     replace H:=Hj
     refine TFb (d:=25) H (fun hc H=>?_) (fun hc H=>?_)
     ·refine TLs ?_
      refine TLs ?_
      refine TLs ?_
      refine TLs ?_
      refine TLs ?_
      refine TVt ?_
      refine TL_nil ?_
      obtain rfl:=sj H
      exact TXj [] (hJ ())
     ·refine TLw (V_move rfl) ?_
      refine TLw (V_move rfl) ?_
      obtain ⟨h2,H⟩:=if_elim H
      obtain ⟨h3,H⟩:=if_elim H
      refine TLw (V_sliceVw0 (l:=0) (h:=(s0).toNat) rfl underlying22 inf3 rfl Bnd.none' (Bnd.some' (i:=s0) rfl h2) (Nat.zero_le _) (Nat.le_trans h3 hcxs)) ?_
      refine TLw (V_move rfl) ?_
      obtain ⟨h4,H⟩:=if_elim H
      obtain ⟨h5,H⟩:=if_elim H
      refine TL_re (d:=28) (v:=sl (cutB Axs cxs 0 0 1) (((s0).toNat) - 0) (cxs - 0)) (v':=sl (cutB Axs cxs 0 0 1) ((subL xs 0 ((s0).toNat)).length) (cxs - 0)) rfl (congrArg (fun n=>sl (cutB Axs cxs 0 0 1) n (cxs - 0)) (subL_length h5).symm) ?_
      obtain ⟨r_3,hr_3,H⟩:=bind_elim H
      refine TLu (E_c0 (F62_calls (cutB Axs cxs 0 0 1) (cxs - 0) (subL xs 0 ((s0).toNat)) x1 (vwL_cap h4 (Nat.le_trans h3 hcxs)) r_3 hr_3) call62 ⟨(srcdVwL (f:=vi) (lst:=xs) (SrcD.ro (j:=0) rfl) (Nat.le_trans h3 hcxs)),trivial⟩) (fun g_3=>?_)
      refine TL_re (d:=28) (v:=sl (cutB Axs cxs 0 0 1) ((subL xs 0 ((s0).toNat)).length) (cxs - 0)) (v':=sl (cutB Axs cxs 0 0 1) (((s0).toNat) - 0) (cxs - 0)) rfl (congrArg (fun n=>sl (cutB Axs cxs 0 0 1) n (cxs - 0)) (subL_length h5)) ?_
      refine TVf ?_
      refine TL_nil ?_
      obtain rfl:=sj H
      exact TXj [] (hJ ())
   ·refine TC_exit (TX_then_exit (TX_then_exit ?_))
    obtain rfl:=sj H
    exact TXj [] (hE () rfl ())
  ·rcases t_1 with t_1 | rv
   ·intro gx1
    dsimp only at H
    refine TX_block_exit (TX_next (TC_seq (TC_region (TVa ?_))))
    refine TL_nil (TX_next (TC_ret ?_))
    obtain rfl:=sj H
    exact TX1
   ·exact (Option.some.inj H)
end Go.Proofs
end

section
namespace Go.Proofs
open Go Go.Kx
open Vector (replicate)
open TryzI Tryz
def num_modulus (which:Int):Option (Vx 64 4 × Bool) :=
 ltt (decide (which=0)) fun (x1:Bool)=>(if x1=true then (ltt ((#v[18446744073709551615#64,4294967295#64,0#64,18446744069414584321#64]:Vx 64 4)) fun (m_1:Vx 64 4)=>(some (m_1,true))) else (ltt (decide (which=1)) fun (x2:Bool)=>(if x2=true then (ltt ((#v[17562291160714782033#64,13611842547513532036#64,18446744073709551615#64,18446744069414584320#64]:Vx 64 4)) fun (m_2:Vx 64 4)=>(some (m_2,true))) else (ltt (decide (which=2)) fun (x3:Bool)=>(if x3=true then (ltt ((#v[18446744073709551597#64,18446744073709551615#64,18446744073709551615#64,9223372036854775807#64]:Vx 64 4)) fun (m_3:Vx 64 4)=>(some (m_3,true))) else (ltt ((replicate 4 0#64:Vx 64 4)) fun (m_4:Vx 64 4)=>(some (m_4,false))))))))
set_option maxHeartbeats 4000000 in
set_option maxRecDepth 20000 in
theorem F104_calls (which:Int) (r:Vx 64 4 × Bool) (H:num_modulus which=some r) :
  Does Tryz.prog 104 [vi which] [] [] (Γ:=Unit) (fun g=>Value.tuple [aG [(4,e64 r.1.toList)],vb r.2].toArray) (fun g=>[]):=by
 intro w hmem hro hd
 refine calls_of (N:=15) (m0:=[(0,vi which)]) func104 rfl ntmps104 (argM_ok [vi which]) rfl hmem hro hd ?_
 unfold num_modulus at H
 refine TC_seq (TC_region (TLe (E_al64 4 inf117 zer117) (fun b1=>?_)))
 refine TVa ?_
 refine TL_nil (TX_next (TC_seq (TC_seq (TC_region (TVm ?_)))))
 refine TL_nil (TX_next (TC_block (TC_seq (TC_region (TLv (V_bin rfl rfl (fun w=>eqlI w which 0)) ?_)))))
 refine TVa ?_
 obtain ⟨x1,hx1,H⟩:=ltt_elim H
 refine TLr 5 (congrArg vb hx1) ?_
 refine TL_nil (TX_next (TCb H (fun hc H=>?_) (fun hc H=>?_)))
 ·refine TC_seq (TC_region (TLv (V_buildArr (pv:=[(0,v64 18446744073709551615#64),(1,v64 4294967295#64),(2,v64 0#64),(3,v64 18446744069414584321#64)]) rfl rfl underlying117 inf117 inf115 rfl zer117 (cs:=e64 ((#v[18446744073709551615#64,4294967295#64,0#64,18446744069414584321#64]:Vx 64 4).toList)) (by kernel_rfl)) ?_))
  refine TLn (E_sv 0 inf117) (fun _=>?_)
  obtain ⟨m_1,hm_1,H⟩:=ltt_elim H
  refine TL_reE (j:=0) (A:=some (b1,0)) (cs:=e64 ((#v[18446744073709551615#64,4294967295#64,0#64,18446744069414584321#64]:Vx 64 4).toList)) (cs':=e64 m_1.toList) rfl (congrArg (fun z:Vx 64 4=>e64 (Vector.toList z)) hm_1) ?_
  refine TVa ?_
  refine TL_nil (TX_next (TC_ret (TX_block_ret (TX_then_ret ?_))))
  obtain rfl:=sj H
  exact TXr (vs:=[_,_]) rfl ⟨(Res_agg (n:=4) rfl (by simp) (.o 0) isAgg117 inf117 rfl (lenV (f:=v64) m_1)),rfl,trivial⟩
 ·refine TC_seq (TC_region (TLv (V_bin rfl rfl (fun w=>eqlI w which 1)) ?_))
  refine TVa ?_
  obtain ⟨x2,hx2,H⟩:=ltt_elim H
  refine TLr 8 (congrArg vb hx2) ?_
  refine TL_nil (TX_next (TCb H (fun hc H=>?_) (fun hc H=>?_)))
  ·refine TC_seq (TC_region (TLv (V_buildArr (pv:=[(0,v64 17562291160714782033#64),(1,v64 13611842547513532036#64),(2,v64 18446744073709551615#64),(3,v64 18446744069414584320#64)]) rfl rfl underlying117 inf117 inf115 rfl zer117 (cs:=e64 ((#v[17562291160714782033#64,13611842547513532036#64,18446744073709551615#64,18446744069414584320#64]:Vx 64 4).toList)) (by kernel_rfl)) ?_))
   refine TLn (E_sv 0 inf117) (fun _=>?_)
   obtain ⟨m_2,hm_2,H⟩:=ltt_elim H
   refine TL_reE (j:=0) (A:=some (b1,0)) (cs:=e64 ((#v[17562291160714782033#64,13611842547513532036#64,18446744073709551615#64,18446744069414584320#64]:Vx 64 4).toList)) (cs':=e64 m_2.toList) rfl (congrArg (fun z:Vx 64 4=>e64 (Vector.toList z)) hm_2) ?_
   refine TVa ?_
   refine TL_nil (TX_next (TC_ret (TX_block_ret (TX_then_ret ?_))))
   obtain rfl:=sj H
   exact TXr (vs:=[_,_]) rfl ⟨(Res_agg (n:=4) rfl (by simp) (.o 0) isAgg117 inf117 rfl (lenV (f:=v64) m_2)),rfl,trivial⟩
  ·refine TC_seq (TC_region (TLv (V_bin rfl rfl (fun w=>eqlI w which 2)) ?_))
   refine TVa ?_
   obtain ⟨x3,hx3,H⟩:=ltt_elim H
   refine TLr 11 (congrArg vb hx3) ?_
   refine TL_nil (TX_next (TCb H (fun hc H=>?_) (fun hc H=>?_)))
   ·refine TC_seq (TC_region (TLv (V_buildArr (pv:=[(0,v64 18446744073709551597#64),(1,v64 18446744073709551615#64),(2,v64 18446744073709551615#64),(3,v64 9223372036854775807#64)]) rfl rfl underlying117 inf117 inf115 rfl zer117 (cs:=e64 ((#v[18446744073709551597#64,18446744073709551615#64,18446744073709551615#64,9223372036854775807#64]:Vx 64 4).toList)) (by kernel_rfl)) ?_))
    refine TLn (E_sv 0 inf117) (fun _=>?_)
    obtain ⟨m_3,hm_3,H⟩:=ltt_elim H
    refine TL_reE (j:=0) (A:=some (b1,0)) (cs:=e64 ((#v[18446744073709551597#64,18446744073709551615#64,18446744073709551615#64,9223372036854775807#64]:Vx 64 4).toList)) (cs':=e64 m_3.toList) rfl (congrArg (fun z:Vx 64 4=>e64 (Vector.toList z)) hm_3) ?_
    refine TVa ?_
    refine TL_nil (TX_next (TC_ret (TX_block_ret (TX_then_ret ?_))))
    obtain rfl:=sj H
    exact TXr (vs:=[_,_]) rfl ⟨(Res_agg (n:=4) rfl (by simp) (.o 0) isAgg117 inf117 rfl (lenV (f:=v64) m_3)),rfl,trivial⟩
   ·refine TC_skip (TX_block_normal (TX_next (TC_seq (TC_region (TLv (V_buildArr (pv:=[]) rfl rfl underlying117 inf117 inf115 rfl zer117 (cs:=e64 ((replicate 4 0#64:Vx 64 4).toList)) (by kernel_rfl)) ?_)))))
    refine TLn (E_sv 0 inf117) (fun _=>?_)
    obtain ⟨m_4,hm_4,H⟩:=ltt_elim H
    refine TL_reE (j:=0) (A:=some (b1,0)) (cs:=e64 ((replicate 4 0#64:Vx 64 4).toList)) (cs':=e64 m_4.toList) rfl (congrArg (fun z:Vx 64 4=>e64 (Vector.toList z)) hm_4) ?_
    refine TVa ?_
    refine TL_nil (TX_next (TC_ret ?_))
    obtain rfl:=sj H
    exact TXr (vs:=[_,_]) rfl ⟨(Res_agg (n:=4) rfl (by simp) (.o 0) isAgg117 inf117 rfl (lenV (f:=v64) m_4)),rfl,trivial⟩
end Go.Proofs
end

section
namespace Go.Kx
open Go Go.Proofs
theorem V_ext {C:Ctx} {m:Sl} {L:Mem} {dst ty pos af gd} {xs:List Operand} {ats:Array TypeId} {f:FuncId} {vs:List Value} {v:Value}
  (hxs:evs m xs=some vs) (hx : ∀ w,(callFunc f vs.toArray).run C.P w = .ok (.value v) w) :
  OpV C ⟨dst, .call ⟨.value (.func f),xs.toArray,ats⟩,ty,pos,af,gd⟩ m L v:=fun a w hs=>by
 have hargs:xs.toArray.map a.eval=vs.toArray:=by simp [hs.slots.evs hxs]
 have hfv:a.eval (.func f) = .func (.func f) #[] #[]:=rfl
 simp only [execOp,resolve,hargs,hfv,Deferred.ofValue]
 simp [invoke,hx]
def math_bits_Add64 (x y c:BitVec 64):Option (BitVec 64 × BitVec 64) :=
 if c.toNat≤1 then some (BitVec.ofNat 64 (x.toNat+y.toNat+c.toNat),BitVec.ofNat 64 ((x.toNat+y.toNat+c.toNat) / 18446744073709551616)) else none
def math_bits_Sub64 (x y c:BitVec 64):Option (BitVec 64 × BitVec 64) :=
 if c.toNat≤1 then some (BitVec.ofNat 64 (x.toNat+18446744073709551616 - y.toNat - c.toNat),if x.toNat<y.toNat+c.toNat then 1#64 else 0#64) else none
theorem ext_add {P:Program} {f:FuncId} {fn:Func} (hf:P.funcs[f]? = some fn) (h1:(fn.name == "runtime.NumGoroutine")=false) (h2:fn.body.isNone=true) (h3:Extern.findNext fn=none)
  (h4:Extern.find fn=some add64Entry) {x y c:BitVec 64} {r:BitVec 64 × BitVec 64} (H:math_bits_Add64 x y c=some r) (w:World) :
  (callFunc f ([v64 x,v64 y,v64 c]:List Value).toArray).run P w = .ok (.value (.tuple #[v64 r.1,v64 r.2])) w:=by
 unfold math_bits_Add64 at H
 split at H
 ·rename_i hc
  cases H
  have hx:=x.isLt
  have hy:=y.isLt
  refine (run_callFunc_extern hf h1 h2 h3 h4 _ w).trans ?_
  have:=run_add64 (P:=P) (x.toNat:Int) y.toNat c.toNat (by omega) (by omega) (by omega) (by omega) w
  refine (congrArg (fun r=>Result.andThen r _) this).trans ?_
  have e1:((x.toNat:Int)+y.toNat+c.toNat) % 18446744073709551616=(((x.toNat+y.toNat+c.toNat) % 2 ^ 64:Nat):Int):=by omega
  have e2:((x.toNat:Int)+y.toNat+c.toNat) / 18446744073709551616=(((x.toNat+y.toNat+c.toNat) / 18446744073709551616 % 2 ^ 64:Nat):Int):=by omega
  rw [e1,e2]
  simp only [Result.andThen,v64,BitVec.toNat_ofNat]
 ·cases H
theorem ext_sub {P:Program} {f:FuncId} {fn:Func} (hf:P.funcs[f]? = some fn) (h1:(fn.name == "runtime.NumGoroutine")=false) (h2:fn.body.isNone=true) (h3:Extern.findNext fn=none)
  (h4:Extern.find fn=some sub64Entry) {x y c:BitVec 64} {r:BitVec 64 × BitVec 64} (H:math_bits_Sub64 x y c=some r) (w:World) :
  (callFunc f ([v64 x,v64 y,v64 c]:List Value).toArray).run P w = .ok (.value (.tuple #[v64 r.1,v64 r.2])) w:=by
 unfold math_bits_Sub64 at H
 split at H
 ·rename_i hc
  cases H
  refine (run_callFunc_extern hf h1 h2 h3 h4 _ w).trans ?_
  have:=run_sub64 (P:=P) x.toNat y.toNat c.toNat hc w
  refine (congrArg (fun r=>Result.andThen r _) this).trans ?_
  simp only [Result.andThen,v64,BitVec.toNat_ofNat]
  congr 5
  split <;> rfl
 ·cases H
end Go.Kx
end
