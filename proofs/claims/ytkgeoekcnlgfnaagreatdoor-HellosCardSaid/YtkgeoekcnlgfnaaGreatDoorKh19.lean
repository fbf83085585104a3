/-
  Part 19 of the proof of what several laws share.
-/
import Derived.Test.YtkgeoekcnlgfnaaGreatDoorKh7
set_option maxHeartbeats 4000000
set_option maxRecDepth 20000
set_option linter.unusedVariables false
set_option linter.unusedSimpArgs false
section
namespace Go.Kx
open Go
section
variable {C:Ctx} {m:Sl} {L:Mem} {dst:Option Tmp} {ty:TypeId} {pos:String} {af:Array Edge} {gd:Option (Nat × Bool)}
theorem EU {g:Operand} {xs:List Operand} {ats:Array TypeId} {f:FuncId} {cap vs:List Value} {Qf Ro R:Mem} {is:List Nat} {Γ:Type} {val:Γ → Value} {mem:Γ → Mem}
  (hg:ev m g=some (.func (.func f) #[] cap.toArray)) (hxs:evs m xs=some vs) (hcall : ∀ args w,(callFunc f args).run C.P w = .ok (.enter f args) w) (hf:Does C.P f (vs++cap) Qf Ro val mem) (hp:pull is L=some (Qf,R)) (hro:MW C Qf R Ro) :
  OP C ⟨dst, .call ⟨.value g,xs.toArray,ats⟩,ty,pos,af,gd⟩ m L val (fun g=>mem g++R):=fun a w hs Q K hK=>by
 have h1:Step C.w0 C.L0 w (Qf++R):=hs.step.pulled hp
 have hrun:(execOp a.eval ⟨dst, .call ⟨.value g,xs.toArray,ats⟩,ty,pos,af,gd⟩).run C.P w = .ok (.enter f (vs++cap).toArray) w:=by
  have hargs:xs.toArray.map a.eval=vs.toArray:=by simp [hs.slots.evs hxs]
  have hfv:a.eval g = .func (.func f) #[] cap.toArray:=hs.slots.ev hg
  simp only [execOp,resolve,hargs,hfv,Deferred.ofValue]
  simp [invoke,hcall]
 unfold Oper.wp
 rw [hrun,Oper.upon_enter]
 refine (hf w h1.ok.left (fun e he=>(hro.all e he w h1 hs.ro).1) (fun f hf e he=>(hro.all e he w h1 hs.ro).2 f hf)).mono ?_
 rintro e w' ⟨g,rfl,hg⟩
 exact hK g w' (h1.frame hg)
theorem Cg {g:Operand} {xs:List Operand} {ats:Array TypeId} {f:FuncId} {cap vs:List Value} {Ro:Mem} {Γ:Type} {val:Γ → Value} {mem:Γ → Mem}
  (hf:Does C.P f (vs++cap) [] Ro val mem) (hcall : ∀ args w,(callFunc f args).run C.P w = .ok (.enter f args) w) (hro:MW C [] L Ro) (hg:ev m g=some (.func (.func f) #[] cap.toArray):=by rfl) (hxs:evs m xs=some vs:=by rfl) :
  OP C ⟨dst, .call ⟨.value g,xs.toArray,ats⟩,ty,pos,af,gd⟩ m L val (fun g=>mem g++L):=EU hg hxs hcall hf (MW.Dv L) hro
theorem Kk {f:Fn} {cap:List Operand} {cv:List Value} (hc:evs m cap=some cv):Ou C ⟨dst, .makeFunc f #[] cap.toArray,ty,pos,af,gd⟩ m L (.func f #[] cv.toArray):=fun a w hs=>by
 have hargs:cap.toArray.map a.eval=cv.toArray:=by simp [hs.slots.evs hc]
 show ((Instr.makeFunc f (#[].map a.eval) (cap.toArray.map a.eval)) >>= fun r=>pure (Next.value r)).run C.P w=_
 rw [hargs]
 simp [Instr.makeFunc]
end
def TR (C:Ctx) (c:Code) (Q:Exit → Act → World → Prop) (n:Nat) (m:Sl) (L:Mem):Prop := ∀ a w,Sat C m L a w → Code.rounds C.P c Q n a w
section
variable {C:Ctx} {Q:Exit → Act → World → Prop} {c:Code} {m:Sl} {L:Mem} {n:Nat}
theorem oQ (n:Nat) (h:TR C c Q n m L):TC C (.loop c) Q m L:=fun a w hs=>wp_loop_rounds n (h a w hs)
theorem E9 (h:TC C c (Exit.then (Code.rounds C.P c Q n) Q) m L):TR C c Q (n+1) m L:=h
theorem Es (h:TR C c Q n m L):TX C (Exit.then (Code.rounds C.P c Q n) Q) .normal m L:=h
theorem cZ {A:Y6} {cs:List Value} (hsrc:Src C L ⟨A,cs⟩) (h1:A=none → cs=[] → TC C c Q m L) (h2:A ≠ none → TC C c Q m L):TC C c Q m L:=fun a w hs=>by
 by_cases hA:A=none
 ·exact h1 hA ((hsrc w hs.step hs.ro).1 hA) a w hs
 ·exact h2 hA a w hs
end
section
variable {P:Program} (w:World) {t:TypeId} {x y:Operand}
theorem C8 {a b c:Int} (h:ZJ (a+b)=c):(TU .add t x y (vi a) (vi b)).run P w = .ok (vi c) w:=h ▸ XN w a b
theorem yL {op:BinOp} {a b:Option Addr} {n c n' c':Nat}:(eqGuard op t x y (.slice a n c) (.slice b n' c')).run P w = .ok () w:=by
 cases op <;> simp [eqGuard]
theorem abu (d:Nat) {e:TypeId} {A:Y6} {n c:Nat} (ht:P.underlying t=some (.slice e)):(Op.equalIn (d+1) t (sl A n c) (.slice none 0 0)).run P w = .ok A.isNone w:=by
 cases A <;> simp [Op.equalIn,Sem.run_bind,run_underlying ht,sl]
theorem av {e:TypeId} {A:Y6} {n c:Nat} (ht:P.underlying t=some (.slice e)) (hA:A ≠ none):(TU .eql t x y (sl A n c) (.slice none 0 0)).run P w = .ok (vb false) w:=XI w (yL w) (by
 show ((Op.equalIn (9999+1) t (sl A n c) (.slice none 0 0)) >>= fun r=>pure (Value.bool r)).run P w=_
 rw [Sem.run_bind,abu w 9999 ht]
 cases A with
 | none=>exact absurd rfl hA
 | some p=>simp [vb])
theorem iU {e:TypeId} {n c:Nat} (ht:P.underlying t=some (.slice e)):(TU .eql t x y (sl none n c) (.slice none 0 0)).run P w = .ok (vb true) w:=XI w (yL w) (by
 show ((Op.equalIn (9999+1) t (sl none n c) (.slice none 0 0)) >>= fun r=>pure (Value.bool r)).run P w=_
 rw [Sem.run_bind,abu w 9999 ht]
 simp [vb])
end
def PH {α:Type} (l:List α) (lo hi:Nat):List α:=(l.drop lo).take (hi - lo)
theorem TP {α:Type} {l:List α} {lo hi:Nat} (hh:hi≤l.length):(PH l lo hi).length=hi - lo:=by
 simp only [PH,List.length_take,List.length_drop]; omega
theorem EW {α:Type} {c lo hi:Nat} {s:List α} (h:hi≤s.length) (h2:hi≤c):(PH s lo hi).length≤c - lo:=by
 rw [TP h]; omega
theorem Ip {C:Ctx} {Qf R:Mem} {A:Y6} {z:List Value} (hz:z=[]):QH C Qf R ⟨A,z⟩:=by
 subst hz
 exact fun w hs hr=>⟨⟨fun _=>rfl,fun i v hv=>by simp at hv⟩,fun f hf i j hi hj=>by simp at hj⟩
theorem Ap {C:Ctx} {α:Type} {f:α → Value} {Qf R:Mem} {A:Y6} {Db:List α} {c lo hi b:Nat} (hs:QH C Qf R ⟨A,Db.map f⟩) (h2:hi≤c):QH C Qf R ⟨R5 A c lo b 1,(PH Db lo hi).map f⟩:=by
 unfold R5
 split
 ·have:hi - lo=0:=by omega
  have e:PH Db lo hi=[]:=by simp [PH,this]
  rw [e]
  exact fun w hs hr=>⟨⟨fun _=>rfl,fun i v hv=>by simp at hv⟩,fun f hf i j hi hj=>by simp at hj⟩
 ·have:=hs.part (lo * 1) (hi - lo)
  simpa [PH,List.map_take,List.map_drop] using this
theorem BL {α:Type} {g:α → List Value} {s:Nat} (hg : ∀ a,(g a).length=s) : ∀ (l:List α) (k:Nat),((l.map g).flatten).drop (k * s)=((l.drop k).map g).flatten
 | l,0=>by simp
 | [],k+1=>by simp
 | a :: l,k+1=>by
  have e:(k+1) * s=(g a).length+k * s:=by rw [hg,Nat.add_mul,Nat.one_mul,Nat.add_comm]
  rw [List.map_cons,List.flatten_cons,e,List.drop_append,List.drop_eq_nil_of_le (Nat.le_add_right _ _)]
  simpa using BL hg l k
theorem BU {α:Type} {g:α → List Value} {s:Nat} (hg : ∀ a,(g a).length=s) : ∀ (l:List α) (k:Nat),((l.map g).flatten).take (k * s)=((l.take k).map g).flatten
 | l,0=>by simp
 | [],k+1=>by simp
 | a :: l,k+1=>by
  have e:(k+1) * s=(g a).length+k * s:=by rw [hg,Nat.add_mul,Nat.one_mul,Nat.add_comm]
  rw [List.map_cons,List.flatten_cons,e,List.take_append,List.take_of_length_le (Nat.le_add_right _ _)]
  simpa using BU hg l k
theorem iR {C:Ctx} {α:Type} {g:α → List Value} {s:Nat} (hg : ∀ a,(g a).length=s) {Qf R:Mem} {A:Y6} {Db:List α} {c lo hi b:Nat} (hs:QH C Qf R ⟨A,eF g Db⟩) (h2:hi≤c):QH C Qf R ⟨R5 A c lo b s,eF g (PH Db lo hi)⟩:=by
 unfold R5
 split
 ·have:hi - lo=0:=by omega
  have e:PH Db lo hi=[]:=by simp [PH,this]
  rw [e]
  exact fun w hs hr=>⟨⟨fun _=>rfl,fun i v hv=>by simp at hv⟩,fun f hf i j hi hj=>by simp at hj⟩
 ·have:=hs.part (lo * s) ((hi - lo) * s)
  rw [show eF g Db=(Db.map g).flatten from rfl,BL hg,BU hg] at this
  exact this
theorem dC {α:Type} {f:α → Value} {l:List α} (h:l.map f=[]):l=[]:=by simpa using h
def Iq:Nat → Nat × Nat
 | 0=>(0,0)
 | n+1=>match Iq n with
  | (0,b)=>(b+1,0)
  | (a+1,b)=>(a,b+1)
theorem JC : ∀ s b:Nat, ∀ a,a+b=s → ∃ n,Iq n=(a,b)
 | 0,b,a,h=>by
  have h1:a=0:=by omega
  have h2:b=0:=by omega
  subst h1 h2
  exact ⟨0,rfl⟩
 | s+1,0,a,h=>by
  obtain ⟨n,hn⟩:=JC s s 0 (by omega)
  have h1:a=s+1:=by omega
  exact ⟨n+1,by simp only [Iq,hn]; rw [h1]⟩
 | s+1,b+1,a,h=>by
  obtain ⟨n,hn⟩:=JC (s+1) b (a+1) (by omega)
  exact ⟨n+1,by simp only [Iq,hn]⟩
termination_by s b=>(s,b)
def uJ (α:Type):Prop := ∃ f:Nat → α, ∀ a, ∃ n,f n=a
theorem EQ:uJ Nat:=⟨id,fun a=>⟨a,rfl⟩⟩
theorem uJ.prod {α β:Type}:uJ α → uJ β → uJ (α × β):=fun ⟨f,hf⟩ ⟨g,hg⟩=>⟨fun n=>(f (Iq n).1,g (Iq n).2),fun (a,b)=>by
 obtain ⟨i,hi⟩:=hf a
 obtain ⟨j,hj⟩:=hg b
 obtain ⟨n,hn⟩:=JC (i+j) j i rfl
 exact ⟨n,by simp [hn,hi,hj]⟩⟩
theorem uJ.option {α:Type}:uJ α → uJ (Option α):=fun ⟨f,hf⟩=>⟨fun n=>match n with | 0=>none | k+1=>some (f k),fun a=>by
 cases a with
 | none=>exact ⟨0,rfl⟩
 | some a=>obtain ⟨k,hk⟩:=hf a; exact ⟨k+1,by simp [hk]⟩⟩
theorem gz:uJ Int:=by
 obtain ⟨f,hf⟩:=uJ.prod EQ EQ
 refine ⟨fun n=>((f n).1:Int) - (f n).2,fun a=>?_⟩
 obtain ⟨n,hn⟩:=hf (a.toNat,(-a).toNat)
 exact ⟨n,by simp only [hn]; omega⟩
def AV {α:Type} (f:Nat → α):Nat → Nat → List α
 | 0,_=>[]
 | k+1,n=>f (Iq n).1 :: AV f k (Iq n).2
theorem BI {α:Type} {f:Nat → α} (hf : ∀ a, ∃ n,f n=a) : ∀ l:List α, ∃ n,AV f l.length n=l
 | []=>⟨0,rfl⟩
 | a :: l=>by
  obtain ⟨i,hi⟩:=hf a
  obtain ⟨j,hj⟩:=BI hf l
  obtain ⟨n,hn⟩:=JC (i+j) j i rfl
  exact ⟨n,by simp [AV,hn,hi,hj]⟩
theorem uJ.list {α:Type}:uJ α → uJ (List α):=fun ⟨f,hf⟩=>⟨fun n=>AV f (Iq n).1 (Iq n).2,fun l=>by
 obtain ⟨j,hj⟩:=BI hf l
 obtain ⟨n,hn⟩:=JC (l.length+j) j l.length rfl
 exact ⟨n,by simp [hn,hj]⟩⟩
theorem nC:uJ (Y6 × List Int):=((EQ.prod EQ).option).prod gz.list
noncomputable def cf:Nat → Y6 × List Int:=Classical.choose nC
theorem acn : ∀ a, ∃ n,cf n=a:=Classical.choose_spec nC
section
variable {C:Ctx} {m:Sl} {L:Mem} {dst:Option Tmp} {ty:TypeId} {pos:String} {af:Array Edge} {gd:Option (Nat × Bool)}
theorem vM {o:Oper} {val:Y6 × List Int → Value} {mem:Y6 × List Int → Mem} (h:OP C o m L val mem):OP C o m L (Γ:=Nat) (fun n=>val (cf n)) (fun n=>mem (cf n)):=fun a w hs Q K hK =>
 h a w hs Q K fun g w' hs'=>by
  obtain ⟨n,rfl⟩:=acn g
  exact hK n w' hs'
theorem abJ {xs:List Operand} {ats:Array TypeId} {f:FuncId} {vs:List Value} {Ro:Mem} {val:Y6 × List Int → Value} {mem:Y6 × List Int → Mem}
  (hf:Does C.P f vs [] Ro val mem) (hcall : ∀ args w,(callFunc f args).run C.P w = .ok (.enter f args) w) (hro:MW C [] L Ro) (hxs:evs m xs=some vs:=by rfl) :
  OP C ⟨dst, .call ⟨.value (.func f),xs.toArray,ats⟩,ty,pos,af,gd⟩ m L (Γ:=Nat) (fun n=>val (cf n)) (fun n=>mem (cf n)++L):=vM (Y4 hf hcall hro hxs)
end
section
variable {C:Ctx} {Q:Exit → Act → World → Prop} {m:Sl} {L:Mem} {ops:Array Oper} {l:List Oper}
end
section
variable {C:Ctx} {m:Sl} {L:Mem} {dst:Option Tmp} {ty:TypeId} {pos:String} {af:Array Edge} {gd:Option (Nat × Bool)}
theorem WB {t e:TypeId} {ie:TypeInfo} {cs:List Value} (hu:C.P.underlying t=some (.slice e)) (hie:C.P.info? e=some ie) (hc:cs=[]) :
  OP C ⟨dst, .buildSlice t 0 #[],ty,pos,af,gd⟩ m L (Γ:=Nat) (fun b=>sl (some (b,0)) 0 0) (fun b=>⟨some (b,0),cs⟩ :: L):=fun a w hs' Q K hK=>by
 subst hc
 have hrun:(execOp a.eval ⟨dst, .buildSlice t 0 #[],ty,pos,af,gd⟩).run C.P w = .ok (.value (sl (some (w.heap.size,0)) 0 0)) { w with heap:=w.heap.push (.cells #[] e) }:=by
  simp only [execOp,Instr.buildSlice,typeInfo,Sem.run_bind,program,Sem.run,hie,Result.andThen_ok,Sem.run_pure,run_underlying hu,sizeOf]
  simp [newRow,newObj,sl,Instr.fill]
  have e1 : ∀ f:Nat → Value,Array.map f (Array.range 0) = #[]:=fun f=>by apply Array.toList_inj.1; simp
  rw [e1]
  rfl
 unfold Oper.wp
 rw [hrun]
 exact hK _ _ (by have:=Md hs'.step #[] e; simpa using this)
end
end Go.Kx
end

section
namespace Go.Proofs
open Go Go.Kx
open TryzI Tryz
def Yh.b0 (xs:List (Int)) (x s0:Int):Option ((Int) ⊕ ((Unit) ⊕ (Bool))) :=
 if s0<((xs).length:Int) then (if 0≤s0∧s0<((xs).length:Int) then (if (lg xs ((s0).toNat))=x then (some (.inr (.inr true))) else (some (.inl (ZJ (s0+1))))) else none) else (some (.inr (.inl ())))
def Yh (xs:List (Int)) (x:Int):Option (Bool) :=
 (loop (Yh.b0 xs x) BIG 0).bind fun Yw=>(match Yw with | .inl Yw=>(some false) | .inr rv=>some rv)
theorem PI {Axs:Y6} {cxs:Nat} {xs:List (Int)} {x:Int} (Gf:(xs).length≤cxs) {r:Bool} (H:Yh xs x=some r) :
  Does Tryz.prog 35 [sl Axs ((xs).length) cxs,vi x] [] [⟨Axs,eI xs⟩] (Γ:=Unit) (fun g=>vb r) (fun g=>[]):=by
 intro w hmem hro hd
 refine Zn func35 rfl ntmps35 rfl hmem hro hd ?_
 unfold Yh at H
 refine Z_ (Y2 ?_)
 refine Z6 (ZY (Z_ (Y2 ?_)))
 refine Z6 (ZP ?_)
 have ⟨Yw,Hl,H⟩:=Z9 H
 refine Wz [0,1,5] [] rfl rfl ?_
 refine U0 (id:=0) (body:=(Yh.b0 xs x)) (σ:=Int) (Γ:=Unit) (Γx:=Unit) (fun s0 WG=>[(0,sl Axs ((xs).length) cxs),(1,vi x),(5,vi s0)]) (fun s0 WG=>[]) (fun t g=>[]) (fun t g=>[]) r ?_ BIG 0 () Yw Hl ?_
 ·intro s0 WG r1 H K hK hE MK
  unfold Yh.b0 at H
  refine ZY (Z_ (Zj 2 rfl ?_))
  refine ZV (ZG rfl underlying22) ?_
  refine ZV (ZT WV) ?_
  refine Z6 (UK H (fun hc H=>?_) (fun hc H=>?_))
  ·refine ZN (Z7 (ZY (ZP (Z_ (Zj 2 rfl ?_)))))
   have ⟨h1,H⟩:=Z4 H
   refine ZV (YK (i:=s0) rfl rfl underlying22 YM rfl (.r 0) (Uf (tl h1)) h1.1 h1.2 (k:=(s0).toNat) (JZ _)) ?_
   refine ZV (Z8 rfl (.r 0) (UL (f:=vi) (l:=xs) (tl h1)) isAgg3) ?_
   refine YP ?_
   refine ZV (ZT Xr) ?_
   refine Z6 (UK H (fun hc H=>?_) (fun hc H=>?_))
   ·refine Z_ (Y2 ?_)
    refine Zq (ZE (ZZ (ZZ (ZE (ZZ ?_)))))
    have M3:=(MK _ (Option.some.inj H).symm)
    subst M3
    exact Wj
   refine ZN (ZW (Z7 (ZH (YP ?_))))
   refine ZV (ZT XN) ?_
   refine Y2 ?_
   refine ZK ?_
   obtain rfl:=sj H
   exact Ri [] (hK (ZJ (s0+1)) rfl ())
  refine YW (Z0 (Z0 ?_))
  obtain rfl:=sj H
  exact WW [] (hE () rfl ())
 rcases Yw with Yw | rv
 ·intro Fe
  dsimp only at H
  refine ZL (Z7 (Z_ (Y2 ?_)))
  refine Zq ?_
  obtain rfl:=sj H
  exact Wj
 exact (Option.some.inj H)
def WE.b0 (xs of:List (Int)) (s0:Int):Option ((Int) ⊕ ((Unit) ⊕ (Bool))) :=
 if s0<((xs).length:Int) then (if 0≤s0∧s0<((xs).length:Int) then ((Yh of (lg xs ((s0).toNat))).bind fun Zu=>(if (!Zu)=true then (some (.inr (.inr false))) else (if 0≤s0 then (if (s0).toNat≤(xs).length then (if 0≤s0∧s0<((xs).length:Int) then (if (s0).toNat≤(xs).length then (if (s0).toNat≤(xs).length then ((Yh (PH xs 0 ((s0).toNat)) (lg xs ((s0).toNat))).bind fun YJ=>(if YJ=true then (some (.inr (.inr false))) else (some (.inl (ZJ (s0+1)))))) else none) else none) else none) else none) else none))) else none) else (some (.inr (.inl ())))
def WE (xs of:List (Int)):Option (Bool) :=
 (loop (WE.b0 xs of) BIG 0).bind fun Yw=>(match Yw with | .inl Yw=>(if 1≤((xs).length:Int) then (X5 (decide (((xs).length:Int)≤((of).length:Int))) fun x1=>(some x1)) else (some false)) | .inr rv=>some rv)
theorem Ch {Axs:Y6} {cxs:Nat} {Aof:Y6} {cof:Nat} {xs:List (Int)} {of:List (Int)} (Gf:(xs).length≤cxs) (dB:(of).length≤cof) {r:Bool} (H:WE xs of=some r) :
  Does Tryz.prog 49 [sl Axs ((xs).length) cxs,sl Aof ((of).length) cof] [] [⟨Axs,eI xs⟩,⟨Aof,eI of⟩] (Γ:=Unit) (fun g=>vb r) (fun g=>[]):=by
 intro w hmem hro hd
 refine Zn func49 rfl ntmps49 rfl hmem hro hd ?_
 unfold WE at H
 refine Z_ (Y2 ?_)
 refine Z6 (ZY (Z_ (Y2 ?_)))
 refine Z6 (ZP ?_)
 have ⟨Yw,Hl,H⟩:=Z9 H
 refine Wz [0,1,5] [] rfl rfl ?_
 refine U0 (id:=0) (body:=(WE.b0 xs of)) (σ:=Int) (Γ:=Unit) (Γx:=Unit) (fun s0 WG=>[(0,sl Axs ((xs).length) cxs),(1,sl Aof ((of).length) cof),(5,vi s0)]) (fun s0 WG=>[]) (fun t g=>[(0,sl Axs ((xs).length) cxs),(1,sl Aof ((of).length) cof)]) (fun t g=>[]) r ?_ BIG 0 () Yw Hl ?_
 ·intro s0 WG r1 H K hK hE MK
  unfold WE.b0 at H
  refine ZY (Z_ (Zj 2 rfl ?_))
  refine ZV (ZG rfl underlying22) ?_
  refine ZV (ZT WV) ?_
  refine Z6 (UK H (fun hc H=>?_) (fun hc H=>?_))
  ·refine ZN (Z7 (ZY (ZP (ZY ?_))))
   have ⟨h1,H⟩:=Z4 H
   have ⟨Zu,Yk,H⟩:=Z9 H
   refine UI (!Zu) (fun zH=>?_) (fun zH=>?_)
   ·replace H:=U8 zH H
    refine U3 [] 17 rfl ?_
    refine YA 2 0 rfl ?_
    refine Zz 3 rfl (YK (i:=s0) rfl rfl underlying22 YM rfl (.r 0) (Uf (tl h1)) h1.1 h1.2 (k:=(s0).toNat) (JZ _)) ?_
    refine Zz 4 rfl (Z8 rfl (.r 0) (UL (f:=vi) (l:=xs) (tl h1)) isAgg3) ?_
    refine Tm 5 [] rfl (Y4 (PI dB Yk :) call35 ⟨.r 1,trivial⟩) (fun _=>rfl) (fun Re=>?_)
    refine Zz 6 rfl (UF T_) ?_
    refine YA 0 7 rfl ?_
    refine Xb 19 (congrArg vb zH) ?_
    refine YA 8 8 rfl ?_
    refine Vi ?_
    refine Z7 (VI rfl ?_)
    refine Z_ (Y2 ?_)
    refine Zq (ZE (ZZ (ZZ (ZE (ZZ ?_)))))
    have M3:=(MK _ (Option.some.inj H).symm)
    subst M3
    exact Wj
   replace H:=U7 (Bool.eq_false_iff.1 zH) H
   have ⟨h2,H⟩:=Z4 H
   have ⟨h3,H⟩:=Z4 H
   have ⟨h4,H⟩:=Z4 H
   have ⟨h5,H⟩:=Z4 H
   have ⟨h6,H⟩:=Z4 H
   have ⟨YJ,X6,H⟩:=Z9 H
   refine U3 [] 17 rfl ?_
   refine YA 2 0 rfl ?_
   refine Zz 3 rfl (YK (i:=s0) rfl rfl underlying22 YM rfl (.r 0) (Uf (tl h1)) h1.1 h1.2 (k:=(s0).toNat) (JZ _)) ?_
   refine Zz 4 rfl (Z8 rfl (.r 0) (UL (f:=vi) (l:=xs) (tl h1)) isAgg3) ?_
   refine Tm 5 [] rfl (Y4 (PI dB Yk :) call35 ⟨.r 1,trivial⟩) (fun _=>rfl) (fun Re=>?_)
   refine Zz 6 rfl (UF T_) ?_
   refine YA 0 7 rfl ?_
   refine Xb 19 (congrArg vb zH) ?_
   refine YA 1 8 rfl ?_
   refine Zz 10 rfl (KE (l:=0) (h:=(s0).toNat) rfl underlying22 YM rfl OZ.none' (OZ.some' (i:=s0) rfl h2) (Nat.zero_le _) (Nat.le_trans h3 Gf)) ?_
   refine YA 1 11 rfl ?_
   refine Zz 13 rfl (YK (i:=s0) rfl rfl underlying22 YM rfl (.r 0) (Uf (tl h4)) h4.1 h4.2 (k:=(s0).toNat) (JZ _)) ?_
   refine Zz 14 rfl (Z8 rfl (.r 0) (UL (f:=vi) (l:=xs) (tl h4)) isAgg3) ?_
   refine Xb 22 (congrArg (fun n=>sl (R5 Axs cxs 0 0 1) n (cxs - 0)) (TP h6).symm) ?_
   refine Tm 15 [] rfl (Y4 (PI (EW h5 (Nat.le_trans h3 Gf)) X6 :) call35 ⟨(Ap (f:=vi) (Db:=xs) (QH.ro (j:=0) rfl) (Nat.le_trans h3 Gf)),trivial⟩) (fun _=>rfl) (fun UD=>?_)
   refine YA 0 16 rfl ?_
   refine Vi ?_
   refine Z7 (Sn H (fun hc H=>?_) (fun hc H=>?_))
   ·refine Z_ (Y2 ?_)
    refine Zq (ZE (ZZ (ZZ (ZE (ZZ ?_)))))
    have M3:=(MK _ (Option.some.inj H).symm)
    subst M3
    exact Wj
   refine ZN (ZW (Z7 (ZH (YP ?_))))
   refine ZV (ZT XN) ?_
   refine Y2 ?_
   refine ZK ?_
   obtain rfl:=sj H
   exact Ri [] (hK (ZJ (s0+1)) rfl ())
  refine YW (Z0 (Z0 ?_))
  obtain rfl:=sj H
  exact WW [] (hE () rfl ())
 rcases Yw with Yw | rv
 ·intro Fe
  dsimp only at H
  refine ZL (Z7 (Z_ (YP ?_)))
  refine ZV (ZG rfl underlying22) ?_
  refine ZV (ZT LD) ?_
  refine YP ?_
  refine Td (d:=32) H (fun hc H=>?_) (fun hc H=>?_)
  ·refine Zc (ZO rfl) ?_
   refine Zc (ZG rfl underlying22) ?_
   refine Zc (ZO rfl) ?_
   refine Zc (ZG rfl underlying22) ?_
   refine Zc (ZT RH) ?_
   refine Zj 2 rfl ?_
   have ⟨x1,TK,H⟩:=ZX H
   refine WN 4 (congrArg vb TK) ?_
   refine Zq ?_
   obtain rfl:=sj H
   exact Wj
  refine Zj 7 rfl ?_
  refine Zq ?_
  obtain rfl:=sj H
  exact Wj
 exact (Option.some.inj H)
open Vector (replicate)
open TryzI Tryz
def Vp.b0 (s_:Str) (s0:Int × Vx 32 8):Option ((Int × Vx 32 8) ⊕ (Vx 32 8)) :=
 if s0.1<32 then (if 0≤ZJ (7 - (ZJ (s0.1.tdiv 4)))∧ZJ (7 - (ZJ (s0.1.tdiv 4)))<(8:Int) then (if 0≤s0.1∧s0.1<((s_).length:Int) then (if 0≤ZJ (7 - (ZJ (s0.1.tdiv 4)))∧ZJ (7 - (ZJ (s0.1.tdiv 4)))<(8:Int) then (X5 (vp s0.2 ((ZJ (7 - (ZJ (s0.1.tdiv 4)))).toNat) (((vg s0.2 ((ZJ (7 - (ZJ (s0.1.tdiv 4)))).toNat)) <<< 8) ||| ((sg s_ s0.1).setWidth 32))) fun Xi=>(X5 (ZJ (s0.1+1)) fun i1=>(some (.inl (i1,Xi))))) else none) else none) else none) else (some (.inr s0.2))
def Vp (s_:Str):Option (Vx 32 8) :=
 (loop (Vp.b0 s_) BIG (0,replicate 8 0#32)).bind fun Yw=>(some Yw)
theorem wC {s_:Str} {r:Vx 32 8} (H:Vp s_=some r) :
  Does Tryz.prog 109 [vs s_] [] [] (Γ:=Unit) (fun g=>aG [(8,e32 r.toList)]) (fun g=>[]):=by
 intro w hmem hro hd
 refine Zn func109 rfl ntmps109 rfl hmem hro hd ?_
 unfold Vp at H
 refine Z_ (YE (Q7 8 YQ TE) (fun b1=>?_))
 refine Z6 (Z_ (YE (Q7 8 YQ TE) (fun b2=>?_)))
 refine Z6 (ZY (Z_ (Y2 ?_)))
 refine Z6 (ZP ?_)
 have ⟨Yw,Hl,H⟩:=Z9 H
 refine Wz [0,2,3,4] [1,0] rfl rfl ?_
 refine Yv (id:=0) (body:=(Vp.b0 s_)) (σ:=Int × Vx 32 8) (Γ:=Unit) (Γx:=Unit) (fun s0 WG=>[(0,vs s_),(2,ptr (some (b1,0)) 0),(3,ptr (some (b2,0)) 0),(4,vi s0.1)]) (fun s0 WG=>[⟨some (b1,0),e32 ((replicate 8 0#32).toList)⟩,⟨some (b2,0),e32 s0.2.toList⟩]) (fun t g=>[(2,ptr (some (b1,0)) 0),(3,ptr (some (b2,0)) 0)]) (fun t g=>[⟨some (b1,0),e32 ((replicate 8 0#32).toList)⟩,⟨some (b2,0),e32 t.toList⟩]) ?_ BIG (0,replicate 8 0#32) () Yw Hl ?_
 ·intro s0 WG r1 H K hK hE
  unfold Vp.b0 at H
  refine ZY (Z_ (YP ?_))
  refine ZV (ZT WV) ?_
  refine Z6 (UK H (fun hc H=>?_) (fun hc H=>?_))
  ·refine ZN (Z7 (ZY (ZP ?_)))
   have ⟨h1,H⟩:=Z4 H
   have ⟨h2,H⟩:=Z4 H
   have ⟨h3,H⟩:=Z4 H
   have ⟨Xi,hm_1,H⟩:=ZX H
   refine U3 [] 16 rfl ?_
   refine PX 1 [] (.v 0 [] rfl rfl (ZO rfl) (.v 1 [0] rfl rfl (Zg rfl rfl (fun w=>Lh w s0.1 4 (by decide))) (.v 2 [1] rfl rfl (V9 OX rfl rfl) (.v 3 [] rfl rfl (ZO rfl) (.v 4 [3] rfl rfl (Zg rfl rfl (fun w=>Lh w s0.1 4 (by decide))) (.v 5 [4] rfl rfl (V9 OX rfl rfl) (.v 6 [5] rfl rfl (Zw (i:=ZJ (7 - (ZJ (s0.1.tdiv 4)))) rfl rfl underlying142 Ud rfl h1.1 h1.2 (k:=(ZJ (7 - (ZJ (s0.1.tdiv 4)))).toNat) (Tz _)) (.v 7 [6] rfl rfl (Z8 rfl (.o 1) (YL (f:=v32) (V:=s0.2) (tl h1)) isAgg140) (.v 8 [7] rfl rfl (Zg rfl rfl (fun w=>ack w (vg s0.2 ((ZJ (7 - (ZJ (s0.1.tdiv 4)))).toNat)) .u64 8 (by decide))) (.v 9 [] rfl rfl (ZO rfl) (.v 10 [] rfl rfl (ZO rfl) (.v 11 [9,10] rfl rfl (U2 rfl rfl (i:=s0.1) underlying9 h2.1 h2.2) (.v 12 [11] rfl rfl (Vu rfl (fun w=>jC w _ _ underlying140 (zh) (sg s_ s0.1))) (.v 13 [8,12] rfl rfl (V9 adE rfl rfl) (.v 14 [2] rfl rfl (Zw (i:=ZJ (7 - (ZJ (s0.1.tdiv 4)))) rfl rfl underlying142 Ud rfl h3.1 h3.2 (k:=(ZJ (7 - (ZJ (s0.1.tdiv 4)))).toNat) (Tz _)) .nil))))))))))))))) (fun γ=>?_)
   refine Qj [23,22,0,2,3,4] rfl rfl ?_
   refine Qh 15 [] rfl (YR (j:=1) rfl rfl Ud rfl rfl rfl (by simpa using (tl h3)) (cs':=e32 ((vp s0.2 ((ZJ (7 - (ZJ (s0.1.tdiv 4)))).toNat) (((vg s0.2 ((ZJ (7 - (ZJ (s0.1.tdiv 4)))).toNat)) <<< 8) ||| ((sg s_ s0.1).setWidth 32))).toList)) VR) (fun _=>rfl) (fun _=>?_)
   refine Iy 1 (congrArg (fun z:Vx 32 8=>e32 (Vector.toList z)) hm_1) ?_
   refine Vi ?_
   refine ZW (Z7 (ZH (YP ?_)))
   refine ZV (ZT XN) ?_
   refine Y2 ?_
   have ⟨i1,Ll,H⟩:=ZX H
   refine WN 4 (congrArg vi Ll) ?_
   refine ZK ?_
   obtain rfl:=sj H
   exact Ri [0,0] (hK (i1,Xi) rfl ())
  refine YW (Z0 (Z0 ?_))
  obtain rfl:=sj H
  exact WW [0,0] (hE s0.2 rfl ())
 intro g
 refine ZL (Z7 (Z_ (ZV (Wi (.o 1) isAgg142 YQ) ?_)))
 refine VM (Vd (vs:=e32 Yw.toList) 0 YQ) (fun _=>?_)
 refine Zq ?_
 obtain rfl:=sj H
 exact SF (vs:=[_]) rfl ⟨(Wm (n:=8) rfl (by simp) (.o 0) isAgg142 YQ rfl (Wl (f:=v32) Yw)),trivial⟩
def VE (which:Int):Option (Vx 32 8) :=
 X5 (decide (which=0)) fun x1=>(if x1=true then (X5 ((#v[4294967295#32,4294967295#32,4294967295#32,0#32,0#32,0#32,1#32,4294967295#32]:Vx 32 8)) fun Xi=>(some Xi)) else (X5 (decide (which=1)) fun x2=>(if x2=true then (X5 ((#v[4234356049#32,4089039554#32,2803342980#32,3169254061#32,4294967295#32,4294967295#32,0#32,4294967295#32]:Vx 32 8)) fun SV=>(some SV)) else (X5 ((#v[4294967277#32,4294967295#32,4294967295#32,4294967295#32,4294967295#32,4294967295#32,4294967295#32,2147483647#32]:Vx 32 8)) fun IV=>(some IV)))))
theorem Kq {which:Int} {r:Vx 32 8} (H:VE which=some r) :
  Does Tryz.prog 111 [vi which] [] [] (Γ:=Unit) (fun g=>aG [(8,e32 r.toList)]) (fun g=>[]):=by
 intro w hmem hro hd
 refine Zn func111 rfl ntmps111 rfl hmem hro hd ?_
 unfold VE at H
 refine Z_ (YE (Q7 8 YQ TE) (fun b1=>?_))
 refine Z6 (ZY (Z_ (YP ?_)))
 refine Z6 (ZP (Z_ (ZV (ZT Xr) ?_)))
 refine Y2 ?_
 have ⟨x1,TK,H⟩:=ZX H
 refine WN 4 (congrArg vb TK) ?_
 refine Z6 (Sn H (fun hc H=>?_) (fun hc H=>?_))
 ·refine Z_ (ZV (VJ (pv:=[(0,v32 4294967295#32),(1,v32 4294967295#32),(2,v32 4294967295#32),(3,v32 0#32),(4,v32 0#32),(5,v32 0#32),(6,v32 1#32),(7,v32 4294967295#32)]) rfl rfl underlying142 YQ Ud rfl TE (cs:=e32 ((#v[4294967295#32,4294967295#32,4294967295#32,0#32,0#32,0#32,1#32,4294967295#32]:Vx 32 8).toList)) (by kernel_rfl)) ?_)
  refine VM (Vd 0 YQ) (fun _=>?_)
  have ⟨Xi,hm_1,H⟩:=ZX H
  refine Ta 0 (congrArg (fun z:Vx 32 8=>e32 (Vector.toList z)) hm_1) ?_
  refine Zq (ZE (ZZ ?_))
  obtain rfl:=sj H
  exact SF (vs:=[_]) rfl ⟨(Wm (n:=8) rfl (by simp) (.o 0) isAgg142 YQ rfl (Wl (f:=v32) Xi)),trivial⟩
 refine Z_ (ZV (ZT Xr) ?_)
 refine Y2 ?_
 have ⟨x2,KO,H⟩:=ZX H
 refine WN 7 (congrArg vb KO) ?_
 refine Z6 (Sn H (fun hc H=>?_) (fun hc H=>?_))
 ·refine Z_ (ZV (VJ (pv:=[(0,v32 4234356049#32),(1,v32 4089039554#32),(2,v32 2803342980#32),(3,v32 3169254061#32),(4,v32 4294967295#32),(5,v32 4294967295#32),(6,v32 0#32),(7,v32 4294967295#32)]) rfl rfl underlying142 YQ Ud rfl TE (cs:=e32 ((#v[4234356049#32,4089039554#32,2803342980#32,3169254061#32,4294967295#32,4294967295#32,0#32,4294967295#32]:Vx 32 8).toList)) (by kernel_rfl)) ?_)
  refine VM (Vd 0 YQ) (fun _=>?_)
  have ⟨SV,hm_2,H⟩:=ZX H
  refine Ta 0 (congrArg (fun z:Vx 32 8=>e32 (Vector.toList z)) hm_2) ?_
  refine Zq (ZE (ZZ ?_))
  obtain rfl:=sj H
  exact SF (vs:=[_]) rfl ⟨(Wm (n:=8) rfl (by simp) (.o 0) isAgg142 YQ rfl (Wl (f:=v32) SV)),trivial⟩
 refine ZN (ZW (Z7 (Z_ (ZV (VJ (pv:=[(0,v32 4294967277#32),(1,v32 4294967295#32),(2,v32 4294967295#32),(3,v32 4294967295#32),(4,v32 4294967295#32),(5,v32 4294967295#32),(6,v32 4294967295#32),(7,v32 2147483647#32)]) rfl rfl underlying142 YQ Ud rfl TE (cs:=e32 ((#v[4294967277#32,4294967295#32,4294967295#32,4294967295#32,4294967295#32,4294967295#32,4294967295#32,2147483647#32]:Vx 32 8).toList)) (by kernel_rfl)) ?_))))
 refine VM (Vd 0 YQ) (fun _=>?_)
 have ⟨IV,hm_3,H⟩:=ZX H
 refine Ta 0 (congrArg (fun z:Vx 32 8=>e32 (Vector.toList z)) hm_3) ?_
 refine Zq ?_
 obtain rfl:=sj H
 exact SF (vs:=[_]) rfl ⟨(Wm (n:=8) rfl (by simp) (.o 0) isAgg142 YQ rfl (Wl (f:=v32) IV)),trivial⟩
def XC.b0 (a_ b:Vx 32 8) (s0:Int):Option ((Int) ⊕ ((Unit) ⊕ (Bool))) :=
 if 0≤s0 then (if 0≤s0∧s0<(8:Int) then (if 0≤s0∧s0<(8:Int) then (if (vg a_ ((s0).toNat)) ≠ (vg b ((s0).toNat)) then (if 0≤s0∧s0<(8:Int) then (if 0≤s0∧s0<(8:Int) then (X5 (decide (((vg a_ ((s0).toNat))).toNat<((vg b ((s0).toNat))).toNat)) fun x1=>(some (.inr (.inr x1)))) else none) else none) else (some (.inl (ZJ (s0 - 1))))) else none) else none) else (some (.inr (.inl ())))
def XC (a_ b:Vx 32 8):Option (Bool) :=
 (loop (XC.b0 a_ b) BIG 7).bind fun Yw=>(match Yw with | .inl Yw=>(some false) | .inr rv=>some rv)
theorem J2 {a_:Vx 32 8} {b:Vx 32 8} {r:Bool} (H:XC a_ b=some r) :
  Does Tryz.prog 110 [aG [(8,e32 a_.toList)],aG [(8,e32 b.toList)]] [] [] (Γ:=Unit) (fun g=>vb r) (fun g=>[]):=by
 intro w hmem hro hd
 refine Zn func110 rfl ntmps110 rfl hmem hro hd ?_
 unfold XC at H
 refine Z_ (YE (UN [(8,e32 a_.toList)] rfl rfl ⟨(Wl (f:=v32) a_),trivial⟩) (fun b1=>?_))
 refine YE (UN [(8,e32 b.toList)] rfl rfl ⟨(Wl (f:=v32) b),trivial⟩) (fun b2=>?_)
 refine Y2 ?_
 refine Z6 (ZY (Z_ (Y2 ?_)))
 refine Z6 (ZP ?_)
 have ⟨Yw,Hl,H⟩:=Z9 H
 refine Wz [2,3,5] [1,0] rfl rfl ?_
 refine U0 (id:=0) (body:=(XC.b0 a_ b)) (σ:=Int) (Γ:=Unit) (Γx:=Unit) (fun s0 WG=>[(2,ptr (some (b1,0)) 0),(3,ptr (some (b2,0)) 0),(5,vi s0)]) (fun s0 WG=>[⟨some (b1,0),e32 a_.toList⟩,⟨some (b2,0),e32 b.toList⟩]) (fun t g=>[]) (fun t g=>[]) r ?_ BIG 7 () Yw Hl ?_
 ·intro s0 WG r1 H K hK hE MK
  unfold XC.b0 at H
  refine ZY (Z_ (YP ?_))
  refine ZV (ZT LD) ?_
  refine Z6 (UK H (fun hc H=>?_) (fun hc H=>?_))
  ·refine ZN (Z7 (ZY (ZP (ZY ?_))))
   have ⟨h1,H⟩:=Z4 H
   have ⟨h2,H⟩:=Z4 H
   refine U3 [] 7 rfl ?_
   refine PX 0 [] (.v 0 [] rfl rfl (ZO rfl) (.v 1 [0] rfl rfl (Zw (i:=s0) rfl rfl underlying142 Ud rfl h1.1 h1.2 (k:=(s0).toNat) (Tz _)) (.v 2 [1] rfl rfl (Z8 rfl (.o 0) (YL (f:=v32) (V:=a_) (tl h1)) isAgg140) (.v 3 [] rfl rfl (ZO rfl) (.v 4 [3] rfl rfl (Zw (i:=s0) rfl rfl underlying142 Ud rfl h2.1 h2.2 (k:=(s0).toNat) (Tz _)) (.v 5 [4] rfl rfl (Z8 rfl (.o 1) (YL (f:=v32) (V:=b) (tl h2)) isAgg140) (.v 6 [2,5] rfl rfl (V9 aas rfl rfl) .nil))))))) (fun γ=>?_)
   refine Qj [16,2,3,5] rfl rfl ?_
   refine Vi ?_
   refine Z7 (UK H (fun hc H=>?_) (fun hc H=>?_))
   ·refine ZY ?_
    have ⟨h3,H⟩:=Z4 H
    have ⟨h4,H⟩:=Z4 H
    have ⟨x1,TK,H⟩:=ZX H
    refine U3 [] 8 rfl ?_
    refine PX 1 [] (.v 0 [] rfl rfl (ZO rfl) (.v 1 [0] rfl rfl (Zw (i:=s0) rfl rfl underlying142 Ud rfl h3.1 h3.2 (k:=(s0).toNat) (Tz _)) (.v 2 [1] rfl rfl (Z8 rfl (.o 0) (YL (f:=v32) (V:=a_) (tl h3)) isAgg140) (.v 3 [] rfl rfl (ZO rfl) (.v 4 [3] rfl rfl (Zw (i:=s0) rfl rfl underlying142 Ud rfl h4.1 h4.2 (k:=(s0).toNat) (Tz _)) (.v 5 [4] rfl rfl (Z8 rfl (.o 1) (YL (f:=v32) (V:=b) (tl h4)) isAgg140) (.v 6 [2,5] rfl rfl (V9 abA rfl rfl) .nil))))))) (fun γ=>?_)
    refine Qj [23] rfl rfl ?_
    refine qc 7 [] rfl (XL rfl) rfl ?_
    refine Xb 4 (congrArg vb TK) ?_
    refine Vi ?_
    refine Z7 (Y7 (ZE (ZZ (ZZ (ZE (ZZ ?_))))))
    have M3:=(MK _ (Option.some.inj H).symm)
    subst M3
    exact Wj
   refine ZN (ZW (Z7 (ZH (YP ?_))))
   refine ZV (ZT OX) ?_
   refine Y2 ?_
   refine ZK ?_
   obtain rfl:=sj H
   exact Ri [0,0] (hK (ZJ (s0 - 1)) rfl ())
  refine YW (Z0 (Z0 ?_))
  obtain rfl:=sj H
  exact WW [] (hE () rfl ())
 rcases Yw with Yw | rv
 ·intro Fe
  dsimp only at H
  refine ZL (Z7 (Z_ (Y2 ?_)))
  refine Zq ?_
  obtain rfl:=sj H
  exact Wj
 exact (Option.some.inj H)
open Vector (replicate)
open TryzI Tryz
def U9 (which:Int) (s_:Str):Option (Vx 32 8 × Bool) :=
 (if which<0 then (some true) else (if 2<which then (some true) else (some (decide (((s_).length:Int) ≠ 32))))).bind fun j1=>(if j1=true then (X5 ((replicate 8 0#32:Vx 32 8)) fun Xi=>(some (Xi,false))) else ((Vp s_).bind fun Zu=>((VE which).bind fun YJ=>((XC Zu YJ).bind fun X7=>(some (Zu,X7))))))
theorem BC {which:Int} {s_:Str} {r:Vx 32 8 × Bool} (H:U9 which s_=some r) :
  Does Tryz.prog 93 [vi which,vs s_] [] [] (Γ:=Unit) (fun g=>Value.tuple [aG [(8,e32 r.1.toList)],vb r.2].toArray) (fun g=>[]):=by
 intro w hmem hro hd
 refine Zn func93 rfl ntmps93 rfl hmem hro hd ?_
 unfold U9 at H
 refine Z_ (YE (Q7 8 YQ TE) (fun b1=>?_))
 refine Y2 ?_
 refine Z6 (ZY (Z_ (YP ?_)))
 refine ZV (ZT WV) ?_
 refine YP ?_
 have ⟨j1,Hj,H⟩:=Z9 H
 refine VH (Γ:=Unit) (fun Sc=>[(0,vi which),(1,vs s_),(4,ptr (some (b1,0)) 0),(17,vb j1)]) (fun Sc=>[⟨some (b1,0),e32 ((replicate 8 0#32).toList)⟩]) ?_ ?_
 ·intro Sc
  refine Z7 (Sn H (fun hc H=>?_) (fun hc H=>?_))
  ·refine Z_ (ZV (VJ (pv:=[]) rfl rfl underlying142 YQ Ud rfl TE (cs:=e32 ((replicate 8 0#32:Vx 32 8).toList)) (by kernel_rfl)) ?_)
   refine VM (Vd 0 YQ) (fun _=>?_)
   have ⟨Xi,hm_1,H⟩:=ZX H
   refine Ta 0 (congrArg (fun z:Vx 32 8=>e32 (Vector.toList z)) hm_1) ?_
   refine Y2 ?_
   refine Zq (ZZ ?_)
   obtain rfl:=sj H
   exact SF (vs:=[_,_]) rfl ⟨(Wm (n:=8) rfl (by simp) (.o 0) isAgg142 YQ rfl (Wl (f:=v32) Xi)),rfl,trivial⟩
  refine ZN (Z7 (Z_ (YP ?_)))
  have ⟨Zu,Yk,H⟩:=Z9 H
  refine YE (Y4 (wC Yk :) call109 .z) (fun Re=>?_)
  refine YE (Q7 8 YQ TE) (fun b2=>?_)
  refine VM (Vd (vs:=e32 Zu.toList) 0 YQ) (fun _=>?_)
  refine Z6 (ZY ?_)
  have ⟨YJ,X6,H⟩:=Z9 H
  have ⟨X7,Vt,H⟩:=Z9 H
  refine U3 [] 7 rfl ?_
  refine PX 2 [] (.v 0 [] rfl rfl (Wi (.o 0) isAgg142 YQ) (.v 1 [] rfl rfl (Wi (.o 0) isAgg142 YQ) (.v 2 [] rfl rfl (ZO rfl) (.e 3 [2] rfl rfl (Qg (Kq X6 :) call111 .z) (.e 4 [3,1] rfl rfl (Qg (J2 Vt :) call110 .z) .nil))))) (fun γ=>?_)
  refine Qj [25,21,4] rfl rfl ?_
  refine Qh 5 [] rfl (Vd (vs:=e32 Zu.toList) 1 YQ) (fun _=>rfl) (fun _=>?_)
  refine qc 6 [] rfl (XL rfl) rfl ?_
  refine Vi ?_
  refine Z7 (Y7 ?_)
  obtain rfl:=sj H
  exact SF (vs:=[_,_]) rfl ⟨(Wm (n:=8) rfl (by simp) (.o 1) isAgg142 YQ rfl (Wl (f:=v32) Zu)),rfl,trivial⟩
 intro hJ
 replace H:=Hj
 refine Td (d:=9) H (fun hc H=>?_) (fun hc H=>?_)
 ·refine Zj 8 rfl ?_
  refine ZK ?_
  obtain rfl:=sj H
  exact WW [0] (hJ ())
 refine Zc (ZO rfl) ?_
 refine Zc (ZT Sv) ?_
 refine Zj 2 rfl ?_
 refine Td (d:=13) H (fun hc H=>?_) (fun hc H=>?_)
 ·refine Zj 4 rfl ?_
  refine ZK ?_
  obtain rfl:=sj H
  exact WW [0] (hJ ())
 refine Zc (ZO rfl) ?_
 refine Zc (Zf rfl underlying9) ?_
 refine Zc (ZT SN) ?_
 refine FE ?_
 refine ZK ?_
 obtain rfl:=sj H
 exact WW [0] (hJ ())
open Vector (replicate)
open TryzI Tryz
def VS.b0 (b:Vx 32 8) (s0:BitVec 64 × Int × Vx 32 8):Option ((BitVec 64 × Int × Vx 32 8) ⊕ (BitVec 64 × Vx 32 8)) :=
 if s0.2.1<8 then (if 0≤s0.2.1∧s0.2.1<(8:Int) then (if 0≤s0.2.1∧s0.2.1<(8:Int) then (X5 ((((vg s0.2.2 ((s0.2.1).toNat)).setWidth 64)+((vg b ((s0.2.1).toNat)).setWidth 64))+s0.1) fun JW=>(if 0≤s0.2.1∧s0.2.1<(8:Int) then (X5 (vp s0.2.2 ((s0.2.1).toNat) ((JW &&& 4294967295#64).setWidth 32)) fun Xi=>(X5 (ZJ (s0.2.1+1)) fun i1=>(some (.inl (JW >>> 32,i1,Xi))))) else none)) else none) else none) else (some (.inr (s0.1,s0.2.2)))
def VS (a_ b:Vx 32 8):Option (Vx 32 8 × BitVec 64) :=
 (loop (VS.b0 b) BIG (0#64,0,a_)).bind fun Yw=>(some (Yw.2,Yw.1))
theorem DZ {a_:Vx 32 8} {b:Vx 32 8} {r:Vx 32 8 × BitVec 64} (H:VS a_ b=some r) :
  Does Tryz.prog 112 [aG [(8,e32 a_.toList)],aG [(8,e32 b.toList)]] [] [] (Γ:=Unit) (fun g=>Value.tuple [aG [(8,e32 r.1.toList)],v64 r.2].toArray) (fun g=>[]):=by
 intro w hmem hro hd
 refine Zn func112 rfl ntmps112 rfl hmem hro hd ?_
 unfold VS at H
 refine Z_ (YE (UN [(8,e32 a_.toList)] rfl rfl ⟨(Wl (f:=v32) a_),trivial⟩) (fun b1=>?_))
 refine YE (UN [(8,e32 b.toList)] rfl rfl ⟨(Wl (f:=v32) b),trivial⟩) (fun b2=>?_)
 refine YE (Q7 8 YQ TE) (fun b3=>?_)
 refine Y2 ?_
 refine Z6 (Z_ (Y2 ?_))
 refine Z6 (ZY (Z_ (Y2 ?_)))
 refine Z6 (ZP ?_)
 have ⟨Yw,Hl,H⟩:=Z9 H
 refine Wz [2,3,4,6,7] [2,1,0] rfl rfl ?_
 refine Yv (id:=0) (body:=(VS.b0 b)) (σ:=BitVec 64 × Int × Vx 32 8) (Γ:=Unit) (Γx:=Unit) (fun s0 WG=>[(2,ptr (some (b1,0)) 0),(3,ptr (some (b2,0)) 0),(4,ptr (some (b3,0)) 0),(6,v64 s0.1),(7,vi s0.2.1)]) (fun s0 WG=>[⟨some (b1,0),e32 s0.2.2.toList⟩,⟨some (b2,0),e32 b.toList⟩,⟨some (b3,0),e32 ((replicate 8 0#32).toList)⟩]) (fun t g=>[(2,ptr (some (b1,0)) 0),(4,ptr (some (b3,0)) 0),(6,v64 t.1)]) (fun t g=>[⟨some (b1,0),e32 t.2.toList⟩,⟨some (b3,0),e32 ((replicate 8 0#32).toList)⟩]) ?_ BIG (0#64,0,a_) () Yw Hl ?_
 ·intro s0 WG r1 H K hK hE
  unfold VS.b0 at H
  refine ZY (Z_ (YP ?_))
  refine ZV (ZT WV) ?_
  refine Z6 (UK H (fun hc H=>?_) (fun hc H=>?_))
  ·refine ZN (Z7 (ZY (ZP (ZY ?_))))
   have ⟨h1,H⟩:=Z4 H
   have ⟨h2,H⟩:=Z4 H
   have ⟨JW,hs_1,H⟩:=ZX H
   refine U3 [] 12 rfl ?_
   refine PX 1 [] (.v 0 [] rfl rfl (ZO rfl) (.v 1 [0] rfl rfl (Zw (i:=s0.2.1) rfl rfl underlying142 Ud rfl h1.1 h1.2 (k:=(s0.2.1).toNat) (Tz _)) (.v 2 [1] rfl rfl (Z8 rfl (.o 0) (YL (f:=v32) (V:=s0.2.2) (tl h1)) isAgg140) (.v 3 [2] rfl rfl (Vu rfl (fun w=>M_ w _ _ underlying115 (Lu) (vg s0.2.2 ((s0.2.1).toNat)))) (.v 4 [] rfl rfl (ZO rfl) (.v 5 [4] rfl rfl (Zw (i:=s0.2.1) rfl rfl underlying142 Ud rfl h2.1 h2.2 (k:=(s0.2.1).toNat) (Tz _)) (.v 6 [5] rfl rfl (Z8 rfl (.o 1) (YL (f:=v32) (V:=b) (tl h2)) isAgg140) (.v 7 [6] rfl rfl (Vu rfl (fun w=>M_ w _ _ underlying115 (Lu) (vg b ((s0.2.1).toNat)))) (.v 8 [3,7] rfl rfl (V9 Iu rfl rfl) (.v 9 [] rfl rfl (ZO rfl) (.v 10 [8,9] rfl rfl (V9 Iu rfl rfl) .nil))))))))))) (fun γ=>?_)
   refine Qj [23,2,3,4,7] rfl rfl ?_
   refine qc 11 [] rfl (XL rfl) rfl ?_
   refine Xb (v':=v64 JW) 8 (congrArg v64 hs_1) ?_
   refine Vi ?_
   refine Z7 (Z_ (Zj 2 rfl ?_))
   refine ZV (Zg rfl rfl (fun w=>MZ w JW 4294967295#64)) ?_
   refine ZV (Vu rfl (fun w=>Eo w _ _ underlying140 (Hu) (JW &&& 4294967295#64))) ?_
   have ⟨h3,H⟩:=Z4 H
   refine ZV (Zw (i:=s0.2.1) rfl rfl underlying142 Ud rfl h3.1 h3.2 (k:=(s0.2.1).toNat) (Tz _)) ?_
   refine VM (YR (j:=0) rfl rfl Ud rfl rfl rfl (by simpa using (tl h3)) (cs':=e32 ((vp s0.2.2 ((s0.2.1).toNat) ((JW &&& 4294967295#64).setWidth 32)).toList)) VR) (fun _=>?_)
   have ⟨Xi,hm_1,H⟩:=ZX H
   refine Ta 0 (congrArg (fun z:Vx 32 8=>e32 (Vector.toList z)) hm_1) ?_
   refine Z6 (ZH (YP ?_))
   refine ZV (Zg rfl rfl (fun w=>Pi w JW .u64 32 (by decide))) ?_
   refine Y2 ?_
   refine ZK (ZW (Z7 (ZH (YP ?_))))
   refine ZV (ZT XN) ?_
   refine Y2 ?_
   have ⟨i1,Ll,H⟩:=ZX H
   refine WN 7 (congrArg vi Ll) ?_
   refine ZK ?_
   obtain rfl:=sj H
   exact Ri [0,0,0] (hK (JW >>> 32,i1,Xi) rfl ())
  refine YW (Z0 (Z0 ?_))
  obtain rfl:=sj H
  exact WW [0,1] (hE (s0.1,s0.2.2) rfl ())
 intro g
 refine ZL (Z7 (Z_ (ZV (Wi (.o 0) isAgg142 YQ) ?_)))
 refine YP ?_
 refine VM (Vd (vs:=e32 Yw.2.toList) 1 YQ) (fun _=>?_)
 refine Y2 ?_
 refine Zq ?_
 obtain rfl:=sj H
 exact SF (vs:=[_,_]) rfl ⟨(Wm (n:=8) rfl (by simp) (.o 1) isAgg142 YQ rfl (Wl (f:=v32) Yw.2)),rfl,trivial⟩
open Vector (replicate)
open TryzI Tryz
def W_.b0 (b:Vx 32 8) (s0:BitVec 64 × Int × Vx 32 8):Option ((BitVec 64 × Int × Vx 32 8) ⊕ (Vx 32 8)) :=
 if s0.2.1<8 then (if 0≤s0.2.1∧s0.2.1<(8:Int) then (if 0≤s0.2.1∧s0.2.1<(8:Int) then (X5 ((((vg s0.2.2 ((s0.2.1).toNat)).setWidth 64) - ((vg b ((s0.2.1).toNat)).setWidth 64)) - s0.1) fun d1=>(if 0≤s0.2.1∧s0.2.1<(8:Int) then (X5 (vp s0.2.2 ((s0.2.1).toNat) ((d1 &&& 4294967295#64).setWidth 32)) fun Xi=>(X5 (ZJ (s0.2.1+1)) fun i1=>(some (.inl (d1 >>> 63,i1,Xi))))) else none)) else none) else none) else (some (.inr s0.2.2))
def W_ (a_ b:Vx 32 8):Option (Vx 32 8) :=
 (loop (W_.b0 b) BIG (0#64,0,a_)).bind fun Yw=>(some Yw)
theorem J7 {a_:Vx 32 8} {b:Vx 32 8} {r:Vx 32 8} (H:W_ a_ b=some r) :
  Does Tryz.prog 113 [aG [(8,e32 a_.toList)],aG [(8,e32 b.toList)]] [] [] (Γ:=Unit) (fun g=>aG [(8,e32 r.toList)]) (fun g=>[]):=by
 intro w hmem hro hd
 refine Zn func113 rfl ntmps113 rfl hmem hro hd ?_
 unfold W_ at H
 refine Z_ (YE (UN [(8,e32 a_.toList)] rfl rfl ⟨(Wl (f:=v32) a_),trivial⟩) (fun b1=>?_))
 refine YE (UN [(8,e32 b.toList)] rfl rfl ⟨(Wl (f:=v32) b),trivial⟩) (fun b2=>?_)
 refine YE (Q7 8 YQ TE) (fun b3=>?_)
 refine Z6 (Z_ (Y2 ?_))
 refine Z6 (ZY (Z_ (Y2 ?_)))
 refine Z6 (ZP ?_)
 have ⟨Yw,Hl,H⟩:=Z9 H
 refine Wz [2,3,4,5,6] [2,1,0] rfl rfl ?_
 refine Yv (id:=0) (body:=(W_.b0 b)) (σ:=BitVec 64 × Int × Vx 32 8) (Γ:=Unit) (Γx:=Unit) (fun s0 WG=>[(2,ptr (some (b1,0)) 0),(3,ptr (some (b2,0)) 0),(4,ptr (some (b3,0)) 0),(5,v64 s0.1),(6,vi s0.2.1)]) (fun s0 WG=>[⟨some (b1,0),e32 s0.2.2.toList⟩,⟨some (b2,0),e32 b.toList⟩,⟨some (b3,0),e32 ((replicate 8 0#32).toList)⟩]) (fun t g=>[(2,ptr (some (b1,0)) 0),(4,ptr (some (b3,0)) 0)]) (fun t g=>[⟨some (b1,0),e32 t.toList⟩,⟨some (b3,0),e32 ((replicate 8 0#32).toList)⟩]) ?_ BIG (0#64,0,a_) () Yw Hl ?_
 ·intro s0 WG r1 H K hK hE
  unfold W_.b0 at H
  refine ZY (Z_ (YP ?_))
  refine ZV (ZT WV) ?_
  refine Z6 (UK H (fun hc H=>?_) (fun hc H=>?_))
  ·refine ZN (Z7 (ZY (ZP (ZY ?_))))
   have ⟨h1,H⟩:=Z4 H
   have ⟨h2,H⟩:=Z4 H
   have ⟨d1,hd1,H⟩:=ZX H
   refine U3 [] 12 rfl ?_
   refine PX 1 [] (.v 0 [] rfl rfl (ZO rfl) (.v 1 [0] rfl rfl (Zw (i:=s0.2.1) rfl rfl underlying142 Ud rfl h1.1 h1.2 (k:=(s0.2.1).toNat) (Tz _)) (.v 2 [1] rfl rfl (Z8 rfl (.o 0) (YL (f:=v32) (V:=s0.2.2) (tl h1)) isAgg140) (.v 3 [2] rfl rfl (Vu rfl (fun w=>M_ w _ _ underlying115 (Lu) (vg s0.2.2 ((s0.2.1).toNat)))) (.v 4 [] rfl rfl (ZO rfl) (.v 5 [4] rfl rfl (Zw (i:=s0.2.1) rfl rfl underlying142 Ud rfl h2.1 h2.2 (k:=(s0.2.1).toNat) (Tz _)) (.v 6 [5] rfl rfl (Z8 rfl (.o 1) (YL (f:=v32) (V:=b) (tl h2)) isAgg140) (.v 7 [6] rfl rfl (Vu rfl (fun w=>M_ w _ _ underlying115 (Lu) (vg b ((s0.2.1).toNat)))) (.v 8 [7,3] rfl rfl (V9 uL rfl rfl) (.v 9 [] rfl rfl (ZO rfl) (.v 10 [8,9] rfl rfl (V9 uL rfl rfl) .nil))))))))))) (fun γ=>?_)
   refine Qj [22,2,3,4,6] rfl rfl ?_
   refine qc 11 [] rfl (XL rfl) rfl ?_
   refine Xb (v':=v64 d1) 7 (congrArg v64 hd1) ?_
   refine Vi ?_
   refine Z7 (Z_ (Zj 2 rfl ?_))
   refine ZV (Zg rfl rfl (fun w=>MZ w d1 4294967295#64)) ?_
   refine ZV (Vu rfl (fun w=>Eo w _ _ underlying140 (Hu) (d1 &&& 4294967295#64))) ?_
   have ⟨h3,H⟩:=Z4 H
   refine ZV (Zw (i:=s0.2.1) rfl rfl underlying142 Ud rfl h3.1 h3.2 (k:=(s0.2.1).toNat) (Tz _)) ?_
   refine VM (YR (j:=0) rfl rfl Ud rfl rfl rfl (by simpa using (tl h3)) (cs':=e32 ((vp s0.2.2 ((s0.2.1).toNat) ((d1 &&& 4294967295#64).setWidth 32)).toList)) VR) (fun _=>?_)
   have ⟨Xi,hm_1,H⟩:=ZX H
   refine Ta 0 (congrArg (fun z:Vx 32 8=>e32 (Vector.toList z)) hm_1) ?_
   refine Z6 (ZH (YP ?_))
   refine ZV (Zg rfl rfl (fun w=>Pi w d1 .u64 63 (by decide))) ?_
   refine Y2 ?_
   refine ZK (ZW (Z7 (ZH (YP ?_))))
   refine ZV (ZT XN) ?_
   refine Y2 ?_
   have ⟨i1,Ll,H⟩:=ZX H
   refine WN 6 (congrArg vi Ll) ?_
   refine ZK ?_
   obtain rfl:=sj H
   exact Ri [0,0,0] (hK (d1 >>> 63,i1,Xi) rfl ())
  refine YW (Z0 (Z0 ?_))
  obtain rfl:=sj H
  exact WW [0,1] (hE s0.2.2 rfl ())
 intro g
 refine ZL (Z7 (Z_ (ZV (Wi (.o 0) isAgg142 YQ) ?_)))
 refine VM (Vd (vs:=e32 Yw.toList) 1 YQ) (fun _=>?_)
 refine Zq ?_
 obtain rfl:=sj H
 exact SF (vs:=[_]) rfl ⟨(Wm (n:=8) rfl (by simp) (.o 1) isAgg142 YQ rfl (Wl (f:=v32) Yw)),trivial⟩
open Vector (replicate)
open TryzI Tryz
def QA (which:Int) (a_ b:Vx 32 8):Option (Vx 32 8) :=
 (VE which).bind fun Zu=>((VS a_ b).bind fun YJ=>((if YJ.2=1#64 then (some true) else ((XC YJ.1 Zu).bind fun Xu=>(some (!Xu)))).bind fun j1=>(if j1=true then ((W_ YJ.1 Zu).bind fun X7=>(some X7)) else (some YJ.1))))
theorem pO {which:Int} {a_:Vx 32 8} {b:Vx 32 8} {r:Vx 32 8} (H:QA which a_ b=some r) :
  Does Tryz.prog 95 [vi which,aG [(8,e32 a_.toList)],aG [(8,e32 b.toList)]] [] [] (Γ:=Unit) (fun g=>aG [(8,e32 r.toList)]) (fun g=>[]):=by
 intro w hmem hro hd
 refine Zn func95 rfl ntmps95 rfl hmem hro hd ?_
 unfold QA at H
 refine Z_ (YE (UN [(8,e32 a_.toList)] rfl rfl ⟨(Wl (f:=v32) a_),trivial⟩) (fun b1=>?_))
 refine YE (UN [(8,e32 b.toList)] rfl rfl ⟨(Wl (f:=v32) b),trivial⟩) (fun b2=>?_)
 refine YE (Q7 8 YQ TE) (fun b3=>?_)
 refine Z6 (Z_ (YP ?_))
 have ⟨Zu,Yk,H⟩:=Z9 H
 refine YE (Y4 (Kq Yk :) call111 .z) (fun Re=>?_)
 refine YE (Q7 8 YQ TE) (fun b4=>?_)
 refine VM (Vd (vs:=e32 Zu.toList) 0 YQ) (fun _=>?_)
 refine Z6 (Z_ (ZV (Wi (.o 3) isAgg142 YQ) ?_))
 refine ZV (Wi (.o 2) isAgg142 YQ) ?_
 have ⟨YJ,X6,H⟩:=Z9 H
 refine YE (Y4 (DZ X6 :) call112 .z) (fun UD=>?_)
 refine Zj 3 rfl ?_
 refine YE (Q7 8 YQ TE) (fun b5=>?_)
 refine VM (Vd (vs:=e32 YJ.1.toList) 0 YQ) (fun _=>?_)
 refine Y2 ?_
 refine Z6 (ZY (Z_ (YP ?_)))
 refine ZV (Zg rfl rfl (fun w=>Cx w YJ.2 1#64)) ?_
 refine YP ?_
 have ⟨j1,Hj,H⟩:=Z9 H
 refine VH (Γ:=Unit) (fun Sc=>[(6,ptr (some (b3,0)) 0),(7,ptr (some (b4,0)) 0),(8,ptr (some (b5,0)) 0),(25,vb j1)]) (fun Sc=>[⟨some (b3,0),e32 ((replicate 8 0#32).toList)⟩,⟨some (b4,0),e32 Zu.toList⟩,⟨some (b5,0),e32 YJ.1.toList⟩]) ?_ ?_
 ·intro Sc
  refine Z7 (Sn H (fun hc H=>?_) (fun hc H=>?_))
  ·refine ZH (ZV (Wi (.o 2) isAgg142 YQ) ?_)
   refine ZV (Wi (.o 1) isAgg142 YQ) ?_
   have ⟨X7,Vt,H⟩:=Z9 H
   refine YE (Y4 (J7 Vt :) call113 .z) (fun Pm=>?_)
   refine VM (Vd (vs:=e32 X7.toList) 2 YQ) (fun _=>?_)
   refine Z6 (Z_ (ZV (Wi (.o 2) isAgg142 YQ) ?_))
   refine VM (Vd (vs:=e32 X7.toList) 0 YQ) (fun _=>?_)
   refine Zq ?_
   obtain rfl:=sj H
   exact SF (vs:=[_]) rfl ⟨(Wm (n:=8) rfl (by simp) (.o 0) isAgg142 YQ rfl (Wl (f:=v32) X7)),trivial⟩
  refine ZN (Z7 (Z_ (ZV (Wi (.o 2) isAgg142 YQ) ?_)))
  refine VM (Vd (vs:=e32 YJ.1.toList) 0 YQ) (fun _=>?_)
  refine Zq ?_
  obtain rfl:=sj H
  exact SF (vs:=[_]) rfl ⟨(Wm (n:=8) rfl (by simp) (.o 0) isAgg142 YQ rfl (Wl (f:=v32) YJ.1)),trivial⟩
 intro hJ
 replace H:=Hj
 refine Td (d:=20) H (fun hc H=>?_) (fun hc H=>?_)
 ·refine Zj 5 rfl ?_
  refine ZK ?_
  obtain rfl:=sj H
  exact WW [2,1,0] (hJ ())
 refine Zc (Wi (.o 0) isAgg142 YQ) ?_
 refine Zc (Wi (.o 1) isAgg142 YQ) ?_
 have ⟨Xu,UH,H⟩:=Z9 H
 refine JQ (Y4 (J2 UH :) call110 .z) (fun JV=>?_)
 refine Zc (UF T_) ?_
 refine FE ?_
 refine ZK ?_
 obtain rfl:=sj H
 exact WW [2,1,0] (hJ ())
end Go.Proofs
end
