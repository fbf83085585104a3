/-
  Part 24 of the proof of what several laws share.
-/
import Derived.Laws.Externs
import Derived.Shelf.Spec.BitsCarry
import Derived.Test.YtkgeoekcnlgfnaaGreatDoorKh23
set_option maxHeartbeats 4000000
set_option maxRecDepth 20000
set_option linter.unusedVariables false
set_option linter.unusedSimpArgs false
section
namespace Go.Proofs
open Go Go.Kx
open Vector (replicate)
open TryzI Tryz
def JD (which:Int):Option (Vx 64 4 × Bool) :=
 X5 (decide (which=0)) fun x1=>(if x1=true then (X5 ((#v[18446744073709551615#64,4294967295#64,0#64,18446744069414584321#64]:Vx 64 4)) fun Xi=>(some (Xi,true))) else (X5 (decide (which=1)) fun x2=>(if x2=true then (X5 ((#v[17562291160714782033#64,13611842547513532036#64,18446744073709551615#64,18446744069414584320#64]:Vx 64 4)) fun SV=>(some (SV,true))) else (X5 (decide (which=2)) fun x3=>(if x3=true then (X5 ((#v[18446744073709551597#64,18446744073709551615#64,18446744073709551615#64,9223372036854775807#64]:Vx 64 4)) fun IV=>(some (IV,true))) else (X5 ((replicate 4 0#64:Vx 64 4)) fun FL=>(some (FL,false))))))))
theorem vG {which:Int} {r:Vx 64 4 × Bool} (H:JD which=some r) :
  Does Tryz.prog 104 [vi which] [] [] (Γ:=Unit) (fun g=>Value.tuple [aG [(4,e64 r.1.toList)],vb r.2].toArray) (fun g=>[]):=by
 intro w hmem hro hd
 refine Zn func104 rfl ntmps104 rfl hmem hro hd ?_
 unfold JD at H
 refine Z_ (YE (R4 4 YB Uj) (fun b1=>?_))
 refine Y2 ?_
 refine Z6 (ZY (Z_ (YP ?_)))
 refine Z6 (ZP (Z_ (ZV (ZT Xr) ?_)))
 refine Y2 ?_
 have ⟨x1,TK,H⟩:=ZX H
 refine WN 5 (congrArg vb TK) ?_
 refine Z6 (Sn H (fun hc H=>?_) (fun hc H=>?_))
 ·refine Z_ (ZV (VJ (pv:=[(0,v64 18446744073709551615#64),(1,v64 4294967295#64),(2,v64 0#64),(3,v64 18446744069414584321#64)]) rfl rfl underlying117 YB Yx rfl Uj (cs:=e64 ((#v[18446744073709551615#64,4294967295#64,0#64,18446744069414584321#64]:Vx 64 4).toList)) (by kernel_rfl)) ?_)
  refine VM (Vd 0 YB) (fun _=>?_)
  have ⟨Xi,hm_1,H⟩:=ZX H
  refine Ta 0 (congrArg (fun z:Vx 64 4=>e64 (Vector.toList z)) hm_1) ?_
  refine Y2 ?_
  refine Zq (ZE (ZZ ?_))
  obtain rfl:=sj H
  exact SF (vs:=[_,_]) rfl ⟨(Wm (n:=4) rfl (by simp) (.o 0) isAgg117 YB rfl (Wl (f:=v64) Xi)),rfl,trivial⟩
 refine Z_ (ZV (ZT Xr) ?_)
 refine Y2 ?_
 have ⟨x2,KO,H⟩:=ZX H
 refine WN 8 (congrArg vb KO) ?_
 refine Z6 (Sn H (fun hc H=>?_) (fun hc H=>?_))
 ·refine Z_ (ZV (VJ (pv:=[(0,v64 17562291160714782033#64),(1,v64 13611842547513532036#64),(2,v64 18446744073709551615#64),(3,v64 18446744069414584320#64)]) rfl rfl underlying117 YB Yx rfl Uj (cs:=e64 ((#v[17562291160714782033#64,13611842547513532036#64,18446744073709551615#64,18446744069414584320#64]:Vx 64 4).toList)) (by kernel_rfl)) ?_)
  refine VM (Vd 0 YB) (fun _=>?_)
  have ⟨SV,hm_2,H⟩:=ZX H
  refine Ta 0 (congrArg (fun z:Vx 64 4=>e64 (Vector.toList z)) hm_2) ?_
  refine Y2 ?_
  refine Zq (ZE (ZZ ?_))
  obtain rfl:=sj H
  exact SF (vs:=[_,_]) rfl ⟨(Wm (n:=4) rfl (by simp) (.o 0) isAgg117 YB rfl (Wl (f:=v64) SV)),rfl,trivial⟩
 refine Z_ (ZV (ZT Xr) ?_)
 refine Y2 ?_
 have ⟨x3,qx,H⟩:=ZX H
 refine WN 11 (congrArg vb qx) ?_
 refine Z6 (Sn H (fun hc H=>?_) (fun hc H=>?_))
 ·refine Z_ (ZV (VJ (pv:=[(0,v64 18446744073709551597#64),(1,v64 18446744073709551615#64),(2,v64 18446744073709551615#64),(3,v64 9223372036854775807#64)]) rfl rfl underlying117 YB Yx rfl Uj (cs:=e64 ((#v[18446744073709551597#64,18446744073709551615#64,18446744073709551615#64,9223372036854775807#64]:Vx 64 4).toList)) (by kernel_rfl)) ?_)
  refine VM (Vd 0 YB) (fun _=>?_)
  have ⟨IV,hm_3,H⟩:=ZX H
  refine Ta 0 (congrArg (fun z:Vx 64 4=>e64 (Vector.toList z)) hm_3) ?_
  refine Y2 ?_
  refine Zq (ZE (ZZ ?_))
  obtain rfl:=sj H
  exact SF (vs:=[_,_]) rfl ⟨(Wm (n:=4) rfl (by simp) (.o 0) isAgg117 YB rfl (Wl (f:=v64) IV)),rfl,trivial⟩
 refine ZN (ZW (Z7 (Z_ (ZV (VJ (pv:=[]) rfl rfl underlying117 YB Yx rfl Uj (cs:=e64 ((replicate 4 0#64:Vx 64 4).toList)) (by kernel_rfl)) ?_))))
 refine VM (Vd 0 YB) (fun _=>?_)
 have ⟨FL,hm_4,H⟩:=ZX H
 refine Ta 0 (congrArg (fun z:Vx 64 4=>e64 (Vector.toList z)) hm_4) ?_
 refine Y2 ?_
 refine Zq ?_
 obtain rfl:=sj H
 exact SF (vs:=[_,_]) rfl ⟨(Wm (n:=4) rfl (by simp) (.o 0) isAgg117 YB rfl (Wl (f:=v64) FL)),rfl,trivial⟩
end Go.Proofs
end

section
namespace Go.Kx
open Go Go.Proofs
theorem fB {C:Ctx} {m:Sl} {L:Mem} {dst ty pos af gd} {xs:List Operand} {ats:Array TypeId} {f:FuncId} {vs:List Value} {v:Value}
  (hxs:evs m xs=some vs) (hx : ∀ w,(callFunc f vs.toArray).run C.P w = .ok (.value v) w) :
  Ou C ⟨dst, .call ⟨.value (.func f),xs.toArray,ats⟩,ty,pos,af,gd⟩ m L v:=fun a w hs=>by
 have hargs:xs.toArray.map a.eval=vs.toArray:=by simp [hs.slots.evs hxs]
 have hfv:a.eval (.func f) = .func (.func f) #[] #[]:=rfl
 simp only [execOp,resolve,hargs,hfv,Deferred.ofValue]
 simp [invoke,hx]
def M4 (x y c:BitVec 64):Option (BitVec 64 × BitVec 64) :=
 if c.toNat≤1 then some (BitVec.ofNat 64 (x.toNat+y.toNat+c.toNat),BitVec.ofNat 64 ((x.toNat+y.toNat+c.toNat) / 18446744073709551616)) else none
def O1 (x y c:BitVec 64):Option (BitVec 64 × BitVec 64) :=
 if c.toNat≤1 then some (BitVec.ofNat 64 (x.toNat+18446744073709551616 - y.toNat - c.toNat),if x.toNat<y.toNat+c.toNat then 1#64 else 0#64) else none
theorem iQ {P:Program} {f:FuncId} {fn:Func} (hf:P.funcs[f]? = some fn) (h1:(fn.name == "runtime.NumGoroutine")=false) (h2:fn.body.isNone=true) (h3:Extern.findNext fn=none)
  (h4:Extern.find fn=some add64Entry) {x y c:BitVec 64} {r:BitVec 64 × BitVec 64} (H:M4 x y c=some r) (w:World) :
  (callFunc f ([v64 x,v64 y,v64 c]:List Value).toArray).run P w = .ok (.value (.tuple #[v64 r.1,v64 r.2])) w:=by
 unfold M4 at H
 split at H
 ·rename_i hc
  cases H
  have hx:=x.isLt
  have hy:=y.isLt
  refine (run_callFunc_extern hf h1 h2 h3 h4 _ w).trans ?_
  have:=run_add64 (P:=P) (x.toNat:Int) y.toNat c.toNat (by omega) (by omega) (by omega) (by omega) w
  refine (congrArg (fun r=>Result.andThen r _) this).trans ?_
  have e1:((x.toNat:Int)+y.toNat+c.toNat) % 18446744073709551616=(((x.toNat+y.toNat+c.toNat) % 2 ^ 64:Nat):Int):=by omega
  have e2:((x.toNat:Int)+y.toNat+c.toNat) / 18446744073709551616=(((x.toNat+y.toNat+c.toNat) / 18446744073709551616 % 2 ^ 64:Nat):Int):=by omega
  rw [e1,e2]
  simp only [Result.andThen,v64,BitVec.toNat_ofNat]
 ·cases H
theorem fK {P:Program} {f:FuncId} {fn:Func} (hf:P.funcs[f]? = some fn) (h1:(fn.name == "runtime.NumGoroutine")=false) (h2:fn.body.isNone=true) (h3:Extern.findNext fn=none)
  (h4:Extern.find fn=some sub64Entry) {x y c:BitVec 64} {r:BitVec 64 × BitVec 64} (H:O1 x y c=some r) (w:World) :
  (callFunc f ([v64 x,v64 y,v64 c]:List Value).toArray).run P w = .ok (.value (.tuple #[v64 r.1,v64 r.2])) w:=by
 unfold O1 at H
 split at H
 ·rename_i hc
  cases H
  refine (run_callFunc_extern hf h1 h2 h3 h4 _ w).trans ?_
  have:=run_sub64 (P:=P) x.toNat y.toNat c.toNat hc w
  refine (congrArg (fun r=>Result.andThen r _) this).trans ?_
  simp only [Result.andThen,v64,BitVec.toNat_ofNat]
  congr 5
  split <;> rfl
 ·cases H
open Go
variable {P:Program} {t e:TypeId} {x y:Operand}
theorem xJ {cs:Array Value} {off:Nat} {k:IntKind} {v:Value} (w:World) (he:P.underlying e=some (.int k)) (hv:cs[off]? = some v):(part e cs off).run P w = .ok v w:=by
 simp [part,isAgg,Sem.run_bind,run_underlying he,hv]
theorem bU (w:World) (d:Nat) {k:IntKind} (a b:Int) (he:P.underlying e=some (.int k)):(Op.equalIn (d+1) e (.int k a) (.int k b)).run P w = .ok (a == b) w:=by
 simp [Op.equalIn,Sem.run_bind,run_underlying he]
theorem tT (w:World) (d:Nat) {k:IntKind} (he:P.underlying e=some (.int k)) (xs ys:List Int) :
  ∀ (l:List Nat),(∀ i ∈ l,i<xs.length∧i<ys.length) →
  (forIn (m:=Sem) l (none,PUnit.unit) (fun i (_:Option Bool × PUnit)=>do
   if !(← Op.equalIn (d+1) e (← part e (xs.map (Value.int k)).toArray (i * 1)) (← part e (ys.map (Value.int k)).toArray (i * 1))) then pure (ForInStep.done (some false,PUnit.unit))
   else pure (ForInStep.yield (none,PUnit.unit)))).run P w = .ok (if l.all (fun i=>xs.getD i 0 == ys.getD i 0) then none else some false,PUnit.unit) w
 | [],_=>by simp [Sem.run]
 | i :: l,h=>by
  have hi:=h i (by simp)
  have h1:(xs.map (Value.int k)).toArray[i * 1]? = some (.int k (xs.getD i 0)):=by simp [hi.1,List.getD]
  have h2:(ys.map (Value.int k)).toArray[i * 1]? = some (.int k (ys.getD i 0)):=by simp [hi.2,List.getD]
  have ih:=tT w d he xs ys l (fun j hj=>h j (by simp [hj]))
  rw [List.forIn_cons]
  simp only [Sem.run_bind,xJ w he h1,xJ w he h2,bU w d _ _ he,Result.andThen_ok]
  cases hb:xs.getD i 0 == ys.getD i 0
  ·have e0:(i :: l).all (fun i=>xs.getD i 0 == ys.getD i 0)=false:=by rw [List.all_cons,hb]; rfl
   rw [e0]; rfl
  ·have e0:(i :: l).all (fun i=>xs.getD i 0 == ys.getD i 0)=l.all (fun i=>xs.getD i 0 == ys.getD i 0):=by rw [List.all_cons,hb]; rfl
   rw [e0]; exact ih
theorem adO (w:World) (d:Nat) {n:Nat} {k:IntKind} (ht:P.underlying t=some (.array n e)) (he:P.underlying e=some (.int k)) (hs:(sizeOf e).run P w = .ok 1 w) (xs ys:List Int) (hx:xs.length=n) (hy:ys.length=n) :
  (Op.equalIn (d+2) t (.agg (xs.map (Value.int k)).toArray) (.agg (ys.map (Value.int k)).toArray)).run P w = .ok (decide (xs=ys)) w:=by
 have hl:=tT (P:=P) w d he xs ys (List.range' 0 n) (fun i hi=>by simp at hi; omega)
 have hq:(List.range' 0 n).all (fun i=>xs.getD i 0 == ys.getD i 0)=decide (xs=ys):=by
  rw [Bool.eq_iff_iff,List.all_eq_true,decide_eq_true_eq]
  constructor
  ·intro h
   refine List.ext_getElem (by omega) fun i h1 h2=>?_
   have:=h i (by simp; omega)
   simpa [List.getD,h1,h2] using this
  ·rintro rfl i _
   simp
 rw [hq] at hl
 have hz:(List.range' 0 [:n].size)=List.range' 0 n:=by simp [Std.Legacy.Range.size]
 unfold Op.equalIn
 simp only [Sem.run_bind,run_underlying ht,Result.andThen_ok,hs]
 simp only [Std.Legacy.Range.forIn_eq_forIn_range']
 rw [hz]
 refine (congrArg (fun r=>Result.andThen r _) hl).trans ?_
 simp only [Result.andThen_ok]
 by_cases c:xs=ys
 ·simp [c,Sem.run]
 ·simp [c,Sem.run]
theorem F7 (w:World) {op:BinOp} {xs ys:Array Value} (hg:P.eqGuardType P.depth t=false):(eqGuard op t x y (.agg xs) (.agg ys)).run P w = .ok () w:=by
 cases op <;> simp [eqGuard,Sem.run_bind,program,Sem.run,hg]
theorem yU (l:List (BitVec 64)):e64 l=(l.map fun v=>(v.toNat:Int)).map (Value.int .u64):=by simp [e64,v64,Function.comp_def]
theorem acr {n:Nat} (a b:Vector (BitVec 64) n):(a.toList.map fun v=>(v.toNat:Int))=(b.toList.map fun v=>(v.toNat:Int)) ↔ a=b:=by
 constructor
 ·intro h
  have:=List.map_inj_right (f:=fun v:BitVec 64=>(v.toNat:Int)) (fun x y hxy=>BitVec.eq_of_toNat_eq (Int.ofNat_inj.1 hxy)) |>.1 h
  exact Vector.toList_inj.1 this
 ·rintro rfl; rfl
theorem acI (w:World) {n:Nat} (ht:P.underlying t=some (.array n e)) (he:P.underlying e=some (.int .u64)) (hs:(sizeOf e).run P w = .ok 1 w) (hg:P.eqGuardType P.depth t=false) (a b:Vector (BitVec 64) n) :
  (TU .eql t x y (.agg (e64 a.toList).toArray) (.agg (e64 b.toList).toArray)).run P w = .ok (vb (decide (a=b))) w:=XI w (F7 w hg) (by
 rw [yU,yU]
 have h:=adO w 9998 ht he hs (a.toList.map fun v=>(v.toNat:Int)) (b.toList.map fun v=>(v.toNat:Int)) (by simp) (by simp)
 show ((Op.equalIn (9998+2) t _ _) >>= fun r=>pure (Value.bool r)).run P w=_
 rw [Sem.run_bind,h]; simp [vb,acr])
end Go.Kx
end

section
namespace Go.Proofs
open Go Go.Kx
open Vector (replicate)
open TryzI Tryz
def Kr.b0 (x y:Vx 64 4) (s0:BitVec 64 × Int × Vx 64 4):Option ((BitVec 64 × Int × Vx 64 4) ⊕ (BitVec 64 × Vx 64 4)) :=
 if s0.2.1<4 then (if 0≤s0.2.1∧s0.2.1<(4:Int) then (if 0≤s0.2.1∧s0.2.1<(4:Int) then ((M4 (vg x ((s0.2.1).toNat)) (vg y ((s0.2.1).toNat)) s0.1).bind fun Zu=>(if 0≤s0.2.1∧s0.2.1<(4:Int) then (X5 (vp s0.2.2 ((s0.2.1).toNat) Zu.1) fun Xi=>(some (.inl (Zu.2,ZJ (s0.2.1+1),Xi)))) else none)) else none) else none) else (some (.inr (s0.1,s0.2.2)))
def Kr (x y:Vx 64 4):Option (Vx 64 4 × BitVec 64) :=
 (loop (Kr.b0 x y) BIG (0#64,0,replicate 4 0#64)).bind fun Yw=>(some (Yw.2,Yw.1))
theorem wQ {x:Vx 64 4} {y:Vx 64 4} {r:Vx 64 4 × BitVec 64} (H:Kr x y=some r) :
  Does Tryz.prog 124 [aG [(4,e64 x.toList)],aG [(4,e64 y.toList)]] [] [] (Γ:=Unit) (fun g=>Value.tuple [aG [(4,e64 r.1.toList)],v64 r.2].toArray) (fun g=>[]):=by
 intro w hmem hro hd
 refine Zn func124 rfl ntmps124 rfl hmem hro hd ?_
 unfold Kr at H
 refine Z_ (YE (UN [(4,e64 x.toList)] rfl rfl ⟨(Wl (f:=v64) x),trivial⟩) (fun b1=>?_))
 refine YE (UN [(4,e64 y.toList)] rfl rfl ⟨(Wl (f:=v64) y),trivial⟩) (fun b2=>?_)
 refine YE (R4 4 YB Uj) (fun b3=>?_)
 refine Y2 ?_
 refine Z6 (Z_ (YE (R4 4 YB Uj) (fun b4=>?_)))
 refine Z6 (Z_ (Y2 ?_))
 refine Z6 (ZY (Z_ (YP ?_)))
 refine Z6 (ZP ?_)
 have ⟨Yw,Hl,H⟩:=Z9 H
 refine Wz [2,3,4,6,7,9] [3,2,1,0] rfl rfl ?_
 refine Yv (id:=0) (body:=(Kr.b0 x y)) (σ:=BitVec 64 × Int × Vx 64 4) (Γ:=Unit) (Γx:=Unit) (fun s0 WG=>[(2,ptr (some (b1,0)) 0),(3,ptr (some (b2,0)) 0),(4,ptr (some (b3,0)) 0),(6,ptr (some (b4,0)) 0),(7,v64 s0.1),(9,vi s0.2.1)]) (fun s0 WG=>[⟨some (b1,0),e64 x.toList⟩,⟨some (b2,0),e64 y.toList⟩,⟨some (b3,0),e64 ((replicate 4 0#64).toList)⟩,⟨some (b4,0),e64 s0.2.2.toList⟩]) (fun t g=>[(4,ptr (some (b3,0)) 0),(6,ptr (some (b4,0)) 0),(7,v64 t.1)]) (fun t g=>[⟨some (b3,0),e64 ((replicate 4 0#64).toList)⟩,⟨some (b4,0),e64 t.2.toList⟩]) ?_ BIG (0#64,0,replicate 4 0#64) () Yw Hl ?_
 ·intro s0 WG r1 H K hK hE
  unfold Kr.b0 at H
  refine Z_ (ZV (ZT WV) ?_)
  refine Z6 (ZY (UK H (fun hc H=>?_) (fun hc H=>?_)))
  ·refine ZN (Z7 (ZY (ZP (Z_ (Zj 2 rfl ?_)))))
   refine Z6 ?_
   have ⟨h1,H⟩:=Z4 H
   have ⟨h2,H⟩:=Z4 H
   have ⟨Zu,Yk,H⟩:=Z9 H
   have ⟨h3,H⟩:=Z4 H
   have ⟨Xi,hm_1,H⟩:=ZX H
   refine U3 [0,0,0] 14 rfl ?_
   refine YA 1 0 rfl ?_
   refine Zz 2 rfl (Zw (i:=s0.2.1) rfl rfl underlying117 Yx rfl h1.1 h1.2 (k:=(s0.2.1).toNat) (Tz _)) ?_
   refine Zz 3 rfl (Z8 rfl (.o 0) (YL (f:=v64) (V:=x) (tl h1)) isAgg115) ?_
   refine YA 0 4 rfl ?_
   refine Zz 5 rfl (Zw (i:=s0.2.1) rfl rfl underlying117 Yx rfl h2.1 h2.2 (k:=(s0.2.1).toNat) (Tz _)) ?_
   refine Zz 6 rfl (Z8 rfl (.o 1) (YL (f:=v64) (V:=y) (tl h2)) isAgg115) ?_
   refine YA 0 7 rfl ?_
   refine Zz 8 rfl (fB rfl (iQ Tryz.func139 rfl rfl rfl rfl Yk)) ?_
   refine YA 2 9 rfl ?_
   refine Zz 12 rfl (Zw (i:=s0.2.1) rfl rfl underlying117 Yx rfl h3.1 h3.2 (k:=(s0.2.1).toNat) (Tz _)) ?_
   refine Qh 13 [0,0,0] rfl (YR (j:=3) rfl rfl Yx rfl rfl rfl (by simpa using (tl h3)) (cs':=e64 ((vp s0.2.2 ((s0.2.1).toNat) Zu.1).toList)) VR) (fun _=>rfl) (fun _=>?_)
   refine Iy 3 (congrArg (fun z:Vx 64 4=>e64 (Vector.toList z)) hm_1) ?_
   refine xH 14 rfl (XL rfl) ?_
   refine Vi ?_
   refine ZW (Z7 (ZH (ZV (ZT XN) ?_)))
   refine YP ?_
   refine ZK ?_
   obtain rfl:=sj H
   exact Ri [0,0,0,0] (hK (Zu.2,ZJ (s0.2.1+1),Xi) rfl ())
  refine YW (Z0 (Z0 ?_))
  obtain rfl:=sj H
  exact WW [2,2] (hE (s0.1,s0.2.2) rfl ())
 intro g
 refine ZL (Z7 (Z_ (ZV (Wi (.o 1) isAgg117 YB) ?_)))
 refine YP ?_
 refine VM (Vd (vs:=e64 Yw.2.toList) 0 YB) (fun _=>?_)
 refine Y2 ?_
 refine Zq ?_
 obtain rfl:=sj H
 exact SF (vs:=[_,_]) rfl ⟨(Wm (n:=4) rfl (by simp) (.o 0) isAgg117 YB rfl (Wl (f:=v64) Yw.2)),rfl,trivial⟩
def O0.b0 (x y:Vx 64 4) (s0:BitVec 64 × Int × Vx 64 4):Option ((BitVec 64 × Int × Vx 64 4) ⊕ (BitVec 64 × Vx 64 4)) :=
 if s0.2.1<4 then (if 0≤s0.2.1∧s0.2.1<(4:Int) then (if 0≤s0.2.1∧s0.2.1<(4:Int) then ((O1 (vg x ((s0.2.1).toNat)) (vg y ((s0.2.1).toNat)) s0.1).bind fun Zu=>(if 0≤s0.2.1∧s0.2.1<(4:Int) then (X5 (vp s0.2.2 ((s0.2.1).toNat) Zu.1) fun Xi=>(some (.inl (Zu.2,ZJ (s0.2.1+1),Xi)))) else none)) else none) else none) else (some (.inr (s0.1,s0.2.2)))
def O0 (x y:Vx 64 4):Option (Vx 64 4 × BitVec 64) :=
 (loop (O0.b0 x y) BIG (0#64,0,replicate 4 0#64)).bind fun Yw=>(some (Yw.2,Yw.1))
theorem DY {x:Vx 64 4} {y:Vx 64 4} {r:Vx 64 4 × BitVec 64} (H:O0 x y=some r) :
  Does Tryz.prog 125 [aG [(4,e64 x.toList)],aG [(4,e64 y.toList)]] [] [] (Γ:=Unit) (fun g=>Value.tuple [aG [(4,e64 r.1.toList)],v64 r.2].toArray) (fun g=>[]):=by
 intro w hmem hro hd
 refine Zn func125 rfl ntmps125 rfl hmem hro hd ?_
 unfold O0 at H
 refine Z_ (YE (UN [(4,e64 x.toList)] rfl rfl ⟨(Wl (f:=v64) x),trivial⟩) (fun b1=>?_))
 refine YE (UN [(4,e64 y.toList)] rfl rfl ⟨(Wl (f:=v64) y),trivial⟩) (fun b2=>?_)
 refine YE (R4 4 YB Uj) (fun b3=>?_)
 refine Y2 ?_
 refine Z6 (Z_ (YE (R4 4 YB Uj) (fun b4=>?_)))
 refine Z6 (Z_ (Y2 ?_))
 refine Z6 (ZY (Z_ (YP ?_)))
 refine Z6 (ZP ?_)
 have ⟨Yw,Hl,H⟩:=Z9 H
 refine Wz [2,3,4,6,7,9] [3,2,1,0] rfl rfl ?_
 refine Yv (id:=0) (body:=(O0.b0 x y)) (σ:=BitVec 64 × Int × Vx 64 4) (Γ:=Unit) (Γx:=Unit) (fun s0 WG=>[(2,ptr (some (b1,0)) 0),(3,ptr (some (b2,0)) 0),(4,ptr (some (b3,0)) 0),(6,ptr (some (b4,0)) 0),(7,v64 s0.1),(9,vi s0.2.1)]) (fun s0 WG=>[⟨some (b1,0),e64 x.toList⟩,⟨some (b2,0),e64 y.toList⟩,⟨some (b3,0),e64 ((replicate 4 0#64).toList)⟩,⟨some (b4,0),e64 s0.2.2.toList⟩]) (fun t g=>[(4,ptr (some (b3,0)) 0),(6,ptr (some (b4,0)) 0),(7,v64 t.1)]) (fun t g=>[⟨some (b3,0),e64 ((replicate 4 0#64).toList)⟩,⟨some (b4,0),e64 t.2.toList⟩]) ?_ BIG (0#64,0,replicate 4 0#64) () Yw Hl ?_
 ·intro s0 WG r1 H K hK hE
  unfold O0.b0 at H
  refine Z_ (ZV (ZT WV) ?_)
  refine Z6 (ZY (UK H (fun hc H=>?_) (fun hc H=>?_)))
  ·refine ZN (Z7 (ZY (ZP (Z_ (Zj 2 rfl ?_)))))
   refine Z6 ?_
   have ⟨h1,H⟩:=Z4 H
   have ⟨h2,H⟩:=Z4 H
   have ⟨Zu,Yk,H⟩:=Z9 H
   have ⟨h3,H⟩:=Z4 H
   have ⟨Xi,hm_1,H⟩:=ZX H
   refine U3 [0,0,0] 14 rfl ?_
   refine YA 1 0 rfl ?_
   refine Zz 2 rfl (Zw (i:=s0.2.1) rfl rfl underlying117 Yx rfl h1.1 h1.2 (k:=(s0.2.1).toNat) (Tz _)) ?_
   refine Zz 3 rfl (Z8 rfl (.o 0) (YL (f:=v64) (V:=x) (tl h1)) isAgg115) ?_
   refine YA 0 4 rfl ?_
   refine Zz 5 rfl (Zw (i:=s0.2.1) rfl rfl underlying117 Yx rfl h2.1 h2.2 (k:=(s0.2.1).toNat) (Tz _)) ?_
   refine Zz 6 rfl (Z8 rfl (.o 1) (YL (f:=v64) (V:=y) (tl h2)) isAgg115) ?_
   refine YA 0 7 rfl ?_
   refine Zz 8 rfl (fB rfl (fK Tryz.func140 rfl rfl rfl rfl Yk)) ?_
   refine YA 2 9 rfl ?_
   refine Zz 12 rfl (Zw (i:=s0.2.1) rfl rfl underlying117 Yx rfl h3.1 h3.2 (k:=(s0.2.1).toNat) (Tz _)) ?_
   refine Qh 13 [0,0,0] rfl (YR (j:=3) rfl rfl Yx rfl rfl rfl (by simpa using (tl h3)) (cs':=e64 ((vp s0.2.2 ((s0.2.1).toNat) Zu.1).toList)) VR) (fun _=>rfl) (fun _=>?_)
   refine Iy 3 (congrArg (fun z:Vx 64 4=>e64 (Vector.toList z)) hm_1) ?_
   refine xH 14 rfl (XL rfl) ?_
   refine Vi ?_
   refine ZW (Z7 (ZH (ZV (ZT XN) ?_)))
   refine YP ?_
   refine ZK ?_
   obtain rfl:=sj H
   exact Ri [0,0,0,0] (hK (Zu.2,ZJ (s0.2.1+1),Xi) rfl ())
  refine YW (Z0 (Z0 ?_))
  obtain rfl:=sj H
  exact WW [2,2] (hE (s0.1,s0.2.2) rfl ())
 intro g
 refine ZL (Z7 (Z_ (ZV (Wi (.o 1) isAgg117 YB) ?_)))
 refine YP ?_
 refine VM (Vd (vs:=e64 Yw.2.toList) 0 YB) (fun _=>?_)
 refine Y2 ?_
 refine Zq ?_
 obtain rfl:=sj H
 exact SF (vs:=[_,_]) rfl ⟨(Wm (n:=4) rfl (by simp) (.o 0) isAgg117 YB rfl (Wl (f:=v64) Yw.2)),rfl,trivial⟩
def LB (gm:Vx 64 4) (D7:BitVec 64) (EA DW:Vx 64 4) (x y:Vx 64 4):Option (Vx 64 4) :=
 (Kr x y).bind fun Zu=>((O0 Zu.1 gm).bind fun YJ=>((if Zu.2=1#64 then (some true) else (some (decide (YJ.2=0#64)))).bind fun j1=>(if j1=true then (some YJ.1) else (some Zu.1))))
theorem xy {bf:Nat} {obf:Nat} {gm:Vx 64 4} {D7:BitVec 64} {EA:Vx 64 4} {DW:Vx 64 4} {x:Vx 64 4} {y:Vx 64 4} {r:Vx 64 4} (H:LB gm D7 EA DW x y=some r) :
  Does Tryz.prog 105 [ptr (some (bf,obf)) 0,aG [(4,e64 x.toList)],aG [(4,e64 y.toList)]] [] [⟨some (bf,obf),e64 gm.toList⟩,⟨some (bf,obf+4),[v64 D7]⟩,⟨some (bf,obf+5),e64 EA.toList⟩,⟨some (bf,obf+9),e64 DW.toList⟩] (Γ:=Unit) (fun g=>aG [(4,e64 r.toList)]) (fun g=>[]):=by
 intro w hmem hro hd
 refine Zn func105 rfl ntmps105 rfl hmem hro hd ?_
 unfold LB at H
 refine Z_ (YE (UN [(4,e64 x.toList)] rfl rfl ⟨(Wl (f:=v64) x),trivial⟩) (fun b1=>?_))
 refine YE (UN [(4,e64 y.toList)] rfl rfl ⟨(Wl (f:=v64) y),trivial⟩) (fun b2=>?_)
 refine YE (R4 4 YB Uj) (fun b3=>?_)
 refine Z6 (Z_ (ZV (Wi (.o 2) isAgg117 YB) ?_))
 refine ZV (Wi (.o 1) isAgg117 YB) ?_
 have ⟨Zu,Yk,H⟩:=Z9 H
 refine YE (Y4 (wQ Yk :) call124 .z) (fun Re=>?_)
 refine Zj 3 rfl ?_
 refine YE (R4 4 YB Uj) (fun b4=>?_)
 refine VM (Vd (vs:=e64 Zu.1.toList) 0 YB) (fun _=>?_)
 refine Y2 ?_
 refine Z6 (ZY (Wz [0,6,7,8] [1,0] rfl rfl ?_))
 have ⟨YJ,X6,H⟩:=Z9 H
 refine U3 [0,0] 11 rfl ?_
 refine Zz 0 rfl (Wi (.o 1) isAgg117 YB) ?_
 refine YA 1 1 rfl ?_
 refine Zz 3 rfl (ZQ 0 underlying159 YB) ?_
 refine Zz 4 rfl (Wi (.r 0) isAgg117 YB) ?_
 refine TBP [ED 5 23 (Value.tuple [aG [(4,e64 YJ.1.toList)],v64 YJ.2].toArray) [],ED 6 17 (Value.tuple [aG [(4,e64 YJ.1.toList)],v64 YJ.2].toArray) [5],ED 7 24 (aG [(4,e64 YJ.1.toList)]) [6],aaS 9 9 4] [ED 8 25 (v64 YJ.2) [6]] 2 [1,1] (.e rfl (Qg (DY X6 :) call125 .z) (.v rfl (ZO rfl) (.v rfl K5 (.c rfl (fun _ _=>(R4 4 YB Uj)) .nil)))) (.c rfl (fun _=>K5) .nil) (fun γ=>?_)
 refine Qj [25,9,24,6,7,8] rfl rfl ?_
 generalize γ 9=b5
 refine Qh 10 [1,1] rfl (Vd (vs:=e64 YJ.1.toList) 0 YB) (fun _=>rfl) (fun _=>?_)
 refine xH 11 rfl (XL rfl) ?_
 refine Vi ?_
 refine Z7 (ZY (Z_ (YP ?_)))
 refine ZV (Zg rfl rfl (fun w=>Cx w Zu.2 1#64)) ?_
 refine YP ?_
 have ⟨j1,Hj,H⟩:=Z9 H
 refine VH (Γ:=Unit) (fun Sc=>[(6,ptr (some (b3,0)) 0),(7,ptr (some (b4,0)) 0),(9,ptr (some (b5,0)) 0),(31,vb j1)]) (fun Sc=>[⟨some (b3,0),e64 ((replicate 4 0#64).toList)⟩,⟨some (b4,0),e64 Zu.1.toList⟩,⟨some (b5,0),e64 YJ.1.toList⟩]) ?_ ?_
 ·intro Sc
  refine Z7 (Sn H (fun hc H=>?_) (fun hc H=>?_))
  ·refine Z_ (ZV (Wi (.o 2) isAgg117 YB) ?_)
   refine VM (Vd (vs:=e64 YJ.1.toList) 0 YB) (fun _=>?_)
   refine Zq (ZZ ?_)
   obtain rfl:=sj H
   exact SF (vs:=[_]) rfl ⟨(Wm (n:=4) rfl (by simp) (.o 0) isAgg117 YB rfl (Wl (f:=v64) YJ.1)),trivial⟩
  refine ZN (Z7 (Z_ (ZV (Wi (.o 1) isAgg117 YB) ?_)))
  refine VM (Vd (vs:=e64 Zu.1.toList) 0 YB) (fun _=>?_)
  refine Zq ?_
  obtain rfl:=sj H
  exact SF (vs:=[_]) rfl ⟨(Wm (n:=4) rfl (by simp) (.o 0) isAgg117 YB rfl (Wl (f:=v64) Zu.1)),trivial⟩
 intro hJ
 replace H:=Hj
 refine Td (d:=28) H (fun hc H=>?_) (fun hc H=>?_)
 ·refine Zj 3 rfl ?_
  refine ZK ?_
  obtain rfl:=sj H
  exact WW [1,1,0] (hJ ())
 refine Zc (ZO rfl) ?_
 refine Zc (Zg rfl rfl (fun w=>Cx w YJ.2 0#64)) ?_
 refine FE ?_
 refine ZK ?_
 obtain rfl:=sj H
 exact WW [1,1,0] (hJ ())
def Qs.b0 (Zu:Vx 64 4 × Bool) (s0:Int × BitVec 64):Option ((Int × BitVec 64) ⊕ (BitVec 64)) :=
 if s0.1<6 then (some (.inl (ZJ (s0.1+1),s0.2 * (2#64 - ((vg Zu.1 0) * s0.2))))) else (some (.inr s0.2))
def Qs.b1 (Zu:Vx 64 4 × Bool) (Yw:BitVec 64) (s1:Int × Vx 64 4 × Vx 64 4):Option ((Int × Vx 64 4 × Vx 64 4) ⊕ (Vx 64 4 × Vx 64 4)) :=
 if s1.1<512 then ((if s1.1=256 then (some s1.2.2) else (some s1.2.1)).bind fun j1=>((LB Zu.1 (-Yw) j1 (replicate 4 0#64) s1.2.2 s1.2.2).bind fun YJ=>(some (.inl (ZJ (s1.1+1),j1,YJ))))) else (some (.inr (s1.2.1,s1.2.2)))
def Qs (which:Int):Option ((Unit) ⊕ (Vx 64 4 × BitVec 64 × Vx 64 4 × Vx 64 4)) :=
 (JD which).bind fun Zu=>(if (!Zu.2)=true then (some (.inl ())) else ((loop (Qs.b0 Zu) BIG (0,1#64)).bind fun Yw=>(X5 ((vp (replicate 4 0#64) 0 1#64:Vx 64 4)) fun Xi=>((loop (Qs.b1 Zu Yw) BIG (0,replicate 4 0#64,Xi)).bind fun M7=>(some (.inr (Zu.1, -Yw,M7.1,M7.2)))))))
theorem Cj {which:Int} {r:(Unit) ⊕ (Vx 64 4 × BitVec 64 × Vx 64 4 × Vx 64 4)} (H:Qs which=some r) :
  Does Tryz.prog 87 [vi which] [] [] (Γ:=Unit × Nat) (fun g=>match r with | .inl r=>Value.pointer none | .inr r=>ptr (some (g.2,0)) 0) (fun g=>match r with | .inl r=>[] | .inr r=>[⟨some (g.2,0),e64 r.1.toList⟩,⟨some (g.2,4),[v64 r.2.1]⟩,⟨some (g.2,5),e64 r.2.2.1.toList⟩,⟨some (g.2,9),e64 r.2.2.2.toList⟩]):=by
 intro w hmem hro hd
 refine Zn func87 rfl ntmps87 rfl hmem hro hd ?_
 unfold Qs at H
 refine Z_ (Y2 ?_)
 refine Z6 (Z_ (YP ?_))
 have ⟨Zu,Yk,H⟩:=Z9 H
 refine YE (Y4 (vG Yk :) call104 .z) (fun Re=>?_)
 refine Zj 3 rfl ?_
 refine YE (R4 4 YB Uj) (fun b1=>?_)
 refine VM (Vd (vs:=e64 Zu.1.toList) 0 YB) (fun _=>?_)
 refine Y2 ?_
 refine Z6 (ZY (Z_ (YP ?_)))
 refine ZV (UF T_) ?_
 refine Z6 (Sn H (fun hc H=>?_) (fun hc H=>?_))
 ·refine Z_ (Y2 ?_)
  refine Zq (ZZ ?_)
  obtain rfl:=sj H
  exact JK ((),(default:Nat)) [] (vs:=[_]) rfl ⟨rfl,trivial⟩ rfl
 refine ZN (Z7 (Z_ (ZV (Wi (.o 0) isAgg117 YB) ?_)))
 refine ZV (Y9 (pv:=[(0,aG [(4,e64 Zu.1.toList)]),(1,v64 1#64)]) (pl:=[(0,4),(4,1),(5,4),(9,4)]) rfl rfl underlying159 aV rF bH (cs:=flat [(4,e64 Zu.1.toList),(1,[v64 1#64]),(4,e64 ((replicate 4 0#64).toList)),(4,e64 ((replicate 4 0#64).toList))]) (NN [] [(1,[v64 0#64]),(4,e64 ((replicate 4 0#64).toList)),(4,e64 ((replicate 4 0#64).toList))] rfl rfl trivial rfl (Wl (f:=v64) (replicate 4 0#64)) (Wl (f:=v64) Zu.1) (NN [(4,e64 Zu.1.toList)] [(4,e64 ((replicate 4 0#64).toList)),(4,e64 ((replicate 4 0#64).toList))] rfl rfl ⟨(Wl (f:=v64) Zu.1),trivial⟩ rfl rfl rfl KN))) ?_
 refine YE (UN [(4,e64 Zu.1.toList),(1,[v64 1#64]),(4,e64 ((replicate 4 0#64).toList)),(4,e64 ((replicate 4 0#64).toList))] rfl rfl ⟨(Wl (f:=v64) Zu.1),rfl,(Wl (f:=v64) (replicate 4 0#64)),(Wl (f:=v64) (replicate 4 0#64)),trivial⟩) (fun b2=>?_)
 refine Y2 ?_
 refine Z6 (ZY (Z_ (YP ?_)))
 refine Z6 (ZP ?_)
 have ⟨Yw,Hl,H⟩:=Z9 H
 refine Wz [3,5,18] [4,0,0,0,0] rfl rfl ?_
 refine Yv (id:=0) (body:=(Qs.b0 Zu)) (σ:=Int × BitVec 64) (Γ:=Unit) (Γx:=Unit) (fun s0 WG=>[(3,ptr (some (b1,0)) 0),(5,ptr (some (b2,0)) 0),(18,vi s0.1)]) (fun s0 WG=>[⟨some (b1,0),e64 Zu.1.toList⟩,⟨some (b2,0),e64 Zu.1.toList⟩,⟨some (b2,4),[v64 s0.2]⟩,⟨some (b2,5),e64 ((replicate 4 0#64).toList)⟩,⟨some (b2,9),e64 ((replicate 4 0#64).toList)⟩]) (fun t g=>[(5,ptr (some (b2,0)) 0)]) (fun t g=>[⟨some (b2,0),e64 Zu.1.toList⟩,⟨some (b2,4),[v64 t]⟩,⟨some (b2,5),e64 ((replicate 4 0#64).toList)⟩,⟨some (b2,9),e64 ((replicate 4 0#64).toList)⟩]) ?_ BIG (0,1#64) () Yw Hl ?_
 ·intro s0 WG r1 H K hK hE
  unfold Qs.b0 at H
  refine Z_ (ZV (ZT WV) ?_)
  refine Z6 (ZY (UK H (fun hc H=>?_) (fun hc H=>?_)))
  ·refine ZN (Z7 (ZY (ZP (U3 [] 16 rfl ?_))))
   refine PX 1 [] (.v 0 [] rfl rfl (ZO rfl) (.v 1 [0] rfl rfl (Zh rfl) (.v 2 [1] rfl rfl (ZQ 4 underlying159 Yx) (.v 3 [2] rfl rfl (Z8 rfl (.o 2) rfl isAgg115) (.v 4 [] rfl rfl (Zw (i:=0) rfl rfl underlying117 Yx rfl (by decide) (by decide) (k:=0) (Tz _)) (.v 5 [4] rfl rfl (Z8 rfl (.o 0) (YL (f:=v64) (V:=Zu.1) (by decide:0<4)) isAgg115) (.v 6 [] rfl rfl (ZO rfl) (.v 7 [6] rfl rfl (Zh rfl) (.v 8 [7] rfl rfl (ZQ 4 underlying159 Yx) (.v 9 [8] rfl rfl (Z8 rfl (.o 2) rfl isAgg115) (.v 10 [5,9] rfl rfl (V9 Fz rfl rfl) (.v 11 [10] rfl rfl (Zg rfl rfl (fun w=>uL w 2#64 ((vg Zu.1 0) * s0.2))) (.v 12 [11,3] rfl rfl (V9 Fz rfl rfl) (.v 13 [0] rfl rfl (Zh rfl) (.v 14 [13] rfl rfl (ZQ 4 underlying159 Yx) .nil))))))))))))))) (fun γ=>?_)
   refine Qj [34,32,3,5,18] rfl rfl ?_
   refine Qh 15 [] rfl (YR (j:=2) rfl rfl Yx rfl rfl rfl (Nat.lt_succ_self 0) (cs':=[v64 (s0.2 * (2#64 - ((vg Zu.1 0) * s0.2)))]) rfl) (fun _=>rfl) (fun _=>?_)
   refine Vi ?_
   refine ZW (Z7 (ZH (ZV (ZT XN) ?_)))
   refine YP ?_
   refine ZK ?_
   obtain rfl:=sj H
   exact Ri [0,0,0,0,0] (hK (ZJ (s0.1+1),s0.2 * (2#64 - ((vg Zu.1 0) * s0.2))) rfl ())
  refine YW (Z0 (Z0 ?_))
  obtain rfl:=sj H
  exact WW [1,1,1,1] (hE s0.2 rfl ())
 intro g
 refine ZL (Z7 (Z_ (Zj 3 rfl ?_)))
 refine ZV (ZQ 4 underlying159 Yx) ?_
 refine ZV (Z8 rfl (.o 1) rfl isAgg115) ?_
 refine ZV (UF eZ) ?_
 refine ZV (Zh rfl) ?_
 refine ZV (ZQ 4 underlying159 Yx) ?_
 refine VM (YR (j:=1) rfl rfl Yx rfl rfl rfl (Nat.lt_succ_self 0) (cs':=[v64 (-Yw)]) rfl) (fun _=>?_)
 refine Z6 (Z_ (ZV (VJ (pv:=[(0,v64 1#64)]) rfl rfl underlying117 YB Yx rfl Uj (cs:=e64 ((vp (replicate 4 0#64) 0 1#64:Vx 64 4).toList)) (by kernel_rfl)) ?_))
 refine YE (R4 4 YB Uj) (fun b3=>?_)
 refine VM (Vd 0 YB) (fun _=>?_)
 have ⟨Xi,hm_1,H⟩:=ZX H
 refine Ta 0 (congrArg (fun z:Vx 64 4=>e64 (Vector.toList z)) hm_1) ?_
 refine Z6 (ZY (Z_ (YP ?_)))
 refine Z6 (ZP ?_)
 have ⟨M7,Hl,H⟩:=Z9 H
 refine Wz [5,6,45] [1,1,1,1,0] rfl rfl ?_
 refine Yv (id:=2) (body:=(Qs.b1 Zu Yw)) (σ:=Int × Vx 64 4 × Vx 64 4) (Γ:=Unit) (Γx:=Unit) (fun s1 ME=>[(5,ptr (some (b2,0)) 0),(6,ptr (some (b3,0)) 0),(45,vi s1.1)]) (fun s1 ME=>[⟨some (b2,0),e64 Zu.1.toList⟩,⟨some (b2,4),[v64 (-Yw)]⟩,⟨some (b2,5),e64 s1.2.1.toList⟩,⟨some (b2,9),e64 ((replicate 4 0#64).toList)⟩,⟨some (b3,0),e64 s1.2.2.toList⟩]) (fun t g=>[(5,ptr (some (b2,0)) 0),(6,ptr (some (b3,0)) 0)]) (fun t g=>[⟨some (b2,0),e64 Zu.1.toList⟩,⟨some (b2,4),[v64 (-Yw)]⟩,⟨some (b2,5),e64 t.1.toList⟩,⟨some (b2,9),e64 ((replicate 4 0#64).toList)⟩,⟨some (b3,0),e64 t.2.toList⟩]) ?_ BIG (0,replicate 4 0#64,Xi) () M7 Hl ?_
 ·intro s1 ME r1 H K hK hE
  unfold Qs.b1 at H
  refine Z_ (ZV (ZT WV) ?_)
  refine Z6 (ZY (UK H (fun hc H=>?_) (fun hc H=>?_)))
  ·refine ZN (Z7 (ZY (ZP (Z_ (Zj 2 rfl ?_)))))
   refine Z6 (ZY (Z_ (YP ?_)))
   refine ZV (ZT Xr) ?_
   refine Z6 ?_
   have ⟨j1,Hj,H⟩:=Z9 H
   refine Ns (Γ:=Unit) (fun Sc=>[(5,ptr (some (b2,0)) 0),(6,ptr (some (b3,0)) 0),(45,vi s1.1)]) (fun Sc=>[⟨some (b2,0),e64 Zu.1.toList⟩,⟨some (b2,4),[v64 (-Yw)]⟩,⟨some (b2,5),e64 j1.toList⟩,⟨some (b2,9),e64 ((replicate 4 0#64).toList)⟩,⟨some (b3,0),e64 s1.2.2.toList⟩]) ?_ ?_
   ·intro Sc
    refine Z7 (ZH (YP ?_))
    refine ZV (Wi (.o 4) isAgg117 YB) ?_
    refine ZV (Wi (.o 4) isAgg117 YB) ?_
    have ⟨YJ,X6,H⟩:=Z9 H
    refine YE (Y4 (xy X6 :) call105 ⟨.o 0, .o 1, .o 2, .o 3,trivial⟩) (fun UD=>?_)
    refine VM (Vd (vs:=e64 YJ.toList) 4 YB) (fun _=>?_)
    refine ZK (ZW (Z7 (ZH (ZV (ZT XN) ?_))))
    refine YP ?_
    refine ZK ?_
    obtain rfl:=sj H
    exact Ri [0,0,0,0,0] (hK (ZJ (s1.1+1),j1,YJ) rfl ())
   intro hJ
   replace H:=Hj
   refine UK H (fun hc H=>?_) (fun hc H=>?_)
   ·refine ZH (YP ?_)
    refine ZV (Wi (.o 4) isAgg117 YB) ?_
    refine ZV (Zh rfl) ?_
    refine ZV (ZQ 5 underlying159 YB) ?_
    refine VM (Vd (vs:=e64 s1.2.2.toList) 2 YB) (fun _=>?_)
    refine ZK ?_
    obtain rfl:=sj H
    exact WW [0,0,0,0,0] (hJ ())
   refine ZN ?_
   obtain rfl:=sj H
   exact WW [0,0,0,0,0] (hJ ())
  refine YW (Z0 (Z0 ?_))
  obtain rfl:=sj H
  exact WW [0,0,0,0,0] (hE (s1.2.1,s1.2.2) rfl ())
 intro g
 refine ZL (Z7 (Z_ (YP ?_)))
 refine ZV (Wi (.o 4) isAgg117 YB) ?_
 refine ZV (Zh rfl) ?_
 refine ZV (ZQ 9 underlying159 YB) ?_
 refine VM (Vd (vs:=e64 M7.2.toList) 3 YB) (fun _=>?_)
 refine Z6 (Z_ (Zj 2 rfl ?_))
 refine Zq ?_
 obtain rfl:=sj H
 exact JK ((),b2) [0,0,0,0] (vs:=[_]) rfl ⟨rfl,trivial⟩ rfl
def Qw.b0 (s_:Str) (s0:Int × Vx 64 4):Option ((Int × Vx 64 4) ⊕ (Vx 64 4)) :=
 if s0.1<32 then (X5 (ZJ (3 - (ZJ (s0.1.tdiv 8)))) fun Qe=>(if 0≤Qe∧Qe<(4:Int) then (if 0≤s0.1∧s0.1<((s_).length:Int) then (if 0≤Qe∧Qe<(4:Int) then (X5 (vp s0.2 ((Qe).toNat) (((vg s0.2 ((Qe).toNat)) <<< 8) ||| ((sg s_ s0.1).setWidth 64))) fun Xi=>(some (.inl (ZJ (s0.1+1),Xi)))) else none) else none) else none)) else (some (.inr s0.2))
def Qw (s_:Str):Option (Vx 64 4) :=
 (loop (Qw.b0 s_) BIG (0,replicate 4 0#64)).bind fun Yw=>(some Yw)
theorem Ef {s_:Str} {r:Vx 64 4} (H:Qw s_=some r) :
  Does Tryz.prog 106 [vs s_] [] [] (Γ:=Unit) (fun g=>aG [(4,e64 r.toList)]) (fun g=>[]):=by
 intro w hmem hro hd
 refine Zn func106 rfl ntmps106 rfl hmem hro hd ?_
 unfold Qw at H
 refine Z_ (YE (R4 4 YB Uj) (fun b1=>?_))
 refine Z6 (Z_ (YE (R4 4 YB Uj) (fun b2=>?_)))
 refine Z6 (ZY (Z_ (YP ?_)))
 refine Z6 (ZP ?_)
 have ⟨Yw,Hl,H⟩:=Z9 H
 refine Wz [0,2,3,6] [1,0] rfl rfl ?_
 refine Yv (id:=0) (body:=(Qw.b0 s_)) (σ:=Int × Vx 64 4) (Γ:=Unit) (Γx:=Unit) (fun s0 WG=>[(0,vs s_),(2,ptr (some (b1,0)) 0),(3,ptr (some (b2,0)) 0),(6,vi s0.1)]) (fun s0 WG=>[⟨some (b1,0),e64 ((replicate 4 0#64).toList)⟩,⟨some (b2,0),e64 s0.2.toList⟩]) (fun t g=>[(2,ptr (some (b1,0)) 0),(3,ptr (some (b2,0)) 0)]) (fun t g=>[⟨some (b1,0),e64 ((replicate 4 0#64).toList)⟩,⟨some (b2,0),e64 t.toList⟩]) ?_ BIG (0,replicate 4 0#64) () Yw Hl ?_
 ·intro s0 WG r1 H K hK hE
  unfold Qw.b0 at H
  refine Z_ (ZV (ZT WV) ?_)
  refine Z6 (ZY (UK H (fun hc H=>?_) (fun hc H=>?_)))
  ·refine ZN (Z7 (ZY (ZP (Z_ (Zj 2 rfl ?_)))))
   refine Z6 (Z_ (YP ?_))
   refine ZV (Zg rfl rfl (fun w=>Lh w s0.1 8 (by decide))) ?_
   refine ZV (ZT OX) ?_
   refine Y2 ?_
   have ⟨Qe,hk_1,H⟩:=ZX H
   refine WN 5 (congrArg vi hk_1) ?_
   refine Z6 ?_
   have ⟨h1,H⟩:=Z4 H
   have ⟨h2,H⟩:=Z4 H
   have ⟨h3,H⟩:=Z4 H
   have ⟨Xi,hm_1,H⟩:=ZX H
   refine U3 [] 12 rfl ?_
   refine PX 1 [] (.v 0 [] rfl rfl (ZO rfl) (.v 1 [] rfl rfl (ZO rfl) (.v 2 [1] rfl rfl (Zw (i:=Qe) rfl rfl underlying117 Yx rfl h1.1 h1.2 (k:=(Qe).toNat) (Tz _)) (.v 3 [2] rfl rfl (Z8 rfl (.o 1) (YL (f:=v64) (V:=s0.2) (tl h1)) isAgg115) (.v 4 [3] rfl rfl (Zg rfl rfl (fun w=>Iw w (vg s0.2 ((Qe).toNat)) .u64 8 (by decide))) (.v 5 [] rfl rfl (ZO rfl) (.v 6 [] rfl rfl (ZO rfl) (.v 7 [5,6] rfl rfl (U2 rfl rfl (i:=s0.1) underlying9 h2.1 h2.2) (.v 8 [7] rfl rfl (Vu rfl (fun w=>GV w _ _ underlying115 (zh) (sg s_ s0.1))) (.v 9 [4,8] rfl rfl (V9 zg rfl rfl) (.v 10 [0] rfl rfl (Zw (i:=Qe) rfl rfl underlying117 Yx rfl h3.1 h3.2 (k:=(Qe).toNat) (Tz _)) .nil))))))))))) (fun γ=>?_)
   refine Qj [22,21,0,2,3,6] rfl rfl ?_
   refine Qh 11 [] rfl (YR (j:=1) rfl rfl Yx rfl rfl rfl (by simpa using (tl h3)) (cs':=e64 ((vp s0.2 ((Qe).toNat) (((vg s0.2 ((Qe).toNat)) <<< 8) ||| ((sg s_ s0.1).setWidth 64))).toList)) VR) (fun _=>rfl) (fun _=>?_)
   refine Iy 1 (congrArg (fun z:Vx 64 4=>e64 (Vector.toList z)) hm_1) ?_
   refine Vi ?_
   refine ZW (Z7 (ZH (ZV (ZT XN) ?_)))
   refine YP ?_
   refine ZK ?_
   obtain rfl:=sj H
   exact Ri [0,0] (hK (ZJ (s0.1+1),Xi) rfl ())
  refine YW (Z0 (Z0 ?_))
  obtain rfl:=sj H
  exact WW [0,0] (hE s0.2 rfl ())
 intro g
 refine ZL (Z7 (Z_ (ZV (Wi (.o 1) isAgg117 YB) ?_)))
 refine VM (Vd (vs:=e64 Yw.toList) 0 YB) (fun _=>?_)
 refine Zq ?_
 obtain rfl:=sj H
 exact SF (vs:=[_]) rfl ⟨(Wm (n:=4) rfl (by simp) (.o 0) isAgg117 YB rfl (Wl (f:=v64) Yw)),trivial⟩
open TryzI Tryz
def Ow (x y:Vx 64 4):Option (Bool) :=
 (O0 x y).bind fun Zu=>(X5 (decide (Zu.2=1#64)) fun x1=>(some x1))
theorem wm {x:Vx 64 4} {y:Vx 64 4} {r:Bool} (H:Ow x y=some r) :
  Does Tryz.prog 107 [aG [(4,e64 x.toList)],aG [(4,e64 y.toList)]] [] [] (Γ:=Unit) (fun g=>vb r) (fun g=>[]):=by
 intro w hmem hro hd
 refine Zn func107 rfl ntmps107 rfl hmem hro hd ?_
 unfold Ow at H
 refine Z_ (YE (UN [(4,e64 x.toList)] rfl rfl ⟨(Wl (f:=v64) x),trivial⟩) (fun b1=>?_))
 refine YE (UN [(4,e64 y.toList)] rfl rfl ⟨(Wl (f:=v64) y),trivial⟩) (fun b2=>?_)
 refine Y2 ?_
 refine Z6 (Z_ (ZV (Wi (.o 1) isAgg117 YB) ?_))
 refine ZV (Wi (.o 0) isAgg117 YB) ?_
 have ⟨Zu,Yk,H⟩:=Z9 H
 refine YE (Y4 (DY Yk :) call125 .z) (fun Re=>?_)
 refine Zj 3 rfl ?_
 refine YE (R4 4 YB Uj) (fun b3=>?_)
 refine VM (Vd (vs:=e64 Zu.1.toList) 0 YB) (fun _=>?_)
 refine Y2 ?_
 refine Z6 (Z_ (YP ?_))
 refine ZV (Zg rfl rfl (fun w=>Cx w Zu.2 1#64)) ?_
 refine Y2 ?_
 have ⟨x1,TK,H⟩:=ZX H
 refine WN 4 (congrArg vb TK) ?_
 refine Zq ?_
 obtain rfl:=sj H
 exact Wj
def Sk (gm:Vx 64 4) (D7:BitVec 64) (EA DW:Vx 64 4) (s_:Str):Option (Vx 64 4 × Bool) :=
 if ((s_).length:Int) ≠ 32 then (X5 ((replicate 4 0#64:Vx 64 4)) fun Xi=>(some (Xi,false))) else ((Qw s_).bind fun Zu=>((Ow Zu gm).bind fun YJ=>(some (Zu,YJ))))
def Pt (s_:Str):Option (Vx 64 4) :=
 if ((s_).length:Int) ≠ 32 then (X5 ((replicate 4 0#64:Vx 64 4)) fun Xi=>(some Xi)) else ((Qw s_).bind fun Zu=>(none))
theorem oK {bf:Nat} {obf:Nat} {gm:Vx 64 4} {D7:BitVec 64} {EA:Vx 64 4} {DW:Vx 64 4} {s_:Str} {r:Vx 64 4 × Bool} (H:Sk gm D7 EA DW s_=some r) :
  Does Tryz.prog 88 [ptr (some (bf,obf)) 0,vs s_] [] [⟨some (bf,obf),e64 gm.toList⟩,⟨some (bf,obf+4),[v64 D7]⟩,⟨some (bf,obf+5),e64 EA.toList⟩,⟨some (bf,obf+9),e64 DW.toList⟩] (Γ:=Unit) (fun g=>Value.tuple [aG [(4,e64 r.1.toList)],vb r.2].toArray) (fun g=>[]):=by
 intro w hmem hro hd
 refine Zn func88 rfl ntmps88 rfl hmem hro hd ?_
 unfold Sk at H
 refine Z_ (YE (R4 4 YB Uj) (fun b1=>?_))
 refine Y2 ?_
 refine Z6 (ZY (Z_ (YP ?_)))
 refine ZV (Zf rfl underlying9) ?_
 refine ZV (ZT SN) ?_
 refine Z6 (UK H (fun hc H=>?_) (fun hc H=>?_))
 ·refine Z_ (ZV (VJ (pv:=[]) rfl rfl underlying117 YB Yx rfl Uj (cs:=e64 ((replicate 4 0#64:Vx 64 4).toList)) (by kernel_rfl)) ?_)
  refine VM (Vd 0 YB) (fun _=>?_)
  have ⟨Xi,hm_1,H⟩:=ZX H
  refine Ta 0 (congrArg (fun z:Vx 64 4=>e64 (Vector.toList z)) hm_1) ?_
  refine Y2 ?_
  refine Zq (ZZ ?_)
  obtain rfl:=sj H
  exact SF (vs:=[_,_]) rfl ⟨(Wm (n:=4) rfl (by simp) (.o 0) isAgg117 YB rfl (Wl (f:=v64) Xi)),rfl,trivial⟩
 refine ZN (Z7 (Z_ (YP ?_)))
 have ⟨Zu,Yk,H⟩:=Z9 H
 refine YE (Y4 (Ef Yk :) call106 .z) (fun Re=>?_)
 refine YE (R4 4 YB Uj) (fun b2=>?_)
 refine VM (Vd (vs:=e64 Zu.toList) 0 YB) (fun _=>?_)
 refine Z6 (ZY ?_)
 have ⟨YJ,X6,H⟩:=Z9 H
 refine U3 [] 9 rfl ?_
 refine PX 2 [] (.v 0 [] rfl rfl (Wi (.o 0) isAgg117 YB) (.v 1 [] rfl rfl (Wi (.o 0) isAgg117 YB) (.v 2 [] rfl rfl (ZO rfl) (.v 3 [2] rfl rfl (Zh rfl) (.v 4 [3] rfl rfl (ZQ 0 underlying159 YB) (.v 5 [4] rfl rfl (Wi (.r 0) isAgg117 YB) (.e 6 [5,1] rfl rfl (Qg (wm X6 :) call107 .z) .nil))))))) (fun γ=>?_)
 refine Qj [19,13,5,4] rfl rfl ?_
 refine Qh 7 [] rfl (Vd (vs:=e64 Zu.toList) 1 YB) (fun _=>rfl) (fun _=>?_)
 refine qc 8 [] rfl (XL rfl) rfl ?_
 refine Vi ?_
 refine Z7 (Y7 ?_)
 obtain rfl:=sj H
 exact SF (vs:=[_,_]) rfl ⟨(Wm (n:=4) rfl (by simp) (.o 1) isAgg117 YB rfl (Wl (f:=v64) Zu)),rfl,trivial⟩
theorem DL {s_:Str} {r:Vx 64 4} (H:Pt s_=some r) :
  Does Tryz.prog 88 [Value.pointer none,vs s_] [] [] (Γ:=Unit) (fun g=>Value.tuple [aG [(4,e64 r.toList)],vb false].toArray) (fun g=>[]):=by
 intro w hmem hro hd
 refine Zn func88 rfl ntmps88 rfl hmem hro hd ?_
 unfold Pt at H
 refine Z_ (YE (R4 4 YB Uj) (fun b1=>?_))
 refine Y2 ?_
 refine Z6 (ZY (Z_ (YP ?_)))
 refine ZV (Zf rfl underlying9) ?_
 refine ZV (ZT SN) ?_
 refine Z6 (UK H (fun hc H=>?_) (fun hc H=>?_))
 ·refine Z_ (ZV (VJ (pv:=[]) rfl rfl underlying117 YB Yx rfl Uj (cs:=e64 ((replicate 4 0#64:Vx 64 4).toList)) (by kernel_rfl)) ?_)
  refine VM (Vd 0 YB) (fun _=>?_)
  have ⟨Xi,hm_1,H⟩:=ZX H
  refine Ta 0 (congrArg (fun z:Vx 64 4=>e64 (Vector.toList z)) hm_1) ?_
  refine Y2 ?_
  refine Zq (ZZ ?_)
  obtain rfl:=sj H
  exact SF (vs:=[_,_]) rfl ⟨(Wm (n:=4) rfl (by simp) (.o 0) isAgg117 YB rfl (Wl (f:=v64) Xi)),rfl,trivial⟩
 refine ZN (Z7 (Z_ (YP ?_)))
 have ⟨Zu,Yk,H⟩:=Z9 H
 refine YE (Y4 (Ef Yk :) call106 .z) (fun Re=>?_)
 refine YE (R4 4 YB Uj) (fun b2=>?_)
 refine VM (Vd (vs:=e64 Zu.toList) 0 YB) (fun _=>?_)
 refine Z6 (ZY ?_)
 exact absurd (show (none:Option _)=some _ from H) (fun h=>by cases h)
def Oo (x:Vx 64 4):Option (Bool) :=
 X5 (decide (x=(replicate 4 0#64:Vx 64 4))) fun x1=>(some x1)
theorem qf {x:Vx 64 4} {r:Bool} (H:Oo x=some r) :
  Does Tryz.prog 89 [aG [(4,e64 x.toList)]] [] [] (Γ:=Unit) (fun g=>vb r) (fun g=>[]):=by
 intro w hmem hro hd
 refine Zn func89 rfl ntmps89 rfl hmem hro hd ?_
 unfold Oo at H
 refine Z_ (YE (UN [(4,e64 x.toList)] rfl rfl ⟨(Wl (f:=v64) x),trivial⟩) (fun b1=>?_))
 refine Y2 ?_
 refine Z6 (Z_ (ZV (Wi (.o 0) isAgg117 YB) ?_))
 refine ZV (VJ (pv:=[]) rfl rfl underlying117 YB Yx rfl Uj (cs:=e64 ((replicate 4 0#64:Vx 64 4).toList)) (by kernel_rfl)) ?_
 refine ZV (Zg rfl rfl (fun w=>acI w underlying117 underlying115 (by kernel_rfl) (by kernel_rfl) x (replicate 4 0#64:Vx 64 4))) ?_
 refine Y2 ?_
 have ⟨x1,TK,H⟩:=ZX H
 refine WN 2 (congrArg vb TK) ?_
 refine Zq ?_
 obtain rfl:=sj H
 exact Wj
open TryzI Tryz
def Pb (k:Str):Option (Vx 64 4 × Bool) :=
 (Qs 1).bind fun Zu=>(match Zu with | .inl Zu=>((Pt k).bind fun YJ=>(some (YJ,false))) | .inr Zu=>((Sk Zu.1 Zu.2.1 Zu.2.2.1 Zu.2.2.2 k).bind fun X7=>(if X7.2=true then ((Oo X7.1).bind fun Xu=>(some (X7.1, !Xu))) else (some (X7.1,false)))))
theorem o_ {k:Str} {r:Vx 64 4 × Bool} (H:Pb k=some r) :
  Does Tryz.prog 71 [vs k] [] [] (Γ:=Unit) (fun g=>Value.tuple [aG [(4,e64 r.1.toList)],vb r.2].toArray) (fun g=>[]):=by
 intro w hmem hro hd
 refine Zn func71 rfl ntmps71 rfl hmem hro hd ?_
 unfold Pb at H
 refine Z_ (YE (R4 4 YB Uj) (fun b1=>?_))
 refine Y2 ?_
 refine Z6 (Z_ ?_)
 have ⟨Zu,Yk,H⟩:=Z9 H
 rcases Zu with Zu | Zu
 ·dsimp only at H
  refine vO rfl rfl rfl (Wq (is:=[]) rfl call87 (Cj Yk :) rfl trivial) (fun Re=>?_)
  refine YP ?_
  have ⟨YJ,X6,H⟩:=Z9 H
  refine YE (Y4 (DL X6 :) call88 .z) (fun UD=>?_)
  refine Zj 3 rfl ?_
  refine YE (R4 4 YB Uj) (fun b2=>?_)
  refine VM (Vd (vs:=e64 YJ.toList) 0 YB) (fun _=>?_)
  refine Y2 ?_
  refine Z6 (ZY (U3 [0] 8 rfl ?_))
  refine Zz 0 rfl (Wi (.o 0) isAgg117 YB) ?_
  refine YA 5 1 rfl ?_
  refine Qh 7 [0] rfl (Vd (vs:=e64 YJ.toList) 1 YB) (fun _=>rfl) (fun _=>?_)
  refine xH 8 rfl (XL rfl) ?_
  refine Vi ?_
  refine Z7 (Y7 ?_)
  obtain rfl:=sj H
  exact SF (vs:=[_,_]) rfl ⟨(Wm (n:=4) rfl (by simp) (.o 1) isAgg117 YB rfl (Wl (f:=v64) YJ)),rfl,trivial⟩
 dsimp only at H
 refine vO rfl rfl rfl (Wq (is:=[]) rfl call87 (Cj Yk :) rfl trivial) (fun Pm=>?_)
 refine YP ?_
 have ⟨X7,Vt,H⟩:=Z9 H
 refine YE (Y4 (oK Vt :) call88 ⟨.o 0, .o 1, .o 2, .o 3,trivial⟩) (fun JV=>?_)
 refine Zj 3 rfl ?_
 refine YE (R4 4 YB Uj) (fun b3=>?_)
 refine VM (Vd (vs:=e64 X7.1.toList) 0 YB) (fun _=>?_)
 refine Y2 ?_
 refine Z6 (ZY (Wz [2,4,5] [5,0] rfl rfl ?_))
 refine UI X7.2 (fun yJ=>?_) (fun yJ=>?_)
 ·replace H:=U8 yJ H
  have ⟨Xu,UH,H⟩:=Z9 H
  refine U3 [1] 8 rfl ?_
  refine Zz 0 rfl (Wi (.o 0) isAgg117 YB) ?_
  refine YA 1 1 rfl ?_
  refine Xb 14 (congrArg vb yJ) ?_
  refine Zz 3 rfl (Wi (.o 0) isAgg117 YB) ?_
  refine Tm 4 [1] rfl (Y4 (qf UH :) call89 .z) (fun _=>rfl) (fun zM=>?_)
  refine Zz 5 rfl (UF T_) ?_
  refine YA 0 6 rfl ?_
  refine Qh 7 [1] rfl (Vd (vs:=e64 X7.1.toList) 0 YB) (fun _=>rfl) (fun _=>?_)
  refine xH 8 rfl (XL rfl) ?_
  refine Vi ?_
  refine Z7 (Y7 ?_)
  obtain rfl:=sj H
  exact SF (vs:=[_,_]) rfl ⟨(Wm (n:=4) rfl (by simp) (.o 0) isAgg117 YB rfl (Wl (f:=v64) X7.1)),rfl,trivial⟩
 replace H:=U7 (Bool.eq_false_iff.1 yJ) H
 refine U3 [1] 8 rfl ?_
 refine Zz 0 rfl (Wi (.o 0) isAgg117 YB) ?_
 refine YA 1 1 rfl ?_
 refine Xb 14 (congrArg vb yJ) ?_
 refine YA 3 3 rfl ?_
 refine Qh 7 [1] rfl (Vd (vs:=e64 X7.1.toList) 0 YB) (fun _=>rfl) (fun _=>?_)
 refine xH 8 rfl (XL rfl) ?_
 refine Vi ?_
 refine Z7 (Y7 ?_)
 obtain rfl:=sj H
 exact SF (vs:=[_,_]) rfl ⟨(Wm (n:=4) rfl (by simp) (.o 0) isAgg117 YB rfl (Wl (f:=v64) X7.1)),rfl,trivial⟩
open TryzI Tryz
def O7 (s_:Str):Option (Bool) :=
 (Uy ((s_).length:Int) 1 16384).bind fun Zu=>(some (!Zu))
theorem qN {s_:Str} {r:Bool} (H:O7 s_=some r) :
  Does Tryz.prog 91 [vs s_] [] [] (Γ:=Unit) (fun g=>vb r) (fun g=>[]):=by
 intro w hmem hro hd
 refine Zn func91 rfl ntmps91 rfl hmem hro hd ?_
 unfold O7 at H
 refine Z_ (Y2 ?_)
 refine Z6 (Z_ (YP ?_))
 refine ZV (Zf rfl underlying9) ?_
 have ⟨Zu,Yk,H⟩:=Z9 H
 refine YE (Y4 (Vn Yk :) call46 .z) (fun Re=>?_)
 refine ZV (UF T_) ?_
 refine Y2 ?_
 refine Zq ?_
 obtain rfl:=sj H
 exact Wj
end Go.Proofs
end
