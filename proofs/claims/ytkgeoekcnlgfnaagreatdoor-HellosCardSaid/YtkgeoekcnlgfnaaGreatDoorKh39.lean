/-
  Part 39 of the proof of what several laws share.
-/
import Derived.SizedLaws
import Derived.ChangeSlices
import Derived.SliceStrings
import Derived.WideShapes
import Derived.ChangeShapes
import Derived.ChangeSame
import Derived.ChangeMaps5
import Derived.ChangeArms
import Derived.DataReads
import Derived.DataElems
import Derived.Test.YtkgeoekcnlgfnaaGreatDoorKh38
set_option linter.unusedVariables false
set_option linter.unusedSimpArgs false
section
namespace Go.Proofs
open Go Go.Kx
theorem xU (s:Bool) (S G:List Int) (ch:List Str) (key:Str) (ro:List Str) (nm:Str) (tk:Int) (sl:Str) (U4:List (Str × Str × Int × Int × Int × Int)) (tape:Str) (clock pad limit ring mK:Int) (mR mS:Str) (LP:List Int) (mN:Str) (mV mG Mk mM:List Int) (Vr:List (Int × Str)) (mI:List (Str × Int)) (mB:List Str) (mP:Int) (mO:List Int) (mC:List Str) (Pn:Int) (mD:Str) (mL mA:Int) (IB:Str) (mU:Int) (again:Bool) (group:Int) (bv dx sh:Str) (h_S:S.length * 8≤140737488351232) (h_G:G.length * 8≤140737488351232) (aey:ch.length * 16≤140737488351232) (aeM:ro.length * 16≤140737488351232) (ael:U4.length * 64≤140737488351232) (ad6:LP.length * 8≤140737488351232) (aez:mV.length * 8≤140737488351232) (aeG:mG.length * 8≤140737488351232) (aeh:Mk.length * 8≤140737488351232) (aeI:mM.length * 8≤140737488351232) (aec:Vr.length * 24≤140737488351232) (aep:mI.length * 24≤140737488351232) (aeE:mB.length * 16≤140737488351232) (aeK:mO.length * 8≤140737488351232) (aex:mC.length * 16≤140737488351232):Ra s S G ch key ro nm tk sl U4 tape clock pad limit ring mK mR mS LP mN mV mG Mk mM Vr mI mB mP mO mC Pn mD mL mA IB mU again group bv dx sh=some true:=by
 obtain ⟨c,c1,c2⟩:=zq (s:=s) (S:=S) (G:=G) (ch:=ch) (key:=key) (ro:=ro) (nm:=nm) (tk:=tk) (sl:=sl) (U4:=U4) (tape:=tape) (clock:=clock) (pad:=pad) (limit:=limit) (ring:=ring) (mK:=mK) (mR:=mR) (mS:=mS) (LP:=LP) (mN:=mN) (mV:=mV) (mG:=mG) (Mk:=Mk) (mM:=mM) (Vr:=Vr) (mI:=mI) (mB:=mB) (mP:=mP) (mO:=mO) (mC:=mC) (Pn:=Pn) (mD:=mD) (mL:=mL) (mA:=mA) (IB:=IB) (mU:=mU) (again:=again) (group:=group) (show S.length<1152921504606846976 by omega) (show G.length<1152921504606846976 by omega) (show ch.length<1152921504606846976 by omega) (show ro.length<1152921504606846976 by omega) (show U4.length<1152921504606846976 by omega) (show LP.length<1152921504606846976 by omega) (show mV.length<1152921504606846976 by omega) (show mG.length<1152921504606846976 by omega) (show Mk.length<1152921504606846976 by omega) (show mM.length<1152921504606846976 by omega) (show Vr.length<1152921504606846976 by omega)
 obtain ⟨k,r1,r2,r3,e,l1,l2,l3,l4,l5,l6,l7,l8,l9,pG,f1,f2,g1,g2,g3,g4,g5,g6,g7,g8,g9,g10,t8,t10⟩:=vQ (s:=s) (S:=S) (G:=G) (ch:=ch) (key:=key) (ro:=ro) (nm:=nm) (tk:=tk) (sl:=sl) (U4:=U4) (tape:=tape) (clock:=clock) (pad:=pad) (limit:=limit) (ring:=ring) (show S.length≤17592186044416 by omega) (show G.length≤17592186044416 by omega) (show ch.length<1152921504606846976 by omega) (show ro.length<1152921504606846976 by omega) (show U4.length<1152921504606846976 by omega) bv dx sh
 subst t10
 obtain ⟨b,m1,m2, -⟩:=wI (s:=s) (S:=S) (G:=G) (ch:=ch) (key:=key) (ro:=ro) (nm:=nm) (tk:=tk) (sl:=sl) (U4:=U4) (tape:=tape) (clock:=clock) (pad:=pad) (limit:=limit) (ring:=ring) (show S.length<1152921504606846976 by omega) (show G.length<1152921504606846976 by omega) (show ch.length<1152921504606846976 by omega) (show ro.length<1152921504606846976 by omega) (show U4.length<1152921504606846976 by omega)
 obtain ⟨q10,q9,q8,q7,q6,q5,q4,q3,q2,q1,p0,p1,p2,p3,p4,p5,p6,p7,p8,p9,p10⟩:=yG (mK:=k) (mR:=r1) (mS:=r2) (LP:=l1) (mN:=r3) (mV:=l2) (mG:=l3) (Mk:=l4) (mM:=l5) (Vr:=l6) (mI:=l7) (mB:=l8) (mP:=0) (mO:=l9) (mC:=[]) (Pn:=0) (mD:=[]) (mL:=0) (mA:=0) (IB:=[]) (mU:=0) g1 g2 g3 g4 g5 g6 g7 g8 g9 g10 t8 (fun j hj=>by simp at hj)
 unfold Ra
 refine Z5 (CS (by omega) (by omega) (by omega) (by omega) (by omega)) (Z5 (xD (by omega) (by omega) (by omega) (by omega) (by omega) (by omega) (by omega) (by omega) (by omega) (by omega)) (Z5 c1 (Z5 c2 (Z5 f1 (Z5 f2 (Z5 m1 (Z5 m2 (Zi (by simp) (Zi (by rw [Mh]; decide) (Z5 (Gv g1 g2 g3 g4 g5 g6 g7 g8 g9 g10) (Zi (by decide) (Z5 (v:=e) rfl (Zi (fun h=>h rfl) (Z5 (JR (show S.length<1152921504606846976 by omega) (show G.length<1152921504606846976 by omega) (show ch.length<1152921504606846976 by omega) (show ro.length<1152921504606846976 by omega) (show U4.length<1152921504606846976 by omega)) (Zi (by decide) (Z5 (Gv (show LP.length<1152921504606846976 by omega) (show mV.length<1152921504606846976 by omega) (show mG.length<1152921504606846976 by omega) (show Mk.length<1152921504606846976 by omega) (show mM.length<1152921504606846976 by omega) (show Vr.length<1152921504606846976 by omega) (show mI.length<1152921504606846976 by omega) (show mB.length<1152921504606846976 by omega) (show mO.length<1152921504606846976 by omega) (show mC.length<1152921504606846976 by omega)) (Zi (by decide) (Z5 p0 (ZM p1 (ZM p2 (ZM p3 (ZM p4 (ZM p5 (ZM p6 (ZM p7 (ZM p8 (ZM p9 (ZM p10 (Z5 (JR (show S.length<1152921504606846976 by omega) (show G.length<1152921504606846976 by omega) (show ch.length<1152921504606846976 by omega) (show ro.length<1152921504606846976 by omega) (show U4.length<1152921504606846976 by omega)) (ZM rfl (Z5 jy rfl)))))))))))))))))))))))))))))))
end Go.Proofs
end

section
namespace Go.Kx
open Go Go.RowKit
def str (b:ByteArray):Str:=b.data.toList.map (·.toBitVec)
theorem JF (b:ByteArray):Value.string b=vs (str b):=by
 unfold vs bytes str
 congr 1
 apply ByteArray.ext
 have:(UInt8.ofBitVec ∘ fun x:UInt8=>x.toBitVec)=id:=by funext x; rfl
 simp [this]
theorem wM (b:ByteArray):(str b).length=b.size:=by
 show (List.map _ b.data.toList).length=b.data.size
 rw [List.length_map,Array.length_toList]
theorem Does.law {P:Program} {f:FuncId} {args:List Value} (h:Does P f args [] [] (Γ:=Unit) (fun _=>vb true) (fun _=>[])) (w:World) :
  Calls P f args.toArray w fun e w'=>e = .returned (.bool true)∧Below w.heap.size w w':=by
 refine (h w ⟨fun e he=>(List.not_mem_nil he).elim,List.Pairwise.nil⟩ (fun e he=>(List.not_mem_nil he).elim) (fun e he=>(List.not_mem_nil he).elim)).mono fun e w' ⟨_,he,hs⟩=>⟨he,hs.below⟩
open Go Go.RowKit Go.ChangeShapes Go.WideShapes
theorem Does.ac2 {P:Program} {f:FuncId} {args:List Value} {Ro:Mem} (h:Does P f args [] Ro (Γ:=Unit) (fun _=>vb true) (fun _=>[])) (w:World) (hr : ∀ e ∈ Ro,Has w e) :
  Calls P f args.toArray w fun e w'=>e = .returned (.bool true)∧Below w.heap.size w w':=by
 refine (h w ⟨fun e he=>(List.not_mem_nil he).elim,List.Pairwise.nil⟩ hr (fun e he=>(List.not_mem_nil he).elim)).mono fun e w' ⟨_,he,hs⟩=>⟨he,hs.below⟩
theorem NC {b:ByteArray} {n:Nat} (h:b.data.toList.length≤n):(str b).length≤n:=by
 rw [wM]; simpa using h
theorem ig {l:List ByteArray} {p:Str} (h:p ∈ l.map str) : ∃ b ∈ l,str b=p:=by simpa using h
section
variable {H:Type} {enc:TypeId × Value → H} {P:Program} {w:World} {base:Nat} {held:Bool} {t e:TypeId} {v:Value} {d:DataW H} {p:List MemPlace}
theorem Kj (ht:P.underlying t=some (.slice e)) (hv:Value.okWide P w .any base t v):v = .slice none 0 0 ∨ ∃ a len cap,v = .slice (some a) len cap∧a.spot=none∧len≤cap:=by
 simp only [Value.okWide,ht,Cell.okWide] at hv
 unfold Cell.ok at hv
 simp only [ht] at hv
 cases v with
 | slice a len cap =>
  cases a with
  | none=>cases len <;> cases cap <;> simp_all
  | some a=>exact .inr ⟨a,len,cap,rfl,hv.2.2.2.1,hv.1⟩
 | _=>simp at hv
theorem Dm {a:Addr} (h:a.spot=none):(some a:Option Addr)=Option.map (fun q:Nat × Nat=>(⟨q.1,q.2,none⟩:Addr)) (some (a.block,a.off)):=by
 cases a; simp_all
theorem z8 {a:Addr} (h:a.spot=none) (i:Nat):a.add i=loc (some (a.block,a.off)) i:=by
 unfold Addr.add loc bk EY
 by_cases hi:i=0
 ·subst hi; cases a; simp_all
 ·rw [if_neg hi]; cases a; simp_all
theorem LX (ht:P.underlying t=some (.slice e)) (he:P.underlying e=some (.int .i64)) (hc:P.cellsOf e=1) (hv:Value.okWide P w .any base t v)
  (h:DataW.Trod enc P w 0 (fun _=>true) held t v d p) :
  ∃ (A:Y6) (l:List Int) (c:Nat),v=sl A l.length c∧l.length≤c∧Has w ⟨A,eI l⟩∧(d = .nil∧l=[] ∨ ∃ es sp,d = .slice es sp∧es.length=l.length)∧(∀ n ∈ l,(Lit.int .i64 n).wf=true):=by
 obtain ⟨fuel,hf⟩:=h
 rcases Kj ht hv with rfl | ⟨a,len,cap,rfl,hsp,hlc⟩
 ·rcases open_ints ht he hc hf with ⟨_,hx⟩ | ⟨x,l,c,zs,hcs,_⟩
  ·refine ⟨none,[],0,rfl,Nat.le_refl _,⟨fun _=>rfl,fun i v hv=>by simp at hv⟩, .inl ⟨(by cases hx; rfl),rfl⟩,fun n hn=>by simp at hn⟩
  ·simp [Value.cells] at hcs
 ·rcases open_ints ht he hc hf with ⟨hcs,_⟩ | ⟨x,l,c,zs,hcs,_,hl,hm,hz,hx,hcell,hwz⟩
  ·simp [Value.cells] at hcs
  ·simp [Value.cells] at hcs
   obtain ⟨rfl,rfl,rfl⟩:=hcs
   simp at hz
   have hzl:(zs.take len).length=len:=by rw [List.length_take]; omega
   refine ⟨some (a.block,a.off),zs.take len,cap,?_,by omega,⟨(fun h=>by cases h),fun i v hv=>?_⟩, .inr ⟨_,_,(by injection hx),?_⟩,fun n hn=>hwz n (List.mem_of_mem_take hn)⟩
   ·rw [hzl]
    unfold sl
    rw [← Dm hsp]
   ·have hi:i<len:=by have:=(List.getElem?_eq_some_iff.1 hv).1; simp at this; omega
    have ou:v=vi (zs.getD i 0):=by
     rw [List.getElem?_map,List.getElem?_take,if_pos hi,List.getElem?_eq_getElem (by omega)] at hv
     simp only [Option.map_some,Option.some.injEq] at hv
     rw [← hv,List.getD_eq_getElem?_getD,List.getElem?_eq_getElem (by omega)]
     rfl
    rw [← z8 hsp,ou]
    exact hcell i (by omega)
   ·simp [lits]
theorem LW {ts:List TypeId} {ds:List (DataW H)} {l:List Int} {j:Nat} (hsz:(DataW.weightsEach P ts ds).all (· ≤ reachBytes)=true) (hj:ts[j]? = some t) (hd:ds[j]? = some d) (ht:P.underlying t=some (.slice e)) {B:Nat} (hB:P.bytesOf e=B) (h:d = .nil∧l=[] ∨ ∃ es sp,d = .slice es sp∧es.length=l.length) :
  l.length * B≤140737488351232:=by
 rcases h with ⟨_,rfl⟩ | ⟨es,sp,rfl,hl⟩
 ·simp
 ·have:=sized_slice hsz hj hd ht
  rw [hB] at this
  rw [← hl]
  have h2:reachBytes=140737488351232:=rfl
  have:=Nat.le_trans (Nat.mul_le_mul_right B (Nat.le_add_right es.length sp.length)) this
  omega
theorem Jw {t:TypeId} {d:DataW H} : ∀ {ds:List (DataW H)},d ∈ ds → ∀ n ∈ d.weights P t,n ∈ DataW.weightsAll P t ds
 | x :: r,h,n,hn=>by
  unfold DataW.weightsAll
  rcases List.mem_cons.1 h with rfl | h
  ·exact List.mem_append_left _ hn
  ·exact List.mem_append_right _ (Jw h n hn)
theorem EZ {ts:List TypeId} {ds:List (DataW H)} {j:Nat} (ht:P.underlying t=some (.slice e)) (he:P.underlying e=some .string) (hc:P.cellsOf e=1) (hB:P.bytesOf e=16) (hv:Value.okWide P w .any base t v)
  (h:DataW.Trod enc P w 0 (fun _=>true) held t v d p) (hsz:(DataW.weightsEach P ts ds).all (· ≤ reachBytes)=true) (hj:ts[j]? = some t) (hd:ds[j]? = some d) :
  ∃ (A:Y6) (l:List Str) (c:Nat),v=sl A l.length c∧l.length≤c∧Has w ⟨A,eS l⟩∧l.length * 16≤140737488351232 ∧ ∀ s ∈ l,s.length≤140737488351232:=by
 obtain ⟨fuel,hf⟩:=h
 rcases Kj ht hv with rfl | ⟨a,len,cap,rfl,hsp,hlc⟩
 ·rcases open_strings ht he hc hf with ⟨_,hx⟩ | ⟨x,l,c,zs,hcs,_⟩
  ·refine ⟨none,[],0,rfl,Nat.le_refl _,⟨fun _=>rfl,fun i v hv=>by simp at hv⟩,by simp,fun n hn=>by simp at hn⟩
  ·simp [Value.cells] at hcs
 ·rcases open_strings ht he hc hf with ⟨hcs,_⟩ | ⟨x,l,c,zs,hcs,_,hl,hm,hz,hx,hcell,hwz⟩
  ·simp [Value.cells] at hcs
  ·simp [Value.cells] at hcs
   obtain ⟨rfl,rfl,rfl⟩:=hcs
   simp at hz
   have hdx:d = .slice (strs (zs.take len)) (strs (zs.drop len)):=by injection hx
   have hzl:(zs.take len).length=len:=by rw [List.length_take]; omega
   have h2:reachBytes=140737488351232:=rfl
   refine ⟨some (a.block,a.off),(zs.take len).map str,cap,?_,by rw [List.length_map]; omega,⟨(fun h=>by cases h),fun i v hv=>?_⟩,?_,fun s hs=>?_⟩
   ·rw [List.length_map,hzl]
    unfold sl
    rw [← Dm hsp]
   ·have hi:i<len:=by have:=(List.getElem?_eq_some_iff.1 hv).1; simp at this; omega
    have ou:v = .string (zs.getD i ByteArray.empty):=by
     rw [List.getElem?_map,List.getElem?_map,List.getElem?_take,if_pos hi,List.getElem?_eq_getElem (by omega)] at hv
     simp only [Option.map_some,Option.some.injEq] at hv
     rw [← hv, ← JF,List.getD_eq_getElem?_getD,List.getElem?_eq_getElem (by omega)]
     rfl
    rw [← z8 hsp,ou]
    exact hcell i (by omega)
   ·have:=sized_slice hsz hj (hd.trans (congrArg some hdx)) ht
    rw [hB] at this
    simp only [strs,List.length_map] at this
    rw [List.length_map]
    omega
   ·obtain ⟨b,hb,rfl⟩:=ig hs
    refine NC ?_
    rw [← h2]
    have hw:=List.all_eq_true.1 hsz b.data.toList.length (DataW.weights_mem_each hj hd _ (by
     rw [hdx]
     unfold DataW.weights
     rw [ht]
     refine List.mem_cons_of_mem _ (List.mem_append_left _ (Jw (d := .lit (.string b.data.toList)) ?_ _ ?_))
     ·exact List.mem_map.2 ⟨b,hb,rfl⟩
     ·unfold DataW.weights; simp))
    simpa using hw
end
end Go.Kx
end

section
namespace Go.Kx
open Go Go.WideShapes Go.ChangeShapes
section
variable {H:Type} {enc:TypeId × Value → H} {P:Program} {w:World} {base:Nat} {sp:Nat → Bool} {held:Bool} {t e:TypeId} {v:Value} {d:DataW H} {p:List MemPlace}
theorem Fv {b0:Nat} {fs:Array Field} {ts:List TypeId} (ht:P.underlying t=some (.struct fs)) (hts:P.cellTypes P.depth t=some ts)
  (hv:Value.okWide P w .any base t v) (h:DataW.Trod enc P w b0 sp held t v d p) (hc:P.cellsOf t=ts.length) :
  ∃ (xs:List Value) (ys:List (DataW H × List MemPlace)) (m:Nat),v = .agg xs.toArray∧d = .agg (ys.map (·.1))∧p=ys.flatMap (·.2)∧xs.length=ts.length∧ys.length=fs.size ∧
   (∀ (i:Nat) x u,xs[i]? = some x → ts[i]? = some u → Cell.okWide P w .any base u x) ∧
   (∀ (i:Nat) f,fs[i]? = some f → DataW.trod enc P w b0 sp held m f.type ((xs.drop f.offset).take (P.cellsOf f.type))=ys[i]?):=by
 have ou:=hv
 simp only [Value.okWide,ht] at ou
 obtain ⟨cs,rfl,hsz,ts2,acS,_,hcell⟩:=ou
 obtain rfl:ts2=ts:=Option.some.inj (acS.symm.trans hts)
 obtain ⟨fuel,hf⟩:=h
 obtain ⟨ys,m,_,hx,hlen,hl,hf⟩:=DataW.trod_struct ht hf
 simp only [Prod.mk.injEq] at hx
 refine ⟨cs.toList,ys,m,by simp,hx.1,hx.2,by simp [hsz,hc],hl,fun i x u hx hu=>?_,fun i f hif=>?_⟩
 ·have h1:cs[i]? = some x:=by simpa using hx
  obtain ⟨u2,uM,hk⟩:=hcell i x h1
  have hi:i<ts2.length:=(List.getElem?_eq_some_iff.1 hu).1
  rw [Nat.mod_eq_of_lt hi] at uM
  obtain rfl:u2=u:=Option.some.inj (uM.symm.trans hu)
  exact hk
 ·have:=hf i f hif
  simpa [Value.cells] using this
theorem GD {ts:List TypeId} {ds:List (DataW H)} {j:Nat} {fs:Array Field} {ys:List (DataW H)} (h:(DataW.weightsEach P ts ds).all (· ≤ reachBytes)=true) (hj:ts[j]? = some t) (hd:ds[j]? = some (.agg ys)) (ht:P.underlying t=some (.struct fs)) :
  (DataW.weightsEach P (fs.toList.map (·.type)) ys).all (· ≤ reachBytes)=true:=by
 refine List.all_eq_true.2 fun n hn=>List.all_eq_true.1 h n (DataW.weights_mem_each hj hd n ?_)
 unfold DataW.weights
 rw [ht]
 exact hn
theorem R7 {xs:List Value} {ys:List (DataW H × List MemPlace)} {m i k:Nat} {f:Field} {T:TypeId} {x:Value} {y:DataW H × List MemPlace} (h:DataW.trod enc P w base sp held m f.type ((xs.drop f.offset).take (P.cellsOf f.type))=ys[i]?)
  (hT:f.type=T) (hk:f.offset=k) (hc:P.cellsOf T=1) (hx:xs[k]? = some x) (hy:ys[i]? = some y):DataW.trod enc P w base sp held m T [x]=some y:=by
 subst hT hk
 rw [hc,hy] at h
 have e:(xs.drop f.offset).take 1=[x]:=by
  have h0:(xs.drop f.offset)[0]? = some x:=by rw [List.getElem?_drop]; simpa using hx
  cases hd:xs.drop f.offset with
  | nil=>rw [hd] at h0; simp at h0
  | cons a r=>rw [hd] at h0; simp at h0; subst h0; rfl
 rwa [e] at h
theorem ma {x:Value} {m:Nat} {y:DataW H × List MemPlace} {T:TypeId} (hu:P.underlying T=some .bool) (h:DataW.trod enc P w base sp held m T [x]=some y) : ∃ b,x=vb b∧y=(.lit (.bool b),[]):=by
 obtain ⟨b,e,rfl⟩:=DataW.trod_bool hu h
 exact ⟨b,(List.cons.inj e).1,rfl⟩
theorem RG {x:Value} {m:Nat} {y:DataW H × List MemPlace} {T:TypeId} (hu:P.underlying T=some (.int .i64)) (h:DataW.trod enc P w base sp held m T [x]=some y) : ∃ n,x=vi n∧y=(.lit (.int .i64 n),[])∧(Lit.int .i64 n).wf=true:=by
 obtain ⟨b,e,rfl,hw⟩:=DataW.trod_int hu h
 exact ⟨b,(List.cons.inj e).1,rfl,hw⟩
theorem Pz {x:Value} {m:Nat} {y:DataW H × List MemPlace} {T:TypeId} (hu:P.underlying T=some .string) (h:DataW.trod enc P w base sp held m T [x]=some y) : ∃ s:ByteArray,x=vs (str s)∧y=(.lit (.string s.data.toList),[]):=by
 obtain ⟨s,e,rfl,hw⟩:=DataW.trod_string hu h
 exact ⟨s,(List.cons.inj e).1.trans (JF s),rfl⟩
theorem TG {x:Value} (ht:P.underlying t=some (.slice e)) (h:Cell.okWide P w .any base t x):Value.okWide P w .any base t x:=by
 simp only [Value.okWide,ht]; exact h
theorem Sb {x:Value} {m:Nat} {y:DataW H × List MemPlace} (ht:P.underlying t=some (.slice e)) (hv:Value.okWide P w .any base t x) (h:DataW.trod enc P w 0 sp held m t [x]=some y):DataW.Trod enc P w 0 sp held t x y.1 y.2:=by
 refine ⟨m,?_⟩
 rcases Kj ht hv with rfl | ⟨a,len,cap,rfl,_⟩ <;> exact h
theorem zY {α:Type} [Inhabited α] {g:α → List Value} {k B:Nat} {ts:List TypeId} {ds:List (DataW H)} {j:Nat} (hg : ∀ a,(g a).length=k) (hk:0<k) (ht:P.underlying t=some (.slice e)) (hc:P.cellsOf e=k) (hB:P.bytesOf e=B)
  (dec : ∀ n cs y,DataW.trod enc P w 0 (fun _=>true) held n e cs=some y → ∃ a:α,cs=g a) (hv:Value.okWide P w .any base t v)
  (h:DataW.Trod enc P w 0 (fun _=>true) held t v d p) (hsz:(DataW.weightsEach P ts ds).all (· ≤ reachBytes)=true) (hj:ts[j]? = some t) (hd:ds[j]? = some d) :
  ∃ (A:Y6) (l:List α) (c:Nat),v=sl A l.length c∧l.length≤c∧Has w ⟨A,eF g l⟩∧l.length * B≤140737488351232:=by
 obtain ⟨fuel,hf⟩:=h
 have none_ : ∃ (A:Y6) (l:List α) (c:Nat),(.slice none 0 0:Value)=sl A l.length c∧l.length≤c∧Has w ⟨A,eF g l⟩∧l.length * B≤140737488351232 :=
  ⟨none,[],0,rfl,Nat.le_refl _,⟨fun _=>rfl,fun i v hv=>by simp [eF] at hv⟩,by simp⟩
 rcases Kj ht hv with rfl | ⟨a,len,cap,rfl,hsp,hlc⟩
 ·exact none_
 ·rcases DataW.trod_slice ht hf with ⟨hcs,_⟩ | ⟨a2,len2,cap2,elems,rest,n,_,hcs,hx,hb,hl,hm,hlen,hel,hr1,hr2⟩
  ·simp [Value.cells] at hcs
  ·simp [Value.cells] at hcs
   obtain ⟨rfl,rfl,rfl⟩:=hcs
   rw [hc] at hel
   have hex : ∀ i,i<len → ∃ z:α,w.cells? 0 (a.add (i * k)) k=some (g z):=fun i hi=>by
    have h1:=hel i hi
    rw [List.getElem?_eq_getElem (by omega),Option.bind_eq_some_iff] at h1
    obtain ⟨cs,h2,h3⟩:=h1
    obtain ⟨z,rfl⟩:=dec n cs _ h3
    exact ⟨z,h2⟩
   obtain ⟨f,hfz⟩ : ∃ f:Nat → α, ∀ i,i<len → w.cells? 0 (a.add (i * k)) k=some (g (f i)) :=
    ⟨fun i=>if h:i<len then Classical.choose (hex i h) else default,fun i hi=>by
     show w.cells? 0 (a.add (i * k)) k=some (g (if h:i<len then Classical.choose (hex i h) else default))
     rw [dif_pos hi]
     exact Classical.choose_spec (hex i hi)⟩
   have hll:((List.range len).map f).length=len:=by simp
   refine ⟨some (a.block,a.off),(List.range len).map f,cap,?_,by omega,⟨(fun h=>by cases h),fun i v hiv=>?_⟩,?_⟩
   ·rw [hll]
    unfold sl
    rw [← Dm hsp]
   ·have hi:i<len * k:=by
     have:=(List.getElem?_eq_some_iff.1 hiv).1
     rw [UB hg,hll] at this
     exact this
    have hq:i / k<len:=Nat.div_lt_of_lt_mul (by rw [Nat.mul_comm]; exact hi)
    have hr:i % k<k:=Nat.mod_lt _ hk
    have Ca:i=i / k * k+i % k:=by rw [Nat.mul_comm]; exact (Nat.div_add_mod i k).symm
    have h3:=UM hg ((List.range len).map f) (i / k) (i % k) (by rw [hll]; exact hq) hr
    have h5:lg ((List.range len).map f) (i / k)=f (i / k):=by
     unfold lg
     simp [hq]
    rw [h5, ← Ca] at h3
    have abd:(eF g ((List.range len).map f))[i]? = some v:=hiv
    rw [h3] at abd
    obtain ⟨_,_,h4⟩:=World.cells?_some (hfz (i / k) hq)
    have h6:=h4 (i % k) hr
    rw [Addr.add_add, ← Ca,z8 hsp,abd] at h6
    exact h6
   ·have hdx:d = .slice (elems.map (·.1)) (rest.map (·.1)):=congrArg Prod.fst hx
    have:=sized_slice hsz hj (hd.trans (congrArg some hdx)) ht
    rw [hB] at this
    simp only [List.length_map] at this
    have h2:reachBytes=140737488351232:=rfl
    rw [hll, ← hlen]
    have h7:elems.length * B≤(elems.length+rest.length) * B:=Nat.mul_le_mul_right _ (by omega)
    omega
end
end Go.Kx
end
