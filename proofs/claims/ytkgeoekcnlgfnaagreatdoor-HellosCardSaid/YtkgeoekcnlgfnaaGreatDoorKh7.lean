/-
  Part 7 of the proof of what several laws share.
-/
import Derived.Test.YtkgeoekcnlgfnaaGreatDoorKh6
set_option maxHeartbeats 4000000
set_option maxRecDepth 20000
set_option linter.unusedVariables false
set_option linter.unusedSimpArgs false
section
namespace Go.Kx
open Go
def okB:Parts → Bool
 | []=>true
 | p :: r=>Nat.beq p.2.length p.1 && okB r
theorem Gt : ∀ {ps:Parts},okB ps=true → R9 ps
 | [],_=>trivial
 | p :: r,h=>by
  simp only [okB,Bool.and_eq_true] at h
  exact ⟨Nat.eq_of_beq_eq_true h.1,Gt h.2⟩
def lC:Parts → Bool
 | []=>true
 | p :: r=>(p.2.all fun v=>v.oneCell') && lC r
theorem Az : ∀ {ps:Parts},lC ps=true → Hm ps
 | [],_=>trivial
 | p :: r,h=>by
  simp only [lC,Bool.and_eq_true,List.all_eq_true] at h
  exact ⟨h.1,Az h.2⟩
def rp (n k:Nat):List Nat:=List.replicate n k
abbrev nI:List Int:=[]
abbrev nS:List Str:=[]
abbrev nP:List (Str × Str × Int × Int × Int × Int):=[]
abbrev nA:List (Str × Int):=[]
abbrev nB:List (Int × Str):=[]
section
variable {C:Ctx} {m:Sl} {L:Mem} {dst:Option Tmp} {ty:TypeId} {pos:String} {af:Array Edge} {gd:Option (Nat × Bool)}
theorem za {x y:Operand} {b o n:Nat} {R:Mem} {t:TypeId} {inf:TypeInfo} {ns:Parts} (is:List Nat) (ps:Parts) (hp:pull is L=some (ents b o ps,R)) (hi:C.P.info? t=some inf)
  (hx:ev m x=some (ptr (some (b,o)) 0):=by rfl) (hy:ev m y=some (aG ns):=by rfl) (hn:inf.size=n:=by rfl) (hps:okB ps=true:=by rfl) (hns:okB ns=true:=by rfl) (h1:lC ns=true:=by rfl)
  (AO:(ps.map (·.1)).sum=n:=by rfl) (Cw:(ns.map (·.1)).sum=n:=by rfl) :
  OP C ⟨dst, .store t x y,ty,pos,af,gd⟩ m L (Γ:=Unit) (fun _=>undef) (fun _=>ents b o ns++R):=bD is ps ns hp hi (Gt hps) (Gt hns) (Az h1) hx hy hn AO Cw
theorem SL {e:TypeId} {inf:TypeInfo} {ps:Parts} (hi:C.P.info? e=some inf) (hz:Wo inf=some (flat ps)) (hp:okB ps=true:=by rfl) :
  OP C ⟨dst, .alloc e,ty,pos,af,gd⟩ m L (Γ:=Nat) (fun b=>ptr (some (b,0)) 0) (fun b=>ents b 0 ps++L):=Wh ps hi hz (Gt hp)
end
section
variable {C:Ctx} {Q:Exit → Act → World → Prop} {m:Sl} {L Lr R:Mem} {ops:Array Oper} {js n:Nat} {done done':Array Bool}
theorem abl {d j dj:Nat} {want:Bool} {oi oj:Oper} (i:Nat) (is:List Nat) (done':Array Bool) (hi:ops[i]? = some oi) (hp:pull is L=some (Lr,R)) (h:TA C ops Q js Lr n done' ((d,undef) :: m) L)
  (hg:oi.guard=some (j,want):=by rfl) (hj:ops[j]? = some oj:=by rfl) (hdj:oj.dst=some dj:=by rfl) (hb:lk m dj=some undef:=by rfl)
  (ht:IC ops js i done done'=true:=by kernel_rfl) (hsel:Region.noSelect ops=true:=by kernel_rfl) (hQ:QP Q:=by repeat (first | exact QP.body | refine QP.then ?_ | refine QP.block ?_))
  (hd:oi.dst=some d:=by rfl) (hN:Nat.blt d C.N=true:=by rfl):TA C ops Q js Lr (n+1) done m L:=fun a w hs=>by
 simp only [IC,Bool.and_eq_true,Bool.not_eq_true',beq_iff_eq,Array.toList_inj] at ht
 obtain ⟨h1,h2,h3,h4,h5⟩:=ht
 have iC:Step C.w0 C.L0 w Lr:=(hs.step.pulled hp).left
 have hw:Region.wanted oi (yielded ops a.tmps)=false:=by
  have h1:=hs.slots dj _ hb
  simp [Region.wanted,hg,yielded,hj,hdj,h1,undef]
 refine Lb hi hsel hQ h4 n done a w (Region.free_spec hi h1) (by simpa using h2) h3 (.inr ⟨hw,rfl⟩) iC ?_
 rw [h5]
 refine h _ _ ?_
 rw [hd]
 exact hs.put hN hs.step
end
theorem Step.emptyE {w0 w:World} {L0 L:Mem} {A:Y6} (h:Step w0 L0 w L):Step w0 L0 w (⟨A,[]⟩ :: L):=by
 refine ⟨h.chg,⟨fun e he=>?_,List.pairwise_cons.2 ⟨fun e he=>?_,h.ok.2⟩⟩,fun a ha=>?_⟩
 ·rcases List.mem_cons.1 he with rfl | he
  ·exact ⟨fun _=>rfl,fun i v hv=>by simp at hv⟩
  ·exact h.ok.1 e he
 ·intro i j hi hj
  simp at hi
 ·obtain ⟨e,he,i,hi,rfl⟩:=ha
  rcases List.mem_cons.1 he with rfl | he
  ·simp at hi
  ·exact h.new _ ⟨e,he,i,hi,rfl⟩
section
variable {C:Ctx} {m:Sl} {L:Mem} {dst:Option Tmp} {ty:TypeId} {pos:String} {af:Array Edge} {gd:Option (Nat × Bool)}
theorem nW {α:Type} [Inhabited α] {f:α → Value} {x y:Operand} {j:Nat} {A B:Y6} {ds:List α} {c2:Nat} {t e e' xt:TypeId} {inf:TypeInfo} (z0:α) {B':Nat} (hsrc:Src C L ⟨B,ds.map f⟩) (hx:ev m x=some (sl A 0 0)) (hy:ev m y=some (sl B ds.length c2))
  (hj:L[j]? = some ⟨A,[]⟩) (hf : ∀ a,(f a).oneCell'=true) (hu:C.P.underlying t=some (.slice e)) (hux:C.P.underlying xt=some (.slice e')) (hi:C.P.info? e=some inf) (hsz:inf.size=1) (hz:Wo inf=some [f z0]) (hB:inf.bytes=B')
  (hfit:ds.length * B'≤140737488355328) (h63:ds.length≤4611686018427387904) :
  OP C ⟨dst, .call ⟨.builtin .append, #[x,y], #[t,xt]⟩,ty,pos,af,gd⟩ m L (Γ:=Y6 × List α) (fun q=>sl q.1 ds.length (ds++q.2).length) (fun q=>⟨q.1,(ds++q.2).map f⟩ :: L):=fun a w hs Q K hK=>by
 have h:=SH (C:=C) (L:=L) (m:=m) (dst:=dst) (ty:=ty) (pos:=pos) (af:=af) (gd:=gd) (f:=f) (j:=j) (l:=[]) (sp:=[]) (ds:=ds) (l':=ds) z0 hsrc hx hy hj hf hu hux hi hsz hz hB (by simpa using hfit) (by simpa using h63) rfl
 refine h a w hs Q K fun q w' hs'=>hK q w' ?_
 have hlt:j<L.length:=(List.getElem?_eq_some_iff.1 hj).1
 have hp:(L.set j ⟨q.1,(ds++q.2).map f⟩).Perm (⟨q.1,(ds++q.2).map f⟩ :: L.eraseIdx j):=by
  have:=QL (L.set j ⟨q.1,(ds++q.2).map f⟩) j ⟨q.1,(ds++q.2).map f⟩ (by simp [hlt])
  rwa [List.eraseIdx_set_eq] at this
 have h2:=(hs'.perm hp).emptyE (A:=A)
 have hp2:(⟨A,[]⟩ :: ⟨q.1,(ds++q.2).map f⟩ :: L.eraseIdx j).Perm (⟨q.1,(ds++q.2).map f⟩ :: L) :=
  (List.Perm.swap _ _ _).trans ((QL L j _ hj).symm.cons _)
 exact h2.perm hp2
end
end Go.Kx
end

section
namespace Go.Kx
open Go
def gdv (ops:Array Oper) (m:Sl) (j:Nat):Option Value :=
 match ops[j]? with
 | none=>none
 | some oj=>match oj.dst with
  | none=>none
  | some dj=>lk m dj
def xc (o:Op) (m:Sl):Option Value :=
 match o with
 | .move x=>ev m x
 | .assign x=>ev m x
 | .pick c x y=>match ev m c with
  | some (.bool true)=>ev m x
  | some (.bool false)=>ev m y
  | _=>none
 | .nilCheck x=>match ev m x with
  | some (.pointer (some a))=>some (.pointer (some a))
  | _=>none
 | .extract x i=>match ev m x with
  | some (.tuple a)=>a.toList[i]?
  | _=>none
 | _=>none
def stepT (N:Nat) (ops:Array Oper) (o:Oper) (m:Sl):Option (Nat × Value) :=
 match o.dst with
 | none=>none
 | some d=>match Nat.blt d N with
  | false=>none
  | true=>match o.guard with
   | none=>match xc o.op m with
    | none=>none
    | some v=>some (d,v)
   | some (j,want)=>match gdv ops m j with
    | some (.bool b)=>match b,want with
     | true,true=>match xc o.op m with
      | none=>none
      | some v=>some (d,v)
     | false,false=>match xc o.op m with
      | none=>none
      | some v=>some (d,v)
     | true,false=>some (d,undef)
     | false,true=>some (d,undef)
    | some (.tuple a)=>match a.toList with
     | []=>some (d,undef)
     | _=>none
    | _=>none
def runT (N:Nat) (ops:Array Oper):Nat → List Oper → Sl → Option (List Oper × Sl)
 | 0,l,m=>some (l,m)
 | k+1,l,m=>match l with
  | []=>none
  | o :: r=>match stepT N ops o m with
   | none=>none
   | some p=>runT N ops k r (p :: m)
def oV (N:Nat) (ops:Array Oper):Nat → Nat → Sl → Option Sl
 | 0,_,m=>some m
 | k+1,i,m=>match ops[i]? with
  | none=>none
  | some o=>match stepT N ops o m with
   | none=>none
   | some p=>oV N ops k (i+1) (p :: m)
section
variable {C:Ctx} {Q:Exit → Act → World → Prop} {m m':Sl} {L Lr R:Mem} {ops:Array Oper} {js n:Nat} {done:Array Bool}
theorem EJ {o:Oper} {v:Value} (h:xc o.op m=some v):Ou C o m L v:=by
 obtain ⟨dst,op,ty,pos,af,gd⟩:=o
 cases op <;> simp only [xc] at h <;> try cases h
 ·exact ZO h
 ·exact XL h
 ·rename_i c x y
  split at h
  ·rename_i hc; exact zR (b:=true) hc h
  ·rename_i hc; exact zR (b:=false) hc h
  ·cases h
 ·rename_i x
  split at h
  ·rename_i a hx; obtain rfl:=Option.some.inj h; exact Zh hx
  ·cases h
 ·rename_i x i
  split at h
  ·rename_i a hx; exact Cm (vs:=a.toList) (by simpa using hx) h
  ·cases h
theorem nU {j:Nat} {v:Value} (h:gdv ops m j=some v) : ∃ oj dj,ops[j]? = some oj∧oj.dst=some dj∧lk m dj=some v:=by
 unfold gdv at h
 split at h
 ·cases h
 ·rename_i oj hj
  split at h
  ·cases h
  ·rename_i dj hd; exact ⟨oj,dj,hj,hd,h⟩
theorem yf {N:Nat} {o:Oper} {p:Nat × Value} (h:stepT N ops o m=some p):o.dst=some p.1∧Nat.blt p.1 N=true ∧
  ((o.guard=none∧xc o.op m=some p.2) ∨ (∃ j want oj dj,o.guard=some (j,want)∧ops[j]? = some oj∧oj.dst=some dj∧((lk m dj=some (.bool want)∧xc o.op m=some p.2) ∨ (p.2=undef∧((∃ b,lk m dj=some (.bool b)∧(b == want)=false) ∨ lk m dj=some undef))))):=by
 unfold stepT at h
 split at h
 ·cases h
 rename_i d hd
 split at h
 ·cases h
 rename_i hN
 split at h
 ·rename_i hg
  split at h
  ·cases h
  ·rename_i v hv; obtain rfl:=Option.some.inj h; exact ⟨hd,hN, .inl ⟨hg,hv⟩⟩
 ·rename_i j want hg
  split at h
  ·rename_i b hb
   obtain ⟨oj,dj,h1,h2,h3⟩:=nU hb
   split at h
   ·split at h
    ·cases h
    ·rename_i v hv; obtain rfl:=Option.some.inj h; exact ⟨hd,hN, .inr ⟨j,true,oj,dj,hg,h1,h2, .inl ⟨h3,hv⟩⟩⟩
   ·split at h
    ·cases h
    ·rename_i v hv; obtain rfl:=Option.some.inj h; exact ⟨hd,hN, .inr ⟨j,false,oj,dj,hg,h1,h2, .inl ⟨h3,hv⟩⟩⟩
   ·obtain rfl:=Option.some.inj h; exact ⟨hd,hN, .inr ⟨j,false,oj,dj,hg,h1,h2, .inr ⟨rfl, .inl ⟨true,h3,rfl⟩⟩⟩⟩
   ·obtain rfl:=Option.some.inj h; exact ⟨hd,hN, .inr ⟨j,true,oj,dj,hg,h1,h2, .inr ⟨rfl, .inl ⟨false,h3,rfl⟩⟩⟩⟩
  ·rename_i a hb
   obtain ⟨oj,dj,h1,h2,h3⟩:=nU hb
   split at h
   ·rename_i ha
    obtain rfl:=Option.some.inj h
    refine ⟨hd,hN, .inr ⟨j,want,oj,dj,hg,h1,h2, .inr ⟨rfl, .inr ?_⟩⟩⟩
    rw [h3]
    have:a = #[]:=by simpa using ha
    rw [this]; rfl
   ·cases h
  ·cases h
theorem gP {o:Oper} {rest:List Oper} {p:Nat × Value} (h:stepT C.N ops o m=some p) (k:TL C ops Q rest (p :: m) L):TL C ops Q (o :: rest) m L:=by
 obtain ⟨hd,hN,⟨hg,hv⟩ | ⟨j,want,oj,dj,hg,h1,h2,⟨hb,hv⟩ | ⟨hu,⟨b,hb,hne⟩ | hb⟩⟩⟩:=yf h
 ·exact qE hg hd hN (EJ hv) k
 ·exact tX hg hd hN h1 h2 hb (EJ hv) k
 ·obtain ⟨d,v⟩:=p; cases hu; exact jr hg hd hN h1 h2 hb hne k
 ·obtain ⟨d,v⟩:=p; cases hu; exact Vs hg hd hN h1 h2 hb k
theorem Zj : ∀ (k:Nat) {l l':List Oper} {m m':Sl},runT C.N ops k l m=some (l',m') → TL C ops Q l' m' L → TL C ops Q l m L
 | 0,l,l',m,m',h,t=>by
  simp only [runT,Option.some.injEq,Prod.mk.injEq] at h
  obtain ⟨rfl,rfl⟩:=h
  exact t
 | k+1,l,l',m,m',h,t=>by
  cases l with
  | nil=>simp [runT] at h
  | cons o r =>
   simp only [runT] at h
   split at h
   ·cases h
   ·rename_i p hp
    exact gP hp (Zj k h t)
theorem gT {i:Nat} {o:Oper} {p:Nat × Value} {is:List Nat} (hi:ops[i]? = some o) (hs:stepT C.N ops o m=some p) (hsel:Region.noSelect ops=true) (hQ:QP Q)
  (ht:IC ops js i done (done.setIfInBounds i true)=true) (hp:pull is L=some (Lr,R)) (k:TA C ops Q js Lr n (done.setIfInBounds i true) (p :: m) L):TA C ops Q js Lr (n+1) done m L:=by
 obtain ⟨hd,hN,⟨hg,hv⟩ | ⟨j,want,oj,dj,hg,h1,h2,⟨hb,hv⟩ | ⟨hu,⟨b,hb,hne⟩ | hb⟩⟩⟩:=yf hs
 ·exact rW hi hg hd hN hsel hQ ht hp (EJ hv) k
 ·exact yY hi hg h1 h2 hb hd hN hsel hQ ht hp (EJ hv) k
 ·obtain ⟨d,v⟩:=p; cases hu; exact lv hi hg h1 h2 hb hne hd hN hsel hQ ht hp k
 ·obtain ⟨d,v⟩:=p; cases hu; exact abl i is _ hi hp k hg h1 h2 hb ht hsel hQ hd hN
end
end Go.Kx
end

section
namespace Go.Kx
open Go
def Fu:List Nat → Nat
 | []=>0
 | i :: l=>Fu l ||| 2 ^ i
def dq (N:Nat) (l:List Nat):Array Bool:=dn N (Fu l)
theorem wH (N k j:Nat):(dn N k)[j]? = if j<N then some (k.testBit j) else none:=by
 unfold dn
 by_cases h:j<N <;> simp [h]
theorem EK {N i:Nat} {l:List Nat}:(dq N l).setIfInBounds i true=dq N (i :: l):=by
 apply Array.ext_getElem?
 intro j
 rw [Array.getElem?_setIfInBounds]
 unfold dq
 rw [wH (k:=Fu (i :: l))]
 have hs:(dn N (Fu l)).size=N:=by simp [dn]
 have ht:(Fu (i :: l)).testBit j=((Fu l).testBit j || decide (i=j)):=by
  show (Fu l ||| 2 ^ i).testBit j=_
  rw [Nat.testBit_or,Nat.testBit_two_pow]
 rw [ht,hs]
 by_cases hij:i=j
 ·subst hij
  by_cases hN:i<N <;> simp [hN]
 ·rw [if_neg hij,wH]; simp [hij]
theorem bS (N:Nat):dq N []=Array.replicate N false:=by
 apply Array.ext_getElem?
 intro j
 unfold dq
 rw [wH]
 by_cases h:j<N <;> simp [h,Fu]
def iE:Nat → Nat → List Nat → List Nat
 | 0,_,l=>l
 | k+1,i,l=>iE k (i+1) (i :: l)
def wK:List Nat → Sl → Option Sl
 | [],_=>some []
 | t :: r,m=>match lk m t with
  | none=>none
  | some v=>match wK r m with
   | none=>none
   | some s=>some ((t,v) :: s)
def eQ {α:Type}:List α → Option (List α)
 | []=>some []
 | x :: r=>match eQ r with
  | none=>none
  | some s=>some (x :: s)
theorem FX {α:Type} : ∀ {l l':List α},eQ l=some l' → l=l'
 | [],_,h=>by cases h; rfl
 | x :: r,l',h=>by
  simp only [eQ] at h
  split at h
  ·cases h
  ·rename_i s hs; cases h; rw [FX hs]
theorem Ji : ∀ {ks:List Nat} {m m':Sl},wK ks m=some m' → E_ m' m
 | [],_,_,h=>by cases h; trivial
 | t :: r,m,m',h=>by
  simp only [wK] at h
  split at h
  ·cases h
  ·rename_i v hv
   split at h
   ·cases h
   ·rename_i s hs; cases h; exact ⟨hv,Ji hs⟩
section
variable {C:Ctx} {Q:Exit → Act → World → Prop} {m m':Sl} {L L' Lr R:Mem} {ops:Array Oper} {js n N:Nat} {is l:List Nat}
theorem Wz {c:Code} (ks is:List Nat) (hm:wK ks m=some m') (hL:pull is L=some (L',R)) (h:TC C c Q m' L'):TC C c Q m L:=TC.sub (Ji hm) (TC.pull hL h)
theorem N7 {c:Code} (ks:List Nat) (hm:wK ks m=some m') (hL:eQ L=some L') (h:TC C c Q m' L'):TC C c Q m L:=TC.sub (Ji hm) (FX hL ▸ h)
theorem ow {e:Exit} (ks is:List Nat) (hm:wK ks m=some m') (hL:pull is L=some (L',R)) (h:TX C Q e m' L'):TX C Q e m L:=TX.sub (Ji hm) (TX.pull hL h)
def TB (C:Ctx) (ops:Array Oper) (Q:Exit → Act → World → Prop) (js:Nat) (Lr:Mem) (is:List Nat) (N n:Nat) (l:List Nat) (m:Sl) (L:Mem):Prop :=
 QP Q → Region.noSelect ops=true → ((dq N l).getD js false=false → ∃ R,pull is L=some (Lr,R)) → TA C ops Q js Lr n (dq N l) m L
theorem U3 {id:Nat} (is:List Nat) (js:Nat) (hp:pull is L=some (Lr,R)) (h:TB C ops Q js Lr is N N [] m L) (hN:ops.size=N:=by rfl) (hm:C.P.follows .mixedOrders=true:=by kernel_rfl) (hsel:Region.noSelect ops=true:=by kernel_rfl)
  (hQ:QP Q:=by repeat (first | exact QP.body | refine QP.then ?_ | refine QP.block ?_)):TC C (.region id ops true) Q m L :=
 mh Lr js hm hN (bS N ▸ h hQ hsel fun _=>⟨R,hp⟩)
theorem GW.take {i d:Nat} {oi:Oper} {v:Value} {is:List Nat} {done done':Array Bool} (hi:ops[i]? = some oi) (hg:GW ops oi m) (hd:oi.dst=some d) (hN:Nat.blt d C.N=true) (hsel:Region.noSelect ops=true) (hQ:QP Q)
  (ht:IC ops js i done done'=true) (hp:pull is L=some (Lr,R)) (hv:Ou C oi m Lr v) (h:TA C ops Q js Lr n done' ((d,v) :: m) L):TA C ops Q js Lr (n+1) done m L:=by
 rcases hg with hg | ⟨j,want,oj,dj,hg,hj,hdj,hb⟩
 ·exact rW hi hg hd hN hsel hQ ht hp hv h
 ·exact yY hi hg hj hdj hb hd hN hsel hQ ht hp hv h
theorem uW {i:Nat} {D D':Array Bool} (h:IC ops js i D D'=true):D.getD js false=false:=by
 simp only [IC,Bool.and_eq_true,Bool.not_eq_true'] at h
 exact h.2.2.1
theorem adt {oi:Oper} {d:Nat} {v:Value} (i:Nat) (hi:ops[i]? = some oi) (hv:Ou C oi m Lr v) (h:TB C ops Q js Lr is N n (i :: l) ((d,v) :: m) L) (hg:GW ops oi m:=by first | exact .inl rfl | exact .inr ⟨_,_,_,_,rfl,rfl,rfl,rfl⟩)
  (hd:oi.dst=some d:=by rfl) (hN:Nat.blt d C.N=true:=by rfl) (ht:IC ops js i (dq N l) (dq N (i :: l))=true:=by kernel_rfl):TB C ops Q js Lr is N (n+1) l m L:=fun hQ hsel hp=>by
 obtain ⟨R,hp⟩:=hp (uW ht)
 exact hg.take hi hd hN hsel hQ ht hp hv (h hQ hsel fun _=>⟨R,hp⟩)
def Hz (N:Nat) (ops:Array Oper) (js:Nat):Nat → Nat → List Nat → Bool
 | 0,_,_=>true
 | k+1,i,l=>IC ops js i (dq N l) (dq N (i :: l)) && Hz N ops js k (i+1) (i :: l)
theorem fH (is:List Nat) (hp:pull is L=some (Lr,R)) (hsel:Region.noSelect ops=true) (hQ:QP Q) : ∀ (k i:Nat) {l:List Nat} {m m':Sl},oV C.N ops k i m=some m' → Hz N ops js k i l=true →
  TA C ops Q js Lr n (dq N (iE k i l)) m' L → TA C ops Q js Lr (n+k) (dq N l) m L
 | 0,i,l,m,m',hr,_,h=>by
  simp only [oV,Option.some.injEq] at hr
  subst hr
  exact h
 | k+1,i,l,m,m',hr,ht,h=>by
  simp only [oV] at hr
  split at hr
  ·cases hr
  ·rename_i o ho
   split at hr
   ·cases hr
   ·rename_i p hs
    simp only [Hz,Bool.and_eq_true] at ht
    refine gT ho hs hsel hQ (by rw [EK]; exact ht.1) hp ?_
    rw [EK]
    exact fH is hp hsel hQ k (i+1) hr ht.2 h
theorem acG (k i:Nat) (hr:oV C.N ops (k+1) i m=some m') (h:TB C ops Q js Lr is N n (iE (k+1) i l) m' L) (ht:Hz N ops js (k+1) i l=true:=by kernel_rfl):TB C ops Q js Lr is N (n+(k+1)) l m L:=fun hQ hsel hp=>by
 have hjs:(dq N l).getD js false=false:=by
  simp only [Hz,Bool.and_eq_true] at ht
  exact uW ht.1
 obtain ⟨R,hp⟩:=hp hjs
 exact fH is hp hsel hQ (k+1) i hr ht (h hQ hsel fun _=>⟨R,hp⟩)
def JA (ops:Array Oper):Bool :=
 (List.range ops.size).all fun i=>match ops[i]? with
  | none=>true
  | some oi=>(List.range ops.size).all fun j=>Nat.beq j i || match ops[j]? with
   | none=>true
   | some oj=>oj.after.any (fun e=>Region.binds .any e && e.on == i) || (oi.after.any (fun e=>Region.binds .any e && Nat.beq e.on j) || oi.apart ops oj)
def zO (ops:Array Oper) (D:Array Bool) (i:Nat):Bool :=
 match ops[i]? with
 | none=>false
 | some o => !(D.getD i true) && o.after.all fun e => !(Region.binds .any e) || D.getD e.on false
theorem tV {i:Nat} (ha:JA ops=true) (hr:zO ops (dq N l) i=true) (hj:(dq N l).getD js false=false) (hw:waitsFor ops js i=true):IC ops js i (dq N l) (dq N (i :: l))=true:=by
 unfold zO at hr
 split at hr
 ·cases hr
 rename_i o ho
 simp only [Bool.and_eq_true,Bool.not_eq_true',Array.all_eq_true',Bool.or_eq_true] at hr
 have hrd : ∀ e ∈ o.after,Region.binds .any e=true → (dq N l).getD e.on false=true:=fun e he hb=>by
  rcases hr.2 e he with h | h
  ·rw [hb] at h; cases h
  ·exact h
 have hm:i ∈ Region.ready .any ops (dq N l):=mem_ready.2 ⟨hr.1,o,ho,hrd⟩
 have hilt:i<ops.size:=(Array.getElem?_eq_some_iff.1 ho).1
 have hf:Region.free .any ops (dq N l) i=true:=by
  unfold Region.free
  rw [ho]
  simp only [List.all_eq_true,List.mem_range]
  intro j hjlt
  unfold JA at ha
  simp only [List.all_eq_true,List.mem_range] at ha
  have h1:=ha i hilt
  rw [ho] at h1
  simp only [List.all_eq_true,List.mem_range] at h1
  have h2:=h1 j hjlt
  cases hoj:ops[j]? with
  | none=>simp
  | some oj =>
   rw [hoj] at h2
   simp only [Bool.or_eq_true] at h2
   simp only [Bool.or_eq_true]
   rcases h2 with h2 | h2 | h2 | h2
   ·exact .inl (.inl (by rw [Nat.eq_of_beq_eq_true h2]; simp))
   ·exact .inr (.inl h2)
   ·refine .inl (.inr ?_)
    simp only [Array.any_eq_true',Bool.and_eq_true] at h2
    obtain ⟨e,he,hb,hon⟩:=h2
    have h3:=hrd e he hb
    rw [Nat.eq_of_beq_eq_true hon] at h3
    by_cases hlt:j<(dq N l).size
    ·simp only [Array.getD_eq_getD_getElem?,Array.getElem?_eq_getElem hlt,Option.getD_some] at h3 ⊢; exact h3
    ·simp only [Array.getD_eq_getD_getElem?,Array.getElem?_eq_none (by omega:(dq N l).size≤j),Option.getD_none] at h3; cases h3
   ·exact .inr (.inr h2)
 simp only [IC,Bool.and_eq_true,Bool.not_eq_true',beq_iff_eq,Array.toList_inj]
 exact ⟨hf,by simpa using hm,hj,hw,EK⟩
theorem Zz {oi:Oper} {d:Nat} {v:Value} (i:Nat) (hi:ops[i]? = some oi) (hv:Ou C oi m Lr v) (h:TB C ops Q js Lr is N n (i :: l) ((d,v) :: m) L) (hg:GW ops oi m:=by first | exact .inl rfl | exact .inr ⟨_,_,_,_,rfl,rfl,rfl,rfl⟩)
  (hd:oi.dst=some d:=by rfl) (hN:Nat.blt d C.N=true:=by rfl) (ha:JA ops=true:=by kernel_rfl) (hr:zO ops (dq N l) i=true:=by kernel_rfl) (hj:(dq N l).getD js false=false:=by kernel_rfl) (hw:waitsFor ops js i=true:=by kernel_rfl):TB C ops Q js Lr is N (n+1) l m L :=
 adt i hi hv h hg hd hN (tV ha hr hj hw)
def uE (N:Nat) (ops:Array Oper) (js:Nat):Nat → Nat → List Nat → Bool
 | 0,_,_=>true
 | k+1,i,l=>zO ops (dq N l) i && (!((dq N l).getD js false) && (waitsFor ops js i && uE N ops js k (i+1) (i :: l)))
theorem xO (ha:JA ops=true) : ∀ {k i:Nat} {l:List Nat},uE N ops js k i l=true → Hz N ops js k i l=true
 | 0,_,_,_=>rfl
 | k+1,i,l,h=>by
  simp only [uE,Bool.and_eq_true,Bool.not_eq_true'] at h
  simp only [Hz,Bool.and_eq_true]
  exact ⟨tV ha h.1 h.2.1 h.2.2.1,xO ha h.2.2.2⟩
theorem YA (k i:Nat) (hr:oV C.N ops (k+1) i m=some m') (h:TB C ops Q js Lr is N n (iE (k+1) i l) m' L) (ha:JA ops=true:=by kernel_rfl) (ht:uE N ops js (k+1) i l=true:=by kernel_rfl):TB C ops Q js Lr is N (n+(k+1)) l m L :=
 acG k i hr h (xO ha ht)
theorem jS {i:Nat} {oi:Oper} {Γ:Type} {val:Γ → Value} {mem:Γ → Mem} {R:Γ → Mem} {m2:Γ → Sl} (hi:ops[i]? = some oi) (hg:GW ops oi m)
  (hm : ∀ g a w w',Sat C m L a w → Step C.w0 C.L0 w' (mem g) → Sat C (m2 g) (mem g) (a.put oi.dst (val g)) w')
  (ho:OP C oi m L val mem) (hk:(dq N (i :: l)).getD js false=false → ∀ g,pull is (mem g)=some (Lr,R g)) (h : ∀ g,TA C ops Q js Lr n (dq N (i :: l)) (m2 g) (mem g)) :
  TO C ops Q js Lr n (dq N l) m L i:=fun a w hs=>by
 unfold wpOp
 simp only [hi]
 rw [if_pos (hg.wanted hs.slots),EK]
 exact .inl (ho a w hs Q _ fun g w' hs'=>⟨fun hj=>(hs'.pulled (hk hj g)).left,h g _ _ (hm g a w w' hs hs')⟩)
def TBO (C:Ctx) (ops:Array Oper) (Q:Exit → Act → World → Prop) (js:Nat) (Lr:Mem) (N n:Nat) (l:List Nat) (m:Sl) (L:Mem) (i:Nat):Prop:=QP Q → Region.noSelect ops=true → TO C ops Q js Lr n (dq N l) m L i
def DI (C:Ctx) (ops:Array Oper) (Q:Exit → Act → World → Prop) (js:Nat) (Lr:Mem) (N n:Nat) (l:List Nat) (m:Sl) (L:Mem):List Nat → Prop
 | []=>True
 | i :: r=>TBO C ops Q js Lr N n l m L i∧DI C ops Q js Lr N n l m L r
theorem DI.to (hQ:QP Q) (hsel:Region.noSelect ops=true) : ∀ {rs:List Nat},DI C ops Q js Lr N n l m L rs → zl C ops Q js Lr n (dq N l) m L rs
 | [],_=>trivial
 | i :: r,h=>⟨h.1 hQ hsel,DI.to hQ hsel h.2⟩
theorem qp (rs:List Nat) (h:DI C ops Q js Lr N n l m L rs) (hr:Region.ready .any ops (dq N l)=rs:=by kernel_rfl) (hne:rs.isEmpty=false:=by rfl):TB C ops Q js Lr is N (n+1) l m L:=fun hQ hsel _=>aaa hr hne (h.to hQ hsel)
theorem CX {oi:Oper} {d:Nat} {Γ:Type} {val:Γ → Value} {mem:Γ → Mem} {R:Γ → Mem} (i:Nat) (is':List Nat) (hi:ops[i]? = some oi) (ho:OP C oi m L val mem) (hk : ∀ g,pull is' (mem g)=some (Lr,R g)) (h : ∀ g,TB C ops Q js Lr is' N n (i :: l) ((d,val g) :: m) (mem g))
  (hg:GW ops oi m:=by first | exact .inl rfl | exact .inr ⟨_,_,_,_,rfl,rfl,rfl,rfl⟩) (hd:oi.dst=some d:=by rfl) (hN:Nat.blt d C.N=true:=by rfl):TBO C ops Q js Lr N n l m L i:=fun hQ hsel =>
 jS hi hg (fun g a w w' hs hs'=>(by rw [hd]; exact hs.put hN hs')) ho (fun _=>hk) (fun g=>h g hQ hsel fun _=>⟨_,hk g⟩)
theorem OBE {oi:Oper} {d:Nat} {Γ:Type} {val:Γ → Value} {mem:Γ → Mem} (i:Nat) (hi:ops[i]? = some oi) (ho:OP C oi m L val mem) (h : ∀ g,TB C ops Q js Lr [] N n (i :: l) ((d,val g) :: m) (mem g))
  (hj:(dq N (i :: l)).getD js false=true:=by kernel_rfl) (hg:GW ops oi m:=by first | exact .inl rfl | exact .inr ⟨_,_,_,_,rfl,rfl,rfl,rfl⟩) (hd:oi.dst=some d:=by rfl) (hN:Nat.blt d C.N=true:=by rfl):TBO C ops Q js Lr N n l m L i:=fun hQ hsel =>
 jS (is:=[]) (R:=fun _=>[]) hi hg (fun g a w w' hs hs'=>(by rw [hd]; exact hs.put hN hs')) ho (fun h=>(by rw [hj] at h; cases h)) (fun g=>h g hQ hsel fun h=>(by rw [hj] at h; cases h))
theorem Tm {oi:Oper} {d:Nat} {Γ:Type} {val:Γ → Value} {mem:Γ → Mem} {R:Γ → Mem} (i:Nat) (is':List Nat) (hi:ops[i]? = some oi) (ho:OP C oi m L val mem) (hk : ∀ g,pull is' (mem g)=some (Lr,R g)) (h : ∀ g,TB C ops Q js Lr is' N n (i :: l) ((d,val g) :: m) (mem g))
  (hr:Region.ready .any ops (dq N l)=[i]:=by kernel_rfl) (hg:GW ops oi m:=by first | exact .inl rfl | exact .inr ⟨_,_,_,_,rfl,rfl,rfl,rfl⟩) (hd:oi.dst=some d:=by rfl) (hN:Nat.blt d C.N=true:=by rfl):TB C ops Q js Lr is N (n+1) l m L:=qp [i] ⟨CX i is' hi ho hk h hg hd hN,trivial⟩ hr rfl
theorem TBE {oi:Oper} {d:Nat} {Γ:Type} {val:Γ → Value} {mem:Γ → Mem} (i:Nat) (hi:ops[i]? = some oi) (ho:OP C oi m L val mem) (h : ∀ g,TB C ops Q js Lr [] N n (i :: l) ((d,val g) :: m) (mem g))
  (hr:Region.ready .any ops (dq N l)=[i]:=by kernel_rfl) (hj:(dq N (i :: l)).getD js false=true:=by kernel_rfl) (hg:GW ops oi m:=by first | exact .inl rfl | exact .inr ⟨_,_,_,_,rfl,rfl,rfl,rfl⟩) (hd:oi.dst=some d:=by rfl) (hN:Nat.blt d C.N=true:=by rfl):TB C ops Q js Lr is N (n+1) l m L:=qp [i] ⟨OBE i hi ho h hj hg hd hN,trivial⟩ hr rfl
theorem OBn {oi:Oper} {Γ:Type} {val:Γ → Value} {mem:Γ → Mem} {R:Γ → Mem} (i:Nat) (is':List Nat) (hi:ops[i]? = some oi) (ho:OP C oi m L val mem) (hk : ∀ g,pull is' (mem g)=some (Lr,R g)) (h : ∀ g,TB C ops Q js Lr is' N n (i :: l) m (mem g))
  (hg:GW ops oi m:=by first | exact .inl rfl | exact .inr ⟨_,_,_,_,rfl,rfl,rfl,rfl⟩) (hd:oi.dst=none:=by rfl):TBO C ops Q js Lr N n l m L i:=fun hQ hsel =>
 jS hi hg (fun g a w w' hs hs'=>(by rw [hd]; exact hs.mem hs')) ho (fun _=>hk) (fun g=>h g hQ hsel fun _=>⟨_,hk g⟩)
theorem OBN {oi:Oper} {Γ:Type} {val:Γ → Value} {mem:Γ → Mem} (i:Nat) (hi:ops[i]? = some oi) (ho:OP C oi m L val mem) (h : ∀ g,TB C ops Q js Lr [] N n (i :: l) m (mem g))
  (hj:(dq N (i :: l)).getD js false=true:=by kernel_rfl) (hg:GW ops oi m:=by first | exact .inl rfl | exact .inr ⟨_,_,_,_,rfl,rfl,rfl,rfl⟩) (hd:oi.dst=none:=by rfl):TBO C ops Q js Lr N n l m L i:=fun hQ hsel =>
 jS (is:=[]) (R:=fun _=>[]) hi hg (fun g a w w' hs hs'=>(by rw [hd]; exact hs.mem hs')) ho (fun h=>(by rw [hj] at h; cases h)) (fun g=>h g hQ hsel fun h=>(by rw [hj] at h; cases h))
theorem Qh {oi:Oper} {Γ:Type} {val:Γ → Value} {mem:Γ → Mem} {R:Γ → Mem} (i:Nat) (is':List Nat) (hi:ops[i]? = some oi) (ho:OP C oi m L val mem) (hk : ∀ g,pull is' (mem g)=some (Lr,R g)) (h : ∀ g,TB C ops Q js Lr is' N n (i :: l) m (mem g))
  (hr:Region.ready .any ops (dq N l)=[i]:=by kernel_rfl) (hg:GW ops oi m:=by first | exact .inl rfl | exact .inr ⟨_,_,_,_,rfl,rfl,rfl,rfl⟩) (hd:oi.dst=none:=by rfl):TB C ops Q js Lr is N (n+1) l m L:=qp [i] ⟨OBn i is' hi ho hk h hg hd,trivial⟩ hr rfl
theorem vS {oi:Oper} {Γ:Type} {val:Γ → Value} {mem:Γ → Mem} (i:Nat) (hi:ops[i]? = some oi) (ho:OP C oi m L val mem) (h : ∀ g,TB C ops Q js Lr [] N n (i :: l) m (mem g))
  (hr:Region.ready .any ops (dq N l)=[i]:=by kernel_rfl) (hj:(dq N (i :: l)).getD js false=true:=by kernel_rfl) (hg:GW ops oi m:=by first | exact .inl rfl | exact .inr ⟨_,_,_,_,rfl,rfl,rfl,rfl⟩) (hd:oi.dst=none:=by rfl):TB C ops Q js Lr is N (n+1) l m L:=qp [i] ⟨OBN i hi ho h hj hg hd,trivial⟩ hr rfl
theorem qc {oi:Oper} {d:Nat} {v:Value} (i:Nat) (is':List Nat) (hi:ops[i]? = some oi) (hv:Ou C oi m L v) (hk:pull is' L=some (Lr,R)) (h:TB C ops Q js Lr is' N n (i :: l) ((d,v) :: m) L)
  (hr:Region.ready .any ops (dq N l)=[i]:=by kernel_rfl) (hg:GW ops oi m:=by first | exact .inl rfl | exact .inr ⟨_,_,_,_,rfl,rfl,rfl,rfl⟩) (hd:oi.dst=some d:=by rfl) (hN:Nat.blt d C.N=true:=by rfl):TB C ops Q js Lr is N (n+1) l m L:=Tm (R:=fun _=>R) i is' hi (BR hv) (fun _=>hk) (fun _=>h) hr hg hd hN
theorem xH {oi:Oper} {d:Nat} {v:Value} (i:Nat) (hi:ops[i]? = some oi) (hv:Ou C oi m L v) (h:TB C ops Q js Lr [] N n (i :: l) ((d,v) :: m) L)
  (hr:Region.ready .any ops (dq N l)=[i]:=by kernel_rfl) (hj:(dq N (i :: l)).getD js false=true:=by kernel_rfl) (hg:GW ops oi m:=by first | exact .inl rfl | exact .inr ⟨_,_,_,_,rfl,rfl,rfl,rfl⟩) (hd:oi.dst=some d:=by rfl) (hN:Nat.blt d C.N=true:=by rfl):TB C ops Q js Lr is N (n+1) l m L:=TBE i hi (BR hv) (fun _=>h) hr hj hg hd hN
theorem Vi (h:TX C Q .normal m L) (hr:(Region.ready .any ops (dq N l)).isEmpty=true:=by kernel_rfl):TB C ops Q js Lr is N n l m L:=fun _ _ _=>iA hr h n
theorem Xb {v v':Value} (d:Nat) (hv:v=v') (h:TB C ops Q js Lr is N n l ((d,v') :: m) L) (hd:lk m d=some v:=by rfl):TB C ops Q js Lr is N n l m L:=fun hQ hsel hp=>aby hd hv (h hQ hsel hp)
theorem Iy {A:Y6} {cs cs':List Value} (j:Nat) (hc:cs=cs') (h:TB C ops Q js Lr is N n l m (L.set j ⟨A,cs'⟩)) (hj:L[j]? = some ⟨A,cs⟩:=by rfl):TB C ops Q js Lr is N n l m L:=fun hQ hsel hp=>by
 subst hc
 have e:L.set j ⟨A,cs⟩=L:=by
  apply List.ext_getElem?
  intro i
  by_cases hi:i=j
  ·subst hi
   rw [hj,List.getElem?_set_self (List.getElem?_eq_some_iff.1 hj).1]
  ·rw [List.getElem?_set_ne (Ne.symm hi)]
 have:=h hQ hsel (by rw [e]; exact hp)
 rwa [e] at this
theorem Qj {m':Sl} {L':Mem} (ks:List Nat) (hm:wK ks m=some m') (hL:eQ L=some L') (h:TB C ops Q js Lr is N n l m' L'):TB C ops Q js Lr is N n l m L:=fun hQ hsel hp=>by
 obtain rfl:=FX hL
 exact ny m' L (Ji hm) rfl (h hQ hsel hp)
theorem TBC (m':Sl) (L':Mem) (h:TB C ops Q js Lr is N n l m' L') (hm:E_ m' m:=by repeat (first | exact trivial | refine ⟨rfl,?_⟩)) (hL:L=L':=by rfl):TB C ops Q js Lr is N n l m L:=fun hQ hsel hp=>by
 subst hL
 exact ny m' L hm rfl (h hQ hsel hp)
theorem JJ {Lr2 R2 R3:Mem} (is2 is1:List Nat) (h2:pull is2 L=some (Lr2,R3)) (h1:pull is1 Lr2=some (Lr,R2)) (h:TB C ops Q js Lr2 is2 N n l m L):TB C ops Q js Lr is N n l m L:=fun hQ hsel _ =>
 iB h1 h2 (h hQ hsel fun _=>⟨R3,h2⟩)
inductive y8 (C:Ctx) (ops:Array Oper) (m:Sl) (L:Mem):List It → List It → Prop where
 | nil {T:List It}:y8 C ops m L T []
 | cons {T:List It} {k:It} {r:List It} {oi:Oper} (ho:ops[k.i]? = some oi) (hd:oi.dst=some k.d) (AR:(k.deps.all fun j=>(QQ T j).isSome)=true) (hmd:(match k.mdep with | none=>true | some j=>(QQ T j).isSome)=true)
   (hl : ∀ (γ:Nat → Nat) (R:Mem),OP C oi (N8 γ (UX T k.deps)++m) (Pv T γ k.mdep++(L++R)) (k.val (k.deps.map γ)) (fun b=>k.es b++(Pv T γ k.mdep++(L++R))))
   (hr:y8 C ops m L (k :: T) r) (hg : ∀ γ,GW ops oi (N8 γ (UX T k.deps)++m)) (hN:Nat.blt k.d C.N=true) (hm:(lk m k.d).isNone=true):y8 C ops m L T (k :: r)
theorem y8.v {T:List It} {d:Nat} {v:Value} {r:List It} {oi:Oper} (i:Nat) (deps:List Nat) (ho:ops[i]? = some oi) (hd:oi.dst=some d) (hl : ∀ {γ:Nat → Nat} {R:Mem},Ou C oi (N8 γ (UX T deps)++m) (L++R) v)
  (hr:y8 C ops m L (ED i d v deps :: T) r) (hg : ∀ γ,GW ops oi (N8 γ (UX T deps)++m):=by first | exact fun _ => .inl rfl | exact fun _ => .inr ⟨_,_,_,_,rfl,rfl,rfl,rfl⟩) (hN:Nat.blt d C.N=true:=by rfl) (hm:(lk m d).isNone=true:=by rfl) (AR:(deps.all fun j=>(QQ T j).isSome)=true:=by rfl):y8 C ops m L T (ED i d v deps :: r) :=
 .cons ho hd AR rfl (fun _ _=>BR hl) hr hg hN hm
theorem y8.e {T:List It} {d:Nat} {v:Value} {r:List It} {oi:Oper} (i:Nat) (deps:List Nat) (ho:ops[i]? = some oi) (hd:oi.dst=some d) (hl : ∀ {γ:Nat → Nat} {R:Mem},OP C oi (N8 γ (UX T deps)++m) (L++R) (Γ:=Nat) (fun _=>v) (fun _=>L++R))
  (hr:y8 C ops m L (ED i d v deps :: T) r) (hg : ∀ γ,GW ops oi (N8 γ (UX T deps)++m):=by first | exact fun _ => .inl rfl | exact fun _ => .inr ⟨_,_,_,_,rfl,rfl,rfl,rfl⟩) (hN:Nat.blt d C.N=true:=by rfl) (hm:(lk m d).isNone=true:=by rfl) (AR:(deps.all fun j=>(QQ T j).isSome)=true:=by rfl):y8 C ops m L T (ED i d v deps :: r) :=
 .cons ho hd AR rfl (fun _ _=>hl) hr hg hN hm
theorem y8.c {T:List It} {r:List It} {oi:Oper} (k:It) (ho:ops[k.i]? = some oi) (hl : ∀ (γ:Nat → Nat) (R:Mem),OP C oi (N8 γ (UX T k.deps)++m) (Pv T γ k.mdep++(L++R)) (k.val (k.deps.map γ)) (fun b=>k.es b++(Pv T γ k.mdep++(L++R))))
  (hr:y8 C ops m L (k :: T) r) (hd:oi.dst=some k.d:=by rfl) (hg : ∀ γ,GW ops oi (N8 γ (UX T k.deps)++m):=by first | exact fun _ => .inl rfl | exact fun _ => .inr ⟨_,_,_,_,rfl,rfl,rfl,rfl⟩) (hN:Nat.blt k.d C.N=true:=by rfl) (hm:(lk m k.d).isNone=true:=by rfl) (AR:(k.deps.all fun j=>(QQ T j).isSome)=true:=by rfl)
  (hmd:(match k.mdep with | none=>true | some j=>(QQ T j).isSome)=true:=by rfl):y8 C ops m L T (k :: r) := .cons ho hd AR hmd hl hr hg hN hm
theorem BG {k:It} : ∀ {F:List It},(F.map It.i).Nodup → k ∈ F → QQ F k.i=some k
 | [],_,h=>by cases h
 | x :: r,hn,h=>by
  simp only [List.map_cons,List.nodup_cons] at hn
  simp only [QQ]
  rcases List.mem_cons.1 h with rfl | h
  ·simp
  ·have hne:x.i ≠ k.i:=fun he=>hn.1 (he ▸ List.mem_map.2 ⟨k,h,rfl⟩)
   cases hb:Nat.beq x.i k.i with
   | true=>exact absurd (Nat.eq_of_beq_eq_true hb) hne
   | false=>exact BG hn.2 h
theorem Bw {T F:List It} (hn:(F.map It.i).Nodup) (hs : ∀ k ∈ T,k ∈ F) {j:Nat} (h:(QQ T j).isSome=true):QQ T j=QQ F j:=by
 cases hk:QQ T j with
 | none=>rw [hk] at h; cases h
 | some k =>
  obtain ⟨h1,h2⟩:=Qa hk
  rw [← h2,BG hn (hs k h1)]
theorem F5 {T F:List It} (hn:(F.map It.i).Nodup) (hs : ∀ k ∈ T,k ∈ F) : ∀ {l:List Nat},(l.all fun j=>(QQ T j).isSome)=true → UX T l=UX F l
 | [],_=>rfl
 | j :: r,h=>by
  simp only [List.all_cons,Bool.and_eq_true] at h
  simp only [UX,Bw hn hs h.1,F5 hn hs h.2]
theorem y8.laws {F:List It} (hn:(F.map It.i).Nodup) : ∀ {T r:List It},(∀ k ∈ T,k ∈ F) → (∀ k ∈ r,k ∈ F) → y8 C ops m L T r → P8 C ops m L F r
 | _,_,_,_, .nil => .nil
 | T,k :: r,hT,hr', .cons ho hd AR hmd hl hr hg hN hm=>by
  refine .cons ho (fun γ=>F5 hn hT AR ▸ hg γ) hd hN hm (fun γ R=>?_) (y8.laws hn (fun x hx=>?_) (fun x hx=>hr' x (List.mem_cons_of_mem _ hx)) hr)
  ·have e1:=F5 hn hT AR
   have e2:Pv T γ k.mdep=Pv F γ k.mdep:=by
    cases hq:k.mdep with
    | none=>rfl
    | some j=>rw [hq] at hmd; simp only [Pv,Bw hn hT hmd]
   rw [← e1, ← e2]; exact hl γ R
  ·rcases List.mem_cons.1 hx with rfl | hx
   ·exact hr' _ List.mem_cons_self
   ·exact hT x hx
theorem PX {T:List It} (n:Nat) (is':List Nat) {n0:Nat} (hl:y8 C ops m L [] T) (h : ∀ γ,TB C ops Q js Lr is' N n ((T.map It.i).reverse++l) (yj γ T m) (FC γ T L)) (hn:Nat.beq n0 (n+(T++[]).length)=true:=by kernel_rfl) (hc:xM ops (dq N l) js T []=true:=by kernel_rfl)
  (hp' : ∀ γ, ∃ R,pull is' (FC γ T L)=some (Lr,R):=by exact fun _=>⟨_,rfl⟩) (hjs:(dq N l).getD js false=false:=by kernel_rfl) (kR:(dq N ((T.map It.i).reverse++l)).getD js false=false:=by kernel_rfl)
  (hd':((UU (dq N l) ((T++[]).map It.i)).toList == (dq N ((T.map It.i).reverse++l)).toList)=true:=by kernel_rfl):TB C ops Q js Lr is N n0 l m L:=fun hQ hsel hp=>by
 obtain ⟨R,hp⟩:=hp hjs
 have hnd:((T++[]).map It.i).Nodup:=by
  have:=hc
  simp only [xM,Bool.and_eq_true] at this
  exact Kw this.1.1.1.1.1.2
 refine lu T [] n hn hQ hc hp ?_ .nil hd' kR fun γ=>?_
 ·exact y8.laws hnd (fun k hk=>by cases hk) (fun k hk=>by simpa using hk) hl
 ·have:=h γ hQ hsel fun _=>hp' γ
  simpa using this
theorem TBP (T P:List It) (n:Nat) (is':List Nat) {n0:Nat} (hl:P8 C ops m L (T++P) T) (pl:LF C ops m Lr (T++P) P) (h : ∀ γ,TB C ops Q js Lr is' N n (((T++P).map It.i).reverse++l) (yj γ (T++P) m) (FC γ (T++P) L)) (hn:Nat.beq n0 (n+(T++P).length)=true:=by kernel_rfl) (hc:xM ops (dq N l) js T P=true:=by kernel_rfl)
  (hp' : ∀ γ, ∃ R,pull is' (FC γ (T++P) L)=some (Lr,R):=by exact fun _=>⟨_,rfl⟩) (hjs:(dq N l).getD js false=false:=by kernel_rfl) (kR:(dq N (((T++P).map It.i).reverse++l)).getD js false=false:=by kernel_rfl)
  (hd':((UU (dq N l) ((T++P).map It.i)).toList == (dq N (((T++P).map It.i).reverse++l)).toList)=true:=by kernel_rfl):TB C ops Q js Lr is N n0 l m L:=fun hQ hsel hp=>by
 obtain ⟨R,hp⟩:=hp hjs
 exact lu T P n hn hQ hc hp hl pl hd' kR fun γ=>h γ hQ hsel fun _=>hp' γ
end
section
variable {C:Ctx} {Q:Exit → Act → World → Prop} {m:Sl} {L:Mem} {ops:Array Oper} {l:List Oper} {dst:Option Tmp} {ty:TypeId} {pos:String} {af:Array Edge} {gd:Option (Nat × Bool)}
theorem Ta {A:Y6} {cs cs':List Value} (j:Nat) (hc:cs=cs') (h:TL C ops Q l m (L.set j ⟨A,cs'⟩)) (hj:L[j]? = some ⟨A,cs⟩:=by rfl):TL C ops Q l m L:=dF hj hc h
theorem Zn {P:Program} {f:FuncId} {fn:Func} {c:Code} {args:List Value} {w:World} {L0 Ro:Mem} {R:Ending → World → Prop} {N:Nat} {m0:Sl} (hf:P.funcs[f]? = some fn) (hb:fn.body=some c) (hN:fn.ntmps=N) (hm:eQ (oZ 0 args)=some m0)
  (hmem:NZ w L0) (hro : ∀ e ∈ Ro,Has w e) (hd : ∀ f ∈ L0, ∀ e ∈ Ro,JX f e) (h:TC ⟨P,w,L0,Ro,N⟩ c (bodyPost P fn R) m0 L0) (hsz:Nat.ble args.length N=true:=by rfl):Calls P f args.toArray w R:=by
 obtain rfl:=FX hm
 exact nu hf hb hN (ib args) hsz hmem hro hd h
theorem PT {x:Operand} {e:TypeId} {ps:Parts} (hx:ev m x=some (aG ps):=by rfl) (hok:okB ps=true:=by kernel_rfl) :
  OP C ⟨dst, .box e x,ty,pos,af,gd⟩ m L (Γ:=Nat) (fun b=>ptr (some (b,0)) 0) (fun b=>ents b 0 ps++L):=UN ps hx (by simp [Value.cells]) (Gt hok)
theorem ZQ {x:Operand} {b o f:Nat} {t:TypeId} {fs:Array Field} {fd:Field} {inf:TypeInfo} {ft:TypeId} (k:Nat) (hu:C.P.underlying t=some (.struct fs)) (hi:C.P.info? ft=some inf)
  (hx:ev m x=some (ptr (some (b,o)) 0):=by rfl) (hf:fs[f]? = some fd:=by rfl) (hft:fd.type=ft:=by rfl) (hk:fd.offset=k:=by rfl) (h0:Nat.beq inf.size 0=false:=by rfl) :
  Ou C ⟨dst, .fieldAddr t x f,ty,pos,af,gd⟩ m L (ptr (some (b,o+k)) 0) :=
 mZ hx hu hf hk (hft ▸ hi) h0 (by simp [ptr,loc,bk,EY])
theorem V9 {op:BinOp} {t t':TypeId} {x y:Operand} {α β:Type} {ka:α → Value} {kb:β → Value} {f:α → β → Value} {a:α} {b:β} (law : ∀ w a b,(TU op t x y (ka a) (kb b)).run C.P w = .ok (f a b) w) (hx:ev m x=some (ka a)) (hy:ev m y=some (kb b)) :
  Ou C ⟨dst, .binOp op t x y t',ty,pos,af,gd⟩ m L (f a b):=Zg hx hy fun w=>law w a b
theorem ZT {op:BinOp} {t t':TypeId} {x y:Operand} {α β:Type} {ka:α → Value} {kb:β → Value} {f:α → β → Value} {a:α} {b:β} (law : ∀ w a b,(TU op t x y (ka a) (kb b)).run C.P w = .ok (f a b) w) (hx:ev m x=some (ka a):=by rfl) (hy:ev m y=some (kb b):=by rfl) :
  Ou C ⟨dst, .binOp op t x y t',ty,pos,af,gd⟩ m L (f a b):=Zg hx hy fun w=>law w a b
theorem UF {op:UnOp} {t:TypeId} {x:Operand} {α:Type} {ka:α → Value} {f:α → Value} {a:α} (law : ∀ w a,(Op.unary op (ka a)).run C.P w = .ok (f a) w) (hx:ev m x=some (ka a):=by rfl):Ou C ⟨dst, .unOp op t x,ty,pos,af,gd⟩ m L (f a):=ac3 hx fun w=>law w a
abbrev zI:List Value:=eI (nI++nI)
abbrev zS:List Value:=eS (nS++nS)
abbrev zA:List Value:=eF (fun p:Str × Int=>[vs p.1,vi p.2]) (nA++nA)
abbrev zB:List Value:=eF (fun p:Int × Str=>[vi p.1,vs p.2]) (nB++nB)
abbrev zP:List Value:=eF (fun p:Str × Str × Int × Int × Int × Int=>[vs p.1,vs p.2.1,vi p.2.2.1,vi p.2.2.2.1,vi p.2.2.2.2.1,vi p.2.2.2.2.2]) (nP++nP)
def nnL:List (List Value) → Mem → Mem
 | [],L=>L
 | z :: r,L=>⟨none,z⟩ :: nnL r L
theorem ol : ∀ (zs:List (List Value)) {L:Mem},(zs.all (·.isEmpty))=true → TL C ops Q l m (nnL zs L) → TL C ops Q l m L
 | [],_,_,h=>h
 | z :: r,_,hz,h=>by
  simp only [List.all_cons,Bool.and_eq_true,List.isEmpty_iff] at hz
  have h2:TL C ops Q l m (⟨none,[]⟩ :: nnL r _):=hz.1 ▸ h
  exact ol r hz.2 (KC h2)
theorem Mo {L':Mem} (zs:List (List Value)) (hL:eQ (nnL zs L)=some L') (h:TL C ops Q l m L') (hz:(zs.all (·.isEmpty))=true:=by rfl):TL C ops Q l m L:=ol zs hz (FX hL ▸ h)
theorem JK {fn:Func} {rs:List ResultVar} {vs:List Value} {Γ:Type} {val:Γ → Value} {mem:Γ → Mem} {w:World} {Qf R:Mem} (g:Γ) (is:List Nat) (hr:fn.results=rs.toArray) (hv:GR C m L rs vs) (hp:pull is L=some (mem g,R))
  (hw:C.w0=w:=by rfl) (hL:C.L0=Qf:=by rfl) (hval:JE vs=val g:=by rfl):TX C (bodyPost C.P fn fun e w' => ∃ g:Γ,e = .returned (val g)∧Step w Qf w' (mem g)) .ret m L :=
 wD hr hv fun w' hs'=>⟨g,by rw [hval],by subst hw hL; exact Step.left (Step.pulled hs' hp)⟩
theorem tl {i:Int} {n:Nat} (h:0≤i∧i<n):i.toNat<n:=toNat_lt h.1 h.2
theorem Z_ {id:Nat} {l:List Oper} {c2:Code} (h:TL C l.toArray (Exit.then (fun a w=>c2.wp C.P Q a w) Q) l m L):TC C (.seq (.region id l.toArray false) c2) Q m L:=ZY (ZH h)
theorem Z6 {c:Code} (h:TC C c Q m L):TL C ops (Exit.then (fun a w=>c.wp C.P Q a w) Q) [] m L:=ZK (Z7 h)
theorem Qb {c:Code} {L':Mem} (hL:eQ L=some L') (h:TC C c Q m L'):TL C ops (Exit.then (fun a w=>c.wp C.P Q a w) Q) [] m L:=ZK (Z7 (FX hL ▸ h))
theorem Zq (h:TX C Q .ret m L):TL C ops (Exit.then (fun a w=>Code.ret.wp C.P Q a w) Q) [] m L:=ZK (Z7 (Y7 h))
def kJ (Ro L:Mem):List Nat → Option Mem
 | []=>some []
 | j :: r=>match (match Nat.blt j 1000 with | true=>L[j]? | false=>Ro[j - 1000]?) with
  | none=>none
  | some e=>match kJ Ro L r with
   | none=>none
   | some es=>some (e :: es)
theorem Et : ∀ {js:List Nat} {es:Mem},kJ C.Ro L js=some es → ∀ e ∈ es,Src C L e
 | [],es,h,e,he=>by cases h; cases he
 | j :: r,es,h,e,he=>by
  simp only [kJ] at h
  split at h
  ·cases h
  ·rename_i x hx
   split at h
   ·cases h
   ·rename_i xs hxs
    cases h
    rcases List.mem_cons.1 he with rfl | he
    ·split at hx
     ·exact Src.own hx
     ·exact Src.ro hx
    ·exact Et hxs e he
def qd:Mem → Option Parts
 | []=>some []
 | e :: r=>match qd r with
  | none=>none
  | some ps=>match e.cs with
   | [v]=>some ((1,[v]) :: ps)
   | cs=>some ((cs.length,cs) :: ps)
theorem Kn : ∀ {es:Mem} {ps:Parts},qd es=some ps → R9 ps
 | [],_,h=>by cases h; trivial
 | e :: r,ps,h=>by
  simp only [qd] at h
  split at h
  ·cases h
  ·rename_i s hs
   split at h
   ·cases h; exact ⟨rfl,Kn hs⟩
   ·cases h; exact ⟨rfl,Kn hs⟩
theorem VY {x:Operand} {b o:Nat} {t:TypeId} {inf:TypeInfo} {es:Mem} {ps:Parts} (js:List Nat) (hj:kJ C.Ro L js=some es) (hp:qd es=some ps) (hty : ∀ w,(isAgg t).run C.P w = .ok true w) (hi:C.P.info? t=some inf)
  (hx:ev m x=some (ptr (some (b,o)) 0):=by rfl) (hE:Kx.ents b o ps=es:=by rfl) (hl:Nat.beq (ps.map (·.1)).sum inf.size=true:=by kernel_rfl) :
  Ou C ⟨dst, .load t x,ty,pos,af,gd⟩ m L (aG ps):=FZ hx (by simp) (Ac ps o (Kn hp) (by rw [hE]; exact Et hj)) hty hi rfl (Mt (Kn hp) (Nat.eq_of_beq_eq_true hl))
theorem Wp {p:Tmp} {b o:Nat} {t:TypeId} {inf:TypeInfo} {es:Mem} {ps:Parts} (js:List Nat) (hj:kJ C.Ro L js=some es) (hp:qd es=some ps) (hty : ∀ w,(isAgg t).run C.P w = .ok true w) (hi:C.P.info? t=some inf)
  (hx:lk m p=some (ptr (some (b,o)) 0):=by rfl) (hE:Kx.ents b o ps=es:=by rfl) (hl:Nat.beq (ps.map (·.1)).sum inf.size=true:=by kernel_rfl):bA C m L (.cell p t) (aG ps) :=
 Wm hx (by simp) (Ac ps o (Kn hp) (by rw [hE]; exact Et hj)) hty hi rfl (Mt (Kn hp) (Nat.eq_of_beq_eq_true hl))
theorem VZ {x y:Operand} {b o:Nat} {A1 R:Mem} {t:TypeId} {inf:TypeInfo} {ps ns:Parts} (is:List Nat) (hp:pull is L=some (A1,R)) (hq:qd A1=some ps) (hi:C.P.info? t=some inf)
  (hx:ev m x=some (ptr (some (b,o)) 0):=by rfl) (hy:ev m y=some (aG ns):=by rfl) (hE:Kx.ents b o ps=A1:=by rfl) (hns:okB ns=true:=by kernel_rfl) (h1:lC ns=true:=by kernel_rfl)
  (AO:Nat.beq (ps.map (·.1)).sum inf.size=true:=by kernel_rfl) (Cw:Nat.beq (ns.map (·.1)).sum inf.size=true:=by kernel_rfl) :
  OP C ⟨dst, .store t x y,ty,pos,af,gd⟩ m L (Γ:=Unit) (fun _=>undef) (fun _=>Kx.ents b o ns++R) :=
 bD is ps ns (by rw [hE]; exact hp) hi (Kn hq) (Gt hns) (Az h1) hx hy rfl (Nat.eq_of_beq_eq_true AO) (Nat.eq_of_beq_eq_true Cw)
end
end Go.Kx
end

section
namespace Go.Proofs
open Go Go.Kx
open TryzI Tryz
def Q_ (Sq Qp:BitVec 64):Option (BitVec 64 × BitVec 64) :=
 some ((Sq >>> 1) ^^^ (16212958658533785600#64 &&& (-(Qp &&& 1#64))),(Qp >>> 1) ||| (Sq <<< 63))
theorem Ey {Sq:BitVec 64} {Qp:BitVec 64} {r:BitVec 64 × BitVec 64} (H:Q_ Sq Qp=some r) :
  Does Tryz.prog 154 [aG [(1,[v64 Sq]),(1,[v64 Qp])]] [] [] (Γ:=Unit) (fun g=>aG [(1,[v64 r.1]),(1,[v64 r.2])]) (fun g=>[]):=by
 intro w hmem hro hd
 refine Zn func154 rfl ntmps154 rfl hmem hro hd ?_
 unfold Q_ at H
 refine Z_ (YE PT (fun b1=>?_))
 refine YE (Wh [(1,[v64 0#64]),(1,[v64 0#64])] V3 NK ⟨rfl,rfl,trivial⟩) (fun b2=>?_)
 refine Z6 (Z_ (ZV (ZQ 0 underlying216 Yx) ?_))
 refine ZV (Z8 rfl (.o 2) rfl isAgg115) ?_
 refine ZV (Zg rfl rfl (fun w=>Pi w Sq .u64 1 (by decide))) ?_
 refine ZV (ZQ 1 underlying216 Yx) ?_
 refine ZV (Z8 rfl (.o 3) rfl isAgg115) ?_
 refine ZV (Zg rfl rfl (fun w=>MZ w Qp 1#64)) ?_
 refine ZV (UF eZ) ?_
 refine ZV (Zg rfl rfl (fun w=>MZ w 16212958658533785600#64 (-(Qp &&& 1#64)))) ?_
 refine ZV (ZT K3) ?_
 refine ZV (ZQ 1 underlying216 Yx) ?_
 refine ZV (Z8 rfl (.o 3) rfl isAgg115) ?_
 refine ZV (Zg rfl rfl (fun w=>Pi w Qp .u64 1 (by decide))) ?_
 refine ZV (ZQ 0 underlying216 Yx) ?_
 refine ZV (Z8 rfl (.o 2) rfl isAgg115) ?_
 refine ZV (Zg rfl rfl (fun w=>Iw w Sq .u64 63 (by decide))) ?_
 refine ZV (ZT zg) ?_
 refine ZV (Y9 (pv:=[(0,v64 ((Sq >>> 1) ^^^ (16212958658533785600#64 &&& (-(Qp &&& 1#64))))),(1,v64 ((Qp >>> 1) ||| (Sq <<< 63)))]) (pl:=[(0,1),(1,1)]) rfl rfl underlying216 V3 IK NK (cs:=flat [(1,[v64 ((Sq >>> 1) ^^^ (16212958658533785600#64 &&& (-(Qp &&& 1#64))))]),(1,[v64 ((Qp >>> 1) ||| (Sq <<< 63))])]) (by kernel_rfl)) ?_
 refine VM (VZ [0,0] rfl rfl V3) (fun _=>?_)
 refine Zq ?_
 obtain rfl:=sj H
 exact SF (vs:=[_]) rfl ⟨(Wp [0,1] rfl rfl isAgg216 V3),trivial⟩
end Go.Proofs
end
