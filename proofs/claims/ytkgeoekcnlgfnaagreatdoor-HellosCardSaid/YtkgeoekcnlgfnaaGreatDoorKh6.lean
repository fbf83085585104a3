/-
  Part 6 of the proof of what several laws share.
-/
import Derived.Test.YtkgeoekcnlgfnaaGreatDoorKh5
set_option linter.unusedVariables false
set_option linter.unusedSimpArgs false
section
namespace Go.Kx
open Go
structure It where
 i:Nat
 d:Nat
 val:List Nat → Nat → Value
 es:Nat → Mem
 deps:List Nat
 mdep:Option Nat
def N8 (γ:Nat → Nat):List It → Sl
 | []=>[]
 | k :: r=>(k.d,k.val (k.deps.map γ) (γ k.i)) :: N8 γ r
def M5 (γ:Nat → Nat):List It → Mem
 | []=>[]
 | k :: r=>k.es (γ k.i)++M5 γ r
def QQ:List It → Nat → Option It
 | [],_=>none
 | k :: r,j=>match Nat.beq k.i j with
  | true=>some k
  | false=>QQ r j
def UX (T:List It):List Nat → List It
 | []=>[]
 | j :: r=>match QQ T j with
  | none=>UX T r
  | some k=>k :: UX T r
def Pv (T:List It) (γ:Nat → Nat):Option Nat → Mem
 | none=>[]
 | some j=>match QQ T j with
  | none=>[]
  | some k=>k.es (γ k.i)
theorem Qa : ∀ {T:List It} {j:Nat} {k:It},QQ T j=some k → k ∈ T∧k.i=j
 | [],_,_,h=>by cases h
 | x :: r,j,k,h=>by
  simp only [QQ] at h
  cases hb:Nat.beq x.i j with
  | true=>simp only [hb,Option.some.injEq] at h; subst h; exact ⟨List.mem_cons_self,Nat.eq_of_beq_eq_true hb⟩
  | false=>simp only [hb] at h; exact ⟨List.mem_cons_of_mem _ (Qa h).1,(Qa h).2⟩
def NB (ops:Array Oper) (a x:Nat):Bool :=
 match ops[a]? with
 | none=>false
 | some o=>o.after.any fun e=>Region.binds .any e && Nat.beq e.on x
def AY (ops:Array Oper) (T:List It):Nat → Nat → Nat → Bool
 | 0,a,x=>NB ops a x
 | f+1,a,x=>NB ops a x || T.any fun k=>NB ops a k.i && AY ops T f k.i x
def y7:List Nat → Bool
 | []=>true
 | x :: r => !(r.any fun y=>Nat.beq x y) && y7 r
theorem Kw : ∀ {l:List Nat},y7 l=true → l.Nodup
 | [],_=>List.nodup_nil
 | x :: r,h=>by
  simp only [y7,Bool.and_eq_true,Bool.not_eq_true',List.any_eq_false] at h
  refine List.nodup_cons.2 ⟨fun hx=>h.1 x hx (by simp),Kw h.2⟩
section
variable {C:Ctx} {Q:Exit → Act → World → Prop} {m:Sl} {L Lr R:Mem} {ops:Array Oper} {js n:Nat} {done done':Array Bool}
def GW (ops:Array Oper) (o:Oper) (m:Sl):Prop:=o.guard=none ∨ ∃ j want oj dj,o.guard=some (j,want)∧ops[j]? = some oj∧oj.dst=some dj∧lk m dj=some (.bool want)
theorem GW.plain {o:Oper} {m:Sl} (h:o.guard=none):GW ops o m := .inl h
theorem GW.wanted {o:Oper} {m:Sl} {a:Act} (h:GW ops o m) (hs:Jf m a):Region.wanted o (yielded ops a.tmps)=true:=by
 rcases h with h | ⟨j,want,oj,dj,hg,hj,hdj,hb⟩
 ·simp [Region.wanted,h]
 ·have h1:=hs dj _ hb
  simp [Region.wanted,hg,yielded,hj,hdj,h1]
inductive LF (C:Ctx) (ops:Array Oper) (m:Sl) (Lr:Mem) (T:List It):List It → Prop where
 | nil:LF C ops m Lr T []
 | cons {k:It} {r:List It} {oi:Oper} {v:Value} (ho:ops[k.i]? = some oi) (hg : ∀ γ,GW ops oi (N8 γ (UX T k.deps)++m)) (hd:oi.dst=some k.d) (hN:Nat.blt k.d C.N=true) (hm:(lk m k.d).isNone=true)
   (hv:k.val=fun _ _=>v) (he:k.es=fun _=>[]) (hmd:k.mdep=none) (hl : ∀ (γ:Nat → Nat),Ou C oi (N8 γ (UX T k.deps)++m) Lr v)
   (hr:LF C ops m Lr T r):LF C ops m Lr T (k :: r)
inductive P8 (C:Ctx) (ops:Array Oper) (m:Sl) (L:Mem) (T:List It):List It → Prop where
 | nil:P8 C ops m L T []
 | cons {k:It} {r:List It} {oi:Oper} (ho:ops[k.i]? = some oi) (hg : ∀ γ,GW ops oi (N8 γ (UX T k.deps)++m)) (hd:oi.dst=some k.d) (hN:Nat.blt k.d C.N=true) (hm:(lk m k.d).isNone=true)
   (hl : ∀ (γ:Nat → Nat) (R:Mem),OP C oi (N8 γ (UX T k.deps)++m) (Pv T γ k.mdep++(L++R)) (k.val (k.deps.map γ)) (fun b=>k.es b++(Pv T γ k.mdep++(L++R))))
   (hr:P8 C ops m L T r):P8 C ops m L T (k :: r)
theorem P8.get {T:List It} : ∀ {r:List It},P8 C ops m L T r → ∀ k ∈ r, ∃ oi,ops[k.i]? = some oi∧(∀ γ,GW ops oi (N8 γ (UX T k.deps)++m))∧oi.dst=some k.d∧Nat.blt k.d C.N=true∧lk m k.d=none ∧
  ∀ (γ:Nat → Nat) (R:Mem),OP C oi (N8 γ (UX T k.deps)++m) (Pv T γ k.mdep++(L++R)) (k.val (k.deps.map γ)) (fun b=>k.es b++(Pv T γ k.mdep++(L++R)))
 | _, .nil,_,h=>by cases h
 | _, .cons ho hg hd hN hm hl hr,k,h=>by
  rcases List.mem_cons.1 h with rfl | h
  ·exact ⟨_,ho,hg,hd,hN,by simpa using hm,hl⟩
  ·exact hr.get k h
def gu (ops:Array Oper):Array Bool → List It → Bool
 | _,[]=>true
 | D,k :: r=>(match ops[k.i]? with
  | none=>false
  | some o=>o.after.all fun e => !(Region.binds .any e) || D.getD e.on false) && gu ops (D.setIfInBounds k.i true) r
def xM (ops:Array Oper) (done:Array Bool) (js:Nat) (T P:List It):Bool :=
 Nat.beq ops.size done.size && ((T++P).all fun k => !(done.getD k.i true)) && ((T++P).all fun k=>k.deps.all fun j=>NB ops k.i j) &&
 ((T++P).all fun k=>match k.mdep with | none=>true | some j=>NB ops k.i j) &&
 ((List.range ops.size).all fun j=>done.getD j true || ((T++P).any fun k=>Nat.beq k.i j) || T.all fun k=>AY ops (T++P) 6 j k.i) && y7 ((T++P).map (·.i)) && y7 ((T++P).map (·.d)) && gu ops done (T++P) &&
 (P.all fun k=>waitsFor ops js k.i) &&
 (P.all fun k=>(List.range ops.size).all fun j=>done.getD j true || (T.any fun x=>Nat.beq x.i j) || Nat.beq j k.i || NB ops j k.i || match ops[k.i]?,ops[j]? with | some oi,some oj=>oi.apart ops oj | _,_=>false) &&
 Region.noSelect ops
theorem nk {D:Array Bool} {i j:Nat} (h:(D.setIfInBounds i true).getD j false=true):j=i ∨ D.getD j false=true:=by
 by_cases hij:i=j
 ·exact .inl hij.symm
 ·rw [Array.getD_eq_getD_getElem?,Array.getElem?_setIfInBounds_ne hij, ← Array.getD_eq_getD_getElem?] at h
  exact .inr h
theorem Ez {X:Array Bool} : ∀ {T:List It} {D:Array Bool},gu ops D T=true → (∀ j,D.getD j false=true → X.getD j false=true) → (∀ k ∈ T,X.getD k.i true=X.getD k.i false) →
  (∃ k ∈ T,X.getD k.i false=false) → ∃ k ∈ T,X.getD k.i false=false∧k.i ∈ Region.ready .any ops X
 | [],_,_,_,_,h=>by obtain ⟨k,hk,_⟩:=h; cases hk
 | k :: r,D,ht,hD,hX,h=>by
  simp only [gu,Bool.and_eq_true] at ht
  cases hk:X.getD k.i false with
  | true =>
   have:=Ez ht.2 (fun j hj=>?_) (fun x hx=>hX x (List.mem_cons_of_mem _ hx)) ?_
   ·obtain ⟨x,hx,h2⟩:=this; exact ⟨x,List.mem_cons_of_mem _ hx,h2⟩
   ·rcases nk hj with rfl | h1
    ·exact hk
    ·exact hD j h1
   ·obtain ⟨x,hx,hx0⟩:=h
    rcases List.mem_cons.1 hx with rfl | hx
    ·rw [hk] at hx0; cases hx0
    ·exact ⟨x,hx,hx0⟩
  | false =>
   have h1:=ht.1
   split at h1
   ·cases h1
   ·rename_i o ho
    refine ⟨k,List.mem_cons_self,hk,mem_ready.2 ⟨by rw [hX k List.mem_cons_self,hk],o,ho,fun e he hb=>?_⟩⟩
    simp only [Array.all_eq_true'] at h1
    have:=h1 e he
    simp only [hb,Bool.not_true,Bool.false_or] at this
    exact hD _ this
theorem LF.get {T:List It} : ∀ {r:List It},LF C ops m Lr T r → ∀ k ∈ r, ∃ oi v,ops[k.i]? = some oi∧(∀ γ,GW ops oi (N8 γ (UX T k.deps)++m))∧oi.dst=some k.d∧Nat.blt k.d C.N=true∧lk m k.d=none ∧
  (k.val=fun _ _=>v)∧(k.es=fun _=>[])∧k.mdep=none ∧ ∀ (γ:Nat → Nat),Ou C oi (N8 γ (UX T k.deps)++m) Lr v
 | _, .nil,_,h=>by cases h
 | _, .cons ho hg hd hN hm hv he hmd hl hr,k,h=>by
  rcases List.mem_cons.1 h with rfl | h
  ·exact ⟨_,_,ho,hg,hd,hN,by simpa using hm,hv,he,hmd,hl⟩
  ·exact hr.get k h
theorem lU {o:Oper} {m:Sl} {L M:Mem} {v:Value} (h:OP C o m L (Γ:=Unit) (fun _=>v) (fun _=>M)):OP C o m L (Γ:=Nat) (fun _=>v) (fun _=>M) :=
 fun a w hs Q K hK=>h a w hs Q K fun _ w' hs'=>hK 0 w' hs'
theorem BR {o:Oper} {m:Sl} {L:Mem} {v:Value} (h:Ou C o m L v):OP C o m L (Γ:=Nat) (fun _=>v) (fun _=>L):=fun a w hs Q K hK=>by
 unfold Oper.wp
 rw [h a w hs,Oper.upon_value]
 exact hK 0 w hs.step
theorem Cv {A B:Sl} {t:Nat} {v:Value} (h:lk (A++B) t=some v):(∃ p ∈ A,p.1=t∧p.2=v) ∨ lk B t=some v:=by
 induction A with
 | nil=>exact .inr h
 | cons p A ih =>
  obtain ⟨k,u⟩:=p
  simp only [List.cons_append,lk] at h
  cases hb:Nat.beq k t with
  | true=>simp only [hb,Option.some.injEq] at h; exact .inl ⟨_,List.mem_cons_self,Nat.eq_of_beq_eq_true hb,h⟩
  | false =>
   simp only [hb] at h
   rcases ih h with ⟨p,hp,h1⟩ | h1
   ·exact .inl ⟨p,List.mem_cons_of_mem _ hp,h1⟩
   ·exact .inr h1
theorem EF {γ:Nat → Nat} : ∀ {T:List It} {p:Nat × Value},p ∈ N8 γ T → ∃ k ∈ T,p=(k.d,k.val (k.deps.map γ) (γ k.i))
 | [],_,h=>by cases h
 | k :: r,p,h=>by
  rcases List.mem_cons.1 h with rfl | h
  ·exact ⟨k,List.mem_cons_self,rfl⟩
  ·obtain ⟨x,hx,he⟩:=EF h; exact ⟨x,List.mem_cons_of_mem _ hx,he⟩
theorem ND {T:List It} : ∀ {l:List Nat} {k:It},k ∈ UX T l → k ∈ T∧k.i ∈ l
 | [],_,h=>by cases h
 | j :: r,k,h=>by
  simp only [UX] at h
  split at h
  ·exact ⟨(ND h).1,List.mem_cons_of_mem _ (ND h).2⟩
  ·rename_i x hx
   rcases List.mem_cons.1 h with rfl | h
   ·exact ⟨(Qa hx).1,(Qa hx).2 ▸ List.mem_cons_self⟩
   ·exact ⟨(ND h).1,List.mem_cons_of_mem _ (ND h).2⟩
def upd (γ:Nat → Nat) (i b:Nat):Nat → Nat:=fun j=>match Nat.beq j i with | true=>b | false=>γ j
theorem upd_same {γ:Nat → Nat} {i b:Nat}:upd γ i b i=b:=by simp [upd]
theorem upd_ne {γ:Nat → Nat} {i b j:Nat} (h:j ≠ i):upd γ i b j=γ j:=by
 unfold upd
 cases hb:Nat.beq j i with
 | true=>exact absurd (Nat.eq_of_beq_eq_true hb) h
 | false=>rfl
theorem EP {γ:Nat → Nat} {i b:Nat} : ∀ {l:List Nat},i ∉ l → l.map (upd γ i b)=l.map γ
 | [],_=>rfl
 | x :: l,h=>by
  simp only [List.mem_cons,not_or] at h
  simp only [List.map_cons]
  rw [upd_ne (Ne.symm h.1),EP h.2]
theorem Eb {γ:Nat → Nat} {i b:Nat} : ∀ {T:List It},(∀ k ∈ T,k.i ≠ i) → M5 (upd γ i b) T=M5 γ T
 | [],_=>rfl
 | k :: r,h=>by
  simp only [M5]
  rw [upd_ne (h k List.mem_cons_self),Eb fun x hx=>h x (List.mem_cons_of_mem _ hx)]
theorem Cr {γ:Nat → Nat} {T T':List It} (h:T.Perm T'):(M5 γ T).Perm (M5 γ T'):=by
 induction h with
 | nil=>exact List.Perm.refl _
 | cons x _ ih=>exact ih.append_left _
 | swap x y l =>
  simp only [M5, ← List.append_assoc]
  exact List.Perm.append_right _ List.perm_append_comm
 | trans _ _ h1 h2=>exact h1.trans h2
def UU (done:Array Bool) (l:List Nat):Array Bool:=l.foldl (fun D i=>D.setIfInBounds i true) done
theorem NU : ∀ (l:List Nat) (done:Array Bool) (j:Nat),(UU done l)[j]? = if j ∈ l then done[j]?.map (fun _=>true) else done[j]?
 | [],_,_=>by simp [UU]
 | i :: r,done,j=>by
  have ih:=NU r (done.setIfInBounds i true) j
  show (UU (done.setIfInBounds i true) r)[j]? = _
  rw [ih]
  by_cases hij:i=j
  ·subst hij
   by_cases hlt:i<done.size
   ·simp [Array.getElem?_setIfInBounds_self_of_lt hlt,Array.getElem?_eq_getElem hlt]
   ·simp [Array.setIfInBounds,hlt,Array.getElem?_eq_none (Nat.not_lt.1 hlt)]
  ·rw [Array.getElem?_setIfInBounds_ne hij]
   have:(j ∈ i :: r) ↔ j ∈ r:=by simp [Ne.symm hij]
   simp only [this]
theorem Fp {l l':List Nat} (h:l.Perm l') (done:Array Bool):UU done l=UU done l':=by
 apply Array.ext_getElem?
 intro j
 rw [NU,NU]
 simp only [h.mem_iff]
theorem LY (done:Array Bool) (l:List Nat) (i:Nat):(UU done l).setIfInBounds i true=UU done (i :: l):=by
 have:UU done (l++[i])=(UU done l).setIfInBounds i true:=by simp [UU]
 rw [← this]
 exact Fp (List.perm_append_singleton i l) done
theorem PR {a x:Nat} {D:Array Bool} (hw:NB ops a x=true) (hr:a ∈ Region.ready .any ops D):D.getD x false=true:=by
 obtain ⟨_,o,ho,hall⟩:=mem_ready.1 hr
 simp only [NB,ho,Array.any_eq_true',Bool.and_eq_true] at hw
 obtain ⟨e,he,hb,hx⟩:=hw
 have:=Nat.eq_of_beq_eq_true hx
 subst this
 exact hall e he hb
def yj (γ:Nat → Nat):List It → Sl → Sl
 | [],m=>m
 | k :: r,m=>yj γ r ((k.d,k.val (k.deps.map γ) (γ k.i)) :: m)
def FC (γ:Nat → Nat):List It → Mem → Mem
 | [],L=>L
 | k :: r,L=>FC γ r (k.es (γ k.i)++L)
theorem D6 {γ:Nat → Nat} : ∀ (T:List It) (L:Mem),(L++M5 γ T).Perm (FC γ T L)
 | [],L=>by simp [FC,M5]
 | k :: r,L=>by
  refine List.Perm.trans ?_ (D6 r _)
  simp only [M5, ← List.append_assoc]
  exact List.Perm.append_right _ List.perm_append_comm
theorem x8 {γ:Nat → Nat} {t:Nat} {v:Value} : ∀ (T:List It) (m:Sl),lk (yj γ T m) t=some v → (∃ k ∈ T,k.d=t∧k.val (k.deps.map γ) (γ k.i)=v) ∨ lk m t=some v
 | [],m,h => .inr h
 | k :: r,m,h=>by
  rcases x8 r _ h with ⟨x,hx,h1⟩ | h1
  ·exact .inl ⟨x,List.mem_cons_of_mem _ hx,h1⟩
  ·simp only [lk] at h1
   cases hb:Nat.beq k.d t with
   | true=>simp only [hb,Option.some.injEq] at h1; exact .inl ⟨k,List.mem_cons_self,Nat.eq_of_beq_eq_true hb,h1⟩
   | false=>simp only [hb] at h1; exact .inr h1
theorem lu (T P:List It) (n:Nat) {n0:Nat} {is:List Nat} (hn:Nat.beq n0 (n+(T++P).length)=true) (hQ:QP Q) (hc:xM ops done js T P=true) (hp:pull is L=some (Lr,R)) (hl:P8 C ops m L (T++P) T) (pl:LF C ops m Lr (T++P) P)
  (hd':((UU done ((T++P).map (·.i))).toList == done'.toList)=true) (hjs:done'.getD js false=false)
  (h : ∀ γ,TA C ops Q js Lr n done' (yj γ (T++P) m) (FC γ (T++P) L)):TA C ops Q js Lr n0 done m L:=by
 have hn':=Nat.eq_of_beq_eq_true hn
 subst hn'
 have hd2:UU done ((T++P).map (·.i))=done':=Array.toList_inj.1 (eq_of_beq hd')
 simp only [xM,Bool.and_eq_true,List.all_eq_true,Bool.or_eq_true,List.any_eq_true,Bool.not_eq_true'] at hc
 obtain ⟨⟨⟨⟨⟨⟨⟨⟨⟨⟨hsz,aaQ⟩,hdeps⟩,hmdep⟩,hoth⟩,hni⟩,hnd⟩,htopo⟩,hwf⟩,hfree⟩,hsel⟩:=hc
 have hsz:=Nat.eq_of_beq_eq_true hsz
 have hni:=Kw hni
 have hnd:=Kw hnd
 have laws : ∀ k ∈ T++P, ∃ oi,ops[k.i]? = some oi∧(∀ γ,GW ops oi (N8 γ (UX (T++P) k.deps)++m))∧oi.dst=some k.d∧Nat.blt k.d C.N=true∧lk m k.d=none ∧
   ∀ (γ:Nat → Nat) (R:Mem),OP C oi (N8 γ (UX (T++P) k.deps)++m) (Pv (T++P) γ k.mdep++(L++R)) (k.val (k.deps.map γ)) (fun b=>k.es b++(Pv (T++P) γ k.mdep++(L++R))):=fun k hk=>by
  rcases List.mem_append.1 hk with h1 | h1
  ·exact hl.get k h1
  ·obtain ⟨oi,v,ho,hg,hd,hN,hm,hv,he,hmd,hlw⟩:=pl.get k h1
   refine ⟨oi,ho,hg,hd,hN,hm,fun γ R a w hs Q K hK=>?_⟩
   rw [hmd] at hs hK
   simp only [Pv,List.nil_append,he,hv] at hs hK
   have hs2:Sat C (N8 γ (UX (T++P) k.deps)++m) Lr a w:=hs.mem (hs.step.left.pulled hp).left
   unfold Oper.wp
   rw [hlw γ a w hs2,Oper.upon_value]
   exact hK 0 w hs.step
 suffices H : ∀ (Rm Dn:List It) (γ:Nat → Nat) (a:Act) (w:World),(Dn++Rm).Perm (T++P) → Sat C m (L++M5 γ Dn) a w → (∀ k ∈ Dn,a.tmps[k.d]? = some (k.val (k.deps.map γ) (γ k.i))) →
   (∀ k ∈ Dn, ∀ x,NB ops k.i x=true → (UU done (Dn.map (·.i))).getD x false=true) → h_ C.P ops Q js (fun w=>Step C.w0 C.L0 w Lr) (n+Rm.length) (UU done (Dn.map (·.i))) a w by
  intro a w hs
  have:=H (T++P) [] (fun _=>0) a w (by simp) (by simpa [M5] using hs) (by simp) (by simp)
  simpa [UU] using this
 intro Rm
 generalize hr:Rm.length=r
 induction r generalizing Rm with
 | zero =>
  intro Dn γ a w hperm hs hv hcl
  have:Rm=[]:=List.length_eq_zero_iff.1 hr
  subst this
  simp only [List.append_nil] at hperm
  have e1:UU done (Dn.map (·.i))=done':=by rw [← hd2]; exact Fp (hperm.map _) done
  rw [e1]
  refine h γ a w ⟨hs.defers,hs.size,fun t v ht=>?_,?_,hs.ro⟩
  ·rcases x8 (T++P) m ht with ⟨k,hk,rfl,rfl⟩ | h1
   ·exact hv k (hperm.mem_iff.2 hk)
   ·exact hs.slots t v h1
  ·exact hs.step.perm (((Cr hperm).append_left L).trans (D6 (T++P) L))
 | succ r ih =>
  intro Dn γ a w hperm hs hv hcl
  have JP : ∀ k ∈ Dn++Rm,k ∈ T++P:=fun k hk=>hperm.mem_iff.1 hk
  have qW:((Dn++Rm).map (·.i)).Nodup:=(hperm.map _).nodup_iff.2 hni
  have gW:((Dn++Rm).map (·.d)).Nodup:=(hperm.map _).nodup_iff.2 hnd
  have hget : ∀ j b,(UU done (Dn.map (·.i))).getD j b=if j ∈ Dn.map (·.i) then (if j<done.size then true else b) else done.getD j b:=fun j b=>by
   rw [Array.getD_eq_getD_getElem?,NU]
   split
   ·split
    ·rename_i hlt; simp [Array.getElem?_eq_getElem hlt]
    ·rename_i hlt; simp [Array.getElem?_eq_none (Nat.not_lt.1 hlt)]
   ·rw [Array.getD_eq_getD_getElem?]
  have hdn : ∀ k ∈ Dn,k.i<done.size:=fun k hk=>by
   have:=aaQ k (JP k (List.mem_append_left _ hk))
   by_cases hlt:k.i<done.size
   ·exact hlt
   ·rw [Array.getD_eq_getD_getElem?,Array.getElem?_eq_none (Nat.not_lt.1 hlt)] at this; cases this
  have hrm : ∀ k ∈ Rm,(UU done (Dn.map (·.i))).getD k.i true=false∧(UU done (Dn.map (·.i))).getD k.i false=false:=fun k hk=>by
   have hnot:k.i ∉ Dn.map (·.i):=fun hin=>by
    rw [List.map_append] at qW
    exact (List.nodup_append.1 qW).2.2 _ hin _ (List.mem_map_of_mem hk) rfl
   have hu:=aaQ k (JP k (List.mem_append_right _ hk))
   rw [hget,hget,if_neg hnot,if_neg hnot]
   refine ⟨hu,?_⟩
   by_cases hlt:k.i<done.size
   ·rw [Array.getD_eq_getD_getElem?,Array.getElem?_eq_getElem hlt] at hu ⊢; simpa using hu
   ·rw [Array.getD_eq_getD_getElem?,Array.getElem?_eq_none (Nat.not_lt.1 hlt)]; rfl
  have nZ : ∃ k ∈ Rm,k.i ∈ Region.ready .any ops (UU done (Dn.map (·.i))):=by
   obtain ⟨k0,hk0⟩ : ∃ k0,k0 ∈ Rm:=by cases Rm with | nil=>cases hr | cons x _=>exact ⟨x,List.mem_cons_self⟩
   obtain ⟨k,hkT,aaW,hkr⟩:=Ez (ops:=ops) (X:=UU done (Dn.map (·.i))) htopo (fun j hj=>by
     rw [hget]
     split
     ·rw [Array.getD_eq_getD_getElem?] at hj
      by_cases hlt:j<done.size
      ·rw [if_pos hlt]
      ·rw [Array.getElem?_eq_none (Nat.not_lt.1 hlt)] at hj; cases hj
     ·exact hj) (fun k hk=>by
     rcases List.mem_append.1 (hperm.mem_iff.2 hk) with h2 | h2
     ·rw [hget,hget,if_pos (List.mem_map_of_mem h2),if_pos (List.mem_map_of_mem h2),if_pos (hdn k h2),if_pos (hdn k h2)]
     ·rw [(hrm k h2).1,(hrm k h2).2]) ⟨k0,JP k0 (List.mem_append_right _ hk0),(hrm k0 hk0).2⟩
   rcases List.mem_append.1 (hperm.mem_iff.2 hkT) with h2 | h2
   ·rw [hget,if_pos (List.mem_map_of_mem h2),if_pos (hdn k h2)] at aaW; cases aaW
   ·exact ⟨k,h2,hkr⟩
  by_cases hTr : ∃ k0 ∈ Rm,k0 ∈ T
  case neg =>
   obtain ⟨k,hk,hkr⟩:=nZ
   have hkP:k ∈ P:=by
    rcases List.mem_append.1 (JP k (List.mem_append_right _ hk)) with h1 | h1
    ·exact absurd ⟨k,hk,h1⟩ hTr
    ·exact h1
   obtain ⟨oi,v,ho,hg,hd,hN,hm,hv',he,hmd,hlw⟩:=pl.get k hkP
   obtain ⟨s,t',hst⟩:=List.append_of_mem hk
   subst hst
   have hTd : ∀ x ∈ T,x ∈ Dn:=fun x hx=>by
    rcases List.mem_append.1 (hperm.mem_iff.2 (List.mem_append_left P hx)) with h1 | h1
    ·exact h1
    ·exact absurd ⟨x,h1,hx⟩ hTr
   have xg:((k :: Dn)++(s++t')).Perm (T++P):=by
    refine List.Perm.trans ?_ hperm
    simp only [List.cons_append, ← List.append_assoc]
    exact List.perm_middle.symm
   have hnot : ∀ x ∈ Dn,x.i ≠ k.i∧x.d ≠ k.d:=fun x hx=>by
    rw [List.map_append] at qW gW
    exact ⟨(List.nodup_append.1 qW).2.2 _ (List.mem_map_of_mem hx) _ (List.mem_map_of_mem hk),(List.nodup_append.1 gW).2.2 _ (List.mem_map_of_mem hx) _ (List.mem_map_of_mem hk)⟩
   have oh:Sat C (N8 γ (UX (T++P) k.deps)++m) Lr a w:=by
    refine ⟨hs.defers,hs.size,fun t v ht=>?_,(hs.step.left.pulled hp).left,hs.ro⟩
    rcases Cv ht with ⟨p,hp1,rfl,rfl⟩ | h1
    ·obtain ⟨x,hx,rfl⟩:=EF hp1
     obtain ⟨hxT,hxi⟩:=ND hx
     have h1:=PR (hdeps k (JP k (List.mem_append_right _ hk)) x.i hxi) hkr
     rcases List.mem_append.1 (hperm.mem_iff.2 hxT) with h2 | h2
     ·exact hv x h2
     ·rw [(hrm x h2).2] at h1; cases h1
    ·exact hs.slots t v h1
   have acA:(UU done (Dn.map (·.i))).getD js false=false:=by
    cases hb:(UU done (Dn.map (·.i))).getD js false with
    | false=>rfl
    | true =>
     rw [← hd2,Array.getD_eq_getD_getElem?,NU] at hjs
     rw [Array.getD_eq_getD_getElem?,NU] at hb
     by_cases hin:js ∈ Dn.map (·.i)
     ·have ac1:js ∈ (T++P).map (·.i):=by
       obtain ⟨x,hx,rfl⟩:=List.mem_map.1 hin
       exact List.mem_map_of_mem (JP x (List.mem_append_left _ hx))
      rw [if_pos ac1] at hjs; rw [if_pos hin] at hb; rw [hb] at hjs; cases hjs
     ·rw [if_neg hin] at hb
      split at hjs
      ·cases hj:done[js]? with
       | none=>rw [hj] at hb; cases hb
       | some b=>rw [hj] at hjs; simp at hjs
      ·rw [hb] at hjs; cases hjs
   refine Lb ho hsel hQ (hwf k hkP) (n+r) (UU done (Dn.map (·.i))) a w (fun j oj hoj hji hun hnw=>?_) hkr acA (.inl ⟨(hg γ).wanted (m:=N8 γ (UX (T++P) k.deps)++m) oh.slots,fun w' hw'=>hlw γ a w' (oh.mem hw')⟩) (hs.step.left.pulled hp).left ?_
   ·have hlt:j<ops.size:=(Array.getElem?_eq_some_iff.1 hoj).1
    rcases hfree k hkP j (List.mem_range.2 hlt) with (((h1 | ⟨x,hx,hxj⟩) | h1) | h1) | h1
    ·rw [hget] at hun
     split at hun
     ·rw [if_pos (hsz ▸ hlt)] at hun; cases hun
     ·rw [h1] at hun; cases hun
    ·have hxj:=Nat.eq_of_beq_eq_true hxj
     rw [hget,if_pos (hxj ▸ List.mem_map_of_mem (hTd x hx)),if_pos (hsz ▸ hlt)] at hun; cases hun
    ·exact absurd (Nat.eq_of_beq_eq_true h1) hji
    ·simp only [NB,hoj,Array.any_eq_true',Bool.and_eq_true] at h1
     obtain ⟨e,he1,he2,he3⟩:=h1
     exact absurd (Nat.eq_of_beq_eq_true he3) (hnw e he1 he2)
    ·rw [ho,hoj] at h1; exact h1
   ·rw [LY,hd]
    have hE:M5 (upd γ k.i 0) (k :: Dn)=M5 γ Dn:=by
     simp only [M5,upd_same,he,List.nil_append]
     rw [Eb fun x hx=>(hnot x hx).1]
    have hlen:(s++t').length=r:=by simp at hr ⊢; omega
    refine ih (s++t') hlen (k :: Dn) (upd γ k.i 0) (a.put (some k.d) v) w xg ?_ ?_ ?_
    ·rw [hE]
     have h2:=hs.put (v:=v) hN hs.step
     refine ⟨h2.defers,h2.size,fun t u ht=>h2.slots t u ?_,h2.step,h2.ro⟩
     simp only [lk]
     cases hb:Nat.beq k.d t with
     | true=>have:=Nat.eq_of_beq_eq_true hb; subst this; rw [hm] at ht; cases ht
     | false=>exact ht
    ·intro x hx
     have hlt:k.d<a.tmps.size:=by rw [hs.size]; exact Nat.le_of_ble_eq_true hN
     rcases List.mem_cons.1 hx with rfl | hx
     ·simp [Act.put,hlt,hv']
     ·have hother:k.i ∉ x.deps:=fun hin=>by
       have h1:=hcl x hx k.i (hdeps x (JP x (List.mem_append_left _ hx)) k.i hin)
       rw [(hrm k hk).2] at h1; cases h1
      rw [upd_ne (hnot x hx).1,EP hother]
      have:=hv x hx
      simp [Act.put,Array.getElem?_setIfInBounds_ne (Ne.symm (hnot x hx).2),this]
    ·intro x hx z hz
     have h3:(UU done (Dn.map (·.i))).getD z false=true:=by
      rcases List.mem_cons.1 hx with rfl | hx
      ·exact PR hz hkr
      ·exact hcl x hx z hz
     rw [List.map_cons, ← LY]
     by_cases hkz:k.i=z
     ·subst hkz
      rw [Array.getD_eq_getD_getElem?] at h3 ⊢
      by_cases hlt:k.i<(UU done (Dn.map (·.i))).size
      ·rw [Array.getElem?_setIfInBounds_self_of_lt hlt]; rfl
      ·rw [Array.getElem?_eq_none (Nat.not_lt.1 hlt)] at h3; cases h3
     ·rw [Array.getD_eq_getD_getElem?,Array.getElem?_setIfInBounds_ne hkz, ← Array.getD_eq_getD_getElem?]; exact h3
  case pos =>
  obtain ⟨k0,hk0,acX⟩:=hTr
  have only : ∀ i ∈ Region.ready .any ops (UU done (Dn.map (·.i))), ∃ k ∈ Rm,k.i=i:=fun i hi=>by
   obtain ⟨hun,o,ho,_⟩:=mem_ready.1 hi
   have hlt:i<ops.size:=(Array.getElem?_eq_some_iff.1 ho).1
   rw [hget] at hun
   rcases hoth i (List.mem_range.2 hlt) with (h1 | ⟨k,hk,hki⟩) | h1
   ·split at hun
    ·rw [if_pos (hsz ▸ hlt)] at hun; cases hun
    ·rw [h1] at hun; cases hun
   ·have hki:=Nat.eq_of_beq_eq_true hki
    rcases List.mem_append.1 (hperm.mem_iff.2 hk) with h2 | h2
    ·rw [if_pos (hki ▸ List.mem_map_of_mem h2),if_pos (hsz ▸ hlt)] at hun; cases hun
    ·exact ⟨k,h2,hki⟩
   ·have hT : ∀ (f a x:Nat),(∀ z,NB ops a z=true → (UU done (Dn.map (·.i))).getD z false=true) → AY ops (T++P) f a x=true → (UU done (Dn.map (·.i))).getD x false=true:=by
     intro f
     induction f with
     | zero=>intro a x ha hx; exact ha x hx
     | succ f ihf =>
      intro a x ha hx
      simp only [AY,Bool.or_eq_true,List.any_eq_true,Bool.and_eq_true] at hx
      rcases hx with hx | ⟨k,hk,TK,KO⟩
      ·exact ha x hx
      ·have hd:=ha _ TK
       rcases List.mem_append.1 (hperm.mem_iff.2 hk) with h2 | h2
       ·exact ihf k.i x (hcl k h2) KO
       ·rw [(hrm k h2).2] at hd; cases hd
    have:=hT 6 i k0.i (fun z hz=>PR hz hi) (h1 k0 acX)
    rw [(hrm k0 hk0).2] at this; cases this
  refine ⟨fun h0=>?_,fun i hi=>?_⟩
  ·obtain ⟨k,_,hkr⟩:=nZ
   rw [h0] at hkr; cases hkr
  ·obtain ⟨k,hk,hki⟩:=only i hi
   subst hki
   obtain ⟨oi,ho,hg,hd,hN,hm,adw⟩:=laws k (JP k (List.mem_append_right _ hk))
   have hnot : ∀ x ∈ Dn,x.i ≠ k.i∧x.d ≠ k.d:=fun x hx=>by
    rw [List.map_append] at qW gW
    exact ⟨(List.nodup_append.1 qW).2.2 _ (List.mem_map_of_mem hx) _ (List.mem_map_of_mem hk),(List.nodup_append.1 gW).2.2 _ (List.mem_map_of_mem hx) _ (List.mem_map_of_mem hk)⟩
   have kD : ∀ j,NB ops k.i j=true → ∀ x ∈ T++P,x.i=j → x ∈ Dn:=fun j hw x hx hxj=>by
    have h1:=PR hw hi
    rcases List.mem_append.1 (hperm.mem_iff.2 hx) with h2 | h2
    ·exact h2
    ·rw [← hxj,(hrm x h2).2] at h1; cases h1
   obtain ⟨s,t',hst⟩:=List.append_of_mem hk
   subst hst
   have xg:((k :: Dn)++(s++t')).Perm (T++P):=by
    refine List.Perm.trans ?_ hperm
    simp only [List.cons_append, ← List.append_assoc]
    exact List.perm_middle.symm
   obtain ⟨R',hR'⟩ : ∃ R',(L++M5 γ Dn).Perm (Pv (T++P) γ k.mdep++(L++R')):=by
    cases hmd:k.mdep with
    | none=>exact ⟨M5 γ Dn,by simp only [Pv,List.nil_append]; exact List.Perm.refl _⟩
    | some j =>
     cases hf:QQ (T++P) j with
     | none=>exact ⟨M5 γ Dn,by simp only [Pv,hf,List.nil_append]; exact List.Perm.refl _⟩
     | some x =>
      have hw:NB ops k.i j=true:=by
       have:=hmdep k (JP k (List.mem_append_right _ hk))
       rw [hmd] at this; exact this
      have hx:=kD j hw x (Qa hf).1 (Qa hf).2
      obtain ⟨s2,t2,rfl⟩:=List.append_of_mem hx
      refine ⟨M5 γ (s2++t2),?_⟩
      simp only [Pv,hf]
      have h1:(M5 γ (s2++x :: t2)).Perm (x.es (γ x.i)++M5 γ (s2++t2)):=Cr (List.perm_middle (a:=x))
      refine (h1.append_left L).trans ?_
      simp only [← List.append_assoc]
      exact List.Perm.append_right _ List.perm_append_comm
   have oh:Sat C (N8 γ (UX (T++P) k.deps)++m) (Pv (T++P) γ k.mdep++(L++R')) a w:=by
    refine ⟨hs.defers,hs.size,fun t v ht=>?_,hs.step.perm hR',hs.ro⟩
    rcases Cv ht with ⟨p,hp1,rfl,rfl⟩ | h1
    ·obtain ⟨x,hx,rfl⟩:=EF hp1
     obtain ⟨hxT,hxi⟩:=ND hx
     exact hv x (kD x.i (hdeps k (JP k (List.mem_append_right _ hk)) x.i hxi) x hxT rfl)
    ·exact hs.slots t v h1
   unfold wpOp
   simp only [ho]
   rw [if_pos ((hg γ).wanted oh.slots)]
   rw [LY]
   refine .inl (adw γ R' a w oh Q _ fun g w' hs'=>?_)
   have aa6:(k.es g++(Pv (T++P) γ k.mdep++(L++R'))).Perm (L++(k.es g++M5 γ Dn)):=by
    refine (hR'.symm.append_left (k.es g)).trans ?_
    simp only [← List.append_assoc]
    exact List.Perm.append_right _ List.perm_append_comm
   have hstep:=hs'.perm aa6
   refine ⟨fun _=>(hstep.left.pulled hp).left,?_⟩
   have hE:M5 (upd γ k.i g) (k :: Dn)=k.es g++M5 γ Dn:=by
    simp only [M5,upd_same]
    rw [Eb fun x hx=>(hnot x hx).1]
   have hlen:(s++t').length=r:=by simp at hr ⊢; omega
   have:=ih (s++t') hlen (k :: Dn) (upd γ k.i g) (a.put oi.dst (k.val (k.deps.map γ) g)) w' xg ?_ ?_ ?_
   ·exact this
   ·rw [hE,hd]
    have h2:=hs.put (v:=k.val (k.deps.map γ) g) hN hstep
    refine ⟨h2.defers,h2.size,fun t v ht=>h2.slots t v ?_,h2.step,h2.ro⟩
    simp only [lk]
    cases hb:Nat.beq k.d t with
    | true=>have:=Nat.eq_of_beq_eq_true hb; subst this; rw [hm] at ht; cases ht
    | false=>exact ht
   ·intro x hx
    have hlt:k.d<a.tmps.size:=by rw [hs.size]; exact Nat.le_of_ble_eq_true hN
    rw [hd]
    rcases List.mem_cons.1 hx with rfl | hx
    ·have hself:x.i ∉ x.deps:=fun hin=>by
      have h1:=PR (hdeps x (JP x (List.mem_append_right _ hk)) x.i hin) hi
      rw [(hrm x hk).2] at h1; cases h1
     rw [EP hself]
     simp [Act.put,hlt,upd_same]
    ·have hother:k.i ∉ x.deps:=fun hin=>by
      have h1:=hcl x hx k.i (hdeps x (JP x (List.mem_append_left _ hx)) k.i hin)
      rw [(hrm k hk).2] at h1; cases h1
     rw [upd_ne (hnot x hx).1,EP hother]
     have:=hv x hx
     simp [Act.put,Array.getElem?_setIfInBounds_ne (Ne.symm (hnot x hx).2),this]
   ·intro x hx z hz
    have h3:(UU done (Dn.map (·.i))).getD z false=true:=by
     rcases List.mem_cons.1 hx with rfl | hx
     ·exact PR hz hi
     ·exact hcl x hx z hz
    rw [List.map_cons, ← LY]
    by_cases hkz:k.i=z
    ·subst hkz
     rw [Array.getD_eq_getD_getElem?] at h3 ⊢
     by_cases hlt:k.i<(UU done (Dn.map (·.i))).size
     ·rw [Array.getElem?_setIfInBounds_self_of_lt hlt]; rfl
     ·rw [Array.getElem?_eq_none (Nat.not_lt.1 hlt)] at h3; cases h3
    ·rw [Array.getD_eq_getD_getElem?,Array.getElem?_setIfInBounds_ne hkz, ← Array.getD_eq_getD_getElem?]; exact h3
theorem yY {i d j dj:Nat} {want:Bool} {oi oj:Oper} {v:Value} {is:List Nat} (hi:ops[i]? = some oi) (hg:oi.guard=some (j,want)) (hj:ops[j]? = some oj) (hdj:oj.dst=some dj) (hb:lk m dj=some (.bool want))
  (hd:oi.dst=some d) (hN:Nat.blt d C.N=true) (hsel:Region.noSelect ops=true) (hQ:QP Q)
  (ht:IC ops js i done done'=true) (hp:pull is L=some (Lr,R)) (hv:Ou C oi m Lr v) (h:TA C ops Q js Lr n done' ((d,v) :: m) L):TA C ops Q js Lr (n+1) done m L:=fun a w hs=>by
 simp only [IC,Bool.and_eq_true,Bool.not_eq_true',beq_iff_eq,Array.toList_inj] at ht
 obtain ⟨h1,h2,h3,h4,h5⟩:=ht
 have iC:Step C.w0 C.L0 w Lr:=(hs.step.pulled hp).left
 have hw:Region.wanted oi (yielded ops a.tmps)=true:=by
  have h1:=hs.slots dj _ hb
  simp [Region.wanted,hg,yielded,hj,hdj,h1]
 refine Lb hi hsel hQ h4 n done a w (Region.free_spec hi h1) (by simpa using h2) h3 (.inl ⟨hw,fun w' hw'=>hv a w' (hs.mem hw')⟩) iC ?_
 rw [h5]
 refine h _ _ ?_
 rw [hd]
 exact hs.put hN hs.step
theorem lv {i d j dj:Nat} {want b:Bool} {oi oj:Oper} {is:List Nat} (hi:ops[i]? = some oi) (hg:oi.guard=some (j,want)) (hj:ops[j]? = some oj) (hdj:oj.dst=some dj) (hb:lk m dj=some (.bool b)) (hne:(b == want)=false)
  (hd:oi.dst=some d) (hN:Nat.blt d C.N=true) (hsel:Region.noSelect ops=true) (hQ:QP Q)
  (ht:IC ops js i done done'=true) (hp:pull is L=some (Lr,R)) (h:TA C ops Q js Lr n done' ((d,undef) :: m) L):TA C ops Q js Lr (n+1) done m L:=fun a w hs=>by
 simp only [IC,Bool.and_eq_true,Bool.not_eq_true',beq_iff_eq,Array.toList_inj] at ht
 obtain ⟨h1,h2,h3,h4,h5⟩:=ht
 have iC:Step C.w0 C.L0 w Lr:=(hs.step.pulled hp).left
 have hw:Region.wanted oi (yielded ops a.tmps)=false:=by
  have h1:=hs.slots dj _ hb
  simp only [Region.wanted,hg,yielded,hj,hdj,Option.bind_some,h1]
  cases b <;> cases want <;> simp_all
 refine Lb hi hsel hQ h4 n done a w (Region.free_spec hi h1) (by simpa using h2) h3 (.inr ⟨hw,rfl⟩) iC ?_
 rw [h5]
 refine h _ _ ?_
 rw [hd]
 exact hs.put hN hs.step
theorem UI {c:Code} (b:Bool) (ht:b=true → TC C c Q m L) (hf:b=false → TC C c Q m L):TC C c Q m L:=by
 cases b
 ·exact hf rfl
 ·exact ht rfl
end
end Go.Kx
end

section
namespace Go.Kx
open Go
open Vector (replicate)
abbrev Vx (b n:Nat):=Vector (BitVec b) n
abbrev aG (l:List (Nat × List Value)):Value:=Value.agg (flat l).toArray
def dn (n k:Nat):Array Bool:=((List.range n).map fun i=>k.testBit i).toArray
abbrev ED (i d:Nat) (v:Value) (deps:List Nat):It:=⟨i,d,fun _ _=>v,fun _=>[],deps,none⟩
section
variable {C:Ctx} {Q:Exit → Act → World → Prop} {m m':Sl} {L L' Lr R:Mem} {ops:Array Oper} {rest:List Oper} {js n:Nat} {done done':Array Bool} {dst:Option Tmp} {ty:TypeId} {pos:String} {af:Array Edge} {gd:Option (Nat × Bool)}
theorem ZV {o:Oper} {d:Nat} {v:Value} (ho:Ou C o m L v) (h:TL C ops Q rest ((d,v) :: m) L) (hg:o.guard=none:=by rfl) (hd:o.dst=some d:=by rfl) (hN:Nat.blt d C.N=true:=by rfl):TL C ops Q (o :: rest) m L:=qE hg hd hN ho h
theorem YE {o:Oper} {d:Nat} {Γ:Type} {val:Γ → Value} {mem:Γ → Mem} (ho:OP C o m L val mem) (h : ∀ g,TL C ops Q rest ((d,val g) :: m) (mem g)) (hg:o.guard=none:=by rfl) (hd:o.dst=some d:=by rfl) (hN:Nat.blt d C.N=true:=by rfl):TL C ops Q (o :: rest) m L:=vO hg hd hN ho h
theorem VM {o:Oper} {Γ:Type} {val:Γ → Value} {mem:Γ → Mem} (ho:OP C o m L val mem) (h : ∀ g,TL C ops Q rest m (mem g)) (hg:o.guard=none:=by rfl) (hd:o.dst=none:=by rfl):TL C ops Q (o :: rest) m L:=adv hg hd ho h
theorem MW.Dv (L:Mem):pull [] L=some (([]:Mem),L):=rfl
theorem Y4 {xs:List Operand} {ats:Array TypeId} {f:FuncId} {vs:List Value} {Ro:Mem} {Γ:Type} {val:Γ → Value} {mem:Γ → Mem}
  (hf:Does C.P f vs [] Ro val mem) (hcall : ∀ args w,(callFunc f args).run C.P w = .ok (.enter f args) w) (hro:MW C [] L Ro) (hxs:evs m xs=some vs:=by rfl) :
  OP C ⟨dst, .call ⟨.value (.func f),xs.toArray,ats⟩,ty,pos,af,gd⟩ m L val (fun g=>mem g++L):=Wq hxs hcall hf (MW.Dv L) hro
theorem MW.z {Qf L:Mem}:MW C Qf L []:=trivial
theorem Qg {xs:List Operand} {ats:Array TypeId} {f:FuncId} {vs:List Value} {Ro:Mem} {v:Value}
  (hf:Does C.P f vs [] Ro (Γ:=Unit) (fun _=>v) (fun _=>[])) (hcall : ∀ args w,(callFunc f args).run C.P w = .ok (.enter f args) w) (hro:MW C [] L Ro) (hxs:evs m xs=some vs:=by rfl) :
  OP C ⟨dst, .call ⟨.value (.func f),xs.toArray,ats⟩,ty,pos,af,gd⟩ m L (Γ:=Nat) (fun _=>v) (fun _=>L):=lU (Wq hxs hcall hf (MW.Dv L) hro)
theorem Src.o (j:Nat) {e:Ent} (h:L[j]? = some e:=by rfl):Src C L e:=Src.own h
theorem Src.r (j:Nat) {e:Ent} (h:C.Ro[j]? = some e:=by rfl):Src C L e:=Src.ro h
theorem QH.o {Qf:Mem} (j:Nat) {e:Ent} (h:R[j]? = some e:=by rfl):QH C Qf R e:=QH.own h
theorem QH.r {Qf:Mem} (j:Nat) {e:Ent} (h:C.Ro[j]? = some e:=by rfl):QH C Qf R e:=QH.ro h
theorem Wi {x:Operand} {A:Y6} {cs:List Value} {t:TypeId} {inf:TypeInfo} {n:Nat} (hsrc:Src C L ⟨A,cs⟩) (hty : ∀ w,(isAgg t).run C.P w = .ok true w) (hi:C.P.info? t=some inf)
  (hx:ev m x=some (ptr A 0):=by rfl) (hA:A ≠ none:=by simp) (hn:inf.size=n:=by rfl) (hlen:cs.length=n:=by exact Wl _):Ou C ⟨dst, .load t x,ty,pos,af,gd⟩ m L (.agg cs.toArray):=FZ hx hA hsrc hty hi hn hlen
theorem K5 {x:Operand} {i:Nat} {vs:List Value} {v:Value} (hx:ev m x=some (.tuple vs.toArray):=by rfl) (hv:vs[i]? = some v:=by rfl):Ou C ⟨dst, .extract x i,ty,pos,af,gd⟩ m L v:=Cm hx hv
theorem Vd {x y:Operand} {A:Y6} {n:Nat} {cs vs:List Value} {t:TypeId} {inf:TypeInfo} (j:Nat) (hi:C.P.info? t=some inf) (hx:ev m x=some (ptr A 0):=by rfl) (hy:ev m y=some (.agg vs.toArray):=by rfl)
  (hn:inf.size=n:=by rfl) (hl:vs.length=n:=by exact Wl _) (hv:S_ vs:=by exact S_.map (fun _=>rfl) _) (hj:L[j]? = some ⟨A,cs⟩:=by rfl) (hc:cs.length=n:=by exact Wl _) :
  OP C ⟨dst, .store t x y,ty,pos,af,gd⟩ m L (Γ:=Unit) (fun _=>undef) (fun _=>L.set j ⟨A,vs⟩) :=
 vL hx hy hi hn hl hv hj (Nat.le_of_eq (by rw [Nat.zero_add,hl,hc])) (DF (by rw [hl,hc]))
theorem R4 {e:TypeId} {inf:TypeInfo} (n:Nat) (hi:C.P.info? e=some inf) (hz:Wo inf=some (flat [(n,e64 (replicate n 0#64).toList)])) :
  OP C ⟨dst, .alloc e,ty,pos,af,gd⟩ m L (Γ:=Nat) (fun b=>ptr (some (b,0)) 0) (fun b=>ents b 0 [(n,e64 (replicate n 0#64).toList)]++L):=Wh _ hi hz ⟨Wl (f:=v64) _,trivial⟩
theorem Q7 {e:TypeId} {inf:TypeInfo} (n:Nat) (hi:C.P.info? e=some inf) (hz:Wo inf=some (flat [(n,e32 (replicate n 0#32).toList)])) :
  OP C ⟨dst, .alloc e,ty,pos,af,gd⟩ m L (Γ:=Nat) (fun b=>ptr (some (b,0)) 0) (fun b=>ents b 0 [(n,e32 (replicate n 0#32).toList)]++L):=Wh _ hi hz ⟨Wl (f:=v32) _,trivial⟩
theorem bD {x y:Operand} {b o n:Nat} {R:Mem} {t:TypeId} {inf:TypeInfo} (is:List Nat) (ps ns:Parts) (hp:pull is L=some (ents b o ps,R)) (hi:C.P.info? t=some inf) (hps:R9 ps) (hns:R9 ns) (bR:Hm ns)
  (hx:ev m x=some (ptr (some (b,o)) 0):=by rfl) (hy:ev m y=some (.agg (flat ns).toArray):=by rfl) (hn:inf.size=n:=by rfl) (AO:(ps.map (·.1)).sum=n:=by rfl) (Cw:(ns.map (·.1)).sum=n:=by rfl) :
  OP C ⟨dst, .store t x y,ty,pos,af,gd⟩ m L (Γ:=Unit) (fun _=>undef) (fun _=>ents b o ns++R):=Ag ps ns hx hy hp hi hn hps hns (Mt hps AO) (Mt hns Cw) (BA bR)
abbrev aaS (i d n:Nat):It:=⟨i,d,fun _ b=>ptr (some (b,0)) 0,fun b=>[⟨some (b,0),e64 (replicate n 0#64).toList⟩],[],none⟩
abbrev abt (i d n:Nat):It:=⟨i,d,fun _ b=>ptr (some (b,0)) 0,fun b=>[⟨some (b,0),e32 (replicate n 0#32).toList⟩],[],none⟩
theorem P8.v {T:List It} {i d:Nat} {v:Value} {deps:List Nat} {r:List It} {oi:Oper} (ho:ops[i]? = some oi) (hl : ∀ {γ:Nat → Nat} {R:Mem},Ou C oi (N8 γ (UX T deps)++m) (L++R) v)
  (hr:P8 C ops m L T r) (hg:oi.guard=none:=by rfl) (hd:oi.dst=some d:=by rfl) (hN:Nat.blt d C.N=true:=by rfl) (hm:(lk m d).isNone=true:=by rfl):P8 C ops m L T (ED i d v deps :: r) :=
 .cons ho (fun _ => .plain hg) hd hN hm (fun _ _=>BR hl) hr
theorem P8.e {T:List It} {i d:Nat} {v:Value} {deps:List Nat} {r:List It} {oi:Oper} (ho:ops[i]? = some oi) (hl : ∀ {γ:Nat → Nat} {R:Mem},OP C oi (N8 γ (UX T deps)++m) (L++R) (Γ:=Nat) (fun _=>v) (fun _=>L++R))
  (hr:P8 C ops m L T r) (hg:oi.guard=none:=by rfl) (hd:oi.dst=some d:=by rfl) (hN:Nat.blt d C.N=true:=by rfl) (hm:(lk m d).isNone=true:=by rfl):P8 C ops m L T (ED i d v deps :: r) :=
 .cons ho (fun _ => .plain hg) hd hN hm (fun _ _=>hl) hr
theorem P8.c {T:List It} {k:It} {r:List It} {oi:Oper} (ho:ops[k.i]? = some oi)
  (hl : ∀ (γ:Nat → Nat) (R:Mem),OP C oi (N8 γ (UX T k.deps)++m) (Pv T γ k.mdep++(L++R)) (k.val (k.deps.map γ)) (fun b=>k.es b++(Pv T γ k.mdep++(L++R))))
  (hr:P8 C ops m L T r) (hg:oi.guard=none:=by rfl) (hd:oi.dst=some k.d:=by rfl) (hN:Nat.blt k.d C.N=true:=by rfl) (hm:(lk m k.d).isNone=true:=by rfl):P8 C ops m L T (k :: r) :=
 .cons ho (fun _ => .plain hg) hd hN hm hl hr
theorem LF.c {T:List It} {k:It} {r:List It} {oi:Oper} {v:Value} (ho:ops[k.i]? = some oi) (hl : ∀ (γ:Nat → Nat),Ou C oi (N8 γ (UX T k.deps)++m) Lr v)
  (hr:LF C ops m Lr T r) (hg:oi.guard=none:=by rfl) (hd:oi.dst=some k.d:=by rfl) (hN:Nat.blt k.d C.N=true:=by rfl) (hm:(lk m k.d).isNone=true:=by rfl)
  (hv:k.val=fun _ _=>v:=by rfl) (he:k.es=fun _=>[]:=by rfl) (hmd:k.mdep=none:=by rfl):LF C ops m Lr T (k :: r) :=
 .cons ho (fun _ => .plain hg) hd hN hm hv he hmd hl hr
theorem ny (m':Sl) (L':Mem) (hm:E_ m' m) (hL:L=L') (h:TA C ops Q js Lr n done m' L'):TA C ops Q js Lr n done m L:=fun a w hs=>h a w (hL ▸ hs.sub hm)
end
end Go.Kx
end

section
namespace Go.Kx
open Go
theorem sj {α:Type} {a b:α} (h:some a=some b):a=b:=Option.some.inj h
theorem wV (B:Nat) {n:Int} (hB:Nat.ble B 16=true) (h:0≤n∧n≤17592186044416):B * n.toNat≤281474976710656:=by
 have h1:=Nat.le_of_ble_eq_true hB
 obtain ⟨k,rfl⟩:=Int.eq_ofNat_of_zero_le h.1
 have h2:k≤17592186044416:=by have:=h.2; omega
 have h3:B * k≤16 * 17592186044416:=Nat.mul_le_mul h1 h2
 simpa using h3
theorem ww {n:Int} (h:0≤n∧n≤17592186044416):n≤4611686018427387904:=Int.le_trans h.2 (by decide)
section
variable {C:Ctx} {Q:Exit → Act → World → Prop} {m m':Sl} {L L' Lr R:Mem} {ops:Array Oper} {rest:List Oper} {dst:Option Tmp} {ty:TypeId} {pos:String} {af:Array Edge} {gd:Option (Nat × Bool)} {c1 c2:Code}
theorem Zc {o:Oper} {d j:Nat} {want:Bool} {oj:Oper} {dj:Nat} {v:Value} (ho:Ou C o m L v) (h:TL C ops Q rest ((d,v) :: m) L) (hg:o.guard=some (j,want):=by rfl) (hd:o.dst=some d:=by rfl) (hN:Nat.blt d C.N=true:=by rfl)
  (hj:ops[j]? = some oj:=by rfl) (hdj:oj.dst=some dj:=by rfl) (hb:lk m dj=some (.bool want):=by rfl):TL C ops Q (o :: rest) m L:=tX hg hd hN hj hdj hb ho h
theorem JQ {o:Oper} {d j:Nat} {want:Bool} {oj:Oper} {dj:Nat} {Γ:Type} {val:Γ → Value} {mem:Γ → Mem} (ho:OP C o m L val mem) (h : ∀ g,TL C ops Q rest ((d,val g) :: m) (mem g)) (hg:o.guard=some (j,want):=by rfl) (hd:o.dst=some d:=by rfl) (hN:Nat.blt d C.N=true:=by rfl)
  (hj:ops[j]? = some oj:=by rfl) (hdj:oj.dst=some dj:=by rfl) (hb:lk m dj=some (.bool want):=by rfl):TL C ops Q (o :: rest) m L:=mJ hg hd hN hj hdj hb ho h
theorem YP {x:Operand} {v:Value} {d:Nat} (h:TL C ops Q rest ((d,v) :: m) L) (hx:ev m x=some v:=by rfl) (hg:gd=none:=by rfl) (hd:dst=some d:=by rfl) (hN:Nat.blt d C.N=true:=by rfl):TL C ops Q (⟨dst, .move x,ty,pos,af,gd⟩ :: rest) m L:=qE hg hd hN (ZO hx) h
theorem Y2 {x:Operand} {v:Value} {d:Nat} (h:TL C ops Q rest ((d,v) :: m) L) (hx:ev m x=some v:=by rfl) (hg:gd=none:=by rfl) (hd:dst=some d:=by rfl) (hN:Nat.blt d C.N=true:=by rfl):TL C ops Q (⟨dst, .assign x,ty,pos,af,gd⟩ :: rest) m L:=qE hg hd hN (XL hx) h
theorem FE {c x y:Operand} {v:Value} {d:Nat} (h:TL C ops Q rest ((d,v) :: m) L) (hc:ev m c=some (.bool false):=by rfl) (hx:ev m y=some v:=by rfl) (hg:gd=none:=by rfl) (hd:dst=some d:=by rfl) (hN:Nat.blt d C.N=true:=by rfl):TL C ops Q (⟨dst, .pick c x y,ty,pos,af,gd⟩ :: rest) m L:=qE hg hd hN (zR (b:=false) hc hx) h
theorem ak {c x y:Operand} {v:Value} {d:Nat} (h:TL C ops Q rest ((d,v) :: m) L) (hc:ev m c=some (.bool true):=by rfl) (hx:ev m x=some v:=by rfl) (hg:gd=none:=by rfl) (hd:dst=some d:=by rfl) (hN:Nat.blt d C.N=true:=by rfl):TL C ops Q (⟨dst, .pick c x y,ty,pos,af,gd⟩ :: rest) m L:=qE hg hd hN (zR (b:=true) hc hx) h
theorem SF {fn:Func} {rs:List ResultVar} {vs:List Value} {val:Unit → Value} {w:World} {Qf:Mem} (hr:fn.results=rs.toArray) (hv:GR C m L rs vs) (hw:C.w0=w:=by rfl) (hL:C.L0=Qf:=by rfl) (hval:JE vs=val ():=by rfl) :
  TX C (bodyPost C.P fn fun e w' => ∃ g:Unit,e = .returned (val g)∧Step w Qf w' []) .ret m L :=
 wD hr hv fun w' hs'=>⟨(),by rw [hval],by subst hw hL; exact Step.left (Step.pulled (is:=[]) (A:=[]) hs' rfl)⟩
theorem Wj {fn:Func} {t:Nat} {v:Value} {val:Unit → Value} {w:World} {Qf:Mem} (hr:fn.results=[.tmp t].toArray:=by rfl) (hv:lk m t=some v:=by rfl) (hw:C.w0=w:=by rfl) (hL:C.L0=Qf:=by rfl) (hval:v=val ():=by rfl) :
  TX C (bodyPost C.P fn fun e w' => ∃ g:Unit,e = .returned (val g)∧Step w Qf w' []) .ret m L:=SF (vs:=[v]) hr ⟨hv,trivial⟩ hw hL hval
theorem IA {fn:Func} {t t2:Nat} {v v2:Value} {val:Unit → Value} {w:World} {Qf:Mem} (hr:fn.results=[.tmp t, .tmp t2].toArray:=by rfl) (hv:lk m t=some v:=by rfl) (ou:lk m t2=some v2:=by rfl) (hw:C.w0=w:=by rfl) (hL:C.L0=Qf:=by rfl) (hval:JE [v,v2]=val ():=by rfl) :
  TX C (bodyPost C.P fn fun e w' => ∃ g:Unit,e = .returned (val g)∧Step w Qf w' []) .ret m L:=SF (vs:=[v,v2]) hr ⟨hv,ou,trivial⟩ hw hL hval
theorem UK {x:Operand} {p:Prop} [Decidable p] {α:Type} {a1 a2 r:α} (H:(if p then a1 else a2)=r) (ht:decide p=true → a1=r → TC C c1 Q m L) (hf:decide p=false → a2=r → TC C c2 Q m L) (hx:ev m x=some (vb (decide p)):=by rfl):TC C (.cond x c1 c2) Q m L :=
 tK hx (fun hc=>ht hc (U8 (of_decide_eq_true hc) H)) fun hc=>hf hc (U7 (of_decide_eq_false hc) H)
theorem Sn {x:Operand} {b:Bool} {α:Type} {a1 a2 r:α} (H:(if b=true then a1 else a2)=r) (ht:b=true → a1=r → TC C c1 Q m L) (hf:b=false → a2=r → TC C c2 Q m L) (hx:ev m x=some (vb b):=by rfl):TC C (.cond x c1 c2) Q m L :=
 tK hx (fun hc=>ht hc (U8 hc H)) fun hc=>hf hc (U7 (Bool.eq_false_iff.1 hc) H)
theorem Td {d:Nat} {p:Prop} [Decidable p] {α:Type} {a1 a2 r:α} (H:(if p then a1 else a2)=r) (ht:decide p=true → a1=r → TL C ops Q rest ((d, .bool true) :: m) L) (hf:decide p=false → a2=r → TL C ops Q rest ((d, .bool false) :: m) L) (hd:lk m d=some (vb (decide p)):=by rfl):TL C ops Q rest m L :=
 uC hd (fun hc=>ht hc (U8 (of_decide_eq_true hc) H)) fun hc=>hf hc (U7 (of_decide_eq_false hc) H)
theorem Mg {d:Nat} {b:Bool} {α:Type} {a1 a2 r:α} (H:(if b=true then a1 else a2)=r) (ht:b=true → a1=r → TL C ops Q rest ((d, .bool true) :: m) L) (hf:b=false → a2=r → TL C ops Q rest ((d, .bool false) :: m) L) (hd:lk m d=some (vb b):=by rfl):TL C ops Q rest m L :=
 uC hd (fun hc=>ht hc (U8 hc H)) fun hc=>hf hc (U7 (Bool.eq_false_iff.1 hc) H)
theorem WW {e:Exit} (is:List Nat) (h:TX C Q e m' L') (hp:pull is L=some (L',R):=by rfl) (hm:E_ m' m:=by repeat (first | exact trivial | refine ⟨rfl,?_⟩)):TX C Q e m L:=TX.pull hp (TX.sub hm h)
theorem Ri {K:Act → World → Prop} (is:List Nat) (h : ∀ a w,Sat C m' L' a w → K a w) (hp:pull is L=some (L',R):=by rfl) (hm:E_ m' m:=by repeat (first | exact trivial | refine ⟨rfl,?_⟩)):TX C (Exit.then K Q) .normal m L :=
 TX.pull hp (TX.sub hm fun a w hs=>h a w hs)
theorem WN {v v':Value} (d:Nat) (hv:v=v') (h:TL C ops Q rest ((d,v') :: m) L) (hd:lk m d=some v:=by rfl):TL C ops Q rest m L:=mW hd hv h
end
end Go.Kx
end
