/-
  Part 3 of the proof of GcmForms.
-/
import Derived.Test.YtdhnelpiiobekaaGcmFormsA1
import Derived.Test.YtdhnelpiiobekaaGcmFormsA2
set_option linter.unusedVariables false
set_option linter.unusedSimpArgs false
section
namespace Go.Kx
open Go
abbrev Vx (b n:Nat):=Vector (BitVec b) n
abbrev aG (l:List (Nat × List Value)):Value:=Value.agg (flat l).toArray
def dn (n k:Nat):Array Bool:=((List.range n).map fun i=>k.testBit i).toArray
abbrev itV (i d:Nat) (v:Value) (deps:List Nat):It:=⟨i,d,fun _=>v,fun _=>[],deps,none⟩
section
variable {C:Ctx} {Q:Exit → Act → World → Prop} {m m':Sl} {L L' Lr R:Mem} {ops:Array Oper} {rest:List Oper} {js n:Nat} {done done':Array Bool} {dst:Option Tmp} {ty:TypeId} {pos:String} {af:Array Edge} {gd:Option (Nat × Bool)}
theorem TLv {o:Oper} {d:Nat} {v:Value} (ho:OpV C o m L v) (h:TL C ops Q rest ((d,v) :: m) L) (hg:o.guard=none:=by rfl) (hd:o.dst=some d:=by rfl) (hN:Nat.blt d C.N=true:=by rfl):TL C ops Q (o :: rest) m L:=TL_v hg hd hN ho h
theorem TLe {o:Oper} {d:Nat} {Γ:Type} {val:Γ → Value} {mem:Γ → Mem} (ho:OpE C o m L val mem) (h : ∀ g,TL C ops Q rest ((d,val g) :: m) (mem g)) (hg:o.guard=none:=by rfl) (hd:o.dst=some d:=by rfl) (hN:Nat.blt d C.N=true:=by rfl):TL C ops Q (o :: rest) m L:=TL_e hg hd hN ho h
theorem TLn {o:Oper} {Γ:Type} {val:Γ → Value} {mem:Γ → Mem} (ho:OpE C o m L val mem) (h : ∀ g,TL C ops Q rest m (mem g)) (hg:o.guard=none:=by rfl) (hd:o.dst=none:=by rfl):TL C ops Q (o :: rest) m L:=TL_n hg hd ho h
theorem SrcDs.nil_pull (L:Mem):pull [] L=some (([]:Mem),L):=rfl
theorem E_c0 {xs:List Operand} {ats:Array TypeId} {f:FuncId} {vs:List Value} {Ro:Mem} {Γ:Type} {val:Γ → Value} {mem:Γ → Mem}
  (hf:Does C.P f vs [] Ro val mem) (hcall : ∀ args w,(callFunc f args).run C.P w = .ok (.enter f args) w) (hro:SrcDs C [] L Ro) (hxs:evs m xs=some vs:=by rfl) :
  OpE C ⟨dst, .call ⟨.value (.func f),xs.toArray,ats⟩,ty,pos,af,gd⟩ m L val (fun g=>mem g++L):=E_call hxs hcall hf (SrcDs.nil_pull L) hro
theorem SrcDs.z {Lin L:Mem}:SrcDs C Lin L []:=trivial
theorem E_cu {xs:List Operand} {ats:Array TypeId} {f:FuncId} {vs:List Value} {Ro:Mem} {v:Value}
  (hf:Does C.P f vs [] Ro (Γ:=Unit) (fun _=>v) (fun _=>[])) (hcall : ∀ args w,(callFunc f args).run C.P w = .ok (.enter f args) w) (hro:SrcDs C [] L Ro) (hxs:evs m xs=some vs:=by rfl) :
  OpE C ⟨dst, .call ⟨.value (.func f),xs.toArray,ats⟩,ty,pos,af,gd⟩ m L (Γ:=Nat) (fun _=>v) (fun _=>L):=OpE_unit (E_call hxs hcall hf (SrcDs.nil_pull L) hro)
theorem Src.o (j:Nat) {e:Ent} (h:L[j]? = some e:=by rfl):Src C L e:=Src.own h
theorem Src.r (j:Nat) {e:Ent} (h:C.Ro[j]? = some e:=by rfl):Src C L e:=Src.ro h
theorem SrcD.o {Lin:Mem} (j:Nat) {e:Ent} (h:R[j]? = some e:=by rfl):SrcD C Lin R e:=SrcD.own h
theorem SrcD.r {Lin:Mem} (j:Nat) {e:Ent} (h:C.Ro[j]? = some e:=by rfl):SrcD C Lin R e:=SrcD.ro h
theorem V_lag {x:Operand} {A:Adr} {cs:List Value} {t:TypeId} {inf:TypeInfo} {n:Nat} (hsrc:Src C L ⟨A,cs⟩) (hty : ∀ w,(isAgg t).run C.P w = .ok true w) (hi:C.P.info? t=some inf)
  (hx:ev m x=some (ptr A 0):=by rfl) (hA:A ≠ none:=by simp) (hn:inf.size=n:=by rfl) (hlen:cs.length=n:=by exact lenV _):OpV C ⟨dst, .load t x,ty,pos,af,gd⟩ m L (.agg cs.toArray):=V_loadAgg hx hA hsrc hty hi hn hlen
theorem V_fe {x:Operand} {A:Adr} {o k f:Nat} {t:TypeId} {fs:Array Field} {fd:Field} {inf:TypeInfo} {v:Value} {ft:TypeId} (hu:C.P.underlying t=some (.struct fs)) (hi:C.P.info? ft=some inf)
  (hx:ev m x=some (ptr A o):=by rfl) (hf:fs[f]? = some fd:=by rfl) (hft:fd.type=ft:=by rfl) (hk:fd.offset=k:=by rfl) (h0:Nat.beq inf.size 0=false:=by rfl) (hv:ptr A (o+k)=v:=by rfl) :
  OpV C ⟨dst, .fieldAddr t x f,ty,pos,af,gd⟩ m L v:=V_fieldE hx hu hf hk (hft ▸ hi) h0 hv
theorem V_ex {x:Operand} {i:Nat} {vs:List Value} {v:Value} (hx:ev m x=some (.tuple vs.toArray):=by rfl) (hv:vs[i]? = some v:=by rfl):OpV C ⟨dst, .extract x i,ty,pos,af,gd⟩ m L v:=V_extract hx hv
theorem E_sv {x y:Operand} {A:Adr} {n:Nat} {cs vs:List Value} {t:TypeId} {inf:TypeInfo} (j:Nat) (hi:C.P.info? t=some inf) (hx:ev m x=some (ptr A 0):=by rfl) (hy:ev m y=some (.agg vs.toArray):=by rfl)
  (hn:inf.size=n:=by rfl) (hl:vs.length=n:=by exact lenV _) (hv:OneC vs:=by exact OneC.map (fun _=>rfl) _) (hj:L[j]? = some ⟨A,cs⟩:=by rfl) (hc:cs.length=n:=by exact lenV _) :
  OpE C ⟨dst, .store t x y,ty,pos,af,gd⟩ m L (Γ:=Unit) (fun _=>undef) (fun _=>L.set j ⟨A,vs⟩) :=
 E_storeAgg hx hy hi hn hl hv hj (Nat.le_of_eq (by rw [Nat.zero_add,hl,hc])) (splice_all (by rw [hl,hc]))
theorem E_sp {x y:Operand} {b o n:Nat} {R:Mem} {t:TypeId} {inf:TypeInfo} (is:List Nat) (ps ns:Parts) (hp:pull is L=some (ents b o ps,R)) (hi:C.P.info? t=some inf) (hps:PartsOk ps) (hns:PartsOk ns) (h1c:PartsOne ns)
  (hx:ev m x=some (ptr (some (b,o)) 0):=by rfl) (hy:ev m y=some (.agg (flat ns).toArray):=by rfl) (hn:inf.size=n:=by rfl) (hl1:(ps.map (·.1)).sum=n:=by rfl) (hl2:(ns.map (·.1)).sum=n:=by rfl) :
  OpE C ⟨dst, .store t x y,ty,pos,af,gd⟩ m L (Γ:=Unit) (fun _=>undef) (fun _=>ents b o ns++R):=E_storeParts ps ns hx hy hp hi hn hps hns (flat_len hps hl1) (flat_len hns hl2) (flat_onec h1c)
theorem ItLaws.v {T:List It} {i d:Nat} {v:Value} {deps:List Nat} {r:List It} {oi:Oper} (ho:ops[i]? = some oi) (hl : ∀ {γ:Nat → Nat} {R:Mem},OpV C oi (itSl γ (itPick T deps)++m) (L++R) v)
  (hr:ItLaws C ops m L T r) (hg:oi.guard=none:=by rfl) (hd:oi.dst=some d:=by rfl) (hN:Nat.blt d C.N=true:=by rfl) (hm:(lk m d).isNone=true:=by rfl):ItLaws C ops m L T (itV i d v deps :: r) :=
 .cons ho (fun _ => .plain hg) hd hN hm (fun _ _=>OpE_v hl) hr
theorem ItLaws.e {T:List It} {i d:Nat} {v:Value} {deps:List Nat} {r:List It} {oi:Oper} (ho:ops[i]? = some oi) (hl : ∀ {γ:Nat → Nat} {R:Mem},OpE C oi (itSl γ (itPick T deps)++m) (L++R) (Γ:=Nat) (fun _=>v) (fun _=>L++R))
  (hr:ItLaws C ops m L T r) (hg:oi.guard=none:=by rfl) (hd:oi.dst=some d:=by rfl) (hN:Nat.blt d C.N=true:=by rfl) (hm:(lk m d).isNone=true:=by rfl):ItLaws C ops m L T (itV i d v deps :: r) :=
 .cons ho (fun _ => .plain hg) hd hN hm (fun _ _=>hl) hr
theorem ItLaws.c {T:List It} {k:It} {r:List It} {oi:Oper} (ho:ops[k.i]? = some oi)
  (hl : ∀ (γ:Nat → Nat) (R:Mem),OpE C oi (itSl γ (itPick T k.deps)++m) (itMem T γ k.mdep++(L++R)) k.val (fun b=>k.es b++(itMem T γ k.mdep++(L++R))))
  (hr:ItLaws C ops m L T r) (hg:oi.guard=none:=by rfl) (hd:oi.dst=some k.d:=by rfl) (hN:Nat.blt k.d C.N=true:=by rfl) (hm:(lk m k.d).isNone=true:=by rfl):ItLaws C ops m L T (k :: r) :=
 .cons ho (fun _ => .plain hg) hd hN hm hl hr
theorem PtLaws.c {T:List It} {k:It} {r:List It} {oi:Oper} {v:Value} (ho:ops[k.i]? = some oi) (hl : ∀ (γ:Nat → Nat),OpV C oi (itSl γ (itPick T k.deps)++m) Lr v)
  (hr:PtLaws C ops m Lr T r) (hg:oi.guard=none:=by rfl) (hd:oi.dst=some k.d:=by rfl) (hN:Nat.blt k.d C.N=true:=by rfl) (hm:(lk m k.d).isNone=true:=by rfl)
  (hv:k.val=fun _=>v:=by rfl) (he:k.es=fun _=>[]:=by rfl) (hmd:k.mdep=none:=by rfl):PtLaws C ops m Lr T (k :: r) :=
 .cons ho (fun _ => .plain hg) hd hN hm hv he hmd hl hr
theorem TA_cut (m':Sl) (L':Mem) (hm:SubM m' m) (hL:L=L') (h:TA C ops Q js Lr n done m' L'):TA C ops Q js Lr n done m L:=fun a w hs=>h a w (hL ▸ hs.sub hm)
theorem TA_tk {d:Nat} {oi:Oper} {v:Value} (i:Nat) (is:List Nat) (done':Array Bool) (hi:ops[i]? = some oi) (hp:pull is L=some (Lr,R)) (hv:OpV C oi m Lr v) (h:TA C ops Q js Lr n done' ((d,v) :: m) L)
  (ht:Took ops js i done done'=true:=by kernel_rfl) (hsel:Region.noSelect ops=true:=by kernel_rfl) (hQ:QP Q:=by repeat (first | exact QP.body | refine QP.then ?_ | refine QP.block ?_))
  (hg:oi.guard=none:=by rfl) (hd:oi.dst=some d:=by rfl) (hN:Nat.blt d C.N=true:=by rfl):TA C ops Q js Lr (n+1) done m L:=TA_take hi hg hd hN hsel hQ ht hp hv h
end
end Go.Kx
end

section
namespace Go.Kx
open Go
theorem sj {α:Type} {a b:α} (h:some a=some b):a=b:=Option.some.inj h
theorem mk_b (B:Nat) {n:Int} (hB:Nat.ble B 16=true) (h:0≤n∧n≤17592186044416):B * n.toNat≤281474976710656:=by
 have h1:=Nat.le_of_ble_eq_true hB
 obtain ⟨k,rfl⟩:=Int.eq_ofNat_of_zero_le h.1
 have h2:k≤17592186044416:=by have:=h.2; omega
 have h3:B * k≤16 * 17592186044416:=Nat.mul_le_mul h1 h2
 simpa using h3
theorem mk_c {n:Int} (h:0≤n∧n≤17592186044416):n≤4611686018427387904:=Int.le_trans h.2 (by decide)
section
variable {C:Ctx} {Q:Exit → Act → World → Prop} {m m':Sl} {L L' Lr R:Mem} {ops:Array Oper} {rest:List Oper} {dst:Option Tmp} {ty:TypeId} {pos:String} {af:Array Edge} {gd:Option (Nat × Bool)} {c1 c2:Code}
theorem TLs {o:Oper} {d j:Nat} {want b:Bool} {oj:Oper} {dj:Nat} (h:TL C ops Q rest ((d,undef) :: m) L) (hg:o.guard=some (j,want):=by rfl) (hd:o.dst=some d:=by rfl) (hN:Nat.blt d C.N=true:=by rfl)
  (hj:ops[j]? = some oj:=by rfl) (hdj:oj.dst=some dj:=by rfl) (hb:lk m dj=some (.bool b):=by rfl) (hne:(b == want)=false:=by rfl):TL C ops Q (o :: rest) m L:=TL_skip hg hd hN hj hdj hb hne h
theorem TLw {o:Oper} {d j:Nat} {want:Bool} {oj:Oper} {dj:Nat} {v:Value} (ho:OpV C o m L v) (h:TL C ops Q rest ((d,v) :: m) L) (hg:o.guard=some (j,want):=by rfl) (hd:o.dst=some d:=by rfl) (hN:Nat.blt d C.N=true:=by rfl)
  (hj:ops[j]? = some oj:=by rfl) (hdj:oj.dst=some dj:=by rfl) (hb:lk m dj=some (.bool want):=by rfl):TL C ops Q (o :: rest) m L:=TL_want hg hd hN hj hdj hb ho h
theorem TLu {o:Oper} {d j:Nat} {want:Bool} {oj:Oper} {dj:Nat} {Γ:Type} {val:Γ → Value} {mem:Γ → Mem} (ho:OpE C o m L val mem) (h : ∀ g,TL C ops Q rest ((d,val g) :: m) (mem g)) (hg:o.guard=some (j,want):=by rfl) (hd:o.dst=some d:=by rfl) (hN:Nat.blt d C.N=true:=by rfl)
  (hj:ops[j]? = some oj:=by rfl) (hdj:oj.dst=some dj:=by rfl) (hb:lk m dj=some (.bool want):=by rfl):TL C ops Q (o :: rest) m L:=TL_wantE hg hd hN hj hdj hb ho h
theorem TVm {x:Operand} {v:Value} {d:Nat} (h:TL C ops Q rest ((d,v) :: m) L) (hx:ev m x=some v:=by rfl) (hg:gd=none:=by rfl) (hd:dst=some d:=by rfl) (hN:Nat.blt d C.N=true:=by rfl):TL C ops Q (⟨dst, .move x,ty,pos,af,gd⟩ :: rest) m L:=TL_v hg hd hN (V_move hx) h
theorem TVa {x:Operand} {v:Value} {d:Nat} (h:TL C ops Q rest ((d,v) :: m) L) (hx:ev m x=some v:=by rfl) (hg:gd=none:=by rfl) (hd:dst=some d:=by rfl) (hN:Nat.blt d C.N=true:=by rfl):TL C ops Q (⟨dst, .assign x,ty,pos,af,gd⟩ :: rest) m L:=TL_v hg hd hN (V_assign hx) h
theorem TVf {c x y:Operand} {v:Value} {d:Nat} (h:TL C ops Q rest ((d,v) :: m) L) (hc:ev m c=some (.bool false):=by rfl) (hx:ev m y=some v:=by rfl) (hg:gd=none:=by rfl) (hd:dst=some d:=by rfl) (hN:Nat.blt d C.N=true:=by rfl):TL C ops Q (⟨dst, .pick c x y,ty,pos,af,gd⟩ :: rest) m L:=TL_v hg hd hN (V_pick (b:=false) hc hx) h
theorem TVt {c x y:Operand} {v:Value} {d:Nat} (h:TL C ops Q rest ((d,v) :: m) L) (hc:ev m c=some (.bool true):=by rfl) (hx:ev m x=some v:=by rfl) (hg:gd=none:=by rfl) (hd:dst=some d:=by rfl) (hN:Nat.blt d C.N=true:=by rfl):TL C ops Q (⟨dst, .pick c x y,ty,pos,af,gd⟩ :: rest) m L:=TL_v hg hd hN (V_pick (b:=true) hc hx) h
theorem TXr {fn:Func} {rs:List ResultVar} {vs:List Value} {val:Unit → Value} {w:World} {Lin:Mem} (hr:fn.results=rs.toArray) (hv:ResVs C m L rs vs) (hw:C.w0=w:=by rfl) (hL:C.L0=Lin:=by rfl) (hval:retVal vs=val ():=by rfl) :
  TX C (bodyPost C.P fn fun e w' => ∃ g:Unit,e = .returned (val g)∧Step w Lin w' []) .ret m L :=
 TX_ret hr hv fun w' hs'=>⟨(),by rw [hval],by subst hw hL; exact Step.left (Step.pulled (is:=[]) (A:=[]) hs' rfl)⟩
theorem TX1 {fn:Func} {t:Nat} {v:Value} {val:Unit → Value} {w:World} {Lin:Mem} (hr:fn.results=[.tmp t].toArray:=by rfl) (hv:lk m t=some v:=by rfl) (hw:C.w0=w:=by rfl) (hL:C.L0=Lin:=by rfl) (hval:v=val ():=by rfl) :
  TX C (bodyPost C.P fn fun e w' => ∃ g:Unit,e = .returned (val g)∧Step w Lin w' []) .ret m L:=TXr (vs:=[v]) hr ⟨hv,trivial⟩ hw hL hval
theorem TX2 {fn:Func} {t t2:Nat} {v v2:Value} {val:Unit → Value} {w:World} {Lin:Mem} (hr:fn.results=[.tmp t, .tmp t2].toArray:=by rfl) (hv:lk m t=some v:=by rfl) (hv2:lk m t2=some v2:=by rfl) (hw:C.w0=w:=by rfl) (hL:C.L0=Lin:=by rfl) (hval:retVal [v,v2]=val ():=by rfl) :
  TX C (bodyPost C.P fn fun e w' => ∃ g:Unit,e = .returned (val g)∧Step w Lin w' []) .ret m L:=TXr (vs:=[v,v2]) hr ⟨hv,hv2,trivial⟩ hw hL hval
theorem TCd {x:Operand} {p:Prop} [Decidable p] {α:Type} {a1 a2 r:α} (H:(if p then a1 else a2)=r) (ht:decide p=true → a1=r → TC C c1 Q m L) (hf:decide p=false → a2=r → TC C c2 Q m L) (hx:ev m x=some (vb (decide p)):=by rfl):TC C (.cond x c1 c2) Q m L :=
 TC_cond hx (fun hc=>ht hc (ite_t (of_decide_eq_true hc) H)) fun hc=>hf hc (ite_f (of_decide_eq_false hc) H)
theorem TCb {x:Operand} {b:Bool} {α:Type} {a1 a2 r:α} (H:(if b=true then a1 else a2)=r) (ht:b=true → a1=r → TC C c1 Q m L) (hf:b=false → a2=r → TC C c2 Q m L) (hx:ev m x=some (vb b):=by rfl):TC C (.cond x c1 c2) Q m L :=
 TC_cond hx (fun hc=>ht hc (ite_t hc H)) fun hc=>hf hc (ite_f (Bool.eq_false_iff.1 hc) H)
theorem TFd {d:Nat} {p:Prop} [Decidable p] {α:Type} {a1 a2 r:α} (H:(if p then a1 else a2)=r) (ht:decide p=true → a1=r → TL C ops Q rest ((d, .bool true) :: m) L) (hf:decide p=false → a2=r → TL C ops Q rest ((d, .bool false) :: m) L) (hd:lk m d=some (vb (decide p)):=by rfl):TL C ops Q rest m L :=
 TL_fork hd (fun hc=>ht hc (ite_t (of_decide_eq_true hc) H)) fun hc=>hf hc (ite_f (of_decide_eq_false hc) H)
theorem TFb {d:Nat} {b:Bool} {α:Type} {a1 a2 r:α} (H:(if b=true then a1 else a2)=r) (ht:b=true → a1=r → TL C ops Q rest ((d, .bool true) :: m) L) (hf:b=false → a2=r → TL C ops Q rest ((d, .bool false) :: m) L) (hd:lk m d=some (vb b):=by rfl):TL C ops Q rest m L :=
 TL_fork hd (fun hc=>ht hc (ite_t hc H)) fun hc=>hf hc (ite_f (Bool.eq_false_iff.1 hc) H)
theorem TXj {e:Exit} (is:List Nat) (h:TX C Q e m' L') (hp:pull is L=some (L',R):=by rfl) (hm:SubM m' m:=by repeat (first | exact trivial | refine ⟨rfl,?_⟩)):TX C Q e m L:=TX.pull hp (TX.sub hm h)
theorem TXk {K:Act → World → Prop} (is:List Nat) (h : ∀ a w,Sat C m' L' a w → K a w) (hp:pull is L=some (L',R):=by rfl) (hm:SubM m' m:=by repeat (first | exact trivial | refine ⟨rfl,?_⟩)):TX C (Exit.then K Q) .normal m L :=
 TX.pull hp (TX.sub hm fun a w hs=>h a w hs)
theorem TLr {v v':Value} (d:Nat) (hv:v=v') (h:TL C ops Q rest ((d,v') :: m) L) (hd:lk m d=some v:=by rfl):TL C ops Q rest m L:=TL_re hd hv h
end
end Go.Kx
end

section
namespace Go.Proofs
open Go Go.Kx
open TryI Try
def gcm_element_half (e_high:BitVec 64) (e_low:BitVec 64):Option (BitVec 64 × BitVec 64) :=
 some ((e_high >>> 1) ^^^ (16212958658533785600#64 &&& (-(e_low &&& 1#64))),(e_low >>> 1) ||| (e_high <<< 63))
set_option maxHeartbeats 4000000 in
set_option maxRecDepth 20000 in
theorem F40_calls (e_high:BitVec 64) (e_low:BitVec 64) (r:BitVec 64 × BitVec 64) (H:gcm_element_half e_high e_low=some r) :
  Does Try.prog 40 [aG [(1,[v64 e_high]),(1,[v64 e_low])]] [] [] (Γ:=Unit) (fun g=>aG [(1,[v64 r.1]),(1,[v64 r.2])]) (fun g=>[]):=by
 intro w hmem hro hd
 refine calls_of (N:=20) (m0:=[(0,aG [(1,[v64 e_high]),(1,[v64 e_low])])]) func40 rfl ntmps40 (argM_ok [aG [(1,[v64 e_high]),(1,[v64 e_low])]]) rfl hmem hro hd ?_
 unfold gcm_element_half at H
 refine TC_seq (TC_region (TLe (E_boxP [(1,[v64 e_high]),(1,[v64 e_low])] rfl rfl ⟨rfl,rfl,trivial⟩) (fun b1=>?_)))
 refine TLe (E_allocP [(1,[v64 0#64]),(1,[v64 0#64])] inf56 zer56 ⟨rfl,rfl,trivial⟩) (fun b2=>?_)
 refine TL_nil (TX_next (TC_seq (TC_region (TLv (V_fieldE rfl underlying56 rfl rfl inf54 rfl (v:=ptr (some (b1,0)) 0) rfl) ?_))))
 refine TLv (V_load rfl (.o 2) rfl isAgg54) ?_
 refine TLv (V_bin rfl rfl (fun w=>shr64 w e_high .u64 1 (by decide))) ?_
 refine TLv (V_fieldE rfl underlying56 rfl rfl inf54 rfl (v:=ptr (some (b1,1)) 0) rfl) ?_
 refine TLv (V_load rfl (.o 3) rfl isAgg54) ?_
 refine TLv (V_bin rfl rfl (fun w=>and64 w e_low 1#64)) ?_
 refine TLv (V_un rfl (fun w=>neg64 w (e_low &&& 1#64))) ?_
 refine TLv (V_bin rfl rfl (fun w=>and64 w 16212958658533785600#64 (-(e_low &&& 1#64)))) ?_
 refine TLv (V_bin rfl rfl (fun w=>xor64 w (e_high >>> 1) (16212958658533785600#64 &&& (-(e_low &&& 1#64))))) ?_
 refine TLv (V_fieldE rfl underlying56 rfl rfl inf54 rfl (v:=ptr (some (b1,1)) 0) rfl) ?_
 refine TLv (V_load rfl (.o 3) rfl isAgg54) ?_
 refine TLv (V_bin rfl rfl (fun w=>shr64 w e_low .u64 1 (by decide))) ?_
 refine TLv (V_fieldE rfl underlying56 rfl rfl inf54 rfl (v:=ptr (some (b1,0)) 0) rfl) ?_
 refine TLv (V_load rfl (.o 2) rfl isAgg54) ?_
 refine TLv (V_bin rfl rfl (fun w=>shl64 w e_high .u64 63 (by decide))) ?_
 refine TLv (V_bin rfl rfl (fun w=>or64 w (e_low >>> 1) (e_high <<< 63))) ?_
 refine TLv (V_buildStruct (pv:=[(0,v64 ((e_high >>> 1) ^^^ (16212958658533785600#64 &&& (-(e_low &&& 1#64))))),(1,v64 ((e_low >>> 1) ||| (e_high <<< 63)))]) (pl:=[(0,1),(1,1)]) rfl rfl underlying56 inf56 places56 zer56 (cs:=flat [(1,[v64 ((e_high >>> 1) ^^^ (16212958658533785600#64 &&& (-(e_low &&& 1#64))))]),(1,[v64 ((e_low >>> 1) ||| (e_high <<< 63))])]) (by kernel_rfl)) ?_
 refine TLn (E_sp (b:=b2) (o:=0) [0,0] [(1,[v64 0#64]),(1,[v64 0#64])] [(1,[v64 ((e_high >>> 1) ^^^ (16212958658533785600#64 &&& (-(e_low &&& 1#64))))]),(1,[v64 ((e_low >>> 1) ||| (e_high <<< 63))])] rfl inf56 ⟨rfl,rfl,trivial⟩ ⟨rfl,rfl,trivial⟩ ⟨(OneC.cons rfl OneC.nil),(OneC.cons rfl OneC.nil),trivial⟩) (fun _=>?_)
 refine TL_nil (TX_next (TC_ret ?_))
 obtain rfl:=sj H
 exact TXr (vs:=[_]) rfl ⟨(Res_agg (n:=2) (cs:=flat [(1,[v64 ((e_high >>> 1) ^^^ (16212958658533785600#64 &&& (-(e_low &&& 1#64))))]),(1,[v64 ((e_low >>> 1) ||| (e_high <<< 63))])]) rfl (by simp) (SrcEnts (b:=b2) [(1,[v64 ((e_high >>> 1) ^^^ (16212958658533785600#64 &&& (-(e_low &&& 1#64))))]),(1,[v64 ((e_low >>> 1) ||| (e_high <<< 63))])] 0 ⟨rfl,rfl,trivial⟩ (AllSrc.all (M:=ents b2 0 [(1,[v64 ((e_high >>> 1) ^^^ (16212958658533785600#64 &&& (-(e_low &&& 1#64))))]),(1,[v64 ((e_low >>> 1) ||| (e_high <<< 63))])]) ⟨Src.own (j:=0) rfl,Src.own (j:=1) rfl,trivial⟩)) isAgg56 inf56 rfl (by simp [flat])),trivial⟩
end Go.Proofs
end

section
namespace Go.Proofs
open Go Go.Kx
open Vector (replicate)
open TryI Try
def gcm_newSum.b1 (s0:Int × (Vector (BitVec 64 × BitVec 64) 16) × BitVec 64 × BitVec 64) (s1:Int × (Vector (BitVec 64 × BitVec 64) 16)):Option ((Int × (Vector (BitVec 64 × BitVec 64) 16)) ⊕ ((Vector (BitVec 64 × BitVec 64) 16))) :=
 if s1.1<16 then (if (iop (· &&& ·) s1.1 s0.1) ≠ 0 then (if 0≤s1.1∧s1.1<(16:Int) then (if 0≤s1.1∧s1.1<(16:Int) then (ltt (vp s1.2 ((s1.1).toNat) ((((vg s1.2 ((s1.1).toNat)).1) ^^^ s0.2.2.1),(vg s1.2 ((s1.1).toNat)).2)) fun (m_1:Vector (BitVec 64 × BitVec 64) 16)=>(if 0≤s1.1∧s1.1<(16:Int) then (if 0≤s1.1∧s1.1<(16:Int) then (ltt (vp m_1 ((s1.1).toNat) ((vg m_1 ((s1.1).toNat)).1,(((vg m_1 ((s1.1).toNat)).2) ^^^ s0.2.2.2))) fun (m_2:Vector (BitVec 64 × BitVec 64) 16)=>(some (.inl (w64 (s1.1+1),m_2)))) else none) else none)) else none) else none) else (some (.inl (w64 (s1.1+1),s1.2)))) else (some (.inr s1.2))
def gcm_newSum.b0  (s0:Int × (Vector (BitVec 64 × BitVec 64) 16) × BitVec 64 × BitVec 64):Option ((Int × (Vector (BitVec 64 × BitVec 64) 16) × BitVec 64 × BitVec 64) ⊕ ((Vector (BitVec 64 × BitVec 64) 16))) :=
 if 0<s0.1 then ((loop (gcm_newSum.b1 s0) BIG (0,s0.2.1)).bind fun (t_2:(Vector (BitVec 64 × BitVec 64) 16))=>((gcm_element_half s0.2.2.1 s0.2.2.2).bind fun (r_1:BitVec 64 × BitVec 64)=>(ltt (w64 (s0.1.tdiv 2)) fun (bit1:Int)=>(some (.inl (bit1,t_2,r_1.1,r_1.2)))))) else (some (.inr s0.2.1))
def gcm_newSum.b3  (s3:Int × BitVec 64 × BitVec 64):Option ((Int × BitVec 64 × BitVec 64) ⊕ (BitVec 64 × BitVec 64)) :=
 if s3.1<4 then ((gcm_element_half s3.2.1 s3.2.2).bind fun (r_2:BitVec 64 × BitVec 64)=>(some (.inl (w64 (s3.1+1),r_2.1,r_2.2)))) else (some (.inr (s3.2.1,s3.2.2)))
def gcm_newSum.b2  (s2:Int × Vx 64 16):Option ((Int × Vx 64 16) ⊕ (Vx 64 16)) :=
 if s2.1<16 then ((loop (gcm_newSum.b3) BIG (0,0#64,BitVec.ofInt 64 s2.1)).bind fun (t_4:BitVec 64 × BitVec 64)=>(if 0≤s2.1∧s2.1<(16:Int) then (ltt (vp s2.2 ((s2.1).toNat) t_4.1) fun (m_3:Vx 64 16)=>(some (.inl (w64 (s2.1+1),m_3)))) else none)) else (some (.inr s2.2))
def gcm_newSum (h_high:BitVec 64) (h_low:BitVec 64):Option ((Vector (BitVec 64 × BitVec 64) 16) × Vx 64 16) :=
 (loop (gcm_newSum.b0) BIG (8,replicate 16 (0#64,0#64),h_high,h_low)).bind fun (t_1:(Vector (BitVec 64 × BitVec 64) 16))=>((loop (gcm_newSum.b2) BIG (0,replicate 16 0#64)).bind fun (t_3:Vx 64 16)=>(some (t_1,t_3)))
set_option maxHeartbeats 4000000 in
set_option maxRecDepth 20000 in
theorem F28_calls (h_high:BitVec 64) (h_low:BitVec 64) (r:(Vector (BitVec 64 × BitVec 64) 16) × Vx 64 16) (H:gcm_newSum h_high h_low=some r) :
  Does Try.prog 28 [aG [(1,[v64 h_high]),(1,[v64 h_low])]] [] [] (Γ:=Nat) (fun g=>ptr (some (g,0)) 0) (fun g=>[⟨some (g,0),eF (fun p:BitVec 64 × BitVec 64=>[v64 p.1,v64 p.2]) r.1.toList⟩,⟨some (g,32),e64 r.2.toList⟩,⟨some (g,48),[v64 0#64]⟩,⟨some (g,49),[v64 0#64]⟩]):=by
 intro w hmem hro hd
 refine calls_of (N:=75) (m0:=[(0,aG [(1,[v64 h_high]),(1,[v64 h_low])])]) func28 rfl ntmps28 (argM_ok [aG [(1,[v64 h_high]),(1,[v64 h_low])]]) rfl hmem hro hd ?_
 unfold gcm_newSum at H
 refine TC_seq (TC_region (TLe (E_boxP [(1,[v64 h_high]),(1,[v64 h_low])] rfl rfl ⟨rfl,rfl,trivial⟩) (fun b1=>?_)))
 refine TVa ?_
 refine TL_nil (TX_next (TC_seq (TC_region (TLv (V_buildStruct (pv:=[]) (pl:=[(0,32),(32,16),(48,2)]) rfl rfl underlying62 inf62 places62 zer62 (cs:=flat [(32,eF (fun p:BitVec 64 × BitVec 64=>[v64 p.1,v64 p.2]) ((replicate 16 (0#64,0#64)).toList)),(16,e64 ((replicate 16 0#64).toList)),(1,[v64 0#64]),(1,[v64 0#64])]) fill_end) ?_))))
 refine TLe (E_boxP [(32,eF (fun p:BitVec 64 × BitVec 64=>[v64 p.1,v64 p.2]) ((replicate 16 (0#64,0#64)).toList)),(16,e64 ((replicate 16 0#64).toList)),(1,[v64 0#64]),(1,[v64 0#64])] rfl rfl ⟨(lenVF (g:=fun p:BitVec 64 × BitVec 64=>[v64 p.1,v64 p.2]) (s:=2) (fun _=>rfl) (replicate 16 (0#64,0#64))),(lenV (f:=v64) (replicate 16 0#64)),rfl,rfl,trivial⟩) (fun b2=>?_)
 refine TVa ?_
 refine TL_nil (TX_next (TC_seq (TC_seq (TA_begin [] 4 (by kernel_rfl) (N:=4) rfl ?_))))
 refine TA_mix (is:=[]) (done':=dn 4 7) [itV 0 11 (aG [(1,[v64 h_high]),(1,[v64 h_low])]) [],⟨1,5,fun b3=>ptr (some (b3,0)) 0,fun b3=>[⟨some (b3,0),[v64 0#64]⟩,⟨some (b3,1),[v64 0#64]⟩],[],none⟩,itV 2 4 (vi 8) []] [] 1 (by kernel_rfl) (QP.then (QP.then QP.body)) (by kernel_rfl) rfl (.v rfl (V_loadAgg (n:=2) (cs:=flat [(1,[v64 h_high]),(1,[v64 h_low])]) rfl (by simp) (SrcEnts (b:=b1) [(1,[v64 h_high]),(1,[v64 h_low])] 0 ⟨rfl,rfl,trivial⟩ (AllSrc.all (M:=ents b1 0 [(1,[v64 h_high]),(1,[v64 h_low])]) ⟨Src.own (j:=4) rfl,Src.own (j:=5) rfl,trivial⟩)) isAgg56 inf56 rfl (flat_len ⟨rfl,rfl,trivial⟩ rfl)) (.c rfl (fun _ _=>(E_allocP [(1,[v64 0#64]),(1,[v64 0#64])] inf56 zer56 ⟨rfl,rfl,trivial⟩)) (.v rfl (V_assign rfl) .nil))) .nil (by kernel_rfl) rfl (fun γ=>?_)
 refine TA_cut [(4,vi 8),(5,ptr (some ((γ 1),0)) 0),(11,aG [(1,[v64 h_high]),(1,[v64 h_low])]),(3,ptr (some (b2,0)) 0)] [⟨some ((γ 1),0),[v64 0#64]⟩,⟨some ((γ 1),1),[v64 0#64]⟩,⟨some (b2,0),eF (fun p:BitVec 64 × BitVec 64=>[v64 p.1,v64 p.2]) ((replicate 16 (0#64,0#64)).toList)⟩,⟨some (b2,32),e64 ((replicate 16 0#64).toList)⟩,⟨some (b2,48),[v64 0#64]⟩,⟨some (b2,49),[v64 0#64]⟩,⟨some (b1,0),[v64 h_high]⟩,⟨some (b1,1),[v64 h_low]⟩] ⟨rfl,rfl,rfl,rfl,trivial⟩ rfl ?_
 generalize γ 1=b3
 refine TA_all (rs:=[3]) (by kernel_rfl) rfl ?_
 refine ⟨?_,trivial⟩
 refine TO_n (is:=[]) (done':=dn 4 15) rfl rfl rfl (by kernel_rfl) (E_sp (b:=b3) (o:=0) [0,0] [(1,[v64 0#64]),(1,[v64 0#64])] [(1,[v64 h_high]),(1,[v64 h_low])] rfl inf56 ⟨rfl,rfl,trivial⟩ ⟨rfl,rfl,trivial⟩ ⟨(OneC.cons rfl OneC.nil),(OneC.cons rfl OneC.nil),trivial⟩) (fun _ _=>rfl) (fun _=>?_)
 refine TA_done (by kernel_rfl) ?_ 0
 refine TX_next (TC_block ?_)
 obtain ⟨t_1,Hl,H⟩:=bind_elim H
 refine TC.sub (m':=[(3,_),(4,_),(5,_)]) ⟨rfl,rfl,rfl,trivial⟩ ?_
 refine TC.pull (is:=[2,2,2,2,0,0]) (L':=[_,_,_,_,_,_]) rfl ?_
 refine TC_loopL (id:=0) (body:=(gcm_newSum.b0)) (σ:=Int × (Vector (BitVec 64 × BitVec 64) 16) × BitVec 64 × BitVec 64) (Γ:=Nat) (Γx:=Unit) (fun s0 g0_=>[(3,ptr (some (b2,0)) 0),(4,vi s0.1),(5,ptr (some (g0_,0)) 0)]) (fun s0 g0_=>[⟨some (b2,0),eF (fun p:BitVec 64 × BitVec 64=>[v64 p.1,v64 p.2]) s0.2.1.toList⟩,⟨some (b2,32),e64 ((replicate 16 0#64).toList)⟩,⟨some (b2,48),[v64 0#64]⟩,⟨some (b2,49),[v64 0#64]⟩,⟨some (g0_,0),[v64 s0.2.2.1]⟩,⟨some (g0_,1),[v64 s0.2.2.2]⟩]) (fun t g=>[(3,ptr (some (b2,0)) 0)]) (fun t g=>[⟨some (b2,0),eF (fun p:BitVec 64 × BitVec 64=>[v64 p.1,v64 p.2]) t.toList⟩,⟨some (b2,32),e64 ((replicate 16 0#64).toList)⟩,⟨some (b2,48),[v64 0#64]⟩,⟨some (b2,49),[v64 0#64]⟩]) ?_ BIG (8,replicate 16 (0#64,0#64),h_high,h_low) b3 t_1 Hl ?_
 ·intro s0 g0_ r1 H K hK hE
  unfold gcm_newSum.b0 at H
  refine TC_seq (TC_seq (TC_region (TVm ?_)))
  refine TLv (V_bin rfl rfl (fun w=>gtrI w s0.1 0)) ?_
  refine TL_nil (TX_next (TCd H (fun hc H=>?_) (fun hc H=>?_)))
  ·refine TC_skip (TX_next (TC_seq (TC_block (TC_seq (TC_region (TVm ?_))))))
   refine TL_nil (TX_next (TC_block ?_))
   obtain ⟨t_2,Hl,H⟩:=bind_elim H
   refine TC.sub (m':=[(3,_),(4,_),(5,_),(18,_)]) ⟨rfl,rfl,rfl,rfl,trivial⟩ ?_
   refine TC.pull (is:=[0,0,0,0,0,0]) (L':=[_,_,_,_,_,_]) rfl ?_
   refine TC_loopL (id:=2) (body:=(gcm_newSum.b1 s0)) (σ:=Int × (Vector (BitVec 64 × BitVec 64) 16)) (Γ:=Unit) (Γx:=Unit) (fun s1 g1_=>[(3,ptr (some (b2,0)) 0),(4,vi s0.1),(5,ptr (some (g0_,0)) 0),(18,vi s1.1)]) (fun s1 g1_=>[⟨some (b2,0),eF (fun p:BitVec 64 × BitVec 64=>[v64 p.1,v64 p.2]) s1.2.toList⟩,⟨some (b2,32),e64 ((replicate 16 0#64).toList)⟩,⟨some (b2,48),[v64 0#64]⟩,⟨some (b2,49),[v64 0#64]⟩,⟨some (g0_,0),[v64 s0.2.2.1]⟩,⟨some (g0_,1),[v64 s0.2.2.2]⟩]) (fun t g=>[(3,ptr (some (b2,0)) 0),(4,vi s0.1),(5,ptr (some (g0_,0)) 0)]) (fun t g=>[⟨some (b2,0),eF (fun p:BitVec 64 × BitVec 64=>[v64 p.1,v64 p.2]) t.toList⟩,⟨some (b2,32),e64 ((replicate 16 0#64).toList)⟩,⟨some (b2,48),[v64 0#64]⟩,⟨some (b2,49),[v64 0#64]⟩,⟨some (g0_,0),[v64 s0.2.2.1]⟩,⟨some (g0_,1),[v64 s0.2.2.2]⟩]) ?_ BIG (0,s0.2.1) () t_2 Hl ?_
   ·intro s1 g1_ r1 H K hK hE
    unfold gcm_newSum.b1 at H
    refine TC_seq (TC_region (TLv (V_bin rfl rfl (fun w=>lssI w s1.1 16)) ?_))
    refine TL_nil (TX_next (TC_seq (TCd H (fun hc H=>?_) (fun hc H=>?_))))
    ·refine TC_skip (TX_next (TC_seq (TC_block (TC_seq (TC_region (TVm ?_))))))
     refine TVa ?_
     refine TL_nil (TX_next (TC_seq (TC_region (TVm ?_))))
     refine TVm ?_
     refine TLv (V_bin rfl rfl (fun w=>andI w s1.1 s0.1)) ?_
     refine TLv (V_bin rfl rfl (fun w=>neqI w (iop (· &&& ·) s1.1 s0.1) 0)) ?_
     refine TL_nil (TX_next (TCd H (fun hc H=>?_) (fun hc H=>?_)))
     ·refine TC_seq ?_
      obtain ⟨h1,H⟩:=if_elim H
      obtain ⟨h2,H⟩:=if_elim H
      obtain ⟨m_1,hm_1,H⟩:=ltt_elim H
      refine TA_begin [] 15 (by kernel_rfl) (N:=15) rfl ?_
      refine TA_mix (is:=[]) (done':=dn 15 16383) [itV 0 25 (ptr (some (b2,0)) 0) [],itV 1 26 (vi s1.1) [],itV 2 27 (ptr (some (b2,0)) 0) [0],itV 3 28 (ptr (some (b2,0)) 0) [2],itV 4 29 (ptr (some (b2,0)) (((s1.1).toNat) * 2)) [1,3],itV 5 30 (ptr (some (b2,0)) (((s1.1).toNat) * 2+0)) [4],itV 6 31 (v64 ((vg s1.2 ((s1.1).toNat)).1)) [5],itV 7 32 (ptr (some (g0_,0)) 0) [],itV 8 33 (v64 s0.2.2.1) [7],itV 9 34 (v64 (((vg s1.2 ((s1.1).toNat)).1) ^^^ s0.2.2.1)) [8,6],itV 10 35 (ptr (some (b2,0)) 0) [0],itV 11 36 (ptr (some (b2,0)) 0) [10],itV 12 37 (ptr (some (b2,0)) (((s1.1).toNat) * 2)) [1,11],itV 13 38 (ptr (some (b2,0)) (((s1.1).toNat) * 2+0)) [12]] [] 1 (by kernel_rfl) (QP.then (QP.block (QP.then (QP.then (QP.block (QP.block (QP.then (QP.then (QP.block (QP.then QP.body)))))))))) (by kernel_rfl) rfl (.v rfl (V_move rfl) (.v rfl (V_move rfl) (.v rfl (V_nilCheck rfl) (.v rfl (V_fe underlying62 inf59) (.v rfl (V_idxArr (i:=s1.1) rfl rfl underlying59 inf56 rfl h1.1 h1.2 (k:=((s1.1).toNat) * 2) (k0 _ _)) (.v rfl (V_field rfl underlying56 rfl (k:=0) rfl inf54 rfl) (.v rfl (V_load rfl (.o 0) ((get_eF (g:=fun p:BitVec 64 × BitVec 64=>[v64 p.1,v64 p.2]) (s:=2) (fun _=>rfl) s1.2.toList ((s1.1).toNat) 0 (lt_list (toNat_lt h1.1 h1.2)) (by decide:0<2)).trans rfl) isAgg54) (.v rfl (V_fe underlying56 inf54) (.v rfl (V_load rfl (.o 4) rfl isAgg54) (.v rfl (V_bin rfl rfl (fun w=>xor64 w ((vg s1.2 ((s1.1).toNat)).1) s0.2.2.1)) (.v rfl (V_nilCheck rfl) (.v rfl (V_fe underlying62 inf59) (.v rfl (V_idxArr (i:=s1.1) rfl rfl underlying59 inf56 rfl h2.1 h2.2 (k:=((s1.1).toNat) * 2) (k0 _ _)) (.v rfl (V_field rfl underlying56 rfl (k:=0) rfl inf54 rfl) .nil)))))))))))))) .nil (by kernel_rfl) rfl (fun γ=>?_)
      refine TA_cut [(38,ptr (some (b2,0)) (((s1.1).toNat) * 2+0)),(34,v64 (((vg s1.2 ((s1.1).toNat)).1) ^^^ s0.2.2.1)),(6,vi s1.1),(3,ptr (some (b2,0)) 0),(4,vi s0.1),(5,ptr (some (g0_,0)) 0),(18,vi s1.1)] [⟨some (b2,0),eF (fun p:BitVec 64 × BitVec 64=>[v64 p.1,v64 p.2]) s1.2.toList⟩,⟨some (b2,32),e64 ((replicate 16 0#64).toList)⟩,⟨some (b2,48),[v64 0#64]⟩,⟨some (b2,49),[v64 0#64]⟩,⟨some (g0_,0),[v64 s0.2.2.1]⟩,⟨some (g0_,1),[v64 s0.2.2.2]⟩] ⟨rfl,rfl,rfl,rfl,rfl,rfl,rfl,trivial⟩ rfl ?_
      refine TA_all (rs:=[14]) (by kernel_rfl) rfl ?_
      refine ⟨?_,trivial⟩
      refine TO_n (is:=[]) (done':=dn 15 32767) rfl rfl rfl (by kernel_rfl) (E_store (j:=0) rfl rfl inf54 rfl rfl rfl (lt_eF (g:=fun p:BitVec 64 × BitVec 64=>[v64 p.1,v64 p.2]) (s:=2) (fun _=>rfl) (lt_list (toNat_lt h2.1 h2.2)) (by decide:0<2)) (cs':=eF (fun p:BitVec 64 × BitVec 64=>[v64 p.1,v64 p.2]) ((vp s1.2 ((s1.1).toNat) ((((vg s1.2 ((s1.1).toNat)).1) ^^^ s0.2.2.1),(vg s1.2 ((s1.1).toNat)).2)).toList)) (set_vF (g:=fun p:BitVec 64 × BitVec 64=>[v64 p.1,v64 p.2]) (s:=2) (fun _=>rfl) s1.2 ((s1.1).toNat) 0 _ _ (toNat_lt h2.1 h2.2) (by decide:0<2) rfl)) (fun _ _=>rfl) (fun _=>?_)
      refine TA_reE (j:=0) (A:=some (b2,0)) (cs:=eF (fun p:BitVec 64 × BitVec 64=>[v64 p.1,v64 p.2]) ((vp s1.2 ((s1.1).toNat) ((((vg s1.2 ((s1.1).toNat)).1) ^^^ s0.2.2.1),(vg s1.2 ((s1.1).toNat)).2)).toList)) (cs':=eF (fun p:BitVec 64 × BitVec 64=>[v64 p.1,v64 p.2]) m_1.toList) rfl (congrArg (fun z:Vector (BitVec 64 × BitVec 64) 16=>eF (fun p:BitVec 64 × BitVec 64=>[v64 p.1,v64 p.2]) (Vector.toList z)) hm_1) ?_
      refine TA_done (by kernel_rfl) ?_ 0
      refine TX_next ?_
      obtain ⟨h3,H⟩:=if_elim H
      obtain ⟨h4,H⟩:=if_elim H
      obtain ⟨m_2,hm_2,H⟩:=ltt_elim H
      refine TA_begin [] 15 (by kernel_rfl) (N:=15) rfl ?_
      refine TA_mix (is:=[]) (done':=dn 15 16383) [itV 0 39 (ptr (some (b2,0)) 0) [],itV 1 40 (vi s1.1) [],itV 2 41 (ptr (some (b2,0)) 0) [0],itV 3 42 (ptr (some (b2,0)) 0) [2],itV 4 43 (ptr (some (b2,0)) (((s1.1).toNat) * 2)) [1,3],itV 5 44 (ptr (some (b2,0)) (((s1.1).toNat) * 2+1)) [4],itV 6 45 (v64 ((vg m_1 ((s1.1).toNat)).2)) [5],itV 7 46 (ptr (some (g0_,1)) 0) [],itV 8 47 (v64 s0.2.2.2) [7],itV 9 48 (v64 (((vg m_1 ((s1.1).toNat)).2) ^^^ s0.2.2.2)) [6,8],itV 10 49 (ptr (some (b2,0)) 0) [0],itV 11 50 (ptr (some (b2,0)) 0) [10],itV 12 51 (ptr (some (b2,0)) (((s1.1).toNat) * 2)) [1,11],itV 13 52 (ptr (some (b2,0)) (((s1.1).toNat) * 2+1)) [12]] [] 1 (by kernel_rfl) (QP.block (QP.then (QP.then (QP.block (QP.block (QP.then (QP.then (QP.block (QP.then QP.body))))))))) (by kernel_rfl) rfl (.v rfl (V_move rfl) (.v rfl (V_move rfl) (.v rfl (V_nilCheck rfl) (.v rfl (V_fe underlying62 inf59) (.v rfl (V_idxArr (i:=s1.1) rfl rfl underlying59 inf56 rfl h3.1 h3.2 (k:=((s1.1).toNat) * 2) (k0 _ _)) (.v rfl (V_field rfl underlying56 rfl (k:=1) rfl inf54 rfl) (.v rfl (V_load rfl (.o 0) ((get_eF (g:=fun p:BitVec 64 × BitVec 64=>[v64 p.1,v64 p.2]) (s:=2) (fun _=>rfl) m_1.toList ((s1.1).toNat) 1 (lt_list (toNat_lt h3.1 h3.2)) (by decide:1<2)).trans rfl) isAgg54) (.v rfl (V_fe underlying56 inf54) (.v rfl (V_load rfl (.o 5) rfl isAgg54) (.v rfl (V_bin rfl rfl (fun w=>xor64 w ((vg m_1 ((s1.1).toNat)).2) s0.2.2.2)) (.v rfl (V_nilCheck rfl) (.v rfl (V_fe underlying62 inf59) (.v rfl (V_idxArr (i:=s1.1) rfl rfl underlying59 inf56 rfl h4.1 h4.2 (k:=((s1.1).toNat) * 2) (k0 _ _)) (.v rfl (V_field rfl underlying56 rfl (k:=1) rfl inf54 rfl) .nil)))))))))))))) .nil (by kernel_rfl) rfl (fun γ=>?_)
      refine TA_cut [(52,ptr (some (b2,0)) (((s1.1).toNat) * 2+1)),(48,v64 (((vg m_1 ((s1.1).toNat)).2) ^^^ s0.2.2.2)),(3,ptr (some (b2,0)) 0),(4,vi s0.1),(5,ptr (some (g0_,0)) 0),(18,vi s1.1)] [⟨some (b2,0),eF (fun p:BitVec 64 × BitVec 64=>[v64 p.1,v64 p.2]) m_1.toList⟩,⟨some (b2,32),e64 ((replicate 16 0#64).toList)⟩,⟨some (b2,48),[v64 0#64]⟩,⟨some (b2,49),[v64 0#64]⟩,⟨some (g0_,0),[v64 s0.2.2.1]⟩,⟨some (g0_,1),[v64 s0.2.2.2]⟩] ⟨rfl,rfl,rfl,rfl,rfl,rfl,trivial⟩ rfl ?_
      refine TA_all (rs:=[14]) (by kernel_rfl) rfl ?_
      refine ⟨?_,trivial⟩
      refine TO_n (is:=[]) (done':=dn 15 32767) rfl rfl rfl (by kernel_rfl) (E_store (j:=0) rfl rfl inf54 rfl rfl rfl (lt_eF (g:=fun p:BitVec 64 × BitVec 64=>[v64 p.1,v64 p.2]) (s:=2) (fun _=>rfl) (lt_list (toNat_lt h4.1 h4.2)) (by decide:1<2)) (cs':=eF (fun p:BitVec 64 × BitVec 64=>[v64 p.1,v64 p.2]) ((vp m_1 ((s1.1).toNat) ((vg m_1 ((s1.1).toNat)).1,(((vg m_1 ((s1.1).toNat)).2) ^^^ s0.2.2.2))).toList)) (set_vF (g:=fun p:BitVec 64 × BitVec 64=>[v64 p.1,v64 p.2]) (s:=2) (fun _=>rfl) m_1 ((s1.1).toNat) 1 _ _ (toNat_lt h4.1 h4.2) (by decide:1<2) rfl)) (fun _ _=>rfl) (fun _=>?_)
      refine TA_reE (j:=0) (A:=some (b2,0)) (cs:=eF (fun p:BitVec 64 × BitVec 64=>[v64 p.1,v64 p.2]) ((vp m_1 ((s1.1).toNat) ((vg m_1 ((s1.1).toNat)).1,(((vg m_1 ((s1.1).toNat)).2) ^^^ s0.2.2.2))).toList)) (cs':=eF (fun p:BitVec 64 × BitVec 64=>[v64 p.1,v64 p.2]) m_2.toList) rfl (congrArg (fun z:Vector (BitVec 64 × BitVec 64) 16=>eF (fun p:BitVec 64 × BitVec 64=>[v64 p.1,v64 p.2]) (Vector.toList z)) hm_2) ?_
      refine TA_done (by kernel_rfl) ?_ 0
      refine TX_block_normal (TX_next (TC_region (TLv (V_bin rfl rfl (fun w=>addI w s1.1 1)) ?_)))
      refine TVm ?_
      refine TL_nil ?_
      obtain rfl:=sj H
      exact TXk [0,0,0,0,0,0] (hK (w64 (s1.1+1),m_2) rfl ())
     ·refine TC_skip (TX_block_normal (TX_next (TC_region (TLv (V_bin rfl rfl (fun w=>addI w s1.1 1)) ?_))))
      refine TVm ?_
      refine TL_nil ?_
      obtain rfl:=sj H
      exact TXk [0,0,0,0,0,0] (hK (w64 (s1.1+1),s1.2) rfl ())
    ·refine TC_exit (TX_then_exit (TX_then_exit ?_))
     obtain rfl:=sj H
     exact TXj [0,0,0,0,0,0] (hE s1.2 rfl ())
   ·intro g
    refine TX_block_exit (TX_block_normal (TX_next (TC_seq (TC_seq (TC_region (TLv (V_loadAgg (n:=2) (cs:=flat [(1,[v64 s0.2.2.1]),(1,[v64 s0.2.2.2])]) rfl (by simp) (SrcEnts (b:=g0_) [(1,[v64 s0.2.2.1]),(1,[v64 s0.2.2.2])] 0 ⟨rfl,rfl,trivial⟩ (AllSrc.all (M:=ents g0_ 0 [(1,[v64 s0.2.2.1]),(1,[v64 s0.2.2.2])]) ⟨Src.own (j:=4) rfl,Src.own (j:=5) rfl,trivial⟩)) isAgg56 inf56 rfl (flat_len ⟨rfl,rfl,trivial⟩ rfl)) ?_))))))
    refine TL_nil (TX_next (TC_region (TLe (E_allocP [(1,[v64 0#64]),(1,[v64 0#64])] inf56 zer56 ⟨rfl,rfl,trivial⟩) (fun b4=>?_))))
    refine TLn (E_sp (b:=b4) (o:=0) [0,0] [(1,[v64 0#64]),(1,[v64 0#64])] [(1,[v64 s0.2.2.1]),(1,[v64 s0.2.2.2])] rfl inf56 ⟨rfl,rfl,trivial⟩ ⟨rfl,rfl,trivial⟩ ⟨(OneC.cons rfl OneC.nil),(OneC.cons rfl OneC.nil),trivial⟩) (fun _=>?_)
    refine TL_nil (TX_next (TC_region (TVm ?_)))
    refine TLv (V_bin rfl rfl (fun w=>quoI w s0.1 2 (by decide))) ?_
    refine TLv (V_loadAgg (n:=2) (cs:=flat [(1,[v64 s0.2.2.1]),(1,[v64 s0.2.2.2])]) rfl (by simp) (SrcEnts (b:=b4) [(1,[v64 s0.2.2.1]),(1,[v64 s0.2.2.2])] 0 ⟨rfl,rfl,trivial⟩ (AllSrc.all (M:=ents b4 0 [(1,[v64 s0.2.2.1]),(1,[v64 s0.2.2.2])]) ⟨Src.own (j:=0) rfl,Src.own (j:=1) rfl,trivial⟩)) isAgg56 inf56 rfl (flat_len ⟨rfl,rfl,trivial⟩ rfl)) ?_
    obtain ⟨r_1,hr_1,H⟩:=bind_elim H
    refine TLe (E_c0 (F40_calls s0.2.2.1 s0.2.2.2 r_1 hr_1) call40 .z) (fun g_1=>?_)
    refine TVa ?_
    obtain ⟨bit1,hbit1,H⟩:=ltt_elim H
    refine TLr 4 (congrArg vi hbit1) ?_
    refine TLn (E_sp (b:=b4) (o:=0) [0,0] [(1,[v64 s0.2.2.1]),(1,[v64 s0.2.2.2])] [(1,[v64 r_1.1]),(1,[v64 r_1.2])] rfl inf56 ⟨rfl,rfl,trivial⟩ ⟨rfl,rfl,trivial⟩ ⟨(OneC.cons rfl OneC.nil),(OneC.cons rfl OneC.nil),trivial⟩) (fun _=>?_)
    refine TL_nil ?_
    obtain rfl:=sj H
    exact TXk [2,2,2,2,0,0] (hK (bit1,t_2,r_1.1,r_1.2) rfl b4)
  ·refine TC_exit (TX_then_exit (TX_then_exit ?_))
   obtain rfl:=sj H
   exact TXj [0,0,0,0] (hE s0.2.1 rfl ())
 ·intro g
  refine TX_block_exit (TX_next (TC_seq (TC_seq (TC_region (TVm ?_)))))
  refine TL_nil (TX_next (TC_block ?_))
  obtain ⟨t_3,Hl,H⟩:=bind_elim H
  refine TC.sub (m':=[(3,_),(55,_)]) ⟨rfl,rfl,trivial⟩ ?_
  refine TC.pull (is:=[0,0,0,0]) (L':=[_,_,_,_]) rfl ?_
  refine TC_loopL (id:=4) (body:=(gcm_newSum.b2)) (σ:=Int × Vx 64 16) (Γ:=Unit) (Γx:=Unit) (fun s2 g2_=>[(3,ptr (some (b2,0)) 0),(55,vi s2.1)]) (fun s2 g2_=>[⟨some (b2,0),eF (fun p:BitVec 64 × BitVec 64=>[v64 p.1,v64 p.2]) t_1.toList⟩,⟨some (b2,32),e64 s2.2.toList⟩,⟨some (b2,48),[v64 0#64]⟩,⟨some (b2,49),[v64 0#64]⟩]) (fun t g=>[(3,ptr (some (b2,0)) 0)]) (fun t g=>[⟨some (b2,0),eF (fun p:BitVec 64 × BitVec 64=>[v64 p.1,v64 p.2]) t_1.toList⟩,⟨some (b2,32),e64 t.toList⟩,⟨some (b2,48),[v64 0#64]⟩,⟨some (b2,49),[v64 0#64]⟩]) ?_ BIG (0,replicate 16 0#64) () t_3 Hl ?_
  ·intro s2 g2_ r1 H K hK hE
   unfold gcm_newSum.b2 at H
   refine TC_seq (TC_region (TLv (V_bin rfl rfl (fun w=>lssI w s2.1 16)) ?_))
   refine TL_nil (TX_next (TC_seq (TCd H (fun hc H=>?_) (fun hc H=>?_))))
   ·refine TC_skip (TX_next (TC_seq (TC_block (TC_seq (TC_region (TVm ?_))))))
    refine TVa ?_
    refine TL_nil (TX_next (TC_seq (TC_region (TVm ?_))))
    refine TLv (V_conv rfl (fun w=>cvI64 w _ _ underlying54 (und3) .i64 s2.1)) ?_
    refine TLv (V_buildStruct (pv:=[(0,v64 0#64),(1,v64 (BitVec.ofInt 64 s2.1))]) (pl:=[(0,1),(1,1)]) rfl rfl underlying56 inf56 places56 zer56 (cs:=flat [(1,[v64 0#64]),(1,[v64 (BitVec.ofInt 64 s2.1)])]) (by kernel_rfl)) ?_
    refine TLe (E_allocP [(1,[v64 0#64]),(1,[v64 0#64])] inf56 zer56 ⟨rfl,rfl,trivial⟩) (fun b5=>?_)
    refine TLn (E_sp (b:=b5) (o:=0) [0,0] [(1,[v64 0#64]),(1,[v64 0#64])] [(1,[v64 0#64]),(1,[v64 (BitVec.ofInt 64 s2.1)])] rfl inf56 ⟨rfl,rfl,trivial⟩ ⟨rfl,rfl,trivial⟩ ⟨(OneC.cons rfl OneC.nil),(OneC.cons rfl OneC.nil),trivial⟩) (fun _=>?_)
    refine TL_nil (TX_next (TC_seq (TC_seq (TC_region (TVm ?_)))))
    refine TL_nil (TX_next (TC_block ?_))
    obtain ⟨t_4,Hl,H⟩:=bind_elim H
    refine TC.sub (m':=[(3,_),(7,_),(8,_),(55,_),(61,_)]) ⟨rfl,rfl,rfl,rfl,rfl,trivial⟩ ?_
    refine TC.pull (is:=[2,2,2,2,0,0]) (L':=[_,_,_,_,_,_]) rfl ?_
    refine TC_loopL (id:=6) (body:=(gcm_newSum.b3)) (σ:=Int × BitVec 64 × BitVec 64) (Γ:=Unit) (Γx:=Unit) (fun s3 g3_=>[(3,ptr (some (b2,0)) 0),(7,vi s2.1),(8,ptr (some (b5,0)) 0),(55,vi s2.1),(61,vi s3.1)]) (fun s3 g3_=>[⟨some (b2,0),eF (fun p:BitVec 64 × BitVec 64=>[v64 p.1,v64 p.2]) t_1.toList⟩,⟨some (b2,32),e64 s2.2.toList⟩,⟨some (b2,48),[v64 0#64]⟩,⟨some (b2,49),[v64 0#64]⟩,⟨some (b5,0),[v64 s3.2.1]⟩,⟨some (b5,1),[v64 s3.2.2]⟩]) (fun t g=>[(3,ptr (some (b2,0)) 0),(7,vi s2.1),(8,ptr (some (b5,0)) 0),(55,vi s2.1)]) (fun t g=>[⟨some (b2,0),eF (fun p:BitVec 64 × BitVec 64=>[v64 p.1,v64 p.2]) t_1.toList⟩,⟨some (b2,32),e64 s2.2.toList⟩,⟨some (b2,48),[v64 0#64]⟩,⟨some (b2,49),[v64 0#64]⟩,⟨some (b5,0),[v64 t.1]⟩,⟨some (b5,1),[v64 t.2]⟩]) ?_ BIG (0,0#64,BitVec.ofInt 64 s2.1) () t_4 Hl ?_
    ·intro s3 g3_ r1 H K hK hE
     unfold gcm_newSum.b3 at H
     refine TC_seq (TC_region (TLv (V_bin rfl rfl (fun w=>lssI w s3.1 4)) ?_))
     refine TL_nil (TX_next (TC_seq (TCd H (fun hc H=>?_) (fun hc H=>?_))))
     ·refine TC_skip (TX_next (TC_seq (TC_block (TC_region (TLv (V_loadAgg (n:=2) (cs:=flat [(1,[v64 s3.2.1]),(1,[v64 s3.2.2])]) rfl (by simp) (SrcEnts (b:=b5) [(1,[v64 s3.2.1]),(1,[v64 s3.2.2])] 0 ⟨rfl,rfl,trivial⟩ (AllSrc.all (M:=ents b5 0 [(1,[v64 s3.2.1]),(1,[v64 s3.2.2])]) ⟨Src.own (j:=4) rfl,Src.own (j:=5) rfl,trivial⟩)) isAgg56 inf56 rfl (flat_len ⟨rfl,rfl,trivial⟩ rfl)) ?_)))))
      obtain ⟨r_2,hr_2,H⟩:=bind_elim H
      refine TLe (E_c0 (F40_calls s3.2.1 s3.2.2 r_2 hr_2) call40 .z) (fun g_2=>?_)
      refine TLn (E_sp (b:=b5) (o:=0) [4,4] [(1,[v64 s3.2.1]),(1,[v64 s3.2.2])] [(1,[v64 r_2.1]),(1,[v64 r_2.2])] rfl inf56 ⟨rfl,rfl,trivial⟩ ⟨rfl,rfl,trivial⟩ ⟨(OneC.cons rfl OneC.nil),(OneC.cons rfl OneC.nil),trivial⟩) (fun _=>?_)
      refine TL_nil (TX_block_normal (TX_next (TC_region (TLv (V_bin rfl rfl (fun w=>addI w s3.1 1)) ?_))))
      refine TVm ?_
      refine TL_nil ?_
      obtain rfl:=sj H
      exact TXk [2,2,2,2,0,0] (hK (w64 (s3.1+1),r_2.1,r_2.2) rfl ())
     ·refine TC_exit (TX_then_exit (TX_then_exit ?_))
      obtain rfl:=sj H
      exact TXj [0,0,0,0,0,0] (hE (s3.2.1,s3.2.2) rfl ())
    ·intro g
     refine TX_block_exit (TX_next ?_)
     obtain ⟨h5,H⟩:=if_elim H
     obtain ⟨m_3,hm_3,H⟩:=ltt_elim H
     refine TA_begin [] 8 (by kernel_rfl) (N:=8) rfl ?_
     refine TA_mix (is:=[]) (done':=dn 8 127) [itV 0 66 (ptr (some (b2,0)) 0) [],itV 1 67 (vi s2.1) [],itV 2 68 (ptr (some (b5,0)) 0) [],itV 3 69 (v64 t_4.1) [2],itV 4 70 (ptr (some (b2,0)) 0) [0],itV 5 71 (ptr (some (b2,32)) 0) [4],itV 6 72 (ptr (some (b2,32)) ((s2.1).toNat)) [1,5]] [] 1 (by kernel_rfl) (QP.block (QP.then (QP.then (QP.block (QP.then QP.body))))) (by kernel_rfl) rfl (.v rfl (V_move rfl) (.v rfl (V_move rfl) (.v rfl (V_fe underlying56 inf54) (.v rfl (V_load rfl (.o 4) rfl isAgg54) (.v rfl (V_nilCheck rfl) (.v rfl (V_fe underlying62 inf60) (.v rfl (V_idxArr (i:=s2.1) rfl rfl underlying60 inf54 rfl h5.1 h5.2 (k:=(s2.1).toNat) (k01 _)) .nil))))))) .nil (by kernel_rfl) rfl (fun γ=>?_)
     refine TA_cut [(72,ptr (some (b2,32)) ((s2.1).toNat)),(69,v64 t_4.1),(3,ptr (some (b2,0)) 0),(55,vi s2.1)] [⟨some (b2,0),eF (fun p:BitVec 64 × BitVec 64=>[v64 p.1,v64 p.2]) t_1.toList⟩,⟨some (b2,32),e64 s2.2.toList⟩,⟨some (b2,48),[v64 0#64]⟩,⟨some (b2,49),[v64 0#64]⟩,⟨some (b5,0),[v64 t_4.1]⟩,⟨some (b5,1),[v64 t_4.2]⟩] ⟨rfl,rfl,rfl,rfl,trivial⟩ rfl ?_
     refine TA_all (rs:=[7]) (by kernel_rfl) rfl ?_
     refine ⟨?_,trivial⟩
     refine TO_n (is:=[]) (done':=dn 8 255) rfl rfl rfl (by kernel_rfl) (E_store (j:=1) rfl rfl inf54 rfl rfl rfl (by simpa using (toNat_lt h5.1 h5.2)) (cs':=e64 ((vp s2.2 ((s2.1).toNat) t_4.1).toList)) set_vec) (fun _ _=>rfl) (fun _=>?_)
     refine TA_reE (j:=1) (A:=some (b2,32)) (cs:=e64 ((vp s2.2 ((s2.1).toNat) t_4.1).toList)) (cs':=e64 m_3.toList) rfl (congrArg (fun z:Vx 64 16=>e64 (Vector.toList z)) hm_3) ?_
     refine TA_done (by kernel_rfl) ?_ 0
     refine TX_block_normal (TX_next (TC_region (TLv (V_bin rfl rfl (fun w=>addI w s2.1 1)) ?_)))
     refine TVm ?_
     refine TL_nil ?_
     obtain rfl:=sj H
     exact TXk [0,0,0,0] (hK (w64 (s2.1+1),m_3) rfl ())
   ·refine TC_exit (TX_then_exit (TX_then_exit ?_))
    obtain rfl:=sj H
    exact TXj [0,0,0,0] (hE s2.2 rfl ())
  ·intro g
   refine TX_block_exit (TX_next (TC_seq (TC_region (TVm ?_))))
   refine TVa ?_
   refine TL_nil (TX_next (TC_ret ?_))
   obtain rfl:=sj H
   exact TX_ret (rs:=[.tmp 2]) (vs:=[ptr (some (b2,0)) 0]) rfl ⟨rfl,trivial⟩ (fun w' hs'=>⟨b2,rfl,Step.left (Step.pulled (is:=[0,0,0,0]) (A:=[⟨some (b2,0),eF (fun p:BitVec 64 × BitVec 64=>[v64 p.1,v64 p.2]) t_1.toList⟩,⟨some (b2,32),e64 t_3.toList⟩,⟨some (b2,48),[v64 0#64]⟩,⟨some (b2,49),[v64 0#64]⟩]) hs' rfl)⟩)
end Go.Proofs
end

section
namespace Go.Proofs
open Go Go.Kx
open TryI Try
def gcm_load.b0 (b:List (BitVec 8)) (s0:Int × BitVec 64 × BitVec 64):Option ((Int × BitVec 64 × BitVec 64) ⊕ (BitVec 64 × BitVec 64)) :=
 if s0.1<8 then (if 0≤s0.1∧s0.1<((b).length:Int) then (if 0≤w64 (8+s0.1)∧w64 (8+s0.1)<((b).length:Int) then (some (.inl (w64 (s0.1+1),(s0.2.1 <<< 8) ||| ((lg b ((s0.1).toNat)).setWidth 64),(s0.2.2 <<< 8) ||| ((lg b ((w64 (8+s0.1)).toNat)).setWidth 64)))) else none) else none) else (some (.inr (s0.2.1,s0.2.2)))
def gcm_load (b:List (BitVec 8)):Option (BitVec 64 × BitVec 64) :=
 (loop (gcm_load.b0 b) BIG (0,0#64,0#64)).bind fun (t_1:BitVec 64 × BitVec 64)=>(some (t_1.1,t_1.2))
set_option maxHeartbeats 4000000 in
set_option maxRecDepth 20000 in
theorem F29_calls (Ab:Adr) (cb:Nat) (b:List (BitVec 8)) (hcb:(b).length≤cb) (r:BitVec 64 × BitVec 64) (H:gcm_load b=some r) :
  Does Try.prog 29 [sl Ab ((b).length) cb] [] [⟨Ab,e8 b⟩] (Γ:=Unit) (fun g=>aG [(1,[v64 r.1]),(1,[v64 r.2])]) (fun g=>[]):=by
 intro w hmem hro hd
 refine calls_of (N:=31) (m0:=[(0,sl Ab ((b).length) cb)]) func29 rfl ntmps29 (argM_ok [sl Ab ((b).length) cb]) rfl hmem hro hd ?_
 unfold gcm_load at H
 refine TC_seq (TC_region (TLe (E_allocP [(1,[v64 0#64]),(1,[v64 0#64])] inf56 zer56 ⟨rfl,rfl,trivial⟩) (fun b1=>?_)))
 refine TL_nil (TX_next (TC_seq (TC_region (TLe (E_allocP [(1,[v64 0#64]),(1,[v64 0#64])] inf56 zer56 ⟨rfl,rfl,trivial⟩) (fun b2=>?_)))))
 refine TL_nil (TX_next (TC_seq (TC_seq (TC_region (TVm ?_)))))
 refine TL_nil (TX_next (TC_block ?_))
 obtain ⟨t_1,Hl,H⟩:=bind_elim H
 refine TC.sub (m':=[(0,_),(2,_),(3,_),(5,_)]) ⟨rfl,rfl,rfl,rfl,trivial⟩ ?_
 refine TC.pull (is:=[2,2,0,0]) (L':=[_,_,_,_]) rfl ?_
 refine TC_loopL (id:=0) (body:=(gcm_load.b0 b)) (σ:=Int × BitVec 64 × BitVec 64) (Γ:=Unit) (Γx:=Unit) (fun s0 g0_=>[(0,sl Ab ((b).length) cb),(2,ptr (some (b1,0)) 0),(3,ptr (some (b2,0)) 0),(5,vi s0.1)]) (fun s0 g0_=>[⟨some (b1,0),[v64 0#64]⟩,⟨some (b1,1),[v64 0#64]⟩,⟨some (b2,0),[v64 s0.2.1]⟩,⟨some (b2,1),[v64 s0.2.2]⟩]) (fun t g=>[(2,ptr (some (b1,0)) 0),(3,ptr (some (b2,0)) 0)]) (fun t g=>[⟨some (b1,0),[v64 0#64]⟩,⟨some (b1,1),[v64 0#64]⟩,⟨some (b2,0),[v64 t.1]⟩,⟨some (b2,1),[v64 t.2]⟩]) ?_ BIG (0,0#64,0#64) () t_1 Hl ?_
 ·intro s0 g0_ r1 H K hK hE
  unfold gcm_load.b0 at H
  refine TC_seq (TC_region (TLv (V_bin rfl rfl (fun w=>lssI w s0.1 8)) ?_))
  refine TL_nil (TX_next (TC_seq (TCd H (fun hc H=>?_) (fun hc H=>?_))))
  ·refine TC_skip (TX_next (TC_seq (TC_block (TC_seq (TC_region (TVm ?_))))))
   refine TVa ?_
   refine TL_nil (TX_next (TC_seq ?_))
   obtain ⟨h1,H⟩:=if_elim H
   refine TA_begin [] 11 (by kernel_rfl) (N:=11) rfl ?_
   refine TA_mix (is:=[]) (done':=dn 11 1023) [itV 0 8 (ptr (some (b2,0)) 0) [],itV 1 9 (v64 s0.2.1) [0],itV 2 10 (v64 (s0.2.1 <<< 8)) [1],itV 3 11 (sl Ab ((b).length) cb) [],itV 4 12 (vi s0.1) [],itV 5 13 (ptr Ab ((s0.1).toNat)) [3,4],itV 6 14 (v8 (lg b ((s0.1).toNat))) [5],itV 7 15 (v64 ((lg b ((s0.1).toNat)).setWidth 64)) [6],itV 8 16 (v64 ((s0.2.1 <<< 8) ||| ((lg b ((s0.1).toNat)).setWidth 64))) [2,7],itV 9 17 (ptr (some (b2,0)) 0) []] [] 1 (by kernel_rfl) (QP.then (QP.block (QP.then (QP.then (QP.block (QP.then QP.body)))))) (by kernel_rfl) rfl (.v rfl (V_fe underlying56 inf54) (.v rfl (V_load rfl (.o 2) rfl isAgg54) (.v rfl (V_bin rfl rfl (fun w=>shl64 w s0.2.1 .u64 8 (by decide))) (.v rfl (V_move rfl) (.v rfl (V_move rfl) (.v rfl (V_idxSlS (i:=s0.1) rfl rfl underlying33 inf5 rfl (.r 0) (map_ne (toNat_lt h1.1 h1.2)) h1.1 h1.2 (k:=(s0.1).toNat) (km1 _)) (.v rfl (V_load rfl (.r 0) (get_map (f:=v8) (l:=b) (toNat_lt h1.1 h1.2)) isAgg5) (.v rfl (V_conv rfl (fun w=>cv8to64 w _ _ underlying54 (und5) (lg b ((s0.1).toNat)))) (.v rfl (V_bin rfl rfl (fun w=>or64 w (s0.2.1 <<< 8) ((lg b ((s0.1).toNat)).setWidth 64))) (.v rfl (V_fe underlying56 inf54) .nil)))))))))) .nil (by kernel_rfl) rfl (fun γ=>?_)
   refine TA_cut [(17,ptr (some (b2,0)) 0),(16,v64 ((s0.2.1 <<< 8) ||| ((lg b ((s0.1).toNat)).setWidth 64))),(4,vi s0.1),(0,sl Ab ((b).length) cb),(2,ptr (some (b1,0)) 0),(3,ptr (some (b2,0)) 0),(5,vi s0.1)] [⟨some (b1,0),[v64 0#64]⟩,⟨some (b1,1),[v64 0#64]⟩,⟨some (b2,0),[v64 s0.2.1]⟩,⟨some (b2,1),[v64 s0.2.2]⟩] ⟨rfl,rfl,rfl,rfl,rfl,rfl,rfl,trivial⟩ rfl ?_
   refine TA_all (rs:=[10]) (by kernel_rfl) rfl ?_
   refine ⟨?_,trivial⟩
   refine TO_n (is:=[]) (done':=dn 11 2047) rfl rfl rfl (by kernel_rfl) (E_store (j:=2) rfl rfl inf54 rfl rfl rfl (Nat.lt_succ_self 0) (cs':=[v64 ((s0.2.1 <<< 8) ||| ((lg b ((s0.1).toNat)).setWidth 64))]) rfl) (fun _ _=>rfl) (fun _=>?_)
   refine TA_done (by kernel_rfl) ?_ 0
   refine TX_next ?_
   obtain ⟨h2,H⟩:=if_elim H
   refine TA_begin [] 12 (by kernel_rfl) (N:=12) rfl ?_
   refine TA_mix (is:=[]) (done':=dn 12 2047) [itV 0 18 (ptr (some (b2,1)) 0) [],itV 1 19 (v64 s0.2.2) [0],itV 2 20 (v64 (s0.2.2 <<< 8)) [1],itV 3 21 (sl Ab ((b).length) cb) [],itV 4 22 (vi s0.1) [],itV 5 23 (vi (w64 (8+s0.1))) [4],itV 6 24 (ptr Ab ((w64 (8+s0.1)).toNat)) [3,5],itV 7 25 (v8 (lg b ((w64 (8+s0.1)).toNat))) [6],itV 8 26 (v64 ((lg b ((w64 (8+s0.1)).toNat)).setWidth 64)) [7],itV 9 27 (v64 ((s0.2.2 <<< 8) ||| ((lg b ((w64 (8+s0.1)).toNat)).setWidth 64))) [8,2],itV 10 28 (ptr (some (b2,1)) 0) []] [] 1 (by kernel_rfl) (QP.block (QP.then (QP.then (QP.block (QP.then QP.body))))) (by kernel_rfl) rfl (.v rfl (V_fe underlying56 inf54) (.v rfl (V_load rfl (.o 3) rfl isAgg54) (.v rfl (V_bin rfl rfl (fun w=>shl64 w s0.2.2 .u64 8 (by decide))) (.v rfl (V_move rfl) (.v rfl (V_move rfl) (.v rfl (V_bin rfl rfl (fun w=>addI w 8 s0.1)) (.v rfl (V_idxSlS (i:=w64 (8+s0.1)) rfl rfl underlying33 inf5 rfl (.r 0) (map_ne (toNat_lt h2.1 h2.2)) h2.1 h2.2 (k:=(w64 (8+s0.1)).toNat) (km1 _)) (.v rfl (V_load rfl (.r 0) (get_map (f:=v8) (l:=b) (toNat_lt h2.1 h2.2)) isAgg5) (.v rfl (V_conv rfl (fun w=>cv8to64 w _ _ underlying54 (und5) (lg b ((w64 (8+s0.1)).toNat)))) (.v rfl (V_bin rfl rfl (fun w=>or64 w (s0.2.2 <<< 8) ((lg b ((w64 (8+s0.1)).toNat)).setWidth 64))) (.v rfl (V_fe underlying56 inf54) .nil))))))))))) .nil (by kernel_rfl) rfl (fun γ=>?_)
   refine TA_cut [(28,ptr (some (b2,1)) 0),(27,v64 ((s0.2.2 <<< 8) ||| ((lg b ((w64 (8+s0.1)).toNat)).setWidth 64))),(0,sl Ab ((b).length) cb),(2,ptr (some (b1,0)) 0),(3,ptr (some (b2,0)) 0),(5,vi s0.1)] [⟨some (b1,0),[v64 0#64]⟩,⟨some (b1,1),[v64 0#64]⟩,⟨some (b2,0),[v64 ((s0.2.1 <<< 8) ||| ((lg b ((s0.1).toNat)).setWidth 64))]⟩,⟨some (b2,1),[v64 s0.2.2]⟩] ⟨rfl,rfl,rfl,rfl,rfl,rfl,trivial⟩ rfl ?_
   refine TA_all (rs:=[11]) (by kernel_rfl) rfl ?_
   refine ⟨?_,trivial⟩
   refine TO_n (is:=[]) (done':=dn 12 4095) rfl rfl rfl (by kernel_rfl) (E_store (j:=3) rfl rfl inf54 rfl rfl rfl (Nat.lt_succ_self 0) (cs':=[v64 ((s0.2.2 <<< 8) ||| ((lg b ((w64 (8+s0.1)).toNat)).setWidth 64))]) rfl) (fun _ _=>rfl) (fun _=>?_)
   refine TA_done (by kernel_rfl) ?_ 0
   refine TX_block_normal (TX_next (TC_region (TLv (V_bin rfl rfl (fun w=>addI w s0.1 1)) ?_)))
   refine TVm ?_
   refine TL_nil ?_
   obtain rfl:=sj H
   exact TXk [0,0,0,0] (hK (w64 (s0.1+1),(s0.2.1 <<< 8) ||| ((lg b ((s0.1).toNat)).setWidth 64),(s0.2.2 <<< 8) ||| ((lg b ((w64 (8+s0.1)).toNat)).setWidth 64)) rfl ())
  ·refine TC_exit (TX_then_exit (TX_then_exit ?_))
   obtain rfl:=sj H
   exact TXj [0,0,0,0] (hE (s0.2.1,s0.2.2) rfl ())
 ·intro g
  refine TX_block_exit (TX_next (TC_seq (TC_region (TLv (V_loadAgg (n:=2) (cs:=flat [(1,[v64 t_1.1]),(1,[v64 t_1.2])]) rfl (by simp) (SrcEnts (b:=b2) [(1,[v64 t_1.1]),(1,[v64 t_1.2])] 0 ⟨rfl,rfl,trivial⟩ (AllSrc.all (M:=ents b2 0 [(1,[v64 t_1.1]),(1,[v64 t_1.2])]) ⟨Src.own (j:=2) rfl,Src.own (j:=3) rfl,trivial⟩)) isAgg56 inf56 rfl (flat_len ⟨rfl,rfl,trivial⟩ rfl)) ?_))))
  refine TLn (E_sp (b:=b1) (o:=0) [0,0] [(1,[v64 0#64]),(1,[v64 0#64])] [(1,[v64 t_1.1]),(1,[v64 t_1.2])] rfl inf56 ⟨rfl,rfl,trivial⟩ ⟨rfl,rfl,trivial⟩ ⟨(OneC.cons rfl OneC.nil),(OneC.cons rfl OneC.nil),trivial⟩) (fun _=>?_)
  refine TL_nil (TX_next (TC_ret ?_))
  obtain rfl:=sj H
  exact TXr (vs:=[_]) rfl ⟨(Res_agg (n:=2) (cs:=flat [(1,[v64 t_1.1]),(1,[v64 t_1.2])]) rfl (by simp) (SrcEnts (b:=b1) [(1,[v64 t_1.1]),(1,[v64 t_1.2])] 0 ⟨rfl,rfl,trivial⟩ (AllSrc.all (M:=ents b1 0 [(1,[v64 t_1.1]),(1,[v64 t_1.2])]) ⟨Src.own (j:=0) rfl,Src.own (j:=1) rfl,trivial⟩)) isAgg56 inf56 rfl (by simp [flat])),trivial⟩
end Go.Proofs
end

section
namespace Go.Proofs
open Go Go.Kx
open TryI Try
def gcm_sum_add.b0 (s_table:Vector (BitVec 64 × BitVec 64) 16) (s_folds:Vx 64 16) (s_y_high:BitVec 64) (s_y_low:BitVec 64) (r_1:BitVec 64 × BitVec 64) (s0:Int × BitVec 64 × BitVec 64):Option ((Int × BitVec 64 × BitVec 64) ⊕ (BitVec 64 × BitVec 64)) :=
 if s0.1<32 then (if 0≤w64 (4 * (s0.1.tmod 16)) then (ltt (((r_1.2 ^^^ s_y_low) >>> (w64 (4 * (s0.1.tmod 16))).toNat) &&& 15#64) fun (digit1:BitVec 64)=>((if 16≤s0.1 then (if 0≤w64 (4 * (s0.1.tmod 16)) then (ltt (((r_1.1 ^^^ s_y_high) >>> (w64 (4 * (s0.1.tmod 16))).toNat) &&& 15#64) fun (digit2:BitVec 64)=>(some digit2)) else none) else (some digit1)).bind fun (j1:BitVec 64)=>(if 0≤((s0.2.2 &&& 15#64).toNat:Int)∧((s0.2.2 &&& 15#64).toNat:Int)<(16:Int) then (if 0≤((j1).toNat:Int)∧((j1).toNat:Int)<(16:Int) then (if 0≤((j1).toNat:Int)∧((j1).toNat:Int)<(16:Int) then (some (.inl (w64 (s0.1+1),((s0.2.1 >>> 4) ^^^ (vg s_folds ((s0.2.2 &&& 15#64).toNat))) ^^^ ((vg s_table ((j1).toNat)).1),((s0.2.2 >>> 4) ||| (s0.2.1 <<< 60)) ^^^ ((vg s_table ((j1).toNat)).2)))) else none) else none) else none))) else none) else (some (.inr (s0.2.1,s0.2.2)))
def gcm_sum_add (s_table:Vector (BitVec 64 × BitVec 64) 16) (s_folds:Vx 64 16) (s_y_high:BitVec 64) (s_y_low:BitVec 64) (b:List (BitVec 8)):Option (BitVec 64 × BitVec 64) :=
 (gcm_load b).bind fun (r_1:BitVec 64 × BitVec 64)=>((loop (gcm_sum_add.b0 s_table s_folds s_y_high s_y_low r_1) BIG (0,0#64,0#64)).bind fun (t_1:BitVec 64 × BitVec 64)=>(some (t_1.1,t_1.2)))
set_option maxHeartbeats 4000000 in
set_option maxRecDepth 20000 in
theorem F37_calls (bs:Nat) (obs:Nat) (Ab:Adr) (cb:Nat) (s_table:Vector (BitVec 64 × BitVec 64) 16) (s_folds:Vx 64 16) (s_y_high:BitVec 64) (s_y_low:BitVec 64) (b:List (BitVec 8)) (hcb:(b).length≤cb) (r:BitVec 64 × BitVec 64) (H:gcm_sum_add s_table s_folds s_y_high s_y_low b=some r) :
  Does Try.prog 37 [ptr (some (bs,obs)) 0,sl Ab ((b).length) cb] [⟨some (bs,obs+48),[v64 s_y_high]⟩,⟨some (bs,obs+49),[v64 s_y_low]⟩] [⟨some (bs,obs),eF (fun p:BitVec 64 × BitVec 64=>[v64 p.1,v64 p.2]) s_table.toList⟩,⟨some (bs,obs+32),e64 s_folds.toList⟩,⟨Ab,e8 b⟩] (Γ:=Unit) (fun g=>Value.tuple [].toArray) (fun g=>[⟨some (bs,obs+48),[v64 r.1]⟩,⟨some (bs,obs+49),[v64 r.2]⟩]):=by
 intro w hmem hro hd
 refine calls_of (N:=94) (m0:=[(0,ptr (some (bs,obs)) 0),(1,sl Ab ((b).length) cb)]) func37 rfl ntmps37 (argM_ok [ptr (some (bs,obs)) 0,sl Ab ((b).length) cb]) rfl hmem hro hd ?_
 unfold gcm_sum_add at H
 refine TC_seq (TC_region (TVm ?_))
 obtain ⟨r_1,hr_1,H⟩:=bind_elim H
 refine TLe (E_c0 (F29_calls Ab cb b hcb r_1 hr_1) call29 ⟨.r 2,trivial⟩) (fun g_1=>?_)
 refine TLe (E_allocP [(1,[v64 0#64]),(1,[v64 0#64])] inf56 zer56 ⟨rfl,rfl,trivial⟩) (fun b1=>?_)
 refine TLn (E_sp (b:=b1) (o:=0) [0,0] [(1,[v64 0#64]),(1,[v64 0#64])] [(1,[v64 r_1.1]),(1,[v64 r_1.2])] rfl inf56 ⟨rfl,rfl,trivial⟩ ⟨rfl,rfl,trivial⟩ ⟨(OneC.cons rfl OneC.nil),(OneC.cons rfl OneC.nil),trivial⟩) (fun _=>?_)
 refine TL_nil (TX_next (TC_seq (TA_begin [] 10 (by kernel_rfl) (N:=10) rfl ?_)))
 refine TA_mix (is:=[]) (done':=dn 10 511) [itV 0 10 (ptr (some (b1,0)) 0) [],itV 1 11 (v64 r_1.1) [0],itV 2 12 (ptr (some (bs,obs)) 0) [],itV 3 13 (ptr (some (bs,obs)) 0) [2],itV 4 14 (ptr (some (bs,obs+48)) 0) [3],itV 5 15 (ptr (some (bs,obs+48)) 0) [4],itV 6 16 (v64 s_y_high) [5],itV 7 17 (v64 (r_1.1 ^^^ s_y_high)) [6,1],itV 8 18 (ptr (some (b1,0)) 0) []] [] 1 (by kernel_rfl) (QP.then QP.body) (by kernel_rfl) rfl (.v rfl (V_fe underlying56 inf54) (.v rfl (V_load rfl (.o 0) rfl isAgg54) (.v rfl (V_move rfl) (.v rfl (V_nilCheck rfl) (.v rfl (V_fe underlying62 inf56) (.v rfl (V_fe underlying56 inf54) (.v rfl (V_load rfl (.o 2) rfl isAgg54) (.v rfl (V_bin rfl rfl (fun w=>xor64 w r_1.1 s_y_high)) (.v rfl (V_fe underlying56 inf54) .nil))))))))) .nil (by kernel_rfl) rfl (fun γ=>?_)
 refine TA_cut [(18,ptr (some (b1,0)) 0),(17,v64 (r_1.1 ^^^ s_y_high)),(4,ptr (some (b1,0)) 0),(0,ptr (some (bs,obs)) 0)] [⟨some (b1,0),[v64 r_1.1]⟩,⟨some (b1,1),[v64 r_1.2]⟩,⟨some (bs,obs+48),[v64 s_y_high]⟩,⟨some (bs,obs+49),[v64 s_y_low]⟩] ⟨rfl,rfl,rfl,rfl,trivial⟩ rfl ?_
 refine TA_all (rs:=[9]) (by kernel_rfl) rfl ?_
 refine ⟨?_,trivial⟩
 refine TO_n (is:=[]) (done':=dn 10 1023) rfl rfl rfl (by kernel_rfl) (E_store (j:=0) rfl rfl inf54 rfl rfl rfl (Nat.lt_succ_self 0) (cs':=[v64 (r_1.1 ^^^ s_y_high)]) rfl) (fun _ _=>rfl) (fun _=>?_)
 refine TA_done (by kernel_rfl) ?_ 0
 refine TX_next (TC_seq (TA_begin [] 10 (by kernel_rfl) (N:=10) rfl ?_))
 refine TA_mix (is:=[]) (done':=dn 10 511) [itV 0 19 (ptr (some (b1,1)) 0) [],itV 1 20 (v64 r_1.2) [0],itV 2 21 (ptr (some (bs,obs)) 0) [],itV 3 22 (ptr (some (bs,obs)) 0) [2],itV 4 23 (ptr (some (bs,obs+48)) 0) [3],itV 5 24 (ptr (some (bs,obs+49)) 0) [4],itV 6 25 (v64 s_y_low) [5],itV 7 26 (v64 (r_1.2 ^^^ s_y_low)) [6,1],itV 8 27 (ptr (some (b1,1)) 0) []] [] 1 (by kernel_rfl) (QP.then QP.body) (by kernel_rfl) rfl (.v rfl (V_fe underlying56 inf54) (.v rfl (V_load rfl (.o 1) rfl isAgg54) (.v rfl (V_move rfl) (.v rfl (V_nilCheck rfl) (.v rfl (V_fe underlying62 inf56) (.v rfl (V_fe underlying56 inf54) (.v rfl (V_load rfl (.o 3) rfl isAgg54) (.v rfl (V_bin rfl rfl (fun w=>xor64 w r_1.2 s_y_low)) (.v rfl (V_fe underlying56 inf54) .nil))))))))) .nil (by kernel_rfl) rfl (fun γ=>?_)
 refine TA_cut [(27,ptr (some (b1,1)) 0),(26,v64 (r_1.2 ^^^ s_y_low)),(4,ptr (some (b1,0)) 0),(0,ptr (some (bs,obs)) 0)] [⟨some (b1,0),[v64 (r_1.1 ^^^ s_y_high)]⟩,⟨some (b1,1),[v64 r_1.2]⟩,⟨some (bs,obs+48),[v64 s_y_high]⟩,⟨some (bs,obs+49),[v64 s_y_low]⟩] ⟨rfl,rfl,rfl,rfl,trivial⟩ rfl ?_
 refine TA_all (rs:=[9]) (by kernel_rfl) rfl ?_
 refine ⟨?_,trivial⟩
 refine TO_n (is:=[]) (done':=dn 10 1023) rfl rfl rfl (by kernel_rfl) (E_store (j:=1) rfl rfl inf54 rfl rfl rfl (Nat.lt_succ_self 0) (cs':=[v64 (r_1.2 ^^^ s_y_low)]) rfl) (fun _ _=>rfl) (fun _=>?_)
 refine TA_done (by kernel_rfl) ?_ 0
 refine TX_next (TC_seq (TC_region (TLe (E_allocP [(1,[v64 0#64]),(1,[v64 0#64])] inf56 zer56 ⟨rfl,rfl,trivial⟩) (fun b2=>?_))))
 refine TL_nil (TX_next (TC_seq (TC_seq (TC_region (TVm ?_)))))
 refine TL_nil (TX_next (TC_block ?_))
 obtain ⟨t_1,Hl,H⟩:=bind_elim H
 refine TC.sub (m':=[(0,_),(4,_),(5,_),(28,_)]) ⟨rfl,rfl,rfl,rfl,trivial⟩ ?_
 refine TC.pull (is:=[4,4,2,2,0,0]) (L':=[_,_,_,_,_,_]) rfl ?_
 refine TC_loopL (id:=0) (body:=(gcm_sum_add.b0 s_table s_folds s_y_high s_y_low r_1)) (σ:=Int × BitVec 64 × BitVec 64) (Γ:=Unit) (Γx:=Unit) (fun s0 g0_=>[(0,ptr (some (bs,obs)) 0),(4,ptr (some (b1,0)) 0),(5,ptr (some (b2,0)) 0),(28,vi s0.1)]) (fun s0 g0_=>[⟨some (bs,obs+48),[v64 s_y_high]⟩,⟨some (bs,obs+49),[v64 s_y_low]⟩,⟨some (b1,0),[v64 (r_1.1 ^^^ s_y_high)]⟩,⟨some (b1,1),[v64 (r_1.2 ^^^ s_y_low)]⟩,⟨some (b2,0),[v64 s0.2.1]⟩,⟨some (b2,1),[v64 s0.2.2]⟩]) (fun t g=>[(0,ptr (some (bs,obs)) 0),(5,ptr (some (b2,0)) 0)]) (fun t g=>[⟨some (bs,obs+48),[v64 s_y_high]⟩,⟨some (bs,obs+49),[v64 s_y_low]⟩,⟨some (b2,0),[v64 t.1]⟩,⟨some (b2,1),[v64 t.2]⟩]) ?_ BIG (0,0#64,0#64) () t_1 Hl ?_
 ·intro s0 g0_ r1 H K hK hE
  unfold gcm_sum_add.b0 at H
  refine TC_seq (TC_region (TLv (V_bin rfl rfl (fun w=>lssI w s0.1 32)) ?_))
  refine TL_nil (TX_next (TC_seq (TCd H (fun hc H=>?_) (fun hc H=>?_))))
  ·refine TC_skip (TX_next (TC_seq (TC_block (TC_seq (TC_region (TVm ?_))))))
   refine TVa ?_
   refine TL_nil (TX_next (TC_seq (TC_region (TLv (V_fieldE rfl underlying56 rfl rfl inf54 rfl (v:=ptr (some (b1,1)) 0) rfl) ?_))))
   refine TLv (V_load rfl (.o 3) rfl isAgg54) ?_
   refine TVm ?_
   refine TLv (V_bin rfl rfl (fun w=>remI w s0.1 16 (by decide))) ?_
   refine TLv (V_bin rfl rfl (fun w=>mulI w 4 (s0.1.tmod 16))) ?_
   obtain ⟨h1,H⟩:=if_elim H
   refine TLv (V_bin rfl rfl (fun w=>shr64 w (r_1.2 ^^^ s_y_low) .i64 (w64 (4 * (s0.1.tmod 16))) h1)) ?_
   refine TLv (V_bin rfl rfl (fun w=>and64 w ((r_1.2 ^^^ s_y_low) >>> (w64 (4 * (s0.1.tmod 16))).toNat) 15#64)) ?_
   refine TVa ?_
   obtain ⟨digit1,hdigit1,H⟩:=ltt_elim H
   refine TLr 7 (congrArg v64 hdigit1) ?_
   refine TL_nil (TX_next (TC_seq (TC_seq (TC_region (TVm ?_)))))
   refine TLv (V_bin rfl rfl (fun w=>geqI w s0.1 16)) ?_
   refine TL_nil (TX_next ?_)
   obtain ⟨j1,Hj,H⟩:=bind_elim H
   refine TC_join (Γ:=Unit) (fun gj1=>[(0,ptr (some (bs,obs)) 0),(4,ptr (some (b1,0)) 0),(5,ptr (some (b2,0)) 0),(7,v64 j1),(28,vi s0.1)]) (fun gj1=>[⟨some (bs,obs+48),[v64 s_y_high]⟩,⟨some (bs,obs+49),[v64 s_y_low]⟩,⟨some (b1,0),[v64 (r_1.1 ^^^ s_y_high)]⟩,⟨some (b1,1),[v64 (r_1.2 ^^^ s_y_low)]⟩,⟨some (b2,0),[v64 s0.2.1]⟩,⟨some (b2,1),[v64 s0.2.2]⟩]) ?_ ?_
   ·intro gj1
    refine TX_next (TC_seq ?_)
    obtain ⟨h2,H⟩:=if_elim H
    refine TA_begin [] 21 (by kernel_rfl) (N:=21) rfl ?_
    refine TA_mix (is:=[]) (done':=dn 21 1048575) [itV 0 47 (ptr (some (b2,0)) 0) [],itV 1 48 (v64 s0.2.1) [0],itV 2 49 (v64 (s0.2.1 >>> 4)) [1],itV 3 50 (ptr (some (bs,obs)) 0) [],itV 4 51 (ptr (some (b2,1)) 0) [],itV 5 52 (v64 s0.2.2) [4],itV 6 53 (v64 (s0.2.2 &&& 15#64)) [5],itV 7 54 (ptr (some (bs,obs)) 0) [3],itV 8 55 (ptr (some (bs,obs+32)) 0) [7],itV 9 56 (ptr (some (bs,obs+32)) ((s0.2.2 &&& 15#64).toNat)) [6,8],itV 10 57 (v64 (vg s_folds ((s0.2.2 &&& 15#64).toNat))) [9],itV 11 58 (v64 ((s0.2.1 >>> 4) ^^^ (vg s_folds ((s0.2.2 &&& 15#64).toNat)))) [2,10],itV 12 59 (ptr (some (b2,1)) 0) [],itV 13 60 (v64 s0.2.2) [12],itV 14 61 (v64 (s0.2.2 >>> 4)) [13],itV 15 62 (ptr (some (b2,0)) 0) [],itV 16 63 (v64 s0.2.1) [15],itV 17 64 (v64 (s0.2.1 <<< 60)) [16],itV 18 65 (v64 ((s0.2.2 >>> 4) ||| (s0.2.1 <<< 60))) [17,14],itV 19 66 (aG [(1,[v64 ((s0.2.1 >>> 4) ^^^ (vg s_folds ((s0.2.2 &&& 15#64).toNat)))]),(1,[v64 ((s0.2.2 >>> 4) ||| (s0.2.1 <<< 60))])]) [18,11]] [] 1 (by kernel_rfl) (QP.then (QP.block (QP.then (QP.then (QP.block (QP.then QP.body)))))) (by kernel_rfl) rfl (.v rfl (V_fe underlying56 inf54) (.v rfl (V_load rfl (.o 4) rfl isAgg54) (.v rfl (V_bin rfl rfl (fun w=>shr64 w s0.2.1 .u64 4 (by decide))) (.v rfl (V_move rfl) (.v rfl (V_fe underlying56 inf54) (.v rfl (V_load rfl (.o 5) rfl isAgg54) (.v rfl (V_bin rfl rfl (fun w=>and64 w s0.2.2 15#64)) (.v rfl (V_nilCheck rfl) (.v rfl (V_fe underlying62 inf60) (.v rfl (V_idxArr (i:=((s0.2.2 &&& 15#64).toNat:Int)) rfl rfl underlying60 inf54 rfl h2.1 h2.2 (k:=(s0.2.2 &&& 15#64).toNat) (k01 _)) (.v rfl (V_load rfl (.r 1) (get_vec (f:=v64) (V:=s_folds) (toNat_lt h2.1 h2.2)) isAgg54) (.v rfl (V_bin rfl rfl (fun w=>xor64 w (s0.2.1 >>> 4) (vg s_folds ((s0.2.2 &&& 15#64).toNat)))) (.v rfl (V_fe underlying56 inf54) (.v rfl (V_load rfl (.o 5) rfl isAgg54) (.v rfl (V_bin rfl rfl (fun w=>shr64 w s0.2.2 .u64 4 (by decide))) (.v rfl (V_fe underlying56 inf54) (.v rfl (V_load rfl (.o 4) rfl isAgg54) (.v rfl (V_bin rfl rfl (fun w=>shl64 w s0.2.1 .u64 60 (by decide))) (.v rfl (V_bin rfl rfl (fun w=>or64 w (s0.2.2 >>> 4) (s0.2.1 <<< 60))) (.v rfl (V_buildStruct (pv:=[(0,v64 ((s0.2.1 >>> 4) ^^^ (vg s_folds ((s0.2.2 &&& 15#64).toNat)))),(1,v64 ((s0.2.2 >>> 4) ||| (s0.2.1 <<< 60)))]) (pl:=[(0,1),(1,1)]) rfl rfl underlying56 inf56 places56 zer56 (cs:=flat [(1,[v64 ((s0.2.1 >>> 4) ^^^ (vg s_folds ((s0.2.2 &&& 15#64).toNat)))]),(1,[v64 ((s0.2.2 >>> 4) ||| (s0.2.1 <<< 60))])]) (by kernel_rfl)) .nil)))))))))))))))))))) .nil (by kernel_rfl) rfl (fun γ=>?_)
    refine TA_cut [(66,aG [(1,[v64 ((s0.2.1 >>> 4) ^^^ (vg s_folds ((s0.2.2 &&& 15#64).toNat)))]),(1,[v64 ((s0.2.2 >>> 4) ||| (s0.2.1 <<< 60))])]),(0,ptr (some (bs,obs)) 0),(4,ptr (some (b1,0)) 0),(5,ptr (some (b2,0)) 0),(7,v64 j1),(28,vi s0.1)] [⟨some (bs,obs+48),[v64 s_y_high]⟩,⟨some (bs,obs+49),[v64 s_y_low]⟩,⟨some (b1,0),[v64 (r_1.1 ^^^ s_y_high)]⟩,⟨some (b1,1),[v64 (r_1.2 ^^^ s_y_low)]⟩,⟨some (b2,0),[v64 s0.2.1]⟩,⟨some (b2,1),[v64 s0.2.2]⟩] ⟨rfl,rfl,rfl,rfl,rfl,rfl,trivial⟩ rfl ?_
    refine TA_all (rs:=[20]) (by kernel_rfl) rfl ?_
    refine ⟨?_,trivial⟩
    refine TO_n (is:=[]) (done':=dn 21 2097151) rfl rfl rfl (by kernel_rfl) (E_sp (b:=b2) (o:=0) [4,4] [(1,[v64 s0.2.1]),(1,[v64 s0.2.2])] [(1,[v64 ((s0.2.1 >>> 4) ^^^ (vg s_folds ((s0.2.2 &&& 15#64).toNat)))]),(1,[v64 ((s0.2.2 >>> 4) ||| (s0.2.1 <<< 60))])] rfl inf56 ⟨rfl,rfl,trivial⟩ ⟨rfl,rfl,trivial⟩ ⟨(OneC.cons rfl OneC.nil),(OneC.cons rfl OneC.nil),trivial⟩) (fun _ _=>rfl) (fun _=>?_)
    refine TA_done (by kernel_rfl) ?_ 0
    refine TX_next (TC_seq ?_)
    obtain ⟨h3,H⟩:=if_elim H
    refine TA_begin [] 12 (by kernel_rfl) (N:=12) rfl ?_
    refine TA_mix (is:=[]) (done':=dn 12 2047) [itV 0 67 (ptr (some (b2,0)) 0) [],itV 1 68 (v64 ((s0.2.1 >>> 4) ^^^ (vg s_folds ((s0.2.2 &&& 15#64).toNat)))) [0],itV 2 69 (ptr (some (bs,obs)) 0) [],itV 3 70 (v64 j1) [],itV 4 71 (ptr (some (bs,obs)) 0) [2],itV 5 72 (ptr (some (bs,obs)) 0) [4],itV 6 73 (ptr (some (bs,obs)) (((j1).toNat) * 2)) [5,3],itV 7 74 (ptr (some (bs,obs)) (((j1).toNat) * 2+0)) [6],itV 8 75 (v64 ((vg s_table ((j1).toNat)).1)) [7],itV 9 76 (v64 (((s0.2.1 >>> 4) ^^^ (vg s_folds ((s0.2.2 &&& 15#64).toNat))) ^^^ ((vg s_table ((j1).toNat)).1))) [8,1],itV 10 77 (ptr (some (b2,0)) 0) []] [] 1 (by kernel_rfl) (QP.then (QP.block (QP.then (QP.then (QP.block (QP.then QP.body)))))) (by kernel_rfl) rfl (.v rfl (V_fe underlying56 inf54) (.v rfl (V_load rfl (.o 0) rfl isAgg54) (.v rfl (V_move rfl) (.v rfl (V_move rfl) (.v rfl (V_nilCheck rfl) (.v rfl (V_fe underlying62 inf59) (.v rfl (V_idxArr (i:=((j1).toNat:Int)) rfl rfl underlying59 inf56 rfl h3.1 h3.2 (k:=((j1).toNat) * 2) (k0 _ _)) (.v rfl (V_field rfl underlying56 rfl (k:=0) rfl inf54 rfl) (.v rfl (V_load rfl (.r 0) ((get_eF (g:=fun p:BitVec 64 × BitVec 64=>[v64 p.1,v64 p.2]) (s:=2) (fun _=>rfl) s_table.toList ((j1).toNat) 0 (lt_list (toNat_lt h3.1 h3.2)) (by decide:0<2)).trans rfl) isAgg54) (.v rfl (V_bin rfl rfl (fun w=>xor64 w ((s0.2.1 >>> 4) ^^^ (vg s_folds ((s0.2.2 &&& 15#64).toNat))) ((vg s_table ((j1).toNat)).1))) (.v rfl (V_fe underlying56 inf54) .nil))))))))))) .nil (by kernel_rfl) rfl (fun γ=>?_)
    refine TA_cut [(77,ptr (some (b2,0)) 0),(76,v64 (((s0.2.1 >>> 4) ^^^ (vg s_folds ((s0.2.2 &&& 15#64).toNat))) ^^^ ((vg s_table ((j1).toNat)).1))),(0,ptr (some (bs,obs)) 0),(4,ptr (some (b1,0)) 0),(5,ptr (some (b2,0)) 0),(7,v64 j1),(28,vi s0.1)] [⟨some (b2,0),[v64 ((s0.2.1 >>> 4) ^^^ (vg s_folds ((s0.2.2 &&& 15#64).toNat)))]⟩,⟨some (b2,1),[v64 ((s0.2.2 >>> 4) ||| (s0.2.1 <<< 60))]⟩,⟨some (bs,obs+48),[v64 s_y_high]⟩,⟨some (bs,obs+49),[v64 s_y_low]⟩,⟨some (b1,0),[v64 (r_1.1 ^^^ s_y_high)]⟩,⟨some (b1,1),[v64 (r_1.2 ^^^ s_y_low)]⟩] ⟨rfl,rfl,rfl,rfl,rfl,rfl,rfl,trivial⟩ rfl ?_
    refine TA_all (rs:=[11]) (by kernel_rfl) rfl ?_
    refine ⟨?_,trivial⟩
    refine TO_n (is:=[]) (done':=dn 12 4095) rfl rfl rfl (by kernel_rfl) (E_store (j:=0) rfl rfl inf54 rfl rfl rfl (Nat.lt_succ_self 0) (cs':=[v64 (((s0.2.1 >>> 4) ^^^ (vg s_folds ((s0.2.2 &&& 15#64).toNat))) ^^^ ((vg s_table ((j1).toNat)).1))]) rfl) (fun _ _=>rfl) (fun _=>?_)
    refine TA_done (by kernel_rfl) ?_ 0
    refine TX_next ?_
    obtain ⟨h4,H⟩:=if_elim H
    refine TA_begin [] 12 (by kernel_rfl) (N:=12) rfl ?_
    refine TA_mix (is:=[]) (done':=dn 12 2047) [itV 0 78 (ptr (some (b2,1)) 0) [],itV 1 79 (v64 ((s0.2.2 >>> 4) ||| (s0.2.1 <<< 60))) [0],itV 2 80 (ptr (some (bs,obs)) 0) [],itV 3 81 (v64 j1) [],itV 4 82 (ptr (some (bs,obs)) 0) [2],itV 5 83 (ptr (some (bs,obs)) 0) [4],itV 6 84 (ptr (some (bs,obs)) (((j1).toNat) * 2)) [3,5],itV 7 85 (ptr (some (bs,obs)) (((j1).toNat) * 2+1)) [6],itV 8 86 (v64 ((vg s_table ((j1).toNat)).2)) [7],itV 9 87 (v64 (((s0.2.2 >>> 4) ||| (s0.2.1 <<< 60)) ^^^ ((vg s_table ((j1).toNat)).2))) [8,1],itV 10 88 (ptr (some (b2,1)) 0) []] [] 1 (by kernel_rfl) (QP.block (QP.then (QP.then (QP.block (QP.then QP.body))))) (by kernel_rfl) rfl (.v rfl (V_fe underlying56 inf54) (.v rfl (V_load rfl (.o 1) rfl isAgg54) (.v rfl (V_move rfl) (.v rfl (V_move rfl) (.v rfl (V_nilCheck rfl) (.v rfl (V_fe underlying62 inf59) (.v rfl (V_idxArr (i:=((j1).toNat:Int)) rfl rfl underlying59 inf56 rfl h4.1 h4.2 (k:=((j1).toNat) * 2) (k0 _ _)) (.v rfl (V_field rfl underlying56 rfl (k:=1) rfl inf54 rfl) (.v rfl (V_load rfl (.r 0) ((get_eF (g:=fun p:BitVec 64 × BitVec 64=>[v64 p.1,v64 p.2]) (s:=2) (fun _=>rfl) s_table.toList ((j1).toNat) 1 (lt_list (toNat_lt h4.1 h4.2)) (by decide:1<2)).trans rfl) isAgg54) (.v rfl (V_bin rfl rfl (fun w=>xor64 w ((s0.2.2 >>> 4) ||| (s0.2.1 <<< 60)) ((vg s_table ((j1).toNat)).2))) (.v rfl (V_fe underlying56 inf54) .nil))))))))))) .nil (by kernel_rfl) rfl (fun γ=>?_)
    refine TA_cut [(88,ptr (some (b2,1)) 0),(87,v64 (((s0.2.2 >>> 4) ||| (s0.2.1 <<< 60)) ^^^ ((vg s_table ((j1).toNat)).2))),(0,ptr (some (bs,obs)) 0),(4,ptr (some (b1,0)) 0),(5,ptr (some (b2,0)) 0),(28,vi s0.1)] [⟨some (b2,0),[v64 (((s0.2.1 >>> 4) ^^^ (vg s_folds ((s0.2.2 &&& 15#64).toNat))) ^^^ ((vg s_table ((j1).toNat)).1))]⟩,⟨some (b2,1),[v64 ((s0.2.2 >>> 4) ||| (s0.2.1 <<< 60))]⟩,⟨some (bs,obs+48),[v64 s_y_high]⟩,⟨some (bs,obs+49),[v64 s_y_low]⟩,⟨some (b1,0),[v64 (r_1.1 ^^^ s_y_high)]⟩,⟨some (b1,1),[v64 (r_1.2 ^^^ s_y_low)]⟩] ⟨rfl,rfl,rfl,rfl,rfl,rfl,trivial⟩ rfl ?_
    refine TA_all (rs:=[11]) (by kernel_rfl) rfl ?_
    refine ⟨?_,trivial⟩
    refine TO_n (is:=[]) (done':=dn 12 4095) rfl rfl rfl (by kernel_rfl) (E_store (j:=1) rfl rfl inf54 rfl rfl rfl (Nat.lt_succ_self 0) (cs':=[v64 (((s0.2.2 >>> 4) ||| (s0.2.1 <<< 60)) ^^^ ((vg s_table ((j1).toNat)).2))]) rfl) (fun _ _=>rfl) (fun _=>?_)
    refine TA_done (by kernel_rfl) ?_ 0
    refine TX_block_normal (TX_next (TC_region (TLv (V_bin rfl rfl (fun w=>addI w s0.1 1)) ?_)))
    refine TVm ?_
    refine TL_nil ?_
    obtain rfl:=sj H
    exact TXk [2,2,2,2,0,0] (hK (w64 (s0.1+1),((s0.2.1 >>> 4) ^^^ (vg s_folds ((s0.2.2 &&& 15#64).toNat))) ^^^ ((vg s_table ((j1).toNat)).1),((s0.2.2 >>> 4) ||| (s0.2.1 <<< 60)) ^^^ ((vg s_table ((j1).toNat)).2)) rfl ())
   ·intro hJ
    replace H:=Hj
    refine TCd H (fun hc H=>?_) (fun hc H=>?_)
    ·refine TC_region (TLv (V_fieldE rfl underlying56 rfl rfl inf54 rfl (v:=ptr (some (b1,0)) 0) rfl) ?_)
     refine TLv (V_load rfl (.o 2) rfl isAgg54) ?_
     refine TVm ?_
     refine TLv (V_bin rfl rfl (fun w=>remI w s0.1 16 (by decide))) ?_
     refine TLv (V_bin rfl rfl (fun w=>mulI w 4 (s0.1.tmod 16))) ?_
     obtain ⟨h5,H⟩:=if_elim H
     refine TLv (V_bin rfl rfl (fun w=>shr64 w (r_1.1 ^^^ s_y_high) .i64 (w64 (4 * (s0.1.tmod 16))) h5)) ?_
     refine TLv (V_bin rfl rfl (fun w=>and64 w ((r_1.1 ^^^ s_y_high) >>> (w64 (4 * (s0.1.tmod 16))).toNat) 15#64)) ?_
     refine TVa ?_
     obtain ⟨digit2,hdigit2,H⟩:=ltt_elim H
     refine TLr 7 (congrArg v64 hdigit2) ?_
     refine TL_nil ?_
     obtain rfl:=sj H
     exact TXj [0,0,0,0,0,0] (hJ ())
    ·refine TC_skip ?_
     obtain rfl:=sj H
     exact TXj [0,0,0,0,0,0] (hJ ())
  ·refine TC_exit (TX_then_exit (TX_then_exit ?_))
   obtain rfl:=sj H
   exact TXj [0,0,2,2] (hE (s0.2.1,s0.2.2) rfl ())
 ·intro g
  refine TX_block_exit (TX_next (TC_region (TVm ?_)))
  refine TLv (V_loadAgg (n:=2) (cs:=flat [(1,[v64 t_1.1]),(1,[v64 t_1.2])]) rfl (by simp) (SrcEnts (b:=b2) [(1,[v64 t_1.1]),(1,[v64 t_1.2])] 0 ⟨rfl,rfl,trivial⟩ (AllSrc.all (M:=ents b2 0 [(1,[v64 t_1.1]),(1,[v64 t_1.2])]) ⟨Src.own (j:=2) rfl,Src.own (j:=3) rfl,trivial⟩)) isAgg56 inf56 rfl (flat_len ⟨rfl,rfl,trivial⟩ rfl)) ?_
  refine TLv (V_nilCheck rfl) ?_
  refine TLv (V_fieldE rfl underlying62 rfl rfl inf56 rfl (v:=ptr (some (bs,obs+48)) 0) rfl) ?_
  refine TLn (E_sp (b:=bs) (o:=obs+48) [0,0] [(1,[v64 s_y_high]),(1,[v64 s_y_low])] [(1,[v64 t_1.1]),(1,[v64 t_1.2])] rfl inf56 ⟨rfl,rfl,trivial⟩ ⟨rfl,rfl,trivial⟩ ⟨(OneC.cons rfl OneC.nil),(OneC.cons rfl OneC.nil),trivial⟩) (fun _=>?_)
  refine TL_nil ?_
  obtain rfl:=sj H
  exact TX_end (rs:=[]) (vs:=[]) rfl trivial (fun w' hs'=>⟨(),rfl,Step.left (Step.pulled (is:=[0,0]) (A:=[⟨some (bs,obs+48),[v64 t_1.1]⟩,⟨some (bs,obs+49),[v64 t_1.2]⟩]) hs' rfl)⟩)
end Go.Proofs
end

section
namespace Go.Proofs
open Go Go.Kx
open TryI Try
def halberdref4_times.b0  (s0:BitVec 64 × BitVec 64 × BitVec 64 × BitVec 64 × BitVec 64 × BitVec 64 × Int):Option ((BitVec 64 × BitVec 64 × BitVec 64 × BitVec 64 × BitVec 64 × BitVec 64 × Int) ⊕ (BitVec 64 × BitVec 64)) :=
 if s0.2.2.2.2.2.2<128 then ((if 63<s0.2.2.2.2.2.2 then (ltt (s0.2.1 >>> 63) fun (bit1:BitVec 64)=>(some (s0.1,s0.2.1 <<< 1,bit1))) else (some (s0.1 <<< 1,s0.2.1,s0.1 >>> 63))).bind fun (j1:BitVec 64 × BitVec 64 × BitVec 64)=>((if j1.2.2=1#64 then (ltt (s0.2.2.2.2.1 ^^^ s0.2.2.1) fun (x1:BitVec 64)=>(ltt (s0.2.2.2.2.2.1 ^^^ s0.2.2.2.1) fun (y1:BitVec 64)=>(some (x1,y1)))) else (some (s0.2.2.2.2.1,s0.2.2.2.2.2.1))).bind fun (j2:BitVec 64 × BitVec 64)=>(ltt (s0.2.2.2.1 &&& 1#64) fun (low1:BitVec 64)=>(ltt ((s0.2.2.2.1 >>> 1) ||| (s0.2.2.1 <<< 63)) fun (d1:BitVec 64)=>(ltt (s0.2.2.1 >>> 1) fun (c1:BitVec 64)=>(if low1=1#64 then (ltt (c1 ^^^ 16212958658533785600#64) fun (c2:BitVec 64)=>(ltt (w64 (s0.2.2.2.2.2.2+1)) fun (i1:Int)=>(some (.inl (j1.1,j1.2.1,c2,d1,j2.1,j2.2,i1))))) else (ltt (w64 (s0.2.2.2.2.2.2+1)) fun (i2:Int)=>(some (.inl (j1.1,j1.2.1,c1,d1,j2.1,j2.2,i2)))))))))) else (some (.inr (s0.2.2.2.2.1,s0.2.2.2.2.2.1)))
def halberdref4_times (a_:BitVec 64) (b:BitVec 64) (c:BitVec 64) (d:BitVec 64):Option (BitVec 64 × BitVec 64) :=
 (loop (halberdref4_times.b0) BIG (a_,b,c,d,0#64,0#64,0)).bind fun (t_1:BitVec 64 × BitVec 64)=>(some (t_1.1,t_1.2))
end Go.Proofs
end

section
namespace Go.Proofs
open Go Go.Kx
abbrev E2:=BitVec 64 × BitVec 64
def xr (a b:E2):E2:=(a.1 ^^^ b.1,a.2 ^^^ b.2)
def z2:E2:=(0#64,0#64)
theorem xr_comm (a b:E2):xr a b=xr b a:=by simp [xr,BitVec.xor_comm]
theorem xr_assoc (a b c:E2):xr (xr a b) c=xr a (xr b c):=by simp [xr,BitVec.xor_assoc]
theorem xr_zero (a:E2):xr a z2=a:=by simp [xr,z2]
theorem zero_xr (a:E2):xr z2 a=a:=by simp [xr,z2]
theorem xr_self (a:E2):xr a a=z2:=by simp [xr,z2]
theorem xr_swap (a b c d:E2):xr (xr a b) (xr c d)=xr (xr a c) (xr b d):=by
 rw [xr_assoc,xr_assoc, ← xr_assoc b,xr_comm b c,xr_assoc c]
def half (e:E2):E2:=((e.1 >>> 1) ^^^ (16212958658533785600#64 &&& (-(e.2 &&& 1#64))),(e.2 >>> 1) ||| (e.1 <<< 63))
theorem half_eq (a b:BitVec 64):gcm_element_half a b=some (half (a,b)):=rfl
theorem or_xor63 (x y:BitVec 64):(x >>> 1) ||| (y <<< 63)=(x >>> 1) ^^^ (y <<< 63):=by
 apply BitVec.eq_of_getLsbD_eq
 intro i hi
 simp only [BitVec.getLsbD_or,BitVec.getLsbD_xor,BitVec.getLsbD_ushiftRight,BitVec.getLsbD_shiftLeft]
 by_cases h:i<63
 ·simp [h]
 ·have:i=63:=by omega
  subst this
  simp
theorem and1 (x:BitVec 64):x &&& 1#64=if x.getLsbD 0 then 1#64 else 0#64:=by
 rw [BitVec.and_one_eq_setWidth_ofBool_getLsbD]
 cases x.getLsbD 0 <;> rfl
theorem mask_xor (c x y:BitVec 64):c &&& (-((x ^^^ y) &&& 1#64))=(c &&& (-(x &&& 1#64))) ^^^ (c &&& (-(y &&& 1#64))):=by
 rw [and1,and1,and1,BitVec.getLsbD_xor]
 cases x.getLsbD 0 <;> cases y.getLsbD 0 <;> simp
theorem half_xr (a b:E2):half (xr a b)=xr (half a) (half b):=by
 unfold half xr
 refine Prod.ext ?_ ?_
 ·simp only
  rw [BitVec.ushiftRight_xor_distrib,mask_xor]
  simp only [BitVec.xor_assoc]
  rw [← BitVec.xor_assoc (b.1 >>> 1),BitVec.xor_comm (b.1 >>> 1),BitVec.xor_assoc]
 ·simp only
  rw [or_xor63,or_xor63,or_xor63,BitVec.ushiftRight_xor_distrib,BitVec.shiftLeft_xor_distrib]
  simp only [BitVec.xor_assoc]
  rw [← BitVec.xor_assoc (b.2 >>> 1),BitVec.xor_comm (b.2 >>> 1),BitVec.xor_assoc]
theorem half_zero:half z2=z2:=by decide
def hp:Nat → E2 → E2
 | 0,e=>e
 | n+1,e=>half (hp n e)
theorem hp_xr (a b:E2) : ∀ n,hp n (xr a b)=xr (hp n a) (hp n b)
 | 0=>rfl
 | n+1=>by simp only [hp]; rw [hp_xr a b n,half_xr]
def sel (b:Bool) (e:E2):E2:=if b then e else z2
theorem half_sel (b:Bool) (e:E2):half (sel b e)=sel b (half e):=by cases b <;> simp [sel,half_zero]
def bitE (a:E2) (i:Nat):Bool:=if i<64 then a.1.getLsbD (63 - i) else a.2.getLsbD (127 - i)
theorem bitE_xr (a b:E2) (i:Nat):bitE (xr a b) i=(bitE a i ^^ bitE b i):=by
 unfold bitE xr; split <;> simp
def SS (a h:E2):Nat → Nat → E2
 | m,0=>z2
 | m,n+1=>xr (sel (bitE a m) h) (half (SS a h (m+1) n))
def prod (a h:E2):E2:=SS a h 0 128
theorem sel_xr (x y:Bool) (h:E2):sel (x ^^ y) h=xr (sel x h) (sel y h):=by
 cases x <;> cases y <;> simp [sel,xr_zero,zero_xr,xr_self]
theorem SS_xr (a b h:E2) : ∀ n m,SS (xr a b) h m n=xr (SS a h m n) (SS b h m n)
 | 0,m=>by simp [SS,xr_zero]
 | n+1,m=>by
  simp only [SS]
  rw [SS_xr a b h n (m+1),half_xr,bitE_xr,sel_xr,xr_swap]
theorem prod_xr (a b h:E2):prod (xr a b) h=xr (prod a h) (prod b h):=SS_xr a b h 128 0
theorem prod_zero (h:E2):prod z2 h=z2:=by
 have:=prod_xr z2 z2 h
 rw [xr_self] at this
 rw [this,xr_self]
def tabF (h:E2) (i:Nat):Nat → E2
 | 0=>z2
 | k+1=>xr (tabF h i k) (sel (i.testBit (3 - k)) (hp k h))
def tabV (h:E2) (k:Nat):Vector E2 16:=Vector.ofFn fun i=>tabF h i.val k
def foldV:Vx 64 16:=Vector.ofFn fun i=>(hp 4 (0#64,BitVec.ofNat 64 i.val)).1
theorem bit_iop : ∀ i:Fin 16, ∀ k:Fin 4,decide (iop (· &&& ·) (i.val:Int) ((8 / 2 ^ k.val:Nat):Int) ≠ 0)=i.val.testBit (3 - k.val):=by decide +kernel
theorem gsum_b1 (h:E2) (k:Nat) (hk:k<4):loop (gcm_newSum.b1 (((8 / 2 ^ k:Nat):Int),tabV h k,(hp k h).1,(hp k h).2)) BIG (0,tabV h k)=some (tabV h (k+1)):=by
 refine loop_fill _ (fun i=>tabF h i (k+1)) id (by omega) (fun i v hi hv=>?_) (fun v=>?_)
 ·have e1:w64 ((i:Int)+1)=((i+1:Nat):Int):=w64_add (b:=1) (by omega)
  have hb:=bit_iop ⟨i,hi⟩ ⟨k,hk⟩
  dsimp only at hb
  have hvi:vg v i=tabF h i k:=by rw [hv i (Nat.le_refl _) hi,tabV,vg_ofFn hi]
  unfold gcm_newSum.b1
  simp only [e1,Int.toNat_natCast]
  clear e1
  refine if_i (by omega) ?_
  by_cases c:i.testBit (3 - k)=true
  ·rw [c,decide_eq_true_iff] at hb
   refine if_i hb (if_i (by omega) (if_i (by omega) (ltt_i fun m hm=>if_i (by omega) (if_i (by omega) (ltt_i fun m2 hm2=>?_)))))
   have:m2=vp v i (tabF h i (k+1)):=by
    rw [hm2,hm,vg_vp hi hi,if_pos rfl,hvi]
    refine vec_ext fun j hj=>?_
    rw [vg_vp hi hj,vg_vp hi hj,vg_vp hi hj]
    by_cases cj:i=j
    ·rw [if_pos cj,if_pos cj]
     simp only [tabF,c,sel,xr]; rfl
    ·rw [if_neg cj,if_neg cj,if_neg cj]
   rw [this]
  ·have cf:i.testBit (3 - k)=false:=by simpa using c
   rw [cf,decide_eq_false_iff_not] at hb
   refine if_n hb ?_
   have:v=vp v i (tabF h i (k+1)):=by
    refine vec_ext fun j hj=>?_
    rw [vg_vp hi hj]
    by_cases cj:i=j
    ·rw [if_pos cj, ← cj,hvi]
     simp [tabF,cf,sel,xr_zero]
    ·rw [if_neg cj]
   rw [← this]
 ·unfold gcm_newSum.b1
  exact if_n (by omega) rfl
theorem gsum_b3 (i:Nat) (hi:i<16):loop (gcm_newSum.b3) BIG (0,0#64,BitVec.ofInt 64 (i:Int))=some (hp 4 (0#64,BitVec.ofNat 64 i)):=by
 refine loop_fn (fun k=>((k:Int),(hp k (0#64,BitVec.ofNat 64 i)).1,(hp k (0#64,BitVec.ofNat 64 i)).2)) 4 _ (by omega) (by simp [hp,BitVec.ofInt_natCast]) (fun k hk=>?_) ?_
 ·have e1:w64 ((k:Int)+1)=((k+1:Nat):Int):=w64_add (b:=1) (by omega)
  unfold gcm_newSum.b3
  simp only [e1]
  refine if_i (by omega) (bind_i (half_eq _ _) rfl)
 ·exact if_n (by show ¬ (((4:Nat):Int)<4); omega) rfl
theorem newSum_eq (h:E2):gcm_newSum h.1 h.2=some (tabV h 4,foldV):=by
 unfold gcm_newSum
 refine bind_i (v:=tabV h 4) (loop_fn (fun k=>(((8 / 2 ^ k:Nat):Int),tabV h k,(hp k h).1,(hp k h).2)) 4 _ (by omega) ?_ (fun k hk=>?_) ?_) (bind_i (v:=foldV) ?_ rfl)
 ·refine Prod.ext rfl (Prod.ext ?_ rfl)
  refine vec_ext fun i hi=>?_
  rw [vg_eq' hi]
  simp only [Vector.getElem_replicate]
  show _=vg (tabV h 0) i
  rw [tabV,vg_ofFn hi]; rfl
 ·have e1:w64 (((8 / 2 ^ k:Nat):Int).tdiv 2)=((8 / 2 ^ (k+1):Nat):Int):=by
   have:=w64_div (a:=8 / 2 ^ k) (b:=2) (by have:=Nat.div_le_self 8 (2 ^ k); omega)
   rw [Nat.div_div_eq_div_mul, ← Nat.pow_succ] at this
   exact this
  have hpos:0<8 / 2 ^ k:=by
   rcases k with _ | _ | _ | _ | k <;> first | decide | omega
  unfold gcm_newSum.b0
  simp only [e1]
  refine if_i (by omega) (bind_i (gsum_b1 h k hk) (bind_i (half_eq _ _) (ltt_i fun b hb=>?_)))
  rw [hb]; rfl
 ·exact if_n (by show ¬ (0:Int)<((8 / 2 ^ 4:Nat):Int); decide) rfl
 ·refine loop_fill _ (fun i=>(hp 4 (0#64,BitVec.ofNat 64 i)).1) id (by omega) (fun i v hi hv=>?_) (fun v=>?_)
  ·have e1:w64 ((i:Int)+1)=((i+1:Nat):Int):=w64_add (b:=1) (by omega)
   unfold gcm_newSum.b2
   simp only [e1,Int.toNat_natCast]
   refine if_i (by omega) (bind_i (gsum_b3 i hi) (if_i (by omega) (ltt_i fun m hm=>?_)))
   rw [hm]
  ·unfold gcm_newSum.b2
   exact if_n (by omega) rfl
theorem fold0 : ∀ i:Fin 16,(hp 4 (0#64,BitVec.ofNat 64 i.val)).2=0#64:=by decide +kernel
theorem half_even (a b:BitVec 64) (h:b.getLsbD 0=false):half (a,b)=(a >>> 1,(b >>> 1) ||| (a <<< 63)):=by
 unfold half
 simp only
 rw [and1,h]
 simp
theorem hp4_even (a b:BitVec 64) (h : ∀ i,i<4 → b.getLsbD i=false):hp 4 (a,b)=(a >>> 4,(b >>> 4) ||| (a <<< 60)):=by
 have h1:half (a,b)=(a >>> 1,(b >>> 1) ||| (a <<< 63)):=half_even a b (h 0 (by decide))
 have h2:half (a >>> 1,(b >>> 1) ||| (a <<< 63))=(a >>> 1 >>> 1,(((b >>> 1) ||| (a <<< 63)) >>> 1) ||| ((a >>> 1) <<< 63)):=half_even _ _ (by simpa [BitVec.getLsbD_ushiftRight] using h 1 (by decide))
 have h3:half (a >>> 1 >>> 1,(((b >>> 1) ||| (a <<< 63)) >>> 1) ||| ((a >>> 1) <<< 63))=(a >>> 1 >>> 1 >>> 1,(((((b >>> 1) ||| (a <<< 63)) >>> 1) ||| ((a >>> 1) <<< 63)) >>> 1) ||| ((a >>> 1 >>> 1) <<< 63)):=half_even _ _ (by simpa [BitVec.getLsbD_ushiftRight] using h 2 (by decide))
 have h4:half (a >>> 1 >>> 1 >>> 1,(((((b >>> 1) ||| (a <<< 63)) >>> 1) ||| ((a >>> 1) <<< 63)) >>> 1) ||| ((a >>> 1 >>> 1) <<< 63))=(a >>> 1 >>> 1 >>> 1 >>> 1,(((((((b >>> 1) ||| (a <<< 63)) >>> 1) ||| ((a >>> 1) <<< 63)) >>> 1) ||| ((a >>> 1 >>> 1) <<< 63)) >>> 1) ||| ((a >>> 1 >>> 1 >>> 1) <<< 63)):=half_even _ _ (by simpa [BitVec.getLsbD_ushiftRight] using h 3 (by decide))
 show half (half (half (half (a,b))))=_
 rw [h1,h2,h3,h4]
 refine Prod.ext ?_ ?_
 ·simp only [← BitVec.shiftRight_add]
 ·simp only
  apply BitVec.eq_of_getLsbD_eq
  intro i hi
  simp only [BitVec.getLsbD_or,BitVec.getLsbD_ushiftRight,BitVec.getLsbD_shiftLeft]
  rcases (by omega:i<60 ∨ i=60 ∨ i=61 ∨ i=62 ∨ i=63) with c | c | c | c | c
  ·have e:1+(1+(1+(1+i)))=4+i:=by omega
   simp [e,c,show i<63 by omega,show 1+i<63 by omega,show 1+(1+i)<63 by omega,show 1+(1+(1+i))<63 by omega]
  all_goals (subst c; simp)
theorem hp4_eq (z:E2):hp 4 z=((z.1 >>> 4) ^^^ vg foldV ((z.2 &&& 15#64).toNat),(z.2 >>> 4) ||| (z.1 <<< 60)):=by
 have hv:(z.2 &&& 15#64).toNat<16:=by
  rw [BitVec.toNat_and]
  exact Nat.lt_of_le_of_lt Nat.and_le_right (by decide)
 have hz:z=xr (z.1,z.2 &&& ~~~15#64) (0#64,z.2 &&& 15#64):=by
  unfold xr
  refine Prod.ext (by simp) ?_
  simp only
  apply BitVec.eq_of_getLsbD_eq
  intro i hi
  simp only [BitVec.getLsbD_xor,BitVec.getLsbD_and,BitVec.getLsbD_not,hi,decide_true,Bool.true_and]
  cases z.2.getLsbD i <;> cases (15#64).getLsbD i <;> rfl
 have he : ∀ i,i<4 → (z.2 &&& ~~~15#64).getLsbD i=false:=by
  intro i hi
  rw [BitVec.getLsbD_and]
  have:(~~~15#64).getLsbD i=false:=by
   rcases i with _ | _ | _ | _ | i <;> first | decide | omega
  rw [this,Bool.and_false]
 have h1:=hp4_even z.1 (z.2 &&& ~~~15#64) he
 have h2:hp 4 (0#64,z.2 &&& 15#64)=(vg foldV ((z.2 &&& 15#64).toNat),0#64):=by
  have hn:z.2 &&& 15#64=BitVec.ofNat 64 ((z.2 &&& 15#64).toNat):=by simp
  have:=fold0 ⟨_,hv⟩
  dsimp only at this
  rw [foldV,vg_ofFn hv]
  refine Prod.ext ?_ ?_
  ·simp only; rw [← hn]
  ·simp only; rw [hn]; exact this
 rw [hz,hp_xr,h1,h2, ← hz]
 unfold xr
 refine Prod.ext rfl ?_
 simp only [BitVec.xor_zero]
 congr 1
 apply BitVec.eq_of_getLsbD_eq
 intro i hi
 simp only [BitVec.getLsbD_ushiftRight,BitVec.getLsbD_and,BitVec.getLsbD_not]
 by_cases c:4+i<64
 ·have:(15#64).getLsbD (4+i)=false:=by
   show (BitVec.ofNat 64 15).getLsbD (4+i)=false
   rw [BitVec.getLsbD_ofNat,Nat.testBit_lt_two_pow (Nat.lt_of_lt_of_le (by decide:15<2 ^ 4) (Nat.pow_le_pow_right (by decide) (by omega)))]
   simp
  simp only [c,decide_true,Bool.true_and,this,Bool.not_false,Bool.and_true]
 ·rw [BitVec.getLsbD_of_ge z.2 (4+i) (by omega)]; simp
theorem SS4 (a h:E2) (m n:Nat):SS a h m (n+4)=xr (xr (xr (xr (xr z2 (sel (bitE a m) (hp 0 h))) (sel (bitE a (m+1)) (hp 1 h))) (sel (bitE a (m+2)) (hp 2 h))) (sel (bitE a (m+3)) (hp 3 h))) (hp 4 (SS a h (m+4) n)):=by
 simp only [SS,hp,half_xr,half_sel,zero_xr,xr_assoc]
end Go.Proofs
end

section
namespace Go.Proofs
open Go Go.Kx
open TryI Try
def halberdref1_Be.b0 (size:Int) (s0:Int × Int × List (BitVec 8)):Option ((Int × Int × List (BitVec 8)) ⊕ (List (BitVec 8))) :=
 if 0≤s0.2.1 then (if 0≤s0.2.1∧s0.2.1<((size).toNat:Int) then (if (s0.2.1).toNat<(s0.2.2).length then (ltt (s0.2.2.set ((s0.2.1).toNat) (BitVec.ofInt 8 (iop (· &&& ·) s0.1 255))) fun (m_1:List (BitVec 8))=>(ltt (w64 (s0.2.1 - 1)) fun (i2:Int)=>(some (.inl (shrI' s0.1 8,i2,m_1))))) else none) else none) else (some (.inr s0.2.2))
def halberdref1_Be (x:Int) (size:Int):Option (Str) :=
 if 0≤size∧size≤17592186044416 then (ltt (w64 (size - 1)) fun (i1:Int)=>((loop (halberdref1_Be.b0 size) BIG (x,i1,List.replicate ((size).toNat) 0#8)).bind fun (t_1:List (BitVec 8))=>(if (t_1).length=(size).toNat then (some t_1) else none))) else none
end Go.Proofs
end

section
namespace Go.Proofs
open Go Go.Kx
theorem iop_nat (f:BitVec 64 → BitVec 64 → BitVec 64) (a b:Int) (h:(f (BitVec.ofInt 64 a) (BitVec.ofInt 64 b)).toNat<9223372036854775808):iop f a b=((f (BitVec.ofInt 64 a) (BitVec.ofInt 64 b)).toNat:Int):=by
 unfold iop
 exact w64_nat h
theorem and_mask (x:Int) (n:Nat) (hn:n<63):iop (· &&& ·) x ((2 ^ n - 1:Nat):Int)=x % ((2 ^ n:Nat):Int):=by
 have hp:2 ^ n<2 ^ 63:=Nat.pow_lt_pow_right (by omega) (by omega)
 have hp0:0<2 ^ n:=Nat.two_pow_pos n
 have e:((BitVec.ofInt 64 x) &&& (BitVec.ofInt 64 ((2 ^ n - 1:Nat):Int))).toNat=(x % ((2 ^ n:Nat):Int)).toNat:=by
  have e1:(BitVec.ofInt 64 ((2 ^ n - 1:Nat):Int)).toNat=2 ^ n - 1:=by
   rw [BitVec.ofInt_natCast,BitVec.toNat_ofNat,Nat.mod_eq_of_lt (by omega)]
  rw [BitVec.toNat_and,e1,Nat.and_two_pow_sub_one_eq_mod,BitVec.toNat_ofInt]
  have h1:((x % ((2 ^ 64:Nat):Int)).toNat:Int)=x % ((2 ^ 64:Nat):Int):=Int.toNat_of_nonneg (Int.emod_nonneg _ (by decide))
  have h2:((x % ((2 ^ n:Nat):Int)).toNat:Int)=x % ((2 ^ n:Nat):Int):=Int.toNat_of_nonneg (Int.emod_nonneg _ (by omega))
  apply Int.ofNat.inj
  show (((x % ((2 ^ 64:Nat):Int)).toNat % 2 ^ n:Nat):Int)=_
  rw [Int.natCast_emod,h1]
  show x % ((2 ^ 64:Nat):Int) % ((2 ^ n:Nat):Int)=((x % ((2 ^ n:Nat):Int)).toNat:Int)
  rw [h2]
  refine Int.emod_emod_of_dvd x ?_
  rw [Int.natCast_dvd_natCast]
  exact Nat.pow_dvd_pow 2 (by omega)
 have hlt:(x % ((2 ^ n:Nat):Int)).toNat<2 ^ n:=by
  have:=Int.emod_lt_of_pos x (show (0:Int)<((2 ^ n:Nat):Int) by omega)
  omega
 have:=iop_nat (· &&& ·) x ((2 ^ n - 1:Nat):Int) (by show BitVec.toNat (_ &&& _)<_; rw [e]; omega)
 rw [this]
 show ((BitVec.toNat (_ &&& _):Nat):Int)=_
 rw [e]
 exact Int.toNat_of_nonneg (Int.emod_nonneg _ (by omega))
def bytesI (x:Int) (n:Nat):Str:=(List.range n).map fun i=>BitVec.ofInt 8 (x / 256 ^ (n - 1 - i))
theorem bytesI_length (x:Int) (n:Nat):(bytesI x n).length=n:=by simp [bytesI]
def be8 (s:Str) (a:Nat):Nat → BitVec 64
 | 0=>0#64
 | j+1=>(be8 s a j <<< 8) ||| (s.getD (a+j) 0#8).setWidth 64
theorem be8_sub (s:Str) (a b c:Nat) : ∀ n,c+n≤b - a → be8 (sub s a b) c n=be8 s (a+c) n
 | 0,_=>rfl
 | n+1,h=>by
  show (be8 (sub s a b) c n <<< 8) ||| _=(be8 s (a+c) n <<< 8) ||| _
  rw [be8_sub s a b c n (by omega),sub_getD _ _ _ _ (by omega),Nat.add_assoc]
def hexW (w:BitVec 64) (z:Nat):Str:=(List.range z).map fun i=>(w >>> (8 * (z - 1 - i))).setWidth 8
theorem hexW_length (w:BitVec 64) (z:Nat):(hexW w z).length=z:=by simp [hexW]
end Go.Proofs
end

section
namespace Go.Proofs
open Go Go.Kx
open Vector (replicate)
open TryI Try
def gcm_sum_all.b0 (s_table:Vector (BitVec 64 × BitVec 64) 16) (s_folds:Vx 64 16) (b:List (BitVec 8)) (s0:Nat × BitVec 64 × BitVec 64):Option ((Nat × BitVec 64 × BitVec 64) ⊕ (Nat × BitVec 64 × BitVec 64)) :=
 if 16≤((((b).length) - s0.1:Nat):Int) then ((gcm_sum_add s_table s_folds s0.2.1 s0.2.2 (sub b s0.1 ((b).length))).bind fun (r_1:BitVec 64 × BitVec 64)=>(if s0.1≤(b).length then (if 16≤((b).length) - s0.1 then (some (.inl (s0.1+16,r_1.1,r_1.2))) else none) else none)) else (some (.inr (s0.1,s0.2.1,s0.2.2)))
def gcm_sum_all (s_table:Vector (BitVec 64 × BitVec 64) 16) (s_folds:Vx 64 16) (s_y_high:BitVec 64) (s_y_low:BitVec 64) (b:List (BitVec 8)):Option (BitVec 64 × BitVec 64) :=
 (loop (gcm_sum_all.b0 s_table s_folds b) BIG (0,s_y_high,s_y_low)).bind fun (t_1:Nat × BitVec 64 × BitVec 64)=>(if 0<((((b).length) - t_1.1:Nat):Int) then (ltt (vsp (replicate 16 0#8) 0 ((sub b t_1.1 ((b).length)).take (min (((b).length) - t_1.1) 16))) fun (m_1:Vx 8 16)=>((gcm_sum_add s_table s_folds t_1.2.1 t_1.2.2 m_1.toList).bind fun (r_2:BitVec 64 × BitVec 64)=>(some (r_2.1,r_2.2)))) else (some (t_1.2.1,t_1.2.2)))
set_option maxHeartbeats 4000000 in
set_option maxRecDepth 20000 in
theorem F30_calls (bs:Nat) (obs:Nat) (Ab:Adr) (cb:Nat) (s_table:Vector (BitVec 64 × BitVec 64) 16) (s_folds:Vx 64 16) (s_y_high:BitVec 64) (s_y_low:BitVec 64) (b:List (BitVec 8)) (hcb:(b).length≤cb) (r:BitVec 64 × BitVec 64) (H:gcm_sum_all s_table s_folds s_y_high s_y_low b=some r) :
  Does Try.prog 30 [ptr (some (bs,obs)) 0,sl Ab ((b).length) cb] [⟨some (bs,obs+48),[v64 s_y_high]⟩,⟨some (bs,obs+49),[v64 s_y_low]⟩] [⟨some (bs,obs),eF (fun p:BitVec 64 × BitVec 64=>[v64 p.1,v64 p.2]) s_table.toList⟩,⟨some (bs,obs+32),e64 s_folds.toList⟩,⟨Ab,e8 b⟩] (Γ:=Unit) (fun g=>Value.tuple [].toArray) (fun g=>[⟨some (bs,obs+48),[v64 r.1]⟩,⟨some (bs,obs+49),[v64 r.2]⟩]):=by
 intro w hmem hro hd
 refine calls_of (N:=22) (m0:=[(0,ptr (some (bs,obs)) 0),(1,sl Ab ((b).length) cb)]) func30 rfl ntmps30 (argM_ok [ptr (some (bs,obs)) 0,sl Ab ((b).length) cb]) rfl hmem hro hd ?_
 unfold gcm_sum_all at H
 refine TC_seq (TC_block (TC_re (d:=1) (v:=sl Ab ((b).length) cb) (v':=sl (cutB Ab cb 0 0 1) (((b).length) - 0) (cb - 0)) rfl (vw_seed 1) ?_))
 obtain ⟨t_1,Hl,H⟩:=bind_elim H
 refine TC.sub (m':=[(0,_),(1,_)]) ⟨rfl,rfl,trivial⟩ ?_
 refine TC.pull (is:=[0,0]) (L':=[_,_]) rfl ?_
 refine TC_loopL (id:=0) (body:=(gcm_sum_all.b0 s_table s_folds b)) (σ:=Nat × BitVec 64 × BitVec 64) (Γ:=Nat) (Γx:=Nat) (fun s0 g0_=>[(0,ptr (some (bs,obs)) 0),(1,sl (cutB Ab cb s0.1 g0_ 1) (((b).length) - s0.1) (cb - s0.1))]) (fun s0 g0_=>[⟨some (bs,obs+48),[v64 s0.2.1]⟩,⟨some (bs,obs+49),[v64 s0.2.2]⟩]) (fun t g=>[(0,ptr (some (bs,obs)) 0),(1,sl (cutB Ab cb t.1 g 1) (((b).length) - t.1) (cb - t.1))]) (fun t g=>[⟨some (bs,obs+48),[v64 t.2.1]⟩,⟨some (bs,obs+49),[v64 t.2.2]⟩]) ?_ BIG (0,s_y_high,s_y_low) 0 t_1 Hl ?_
 ·intro s0 g0_ r1 H K hK hE
  unfold gcm_sum_all.b0 at H
  refine TC_seq (TC_seq (TC_region (TVm ?_)))
  refine TLv (V_len_slice rfl underlying33) ?_
  refine TLv (V_bin rfl rfl (fun w=>geqI w ((((b).length) - s0.1:Nat):Int) 16)) ?_
  refine TL_nil (TX_next (TCd H (fun hc H=>?_) (fun hc H=>?_)))
  ·refine TC_skip (TX_next (TC_seq (TC_block (TC_region (TVm ?_)))))
   refine TVm ?_
   refine TL_re (d:=1) (v:=sl (cutB Ab cb s0.1 g0_ 1) (((b).length) - s0.1) (cb - s0.1)) (v':=sl (cutB Ab cb s0.1 g0_ 1) ((sub b s0.1 ((b).length)).length) (cb - s0.1)) rfl (congrArg (fun n=>sl (cutB Ab cb s0.1 g0_ 1) n (cb - s0.1)) (sub_length (Nat.le_refl _)).symm) ?_
   refine TL_re (d:=5) (v:=sl (cutB Ab cb s0.1 g0_ 1) (((b).length) - s0.1) (cb - s0.1)) (v':=sl (cutB Ab cb s0.1 g0_ 1) ((sub b s0.1 ((b).length)).length) (cb - s0.1)) rfl (congrArg (fun n=>sl (cutB Ab cb s0.1 g0_ 1) n (cb - s0.1)) (sub_length (Nat.le_refl _)).symm) ?_
   refine TL_re (d:=11) (v:=sl (cutB Ab cb s0.1 g0_ 1) (((b).length) - s0.1) (cb - s0.1)) (v':=sl (cutB Ab cb s0.1 g0_ 1) ((sub b s0.1 ((b).length)).length) (cb - s0.1)) rfl (congrArg (fun n=>sl (cutB Ab cb s0.1 g0_ 1) n (cb - s0.1)) (sub_length (Nat.le_refl _)).symm) ?_
   obtain ⟨r_1,hr_1,H⟩:=bind_elim H
   refine TLe (E_call (Γ:=Unit) (val:=fun g=>Value.tuple [].toArray) (mem:=fun g=>[⟨some (bs,obs+48),[v64 r_1.1]⟩,⟨some (bs,obs+49),[v64 r_1.2]⟩]) (vs:=[ptr (some (bs,obs)) 0,sl (cutB Ab cb s0.1 g0_ 1) ((sub b s0.1 ((b).length)).length) (cb - s0.1)]) (Lin:=[⟨some (bs,obs+48),[v64 s0.2.1]⟩,⟨some (bs,obs+49),[v64 s0.2.2]⟩]) (Ro:=[⟨some (bs,obs),eF (fun p:BitVec 64 × BitVec 64=>[v64 p.1,v64 p.2]) s_table.toList⟩,⟨some (bs,obs+32),e64 s_folds.toList⟩,⟨cutB Ab cb s0.1 g0_ 1,e8 (sub b s0.1 ((b).length))⟩]) (is:=[0,0]) rfl call37 (F37_calls bs obs (cutB Ab cb s0.1 g0_ 1) (cb - s0.1) s_table s_folds s0.2.1 s0.2.2 (sub b s0.1 ((b).length)) (vw_cap (Nat.le_refl _) (Nat.le_trans (Nat.le_refl _) hcb)) r_1 hr_1) rfl ⟨.r 0, .r 1,(srcdVw (lst:=b) (SrcD.ro (j:=2) rfl) (Nat.le_trans (Nat.le_refl _) hcb)),trivial⟩) (fun g_1=>?_)
   refine TL_re (d:=1) (v:=sl (cutB Ab cb s0.1 g0_ 1) ((sub b s0.1 ((b).length)).length) (cb - s0.1)) (v':=sl (cutB Ab cb s0.1 g0_ 1) (((b).length) - s0.1) (cb - s0.1)) rfl (congrArg (fun n=>sl (cutB Ab cb s0.1 g0_ 1) n (cb - s0.1)) (sub_length (Nat.le_refl _))) ?_
   refine TL_re (d:=5) (v:=sl (cutB Ab cb s0.1 g0_ 1) ((sub b s0.1 ((b).length)).length) (cb - s0.1)) (v':=sl (cutB Ab cb s0.1 g0_ 1) (((b).length) - s0.1) (cb - s0.1)) rfl (congrArg (fun n=>sl (cutB Ab cb s0.1 g0_ 1) n (cb - s0.1)) (sub_length (Nat.le_refl _))) ?_
   refine TL_re (d:=11) (v:=sl (cutB Ab cb s0.1 g0_ 1) ((sub b s0.1 ((b).length)).length) (cb - s0.1)) (v':=sl (cutB Ab cb s0.1 g0_ 1) (((b).length) - s0.1) (cb - s0.1)) rfl (congrArg (fun n=>sl (cutB Ab cb s0.1 g0_ 1) n (cb - s0.1)) (sub_length (Nat.le_refl _))) ?_
   refine TL_nil (TX_block_normal (TX_next (TC_region (TVm ?_))))
   obtain ⟨h1,H⟩:=if_elim H
   obtain ⟨h2,H⟩:=if_elim H
   refine TLv (V_sliceVw (l:=16) (h:=((b).length) - s0.1) rfl underlying33 inf5 rfl (Bnd.some' (i:=16) rfl (by decide)) Bnd.none' h2 (Nat.le_refl _) (Nat.le_trans (Nat.le_refl _) hcb) (Nat.add_sub_cancel' h1)) ?_
   refine TVa ?_
   refine TL_nil ?_
   obtain rfl:=sj H
   exact TXk [0,0] (hK (s0.1+16,r_1.1,r_1.2) rfl (if cb=s0.1 then g0_ else s0.1))
  ·refine TC_exit (TX_then_exit (TX_then_exit ?_))
   obtain rfl:=sj H
   exact TXj [0,0] (hE (s0.1,s0.2.1,s0.2.2) rfl g0_)
 ·intro g
  obtain ⟨gx1,hgx⟩ : ∃ z,z=g:=⟨g,rfl⟩; subst hgx
  refine TX_block_exit (TX_next (TC_seq (TC_region (TVm ?_))))
  refine TLv (V_len_slice rfl underlying33) ?_
  refine TLv (V_bin rfl rfl (fun w=>gtrI w ((((b).length) - t_1.1:Nat):Int) 0)) ?_
  refine TL_nil (TX_next (TCd H (fun hc H=>?_) (fun hc H=>?_)))
  ·refine TC_seq (TC_region (TLe (E_allocP [(16,e8 ((replicate 16 0#8).toList))] inf38 zer38 ⟨(lenV (f:=v8) (replicate 16 0#8)),trivial⟩) (fun b1=>?_)))
   refine TL_nil (TX_next (TC_seq (TC_region (TLv (V_sliceArr0 rfl (by simp) underlying38 inf5 rfl) ?_))))
   refine TVm ?_
   refine TLe (E_copyB (o:=0) (j:=0) (ds:=(sub b t_1.1 ((b).length))) (copyA rfl) rfl (by simp) underlying33 inf5 rfl (srcVw (lst:=b) (.r 2) (Nat.le_trans (Nat.le_refl _) hcb)) (sub_length (Nat.le_refl _)) rfl rfl (copy_vec (l:=0) (d:=16) (by omega)) (cs':=e8 ((vsp (replicate 16 0#8) 0 ((sub b t_1.1 ((b).length)).take (min (((b).length) - t_1.1) 16))).toList)) (splice_vec (take_room (n:=16) (l:=0) (d:=16) (by omega)))) (fun _=>?_)
   obtain ⟨m_1,hm_1,H⟩:=ltt_elim H
   refine TL_reE (j:=0) (A:=some (b1,0)) (cs:=e8 ((vsp (replicate 16 0#8) 0 ((sub b t_1.1 ((b).length)).take (min (((b).length) - t_1.1) 16))).toList)) (cs':=e8 m_1.toList) rfl (congrArg (fun z:Vx 8 16=>e8 (Vector.toList z)) hm_1) ?_
   refine TL_nil (TX_next (TC_region (TVm ?_)))
   refine TLv (V_sliceArr0 rfl (by simp) underlying38 inf5 rfl) ?_
   refine TL_re (d:=20) (v:=sl (some (b1,0)) 16 16) (v':=sl (some (b1,0)) ((m_1.toList).length) ((m_1.toList).length)) rfl (congrArg (fun n=>sl (some (b1,0)) n n) vec_tl.symm) ?_
   obtain ⟨r_2,hr_2,H⟩:=bind_elim H
   refine TLe (E_call (Γ:=Unit) (val:=fun g=>Value.tuple [].toArray) (mem:=fun g=>[⟨some (bs,obs+48),[v64 r_2.1]⟩,⟨some (bs,obs+49),[v64 r_2.2]⟩]) (vs:=[ptr (some (bs,obs)) 0,sl (some (b1,0)) ((m_1.toList).length) ((m_1.toList).length)]) (Lin:=[⟨some (bs,obs+48),[v64 t_1.2.1]⟩,⟨some (bs,obs+49),[v64 t_1.2.2]⟩]) (Ro:=[⟨some (bs,obs),eF (fun p:BitVec 64 × BitVec 64=>[v64 p.1,v64 p.2]) s_table.toList⟩,⟨some (bs,obs+32),e64 s_folds.toList⟩,⟨some (b1,0),e8 m_1.toList⟩]) (is:=[1,1]) rfl call37 (F37_calls bs obs (some (b1,0)) ((m_1.toList).length) s_table s_folds t_1.2.1 t_1.2.2 m_1.toList (Nat.le_refl _) r_2 hr_2) rfl ⟨.r 0, .r 1, .o 0,trivial⟩) (fun g_2=>?_)
   refine TL_nil ?_
   obtain rfl:=sj H
   exact TX_end (rs:=[]) (vs:=[]) rfl trivial (fun w' hs'=>⟨(),rfl,Step.left (Step.pulled (is:=[0,0]) (A:=[⟨some (bs,obs+48),[v64 r_2.1]⟩,⟨some (bs,obs+49),[v64 r_2.2]⟩]) hs' rfl)⟩)
  ·refine TC_skip ?_
   obtain rfl:=sj H
   exact TX_end (rs:=[]) (vs:=[]) rfl trivial (fun w' hs'=>⟨(),rfl,Step.left (Step.pulled (is:=[0,0]) (A:=[⟨some (bs,obs+48),[v64 t_1.2.1]⟩,⟨some (bs,obs+49),[v64 t_1.2.2]⟩]) hs' rfl)⟩)
end Go.Proofs
end
