/-
  Part 6 of the proof of what several laws share.
-/
import Derived.Test.YtkgeoekcnlgfnaaGreatDoorKf1
import Derived.Test.YtkgeoekcnlgfnaaGreatDoorKf2
import Derived.Test.YtkgeoekcnlgfnaaGreatDoorKf3
import Derived.Test.YtkgeoekcnlgfnaaGreatDoorKf4
import Derived.Test.YtkgeoekcnlgfnaaGreatDoorKf5
set_option linter.unusedVariables false
set_option linter.unusedSimpArgs false
section
namespace Go.Kx
open Go
open Vector (replicate)
abbrev Vx (b n:Nat):=Vector (BitVec b) n
abbrev aG (l:List (Nat × List Value)):Value:=Value.agg (flat l).toArray
def dn (n k:Nat):Array Bool:=((List.range n).map fun i=>k.testBit i).toArray
abbrev itV (i d:Nat) (v:Value) (deps:List Nat):It:=⟨i,d,fun _ _=>v,fun _=>[],deps,none⟩
section
variable {C:Ctx} {Q:Exit → Act → World → Prop} {m m':Sl} {L L' Lr R:Mem} {ops:Array Oper} {rest:List Oper} {js n:Nat} {done done':Array Bool} {dst:Option Tmp} {ty:TypeId} {pos:String} {af:Array Edge} {gd:Option (Nat × Bool)}
theorem TLv {o:Oper} {d:Nat} {v:Value} (ho:OpV C o m L v) (h:TL C ops Q rest ((d,v) :: m) L) (hg:o.guard=none:=by rfl) (hd:o.dst=some d:=by rfl) (hN:Nat.blt d C.N=true:=by rfl):TL C ops Q (o :: rest) m L:=TL_v hg hd hN ho h
theorem TLe {o:Oper} {d:Nat} {Γ:Type} {val:Γ → Value} {mem:Γ → Mem} (ho:OpE C o m L val mem) (h : ∀ g,TL C ops Q rest ((d,val g) :: m) (mem g)) (hg:o.guard=none:=by rfl) (hd:o.dst=some d:=by rfl) (hN:Nat.blt d C.N=true:=by rfl):TL C ops Q (o :: rest) m L:=TL_e hg hd hN ho h
theorem TLn {o:Oper} {Γ:Type} {val:Γ → Value} {mem:Γ → Mem} (ho:OpE C o m L val mem) (h : ∀ g,TL C ops Q rest m (mem g)) (hg:o.guard=none:=by rfl) (hd:o.dst=none:=by rfl):TL C ops Q (o :: rest) m L:=TL_n hg hd ho h
theorem SrcDs.nil_pull (L:Mem):pull [] L=some (([]:Mem),L):=rfl
theorem E_c0 {xs:List Operand} {ats:Array TypeId} {f:FuncId} {vs:List Value} {Ro:Mem} {Γ:Type} {val:Γ → Value} {mem:Γ → Mem}
  (hf:Does C.P f vs [] Ro val mem) (hcall : ∀ args w,(callFunc f args).run C.P w = .ok (.enter f args) w) (hro:SrcDs C [] L Ro) (hxs:evs m xs=some vs:=by rfl) :
  OpE C ⟨dst, .call ⟨.value (.func f),xs.toArray,ats⟩,ty,pos,af,gd⟩ m L val (fun g=>mem g++L):=E_call hxs hcall hf (SrcDs.nil_pull L) hro
theorem SrcDs.z {Lin L:Mem}:SrcDs C Lin L []:=trivial
theorem E_cu {xs:List Operand} {ats:Array TypeId} {f:FuncId} {vs:List Value} {Ro:Mem} {v:Value}
  (hf:Does C.P f vs [] Ro (Γ:=Unit) (fun _=>v) (fun _=>[])) (hcall : ∀ args w,(callFunc f args).run C.P w = .ok (.enter f args) w) (hro:SrcDs C [] L Ro) (hxs:evs m xs=some vs:=by rfl) :
  OpE C ⟨dst, .call ⟨.value (.func f),xs.toArray,ats⟩,ty,pos,af,gd⟩ m L (Γ:=Nat) (fun _=>v) (fun _=>L):=OpE_unit (E_call hxs hcall hf (SrcDs.nil_pull L) hro)
theorem Src.o (j:Nat) {e:Ent} (h:L[j]? = some e:=by rfl):Src C L e:=Src.own h
theorem Src.r (j:Nat) {e:Ent} (h:C.Ro[j]? = some e:=by rfl):Src C L e:=Src.ro h
theorem SrcD.o {Lin:Mem} (j:Nat) {e:Ent} (h:R[j]? = some e:=by rfl):SrcD C Lin R e:=SrcD.own h
theorem SrcD.r {Lin:Mem} (j:Nat) {e:Ent} (h:C.Ro[j]? = some e:=by rfl):SrcD C Lin R e:=SrcD.ro h
theorem V_lag {x:Operand} {A:Adr} {cs:List Value} {t:TypeId} {inf:TypeInfo} {n:Nat} (hsrc:Src C L ⟨A,cs⟩) (hty : ∀ w,(isAgg t).run C.P w = .ok true w) (hi:C.P.info? t=some inf)
  (hx:ev m x=some (ptr A 0):=by rfl) (hA:A ≠ none:=by simp) (hn:inf.size=n:=by rfl) (hlen:cs.length=n:=by exact lenV _):OpV C ⟨dst, .load t x,ty,pos,af,gd⟩ m L (.agg cs.toArray):=V_loadAgg hx hA hsrc hty hi hn hlen
theorem V_fe {x:Operand} {A:Adr} {o k f:Nat} {t:TypeId} {fs:Array Field} {fd:Field} {inf:TypeInfo} {v:Value} {ft:TypeId} (hu:C.P.underlying t=some (.struct fs)) (hi:C.P.info? ft=some inf)
  (hx:ev m x=some (ptr A o):=by rfl) (hf:fs[f]? = some fd:=by rfl) (hft:fd.type=ft:=by rfl) (hk:fd.offset=k:=by rfl) (h0:Nat.beq inf.size 0=false:=by rfl) (hv:ptr A (o+k)=v:=by rfl) :
  OpV C ⟨dst, .fieldAddr t x f,ty,pos,af,gd⟩ m L v:=V_fieldE hx hu hf hk (hft ▸ hi) h0 hv
theorem V_ex {x:Operand} {i:Nat} {vs:List Value} {v:Value} (hx:ev m x=some (.tuple vs.toArray):=by rfl) (hv:vs[i]? = some v:=by rfl):OpV C ⟨dst, .extract x i,ty,pos,af,gd⟩ m L v:=V_extract hx hv
theorem E_sv {x y:Operand} {A:Adr} {n:Nat} {cs vs:List Value} {t:TypeId} {inf:TypeInfo} (j:Nat) (hi:C.P.info? t=some inf) (hx:ev m x=some (ptr A 0):=by rfl) (hy:ev m y=some (.agg vs.toArray):=by rfl)
  (hn:inf.size=n:=by rfl) (hl:vs.length=n:=by exact lenV _) (hv:OneC vs:=by exact OneC.map (fun _=>rfl) _) (hj:L[j]? = some ⟨A,cs⟩:=by rfl) (hc:cs.length=n:=by exact lenV _) :
  OpE C ⟨dst, .store t x y,ty,pos,af,gd⟩ m L (Γ:=Unit) (fun _=>undef) (fun _=>L.set j ⟨A,vs⟩) :=
 E_storeAgg hx hy hi hn hl hv hj (Nat.le_of_eq (by rw [Nat.zero_add,hl,hc])) (splice_all (by rw [hl,hc]))
theorem E_al64 {e:TypeId} {inf:TypeInfo} (n:Nat) (hi:C.P.info? e=some inf) (hz:zcells inf=some (flat [(n,e64 (replicate n 0#64).toList)])) :
  OpE C ⟨dst, .alloc e,ty,pos,af,gd⟩ m L (Γ:=Nat) (fun b=>ptr (some (b,0)) 0) (fun b=>ents b 0 [(n,e64 (replicate n 0#64).toList)]++L):=E_allocP _ hi hz ⟨lenV (f:=v64) _,trivial⟩
theorem E_sp {x y:Operand} {b o n:Nat} {R:Mem} {t:TypeId} {inf:TypeInfo} (is:List Nat) (ps ns:Parts) (hp:pull is L=some (ents b o ps,R)) (hi:C.P.info? t=some inf) (hps:PartsOk ps) (hns:PartsOk ns) (h1c:PartsOne ns)
  (hx:ev m x=some (ptr (some (b,o)) 0):=by rfl) (hy:ev m y=some (.agg (flat ns).toArray):=by rfl) (hn:inf.size=n:=by rfl) (hl1:(ps.map (·.1)).sum=n:=by rfl) (hl2:(ns.map (·.1)).sum=n:=by rfl) :
  OpE C ⟨dst, .store t x y,ty,pos,af,gd⟩ m L (Γ:=Unit) (fun _=>undef) (fun _=>ents b o ns++R):=E_storeParts ps ns hx hy hp hi hn hps hns (flat_len hps hl1) (flat_len hns hl2) (flat_onec h1c)
abbrev itA64 (i d n:Nat):It:=⟨i,d,fun _ b=>ptr (some (b,0)) 0,fun b=>[⟨some (b,0),e64 (replicate n 0#64).toList⟩],[],none⟩
theorem ItLaws.v {T:List It} {i d:Nat} {v:Value} {deps:List Nat} {r:List It} {oi:Oper} (ho:ops[i]? = some oi) (hl : ∀ {γ:Nat → Nat} {R:Mem},OpV C oi (itSl γ (itPick T deps)++m) (L++R) v)
  (hr:ItLaws C ops m L T r) (hg:oi.guard=none:=by rfl) (hd:oi.dst=some d:=by rfl) (hN:Nat.blt d C.N=true:=by rfl) (hm:(lk m d).isNone=true:=by rfl):ItLaws C ops m L T (itV i d v deps :: r) :=
 .cons ho (fun _ => .plain hg) hd hN hm (fun _ _=>OpE_v hl) hr
theorem ItLaws.e {T:List It} {i d:Nat} {v:Value} {deps:List Nat} {r:List It} {oi:Oper} (ho:ops[i]? = some oi) (hl : ∀ {γ:Nat → Nat} {R:Mem},OpE C oi (itSl γ (itPick T deps)++m) (L++R) (Γ:=Nat) (fun _=>v) (fun _=>L++R))
  (hr:ItLaws C ops m L T r) (hg:oi.guard=none:=by rfl) (hd:oi.dst=some d:=by rfl) (hN:Nat.blt d C.N=true:=by rfl) (hm:(lk m d).isNone=true:=by rfl):ItLaws C ops m L T (itV i d v deps :: r) :=
 .cons ho (fun _ => .plain hg) hd hN hm (fun _ _=>hl) hr
theorem ItLaws.c {T:List It} {k:It} {r:List It} {oi:Oper} (ho:ops[k.i]? = some oi)
  (hl : ∀ (γ:Nat → Nat) (R:Mem),OpE C oi (itSl γ (itPick T k.deps)++m) (itMem T γ k.mdep++(L++R)) (k.val (k.deps.map γ)) (fun b=>k.es b++(itMem T γ k.mdep++(L++R))))
  (hr:ItLaws C ops m L T r) (hg:oi.guard=none:=by rfl) (hd:oi.dst=some k.d:=by rfl) (hN:Nat.blt k.d C.N=true:=by rfl) (hm:(lk m k.d).isNone=true:=by rfl):ItLaws C ops m L T (k :: r) :=
 .cons ho (fun _ => .plain hg) hd hN hm hl hr
theorem PtLaws.c {T:List It} {k:It} {r:List It} {oi:Oper} {v:Value} (ho:ops[k.i]? = some oi) (hl : ∀ (γ:Nat → Nat),OpV C oi (itSl γ (itPick T k.deps)++m) Lr v)
  (hr:PtLaws C ops m Lr T r) (hg:oi.guard=none:=by rfl) (hd:oi.dst=some k.d:=by rfl) (hN:Nat.blt k.d C.N=true:=by rfl) (hm:(lk m k.d).isNone=true:=by rfl)
  (hv:k.val=fun _ _=>v:=by rfl) (he:k.es=fun _=>[]:=by rfl) (hmd:k.mdep=none:=by rfl):PtLaws C ops m Lr T (k :: r) :=
 .cons ho (fun _ => .plain hg) hd hN hm hv he hmd hl hr
theorem TA_cut (m':Sl) (L':Mem) (hm:SubM m' m) (hL:L=L') (h:TA C ops Q js Lr n done m' L'):TA C ops Q js Lr n done m L:=fun a w hs=>h a w (hL ▸ hs.sub hm)
theorem TA_tk {d:Nat} {oi:Oper} {v:Value} (i:Nat) (is:List Nat) (done':Array Bool) (hi:ops[i]? = some oi) (hp:pull is L=some (Lr,R)) (hv:OpV C oi m Lr v) (h:TA C ops Q js Lr n done' ((d,v) :: m) L)
  (ht:Took ops js i done done'=true:=by kernel_rfl) (hsel:Region.noSelect ops=true:=by kernel_rfl) (hQ:QP Q:=by repeat (first | exact QP.body | refine QP.then ?_ | refine QP.block ?_))
  (hg:oi.guard=none:=by rfl) (hd:oi.dst=some d:=by rfl) (hN:Nat.blt d C.N=true:=by rfl):TA C ops Q js Lr (n+1) done m L:=TA_take hi hg hd hN hsel hQ ht hp hv h
theorem TA_tw {d j dj:Nat} {want:Bool} {oi oj:Oper} {v:Value} (i:Nat) (is:List Nat) (done':Array Bool) (hi:ops[i]? = some oi) (hp:pull is L=some (Lr,R)) (hv:OpV C oi m Lr v) (h:TA C ops Q js Lr n done' ((d,v) :: m) L)
  (hg:oi.guard=some (j,want):=by rfl) (hj:ops[j]? = some oj:=by rfl) (hdj:oj.dst=some dj:=by rfl) (hb:lk m dj=some (.bool want):=by rfl)
  (ht:Took ops js i done done'=true:=by kernel_rfl) (hsel:Region.noSelect ops=true:=by kernel_rfl) (hQ:QP Q:=by repeat (first | exact QP.body | refine QP.then ?_ | refine QP.block ?_))
  (hd:oi.dst=some d:=by rfl) (hN:Nat.blt d C.N=true:=by rfl):TA C ops Q js Lr (n+1) done m L:=TA_takeW hi hg hj hdj hb hd hN hsel hQ ht hp hv h
theorem TA_ts {d j dj:Nat} {want b:Bool} {oi oj:Oper} (i:Nat) (is:List Nat) (done':Array Bool) (hi:ops[i]? = some oi) (hp:pull is L=some (Lr,R)) (h:TA C ops Q js Lr n done' ((d,undef) :: m) L)
  (hg:oi.guard=some (j,want):=by rfl) (hj:ops[j]? = some oj:=by rfl) (hdj:oj.dst=some dj:=by rfl) (hb:lk m dj=some (.bool b):=by rfl) (hne:(b == want)=false:=by rfl)
  (ht:Took ops js i done done'=true:=by kernel_rfl) (hsel:Region.noSelect ops=true:=by kernel_rfl) (hQ:QP Q:=by repeat (first | exact QP.body | refine QP.then ?_ | refine QP.block ?_))
  (hd:oi.dst=some d:=by rfl) (hN:Nat.blt d C.N=true:=by rfl):TA C ops Q js Lr (n+1) done m L:=TA_takeS hi hg hj hdj hb hne hd hN hsel hQ ht hp h
end
end Go.Kx
end

section
namespace Go.Kx
open Go
theorem sj {α:Type} {a b:α} (h:some a=some b):a=b:=Option.some.inj h
theorem mk_b (B:Nat) {n:Int} (hB:Nat.ble B 16=true) (h:0≤n∧n≤17592186044416):B * n.toNat≤281474976710656:=by
 have h1:=Nat.le_of_ble_eq_true hB
 obtain ⟨k,rfl⟩:=Int.eq_ofNat_of_zero_le h.1
 have h2:k≤17592186044416:=by have:=h.2; omega
 have h3:B * k≤16 * 17592186044416:=Nat.mul_le_mul h1 h2
 simpa using h3
theorem mk_c {n:Int} (h:0≤n∧n≤17592186044416):n≤4611686018427387904:=Int.le_trans h.2 (by decide)
section
variable {C:Ctx} {Q:Exit → Act → World → Prop} {m m':Sl} {L L' Lr R:Mem} {ops:Array Oper} {rest:List Oper} {dst:Option Tmp} {ty:TypeId} {pos:String} {af:Array Edge} {gd:Option (Nat × Bool)} {c1 c2:Code}
theorem TLs {o:Oper} {d j:Nat} {want b:Bool} {oj:Oper} {dj:Nat} (h:TL C ops Q rest ((d,undef) :: m) L) (hg:o.guard=some (j,want):=by rfl) (hd:o.dst=some d:=by rfl) (hN:Nat.blt d C.N=true:=by rfl)
  (hj:ops[j]? = some oj:=by rfl) (hdj:oj.dst=some dj:=by rfl) (hb:lk m dj=some (.bool b):=by rfl) (hne:(b == want)=false:=by rfl):TL C ops Q (o :: rest) m L:=TL_skip hg hd hN hj hdj hb hne h
theorem TLw {o:Oper} {d j:Nat} {want:Bool} {oj:Oper} {dj:Nat} {v:Value} (ho:OpV C o m L v) (h:TL C ops Q rest ((d,v) :: m) L) (hg:o.guard=some (j,want):=by rfl) (hd:o.dst=some d:=by rfl) (hN:Nat.blt d C.N=true:=by rfl)
  (hj:ops[j]? = some oj:=by rfl) (hdj:oj.dst=some dj:=by rfl) (hb:lk m dj=some (.bool want):=by rfl):TL C ops Q (o :: rest) m L:=TL_want hg hd hN hj hdj hb ho h
theorem TLu {o:Oper} {d j:Nat} {want:Bool} {oj:Oper} {dj:Nat} {Γ:Type} {val:Γ → Value} {mem:Γ → Mem} (ho:OpE C o m L val mem) (h : ∀ g,TL C ops Q rest ((d,val g) :: m) (mem g)) (hg:o.guard=some (j,want):=by rfl) (hd:o.dst=some d:=by rfl) (hN:Nat.blt d C.N=true:=by rfl)
  (hj:ops[j]? = some oj:=by rfl) (hdj:oj.dst=some dj:=by rfl) (hb:lk m dj=some (.bool want):=by rfl):TL C ops Q (o :: rest) m L:=TL_wantE hg hd hN hj hdj hb ho h
theorem TVm {x:Operand} {v:Value} {d:Nat} (h:TL C ops Q rest ((d,v) :: m) L) (hx:ev m x=some v:=by rfl) (hg:gd=none:=by rfl) (hd:dst=some d:=by rfl) (hN:Nat.blt d C.N=true:=by rfl):TL C ops Q (⟨dst, .move x,ty,pos,af,gd⟩ :: rest) m L:=TL_v hg hd hN (V_move hx) h
theorem TVa {x:Operand} {v:Value} {d:Nat} (h:TL C ops Q rest ((d,v) :: m) L) (hx:ev m x=some v:=by rfl) (hg:gd=none:=by rfl) (hd:dst=some d:=by rfl) (hN:Nat.blt d C.N=true:=by rfl):TL C ops Q (⟨dst, .assign x,ty,pos,af,gd⟩ :: rest) m L:=TL_v hg hd hN (V_assign hx) h
theorem TVf {c x y:Operand} {v:Value} {d:Nat} (h:TL C ops Q rest ((d,v) :: m) L) (hc:ev m c=some (.bool false):=by rfl) (hx:ev m y=some v:=by rfl) (hg:gd=none:=by rfl) (hd:dst=some d:=by rfl) (hN:Nat.blt d C.N=true:=by rfl):TL C ops Q (⟨dst, .pick c x y,ty,pos,af,gd⟩ :: rest) m L:=TL_v hg hd hN (V_pick (b:=false) hc hx) h
theorem TVt {c x y:Operand} {v:Value} {d:Nat} (h:TL C ops Q rest ((d,v) :: m) L) (hc:ev m c=some (.bool true):=by rfl) (hx:ev m x=some v:=by rfl) (hg:gd=none:=by rfl) (hd:dst=some d:=by rfl) (hN:Nat.blt d C.N=true:=by rfl):TL C ops Q (⟨dst, .pick c x y,ty,pos,af,gd⟩ :: rest) m L:=TL_v hg hd hN (V_pick (b:=true) hc hx) h
theorem TXr {fn:Func} {rs:List ResultVar} {vs:List Value} {val:Unit → Value} {w:World} {Lin:Mem} (hr:fn.results=rs.toArray) (hv:ResVs C m L rs vs) (hw:C.w0=w:=by rfl) (hL:C.L0=Lin:=by rfl) (hval:retVal vs=val ():=by rfl) :
  TX C (bodyPost C.P fn fun e w' => ∃ g:Unit,e = .returned (val g)∧Step w Lin w' []) .ret m L :=
 TX_ret hr hv fun w' hs'=>⟨(),by rw [hval],by subst hw hL; exact Step.left (Step.pulled (is:=[]) (A:=[]) hs' rfl)⟩
theorem TX1 {fn:Func} {t:Nat} {v:Value} {val:Unit → Value} {w:World} {Lin:Mem} (hr:fn.results=[.tmp t].toArray:=by rfl) (hv:lk m t=some v:=by rfl) (hw:C.w0=w:=by rfl) (hL:C.L0=Lin:=by rfl) (hval:v=val ():=by rfl) :
  TX C (bodyPost C.P fn fun e w' => ∃ g:Unit,e = .returned (val g)∧Step w Lin w' []) .ret m L:=TXr (vs:=[v]) hr ⟨hv,trivial⟩ hw hL hval
theorem TX2 {fn:Func} {t t2:Nat} {v v2:Value} {val:Unit → Value} {w:World} {Lin:Mem} (hr:fn.results=[.tmp t, .tmp t2].toArray:=by rfl) (hv:lk m t=some v:=by rfl) (hv2:lk m t2=some v2:=by rfl) (hw:C.w0=w:=by rfl) (hL:C.L0=Lin:=by rfl) (hval:retVal [v,v2]=val ():=by rfl) :
  TX C (bodyPost C.P fn fun e w' => ∃ g:Unit,e = .returned (val g)∧Step w Lin w' []) .ret m L:=TXr (vs:=[v,v2]) hr ⟨hv,hv2,trivial⟩ hw hL hval
theorem TCd {x:Operand} {p:Prop} [Decidable p] {α:Type} {a1 a2 r:α} (H:(if p then a1 else a2)=r) (ht:decide p=true → a1=r → TC C c1 Q m L) (hf:decide p=false → a2=r → TC C c2 Q m L) (hx:ev m x=some (vb (decide p)):=by rfl):TC C (.cond x c1 c2) Q m L :=
 TC_cond hx (fun hc=>ht hc (ite_t (of_decide_eq_true hc) H)) fun hc=>hf hc (ite_f (of_decide_eq_false hc) H)
theorem TCb {x:Operand} {b:Bool} {α:Type} {a1 a2 r:α} (H:(if b=true then a1 else a2)=r) (ht:b=true → a1=r → TC C c1 Q m L) (hf:b=false → a2=r → TC C c2 Q m L) (hx:ev m x=some (vb b):=by rfl):TC C (.cond x c1 c2) Q m L :=
 TC_cond hx (fun hc=>ht hc (ite_t hc H)) fun hc=>hf hc (ite_f (Bool.eq_false_iff.1 hc) H)
theorem TFd {d:Nat} {p:Prop} [Decidable p] {α:Type} {a1 a2 r:α} (H:(if p then a1 else a2)=r) (ht:decide p=true → a1=r → TL C ops Q rest ((d, .bool true) :: m) L) (hf:decide p=false → a2=r → TL C ops Q rest ((d, .bool false) :: m) L) (hd:lk m d=some (vb (decide p)):=by rfl):TL C ops Q rest m L :=
 TL_fork hd (fun hc=>ht hc (ite_t (of_decide_eq_true hc) H)) fun hc=>hf hc (ite_f (of_decide_eq_false hc) H)
theorem TFb {d:Nat} {b:Bool} {α:Type} {a1 a2 r:α} (H:(if b=true then a1 else a2)=r) (ht:b=true → a1=r → TL C ops Q rest ((d, .bool true) :: m) L) (hf:b=false → a2=r → TL C ops Q rest ((d, .bool false) :: m) L) (hd:lk m d=some (vb b):=by rfl):TL C ops Q rest m L :=
 TL_fork hd (fun hc=>ht hc (ite_t hc H)) fun hc=>hf hc (ite_f (Bool.eq_false_iff.1 hc) H)
theorem TXj {e:Exit} (is:List Nat) (h:TX C Q e m' L') (hp:pull is L=some (L',R):=by rfl) (hm:SubM m' m:=by repeat (first | exact trivial | refine ⟨rfl,?_⟩)):TX C Q e m L:=TX.pull hp (TX.sub hm h)
theorem TXk {K:Act → World → Prop} (is:List Nat) (h : ∀ a w,Sat C m' L' a w → K a w) (hp:pull is L=some (L',R):=by rfl) (hm:SubM m' m:=by repeat (first | exact trivial | refine ⟨rfl,?_⟩)):TX C (Exit.then K Q) .normal m L :=
 TX.pull hp (TX.sub hm fun a w hs=>h a w hs)
theorem TLr {v v':Value} (d:Nat) (hv:v=v') (h:TL C ops Q rest ((d,v') :: m) L) (hd:lk m d=some v:=by rfl):TL C ops Q rest m L:=TL_re hd hv h
end
end Go.Kx
end

section
namespace Go.Kx
open Go
section
variable {C:Ctx} {m:Sl} {L:Mem} {dst:Option Tmp} {ty:TypeId} {pos:String} {af:Array Edge} {gd:Option (Nat × Bool)}
theorem E_callV {g:Operand} {xs:List Operand} {ats:Array TypeId} {f:FuncId} {cap vs:List Value} {Lin Ro R:Mem} {is:List Nat} {Γ:Type} {val:Γ → Value} {mem:Γ → Mem}
  (hg:ev m g=some (.func (.func f) #[] cap.toArray)) (hxs:evs m xs=some vs) (hcall : ∀ args w,(callFunc f args).run C.P w = .ok (.enter f args) w) (hf:Does C.P f (vs++cap) Lin Ro val mem) (hp:pull is L=some (Lin,R)) (hro:SrcDs C Lin R Ro) :
  OpE C ⟨dst, .call ⟨.value g,xs.toArray,ats⟩,ty,pos,af,gd⟩ m L val (fun g=>mem g++R):=fun a w hs Q K hK=>by
 have h1:Step C.w0 C.L0 w (Lin++R):=hs.step.pulled hp
 have hrun:(execOp a.eval ⟨dst, .call ⟨.value g,xs.toArray,ats⟩,ty,pos,af,gd⟩).run C.P w = .ok (.enter f (vs++cap).toArray) w:=by
  have hargs:xs.toArray.map a.eval=vs.toArray:=by simp [hs.slots.evs hxs]
  have hfv:a.eval g = .func (.func f) #[] cap.toArray:=hs.slots.ev hg
  simp only [execOp,resolve,hargs,hfv,Deferred.ofValue]
  simp [invoke,hcall]
 unfold Oper.wp
 rw [hrun,Oper.upon_enter]
 refine (hf w h1.ok.left (fun e he=>(hro.all e he w h1 hs.ro).1) (fun f hf e he=>(hro.all e he w h1 hs.ro).2 f hf)).mono ?_
 rintro e w' ⟨g,rfl,hg⟩
 exact hK g w' (h1.frame hg)
theorem E_c0V {g:Operand} {xs:List Operand} {ats:Array TypeId} {f:FuncId} {cap vs:List Value} {Ro:Mem} {Γ:Type} {val:Γ → Value} {mem:Γ → Mem}
  (hf:Does C.P f (vs++cap) [] Ro val mem) (hcall : ∀ args w,(callFunc f args).run C.P w = .ok (.enter f args) w) (hro:SrcDs C [] L Ro) (hg:ev m g=some (.func (.func f) #[] cap.toArray):=by rfl) (hxs:evs m xs=some vs:=by rfl) :
  OpE C ⟨dst, .call ⟨.value g,xs.toArray,ats⟩,ty,pos,af,gd⟩ m L val (fun g=>mem g++L):=E_callV hg hxs hcall hf (SrcDs.nil_pull L) hro
theorem V_makeFunc {f:Fn} {cap:List Operand} {cv:List Value} (hc:evs m cap=some cv):OpV C ⟨dst, .makeFunc f #[] cap.toArray,ty,pos,af,gd⟩ m L (.func f #[] cv.toArray):=fun a w hs=>by
 have hargs:cap.toArray.map a.eval=cv.toArray:=by simp [hs.slots.evs hc]
 show ((Instr.makeFunc f (#[].map a.eval) (cap.toArray.map a.eval)) >>= fun r=>pure (Next.value r)).run C.P w=_
 rw [hargs]
 simp [Instr.makeFunc]
end
def TR (C:Ctx) (c:Code) (Q:Exit → Act → World → Prop) (n:Nat) (m:Sl) (L:Mem):Prop := ∀ a w,Sat C m L a w → Code.rounds C.P c Q n a w
section
variable {C:Ctx} {Q:Exit → Act → World → Prop} {c:Code} {m:Sl} {L:Mem} {n:Nat}
theorem TC_rounds (n:Nat) (h:TR C c Q n m L):TC C (.loop c) Q m L:=fun a w hs=>wp_loop_rounds n (h a w hs)
theorem TR_step (h:TC C c (Exit.then (Code.rounds C.P c Q n) Q) m L):TR C c Q (n+1) m L:=h
theorem TX_again (h:TR C c Q n m L):TX C (Exit.then (Code.rounds C.P c Q n) Q) .normal m L:=h
theorem TC_nil {A:Adr} {cs:List Value} (hsrc:Src C L ⟨A,cs⟩) (h1:A=none → cs=[] → TC C c Q m L) (h2:A ≠ none → TC C c Q m L):TC C c Q m L:=fun a w hs=>by
 by_cases hA:A=none
 ·exact h1 hA ((hsrc w hs.step hs.ro).1 hA) a w hs
 ·exact h2 hA a w hs
end
section
variable {P:Program} (w:World) {t:TypeId} {x y:Operand}
theorem addI_lit {a b c:Int} (h:w64 (a+b)=c):(binG .add t x y (vi a) (vi b)).run P w = .ok (vi c) w:=h ▸ addI w a b
theorem guard_sl {op:BinOp} {a b:Option Addr} {n c n' c':Nat}:(eqGuard op t x y (.slice a n c) (.slice b n' c')).run P w = .ok () w:=by
 cases op <;> simp [eqGuard]
theorem eqSl (d:Nat) {e:TypeId} {A:Adr} {n c:Nat} (ht:P.underlying t=some (.slice e)):(Op.equalIn (d+1) t (sl A n c) (.slice none 0 0)).run P w = .ok A.isNone w:=by
 cases A <;> simp [Op.equalIn,Sem.run_bind,run_underlying ht,sl]
theorem eqlSln {e:TypeId} {A:Adr} {n c:Nat} (ht:P.underlying t=some (.slice e)) (hA:A ≠ none):(binG .eql t x y (sl A n c) (.slice none 0 0)).run P w = .ok (vb false) w:=binG_of w (guard_sl w) (by
 show ((Op.equalIn (9999+1) t (sl A n c) (.slice none 0 0)) >>= fun r=>pure (Value.bool r)).run P w=_
 rw [Sem.run_bind,eqSl w 9999 ht]
 cases A with
 | none=>exact absurd rfl hA
 | some p=>simp [vb])
theorem eqlSlnn {e:TypeId} {n c:Nat} (ht:P.underlying t=some (.slice e)):(binG .eql t x y (sl none n c) (.slice none 0 0)).run P w = .ok (vb true) w:=binG_of w (guard_sl w) (by
 show ((Op.equalIn (9999+1) t (sl none n c) (.slice none 0 0)) >>= fun r=>pure (Value.bool r)).run P w=_
 rw [Sem.run_bind,eqSl w 9999 ht]
 simp [vb])
end
def subL {α:Type} (l:List α) (lo hi:Nat):List α:=(l.drop lo).take (hi - lo)
theorem subL_length {α:Type} {l:List α} {lo hi:Nat} (hh:hi≤l.length):(subL l lo hi).length=hi - lo:=by
 simp only [subL,List.length_take,List.length_drop]; omega
theorem vwL_cap {α:Type} {c lo hi:Nat} {s:List α} (h:hi≤s.length) (h2:hi≤c):(subL s lo hi).length≤c - lo:=by
 rw [subL_length h]; omega
theorem srcdE {C:Ctx} {Lin R:Mem} {A:Adr} {z:List Value} (hz:z=[]):SrcD C Lin R ⟨A,z⟩:=by
 subst hz
 exact fun w hs hr=>⟨⟨fun _=>rfl,fun i v hv=>by simp at hv⟩,fun f hf i j hi hj=>by simp at hj⟩
theorem srcdVwL {C:Ctx} {α:Type} {f:α → Value} {Lin R:Mem} {A:Adr} {lst:List α} {c lo hi b:Nat} (hs:SrcD C Lin R ⟨A,lst.map f⟩) (h2:hi≤c):SrcD C Lin R ⟨cutB A c lo b 1,(subL lst lo hi).map f⟩:=by
 unfold cutB
 split
 ·have:hi - lo=0:=by omega
  have e:subL lst lo hi=[]:=by simp [subL,this]
  rw [e]
  exact fun w hs hr=>⟨⟨fun _=>rfl,fun i v hv=>by simp at hv⟩,fun f hf i j hi hj=>by simp at hj⟩
 ·have:=hs.part (lo * 1) (hi - lo)
  simpa [subL,List.map_take,List.map_drop] using this
theorem flat_drop {α:Type} {g:α → List Value} {s:Nat} (hg : ∀ a,(g a).length=s) : ∀ (l:List α) (k:Nat),((l.map g).flatten).drop (k * s)=((l.drop k).map g).flatten
 | l,0=>by simp
 | [],k+1=>by simp
 | a :: l,k+1=>by
  have e:(k+1) * s=(g a).length+k * s:=by rw [hg,Nat.add_mul,Nat.one_mul,Nat.add_comm]
  rw [List.map_cons,List.flatten_cons,e,List.drop_append,List.drop_eq_nil_of_le (Nat.le_add_right _ _)]
  simpa using flat_drop hg l k
theorem flat_take {α:Type} {g:α → List Value} {s:Nat} (hg : ∀ a,(g a).length=s) : ∀ (l:List α) (k:Nat),((l.map g).flatten).take (k * s)=((l.take k).map g).flatten
 | l,0=>by simp
 | [],k+1=>by simp
 | a :: l,k+1=>by
  have e:(k+1) * s=(g a).length+k * s:=by rw [hg,Nat.add_mul,Nat.one_mul,Nat.add_comm]
  rw [List.map_cons,List.flatten_cons,e,List.take_append,List.take_of_length_le (Nat.le_add_right _ _)]
  simpa using flat_take hg l k
theorem srcdVwF {C:Ctx} {α:Type} {g:α → List Value} {s:Nat} (hg : ∀ a,(g a).length=s) {Lin R:Mem} {A:Adr} {lst:List α} {c lo hi b:Nat} (hs:SrcD C Lin R ⟨A,eF g lst⟩) (h2:hi≤c):SrcD C Lin R ⟨cutB A c lo b s,eF g (subL lst lo hi)⟩:=by
 unfold cutB
 split
 ·have:hi - lo=0:=by omega
  have e:subL lst lo hi=[]:=by simp [subL,this]
  rw [e]
  exact fun w hs hr=>⟨⟨fun _=>rfl,fun i v hv=>by simp at hv⟩,fun f hf i j hi hj=>by simp at hj⟩
 ·have:=hs.part (lo * s) ((hi - lo) * s)
  rw [show eF g lst=(lst.map g).flatten from rfl,flat_drop hg,flat_take hg] at this
  exact this
theorem nil_of {α:Type} {f:α → Value} {l:List α} (h:l.map f=[]):l=[]:=by simpa using h
def npair:Nat → Nat × Nat
 | 0=>(0,0)
 | n+1=>match npair n with
  | (0,b)=>(b+1,0)
  | (a+1,b)=>(a,b+1)
theorem npair_ex : ∀ s b:Nat, ∀ a,a+b=s → ∃ n,npair n=(a,b)
 | 0,b,a,h=>by
  have h1:a=0:=by omega
  have h2:b=0:=by omega
  subst h1 h2
  exact ⟨0,rfl⟩
 | s+1,0,a,h=>by
  obtain ⟨n,hn⟩:=npair_ex s s 0 (by omega)
  have h1:a=s+1:=by omega
  exact ⟨n+1,by simp only [npair,hn]; rw [h1]⟩
 | s+1,b+1,a,h=>by
  obtain ⟨n,hn⟩:=npair_ex (s+1) b (a+1) (by omega)
  exact ⟨n+1,by simp only [npair,hn]⟩
termination_by s b=>(s,b)
def Cnt (α:Type):Prop := ∃ f:Nat → α, ∀ a, ∃ n,f n=a
theorem cnt_nat:Cnt Nat:=⟨id,fun a=>⟨a,rfl⟩⟩
theorem Cnt.prod {α β:Type}:Cnt α → Cnt β → Cnt (α × β):=fun ⟨f,hf⟩ ⟨g,hg⟩=>⟨fun n=>(f (npair n).1,g (npair n).2),fun (a,b)=>by
 obtain ⟨i,hi⟩:=hf a
 obtain ⟨j,hj⟩:=hg b
 obtain ⟨n,hn⟩:=npair_ex (i+j) j i rfl
 exact ⟨n,by simp [hn,hi,hj]⟩⟩
theorem Cnt.option {α:Type}:Cnt α → Cnt (Option α):=fun ⟨f,hf⟩=>⟨fun n=>match n with | 0=>none | k+1=>some (f k),fun a=>by
 cases a with
 | none=>exact ⟨0,rfl⟩
 | some a=>obtain ⟨k,hk⟩:=hf a; exact ⟨k+1,by simp [hk]⟩⟩
theorem cnt_int:Cnt Int:=by
 obtain ⟨f,hf⟩:=Cnt.prod cnt_nat cnt_nat
 refine ⟨fun n=>((f n).1:Int) - (f n).2,fun a=>?_⟩
 obtain ⟨n,hn⟩:=hf (a.toNat,(-a).toNat)
 exact ⟨n,by simp only [hn]; omega⟩
def listOf {α:Type} (f:Nat → α):Nat → Nat → List α
 | 0,_=>[]
 | k+1,n=>f (npair n).1 :: listOf f k (npair n).2
theorem listOf_ex {α:Type} {f:Nat → α} (hf : ∀ a, ∃ n,f n=a) : ∀ l:List α, ∃ n,listOf f l.length n=l
 | []=>⟨0,rfl⟩
 | a :: l=>by
  obtain ⟨i,hi⟩:=hf a
  obtain ⟨j,hj⟩:=listOf_ex hf l
  obtain ⟨n,hn⟩:=npair_ex (i+j) j i rfl
  exact ⟨n,by simp [listOf,hn,hi,hj]⟩
theorem Cnt.list {α:Type}:Cnt α → Cnt (List α):=fun ⟨f,hf⟩=>⟨fun n=>listOf f (npair n).1 (npair n).2,fun l=>by
 obtain ⟨j,hj⟩:=listOf_ex hf l
 obtain ⟨n,hn⟩:=npair_ex (l.length+j) j l.length rfl
 exact ⟨n,by simp [hn,hj]⟩⟩
theorem cnt_ai:Cnt (Adr × List Int):=((cnt_nat.prod cnt_nat).option).prod cnt_int.list
noncomputable def cf:Nat → Adr × List Int:=Classical.choose cnt_ai
theorem cf_ex : ∀ a, ∃ n,cf n=a:=Classical.choose_spec cnt_ai
section
variable {C:Ctx} {m:Sl} {L:Mem} {dst:Option Tmp} {ty:TypeId} {pos:String} {af:Array Edge} {gd:Option (Nat × Bool)}
theorem OpE_cf {o:Oper} {val:Adr × List Int → Value} {mem:Adr × List Int → Mem} (h:OpE C o m L val mem):OpE C o m L (Γ:=Nat) (fun n=>val (cf n)) (fun n=>mem (cf n)):=fun a w hs Q K hK =>
 h a w hs Q K fun g w' hs'=>by
  obtain ⟨n,rfl⟩:=cf_ex g
  exact hK n w' hs'
theorem E_cn {xs:List Operand} {ats:Array TypeId} {f:FuncId} {vs:List Value} {Ro:Mem} {val:Adr × List Int → Value} {mem:Adr × List Int → Mem}
  (hf:Does C.P f vs [] Ro val mem) (hcall : ∀ args w,(callFunc f args).run C.P w = .ok (.enter f args) w) (hro:SrcDs C [] L Ro) (hxs:evs m xs=some vs:=by rfl) :
  OpE C ⟨dst, .call ⟨.value (.func f),xs.toArray,ats⟩,ty,pos,af,gd⟩ m L (Γ:=Nat) (fun n=>val (cf n)) (fun n=>mem (cf n)++L):=OpE_cf (E_c0 hf hcall hro hxs)
end
section
variable {C:Ctx} {Q:Exit → Act → World → Prop} {m:Sl} {L:Mem} {ops:Array Oper} {l:List Oper}
theorem TL_gen2 {Lf:Adr → Adr → Mem} (hL:Lf none none=⟨none,[]⟩ :: ⟨none,[]⟩ :: L) (h : ∀ A0 A1,TL C ops Q l m (Lf A0 A1)):TL C ops Q l m L:=TL_none (TL_none ((hL ▸ h none none)))
theorem TL_gen3 {Lf:Adr → Adr → Adr → Mem} (hL:Lf none none none=⟨none,[]⟩ :: ⟨none,[]⟩ :: ⟨none,[]⟩ :: L) (h : ∀ A0 A1 A2,TL C ops Q l m (Lf A0 A1 A2)):TL C ops Q l m L:=TL_none (TL_none (TL_none ((hL ▸ h none none none))))
theorem TL_gen5 {Lf:Adr → Adr → Adr → Adr → Adr → Mem} (hL:Lf none none none none none=⟨none,[]⟩ :: ⟨none,[]⟩ :: ⟨none,[]⟩ :: ⟨none,[]⟩ :: ⟨none,[]⟩ :: L) (h : ∀ A0 A1 A2 A3 A4,TL C ops Q l m (Lf A0 A1 A2 A3 A4)):TL C ops Q l m L:=TL_none (TL_none (TL_none (TL_none (TL_none ((hL ▸ h none none none none none))))))
theorem TL_gen10 {Lf:Adr → Adr → Adr → Adr → Adr → Adr → Adr → Adr → Adr → Adr → Mem} (hL:Lf none none none none none none none none none none=⟨none,[]⟩ :: ⟨none,[]⟩ :: ⟨none,[]⟩ :: ⟨none,[]⟩ :: ⟨none,[]⟩ :: ⟨none,[]⟩ :: ⟨none,[]⟩ :: ⟨none,[]⟩ :: ⟨none,[]⟩ :: ⟨none,[]⟩ :: L) (h : ∀ A0 A1 A2 A3 A4 A5 A6 A7 A8 A9,TL C ops Q l m (Lf A0 A1 A2 A3 A4 A5 A6 A7 A8 A9)):TL C ops Q l m L:=TL_none (TL_none (TL_none (TL_none (TL_none (TL_none (TL_none (TL_none (TL_none (TL_none ((hL ▸ h none none none none none none none none none none)))))))))))
end
section
variable {C:Ctx} {m:Sl} {L:Mem} {dst:Option Tmp} {ty:TypeId} {pos:String} {af:Array Edge} {gd:Option (Nat × Bool)}
theorem E_buildSlice0 {t e:TypeId} {ie:TypeInfo} {cs:List Value} (hu:C.P.underlying t=some (.slice e)) (hie:C.P.info? e=some ie) (hc:cs=[]) :
  OpE C ⟨dst, .buildSlice t 0 #[],ty,pos,af,gd⟩ m L (Γ:=Nat) (fun b=>sl (some (b,0)) 0 0) (fun b=>⟨some (b,0),cs⟩ :: L):=fun a w hs' Q K hK=>by
 subst hc
 have hrun:(execOp a.eval ⟨dst, .buildSlice t 0 #[],ty,pos,af,gd⟩).run C.P w = .ok (.value (sl (some (w.heap.size,0)) 0 0)) { w with heap:=w.heap.push (.cells #[] e) }:=by
  simp only [execOp,Instr.buildSlice,typeInfo,Sem.run_bind,program,Sem.run,hie,Result.andThen_ok,Sem.run_pure,run_underlying hu,sizeOf]
  simp [newRow,newObj,sl,Instr.fill]
  have e1 : ∀ f:Nat → Value,Array.map f (Array.range 0) = #[]:=fun f=>by apply Array.toList_inj.1; simp
  rw [e1]
  rfl
 unfold Oper.wp
 rw [hrun]
 exact hK _ _ (by have:=newBlock hs'.step #[] e; simpa using this)
end
end Go.Kx
end

section
namespace Go.Kx
open Go
def notI:TypeDesc → Bool
 | .interface _=>false
 | _=>true
section
variable {C:Ctx} {m:Sl} {L:Mem} {dst:Option Tmp} {ty:TypeId} {pos:String} {af:Array Edge} {gd:Option (Nat × Bool)}
theorem V_mkI {x:Operand} {v r:Value} {t:TypeId} {d:TypeDesc} (hx:ev m x=some v) (hu:C.P.underlying t=some d) (hd:notI d=true) (hr:Value.iface t v=r):OpV C ⟨dst, .makeInterface t x,ty,pos,af,gd⟩ m L r:=fun a w hs=>by
 subst hr
 show ((Instr.makeInterface t (a.eval x)) >>= fun r=>pure (Next.value r)).run C.P w=_
 rw [hs.slots.ev hx]
 unfold Instr.makeInterface
 simp only [Sem.run_bind,run_underlying hu]
 cases d <;> simp_all [notI,Result.andThen]
end
section
variable {P:Program} {t:TypeId} {x:Operand} {c:Value}
theorem eqE0 (w:World) (k:Nat) (e:Er) {ms} (ht:P.underlying t=some (.interface ms)):(Op.equalIn (k+1) t (vE e) .nilIface).run P w = .ok (Er.isNil e) w:=by
 cases e <;> simp [Op.equalIn,vE,Sem.run_bind,run_underlying ht,Er.isNil]
theorem guardE {op:BinOp} (w:World) (e:Er):(eqGuard op t x (.const c) (vE e) .nilIface).run P w = .ok () w:=by
 cases e <;> cases op <;> simp [eqGuard,vE]
theorem neqE (w:World) (e:Er) {ms} (ht:P.underlying t=some (.interface ms)):(binG .neq t x (.const c) (vE e) (vE Er.nil)).run P w = .ok (vb (!(Er.isNil e))) w:=binG_of w (guardE w e) (by
 have h:=eqE0 (P:=P) (t:=t) w 9999 e ht
 cases e <;> (show ((Op.equalIn (9999+1) t _ .nilIface) >>= fun r=>pure (Value.bool (!r))).run P w=_; rw [Sem.run_bind,h]; simp [vb]))
end
end Go.Kx
end

section
namespace Go.Proofs
open Go Go.Kx
open TryzI Tryz
def hello_in (x:Int) (least:Int) (most:Int):Option (Bool) :=
 if least≤x then (ltt (decide (x≤most)) fun (x1:Bool)=>(some x1)) else (some false)
set_option maxHeartbeats 4000000 in
set_option maxRecDepth 20000 in
theorem F46_calls (x:Int) (least:Int) (most:Int) (r:Bool) (H:hello_in x least most=some r) :
  Does Tryz.prog 46 [vi x,vi least,vi most] [] [] (Γ:=Unit) (fun g=>vb r) (fun g=>[]):=by
 intro w hmem hro hd
 refine calls_of (N:=15) (m0:=[(0,vi x),(1,vi least),(2,vi most)]) func46 rfl ntmps46 (argM_ok [vi x,vi least,vi most]) rfl hmem hro hd ?_
 unfold hello_in at H
 refine TC_seq (TC_region (TVa ?_))
 refine TL_nil (TX_next (TC_seq (TC_region (TVm ?_))))
 refine TVm ?_
 refine TLv (V_bin rfl rfl (fun w=>geqI w x least)) ?_
 refine TVm ?_
 refine TFd (d:=10) H (fun hc H=>?_) (fun hc H=>?_)
 ·refine TLw (V_move rfl) ?_
  refine TLw (V_move rfl) ?_
  refine TLw (V_bin rfl rfl (fun w=>leqI w x most)) ?_
  refine TVt ?_
  refine TVa ?_
  obtain ⟨x1,hx1,H⟩:=ltt_elim H
  refine TLr 6 (congrArg vb hx1) ?_
  refine TL_nil (TX_next (TC_ret ?_))
  obtain rfl:=sj H
  exact TX1
 ·refine TLs ?_
  refine TLs ?_
  refine TLs ?_
  refine TVf ?_
  refine TVa ?_
  refine TL_nil (TX_next (TC_ret ?_))
  obtain rfl:=sj H
  exact TX1
end Go.Proofs
end

section
namespace Go.Proofs
open Go Go.Kx
open TryzI Tryz
def slices_Index___int_int_.b0 (s_:List (Int)) (v:Int) (s0:Int):Option ((Int) ⊕ ((Unit) ⊕ (Int))) :=
 if s0<((s_).length:Int) then (if 0≤s0∧s0<((s_).length:Int) then (if v=(lg s_ ((s0).toNat)) then (some (.inr (.inr s0))) else (some (.inl (w64 (s0+1))))) else none) else (some (.inr (.inl ())))
def slices_Index___int_int_ (s_:List (Int)) (v:Int):Option (Int) :=
 (loop (slices_Index___int_int_.b0 s_ v) BIG 0).bind fun (t_1:(Unit) ⊕ (Int))=>(match t_1 with | .inl t_1=>(some (-1)) | .inr rv=>some rv)
set_option maxHeartbeats 4000000 in
set_option maxRecDepth 20000 in
theorem F83_calls (As_:Adr) (cs_:Nat) (s_:List (Int)) (v:Int) (hcs_:(s_).length≤cs_) (r:Int) (H:slices_Index___int_int_ s_ v=some r) :
  Does Tryz.prog 83 [sl As_ ((s_).length) cs_,vi v] [] [⟨As_,eI s_⟩] (Γ:=Unit) (fun g=>vi r) (fun g=>[]):=by
 intro w hmem hro hd
 refine calls_of (N:=19) (m0:=[(0,sl As_ ((s_).length) cs_),(1,vi v)]) func83 rfl ntmps83 (argM_ok [sl As_ ((s_).length) cs_,vi v]) rfl hmem hro hd ?_
 unfold slices_Index___int_int_ at H
 refine TC_seq (TC_region (TVa ?_))
 refine TL_nil (TX_next (TC_seq (TC_seq (TC_region (TVm ?_)))))
 refine TLv (V_len_slice rfl underlying22) ?_
 refine TVm ?_
 refine TL_nil (TX_next (TC_block ?_))
 obtain ⟨t_1,Hl,H⟩:=bind_elim H
 refine TC.sub (m':=[(0,_),(1,_),(7,_),(8,_)]) ⟨rfl,rfl,rfl,rfl,trivial⟩ ?_
 refine TC.pull (is:=[]) (L':=[]) rfl ?_
 refine TC_loopR (id:=0) (body:=(slices_Index___int_int_.b0 s_ v)) (σ:=Int) (Γ:=Unit) (Γx:=Unit) (fun s0 g0_=>[(0,sl As_ ((s_).length) cs_),(1,vi v),(7,vi ((s_).length:Int)),(8,vi s0)]) (fun s0 g0_=>[]) (fun t g=>[]) (fun t g=>[]) r ?_ BIG 0 () t_1 Hl ?_
 ·intro s0 g0_ r1 H K hK hE hR1
  unfold slices_Index___int_int_.b0 at H
  refine TC_seq (TC_region (TLv (V_bin rfl rfl (fun w=>lssI w s0 ((s_).length:Int))) ?_))
  refine TL_nil (TX_next (TC_seq (TCd H (fun hc H=>?_) (fun hc H=>?_))))
  ·refine TC_skip (TX_next (TC_seq (TC_block (TC_seq (TC_region (TVm ?_))))))
   refine TVa ?_
   refine TL_nil (TX_next (TC_seq (TC_region (TVm ?_))))
   refine TVm ?_
   refine TVm ?_
   obtain ⟨h1,H⟩:=if_elim H
   refine TLv (V_idxSlS (i:=s0) rfl rfl underlying22 inf3 rfl (.r 0) (map_ne (toNat_lt h1.1 h1.2)) h1.1 h1.2 (k:=(s0).toNat) (km1 _)) ?_
   refine TLv (V_load rfl (.r 0) (get_map (f:=vi) (l:=s_) (toNat_lt h1.1 h1.2)) isAgg3) ?_
   refine TLv (V_bin rfl rfl (fun w=>eqlI w v (lg s_ ((s0).toNat)))) ?_
   refine TL_nil (TX_next (TCd H (fun hc H=>?_) (fun hc H=>?_)))
   ·refine TC_seq (TC_region (TVm ?_))
    refine TVa ?_
    refine TL_nil (TX_next (TC_ret (TX_block_ret (TX_then_ret (TX_then_ret (TX_block_ret (TX_then_ret ?_)))))))
    have hrv:=(hR1 _ (Option.some.inj H).symm)
    subst hrv
    exact TX1
   ·refine TC_skip (TX_block_normal (TX_next (TC_region (TLv (V_bin rfl rfl (fun w=>addI w s0 1)) ?_))))
    refine TVm ?_
    refine TL_nil ?_
    obtain rfl:=sj H
    exact TXk [] (hK (w64 (s0+1)) rfl ())
  ·refine TC_exit (TX_then_exit (TX_then_exit ?_))
   obtain rfl:=sj H
   exact TXj [] (hE () rfl ())
 ·rcases t_1 with t_1 | rv
  ·intro gx1
   dsimp only at H
   refine TX_block_exit (TX_next (TC_seq (TC_region (TVa ?_))))
   refine TL_nil (TX_next (TC_ret ?_))
   obtain rfl:=sj H
   exact TX1
  ·exact (Option.some.inj H)
end Go.Proofs
end

section
namespace Go.Proofs
open Go Go.Kx
open TryzI Tryz
def slices_Contains___int_int_ (s_:List (Int)) (v:Int):Option (Bool) :=
 (slices_Index___int_int_ s_ v).bind fun (r_1:Int)=>(ltt (decide (0≤r_1)) fun (x1:Bool)=>(some x1))
set_option maxHeartbeats 4000000 in
set_option maxRecDepth 20000 in
theorem F62_calls (As_:Adr) (cs_:Nat) (s_:List (Int)) (v:Int) (hcs_:(s_).length≤cs_) (r:Bool) (H:slices_Contains___int_int_ s_ v=some r) :
  Does Tryz.prog 62 [sl As_ ((s_).length) cs_,vi v] [] [⟨As_,eI s_⟩] (Γ:=Unit) (fun g=>vb r) (fun g=>[]):=by
 intro w hmem hro hd
 refine calls_of (N:=9) (m0:=[(0,sl As_ ((s_).length) cs_),(1,vi v)]) func62 rfl ntmps62 (argM_ok [sl As_ ((s_).length) cs_,vi v]) rfl hmem hro hd ?_
 unfold slices_Contains___int_int_ at H
 refine TC_seq (TC_region (TVa ?_))
 refine TL_nil (TX_next (TC_seq (TC_region (TVm ?_))))
 refine TVm ?_
 obtain ⟨r_1,hr_1,H⟩:=bind_elim H
 refine TLe (E_c0 (F83_calls As_ cs_ s_ v hcs_ r_1 hr_1) call83 ⟨.r 0,trivial⟩) (fun g_1=>?_)
 refine TLv (V_bin rfl rfl (fun w=>geqI w r_1 0)) ?_
 refine TVa ?_
 obtain ⟨x1,hx1,H⟩:=ltt_elim H
 refine TLr 4 (congrArg vb hx1) ?_
 refine TL_nil (TX_next (TC_ret ?_))
 obtain rfl:=sj H
 exact TX1
end Go.Proofs
end

section
namespace Go.Proofs
open Go Go.Kx
open TryzI Tryz
def aead_Sizes (suite:Int):Option (Int × Int × Int) :=
 ltt (decide (suite=4865)) fun (x1:Bool)=>(if x1=true then (some (16,256,0)) else (ltt (decide (suite=4866)) fun (x2:Bool)=>(if x2=true then (some (32,384,0)) else (ltt (decide (suite=4867)) fun (x3:Bool)=>(if x3=true then (some (32,256,0)) else (some (0,0,800)))))))
set_option maxHeartbeats 4000000 in
set_option maxRecDepth 20000 in
theorem F70_calls (suite:Int) (r:Int × Int × Int) (H:aead_Sizes suite=some r) :
  Does Tryz.prog 70 [vi suite] [] [] (Γ:=Unit) (fun g=>Value.tuple [vi r.1,vi r.2.1,vi r.2.2].toArray) (fun g=>[]):=by
 intro w hmem hro hd
 refine calls_of (N:=12) (m0:=[(0,vi suite)]) func70 rfl ntmps70 (argM_ok [vi suite]) rfl hmem hro hd ?_
 unfold aead_Sizes at H
 refine TC_seq (TC_region (TVa ?_))
 refine TVa ?_
 refine TVa ?_
 refine TL_nil (TX_next (TC_seq (TC_seq (TC_region (TVm ?_)))))
 refine TL_nil (TX_next (TC_block (TC_seq (TC_region (TLv (V_bin rfl rfl (fun w=>eqlI w suite 4865)) ?_)))))
 refine TVa ?_
 obtain ⟨x1,hx1,H⟩:=ltt_elim H
 refine TLr 6 (congrArg vb hx1) ?_
 refine TL_nil (TX_next (TCb H (fun hc H=>?_) (fun hc H=>?_)))
 ·refine TC_seq (TC_region (TVa ?_))
  refine TVa ?_
  refine TVa ?_
  refine TL_nil (TX_next (TC_ret (TX_block_ret (TX_then_ret ?_))))
  obtain rfl:=sj H
  exact TXr (vs:=[_,_,_]) rfl ⟨rfl,rfl,rfl,trivial⟩
 ·refine TC_seq (TC_region (TLv (V_bin rfl rfl (fun w=>eqlI w suite 4866)) ?_))
  refine TVa ?_
  obtain ⟨x2,hx2,H⟩:=ltt_elim H
  refine TLr 8 (congrArg vb hx2) ?_
  refine TL_nil (TX_next (TCb H (fun hc H=>?_) (fun hc H=>?_)))
  ·refine TC_seq (TC_region (TVa ?_))
   refine TVa ?_
   refine TVa ?_
   refine TL_nil (TX_next (TC_ret (TX_block_ret (TX_then_ret ?_))))
   obtain rfl:=sj H
   exact TXr (vs:=[_,_,_]) rfl ⟨rfl,rfl,rfl,trivial⟩
  ·refine TC_seq (TC_region (TLv (V_bin rfl rfl (fun w=>eqlI w suite 4867)) ?_))
   refine TVa ?_
   obtain ⟨x3,hx3,H⟩:=ltt_elim H
   refine TLr 10 (congrArg vb hx3) ?_
   refine TL_nil (TX_next (TCb H (fun hc H=>?_) (fun hc H=>?_)))
   ·refine TC_seq (TC_region (TVa ?_))
    refine TVa ?_
    refine TVa ?_
    refine TL_nil (TX_next (TC_ret (TX_block_ret (TX_then_ret ?_))))
    obtain rfl:=sj H
    exact TXr (vs:=[_,_,_]) rfl ⟨rfl,rfl,rfl,trivial⟩
   ·refine TC_skip (TX_block_normal (TX_next (TC_seq (TC_region (TVa ?_)))))
    refine TVa ?_
    refine TVa ?_
    refine TL_nil (TX_next (TC_ret ?_))
    obtain rfl:=sj H
    exact TXr (vs:=[_,_,_]) rfl ⟨rfl,rfl,rfl,trivial⟩
end Go.Proofs
end

section
namespace Go.Proofs
open Go Go.Kx
open TryzI Tryz
def hello_suite (x:Int):Option (Bool) :=
 (aead_Sizes x).bind fun (r_1:Int × Int × Int)=>(ltt (decide (r_1.2.2=0)) fun (x1:Bool)=>(some x1))
set_option maxHeartbeats 4000000 in
set_option maxRecDepth 20000 in
theorem F44_calls (x:Int) (r:Bool) (H:hello_suite x=some r) :
  Does Tryz.prog 44 [vi x] [] [] (Γ:=Unit) (fun g=>vb r) (fun g=>[]):=by
 intro w hmem hro hd
 refine calls_of (N:=14) (m0:=[(0,vi x)]) func44 rfl ntmps44 (argM_ok [vi x]) rfl hmem hro hd ?_
 unfold hello_suite at H
 refine TC_seq (TC_region (TVa ?_))
 refine TL_nil (TX_next (TC_seq (TC_region (TVm ?_))))
 obtain ⟨r_1,hr_1,H⟩:=bind_elim H
 refine TLe (E_c0 (F70_calls x r_1 hr_1) call70 .z) (fun g_1=>?_)
 refine TVm ?_
 refine TLv V_ex ?_
 refine TLv V_ex ?_
 refine TLv V_ex ?_
 refine TVa ?_
 refine TVa ?_
 refine TVa ?_
 refine TL_nil (TX_next (TC_seq (TC_region (TVm ?_))))
 refine TLv (V_bin rfl rfl (fun w=>eqlI w r_1.2.2 0)) ?_
 refine TVa ?_
 obtain ⟨x1,hx1,H⟩:=ltt_elim H
 refine TLr 2 (congrArg vb hx1) ?_
 refine TL_nil (TX_next (TC_ret ?_))
 obtain rfl:=sj H
 exact TX1
end Go.Proofs
end

section
namespace Go.Proofs
open Go Go.Kx
open TryzI Tryz
def hello_group (x:Int):Option (Bool) :=
 if x=29 then (some true) else (ltt (decide (x=23)) fun (x1:Bool)=>(some x1))
set_option maxHeartbeats 4000000 in
set_option maxRecDepth 20000 in
theorem F45_calls (x:Int) (r:Bool) (H:hello_group x=some r) :
  Does Tryz.prog 45 [vi x] [] [] (Γ:=Unit) (fun g=>vb r) (fun g=>[]):=by
 intro w hmem hro hd
 refine calls_of (N:=9) (m0:=[(0,vi x)]) func45 rfl ntmps45 (argM_ok [vi x]) rfl hmem hro hd ?_
 unfold hello_group at H
 refine TC_seq (TC_region (TVa ?_))
 refine TL_nil (TX_next (TC_seq (TC_region (TVm ?_))))
 refine TLv (V_bin rfl rfl (fun w=>eqlI w x 29)) ?_
 refine TVm ?_
 refine TFd (d:=5) H (fun hc H=>?_) (fun hc H=>?_)
 ·refine TLs ?_
  refine TLs ?_
  refine TVt ?_
  refine TVa ?_
  refine TL_nil (TX_next (TC_ret ?_))
  obtain rfl:=sj H
  exact TX1
 ·refine TLw (V_move rfl) ?_
  refine TLw (V_bin rfl rfl (fun w=>eqlI w x 23)) ?_
  refine TVf ?_
  refine TVa ?_
  obtain ⟨x1,hx1,H⟩:=ltt_elim H
  refine TLr 2 (congrArg vb hx1) ?_
  refine TL_nil (TX_next (TC_ret ?_))
  obtain rfl:=sj H
  exact TX1
end Go.Proofs
end
