/-
  Part 32 of the proof of what several laws share.
-/
import Derived.SizedLaws
import Derived.ChangeSlices
import Derived.SliceStrings
import Derived.WideShapes
import Derived.ChangeShapes
import Derived.Test.YtiofnmmggblcgaaEsC1
import Derived.Test.YtiofnmmggblcgaaEsC2
import Derived.Test.YtiofnmmggblcgaaEsC3
import Derived.Test.YtiofnmmggblcgaaEsC4
import Derived.Test.YtiofnmmggblcgaaEsC5
import Derived.Test.YtiofnmmggblcgaaEsC6
import Derived.Test.YtiofnmmggblcgaaEsC7
import Derived.Test.YtiofnmmggblcgaaEsC8
import Derived.Test.YtiofnmmggblcgaaEsC9
import Derived.Test.YtiofnmmggblcgaaEsC10
import Derived.Test.YtiofnmmggblcgaaEsC11
import Derived.Test.YtiofnmmggblcgaaEsC12
import Derived.Test.YtiofnmmggblcgaaEsC13
import Derived.Test.YtiofnmmggblcgaaEsC14
import Derived.Test.YtiofnmmggblcgaaEsC15
import Derived.Test.YtiofnmmggblcgaaEsC16
import Derived.Test.YtiofnmmggblcgaaEsC17
import Derived.Test.YtiofnmmggblcgaaEsC18
import Derived.Test.YtiofnmmggblcgaaEsC19
import Derived.Test.YtiofnmmggblcgaaEsC20
import Derived.Test.YtiofnmmggblcgaaEsC21
import Derived.Test.YtiofnmmggblcgaaEsC22
import Derived.Test.YtiofnmmggblcgaaEsC23
import Derived.Test.YtiofnmmggblcgaaEsC24
import Derived.Test.YtiofnmmggblcgaaEsC25
import Derived.Test.YtiofnmmggblcgaaEsC26
import Derived.Test.YtiofnmmggblcgaaEsC27
import Derived.Test.YtiofnmmggblcgaaEsC28
import Derived.Test.YtiofnmmggblcgaaEsC29
import Derived.Test.YtiofnmmggblcgaaEsC30
import Derived.Test.YtiofnmmggblcgaaEsC31
set_option linter.unusedVariables false
set_option linter.unusedSimpArgs false
section
namespace Go.Proofs
open Go Go.Kx
open Vector (replicate)
open TryI Try
def halberdref1_block512.b1 (s_:Str) (s0:Int × Vx 64 80) (s1:Int × Vx 64 80):Option ((Int × Vx 64 80) ⊕ (Vx 64 80)) :=
 if s1.1<8 then (if 0≤s0.1∧s0.1<(80:Int) then (if 0≤w64 ((w64 (8 * s0.1))+s1.1)∧w64 ((w64 (8 * s0.1))+s1.1)<((s_).length:Int) then (if 0≤s0.1∧s0.1<(80:Int) then (ltt (vp s1.2 ((s0.1).toNat) (((vg s1.2 ((s0.1).toNat)) <<< 8) ||| ((sg s_ (w64 ((w64 (8 * s0.1))+s1.1))).setWidth 64))) fun (m_2:Vx 64 80)=>(ltt (w64 (s1.1+1)) fun (j1:Int)=>(some (.inl (j1,m_2))))) else none) else none) else none) else (some (.inr s1.2))
def halberdref1_block512.b0 (s_:Str) (s0:Int × Vx 64 80):Option ((Int × Vx 64 80) ⊕ (Vx 64 80)) :=
 if s0.1<16 then ((loop (halberdref1_block512.b1 s_ s0) BIG (0,s0.2)).bind fun (t_2:Vx 64 80)=>(ltt (w64 (s0.1+1)) fun (i1:Int)=>(some (.inl (i1,t_2))))) else (some (.inr s0.2))
def halberdref1_block512.b2  (s2:Int × Vx 64 80):Option ((Int × Vx 64 80) ⊕ (Vx 64 80)) :=
 if s2.1<80 then (if 0≤w64 (s2.1 - 15)∧w64 (s2.1 - 15)<(80:Int) then ((halberdref1_turn (vg s2.2 ((w64 (s2.1 - 15)).toNat)) 1).bind fun (r_1:BitVec 64)=>(if 0≤w64 (s2.1 - 15)∧w64 (s2.1 - 15)<(80:Int) then ((halberdref1_turn (vg s2.2 ((w64 (s2.1 - 15)).toNat)) 8).bind fun (r_2:BitVec 64)=>(if 0≤w64 (s2.1 - 15)∧w64 (s2.1 - 15)<(80:Int) then (ltt ((r_1 ^^^ r_2) ^^^ ((vg s2.2 ((w64 (s2.1 - 15)).toNat)) >>> 7)) fun (a_1:BitVec 64)=>(if 0≤w64 (s2.1 - 2)∧w64 (s2.1 - 2)<(80:Int) then ((halberdref1_turn (vg s2.2 ((w64 (s2.1 - 2)).toNat)) 19).bind fun (r_3:BitVec 64)=>(if 0≤w64 (s2.1 - 2)∧w64 (s2.1 - 2)<(80:Int) then ((halberdref1_turn (vg s2.2 ((w64 (s2.1 - 2)).toNat)) 61).bind fun (r_4:BitVec 64)=>(if 0≤w64 (s2.1 - 2)∧w64 (s2.1 - 2)<(80:Int) then (ltt ((r_3 ^^^ r_4) ^^^ ((vg s2.2 ((w64 (s2.1 - 2)).toNat)) >>> 6)) fun (b5:BitVec 64)=>(if 0≤w64 (s2.1 - 16)∧w64 (s2.1 - 16)<(80:Int) then (if 0≤w64 (s2.1 - 7)∧w64 (s2.1 - 7)<(80:Int) then (if 0≤s2.1∧s2.1<(80:Int) then (ltt (vp s2.2 ((s2.1).toNat) ((((vg s2.2 ((w64 (s2.1 - 16)).toNat))+a_1)+(vg s2.2 ((w64 (s2.1 - 7)).toNat)))+b5)) fun (m_3:Vx 64 80)=>(ltt (w64 (s2.1+1)) fun (i2:Int)=>(some (.inl (i2,m_3))))) else none) else none) else none)) else none)) else none)) else none)) else none)) else none)) else none) else (some (.inr s2.2))
def halberdref1_block512.b3 (m_1:Vx 64 80) (t_3:Vx 64 80) (s3:Int × Vx 64 8):Option ((Int × Vx 64 8) ⊕ (Vx 64 8)) :=
 if s3.1<80 then ((halberdref1_turn (vg s3.2 4) 14).bind fun (r_5:BitVec 64)=>((halberdref1_turn (vg s3.2 4) 18).bind fun (r_6:BitVec 64)=>((halberdref1_turn (vg s3.2 4) 41).bind fun (r_7:BitVec 64)=>(ltt ((r_5 ^^^ r_6) ^^^ r_7) fun (a_2:BitVec 64)=>(if 0≤s3.1∧s3.1<(80:Int) then (if 0≤s3.1∧s3.1<(80:Int) then (ltt (((((vg s3.2 7)+a_2)+(((vg s3.2 4) &&& (vg s3.2 5)) ^^^ ((~~~(vg s3.2 4)) &&& (vg s3.2 6))))+(vg m_1 ((s3.1).toNat)))+(vg t_3 ((s3.1).toNat))) fun (t_5:BitVec 64)=>((halberdref1_turn (vg s3.2 0) 28).bind fun (r_8:BitVec 64)=>((halberdref1_turn (vg s3.2 0) 34).bind fun (r_9:BitVec 64)=>((halberdref1_turn (vg s3.2 0) 39).bind fun (r_10:BitVec 64)=>(ltt ((r_8 ^^^ r_9) ^^^ r_10) fun (b7:BitVec 64)=>(ltt (b7+((((vg s3.2 0) &&& (vg s3.2 1)) ^^^ ((vg s3.2 0) &&& (vg s3.2 2))) ^^^ ((vg s3.2 1) &&& (vg s3.2 2)))) fun (u1:BitVec 64)=>(ltt ((#v[t_5+u1,vg s3.2 0,vg s3.2 1,vg s3.2 2,(vg s3.2 3)+t_5,vg s3.2 4,vg s3.2 5,vg s3.2 6]:Vx 64 8)) fun (m_4:Vx 64 8)=>(ltt (w64 (s3.1+1)) fun (i3:Int)=>(some (.inl (i3,m_4))))))))))) else none) else none))))) else (some (.inr s3.2))
def halberdref1_block512.b4 (t_4:Vx 64 8) (s4:Int × Vx 64 8):Option ((Int × Vx 64 8) ⊕ (Vx 64 8)) :=
 if s4.1<8 then (if 0≤s4.1∧s4.1<(8:Int) then (if 0≤s4.1∧s4.1<(8:Int) then (if 0≤s4.1∧s4.1<(8:Int) then (ltt (vp s4.2 ((s4.1).toNat) ((vg s4.2 ((s4.1).toNat))+(vg t_4 ((s4.1).toNat)))) fun (m_5:Vx 64 8)=>(ltt (w64 (s4.1+1)) fun (i4:Int)=>(some (.inl (i4,m_5))))) else none) else none) else none) else (some (.inr s4.2))
def halberdref1_block512 (h:Vx 64 8) (s_:Str):Option (Vx 64 8) :=
 ltt ((#v[4794697086780616226#64,8158064640168781261#64,13096744586834688815#64,16840607885511220156#64,4131703408338449720#64,6480981068601479193#64,10538285296894168987#64,12329834152419229976#64,15566598209576043074#64,1334009975649890238#64,2608012711638119052#64,6128411473006802146#64,8268148722764581231#64,9286055187155687089#64,11230858885718282805#64,13951009754708518548#64,16472876342353939154#64,17275323862435702243#64,1135362057144423861#64,2597628984639134821#64,3308224258029322869#64,5365058923640841347#64,6679025012923562964#64,8573033837759648693#64,10970295158949994411#64,12119686244451234320#64,12683024718118986047#64,13788192230050041572#64,14330467153632333762#64,15395433587784984357#64,489312712824947311#64,1452737877330783856#64,2861767655752347644#64,3322285676063803686#64,5560940570517711597#64,5996557281743188959#64,7280758554555802590#64,8532644243296465576#64,9350256976987008742#64,10552545826968843579#64,11727347734174303076#64,12113106623233404929#64,14000437183269869457#64,14369950271660146224#64,15101387698204529176#64,15463397548674623760#64,17586052441742319658#64,1182934255886127544#64,1847814050463011016#64,2177327727835720531#64,2830643537854262169#64,3796741975233480872#64,4115178125766777443#64,5681478168544905931#64,6601373596472566643#64,7507060721942968483#64,8399075790359081724#64,8693463985226723168#64,9568029438360202098#64,10144078919501101548#64,10430055236837252648#64,11840083180663258601#64,13761210420658862357#64,14299343276471374635#64,14566680578165727644#64,15097957966210449927#64,16922976911328602910#64,17689382322260857208#64,500013540394364858#64,748580250866718886#64,1242879168328830382#64,1977374033974150939#64,2944078676154940804#64,3659926193048069267#64,4368137639120453308#64,4836135668995329356#64,5532061633213252278#64,6448918945643986474#64,6902733635092675308#64,7801388544844847127#64]:Vx 64 80)) fun (m_1:Vx 64 80)=>((loop (halberdref1_block512.b0 s_) BIG (0,replicate 80 0#64)).bind fun (t_1:Vx 64 80)=>((loop (halberdref1_block512.b2) BIG (16,t_1)).bind fun (t_3:Vx 64 80)=>((loop (halberdref1_block512.b3 m_1 t_3) BIG (0,h)).bind fun (t_4:Vx 64 8)=>((loop (halberdref1_block512.b4 t_4) BIG (0,h)).bind fun (t_6:Vx 64 8)=>(some t_6)))))
end Go.Proofs
end

section
namespace Go.Proofs
open Go Go.Kx
open TryI Try
def halberdref1_Sum.b0 (r_1:Str) (s0:Int × Vx 32 8):Option ((Int × Vx 32 8) ⊕ (Vx 32 8)) :=
 if s0.1<((r_1).length:Int) then (if 0≤w64 (s0.1+64) then (if 0≤s0.1 then (if (w64 (s0.1+64)).toNat≤(r_1).length then (if (s0.1).toNat≤(w64 (s0.1+64)).toNat then ((halberdref1_block256 s0.2 (sub r_1 ((s0.1).toNat) ((w64 (s0.1+64)).toNat))).bind fun (r_2:Vx 32 8)=>(ltt (w64 (s0.1+64)) fun (i1:Int)=>(some (.inl (i1,r_2))))) else none) else none) else none) else none) else (some (.inr s0.2))
def halberdref1_Sum.b1 (t_1:Vx 32 8) (s1:Str × Int):Option ((Str × Int) ⊕ (Str)) :=
 if s1.2<8 then (if 0≤s1.2∧s1.2<(8:Int) then ((halberdref1_Be ((vg t_1 ((s1.2).toNat)).toNat:Int) 4).bind fun (r_3:Str)=>(if (s1.1).length+(r_3).length≤4611686018427387904 then (ltt (w64 (s1.2+1)) fun (i2:Int)=>(some (.inl (s1.1++r_3,i2)))) else none)) else none) else (some (.inr s1.1))
def halberdref1_Sum (bits:Int) (s_:Str):Option (Str × Int) :=
 ltt (decide (bits=256)) fun (x1:Bool)=>(if x1=true then (ltt ((#v[1779033703#32,3144134277#32,1013904242#32,2773480762#32,1359893119#32,2600822924#32,528734635#32,1541459225#32]:Vx 32 8)) fun (m_1:Vx 32 8)=>((halberdref1_padded s_ 64 8).bind fun (r_1:Str)=>((loop (halberdref1_Sum.b0 r_1) BIG (0,m_1)).bind fun (t_1:Vx 32 8)=>((loop (halberdref1_Sum.b1 t_1) BIG (([]:Str),0)).bind fun (t_2:Str)=>(some (t_2,0)))))) else (ltt (decide (bits=384)) fun (x2:Bool)=>(if x2=true then (none) else (some (([]:Str),200)))))
set_option maxHeartbeats 4000000 in
set_option maxRecDepth 20000 in
theorem F72_calls (bits:Int) (s_:Str) (r:Str × Int) (H:halberdref1_Sum bits s_=some r) :
  Does Try.prog 72 [vi bits,vs s_] [] [] (Γ:=Unit) (fun g=>Value.tuple [vs r.1,vi r.2].toArray) (fun g=>[]):=by
 intro w hmem hro hd
 refine calls_of (N:=85) (m0:=[(0,vi bits),(1,vs s_)]) func72 rfl ntmps72 (argM_ok [vi bits,vs s_]) rfl hmem hro hd ?_
 unfold halberdref1_Sum at H
 refine TC_seq (TC_region (TVa ?_))
 refine TVa ?_
 refine TL_nil (TX_next (TC_seq (TC_seq (TC_region (TVm ?_)))))
 refine TL_nil (TX_next (TC_block (TC_seq (TC_region (TLv (V_bin rfl rfl (fun w=>eqlI w bits 256)) ?_)))))
 refine TVa ?_
 obtain ⟨x1,hx1,H⟩:=ltt_elim H
 refine TLr 17 (congrArg vb hx1) ?_
 refine TL_nil (TX_next (TCb H (fun hc H=>?_) (fun hc H=>?_)))
 ·refine TC_seq (TC_region (TLv (V_buildArr (pv:=[(0,v32 1779033703#32),(1,v32 3144134277#32),(2,v32 1013904242#32),(3,v32 2773480762#32),(4,v32 1359893119#32),(5,v32 2600822924#32),(6,v32 528734635#32),(7,v32 1541459225#32)]) rfl rfl underlying30 inf30 inf29 rfl zer30 (cs:=e32 ((#v[1779033703#32,3144134277#32,1013904242#32,2773480762#32,1359893119#32,2600822924#32,528734635#32,1541459225#32]:Vx 32 8).toList)) (by kernel_rfl)) ?_))
  refine TLe (E_al32 8 inf30 zer30) (fun b1=>?_)
  refine TLn (E_sv 0 inf30) (fun _=>?_)
  obtain ⟨m_1,hm_1,H⟩:=ltt_elim H
  refine TL_reE (j:=0) (A:=some (b1,0)) (cs:=e32 ((#v[1779033703#32,3144134277#32,1013904242#32,2773480762#32,1359893119#32,2600822924#32,528734635#32,1541459225#32]:Vx 32 8).toList)) (cs':=e32 m_1.toList) rfl (congrArg (fun z:Vx 32 8=>e32 (Vector.toList z)) hm_1) ?_
  refine TL_nil (TX_next (TC_seq (TC_region (TVm ?_))))
  obtain ⟨r_1,hr_1,H⟩:=bind_elim H
  refine TLe (E_c0 (F96_calls s_ 64 8 r_1 hr_1) call96 .z) (fun g_1=>?_)
  refine TVa ?_
  refine TL_nil (TX_next (TC_seq (TC_seq (TC_region (TVa ?_)))))
  refine TL_nil (TX_next (TC_block ?_))
  obtain ⟨t_1,Hl,H⟩:=bind_elim H
  refine TC.sub (m':=[(6,_),(7,_),(8,_)]) ⟨rfl,rfl,rfl,trivial⟩ ?_
  refine TC.pull (is:=[0]) (L':=[_]) rfl ?_
  refine TC_loopL (id:=1) (body:=(halberdref1_Sum.b0 r_1)) (σ:=Int × Vx 32 8) (Γ:=Unit) (Γx:=Unit) (fun s0 g0_=>[(6,ptr (some (b1,0)) 0),(7,vs r_1),(8,vi s0.1)]) (fun s0 g0_=>[⟨some (b1,0),e32 s0.2.toList⟩]) (fun t g=>[(6,ptr (some (b1,0)) 0)]) (fun t g=>[⟨some (b1,0),e32 t.toList⟩]) ?_ BIG (0,m_1) () t_1 Hl ?_
  ·intro s0 g0_ r1 H K hK hE
   unfold halberdref1_Sum.b0 at H
   refine TC_seq (TC_seq (TC_region (TVm ?_)))
   refine TVm ?_
   refine TLv (V_len_str rfl underlying9) ?_
   refine TLv (V_bin rfl rfl (fun w=>lssI w s0.1 ((r_1).length:Int))) ?_
   refine TL_nil (TX_next (TCd H (fun hc H=>?_) (fun hc H=>?_)))
   ·refine TC_skip (TX_next (TC_seq (TC_block ?_)))
    obtain ⟨h1,H⟩:=if_elim H
    obtain ⟨h2,H⟩:=if_elim H
    obtain ⟨h3,H⟩:=if_elim H
    obtain ⟨h4,H⟩:=if_elim H
    obtain ⟨r_2,hr_2,H⟩:=bind_elim H
    refine TA_begin [] 8 (by kernel_rfl) (N:=8) rfl ?_
    refine TA_mix (is:=[]) (done':=dn 8 127) [itV 0 28 (aG [(8,e32 s0.2.toList)]) [],itV 1 29 (vs r_1) [],itV 2 30 (vi s0.1) [],itV 3 31 (vi s0.1) [],itV 4 32 (vi (w64 (s0.1+64))) [3],itV 5 33 (vs (sub r_1 ((s0.1).toNat) ((w64 (s0.1+64)).toNat))) [4,1,2],itV 6 34 (aG [(8,e32 r_2.toList)]) [5,0]] [] 1 (by kernel_rfl) (QP.block (QP.then (QP.then (QP.block (QP.then (QP.block (QP.then QP.body))))))) (by kernel_rfl) rfl (.v rfl (V_lag (.o 0) isAgg30 inf30) (.v rfl (V_move rfl) (.v rfl (V_move rfl) (.v rfl (V_move rfl) (.v rfl (V_bin rfl rfl (fun w=>addI w s0.1 64)) (.v rfl (V_sliceStr (l:=(s0.1).toNat) (h:=(w64 (s0.1+64)).toNat) rfl underlying9 (Bnd.some' (i:=s0.1) rfl h2) (Bnd.some' (i:=w64 (s0.1+64)) rfl h1) h4 h3) (.e rfl (E_cu (F97_calls s0.2 (sub r_1 ((s0.1).toNat) ((w64 (s0.1+64)).toNat)) r_2 hr_2) call97 .z) .nil))))))) .nil (by kernel_rfl) rfl (fun γ=>?_)
    refine TA_cut [(34,aG [(8,e32 r_2.toList)]),(6,ptr (some (b1,0)) 0),(7,vs r_1),(8,vi s0.1)] [⟨some (b1,0),e32 s0.2.toList⟩] ⟨rfl,rfl,rfl,rfl,trivial⟩ rfl ?_
    refine TA_all (rs:=[7]) (by kernel_rfl) rfl ?_
    refine ⟨?_,trivial⟩
    refine TO_n (is:=[]) (done':=dn 8 255) rfl rfl rfl (by kernel_rfl) (E_sv (vs:=e32 r_2.toList) 0 inf30) (fun _ _=>rfl) (fun _=>?_)
    refine TA_done (by kernel_rfl) ?_ 0
    refine TX_block_normal (TX_next (TC_region (TVm ?_)))
    refine TLv (V_bin rfl rfl (fun w=>addI w s0.1 64)) ?_
    refine TVa ?_
    obtain ⟨i1,hi1,H⟩:=ltt_elim H
    refine TLr 8 (congrArg vi hi1) ?_
    refine TL_nil ?_
    obtain rfl:=sj H
    exact TXk [0] (hK (i1,r_2) rfl ())
   ·refine TC_exit (TX_then_exit (TX_then_exit ?_))
    obtain rfl:=sj H
    exact TXj [0] (hE s0.2 rfl ())
  ·intro g
   refine TX_block_exit (TX_next (TC_seq (TC_region (TVa ?_))))
   refine TL_nil (TX_next (TC_seq (TC_seq (TC_region (TVa ?_)))))
   refine TL_nil (TX_next (TC_block ?_))
   obtain ⟨t_2,Hl,H⟩:=bind_elim H
   refine TC.sub (m':=[(6,_),(9,_),(10,_)]) ⟨rfl,rfl,rfl,trivial⟩ ?_
   refine TC.pull (is:=[0]) (L':=[_]) rfl ?_
   refine TC_loopL (id:=3) (body:=(halberdref1_Sum.b1 t_1)) (σ:=Str × Int) (Γ:=Unit) (Γx:=Unit) (fun s1 g1_=>[(6,ptr (some (b1,0)) 0),(9,vs s1.1),(10,vi s1.2)]) (fun s1 g1_=>[⟨some (b1,0),e32 t_1.toList⟩]) (fun t g=>[(9,vs t)]) (fun t g=>[]) ?_ BIG (([]:Str),0) () t_2 Hl ?_
   ·intro s1 g1_ r1 H K hK hE
    unfold halberdref1_Sum.b1 at H
    refine TC_seq (TC_seq (TC_region (TVm ?_)))
    refine TLv (V_bin rfl rfl (fun w=>lssI w s1.2 8)) ?_
    refine TL_nil (TX_next (TCd H (fun hc H=>?_) (fun hc H=>?_)))
    ·refine TC_skip (TX_next (TC_seq (TC_block (TC_region (TVm ?_)))))
     refine TVm ?_
     obtain ⟨h5,H⟩:=if_elim H
     refine TLv (V_idxArr (i:=s1.2) rfl rfl underlying30 inf29 rfl h5.1 h5.2 (k:=(s1.2).toNat) (k01 _)) ?_
     refine TLv (V_load rfl (.o 0) (get_vec (f:=v32) (V:=t_1) (toNat_lt h5.1 h5.2)) isAgg29) ?_
     refine TLv (V_conv rfl (fun w=>cv32toI w _ _ underlying3 (und29) (vg t_1 ((s1.2).toNat)))) ?_
     obtain ⟨r_3,hr_3,H⟩:=bind_elim H
     refine TLe (E_c0 (F98_calls ((vg t_1 ((s1.2).toNat)).toNat:Int) 4 r_3 hr_3) call98 .z) (fun g_3=>?_)
     obtain ⟨h6,H⟩:=if_elim H
     refine TLv (V_bin rfl rfl (fun w=>addS w s1.1 r_3 h6)) ?_
     refine TVa ?_
     refine TL_nil (TX_block_normal (TX_next (TC_region (TVm ?_))))
     refine TLv (V_bin rfl rfl (fun w=>addI w s1.2 1)) ?_
     refine TVa ?_
     obtain ⟨i2,hi2,H⟩:=ltt_elim H
     refine TLr 10 (congrArg vi hi2) ?_
     refine TL_nil ?_
     obtain rfl:=sj H
     exact TXk [0] (hK (s1.1++r_3,i2) rfl ())
    ·refine TC_exit (TX_then_exit (TX_then_exit ?_))
     obtain rfl:=sj H
     exact TXj [] (hE s1.1 rfl ())
   ·intro g
    refine TX_block_exit (TX_next (TC_seq (TC_region (TVm ?_))))
    refine TVa ?_
    refine TVa ?_
    refine TL_nil (TX_next (TC_ret (TX_block_ret (TX_then_ret ?_))))
    obtain rfl:=sj H
    exact TX2
 ·refine TC_seq (TC_region (TLv (V_bin rfl rfl (fun w=>eqlI w bits 384)) ?_))
  refine TVa ?_
  obtain ⟨x2,hx2,H⟩:=ltt_elim H
  refine TLr 47 (congrArg vb hx2) ?_
  refine TL_nil (TX_next (TCb H (fun hc H=>?_) (fun hc H=>?_)))
  ·exact nomatch H
  ·refine TC_skip (TX_block_normal (TX_next (TC_seq (TC_region (TVa ?_)))))
   refine TVa ?_
   refine TL_nil (TX_next (TC_ret ?_))
   obtain rfl:=sj H
   exact TX2
end Go.Proofs
end

section
namespace Go.Proofs
open Go Go.Kx
open TryI Try
def halberdref1_Hash (bits:Int) (s_:Str):Option (Str) :=
 (halberdref1_Sum bits s_).bind fun (r_1:Str × Int)=>(some r_1.1)
set_option maxHeartbeats 4000000 in
set_option maxRecDepth 20000 in
theorem F31_calls (bits:Int) (s_:Str) (r:Str) (H:halberdref1_Hash bits s_=some r) :
  Does Try.prog 31 [vi bits,vs s_] [] [] (Γ:=Unit) (fun g=>vs r) (fun g=>[]):=by
 intro w hmem hro hd
 refine calls_of (N:=14) (m0:=[(0,vi bits),(1,vs s_)]) func31 rfl ntmps31 (argM_ok [vi bits,vs s_]) rfl hmem hro hd ?_
 unfold halberdref1_Hash at H
 refine TC_seq (TC_region (TVa ?_))
 refine TL_nil (TX_next (TC_seq (TC_region (TVm ?_))))
 refine TVm ?_
 obtain ⟨r_1,hr_1,H⟩:=bind_elim H
 refine TLe (E_c0 (F72_calls bits s_ r_1 hr_1) call72 .z) (fun g_1=>?_)
 refine TVm ?_
 refine TLv V_ex ?_
 refine TLv V_ex ?_
 refine TVa ?_
 refine TVa ?_
 refine TL_nil (TX_next (TC_seq (TC_region (TVm ?_))))
 refine TVa ?_
 refine TL_nil (TX_next (TC_ret ?_))
 obtain rfl:=sj H
 exact TX1
end Go.Proofs
end

section
namespace Go.Proofs
open Go Go.Kx
open TryI Try
def halberdlaw12_scalar.b0 (k_1:Int) (s0:Int × List (BitVec 8)):Option ((Int × List (BitVec 8)) ⊕ (List (BitVec 8))) :=
 if s0.1<4 then (if 0≤w64 (8 * s0.1) then (if 0≤w64 (31 - s0.1)∧w64 (31 - s0.1)<(32:Int) then (if (w64 (31 - s0.1)).toNat<(s0.2).length then (ltt (s0.2.set ((w64 (31 - s0.1)).toNat) (BitVec.ofInt 8 (iop (· &&& ·) (shrI' k_1 (w64 (8 * s0.1))) 255))) fun (m_1:List (BitVec 8))=>(ltt (w64 (s0.1+1)) fun (i1:Int)=>(some (.inl (i1,m_1))))) else none) else none) else none) else (some (.inr s0.2))
def halberdlaw12_scalar (x:Int):Option (Str) :=
 ltt (w64 (1+(iop (· &&& ·) x 1048575))) fun (k_1:Int)=>((loop (halberdlaw12_scalar.b0 k_1) BIG (0,List.replicate 32 0#8)).bind fun (t_1:List (BitVec 8))=>(if (t_1).length=32 then (some t_1) else none))
set_option maxHeartbeats 4000000 in
set_option maxRecDepth 20000 in
theorem F30_calls (x:Int) (r:Str) (H:halberdlaw12_scalar x=some r) :
  Does Try.prog 30 [vi x] [] [] (Γ:=Unit) (fun g=>vs r) (fun g=>[]):=by
 intro w hmem hro hd
 refine calls_of (N:=26) (m0:=[(0,vi x)]) func30 rfl ntmps30 (argM_ok [vi x]) rfl hmem hro hd ?_
 unfold halberdlaw12_scalar at H
 refine TC_seq (TC_region (TVa ?_))
 refine TL_nil (TX_next (TC_seq (TC_region (TLe (E_mk1 rfl rfl underlying42 inf5 (z:=v8 0#8) rfl rfl rfl (B:=1) rfl (by decide) (Int.le_refl _) (by decide) (by decide) (n':=32) (c':=32) rfl rfl (cs:=e8 (List.replicate 32 0#8)) (rep_map (f:=v8))) (fun b1=>?_)))))
 refine TVa ?_
 refine TL_nil (TX_next (TC_seq (TC_region (TVm ?_))))
 refine TLv (V_bin rfl rfl (fun w=>andI w x 1048575)) ?_
 refine TLv (V_bin rfl rfl (fun w=>addI w 1 (iop (· &&& ·) x 1048575))) ?_
 refine TVa ?_
 obtain ⟨k_1,hk_1,H⟩:=ltt_elim H
 refine TLr 4 (congrArg vi hk_1) ?_
 refine TL_nil (TX_next (TC_seq (TC_seq (TC_region (TVa ?_)))))
 refine TL_nil (TX_next (TC_block ?_))
 obtain ⟨t_1,Hl,H⟩:=bind_elim H
 refine TC.sub (m':=[(3,_),(4,_),(5,_)]) ⟨rfl,rfl,rfl,trivial⟩ ?_
 refine TC.pull (is:=[0]) (L':=[_]) rfl ?_
 refine TC_loopL (id:=0) (body:=(halberdlaw12_scalar.b0 k_1)) (σ:=Int × List (BitVec 8)) (Γ:=Unit) (Γx:=Unit) (fun s0 g0_=>[(3,sl (some (b1,0)) 32 32),(4,vi k_1),(5,vi s0.1)]) (fun s0 g0_=>[⟨some (b1,0),e8 s0.2⟩]) (fun t g=>[(3,sl (some (b1,0)) 32 32)]) (fun t g=>[⟨some (b1,0),e8 t⟩]) ?_ BIG (0,List.replicate 32 0#8) () t_1 Hl ?_
 ·intro s0 g0_ r1 H K hK hE
  unfold halberdlaw12_scalar.b0 at H
  refine TC_seq (TC_seq (TC_region (TVm ?_)))
  refine TLv (V_bin rfl rfl (fun w=>lssI w s0.1 4)) ?_
  refine TL_nil (TX_next (TCd H (fun hc H=>?_) (fun hc H=>?_)))
  ·refine TC_skip (TX_next (TC_seq (TC_block (TC_region (TVm ?_)))))
   refine TVm ?_
   refine TLv (V_bin rfl rfl (fun w=>subI w 31 s0.1)) ?_
   refine TVm ?_
   refine TVm ?_
   refine TLv (V_bin rfl rfl (fun w=>mulI w 8 s0.1)) ?_
   obtain ⟨h1,H⟩:=if_elim H
   refine TLv (V_bin rfl rfl (fun w=>shrI w k_1 .i64 (w64 (8 * s0.1)) h1)) ?_
   refine TLv (V_bin rfl rfl (fun w=>andI w (shrI' k_1 (w64 (8 * s0.1))) 255)) ?_
   refine TLv (V_conv rfl (fun w=>cvI8 w _ _ underlying5 (und3) .i64 (iop (· &&& ·) (shrI' k_1 (w64 (8 * s0.1))) 255))) ?_
   obtain ⟨h2,H⟩:=if_elim H
   obtain ⟨h3,H⟩:=if_elim H
   refine TLv (V_idxSl (i:=w64 (31 - s0.1)) rfl rfl underlying42 inf5 rfl (fun _ h=>by cases h) h2.1 h2.2 (k:=(w64 (31 - s0.1)).toNat) (km1 _)) ?_
   refine TLn (E_store (j:=0) rfl rfl inf5 rfl rfl rfl (by simpa using h3) (cs':=e8 (s0.2.set ((w64 (31 - s0.1)).toNat) (BitVec.ofInt 8 (iop (· &&& ·) (shrI' k_1 (w64 (8 * s0.1))) 255)))) (set_map (f:=v8) (l:=s0.2) (k:=((w64 (31 - s0.1)).toNat)) (x:=(BitVec.ofInt 8 (iop (· &&& ·) (shrI' k_1 (w64 (8 * s0.1))) 255))))) (fun _=>?_)
   obtain ⟨m_1,hm_1,H⟩:=ltt_elim H
   refine TL_reE (j:=0) (A:=some (b1,0)) (cs:=e8 (s0.2.set ((w64 (31 - s0.1)).toNat) (BitVec.ofInt 8 (iop (· &&& ·) (shrI' k_1 (w64 (8 * s0.1))) 255)))) (cs':=e8 m_1) rfl (congrArg (e8) hm_1) ?_
   refine TL_nil (TX_block_normal (TX_next (TC_region (TVm ?_))))
   refine TLv (V_bin rfl rfl (fun w=>addI w s0.1 1)) ?_
   refine TVa ?_
   obtain ⟨i1,hi1,H⟩:=ltt_elim H
   refine TLr 5 (congrArg vi hi1) ?_
   refine TL_nil ?_
   obtain rfl:=sj H
   exact TXk [0] (hK (i1,m_1) rfl ())
  ·refine TC_exit (TX_then_exit (TX_then_exit ?_))
   obtain rfl:=sj H
   exact TXj [0] (hE s0.2 rfl ())
 ·intro g
  refine TX_block_exit (TX_next (TC_seq (TC_region (TVm ?_))))
  obtain ⟨h4,H⟩:=if_elim H
  refine TLv (V_b2s rfl underlying42 underlying5 underlying9 (.o 0) h4) ?_
  refine TVa ?_
  refine TL_nil (TX_next (TC_ret ?_))
  obtain rfl:=sj H
  exact TX1
end Go.Proofs
end

section
namespace Go.Proofs
open Go Go.Kx
open TryI Try
def halberdlaw0_Num (e:Int):Option (Int) :=
 some e
set_option maxHeartbeats 4000000 in
set_option maxRecDepth 20000 in
theorem F20_calls (e:Int) (r:Int) (H:halberdlaw0_Num e=some r) :
  Does Try.prog 20 [vi e] [] [] (Γ:=Unit) (fun g=>vi r) (fun g=>[]):=by
 intro w hmem hro hd
 refine calls_of (N:=4) (m0:=[(0,vi e)]) func20 rfl ntmps20 (argM_ok [vi e]) rfl hmem hro hd ?_
 unfold halberdlaw0_Num at H
 refine TC_seq (TC_region (TVa ?_))
 refine TL_nil (TX_next (TC_seq (TC_region (TVm ?_))))
 refine TVa ?_
 refine TL_nil (TX_next (TC_ret ?_))
 obtain rfl:=sj H
 exact TX1
end Go.Proofs
end

section
namespace Go.Kx
open Go Go.Proofs
open Go.Nt hiding n4
theorem iop_nat12 (f:BitVec 64 → BitVec 64 → BitVec 64) (a b:Int) (h:(f (BitVec.ofInt 64 a) (BitVec.ofInt 64 b)).toNat<9223372036854775808):iop f a b=((f (BitVec.ofInt 64 a) (BitVec.ofInt 64 b)).toNat:Int):=by
 unfold iop
 exact w64_nat h
theorem and_mask12 (x:Int) (n:Nat) (hn:n<63):iop (· &&& ·) x ((2 ^ n - 1:Nat):Int)=x % ((2 ^ n:Nat):Int):=by
 have hp:2 ^ n<2 ^ 63:=Nat.pow_lt_pow_right (by omega) (by omega)
 have hp0:0<2 ^ n:=Nat.two_pow_pos n
 have e:((BitVec.ofInt 64 x) &&& (BitVec.ofInt 64 ((2 ^ n - 1:Nat):Int))).toNat=(x % ((2 ^ n:Nat):Int)).toNat:=by
  have e1:(BitVec.ofInt 64 ((2 ^ n - 1:Nat):Int)).toNat=2 ^ n - 1:=by
   rw [BitVec.ofInt_natCast,BitVec.toNat_ofNat,Nat.mod_eq_of_lt (by omega)]
  rw [BitVec.toNat_and,e1,Nat.and_two_pow_sub_one_eq_mod,BitVec.toNat_ofInt]
  have h1:((x % ((2 ^ 64:Nat):Int)).toNat:Int)=x % ((2 ^ 64:Nat):Int):=Int.toNat_of_nonneg (Int.emod_nonneg _ (by decide))
  have h2:((x % ((2 ^ n:Nat):Int)).toNat:Int)=x % ((2 ^ n:Nat):Int):=Int.toNat_of_nonneg (Int.emod_nonneg _ (by omega))
  apply Int.ofNat.inj
  show (((x % ((2 ^ 64:Nat):Int)).toNat % 2 ^ n:Nat):Int)=_
  rw [Int.natCast_emod,h1]
  show x % ((2 ^ 64:Nat):Int) % ((2 ^ n:Nat):Int)=((x % ((2 ^ n:Nat):Int)).toNat:Int)
  rw [h2]
  refine Int.emod_emod_of_dvd x ?_
  rw [Int.natCast_dvd_natCast]
  exact Nat.pow_dvd_pow 2 (by omega)
 have hlt:(x % ((2 ^ n:Nat):Int)).toNat<2 ^ n:=by
  have:=Int.emod_lt_of_pos x (show (0:Int)<((2 ^ n:Nat):Int) by omega)
  omega
 have:=iop_nat12 (· &&& ·) x ((2 ^ n - 1:Nat):Int) (by show BitVec.toNat (_ &&& _)<_; rw [e]; omega)
 rw [this]
 show ((BitVec.toNat (_ &&& _):Nat):Int)=_
 rw [e]
 exact Int.toNat_of_nonneg (Int.emod_nonneg _ (by omega))
theorem num12 (e:Int):halberdlaw0_Num e=some e:=rfl
def sc12 (x:Int):Nat:=(1+x % 1048576).toNat
theorem sc12_b (x:Int):1≤sc12 x∧sc12 x≤1048576:=by unfold sc12; omega
theorem N_big12:4194304<N256:=by decide
theorem low12 (c:Nat) (hc:c<4294967296) (k_1:Int) (hk:k_1=(c:Int)):loop (halberdlaw12_scalar.b0 k_1) BIG (0,List.replicate 32 0#8)=some (nb32 c):=by
 obtain ⟨t,h1,h2⟩:=loop_inv (body:=halberdlaw12_scalar.b0 k_1) (s0:=(0,List.replicate 32 0#8)) 4
  (fun i s=>s.1=(i:Int)∧s.2.length=32 ∧ ∀ j,j<32 → s.2[j]? = some (if 31 - j<i then BitVec.ofNat 8 (c / 2 ^ (8 * (31 - j))) else 0#8)) (fun t=>t=nb32 c) (by decide)
  ⟨rfl,by simp,fun j hj=>by
   rw [if_neg (by omega)]
   rw [List.getElem?_replicate,if_pos hj]⟩
  (fun i s hi hI=>by
   obtain ⟨i',l⟩:=s
   obtain ⟨hi',hl,hv⟩:=hI
   dsimp only at hi' hl hv
   subst hi'
   have w1:w64 (8 * (i:Int))=((8 * i:Nat):Int):=by rw [w64_id (by omega) (by omega)]; omega
   have w2:w64 (31 - (i:Int))=((31 - i:Nat):Int):=by rw [w64_id (by omega) (by omega)]; omega
   have hby:BitVec.ofInt 8 (iop (· &&& ·) (shrI' k_1 ((8 * i:Nat):Int)) 255)=BitVec.ofNat 8 (c / 2 ^ (8 * i)):=by
    rw [hk,show iop (· &&& ·) (shrI' (c:Int) ((8 * i:Nat):Int)) 255=shrI' (c:Int) ((8 * i:Nat):Int) % 256 from and_mask12 _ 8 (by decide)]
    unfold shrI'
    rw [Int.toNat_natCast,show min (8 * i) 64=8 * i by omega]
    have e:((c:Int) / 2 ^ (8 * i))=((c / 2 ^ (8 * i):Nat):Int):=by rw [Int.natCast_ediv,Int.natCast_pow]; rfl
    rw [e]
    apply BitVec.eq_of_toNat_eq
    rw [BitVec.toNat_ofInt,BitVec.toNat_ofNat]
    generalize c / 2 ^ (8 * i)=z
    omega
   refine ⟨(((i+1:Nat):Int),l.set (31 - i) (BitVec.ofNat 8 (c / 2 ^ (8 * i)))),?_,rfl,by simpa using hl,fun j hj=>?_⟩
   ·unfold halberdlaw12_scalar.b0
    dsimp only
    rw [w1,w2]
    simp only [Int.toNat_natCast]
    refine if_i (by omega) (if_i (by omega) (if_i (by omega) (if_i (by omega) (ltt_i fun v hv=>ltt_i fun v2 hv2=>?_))))
    rw [hv2,hv,hby,w64_s (by omega)]
   ·dsimp only
    by_cases hj2:j=31 - i
    ·subst hj2
     rw [List.getElem?_set_self (by omega),if_pos (by omega),show 31 - (31 - i)=i by omega]
    ·rw [List.getElem?_set_ne (Ne.symm hj2),hv j hj]
     by_cases h3:31 - j<i
     ·rw [if_pos h3,if_pos (by omega)]
     ·rw [if_neg h3,if_neg (by omega)])
  (fun s hI=>by
   obtain ⟨i',l⟩:=s
   obtain ⟨hi',hl,hv⟩:=hI
   dsimp only at hi' hl hv
   subst hi'
   refine ⟨l,by unfold halberdlaw12_scalar.b0; exact if_n (by dsimp only; omega) rfl,?_⟩
   apply List.ext_getElem?
   intro j
   by_cases hj:j<32
   ·rw [hv j hj,nb32_get c j hj]
    by_cases h3:31 - j<4
    ·rw [if_pos h3]
    ·rw [if_neg h3,Nat.div_eq_of_lt]
     have:(2:Nat) ^ 32≤2 ^ (8 * (31 - j)):=Nat.pow_le_pow_right (by decide) (by omega)
     omega
   ·rw [List.getElem?_eq_none (by omega),List.getElem?_eq_none (by rw [nb32_len]; omega)])
 rw [h1,h2]
theorem scalar_eq (x:Int):halberdlaw12_scalar x=some (nb32 (sc12 x)):=by
 have hc:=sc12_b x
 have ek:w64 (1+iop (· &&& ·) x 1048575)=(sc12 x:Int):=by
  rw [show iop (· &&& ·) x 1048575=x % 1048576 from and_mask12 x 20 (by decide),w64_id (by omega) (by omega)]
  unfold sc12; omega
 unfold halberdlaw12_scalar
 exact ltt_i fun v hv=>bind_i (low12 (sc12 x) (by omega) v (by rw [hv,ek])) (if_i (nb32_len _) rfl)
theorem sc_is12 {c:Nat} (h0:0<c) (h1:c<N256):isSc (nb32 c)∧bnum (nb32 c)=c:=by
 have e:=bnum_nb32 c (by have:=md_N.lt; omega)
 exact ⟨⟨nb32_len c,by rw [e]; exact h1,by rw [e]; omega⟩,e⟩
theorem sc_of (x:Int):isSc (nb32 (sc12 x))∧bnum (nb32 (sc12 x))=sc12 x:=sc_is12 (by have:=sc12_b x; omega) (by have:=sc12_b x; have:=N_big12; omega)
theorem sc_ne (x:Int):sc12 x % N256 ≠ 0:=by
 have:=sc12_b x; have:=N_big12
 rw [Nat.mod_eq_of_lt (by omega)]; omega
theorem pub_of (x:Int) : ∃ q,sG (sc12 x)=some q∧halberdref9_Public (nb32 (sc12 x))=some (encQ q,0):=by
 obtain ⟨q,hq⟩:=sG_ne (sc_ne x)
 obtain ⟨h,e⟩:=sc_of x
 refine ⟨q,hq,?_⟩
 have:=rPublic_is _ h
 rw [e,hq] at this
 exact this
end Go.Kx
end

section
namespace Go.Kx
open Go Go.Proofs
open Go.Nt hiding n4
def cg (N a b:Nat):Prop:=a % N=b % N
theorem cg.add {N a a' b b':Nat} (h:cg N a a') (g:cg N b b'):cg N (a+b) (a'+b'):=by unfold cg at *; rw [Nat.add_mod,h,g, ← Nat.add_mod]
theorem cg.mul {N a a' b b':Nat} (h:cg N a a') (g:cg N b b'):cg N (a * b) (a' * b'):=by unfold cg at *; rw [Nat.mul_mod,h,g, ← Nat.mul_mod]
theorem cg.md {N a b:Nat} (h:cg N a b):cg N (a % N) b:=(Nat.mod_mod a N).trans h
theorem cg.rf {N a:Nat}:cg N a a:=rfl
theorem ver_gen {N m k s z r d:Nat} (hk:cg N (k ^ m * k) 1) (hs:cg N (s ^ m * s) 1) (es:s=(z % N+r * d % N) % N * (k ^ m % N) % N) :
  cg N (z % N * (s ^ m % N) % N+r * (s ^ m % N) % N * d) k:=by
 have c2:cg N s ((z+r * d) * k ^ m):=by
  have:cg N ((z % N+r * d % N) % N * (k ^ m % N) % N) ((z+r * d) * k ^ m):=((cg.rf.md.add cg.rf.md).md.mul cg.rf.md).md
  rwa [← es] at this
 generalize k ^ m=ki at *
 generalize s ^ m=si at *
 have c1:cg N (z % N * (si % N) % N+r * (si % N) % N * d) (z * si+r * si * d):=(cg.rf.md.mul cg.rf.md).md.add ((cg.rf.mul cg.rf.md).md.mul cg.rf)
 have c3:cg N (s * k) (z+r * d):=by
  have h1:=c2.mul (cg.rf (a:=k))
  have h2:cg N ((z+r * d) * (ki * k)) ((z+r * d) * 1):=cg.rf.mul hk
  rw [Nat.mul_assoc] at h1
  rw [Nat.mul_one] at h2
  exact Eq.trans h1 h2
 have e1:z * si+r * si * d=(z+r * d) * si:=by rw [Nat.add_mul,Nat.mul_right_comm r si d]
 have c4:cg N (s * k * si) ((z+r * d) * si):=c3.mul cg.rf
 have e2:s * k * si=(si * s) * k:=by rw [Nat.mul_comm (s * k),Nat.mul_assoc]
 have c5:cg N (si * s * k) (1 * k):=hs.mul cg.rf
 rw [Nat.one_mul] at c5
 rw [e1] at c1
 rw [e2] at c4
 exact Eq.trans c1 (Eq.trans c4.symm c5)
theorem inv_pow {x:Nat} (h:x % N256 ≠ 0):cg N256 (x ^ (N256 - 2) * x) 1:=by
 have hf:=fermat2 pr_N (x:=x) (fun c=>h (Nat.mod_eq_zero_of_dvd c))
 have e:N256 - 1=(N256 - 2)+1:=by decide
 rw [e,Nat.pow_succ] at hf
 unfold cg
 rw [hf]; rfl
theorem sigS_lt (d k z:Nat):sigS d k z<N256:=Nat.mod_lt _ N_pos
theorem sigR_lt (k:Nat):sigR k<N256:=Nat.mod_lt _ N_pos
theorem ver_sig {d k z:Nat} (hk:k % N256 ≠ 0) (hs:sigS d k z ≠ 0):verP d z (sigR k) (sigS d k z)=sG k:=by
 unfold verP
 have h:=ver_gen (N:=N256) (m:=N256 - 2) (k:=k) (s:=sigS d k z) (z:=z) (r:=sigR k) (d:=d) (inv_pow hk) (inv_pow (by rw [Nat.mod_eq_of_lt (sigS_lt _ _ _)]; exact hs)) rfl
 rw [sG_mod,h, ← sG_mod]
theorem verR_sig {k:Nat} (hk:k % N256 ≠ 0):verR (sigR k) (sG k)=0:=by
 obtain ⟨q,hq⟩:=sG_ne hk
 unfold sigR
 rw [hq]
 exact if_pos rfl
theorem sig_is {d k z:Nat} (hr:sigR k ≠ 0) (hs:sigS d k z ≠ 0):isSg (SG (sigR k) (sigS d k z)) (sigR k) (sigS d k z):=⟨by omega,sigR_lt k,by omega,sigS_lt _ _ _,rfl⟩
theorem SG_short (r s:Nat):(SG r s).length<4611686018427387904:=by
 have:=SG_parts r s
 have h:=SG_len r s
 rw [List.length_append] at h
 omega
theorem Verify_own {d k:Nat} (digest:Str) {q:Fp × Fp} (hd:digest.length=32) (hq:sG d=some q) (hk:k % N256 ≠ 0) (hr:sigR k ≠ 0) (hs:sigS d k (bnum digest) ≠ 0) :
  ecdsa_Verify (encQ q) digest (SG (sigR k) (sigS d k (bnum digest)))=some 0:=by
 rw [Verify_is digest _ (SG_short _ _) (sig_is hr hs) hd hq,ver_sig hk hs,verR_sig hk]
theorem sg_cases (d k z:Nat):signRes d k z=([],1201) ∨ (sigR k ≠ 0∧sigS d k z ≠ 0∧signRes d k z=(SG (sigR k) (sigS d k z),0)):=by
 unfold signRes
 by_cases h1:sigR k=0
 ·exact .inl (sgn_0 (.inl h1))
 by_cases h2:sigS d k z=0
 ·exact .inl (sgn_0 (.inr h2))
 ·exact .inr ⟨h1,h2,sgn_1 h1 h2⟩
theorem Sign_sc (x y:Int) (digest:Str) (hd:digest.length=32):ecdsa_Sign (nb32 (sc12 x)) (nb32 (sc12 y)) digest=some (signRes (sc12 x) (sc12 y) (bnum digest)):=by
 obtain ⟨h1,e1⟩:=sc_of x
 obtain ⟨h2,e2⟩:=sc_of y
 rw [Sign_is _ _ _ h1 h2 hd,e1,e2]
theorem rSign_sc (x y:Int) (digest:Str) (hd:digest.length=32):halberdref9_Sign (nb32 (sc12 x)) (nb32 (sc12 y)) digest=some (signRes (sc12 x) (sc12 y) (bnum digest)):=by
 obtain ⟨h1,e1⟩:=sc_of x
 obtain ⟨h2,e2⟩:=sc_of y
 rw [rSign_is _ _ _ h1 h2 hd,e1,e2]
end Go.Kx
end

section
namespace Go.Proofs
open Go Go.Kx
open TryI Try
def halberdlaw12_awake:Option (Bool) :=
 (halberdref1_Hash 256 ([109#8]:Str)).bind fun (r_1:Str)=>((halberdlaw12_scalar 5).bind fun (r_2:Str)=>((halberdref9_Public r_2).bind fun (r_3:Str × Int)=>((halberdlaw12_scalar 5).bind fun (r_4:Str)=>((halberdlaw12_scalar 9).bind fun (r_5:Str)=>((ecdsa_Sign r_4 r_5 r_1).bind fun (r_6:Str × Int)=>((ecdsa_Verify r_3.1 r_1 r_6.1).bind fun (r_7:Int)=>((halberdref1_Hash 256 ([111#8]:Str)).bind fun (r_8:Str)=>((ecdsa_Verify r_3.1 r_8 r_6.1).bind fun (r_9:Int)=>((ecdsa_Verify r_3.1 r_1 ([]:Str)).bind fun (r_10:Int)=>((ecdsa_Sign ([]:Str) ([]:Str) r_1).bind fun (r_11:Str × Int)=>(if 8<((r_6.1).length:Int) then ((halberdlaw0_Num r_6.2).bind fun (r_12:Int)=>(if r_12=0 then ((halberdlaw0_Num r_7).bind fun (r_13:Int)=>(if r_13=0 then ((halberdlaw0_Num r_9).bind fun (r_14:Int)=>(if r_14=1201 then ((halberdlaw0_Num r_10).bind fun (r_15:Int)=>(if r_15=1200 then ((halberdlaw0_Num r_11.2).bind fun (r_16:Int)=>(ltt (decide (r_16=1200)) fun (x1:Bool)=>(some x1))) else (some false))) else (some false))) else (some false))) else (some false))) else (some false))))))))))))
set_option maxHeartbeats 4000000 in
set_option maxRecDepth 20000 in
theorem F29_calls (r:Bool) (H:halberdlaw12_awake=some r) :
  Does Try.prog 29 [] [] [] (Γ:=Unit) (fun g=>vb r) (fun g=>[]):=by
 intro w hmem hro hd
 refine calls_of (N:=68) (m0:=[]) func29 rfl ntmps29 (argM_ok []) rfl hmem hro hd ?_
 unfold halberdlaw12_awake at H
 refine TC_seq (TC_region (TVa ?_))
 refine TL_nil (TX_next (TC_seq (TC_region ?_)))
 obtain ⟨r_1,hr_1,H⟩:=bind_elim H
 refine TLe (E_c0 (F31_calls 256 ([109#8]:Str) r_1 hr_1) call31 .z) (fun g_1=>?_)
 refine TVa ?_
 refine TL_nil (TX_next (TC_seq (TC_region ?_)))
 obtain ⟨r_2,hr_2,H⟩:=bind_elim H
 refine TLe (E_c0 (F30_calls 5 r_2 hr_2) call30 .z) (fun g_2=>?_)
 obtain ⟨r_3,hr_3,H⟩:=bind_elim H
 refine TLe (E_c0 (F14_calls r_2 r_3 hr_3) call14 .z) (fun g_3=>?_)
 refine TVm ?_
 refine TLv V_ex ?_
 refine TLv V_ex ?_
 refine TVa ?_
 refine TVa ?_
 refine TL_nil (TX_next (TC_seq (TC_region ?_)))
 obtain ⟨r_4,hr_4,H⟩:=bind_elim H
 refine TLe (E_c0 (F30_calls 5 r_4 hr_4) call30 .z) (fun g_4=>?_)
 obtain ⟨r_5,hr_5,H⟩:=bind_elim H
 refine TLe (E_c0 (F30_calls 9 r_5 hr_5) call30 .z) (fun g_5=>?_)
 refine TVm ?_
 obtain ⟨r_6,hr_6,H⟩:=bind_elim H
 refine TLe (E_c0 (F25_calls r_4 r_5 r_1 r_6 hr_6) call25 .z) (fun g_6=>?_)
 refine TVm ?_
 refine TLv V_ex ?_
 refine TLv V_ex ?_
 refine TVa ?_
 refine TVa ?_
 refine TL_nil (TX_next (TC_seq (TC_region (TVm ?_))))
 refine TVm ?_
 refine TVm ?_
 obtain ⟨r_7,hr_7,H⟩:=bind_elim H
 refine TLe (E_c0 (F27_calls r_3.1 r_1 r_6.1 r_7 hr_7) call27 .z) (fun g_7=>?_)
 refine TVa ?_
 refine TL_nil (TX_next (TC_seq (TC_region (TVm ?_))))
 obtain ⟨r_8,hr_8,H⟩:=bind_elim H
 refine TLe (E_c0 (F31_calls 256 ([111#8]:Str) r_8 hr_8) call31 .z) (fun g_8=>?_)
 refine TVm ?_
 obtain ⟨r_9,hr_9,H⟩:=bind_elim H
 refine TLe (E_c0 (F27_calls r_3.1 r_8 r_6.1 r_9 hr_9) call27 .z) (fun g_9=>?_)
 refine TVa ?_
 refine TL_nil (TX_next (TC_seq (TC_region (TVm ?_))))
 refine TVm ?_
 obtain ⟨r_10,hr_10,H⟩:=bind_elim H
 refine TLe (E_c0 (F27_calls r_3.1 r_1 ([]:Str) r_10 hr_10) call27 .z) (fun g_10=>?_)
 refine TVa ?_
 refine TL_nil (TX_next (TC.sub (m':=[(1,_),(4,_),(5,_),(6,_),(7,_),(8,_)]) ⟨rfl,rfl,rfl,rfl,rfl,rfl,trivial⟩ ?_))
 refine TC.pull (is:=[]) (L':=[]) rfl ?_
 refine TC_seq (TC_region (TVm ?_))
 obtain ⟨r_11,hr_11,H⟩:=bind_elim H
 refine TLe (E_c0 (F25_calls ([]:Str) ([]:Str) r_1 r_11 hr_11) call25 .z) (fun g_11=>?_)
 refine TVm ?_
 refine TLv V_ex ?_
 refine TLv V_ex ?_
 refine TVa ?_
 refine TVa ?_
 refine TL_nil (TX_next (TC_seq (TC_region (TVm ?_))))
 refine TLv (V_len_str rfl underlying9) ?_
 refine TLv (V_bin rfl rfl (fun w=>gtrI w ((r_6.1).length:Int) 8)) ?_
 refine TVm ?_
 refine TFd (d:=43) H (fun hc H=>?_) (fun hc H=>?_)
 ·refine TLw (V_move rfl) ?_
  obtain ⟨r_12,hr_12,H⟩:=bind_elim H
  refine TLu (E_c0 (F20_calls r_6.2 r_12 hr_12) call20 .z) (fun g_12=>?_)
  refine TLw (V_bin rfl rfl (fun w=>eqlI w r_12 0)) ?_
  refine TVt ?_
  refine TVm ?_
  refine TFd (d:=48) H (fun hc H=>?_) (fun hc H=>?_)
  ·refine TLw (V_move rfl) ?_
   obtain ⟨r_13,hr_13,H⟩:=bind_elim H
   refine TLu (E_c0 (F20_calls r_7 r_13 hr_13) call20 .z) (fun g_13=>?_)
   refine TLw (V_bin rfl rfl (fun w=>eqlI w r_13 0)) ?_
   refine TVt ?_
   refine TVm ?_
   refine TFd (d:=53) H (fun hc H=>?_) (fun hc H=>?_)
   ·refine TLw (V_move rfl) ?_
    obtain ⟨r_14,hr_14,H⟩:=bind_elim H
    refine TLu (E_c0 (F20_calls r_9 r_14 hr_14) call20 .z) (fun g_14=>?_)
    refine TLw (V_bin rfl rfl (fun w=>eqlI w r_14 1201)) ?_
    refine TVt ?_
    refine TVm ?_
    refine TFd (d:=58) H (fun hc H=>?_) (fun hc H=>?_)
    ·refine TLw (V_move rfl) ?_
     obtain ⟨r_15,hr_15,H⟩:=bind_elim H
     refine TLu (E_c0 (F20_calls r_10 r_15 hr_15) call20 .z) (fun g_15=>?_)
     refine TLw (V_bin rfl rfl (fun w=>eqlI w r_15 1200)) ?_
     refine TVt ?_
     refine TVm ?_
     refine TFd (d:=63) H (fun hc H=>?_) (fun hc H=>?_)
     ·refine TLw (V_move rfl) ?_
      obtain ⟨r_16,hr_16,H⟩:=bind_elim H
      refine TLu (E_c0 (F20_calls r_11.2 r_16 hr_16) call20 .z) (fun g_16=>?_)
      refine TLw (V_bin rfl rfl (fun w=>eqlI w r_16 1200)) ?_
      refine TVt ?_
      refine TVa ?_
      obtain ⟨x1,hx1,H⟩:=ltt_elim H
      refine TLr 0 (congrArg vb hx1) ?_
      refine TL_nil (TX_next (TC.sub (m':=[(0,_)]) ⟨rfl,trivial⟩ ?_))
      refine TC.pull (is:=[]) (L':=[]) rfl ?_
      refine TC_ret ?_
      obtain rfl:=sj H
      exact TX1
     ·refine TLs ?_
      refine TLs ?_
      refine TLs ?_
      refine TVf ?_
      refine TVa ?_
      refine TL_nil (TX_next (TC.sub (m':=[(0,_)]) ⟨rfl,trivial⟩ ?_))
      refine TC.pull (is:=[]) (L':=[]) rfl ?_
      refine TC_ret ?_
      obtain rfl:=sj H
      exact TX1
    ·refine TLs ?_
     refine TLs ?_
     refine TLs ?_
     refine TVf ?_
     refine TVm ?_
     refine TLs ?_
     refine TLs ?_
     refine TLs ?_
     refine TVf ?_
     refine TVa ?_
     refine TL_nil (TX_next (TC.sub (m':=[(0,_)]) ⟨rfl,trivial⟩ ?_))
     refine TC.pull (is:=[]) (L':=[]) rfl ?_
     refine TC_ret ?_
     obtain rfl:=sj H
     exact TX1
   ·refine TLs ?_
    refine TLs ?_
    refine TLs ?_
    refine TVf ?_
    refine TVm ?_
    refine TLs ?_
    refine TLs ?_
    refine TLs ?_
    refine TVf ?_
    refine TVm ?_
    refine TLs ?_
    refine TLs ?_
    refine TLs ?_
    refine TVf ?_
    refine TVa ?_
    refine TL_nil (TX_next (TC.sub (m':=[(0,_)]) ⟨rfl,trivial⟩ ?_))
    refine TC.pull (is:=[]) (L':=[]) rfl ?_
    refine TC_ret ?_
    obtain rfl:=sj H
    exact TX1
  ·refine TLs ?_
   refine TLs ?_
   refine TLs ?_
   refine TVf ?_
   refine TVm ?_
   refine TLs ?_
   refine TLs ?_
   refine TLs ?_
   refine TVf ?_
   refine TVm ?_
   refine TLs ?_
   refine TLs ?_
   refine TLs ?_
   refine TVf ?_
   refine TVm ?_
   refine TLs ?_
   refine TLs ?_
   refine TLs ?_
   refine TVf ?_
   refine TVa ?_
   refine TL_nil (TX_next (TC.sub (m':=[(0,_)]) ⟨rfl,trivial⟩ ?_))
   refine TC.pull (is:=[]) (L':=[]) rfl ?_
   refine TC_ret ?_
   obtain rfl:=sj H
   exact TX1
 ·refine TLs ?_
  refine TLs ?_
  refine TLs ?_
  refine TVf ?_
  refine TVm ?_
  refine TLs ?_
  refine TLs ?_
  refine TLs ?_
  refine TVf ?_
  refine TVm ?_
  refine TLs ?_
  refine TLs ?_
  refine TLs ?_
  refine TVf ?_
  refine TVm ?_
  refine TLs ?_
  refine TLs ?_
  refine TLs ?_
  refine TVf ?_
  refine TVm ?_
  refine TLs ?_
  refine TLs ?_
  refine TLs ?_
  refine TVf ?_
  refine TVa ?_
  refine TL_nil (TX_next (TC.sub (m':=[(0,_)]) ⟨rfl,trivial⟩ ?_))
  refine TC.pull (is:=[]) (L':=[]) rfl ?_
  refine TC_ret ?_
  obtain rfl:=sj H
  exact TX1
end Go.Proofs
end

section
namespace Go.Kx
open Go Go.Proofs
open Go.Nt hiding n4
theorem can_l {l a b:Fp} (hl:l ≠ 0) (h:a * (l * 1)=l * b):a=b:=by
 have h0:l * (a - b)=0:=by grind
 rcases F_mul0 h0 with h1 | h1
 ·exact absurd h1 hl
 ·grind
theorem x_of (k X:Nat) (hX:X<P256) (hk:k<2 ^ 256) (h1:(X:Int) * ((mulN 256 (GX,GY,1) k).2.2:Int) % (P256:Int)=((mulN 256 (GX,GY,1) k).1:Int) % (P256:Int)) (h0:((mulN 256 (GX,GY,1) k).2.2:Int) % (P256:Int) ≠ 0) : ∃ q,sG k=some q∧toN q.1=X:=by
 have h:=mulN_is 256 (GX,GY,1) 1 k (Is_rep gP) hk
 rw [Nat.one_mul] at h
 generalize mulN 256 (GX,GY,1) k=t at *
 obtain ⟨l,hl,ht⟩:=h
 have hz:mk (t.2.2:Int) ≠ 0:=fun c=>h0 (by
  have:eqm (t.2.2:Int) 0:=mk_eq.1 c
  exact this)
 cases hp:sG k with
 | none =>
  rw [hp] at ht
  refine absurd ?_ hz
  have:mk (t.2.2:Int)=l * 0:=congrArg (fun x=>x.2.2) ht
  rw [this]; grind
 | some q =>
  rw [hp] at ht
  refine ⟨q,rfl,?_⟩
  have ex:mk (t.1:Int)=l * q.1:=congrArg (fun x=>x.1) ht
  have ez:mk (t.2.2:Int)=l * 1:=congrArg (fun x=>x.2.2) ht
  have hm:mk (X:Int) * mk (t.2.2:Int)=mk (t.1:Int):=by
   rw [mk_mul]; exact mk_eq.2 h1
  have:mk (X:Int)=q.1:=by
   rw [ex,ez] at hm
   exact can_l hl hm
  rw [← this,toN_id hX]
def dM:Str:=[98#8,198#8,106#8,122#8,93#8,215#8,12#8,49#8,70#8,97#8,128#8,99#8,195#8,68#8,229#8,49#8,230#8,212#8,181#8,158#8,55#8,152#8,8#8,68#8,60#8,233#8,98#8,179#8,171#8,214#8,60#8,90#8]
def dO:Str:=[101#8,199#8,76#8,21#8,166#8,134#8,24#8,123#8,182#8,187#8,249#8,149#8,143#8,73#8,79#8,198#8,184#8,0#8,104#8,3#8,74#8,101#8,154#8,154#8,212#8,73#8,145#8,176#8,140#8,88#8,242#8,210#8]
theorem hash_m:halberdref1_Hash 256 [109#8]=some dM:=by kernel_rfl
theorem hash_o:halberdref1_Hash 256 [111#8]=some dO:=by kernel_rfl
def zM:Nat:=44677229764094987937674866763060948415978906225313850802945701531595163712602
def zO:Nat:=46035725389219043963032057611081995832299103232747348342053558695288603472594
theorem zM_eq:bnum dM=zM:=by decide +kernel
theorem zO_eq:bnum dO=zO:=by decide +kernel
def R10:Nat:=93611846365601674425599200647886473617443872040541410036779615417472400060991
def S10:Nat:=37476412953699253696587517675156464306064822802029079033877887591429253998981
def T10:Nat:=104467389517679265388924186360115398101745199751445721886099154899586117162128
def X10:Nat:=115207946988643141802392705522477034474295258353439076603193223990674970869602
theorem x10 : ∃ q,sG 10=some q∧toN q.1=R10:=x_of 10 R10 (by decide +kernel) (by decide +kernel) (by decide +kernel) (by decide +kernel)
theorem xT : ∃ q,sG T10=some q∧toN q.1=X10:=x_of T10 X10 (by decide +kernel) (by decide +kernel) (by decide +kernel) (by decide +kernel)
theorem r10:sigR 10=R10:=by
 obtain ⟨q,h,e⟩:=x10
 unfold sigR
 rw [h]
 show toN q.1 % N256=R10
 rw [e]; decide +kernel
theorem pow_N (x:Nat):x ^ (N256 - 2) % N256=powm N256 256 x (N256 - 2):=(powm_eq N256 256 x (N256 - 2) (by decide +kernel)).symm
theorem sigS_p (d k z:Nat):sigS d k z=(z % N256+sigR k * d % N256) % N256 * powm N256 256 k (N256 - 2) % N256:=by
 unfold sigS
 rw [pow_N]
theorem verP_p (a z r s:Nat):verP a z r s=sG ((z % N256 * powm N256 256 s (N256 - 2) % N256+r * powm N256 256 s (N256 - 2) % N256 * a) % N256):=by
 unfold verP
 rw [pow_N, ← sG_mod]
theorem s10:sigS 6 10 zM=S10:=by
 rw [sigS_p,r10]
 decide +kernel
theorem t10:(zO % N256 * (powm N256 256 S10 (N256 - 2)) % N256+R10 * (powm N256 256 S10 (N256 - 2)) % N256 * 6) % N256=T10:=by decide +kernel
theorem v10:verR R10 (verP 6 zO R10 S10)=1201:=by
 obtain ⟨q,h,e⟩:=xT
 rw [verP_p,t10,h]
 show (if toN q.1 % N256=R10 then (0:Int) else 1201)=1201
 rw [e]
 exact if_neg (by decide +kernel)
theorem awake12:halberdlaw12_awake=some true:=by
 have s5:halberdlaw12_scalar 5=some (nb32 6):=scalar_eq 5
 have s9:halberdlaw12_scalar 9=some (nb32 10):=scalar_eq 9
 obtain ⟨q,hq,hp⟩:=pub_of 5
 have hq:sG 6=some q:=hq
 have hp:halberdref9_Public (nb32 6)=some (encQ q,0):=hp
 have dm:dM.length=32:=rfl
 have dp:dO.length=32:=rfl
 have r0:R10 ≠ 0:=by decide +kernel
 have s0:S10 ≠ 0:=by decide +kernel
 have hs:ecdsa_Sign (nb32 6) (nb32 10) dM=some (SG R10 S10,0):=by
  have h:ecdsa_Sign (nb32 6) (nb32 10) dM=some (signRes 6 10 (bnum dM)):=Sign_sc 5 9 dM dm
  rw [h,zM_eq]
  unfold signRes
  rw [r10,s10,sgn_1 r0 s0]
 have hk:10 % N256 ≠ 0:=sc_ne 9
 have hv:ecdsa_Verify (encQ q) dM (SG R10 S10)=some 0:=by
  have h:=Verify_own (d:=6) (k:=10) dM dm hq hk (by rw [r10]; exact r0) (by rw [zM_eq,s10]; exact s0)
  rw [zM_eq,s10,r10] at h
  exact h
 have hg:isSg (SG R10 S10) R10 S10:=by
  have h:=sig_is (d:=6) (k:=10) (z:=zM) (by rw [r10]; exact r0) (by rw [s10]; exact s0)
  rw [s10,r10] at h
  exact h
 have hw:ecdsa_Verify (encQ q) dO (SG R10 S10)=some 1201:=by
  rw [Verify_is dO _ (SG_short _ _) hg dp hq,zO_eq,v10]
 have hn:ecdsa_Verify (encQ q) dM []=some 1200:=Verify_no _ _ _ (by decide) (fun h=>by
  obtain ⟨⟨r,s,h⟩, -⟩:=h
  have h2:=(SG_parts r s).1
  rw [← h.2.2.2.2] at h2
  exact absurd h2 (by decide))
 have he:ecdsa_Sign [] [] dM=some ([],1200):=Sign_no _ _ _ (fun h=>absurd h.1.1 (by decide))
 have hl:8<((SG R10 S10).length:Int):=by
  have h:=SG_parts R10 S10
  have h1:4≤(DI R10).length:=by
   have:=SG_stands R10 S10 ⟨by omega,hg.2.1⟩ ⟨by omega,hg.2.2.2.1⟩
   decide +kernel
  have h2:4≤(DI S10).length:=by decide +kernel
  omega
 unfold halberdlaw12_awake
 refine bind_i hash_m (bind_i s5 (bind_i hp (bind_i s5 (bind_i s9 (bind_i hs (bind_i hv (bind_i hash_o (bind_i hw (bind_i hn (bind_i he (if_i hl ?_)))))))))))
 exact bind_i (num12 _) (if_i rfl (bind_i (num12 _) (if_i rfl (bind_i (num12 _) (if_i rfl (bind_i (num12 _) (if_i rfl (bind_i (num12 _) rfl))))))))
end Go.Kx
end

section
namespace Go.Kx
open Go Go.RowKit
def str (b:ByteArray):Str:=b.data.toList.map (·.toBitVec)
theorem vs_str (b:ByteArray):Value.string b=vs (str b):=by
 unfold vs bytes str
 congr 1
 apply ByteArray.ext
 have:(UInt8.ofBitVec ∘ fun x:UInt8=>x.toBitVec)=id:=by funext x; rfl
 simp [this]
theorem str_length (b:ByteArray):(str b).length=b.size:=by
 show (List.map _ b.data.toList).length=b.data.size
 rw [List.length_map,Array.length_toList]
end Go.Kx
end

section
namespace Go.Kx
open Go Go.RowKit Go.ChangeShapes Go.WideShapes
theorem Does.law2 {P:Program} {f:FuncId} {args:List Value} {Ro:Mem} (h:Does P f args [] Ro (Γ:=Unit) (fun _=>vb true) (fun _=>[])) (w:World) (hr : ∀ e ∈ Ro,Has w e) :
  Calls P f args.toArray w fun e w'=>e = .returned (.bool true)∧Below w.heap.size w w':=by
 refine (h w ⟨fun e he=>(List.not_mem_nil he).elim,List.Pairwise.nil⟩ hr (fun e he=>(List.not_mem_nil he).elim)).mono fun e w' ⟨_,he,hs⟩=>⟨he,hs.below⟩
theorem str_le {b:ByteArray} {n:Nat} (h:b.data.toList.length≤n):(str b).length≤n:=by
 rw [str_length]; simpa using h
section
variable {H:Type} {enc:TypeId × Value → H} {P:Program} {w:World} {base:Nat} {held:Bool} {t e:TypeId} {v:Value} {d:DataW H} {p:List MemPlace}
end
end Go.Kx
end
