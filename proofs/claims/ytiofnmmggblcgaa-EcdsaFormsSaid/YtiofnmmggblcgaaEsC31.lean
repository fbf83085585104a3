/-
  Part 31 of the proof of what several laws share.
-/
import Derived.Test.YtiofnmmggblcgaaEsC1
import Derived.Test.YtiofnmmggblcgaaEsC2
import Derived.Test.YtiofnmmggblcgaaEsC3
import Derived.Test.YtiofnmmggblcgaaEsC4
import Derived.Test.YtiofnmmggblcgaaEsC5
import Derived.Test.YtiofnmmggblcgaaEsC30
set_option linter.unusedVariables false
set_option linter.unusedSimpArgs false
section
namespace Go.Proofs
open Go Go.Kx
open Vector (replicate)
open TryI Try
def halberdref1_block256.b0 (s_:Str) (s0:Int × Vx 32 64):Option ((Int × Vx 32 64) ⊕ (Vx 32 64)) :=
 if s0.1<16 then (if 0≤w64 (4 * s0.1)∧w64 (4 * s0.1)<((s_).length:Int) then (if 0≤w64 ((w64 (4 * s0.1))+1)∧w64 ((w64 (4 * s0.1))+1)<((s_).length:Int) then (if 0≤w64 ((w64 (4 * s0.1))+2)∧w64 ((w64 (4 * s0.1))+2)<((s_).length:Int) then (if 0≤w64 ((w64 (4 * s0.1))+3)∧w64 ((w64 (4 * s0.1))+3)<((s_).length:Int) then (if 0≤s0.1∧s0.1<(64:Int) then (ltt (vp s0.2 ((s0.1).toNat) ((((((sg s_ (w64 (4 * s0.1))).setWidth 32) <<< 24) ||| (((sg s_ (w64 ((w64 (4 * s0.1))+1))).setWidth 32) <<< 16)) ||| (((sg s_ (w64 ((w64 (4 * s0.1))+2))).setWidth 32) <<< 8)) ||| ((sg s_ (w64 ((w64 (4 * s0.1))+3))).setWidth 32))) fun (m_2:Vx 32 64)=>(ltt (w64 (s0.1+1)) fun (i1:Int)=>(some (.inl (i1,m_2))))) else none) else none) else none) else none) else none) else (some (.inr s0.2))
def halberdref1_block256.b1  (s1:Int × Vx 32 64):Option ((Int × Vx 32 64) ⊕ (Vx 32 64)) :=
 if s1.1<64 then (if 0≤w64 (s1.1 - 15)∧w64 (s1.1 - 15)<(64:Int) then ((halberdref1_rot (vg s1.2 ((w64 (s1.1 - 15)).toNat)) 7).bind fun (r_1:BitVec 32)=>(if 0≤w64 (s1.1 - 15)∧w64 (s1.1 - 15)<(64:Int) then ((halberdref1_rot (vg s1.2 ((w64 (s1.1 - 15)).toNat)) 18).bind fun (r_2:BitVec 32)=>(if 0≤w64 (s1.1 - 15)∧w64 (s1.1 - 15)<(64:Int) then (ltt ((r_1 ^^^ r_2) ^^^ ((vg s1.2 ((w64 (s1.1 - 15)).toNat)) >>> 3)) fun (a_1:BitVec 32)=>(if 0≤w64 (s1.1 - 2)∧w64 (s1.1 - 2)<(64:Int) then ((halberdref1_rot (vg s1.2 ((w64 (s1.1 - 2)).toNat)) 17).bind fun (r_3:BitVec 32)=>(if 0≤w64 (s1.1 - 2)∧w64 (s1.1 - 2)<(64:Int) then ((halberdref1_rot (vg s1.2 ((w64 (s1.1 - 2)).toNat)) 19).bind fun (r_4:BitVec 32)=>(if 0≤w64 (s1.1 - 2)∧w64 (s1.1 - 2)<(64:Int) then (ltt ((r_3 ^^^ r_4) ^^^ ((vg s1.2 ((w64 (s1.1 - 2)).toNat)) >>> 10)) fun (b5:BitVec 32)=>(if 0≤w64 (s1.1 - 16)∧w64 (s1.1 - 16)<(64:Int) then (if 0≤w64 (s1.1 - 7)∧w64 (s1.1 - 7)<(64:Int) then (if 0≤s1.1∧s1.1<(64:Int) then (ltt (vp s1.2 ((s1.1).toNat) ((((vg s1.2 ((w64 (s1.1 - 16)).toNat))+a_1)+(vg s1.2 ((w64 (s1.1 - 7)).toNat)))+b5)) fun (m_3:Vx 32 64)=>(ltt (w64 (s1.1+1)) fun (i2:Int)=>(some (.inl (i2,m_3))))) else none) else none) else none)) else none)) else none)) else none)) else none)) else none)) else none) else (some (.inr s1.2))
def halberdref1_block256.b2 (m_1:Vx 32 64) (t_2:Vx 32 64) (s2:Int × Vx 32 8):Option ((Int × Vx 32 8) ⊕ (Vx 32 8)) :=
 if s2.1<64 then ((halberdref1_rot (vg s2.2 4) 6).bind fun (r_5:BitVec 32)=>((halberdref1_rot (vg s2.2 4) 11).bind fun (r_6:BitVec 32)=>((halberdref1_rot (vg s2.2 4) 25).bind fun (r_7:BitVec 32)=>(ltt ((r_5 ^^^ r_6) ^^^ r_7) fun (a_2:BitVec 32)=>(if 0≤s2.1∧s2.1<(64:Int) then (if 0≤s2.1∧s2.1<(64:Int) then (ltt (((((vg s2.2 7)+a_2)+(((vg s2.2 4) &&& (vg s2.2 5)) ^^^ ((~~~(vg s2.2 4)) &&& (vg s2.2 6))))+(vg m_1 ((s2.1).toNat)))+(vg t_2 ((s2.1).toNat))) fun (t_4:BitVec 32)=>((halberdref1_rot (vg s2.2 0) 2).bind fun (r_8:BitVec 32)=>((halberdref1_rot (vg s2.2 0) 13).bind fun (r_9:BitVec 32)=>((halberdref1_rot (vg s2.2 0) 22).bind fun (r_10:BitVec 32)=>(ltt ((r_8 ^^^ r_9) ^^^ r_10) fun (b7:BitVec 32)=>(ltt (b7+((((vg s2.2 0) &&& (vg s2.2 1)) ^^^ ((vg s2.2 0) &&& (vg s2.2 2))) ^^^ ((vg s2.2 1) &&& (vg s2.2 2)))) fun (u1:BitVec 32)=>(ltt ((#v[t_4+u1,vg s2.2 0,vg s2.2 1,vg s2.2 2,(vg s2.2 3)+t_4,vg s2.2 4,vg s2.2 5,vg s2.2 6]:Vx 32 8)) fun (m_4:Vx 32 8)=>(ltt (w64 (s2.1+1)) fun (i3:Int)=>(some (.inl (i3,m_4))))))))))) else none) else none))))) else (some (.inr s2.2))
def halberdref1_block256.b3 (t_3:Vx 32 8) (s3:Int × Vx 32 8):Option ((Int × Vx 32 8) ⊕ (Vx 32 8)) :=
 if s3.1<8 then (if 0≤s3.1∧s3.1<(8:Int) then (if 0≤s3.1∧s3.1<(8:Int) then (if 0≤s3.1∧s3.1<(8:Int) then (ltt (vp s3.2 ((s3.1).toNat) ((vg s3.2 ((s3.1).toNat))+(vg t_3 ((s3.1).toNat)))) fun (m_5:Vx 32 8)=>(ltt (w64 (s3.1+1)) fun (i4:Int)=>(some (.inl (i4,m_5))))) else none) else none) else none) else (some (.inr s3.2))
def halberdref1_block256 (h:Vx 32 8) (s_:Str):Option (Vx 32 8) :=
 ltt ((#v[1116352408#32,1899447441#32,3049323471#32,3921009573#32,961987163#32,1508970993#32,2453635748#32,2870763221#32,3624381080#32,310598401#32,607225278#32,1426881987#32,1925078388#32,2162078206#32,2614888103#32,3248222580#32,3835390401#32,4022224774#32,264347078#32,604807628#32,770255983#32,1249150122#32,1555081692#32,1996064986#32,2554220882#32,2821834349#32,2952996808#32,3210313671#32,3336571891#32,3584528711#32,113926993#32,338241895#32,666307205#32,773529912#32,1294757372#32,1396182291#32,1695183700#32,1986661051#32,2177026350#32,2456956037#32,2730485921#32,2820302411#32,3259730800#32,3345764771#32,3516065817#32,3600352804#32,4094571909#32,275423344#32,430227734#32,506948616#32,659060556#32,883997877#32,958139571#32,1322822218#32,1537002063#32,1747873779#32,1955562222#32,2024104815#32,2227730452#32,2361852424#32,2428436474#32,2756734187#32,3204031479#32,3329325298#32]:Vx 32 64)) fun (m_1:Vx 32 64)=>((loop (halberdref1_block256.b0 s_) BIG (0,replicate 64 0#32)).bind fun (t_1:Vx 32 64)=>((loop (halberdref1_block256.b1) BIG (16,t_1)).bind fun (t_2:Vx 32 64)=>((loop (halberdref1_block256.b2 m_1 t_2) BIG (0,h)).bind fun (t_3:Vx 32 8)=>((loop (halberdref1_block256.b3 t_3) BIG (0,h)).bind fun (t_5:Vx 32 8)=>(some t_5)))))
set_option maxHeartbeats 4000000 in
set_option maxRecDepth 20000 in
theorem F97_calls (h:Vx 32 8) (s_:Str) (r:Vx 32 8) (H:halberdref1_block256 h s_=some r) :
  Does Try.prog 97 [aG [(8,e32 h.toList)],vs s_] [] [] (Γ:=Unit) (fun g=>aG [(8,e32 r.toList)]) (fun g=>[]):=by
 intro w hmem hro hd
 refine calls_of (N:=212) (m0:=[(0,aG [(8,e32 h.toList)]),(1,vs s_)]) func97 rfl ntmps97 (argM_ok [aG [(8,e32 h.toList)],vs s_]) rfl hmem hro hd ?_
 unfold halberdref1_block256 at H
 refine TC_seq (TC_region (TLe (E_boxP [(8,e32 h.toList)] rfl rfl ⟨(lenV (f:=v32) h),trivial⟩) (fun b1=>?_)))
 refine TLe (E_al32 8 inf30 zer30) (fun b2=>?_)
 refine TL_nil (TX_next (TC_seq (TC_region (TLv (V_buildArr (pv:=[(0,v32 1116352408#32),(1,v32 1899447441#32),(2,v32 3049323471#32),(3,v32 3921009573#32),(4,v32 961987163#32),(5,v32 1508970993#32),(6,v32 2453635748#32),(7,v32 2870763221#32),(8,v32 3624381080#32),(9,v32 310598401#32),(10,v32 607225278#32),(11,v32 1426881987#32),(12,v32 1925078388#32),(13,v32 2162078206#32),(14,v32 2614888103#32),(15,v32 3248222580#32),(16,v32 3835390401#32),(17,v32 4022224774#32),(18,v32 264347078#32),(19,v32 604807628#32),(20,v32 770255983#32),(21,v32 1249150122#32),(22,v32 1555081692#32),(23,v32 1996064986#32),(24,v32 2554220882#32),(25,v32 2821834349#32),(26,v32 2952996808#32),(27,v32 3210313671#32),(28,v32 3336571891#32),(29,v32 3584528711#32),(30,v32 113926993#32),(31,v32 338241895#32),(32,v32 666307205#32),(33,v32 773529912#32),(34,v32 1294757372#32),(35,v32 1396182291#32),(36,v32 1695183700#32),(37,v32 1986661051#32),(38,v32 2177026350#32),(39,v32 2456956037#32),(40,v32 2730485921#32),(41,v32 2820302411#32),(42,v32 3259730800#32),(43,v32 3345764771#32),(44,v32 3516065817#32),(45,v32 3600352804#32),(46,v32 4094571909#32),(47,v32 275423344#32),(48,v32 430227734#32),(49,v32 506948616#32),(50,v32 659060556#32),(51,v32 883997877#32),(52,v32 958139571#32),(53,v32 1322822218#32),(54,v32 1537002063#32),(55,v32 1747873779#32),(56,v32 1955562222#32),(57,v32 2024104815#32),(58,v32 2227730452#32),(59,v32 2361852424#32),(60,v32 2428436474#32),(61,v32 2756734187#32),(62,v32 3204031479#32),(63,v32 3329325298#32)]) rfl rfl underlying137 inf137 inf29 rfl zer137 (cs:=e32 ((#v[1116352408#32,1899447441#32,3049323471#32,3921009573#32,961987163#32,1508970993#32,2453635748#32,2870763221#32,3624381080#32,310598401#32,607225278#32,1426881987#32,1925078388#32,2162078206#32,2614888103#32,3248222580#32,3835390401#32,4022224774#32,264347078#32,604807628#32,770255983#32,1249150122#32,1555081692#32,1996064986#32,2554220882#32,2821834349#32,2952996808#32,3210313671#32,3336571891#32,3584528711#32,113926993#32,338241895#32,666307205#32,773529912#32,1294757372#32,1396182291#32,1695183700#32,1986661051#32,2177026350#32,2456956037#32,2730485921#32,2820302411#32,3259730800#32,3345764771#32,3516065817#32,3600352804#32,4094571909#32,275423344#32,430227734#32,506948616#32,659060556#32,883997877#32,958139571#32,1322822218#32,1537002063#32,1747873779#32,1955562222#32,2024104815#32,2227730452#32,2361852424#32,2428436474#32,2756734187#32,3204031479#32,3329325298#32]:Vx 32 64).toList)) (by kernel_rfl)) ?_))))
 refine TLe (E_al32 64 inf137 zer137) (fun b3=>?_)
 refine TLn (E_sv 0 inf137) (fun _=>?_)
 obtain ⟨m_1,hm_1,H⟩:=ltt_elim H
 refine TL_reE (j:=0) (A:=some (b3,0)) (cs:=e32 ((#v[1116352408#32,1899447441#32,3049323471#32,3921009573#32,961987163#32,1508970993#32,2453635748#32,2870763221#32,3624381080#32,310598401#32,607225278#32,1426881987#32,1925078388#32,2162078206#32,2614888103#32,3248222580#32,3835390401#32,4022224774#32,264347078#32,604807628#32,770255983#32,1249150122#32,1555081692#32,1996064986#32,2554220882#32,2821834349#32,2952996808#32,3210313671#32,3336571891#32,3584528711#32,113926993#32,338241895#32,666307205#32,773529912#32,1294757372#32,1396182291#32,1695183700#32,1986661051#32,2177026350#32,2456956037#32,2730485921#32,2820302411#32,3259730800#32,3345764771#32,3516065817#32,3600352804#32,4094571909#32,275423344#32,430227734#32,506948616#32,659060556#32,883997877#32,958139571#32,1322822218#32,1537002063#32,1747873779#32,1955562222#32,2024104815#32,2227730452#32,2361852424#32,2428436474#32,2756734187#32,3204031479#32,3329325298#32]:Vx 32 64).toList)) (cs':=e32 m_1.toList) rfl (congrArg (fun z:Vx 32 64=>e32 (Vector.toList z)) hm_1) ?_
 refine TL_nil (TX_next (TC_seq (TC_region (TLe (E_al32 64 inf137 zer137) (fun b4=>?_)))))
 refine TL_nil (TX_next (TC_seq (TC_seq (TC_region (TVa ?_)))))
 refine TL_nil (TX_next (TC_block ?_))
 obtain ⟨t_1,Hl,H⟩:=bind_elim H
 refine TC.sub (m':=[(1,_),(2,_),(4,_),(5,_),(6,_),(7,_)]) ⟨rfl,rfl,rfl,rfl,rfl,rfl,trivial⟩ ?_
 refine TC.pull (is:=[3,2,1,0]) (L':=[_,_,_,_]) rfl ?_
 refine TC_loopL (id:=0) (body:=(halberdref1_block256.b0 s_)) (σ:=Int × Vx 32 64) (Γ:=Unit) (Γx:=Unit) (fun s0 g0_=>[(1,vs s_),(2,ptr (some (b1,0)) 0),(4,ptr (some (b2,0)) 0),(5,ptr (some (b3,0)) 0),(6,ptr (some (b4,0)) 0),(7,vi s0.1)]) (fun s0 g0_=>[⟨some (b1,0),e32 h.toList⟩,⟨some (b2,0),e32 ((replicate 8 0#32).toList)⟩,⟨some (b3,0),e32 m_1.toList⟩,⟨some (b4,0),e32 s0.2.toList⟩]) (fun t g=>[(2,ptr (some (b1,0)) 0),(4,ptr (some (b2,0)) 0),(5,ptr (some (b3,0)) 0),(6,ptr (some (b4,0)) 0)]) (fun t g=>[⟨some (b1,0),e32 h.toList⟩,⟨some (b2,0),e32 ((replicate 8 0#32).toList)⟩,⟨some (b3,0),e32 m_1.toList⟩,⟨some (b4,0),e32 t.toList⟩]) ?_ BIG (0,replicate 64 0#32) () t_1 Hl ?_
 ·intro s0 g0_ r1 H K hK hE
  unfold halberdref1_block256.b0 at H
  refine TC_seq (TC_seq (TC_region (TVm ?_)))
  refine TLv (V_bin rfl rfl (fun w=>lssI w s0.1 16)) ?_
  refine TL_nil (TX_next (TCd H (fun hc H=>?_) (fun hc H=>?_)))
  ·refine TC_skip (TX_next (TC_seq (TC_block ?_)))
   obtain ⟨h1,H⟩:=if_elim H
   obtain ⟨h2,H⟩:=if_elim H
   obtain ⟨h3,H⟩:=if_elim H
   obtain ⟨h4,H⟩:=if_elim H
   obtain ⟨h5,H⟩:=if_elim H
   obtain ⟨m_2,hm_2,H⟩:=ltt_elim H
   refine TA_begin [] 32 (by kernel_rfl) (N:=32) rfl ?_
   refine TA_mix (is:=[]) (done':=dn 32 2147483647) [itV 0 23 (vi s0.1) [],itV 1 24 (vs s_) [],itV 2 25 (vi s0.1) [],itV 3 26 (vi (w64 (4 * s0.1))) [2],itV 4 27 (v8 (sg s_ (w64 (4 * s0.1)))) [1,3],itV 5 28 (v32 ((sg s_ (w64 (4 * s0.1))).setWidth 32)) [4],itV 6 29 (v32 (((sg s_ (w64 (4 * s0.1))).setWidth 32) <<< 24)) [5],itV 7 30 (vs s_) [],itV 8 31 (vi s0.1) [],itV 9 32 (vi (w64 (4 * s0.1))) [8],itV 10 33 (vi (w64 ((w64 (4 * s0.1))+1))) [9],itV 11 34 (v8 (sg s_ (w64 ((w64 (4 * s0.1))+1)))) [10,7],itV 12 35 (v32 ((sg s_ (w64 ((w64 (4 * s0.1))+1))).setWidth 32)) [11],itV 13 36 (v32 (((sg s_ (w64 ((w64 (4 * s0.1))+1))).setWidth 32) <<< 16)) [12],itV 14 37 (v32 ((((sg s_ (w64 (4 * s0.1))).setWidth 32) <<< 24) ||| (((sg s_ (w64 ((w64 (4 * s0.1))+1))).setWidth 32) <<< 16))) [13,6],itV 15 38 (vs s_) [],itV 16 39 (vi s0.1) [],itV 17 40 (vi (w64 (4 * s0.1))) [16],itV 18 41 (vi (w64 ((w64 (4 * s0.1))+2))) [17],itV 19 42 (v8 (sg s_ (w64 ((w64 (4 * s0.1))+2)))) [18,15],itV 20 43 (v32 ((sg s_ (w64 ((w64 (4 * s0.1))+2))).setWidth 32)) [19],itV 21 44 (v32 (((sg s_ (w64 ((w64 (4 * s0.1))+2))).setWidth 32) <<< 8)) [20],itV 22 45 (v32 (((((sg s_ (w64 (4 * s0.1))).setWidth 32) <<< 24) ||| (((sg s_ (w64 ((w64 (4 * s0.1))+1))).setWidth 32) <<< 16)) ||| (((sg s_ (w64 ((w64 (4 * s0.1))+2))).setWidth 32) <<< 8))) [21,14],itV 23 46 (vs s_) [],itV 24 47 (vi s0.1) [],itV 25 48 (vi (w64 (4 * s0.1))) [24],itV 26 49 (vi (w64 ((w64 (4 * s0.1))+3))) [25],itV 27 50 (v8 (sg s_ (w64 ((w64 (4 * s0.1))+3)))) [26,23],itV 28 51 (v32 ((sg s_ (w64 ((w64 (4 * s0.1))+3))).setWidth 32)) [27],itV 29 52 (v32 ((((((sg s_ (w64 (4 * s0.1))).setWidth 32) <<< 24) ||| (((sg s_ (w64 ((w64 (4 * s0.1))+1))).setWidth 32) <<< 16)) ||| (((sg s_ (w64 ((w64 (4 * s0.1))+2))).setWidth 32) <<< 8)) ||| ((sg s_ (w64 ((w64 (4 * s0.1))+3))).setWidth 32))) [28,22],itV 30 53 (ptr (some (b4,0)) ((s0.1).toNat)) [0]] [] 1 (by kernel_rfl) (QP.block (QP.then (QP.then (QP.block (QP.then QP.body))))) (by kernel_rfl) rfl (.v rfl (V_move rfl) (.v rfl (V_move rfl) (.v rfl (V_move rfl) (.v rfl (V_bin rfl rfl (fun w=>mulI w 4 s0.1)) (.v rfl (V_idxStr rfl rfl (i:=w64 (4 * s0.1)) underlying9 h1.1 h1.2) (.v rfl (V_conv rfl (fun w=>cv8to32 w _ _ underlying29 (und5) (sg s_ (w64 (4 * s0.1))))) (.v rfl (V_bin rfl rfl (fun w=>shl32 w ((sg s_ (w64 (4 * s0.1))).setWidth 32) .u64 24 (by decide))) (.v rfl (V_move rfl) (.v rfl (V_move rfl) (.v rfl (V_bin rfl rfl (fun w=>mulI w 4 s0.1)) (.v rfl (V_bin rfl rfl (fun w=>addI w (w64 (4 * s0.1)) 1)) (.v rfl (V_idxStr rfl rfl (i:=w64 ((w64 (4 * s0.1))+1)) underlying9 h2.1 h2.2) (.v rfl (V_conv rfl (fun w=>cv8to32 w _ _ underlying29 (und5) (sg s_ (w64 ((w64 (4 * s0.1))+1))))) (.v rfl (V_bin rfl rfl (fun w=>shl32 w ((sg s_ (w64 ((w64 (4 * s0.1))+1))).setWidth 32) .u64 16 (by decide))) (.v rfl (V_bin rfl rfl (fun w=>or32 w (((sg s_ (w64 (4 * s0.1))).setWidth 32) <<< 24) (((sg s_ (w64 ((w64 (4 * s0.1))+1))).setWidth 32) <<< 16))) (.v rfl (V_move rfl) (.v rfl (V_move rfl) (.v rfl (V_bin rfl rfl (fun w=>mulI w 4 s0.1)) (.v rfl (V_bin rfl rfl (fun w=>addI w (w64 (4 * s0.1)) 2)) (.v rfl (V_idxStr rfl rfl (i:=w64 ((w64 (4 * s0.1))+2)) underlying9 h3.1 h3.2) (.v rfl (V_conv rfl (fun w=>cv8to32 w _ _ underlying29 (und5) (sg s_ (w64 ((w64 (4 * s0.1))+2))))) (.v rfl (V_bin rfl rfl (fun w=>shl32 w ((sg s_ (w64 ((w64 (4 * s0.1))+2))).setWidth 32) .u64 8 (by decide))) (.v rfl (V_bin rfl rfl (fun w=>or32 w ((((sg s_ (w64 (4 * s0.1))).setWidth 32) <<< 24) ||| (((sg s_ (w64 ((w64 (4 * s0.1))+1))).setWidth 32) <<< 16)) (((sg s_ (w64 ((w64 (4 * s0.1))+2))).setWidth 32) <<< 8))) (.v rfl (V_move rfl) (.v rfl (V_move rfl) (.v rfl (V_bin rfl rfl (fun w=>mulI w 4 s0.1)) (.v rfl (V_bin rfl rfl (fun w=>addI w (w64 (4 * s0.1)) 3)) (.v rfl (V_idxStr rfl rfl (i:=w64 ((w64 (4 * s0.1))+3)) underlying9 h4.1 h4.2) (.v rfl (V_conv rfl (fun w=>cv8to32 w _ _ underlying29 (und5) (sg s_ (w64 ((w64 (4 * s0.1))+3))))) (.v rfl (V_bin rfl rfl (fun w=>or32 w (((((sg s_ (w64 (4 * s0.1))).setWidth 32) <<< 24) ||| (((sg s_ (w64 ((w64 (4 * s0.1))+1))).setWidth 32) <<< 16)) ||| (((sg s_ (w64 ((w64 (4 * s0.1))+2))).setWidth 32) <<< 8)) ((sg s_ (w64 ((w64 (4 * s0.1))+3))).setWidth 32))) (.v rfl (V_idxArr (i:=s0.1) rfl rfl underlying137 inf29 rfl h5.1 h5.2 (k:=(s0.1).toNat) (k01 _)) .nil))))))))))))))))))))))))))))))) .nil (by kernel_rfl) rfl (fun γ=>?_)
   refine TA_cut [(53,ptr (some (b4,0)) ((s0.1).toNat)),(52,v32 ((((((sg s_ (w64 (4 * s0.1))).setWidth 32) <<< 24) ||| (((sg s_ (w64 ((w64 (4 * s0.1))+1))).setWidth 32) <<< 16)) ||| (((sg s_ (w64 ((w64 (4 * s0.1))+2))).setWidth 32) <<< 8)) ||| ((sg s_ (w64 ((w64 (4 * s0.1))+3))).setWidth 32))),(1,vs s_),(2,ptr (some (b1,0)) 0),(4,ptr (some (b2,0)) 0),(5,ptr (some (b3,0)) 0),(6,ptr (some (b4,0)) 0),(7,vi s0.1)] [⟨some (b1,0),e32 h.toList⟩,⟨some (b2,0),e32 ((replicate 8 0#32).toList)⟩,⟨some (b3,0),e32 m_1.toList⟩,⟨some (b4,0),e32 s0.2.toList⟩] ⟨rfl,rfl,rfl,rfl,rfl,rfl,rfl,rfl,trivial⟩ rfl ?_
   refine TA_all (rs:=[31]) (by kernel_rfl) rfl ?_
   refine ⟨?_,trivial⟩
   refine TO_n (is:=[]) (done':=dn 32 4294967295) rfl rfl rfl (by kernel_rfl) (E_store (j:=3) rfl rfl inf29 rfl rfl rfl (by simpa using (toNat_lt h5.1 h5.2)) (cs':=e32 ((vp s0.2 ((s0.1).toNat) ((((((sg s_ (w64 (4 * s0.1))).setWidth 32) <<< 24) ||| (((sg s_ (w64 ((w64 (4 * s0.1))+1))).setWidth 32) <<< 16)) ||| (((sg s_ (w64 ((w64 (4 * s0.1))+2))).setWidth 32) <<< 8)) ||| ((sg s_ (w64 ((w64 (4 * s0.1))+3))).setWidth 32))).toList)) set_vec) (fun _ _=>rfl) (fun _=>?_)
   refine TA_reE (j:=3) (A:=some (b4,0)) (cs:=e32 ((vp s0.2 ((s0.1).toNat) ((((((sg s_ (w64 (4 * s0.1))).setWidth 32) <<< 24) ||| (((sg s_ (w64 ((w64 (4 * s0.1))+1))).setWidth 32) <<< 16)) ||| (((sg s_ (w64 ((w64 (4 * s0.1))+2))).setWidth 32) <<< 8)) ||| ((sg s_ (w64 ((w64 (4 * s0.1))+3))).setWidth 32))).toList)) (cs':=e32 m_2.toList) rfl (congrArg (fun z:Vx 32 64=>e32 (Vector.toList z)) hm_2) ?_
   refine TA_done (by kernel_rfl) ?_ 0
   refine TX_block_normal (TX_next (TC_region (TVm ?_)))
   refine TLv (V_bin rfl rfl (fun w=>addI w s0.1 1)) ?_
   refine TVa ?_
   obtain ⟨i1,hi1,H⟩:=ltt_elim H
   refine TLr 7 (congrArg vi hi1) ?_
   refine TL_nil ?_
   obtain rfl:=sj H
   exact TXk [0,0,0,0] (hK (i1,m_2) rfl ())
  ·refine TC_exit (TX_then_exit (TX_then_exit ?_))
   obtain rfl:=sj H
   exact TXj [0,0,0,0] (hE s0.2 rfl ())
 ·intro g
  refine TX_block_exit (TX_next (TC_seq (TC_seq (TC_region (TVa ?_)))))
  refine TL_nil (TX_next (TC_block ?_))
  obtain ⟨t_2,Hl,H⟩:=bind_elim H
  refine TC.sub (m':=[(2,_),(4,_),(5,_),(6,_),(8,_)]) ⟨rfl,rfl,rfl,rfl,rfl,trivial⟩ ?_
  refine TC.pull (is:=[0,0,0,0]) (L':=[_,_,_,_]) rfl ?_
  refine TC_loopL (id:=2) (body:=(halberdref1_block256.b1)) (σ:=Int × Vx 32 64) (Γ:=Unit) (Γx:=Unit) (fun s1 g1_=>[(2,ptr (some (b1,0)) 0),(4,ptr (some (b2,0)) 0),(5,ptr (some (b3,0)) 0),(6,ptr (some (b4,0)) 0),(8,vi s1.1)]) (fun s1 g1_=>[⟨some (b1,0),e32 h.toList⟩,⟨some (b2,0),e32 ((replicate 8 0#32).toList)⟩,⟨some (b3,0),e32 m_1.toList⟩,⟨some (b4,0),e32 s1.2.toList⟩]) (fun t g=>[(2,ptr (some (b1,0)) 0),(4,ptr (some (b2,0)) 0),(5,ptr (some (b3,0)) 0),(6,ptr (some (b4,0)) 0)]) (fun t g=>[⟨some (b1,0),e32 h.toList⟩,⟨some (b2,0),e32 ((replicate 8 0#32).toList)⟩,⟨some (b3,0),e32 m_1.toList⟩,⟨some (b4,0),e32 t.toList⟩]) ?_ BIG (16,t_1) () t_2 Hl ?_
  ·intro s1 g1_ r1 H K hK hE
   unfold halberdref1_block256.b1 at H
   refine TC_seq (TC_seq (TC_region (TVm ?_)))
   refine TLv (V_bin rfl rfl (fun w=>lssI w s1.1 64)) ?_
   refine TL_nil (TX_next (TCd H (fun hc H=>?_) (fun hc H=>?_)))
   ·refine TC_skip (TX_next (TC_seq (TC_block (TC_seq ?_))))
    obtain ⟨h6,H⟩:=if_elim H
    obtain ⟨r_1,hr_1,H⟩:=bind_elim H
    obtain ⟨h7,H⟩:=if_elim H
    obtain ⟨r_2,hr_2,H⟩:=bind_elim H
    obtain ⟨h8,H⟩:=if_elim H
    obtain ⟨a_1,ha_1,H⟩:=ltt_elim H
    refine TA_begin [] 18 (by kernel_rfl) (N:=18) rfl ?_
    refine TA_mix (is:=[]) (done':=dn 18 131071) [itV 0 58 (vi s1.1) [],itV 1 59 (vi (w64 (s1.1 - 15))) [0],itV 2 60 (ptr (some (b4,0)) ((w64 (s1.1 - 15)).toNat)) [1],itV 3 61 (v32 (vg s1.2 ((w64 (s1.1 - 15)).toNat))) [2],itV 4 62 (v32 r_1) [3],itV 5 63 (vi s1.1) [],itV 6 64 (vi (w64 (s1.1 - 15))) [5],itV 7 65 (ptr (some (b4,0)) ((w64 (s1.1 - 15)).toNat)) [6],itV 8 66 (v32 (vg s1.2 ((w64 (s1.1 - 15)).toNat))) [7],itV 9 67 (v32 r_2) [8],itV 10 68 (v32 (r_1 ^^^ r_2)) [9,4],itV 11 69 (vi s1.1) [],itV 12 70 (vi (w64 (s1.1 - 15))) [11],itV 13 71 (ptr (some (b4,0)) ((w64 (s1.1 - 15)).toNat)) [12],itV 14 72 (v32 (vg s1.2 ((w64 (s1.1 - 15)).toNat))) [13],itV 15 73 (v32 ((vg s1.2 ((w64 (s1.1 - 15)).toNat)) >>> 3)) [14],itV 16 74 (v32 ((r_1 ^^^ r_2) ^^^ ((vg s1.2 ((w64 (s1.1 - 15)).toNat)) >>> 3))) [15,10]] [] 1 (by kernel_rfl) (QP.then (QP.block (QP.then (QP.then (QP.block (QP.then QP.body)))))) (by kernel_rfl) rfl (.v rfl (V_move rfl) (.v rfl (V_bin rfl rfl (fun w=>subI w s1.1 15)) (.v rfl (V_idxArr (i:=w64 (s1.1 - 15)) rfl rfl underlying137 inf29 rfl h6.1 h6.2 (k:=(w64 (s1.1 - 15)).toNat) (k01 _)) (.v rfl (V_load rfl (.o 3) (get_vec (f:=v32) (V:=s1.2) (toNat_lt h6.1 h6.2)) isAgg29) (.e rfl (E_cu (F103_calls (vg s1.2 ((w64 (s1.1 - 15)).toNat)) 7 r_1 hr_1) call103 .z) (.v rfl (V_move rfl) (.v rfl (V_bin rfl rfl (fun w=>subI w s1.1 15)) (.v rfl (V_idxArr (i:=w64 (s1.1 - 15)) rfl rfl underlying137 inf29 rfl h7.1 h7.2 (k:=(w64 (s1.1 - 15)).toNat) (k01 _)) (.v rfl (V_load rfl (.o 3) (get_vec (f:=v32) (V:=s1.2) (toNat_lt h7.1 h7.2)) isAgg29) (.e rfl (E_cu (F103_calls (vg s1.2 ((w64 (s1.1 - 15)).toNat)) 18 r_2 hr_2) call103 .z) (.v rfl (V_bin rfl rfl (fun w=>xor32 w r_1 r_2)) (.v rfl (V_move rfl) (.v rfl (V_bin rfl rfl (fun w=>subI w s1.1 15)) (.v rfl (V_idxArr (i:=w64 (s1.1 - 15)) rfl rfl underlying137 inf29 rfl h8.1 h8.2 (k:=(w64 (s1.1 - 15)).toNat) (k01 _)) (.v rfl (V_load rfl (.o 3) (get_vec (f:=v32) (V:=s1.2) (toNat_lt h8.1 h8.2)) isAgg29) (.v rfl (V_bin rfl rfl (fun w=>shr32 w (vg s1.2 ((w64 (s1.1 - 15)).toNat)) .u64 3 (by decide))) (.v rfl (V_bin rfl rfl (fun w=>xor32 w (r_1 ^^^ r_2) ((vg s1.2 ((w64 (s1.1 - 15)).toNat)) >>> 3))) .nil))))))))))))))))) .nil (by kernel_rfl) rfl (fun γ=>?_)
    refine TA_cut [(74,v32 ((r_1 ^^^ r_2) ^^^ ((vg s1.2 ((w64 (s1.1 - 15)).toNat)) >>> 3))),(2,ptr (some (b1,0)) 0),(4,ptr (some (b2,0)) 0),(5,ptr (some (b3,0)) 0),(6,ptr (some (b4,0)) 0),(8,vi s1.1)] [⟨some (b1,0),e32 h.toList⟩,⟨some (b2,0),e32 ((replicate 8 0#32).toList)⟩,⟨some (b3,0),e32 m_1.toList⟩,⟨some (b4,0),e32 s1.2.toList⟩] ⟨rfl,rfl,rfl,rfl,rfl,rfl,trivial⟩ rfl ?_
    refine TA_all (rs:=[17]) (by kernel_rfl) rfl ?_
    refine ⟨?_,trivial⟩
    refine TO_v (is:=[]) (done':=dn 18 262143) rfl rfl rfl rfl (by kernel_rfl) (V_assign rfl) (fun _=>rfl) ?_
    refine TA_re (d:=9) (v:=v32 ((r_1 ^^^ r_2) ^^^ ((vg s1.2 ((w64 (s1.1 - 15)).toNat)) >>> 3))) (v':=v32 a_1) rfl (congrArg v32 ha_1) ?_
    refine TA_done (by kernel_rfl) ?_ 0
    refine TX_next (TC_seq ?_)
    obtain ⟨h9,H⟩:=if_elim H
    obtain ⟨r_3,hr_3,H⟩:=bind_elim H
    obtain ⟨h10,H⟩:=if_elim H
    obtain ⟨r_4,hr_4,H⟩:=bind_elim H
    obtain ⟨h11,H⟩:=if_elim H
    obtain ⟨b5,hb5,H⟩:=ltt_elim H
    refine TA_begin [] 18 (by kernel_rfl) (N:=18) rfl ?_
    refine TA_mix (is:=[]) (done':=dn 18 131071) [itV 0 75 (vi s1.1) [],itV 1 76 (vi (w64 (s1.1 - 2))) [0],itV 2 77 (ptr (some (b4,0)) ((w64 (s1.1 - 2)).toNat)) [1],itV 3 78 (v32 (vg s1.2 ((w64 (s1.1 - 2)).toNat))) [2],itV 4 79 (v32 r_3) [3],itV 5 80 (vi s1.1) [],itV 6 81 (vi (w64 (s1.1 - 2))) [5],itV 7 82 (ptr (some (b4,0)) ((w64 (s1.1 - 2)).toNat)) [6],itV 8 83 (v32 (vg s1.2 ((w64 (s1.1 - 2)).toNat))) [7],itV 9 84 (v32 r_4) [8],itV 10 85 (v32 (r_3 ^^^ r_4)) [9,4],itV 11 86 (vi s1.1) [],itV 12 87 (vi (w64 (s1.1 - 2))) [11],itV 13 88 (ptr (some (b4,0)) ((w64 (s1.1 - 2)).toNat)) [12],itV 14 89 (v32 (vg s1.2 ((w64 (s1.1 - 2)).toNat))) [13],itV 15 90 (v32 ((vg s1.2 ((w64 (s1.1 - 2)).toNat)) >>> 10)) [14],itV 16 91 (v32 ((r_3 ^^^ r_4) ^^^ ((vg s1.2 ((w64 (s1.1 - 2)).toNat)) >>> 10))) [15,10]] [] 1 (by kernel_rfl) (QP.then (QP.block (QP.then (QP.then (QP.block (QP.then QP.body)))))) (by kernel_rfl) rfl (.v rfl (V_move rfl) (.v rfl (V_bin rfl rfl (fun w=>subI w s1.1 2)) (.v rfl (V_idxArr (i:=w64 (s1.1 - 2)) rfl rfl underlying137 inf29 rfl h9.1 h9.2 (k:=(w64 (s1.1 - 2)).toNat) (k01 _)) (.v rfl (V_load rfl (.o 3) (get_vec (f:=v32) (V:=s1.2) (toNat_lt h9.1 h9.2)) isAgg29) (.e rfl (E_cu (F103_calls (vg s1.2 ((w64 (s1.1 - 2)).toNat)) 17 r_3 hr_3) call103 .z) (.v rfl (V_move rfl) (.v rfl (V_bin rfl rfl (fun w=>subI w s1.1 2)) (.v rfl (V_idxArr (i:=w64 (s1.1 - 2)) rfl rfl underlying137 inf29 rfl h10.1 h10.2 (k:=(w64 (s1.1 - 2)).toNat) (k01 _)) (.v rfl (V_load rfl (.o 3) (get_vec (f:=v32) (V:=s1.2) (toNat_lt h10.1 h10.2)) isAgg29) (.e rfl (E_cu (F103_calls (vg s1.2 ((w64 (s1.1 - 2)).toNat)) 19 r_4 hr_4) call103 .z) (.v rfl (V_bin rfl rfl (fun w=>xor32 w r_3 r_4)) (.v rfl (V_move rfl) (.v rfl (V_bin rfl rfl (fun w=>subI w s1.1 2)) (.v rfl (V_idxArr (i:=w64 (s1.1 - 2)) rfl rfl underlying137 inf29 rfl h11.1 h11.2 (k:=(w64 (s1.1 - 2)).toNat) (k01 _)) (.v rfl (V_load rfl (.o 3) (get_vec (f:=v32) (V:=s1.2) (toNat_lt h11.1 h11.2)) isAgg29) (.v rfl (V_bin rfl rfl (fun w=>shr32 w (vg s1.2 ((w64 (s1.1 - 2)).toNat)) .u64 10 (by decide))) (.v rfl (V_bin rfl rfl (fun w=>xor32 w (r_3 ^^^ r_4) ((vg s1.2 ((w64 (s1.1 - 2)).toNat)) >>> 10))) .nil))))))))))))))))) .nil (by kernel_rfl) rfl (fun γ=>?_)
    refine TA_cut [(91,v32 ((r_3 ^^^ r_4) ^^^ ((vg s1.2 ((w64 (s1.1 - 2)).toNat)) >>> 10))),(9,v32 a_1),(2,ptr (some (b1,0)) 0),(4,ptr (some (b2,0)) 0),(5,ptr (some (b3,0)) 0),(6,ptr (some (b4,0)) 0),(8,vi s1.1)] [⟨some (b1,0),e32 h.toList⟩,⟨some (b2,0),e32 ((replicate 8 0#32).toList)⟩,⟨some (b3,0),e32 m_1.toList⟩,⟨some (b4,0),e32 s1.2.toList⟩] ⟨rfl,rfl,rfl,rfl,rfl,rfl,rfl,trivial⟩ rfl ?_
    refine TA_all (rs:=[17]) (by kernel_rfl) rfl ?_
    refine ⟨?_,trivial⟩
    refine TO_v (is:=[]) (done':=dn 18 262143) rfl rfl rfl rfl (by kernel_rfl) (V_assign rfl) (fun _=>rfl) ?_
    refine TA_re (d:=10) (v:=v32 ((r_3 ^^^ r_4) ^^^ ((vg s1.2 ((w64 (s1.1 - 2)).toNat)) >>> 10))) (v':=v32 b5) rfl (congrArg v32 hb5) ?_
    refine TA_done (by kernel_rfl) ?_ 0
    refine TX_next ?_
    obtain ⟨h12,H⟩:=if_elim H
    obtain ⟨h13,H⟩:=if_elim H
    obtain ⟨h14,H⟩:=if_elim H
    obtain ⟨m_3,hm_3,H⟩:=ltt_elim H
    refine TA_begin [] 16 (by kernel_rfl) (N:=16) rfl ?_
    refine TA_mix (is:=[]) (done':=dn 16 32767) [itV 0 92 (vi s1.1) [],itV 1 93 (vi s1.1) [],itV 2 94 (vi (w64 (s1.1 - 16))) [1],itV 3 95 (ptr (some (b4,0)) ((w64 (s1.1 - 16)).toNat)) [2],itV 4 96 (v32 (vg s1.2 ((w64 (s1.1 - 16)).toNat))) [3],itV 5 97 (v32 a_1) [],itV 6 98 (v32 ((vg s1.2 ((w64 (s1.1 - 16)).toNat))+a_1)) [4,5],itV 7 99 (vi s1.1) [],itV 8 100 (vi (w64 (s1.1 - 7))) [7],itV 9 101 (ptr (some (b4,0)) ((w64 (s1.1 - 7)).toNat)) [8],itV 10 102 (v32 (vg s1.2 ((w64 (s1.1 - 7)).toNat))) [9],itV 11 103 (v32 (((vg s1.2 ((w64 (s1.1 - 16)).toNat))+a_1)+(vg s1.2 ((w64 (s1.1 - 7)).toNat)))) [6,10],itV 12 104 (v32 b5) [],itV 13 105 (v32 ((((vg s1.2 ((w64 (s1.1 - 16)).toNat))+a_1)+(vg s1.2 ((w64 (s1.1 - 7)).toNat)))+b5)) [12,11],itV 14 106 (ptr (some (b4,0)) ((s1.1).toNat)) [0]] [] 1 (by kernel_rfl) (QP.block (QP.then (QP.then (QP.block (QP.then QP.body))))) (by kernel_rfl) rfl (.v rfl (V_move rfl) (.v rfl (V_move rfl) (.v rfl (V_bin rfl rfl (fun w=>subI w s1.1 16)) (.v rfl (V_idxArr (i:=w64 (s1.1 - 16)) rfl rfl underlying137 inf29 rfl h12.1 h12.2 (k:=(w64 (s1.1 - 16)).toNat) (k01 _)) (.v rfl (V_load rfl (.o 3) (get_vec (f:=v32) (V:=s1.2) (toNat_lt h12.1 h12.2)) isAgg29) (.v rfl (V_move rfl) (.v rfl (V_bin rfl rfl (fun w=>add32 w (vg s1.2 ((w64 (s1.1 - 16)).toNat)) a_1)) (.v rfl (V_move rfl) (.v rfl (V_bin rfl rfl (fun w=>subI w s1.1 7)) (.v rfl (V_idxArr (i:=w64 (s1.1 - 7)) rfl rfl underlying137 inf29 rfl h13.1 h13.2 (k:=(w64 (s1.1 - 7)).toNat) (k01 _)) (.v rfl (V_load rfl (.o 3) (get_vec (f:=v32) (V:=s1.2) (toNat_lt h13.1 h13.2)) isAgg29) (.v rfl (V_bin rfl rfl (fun w=>add32 w ((vg s1.2 ((w64 (s1.1 - 16)).toNat))+a_1) (vg s1.2 ((w64 (s1.1 - 7)).toNat)))) (.v rfl (V_move rfl) (.v rfl (V_bin rfl rfl (fun w=>add32 w (((vg s1.2 ((w64 (s1.1 - 16)).toNat))+a_1)+(vg s1.2 ((w64 (s1.1 - 7)).toNat))) b5)) (.v rfl (V_idxArr (i:=s1.1) rfl rfl underlying137 inf29 rfl h14.1 h14.2 (k:=(s1.1).toNat) (k01 _)) .nil))))))))))))))) .nil (by kernel_rfl) rfl (fun γ=>?_)
    refine TA_cut [(106,ptr (some (b4,0)) ((s1.1).toNat)),(105,v32 ((((vg s1.2 ((w64 (s1.1 - 16)).toNat))+a_1)+(vg s1.2 ((w64 (s1.1 - 7)).toNat)))+b5)),(2,ptr (some (b1,0)) 0),(4,ptr (some (b2,0)) 0),(5,ptr (some (b3,0)) 0),(6,ptr (some (b4,0)) 0),(8,vi s1.1)] [⟨some (b1,0),e32 h.toList⟩,⟨some (b2,0),e32 ((replicate 8 0#32).toList)⟩,⟨some (b3,0),e32 m_1.toList⟩,⟨some (b4,0),e32 s1.2.toList⟩] ⟨rfl,rfl,rfl,rfl,rfl,rfl,rfl,trivial⟩ rfl ?_
    refine TA_all (rs:=[15]) (by kernel_rfl) rfl ?_
    refine ⟨?_,trivial⟩
    refine TO_n (is:=[]) (done':=dn 16 65535) rfl rfl rfl (by kernel_rfl) (E_store (j:=3) rfl rfl inf29 rfl rfl rfl (by simpa using (toNat_lt h14.1 h14.2)) (cs':=e32 ((vp s1.2 ((s1.1).toNat) ((((vg s1.2 ((w64 (s1.1 - 16)).toNat))+a_1)+(vg s1.2 ((w64 (s1.1 - 7)).toNat)))+b5)).toList)) set_vec) (fun _ _=>rfl) (fun _=>?_)
    refine TA_reE (j:=3) (A:=some (b4,0)) (cs:=e32 ((vp s1.2 ((s1.1).toNat) ((((vg s1.2 ((w64 (s1.1 - 16)).toNat))+a_1)+(vg s1.2 ((w64 (s1.1 - 7)).toNat)))+b5)).toList)) (cs':=e32 m_3.toList) rfl (congrArg (fun z:Vx 32 64=>e32 (Vector.toList z)) hm_3) ?_
    refine TA_done (by kernel_rfl) ?_ 0
    refine TX_block_normal (TX_next (TC_region (TVm ?_)))
    refine TLv (V_bin rfl rfl (fun w=>addI w s1.1 1)) ?_
    refine TVa ?_
    obtain ⟨i2,hi2,H⟩:=ltt_elim H
    refine TLr 8 (congrArg vi hi2) ?_
    refine TL_nil ?_
    obtain rfl:=sj H
    exact TXk [0,0,0,0] (hK (i2,m_3) rfl ())
   ·refine TC_exit (TX_then_exit (TX_then_exit ?_))
    obtain rfl:=sj H
    exact TXj [0,0,0,0] (hE s1.2 rfl ())
  ·intro g
   refine TX_block_exit (TX_next (TC_seq (TC_region (TLv (V_lag (.o 0) isAgg30 inf30) ?_))))
   refine TLe (E_al32 8 inf30 zer30) (fun b6=>?_)
   refine TLn (E_sv (vs:=e32 h.toList) 0 inf30) (fun _=>?_)
   refine TL_nil (TX_next (TC_seq (TC_seq (TC_region (TVa ?_)))))
   refine TL_nil (TX_next (TC_block ?_))
   obtain ⟨t_3,Hl,H⟩:=bind_elim H
   refine TC.sub (m':=[(2,_),(4,_),(5,_),(6,_),(11,_),(12,_)]) ⟨rfl,rfl,rfl,rfl,rfl,rfl,trivial⟩ ?_
   refine TC.pull (is:=[1,1,1,1,0]) (L':=[_,_,_,_,_]) rfl ?_
   refine TC_loopL (id:=4) (body:=(halberdref1_block256.b2 m_1 t_2)) (σ:=Int × Vx 32 8) (Γ:=Unit) (Γx:=Unit) (fun s2 g2_=>[(2,ptr (some (b1,0)) 0),(4,ptr (some (b2,0)) 0),(5,ptr (some (b3,0)) 0),(6,ptr (some (b4,0)) 0),(11,ptr (some (b6,0)) 0),(12,vi s2.1)]) (fun s2 g2_=>[⟨some (b1,0),e32 h.toList⟩,⟨some (b2,0),e32 ((replicate 8 0#32).toList)⟩,⟨some (b3,0),e32 m_1.toList⟩,⟨some (b4,0),e32 t_2.toList⟩,⟨some (b6,0),e32 s2.2.toList⟩]) (fun t g=>[(2,ptr (some (b1,0)) 0),(4,ptr (some (b2,0)) 0),(11,ptr (some (b6,0)) 0)]) (fun t g=>[⟨some (b1,0),e32 h.toList⟩,⟨some (b2,0),e32 ((replicate 8 0#32).toList)⟩,⟨some (b6,0),e32 t.toList⟩]) ?_ BIG (0,h) () t_3 Hl ?_
   ·intro s2 g2_ r1 H K hK hE
    unfold halberdref1_block256.b2 at H
    refine TC_seq (TC_seq (TC_region (TVm ?_)))
    refine TLv (V_bin rfl rfl (fun w=>lssI w s2.1 64)) ?_
    refine TL_nil (TX_next (TCd H (fun hc H=>?_) (fun hc H=>?_)))
    ·refine TC_skip (TX_next (TC_seq (TC_block (TC_seq ?_))))
     obtain ⟨r_5,hr_5,H⟩:=bind_elim H
     obtain ⟨r_6,hr_6,H⟩:=bind_elim H
     obtain ⟨r_7,hr_7,H⟩:=bind_elim H
     obtain ⟨a_2,ha_2,H⟩:=ltt_elim H
     refine TA_begin [] 12 (by kernel_rfl) (N:=12) rfl ?_
     refine TA_mix (is:=[]) (done':=dn 12 2047) [itV 0 112 (ptr (some (b6,0)) 4) [],itV 1 113 (v32 (vg s2.2 4)) [0],itV 2 114 (v32 r_5) [1],itV 3 115 (ptr (some (b6,0)) 4) [],itV 4 116 (v32 (vg s2.2 4)) [3],itV 5 117 (v32 r_6) [4],itV 6 118 (v32 (r_5 ^^^ r_6)) [2,5],itV 7 119 (ptr (some (b6,0)) 4) [],itV 8 120 (v32 (vg s2.2 4)) [7],itV 9 121 (v32 r_7) [8],itV 10 122 (v32 ((r_5 ^^^ r_6) ^^^ r_7)) [9,6]] [] 1 (by kernel_rfl) (QP.then (QP.block (QP.then (QP.then (QP.block (QP.then QP.body)))))) (by kernel_rfl) rfl (.v rfl (V_idxArr (i:=4) rfl rfl underlying30 inf29 rfl (by decide) (by decide) (k:=4) (k01 _)) (.v rfl (V_load rfl (.o 4) (get_vec (f:=v32) (V:=s2.2) (by decide:4<8)) isAgg29) (.e rfl (E_cu (F103_calls (vg s2.2 4) 6 r_5 hr_5) call103 .z) (.v rfl (V_idxArr (i:=4) rfl rfl underlying30 inf29 rfl (by decide) (by decide) (k:=4) (k01 _)) (.v rfl (V_load rfl (.o 4) (get_vec (f:=v32) (V:=s2.2) (by decide:4<8)) isAgg29) (.e rfl (E_cu (F103_calls (vg s2.2 4) 11 r_6 hr_6) call103 .z) (.v rfl (V_bin rfl rfl (fun w=>xor32 w r_5 r_6)) (.v rfl (V_idxArr (i:=4) rfl rfl underlying30 inf29 rfl (by decide) (by decide) (k:=4) (k01 _)) (.v rfl (V_load rfl (.o 4) (get_vec (f:=v32) (V:=s2.2) (by decide:4<8)) isAgg29) (.e rfl (E_cu (F103_calls (vg s2.2 4) 25 r_7 hr_7) call103 .z) (.v rfl (V_bin rfl rfl (fun w=>xor32 w (r_5 ^^^ r_6) r_7)) .nil))))))))))) .nil (by kernel_rfl) rfl (fun γ=>?_)
     refine TA_cut [(122,v32 ((r_5 ^^^ r_6) ^^^ r_7)),(2,ptr (some (b1,0)) 0),(4,ptr (some (b2,0)) 0),(5,ptr (some (b3,0)) 0),(6,ptr (some (b4,0)) 0),(11,ptr (some (b6,0)) 0),(12,vi s2.1)] [⟨some (b1,0),e32 h.toList⟩,⟨some (b2,0),e32 ((replicate 8 0#32).toList)⟩,⟨some (b3,0),e32 m_1.toList⟩,⟨some (b4,0),e32 t_2.toList⟩,⟨some (b6,0),e32 s2.2.toList⟩] ⟨rfl,rfl,rfl,rfl,rfl,rfl,rfl,trivial⟩ rfl ?_
     refine TA_all (rs:=[11]) (by kernel_rfl) rfl ?_
     refine ⟨?_,trivial⟩
     refine TO_v (is:=[]) (done':=dn 12 4095) rfl rfl rfl rfl (by kernel_rfl) (V_assign rfl) (fun _=>rfl) ?_
     refine TA_re (d:=13) (v:=v32 ((r_5 ^^^ r_6) ^^^ r_7)) (v':=v32 a_2) rfl (congrArg v32 ha_2) ?_
     refine TA_done (by kernel_rfl) ?_ 0
     refine TX_next (TC_seq ?_)
     obtain ⟨h15,H⟩:=if_elim H
     obtain ⟨h16,H⟩:=if_elim H
     obtain ⟨t_4,ht_4,H⟩:=ltt_elim H
     refine TA_begin [] 26 (by kernel_rfl) (N:=26) rfl ?_
     refine TA_mix (is:=[]) (done':=dn 26 33554431) [itV 0 123 (ptr (some (b6,0)) 7) [],itV 1 124 (v32 (vg s2.2 7)) [0],itV 2 125 (v32 a_2) [],itV 3 126 (v32 ((vg s2.2 7)+a_2)) [1,2],itV 4 127 (ptr (some (b6,0)) 4) [],itV 5 128 (v32 (vg s2.2 4)) [4],itV 6 129 (ptr (some (b6,0)) 5) [],itV 7 130 (v32 (vg s2.2 5)) [6],itV 8 131 (v32 ((vg s2.2 4) &&& (vg s2.2 5))) [5,7],itV 9 132 (ptr (some (b6,0)) 4) [],itV 10 133 (v32 (vg s2.2 4)) [9],itV 11 134 (v32 (~~~(vg s2.2 4))) [10],itV 12 135 (ptr (some (b6,0)) 6) [],itV 13 136 (v32 (vg s2.2 6)) [12],itV 14 137 (v32 ((~~~(vg s2.2 4)) &&& (vg s2.2 6))) [13,11],itV 15 138 (v32 (((vg s2.2 4) &&& (vg s2.2 5)) ^^^ ((~~~(vg s2.2 4)) &&& (vg s2.2 6)))) [14,8],itV 16 139 (v32 (((vg s2.2 7)+a_2)+(((vg s2.2 4) &&& (vg s2.2 5)) ^^^ ((~~~(vg s2.2 4)) &&& (vg s2.2 6))))) [15,3],itV 17 140 (vi s2.1) [],itV 18 141 (ptr (some (b3,0)) ((s2.1).toNat)) [17],itV 19 142 (v32 (vg m_1 ((s2.1).toNat))) [18],itV 20 143 (v32 ((((vg s2.2 7)+a_2)+(((vg s2.2 4) &&& (vg s2.2 5)) ^^^ ((~~~(vg s2.2 4)) &&& (vg s2.2 6))))+(vg m_1 ((s2.1).toNat)))) [16,19],itV 21 144 (vi s2.1) [],itV 22 145 (ptr (some (b4,0)) ((s2.1).toNat)) [21],itV 23 146 (v32 (vg t_2 ((s2.1).toNat))) [22],itV 24 147 (v32 (((((vg s2.2 7)+a_2)+(((vg s2.2 4) &&& (vg s2.2 5)) ^^^ ((~~~(vg s2.2 4)) &&& (vg s2.2 6))))+(vg m_1 ((s2.1).toNat)))+(vg t_2 ((s2.1).toNat)))) [23,20]] [] 1 (by kernel_rfl) (QP.then (QP.block (QP.then (QP.then (QP.block (QP.then QP.body)))))) (by kernel_rfl) rfl (.v rfl (V_idxArr (i:=7) rfl rfl underlying30 inf29 rfl (by decide) (by decide) (k:=7) (k01 _)) (.v rfl (V_load rfl (.o 4) (get_vec (f:=v32) (V:=s2.2) (by decide:7<8)) isAgg29) (.v rfl (V_move rfl) (.v rfl (V_bin rfl rfl (fun w=>add32 w (vg s2.2 7) a_2)) (.v rfl (V_idxArr (i:=4) rfl rfl underlying30 inf29 rfl (by decide) (by decide) (k:=4) (k01 _)) (.v rfl (V_load rfl (.o 4) (get_vec (f:=v32) (V:=s2.2) (by decide:4<8)) isAgg29) (.v rfl (V_idxArr (i:=5) rfl rfl underlying30 inf29 rfl (by decide) (by decide) (k:=5) (k01 _)) (.v rfl (V_load rfl (.o 4) (get_vec (f:=v32) (V:=s2.2) (by decide:5<8)) isAgg29) (.v rfl (V_bin rfl rfl (fun w=>and32 w (vg s2.2 4) (vg s2.2 5))) (.v rfl (V_idxArr (i:=4) rfl rfl underlying30 inf29 rfl (by decide) (by decide) (k:=4) (k01 _)) (.v rfl (V_load rfl (.o 4) (get_vec (f:=v32) (V:=s2.2) (by decide:4<8)) isAgg29) (.v rfl (V_un rfl (fun w=>not32 w (vg s2.2 4))) (.v rfl (V_idxArr (i:=6) rfl rfl underlying30 inf29 rfl (by decide) (by decide) (k:=6) (k01 _)) (.v rfl (V_load rfl (.o 4) (get_vec (f:=v32) (V:=s2.2) (by decide:6<8)) isAgg29) (.v rfl (V_bin rfl rfl (fun w=>and32 w (~~~(vg s2.2 4)) (vg s2.2 6))) (.v rfl (V_bin rfl rfl (fun w=>xor32 w ((vg s2.2 4) &&& (vg s2.2 5)) ((~~~(vg s2.2 4)) &&& (vg s2.2 6)))) (.v rfl (V_bin rfl rfl (fun w=>add32 w ((vg s2.2 7)+a_2) (((vg s2.2 4) &&& (vg s2.2 5)) ^^^ ((~~~(vg s2.2 4)) &&& (vg s2.2 6))))) (.v rfl (V_move rfl) (.v rfl (V_idxArr (i:=s2.1) rfl rfl underlying137 inf29 rfl h15.1 h15.2 (k:=(s2.1).toNat) (k01 _)) (.v rfl (V_load rfl (.o 2) (get_vec (f:=v32) (V:=m_1) (toNat_lt h15.1 h15.2)) isAgg29) (.v rfl (V_bin rfl rfl (fun w=>add32 w (((vg s2.2 7)+a_2)+(((vg s2.2 4) &&& (vg s2.2 5)) ^^^ ((~~~(vg s2.2 4)) &&& (vg s2.2 6)))) (vg m_1 ((s2.1).toNat)))) (.v rfl (V_move rfl) (.v rfl (V_idxArr (i:=s2.1) rfl rfl underlying137 inf29 rfl h16.1 h16.2 (k:=(s2.1).toNat) (k01 _)) (.v rfl (V_load rfl (.o 3) (get_vec (f:=v32) (V:=t_2) (toNat_lt h16.1 h16.2)) isAgg29) (.v rfl (V_bin rfl rfl (fun w=>add32 w ((((vg s2.2 7)+a_2)+(((vg s2.2 4) &&& (vg s2.2 5)) ^^^ ((~~~(vg s2.2 4)) &&& (vg s2.2 6))))+(vg m_1 ((s2.1).toNat))) (vg t_2 ((s2.1).toNat)))) .nil))))))))))))))))))))))))) .nil (by kernel_rfl) rfl (fun γ=>?_)
     refine TA_cut [(147,v32 (((((vg s2.2 7)+a_2)+(((vg s2.2 4) &&& (vg s2.2 5)) ^^^ ((~~~(vg s2.2 4)) &&& (vg s2.2 6))))+(vg m_1 ((s2.1).toNat)))+(vg t_2 ((s2.1).toNat)))),(2,ptr (some (b1,0)) 0),(4,ptr (some (b2,0)) 0),(5,ptr (some (b3,0)) 0),(6,ptr (some (b4,0)) 0),(11,ptr (some (b6,0)) 0),(12,vi s2.1)] [⟨some (b1,0),e32 h.toList⟩,⟨some (b2,0),e32 ((replicate 8 0#32).toList)⟩,⟨some (b3,0),e32 m_1.toList⟩,⟨some (b4,0),e32 t_2.toList⟩,⟨some (b6,0),e32 s2.2.toList⟩] ⟨rfl,rfl,rfl,rfl,rfl,rfl,rfl,trivial⟩ rfl ?_
     refine TA_all (rs:=[25]) (by kernel_rfl) rfl ?_
     refine ⟨?_,trivial⟩
     refine TO_v (is:=[]) (done':=dn 26 67108863) rfl rfl rfl rfl (by kernel_rfl) (V_assign rfl) (fun _=>rfl) ?_
     refine TA_re (d:=14) (v:=v32 (((((vg s2.2 7)+a_2)+(((vg s2.2 4) &&& (vg s2.2 5)) ^^^ ((~~~(vg s2.2 4)) &&& (vg s2.2 6))))+(vg m_1 ((s2.1).toNat)))+(vg t_2 ((s2.1).toNat)))) (v':=v32 t_4) rfl (congrArg v32 ht_4) ?_
     refine TA_done (by kernel_rfl) ?_ 0
     refine TX_next (TC_seq ?_)
     obtain ⟨r_8,hr_8,H⟩:=bind_elim H
     obtain ⟨r_9,hr_9,H⟩:=bind_elim H
     obtain ⟨r_10,hr_10,H⟩:=bind_elim H
     obtain ⟨b7,hb7,H⟩:=ltt_elim H
     refine TA_begin [] 12 (by kernel_rfl) (N:=12) rfl ?_
     refine TA_mix (is:=[]) (done':=dn 12 2047) [itV 0 148 (ptr (some (b6,0)) 0) [],itV 1 149 (v32 (vg s2.2 0)) [0],itV 2 150 (v32 r_8) [1],itV 3 151 (ptr (some (b6,0)) 0) [],itV 4 152 (v32 (vg s2.2 0)) [3],itV 5 153 (v32 r_9) [4],itV 6 154 (v32 (r_8 ^^^ r_9)) [5,2],itV 7 155 (ptr (some (b6,0)) 0) [],itV 8 156 (v32 (vg s2.2 0)) [7],itV 9 157 (v32 r_10) [8],itV 10 158 (v32 ((r_8 ^^^ r_9) ^^^ r_10)) [6,9]] [] 1 (by kernel_rfl) (QP.then (QP.block (QP.then (QP.then (QP.block (QP.then QP.body)))))) (by kernel_rfl) rfl (.v rfl (V_idxArr (i:=0) rfl rfl underlying30 inf29 rfl (by decide) (by decide) (k:=0) (k01 _)) (.v rfl (V_load rfl (.o 4) (get_vec (f:=v32) (V:=s2.2) (by decide:0<8)) isAgg29) (.e rfl (E_cu (F103_calls (vg s2.2 0) 2 r_8 hr_8) call103 .z) (.v rfl (V_idxArr (i:=0) rfl rfl underlying30 inf29 rfl (by decide) (by decide) (k:=0) (k01 _)) (.v rfl (V_load rfl (.o 4) (get_vec (f:=v32) (V:=s2.2) (by decide:0<8)) isAgg29) (.e rfl (E_cu (F103_calls (vg s2.2 0) 13 r_9 hr_9) call103 .z) (.v rfl (V_bin rfl rfl (fun w=>xor32 w r_8 r_9)) (.v rfl (V_idxArr (i:=0) rfl rfl underlying30 inf29 rfl (by decide) (by decide) (k:=0) (k01 _)) (.v rfl (V_load rfl (.o 4) (get_vec (f:=v32) (V:=s2.2) (by decide:0<8)) isAgg29) (.e rfl (E_cu (F103_calls (vg s2.2 0) 22 r_10 hr_10) call103 .z) (.v rfl (V_bin rfl rfl (fun w=>xor32 w (r_8 ^^^ r_9) r_10)) .nil))))))))))) .nil (by kernel_rfl) rfl (fun γ=>?_)
     refine TA_cut [(158,v32 ((r_8 ^^^ r_9) ^^^ r_10)),(14,v32 t_4),(2,ptr (some (b1,0)) 0),(4,ptr (some (b2,0)) 0),(5,ptr (some (b3,0)) 0),(6,ptr (some (b4,0)) 0),(11,ptr (some (b6,0)) 0),(12,vi s2.1)] [⟨some (b1,0),e32 h.toList⟩,⟨some (b2,0),e32 ((replicate 8 0#32).toList)⟩,⟨some (b3,0),e32 m_1.toList⟩,⟨some (b4,0),e32 t_2.toList⟩,⟨some (b6,0),e32 s2.2.toList⟩] ⟨rfl,rfl,rfl,rfl,rfl,rfl,rfl,rfl,trivial⟩ rfl ?_
     refine TA_all (rs:=[11]) (by kernel_rfl) rfl ?_
     refine ⟨?_,trivial⟩
     refine TO_v (is:=[]) (done':=dn 12 4095) rfl rfl rfl rfl (by kernel_rfl) (V_assign rfl) (fun _=>rfl) ?_
     refine TA_re (d:=15) (v:=v32 ((r_8 ^^^ r_9) ^^^ r_10)) (v':=v32 b7) rfl (congrArg v32 hb7) ?_
     refine TA_done (by kernel_rfl) ?_ 0
     refine TX_next (TC_seq (TC_region (TVm ?_)))
     refine TLv (V_idxArr (i:=0) rfl rfl underlying30 inf29 rfl (by decide) (by decide) (k:=0) (k01 _)) ?_
     refine TLv (V_load rfl (.o 4) (get_vec (f:=v32) (V:=s2.2) (by decide:0<8)) isAgg29) ?_
     refine TLv (V_idxArr (i:=1) rfl rfl underlying30 inf29 rfl (by decide) (by decide) (k:=1) (k01 _)) ?_
     refine TLv (V_load rfl (.o 4) (get_vec (f:=v32) (V:=s2.2) (by decide:1<8)) isAgg29) ?_
     refine TLv (V_bin rfl rfl (fun w=>and32 w (vg s2.2 0) (vg s2.2 1))) ?_
     refine TLv (V_idxArr (i:=0) rfl rfl underlying30 inf29 rfl (by decide) (by decide) (k:=0) (k01 _)) ?_
     refine TLv (V_load rfl (.o 4) (get_vec (f:=v32) (V:=s2.2) (by decide:0<8)) isAgg29) ?_
     refine TLv (V_idxArr (i:=2) rfl rfl underlying30 inf29 rfl (by decide) (by decide) (k:=2) (k01 _)) ?_
     refine TLv (V_load rfl (.o 4) (get_vec (f:=v32) (V:=s2.2) (by decide:2<8)) isAgg29) ?_
     refine TLv (V_bin rfl rfl (fun w=>and32 w (vg s2.2 0) (vg s2.2 2))) ?_
     refine TLv (V_bin rfl rfl (fun w=>xor32 w ((vg s2.2 0) &&& (vg s2.2 1)) ((vg s2.2 0) &&& (vg s2.2 2)))) ?_
     refine TLv (V_idxArr (i:=1) rfl rfl underlying30 inf29 rfl (by decide) (by decide) (k:=1) (k01 _)) ?_
     refine TLv (V_load rfl (.o 4) (get_vec (f:=v32) (V:=s2.2) (by decide:1<8)) isAgg29) ?_
     refine TLv (V_idxArr (i:=2) rfl rfl underlying30 inf29 rfl (by decide) (by decide) (k:=2) (k01 _)) ?_
     refine TLv (V_load rfl (.o 4) (get_vec (f:=v32) (V:=s2.2) (by decide:2<8)) isAgg29) ?_
     refine TLv (V_bin rfl rfl (fun w=>and32 w (vg s2.2 1) (vg s2.2 2))) ?_
     refine TLv (V_bin rfl rfl (fun w=>xor32 w (((vg s2.2 0) &&& (vg s2.2 1)) ^^^ ((vg s2.2 0) &&& (vg s2.2 2))) ((vg s2.2 1) &&& (vg s2.2 2)))) ?_
     refine TLv (V_bin rfl rfl (fun w=>add32 w b7 ((((vg s2.2 0) &&& (vg s2.2 1)) ^^^ ((vg s2.2 0) &&& (vg s2.2 2))) ^^^ ((vg s2.2 1) &&& (vg s2.2 2))))) ?_
     refine TVa ?_
     obtain ⟨u1,hu1,H⟩:=ltt_elim H
     refine TLr 16 (congrArg v32 hu1) ?_
     refine TL_nil (TX_next (TC.sub (m':=[(2,_),(4,_),(5,_),(6,_),(11,_),(12,_),(14,_),(16,_)]) ⟨rfl,rfl,rfl,rfl,rfl,rfl,rfl,rfl,trivial⟩ ?_))
     refine TC_region (TVm ?_)
     refine TVm ?_
     refine TLv (V_bin rfl rfl (fun w=>add32 w t_4 u1)) ?_
     refine TLv (V_idxArr (i:=0) rfl rfl underlying30 inf29 rfl (by decide) (by decide) (k:=0) (k01 _)) ?_
     refine TLv (V_load rfl (.o 4) (get_vec (f:=v32) (V:=s2.2) (by decide:0<8)) isAgg29) ?_
     refine TLv (V_idxArr (i:=1) rfl rfl underlying30 inf29 rfl (by decide) (by decide) (k:=1) (k01 _)) ?_
     refine TLv (V_load rfl (.o 4) (get_vec (f:=v32) (V:=s2.2) (by decide:1<8)) isAgg29) ?_
     refine TLv (V_idxArr (i:=2) rfl rfl underlying30 inf29 rfl (by decide) (by decide) (k:=2) (k01 _)) ?_
     refine TLv (V_load rfl (.o 4) (get_vec (f:=v32) (V:=s2.2) (by decide:2<8)) isAgg29) ?_
     refine TLv (V_idxArr (i:=3) rfl rfl underlying30 inf29 rfl (by decide) (by decide) (k:=3) (k01 _)) ?_
     refine TLv (V_load rfl (.o 4) (get_vec (f:=v32) (V:=s2.2) (by decide:3<8)) isAgg29) ?_
     refine TVm ?_
     refine TLv (V_bin rfl rfl (fun w=>add32 w (vg s2.2 3) t_4)) ?_
     refine TLv (V_idxArr (i:=4) rfl rfl underlying30 inf29 rfl (by decide) (by decide) (k:=4) (k01 _)) ?_
     refine TLv (V_load rfl (.o 4) (get_vec (f:=v32) (V:=s2.2) (by decide:4<8)) isAgg29) ?_
     refine TLv (V_idxArr (i:=5) rfl rfl underlying30 inf29 rfl (by decide) (by decide) (k:=5) (k01 _)) ?_
     refine TLv (V_load rfl (.o 4) (get_vec (f:=v32) (V:=s2.2) (by decide:5<8)) isAgg29) ?_
     refine TLv (V_idxArr (i:=6) rfl rfl underlying30 inf29 rfl (by decide) (by decide) (k:=6) (k01 _)) ?_
     refine TLv (V_load rfl (.o 4) (get_vec (f:=v32) (V:=s2.2) (by decide:6<8)) isAgg29) ?_
     refine TLv (V_buildArr (pv:=[(0,v32 (t_4+u1)),(1,v32 (vg s2.2 0)),(2,v32 (vg s2.2 1)),(3,v32 (vg s2.2 2)),(4,v32 ((vg s2.2 3)+t_4)),(5,v32 (vg s2.2 4)),(6,v32 (vg s2.2 5)),(7,v32 (vg s2.2 6))]) rfl rfl underlying30 inf30 inf29 rfl zer30 (cs:=e32 ((#v[t_4+u1,vg s2.2 0,vg s2.2 1,vg s2.2 2,(vg s2.2 3)+t_4,vg s2.2 4,vg s2.2 5,vg s2.2 6]:Vx 32 8).toList)) (by kernel_rfl)) ?_
     refine TLn (E_sv 4 inf30) (fun _=>?_)
     obtain ⟨m_4,hm_4,H⟩:=ltt_elim H
     refine TL_reE (j:=4) (A:=some (b6,0)) (cs:=e32 ((#v[t_4+u1,vg s2.2 0,vg s2.2 1,vg s2.2 2,(vg s2.2 3)+t_4,vg s2.2 4,vg s2.2 5,vg s2.2 6]:Vx 32 8).toList)) (cs':=e32 m_4.toList) rfl (congrArg (fun z:Vx 32 8=>e32 (Vector.toList z)) hm_4) ?_
     refine TL_nil (TX_block_normal (TX_next (TC_region (TVm ?_))))
     refine TLv (V_bin rfl rfl (fun w=>addI w s2.1 1)) ?_
     refine TVa ?_
     obtain ⟨i3,hi3,H⟩:=ltt_elim H
     refine TLr 12 (congrArg vi hi3) ?_
     refine TL_nil ?_
     obtain rfl:=sj H
     exact TXk [0,0,0,0,0] (hK (i3,m_4) rfl ())
    ·refine TC_exit (TX_then_exit (TX_then_exit ?_))
     obtain rfl:=sj H
     exact TXj [0,0,2] (hE s2.2 rfl ())
   ·intro g
    refine TX_block_exit (TX_next (TC_seq (TC_seq (TC_region (TVa ?_)))))
    refine TL_nil (TX_next (TC_block ?_))
    obtain ⟨t_5,Hl,H⟩:=bind_elim H
    refine TC.sub (m':=[(2,_),(4,_),(11,_),(17,_)]) ⟨rfl,rfl,rfl,rfl,trivial⟩ ?_
    refine TC.pull (is:=[0,0,0]) (L':=[_,_,_]) rfl ?_
    refine TC_loopL (id:=6) (body:=(halberdref1_block256.b3 t_3)) (σ:=Int × Vx 32 8) (Γ:=Unit) (Γx:=Unit) (fun s3 g3_=>[(2,ptr (some (b1,0)) 0),(4,ptr (some (b2,0)) 0),(11,ptr (some (b6,0)) 0),(17,vi s3.1)]) (fun s3 g3_=>[⟨some (b1,0),e32 s3.2.toList⟩,⟨some (b2,0),e32 ((replicate 8 0#32).toList)⟩,⟨some (b6,0),e32 t_3.toList⟩]) (fun t g=>[(2,ptr (some (b1,0)) 0),(4,ptr (some (b2,0)) 0)]) (fun t g=>[⟨some (b1,0),e32 t.toList⟩,⟨some (b2,0),e32 ((replicate 8 0#32).toList)⟩]) ?_ BIG (0,h) () t_5 Hl ?_
    ·intro s3 g3_ r1 H K hK hE
     unfold halberdref1_block256.b3 at H
     refine TC_seq (TC_seq (TC_region (TVm ?_)))
     refine TLv (V_bin rfl rfl (fun w=>lssI w s3.1 8)) ?_
     refine TL_nil (TX_next (TCd H (fun hc H=>?_) (fun hc H=>?_)))
     ·refine TC_skip (TX_next (TC_seq (TC_block ?_)))
      obtain ⟨h17,H⟩:=if_elim H
      obtain ⟨h18,H⟩:=if_elim H
      obtain ⟨h19,H⟩:=if_elim H
      obtain ⟨m_5,hm_5,H⟩:=ltt_elim H
      refine TA_begin [] 10 (by kernel_rfl) (N:=10) rfl ?_
      refine TA_mix (is:=[]) (done':=dn 10 511) [itV 0 202 (vi s3.1) [],itV 1 203 (vi s3.1) [],itV 2 204 (ptr (some (b1,0)) ((s3.1).toNat)) [1],itV 3 205 (v32 (vg s3.2 ((s3.1).toNat))) [2],itV 4 206 (vi s3.1) [],itV 5 207 (ptr (some (b6,0)) ((s3.1).toNat)) [4],itV 6 208 (v32 (vg t_3 ((s3.1).toNat))) [5],itV 7 209 (v32 ((vg s3.2 ((s3.1).toNat))+(vg t_3 ((s3.1).toNat)))) [6,3],itV 8 210 (ptr (some (b1,0)) ((s3.1).toNat)) [0]] [] 1 (by kernel_rfl) (QP.block (QP.then (QP.then (QP.block (QP.then QP.body))))) (by kernel_rfl) rfl (.v rfl (V_move rfl) (.v rfl (V_move rfl) (.v rfl (V_idxArr (i:=s3.1) rfl rfl underlying30 inf29 rfl h17.1 h17.2 (k:=(s3.1).toNat) (k01 _)) (.v rfl (V_load rfl (.o 0) (get_vec (f:=v32) (V:=s3.2) (toNat_lt h17.1 h17.2)) isAgg29) (.v rfl (V_move rfl) (.v rfl (V_idxArr (i:=s3.1) rfl rfl underlying30 inf29 rfl h18.1 h18.2 (k:=(s3.1).toNat) (k01 _)) (.v rfl (V_load rfl (.o 2) (get_vec (f:=v32) (V:=t_3) (toNat_lt h18.1 h18.2)) isAgg29) (.v rfl (V_bin rfl rfl (fun w=>add32 w (vg s3.2 ((s3.1).toNat)) (vg t_3 ((s3.1).toNat)))) (.v rfl (V_idxArr (i:=s3.1) rfl rfl underlying30 inf29 rfl h19.1 h19.2 (k:=(s3.1).toNat) (k01 _)) .nil))))))))) .nil (by kernel_rfl) rfl (fun γ=>?_)
      refine TA_cut [(210,ptr (some (b1,0)) ((s3.1).toNat)),(209,v32 ((vg s3.2 ((s3.1).toNat))+(vg t_3 ((s3.1).toNat)))),(2,ptr (some (b1,0)) 0),(4,ptr (some (b2,0)) 0),(11,ptr (some (b6,0)) 0),(17,vi s3.1)] [⟨some (b1,0),e32 s3.2.toList⟩,⟨some (b2,0),e32 ((replicate 8 0#32).toList)⟩,⟨some (b6,0),e32 t_3.toList⟩] ⟨rfl,rfl,rfl,rfl,rfl,rfl,trivial⟩ rfl ?_
      refine TA_all (rs:=[9]) (by kernel_rfl) rfl ?_
      refine ⟨?_,trivial⟩
      refine TO_n (is:=[]) (done':=dn 10 1023) rfl rfl rfl (by kernel_rfl) (E_store (j:=0) rfl rfl inf29 rfl rfl rfl (by simpa using (toNat_lt h19.1 h19.2)) (cs':=e32 ((vp s3.2 ((s3.1).toNat) ((vg s3.2 ((s3.1).toNat))+(vg t_3 ((s3.1).toNat)))).toList)) set_vec) (fun _ _=>rfl) (fun _=>?_)
      refine TA_reE (j:=0) (A:=some (b1,0)) (cs:=e32 ((vp s3.2 ((s3.1).toNat) ((vg s3.2 ((s3.1).toNat))+(vg t_3 ((s3.1).toNat)))).toList)) (cs':=e32 m_5.toList) rfl (congrArg (fun z:Vx 32 8=>e32 (Vector.toList z)) hm_5) ?_
      refine TA_done (by kernel_rfl) ?_ 0
      refine TX_block_normal (TX_next (TC_region (TVm ?_)))
      refine TLv (V_bin rfl rfl (fun w=>addI w s3.1 1)) ?_
      refine TVa ?_
      obtain ⟨i4,hi4,H⟩:=ltt_elim H
      refine TLr 17 (congrArg vi hi4) ?_
      refine TL_nil ?_
      obtain rfl:=sj H
      exact TXk [0,0,0] (hK (i4,m_5) rfl ())
     ·refine TC_exit (TX_then_exit (TX_then_exit ?_))
      obtain rfl:=sj H
      exact TXj [0,0] (hE s3.2 rfl ())
    ·intro g
     refine TX_block_exit (TX_next (TC_seq (TC_region (TLv (V_lag (.o 0) isAgg30 inf30) ?_))))
     refine TLn (E_sv (vs:=e32 t_5.toList) 1 inf30) (fun _=>?_)
     refine TL_nil (TX_next (TC_ret ?_))
     obtain rfl:=sj H
     exact TXr (vs:=[_]) rfl ⟨(Res_agg (n:=8) rfl (by simp) (.o 1) isAgg30 inf30 rfl (lenV (f:=v32) t_5)),trivial⟩
end Go.Proofs
end

section
namespace Go.Proofs
open Go Go.Kx
open TryI Try
def halberdref1_turn (x:BitVec 64) (k:Int):Option (BitVec 64) :=
 if 0≤k then (if 0≤w64 (64 - k) then (ltt ((x >>> (k).toNat) ||| (x <<< (w64 (64 - k)).toNat)) fun (x1:BitVec 64)=>(some x1)) else none) else none
end Go.Proofs
end
