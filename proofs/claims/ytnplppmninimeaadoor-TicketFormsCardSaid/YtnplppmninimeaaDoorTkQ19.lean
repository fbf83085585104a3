/-
  Part 19 of the proof of what several laws share.
-/
import Derived.Test.YtnplppmninimeaaDoorTkQ1
import Derived.Test.YtnplppmninimeaaDoorTkQ2
import Derived.Test.YtnplppmninimeaaDoorTkQ3
import Derived.Test.YtnplppmninimeaaDoorTkQ4
import Derived.Test.YtnplppmninimeaaDoorTkQ5
import Derived.Test.YtnplppmninimeaaDoorTkQ6
import Derived.Test.YtnplppmninimeaaDoorTkQ7
import Derived.Test.YtnplppmninimeaaDoorTkQ8
import Derived.Test.YtnplppmninimeaaDoorTkQ9
import Derived.Test.YtnplppmninimeaaDoorTkQ10
import Derived.Test.YtnplppmninimeaaDoorTkQ11
import Derived.Test.YtnplppmninimeaaDoorTkQ12
import Derived.Test.YtnplppmninimeaaDoorTkQ13
import Derived.Test.YtnplppmninimeaaDoorTkQ14
import Derived.Test.YtnplppmninimeaaDoorTkQ15
import Derived.Test.YtnplppmninimeaaDoorTkQ16
import Derived.Test.YtnplppmninimeaaDoorTkQ17
import Derived.Test.YtnplppmninimeaaDoorTkQ18
set_option linter.unusedVariables false
set_option linter.unusedSimpArgs false
section
namespace Go.Proofs
open Go Go.Kx
open TrydI Tryd
def halberdref19_SealTicket (key:Str) (nonce:Str) (t_Suite:Int) (t_Secret:Str) (t_Made:Int) (t_Add:Int):Option (Str × Int) :=
 (halberdref19_Bits t_Suite).bind fun (r_1:Int × Int)=>((if r_1.2 ≠ 0 then (some true) else (if ((key).length:Int) ≠ 32 then (some true) else (if ((nonce).length:Int) ≠ 12 then (some true) else (if ((t_Secret).length:Int) ≠ (w64 (r_1.1.tdiv 8)) then (some true) else (if t_Made<0 then (some true) else (if 4294967295<t_Made then (some true) else (if t_Add<0 then (some true) else (some (decide (4294967295<t_Add)))))))))).bind fun (j1:Bool)=>(if j1=true then (some (([]:Str),2000)) else ((halberdref1_Be t_Suite 2).bind fun (r_2:Str)=>((halberdref1_Be t_Made 4).bind fun (r_3:Str)=>(if (r_2).length+(r_3).length≤4611686018427387904 then ((halberdref1_Be t_Add 4).bind fun (r_4:Str)=>(if (r_2++r_3).length+(r_4).length≤4611686018427387904 then (if ((r_2++r_3)++r_4).length+(t_Secret).length≤4611686018427387904 then ((halberdref4_GcmSeal key nonce ([]:Str) (((r_2++r_3)++r_4)++t_Secret)).bind fun (r_5:Str × Int)=>(if (nonce).length+(r_5.1).length≤4611686018427387904 then (ltt (nonce++r_5.1) fun (x1:Str)=>(some (x1,0))) else none)) else none) else none)) else none)))))
set_option maxHeartbeats 4000000 in
set_option maxRecDepth 20000 in
theorem F8_calls (key:Str) (nonce:Str) (t_Suite:Int) (t_Secret:Str) (t_Made:Int) (t_Add:Int) (r:Str × Int) (H:halberdref19_SealTicket key nonce t_Suite t_Secret t_Made t_Add=some r) :
  Does Tryd.prog 8 [vs key,vs nonce,aG [(1,[vi t_Suite]),(1,[vs t_Secret]),(1,[vi t_Made]),(1,[vi t_Add])]] [] [] (Γ:=Unit) (fun g=>Value.tuple [vs r.1,vi r.2].toArray) (fun g=>[]):=by
 intro w hmem hro hd
 refine calls_of (N:=81) (m0:=[(0,vs key),(1,vs nonce),(2,aG [(1,[vi t_Suite]),(1,[vs t_Secret]),(1,[vi t_Made]),(1,[vi t_Add])])]) func8 rfl ntmps8 (argM_ok [vs key,vs nonce,aG [(1,[vi t_Suite]),(1,[vs t_Secret]),(1,[vi t_Made]),(1,[vi t_Add])]]) rfl hmem hro hd ?_
 unfold halberdref19_SealTicket at H
 refine TC_seq (TC_region (TLe (E_boxP [(1,[vi t_Suite]),(1,[vs t_Secret]),(1,[vi t_Made]),(1,[vi t_Add])] rfl rfl ⟨rfl,rfl,rfl,rfl,trivial⟩) (fun b1=>?_)))
 refine TVa ?_
 refine TVa ?_
 refine TL_nil (TX_next (TC_seq (TC_region (TLv (V_fieldE rfl underlying23 rfl rfl inf3 rfl (v:=ptr (some (b1,0)) 0) rfl) ?_))))
 refine TLv (V_load rfl (.o 0) rfl isAgg3) ?_
 obtain ⟨r_1,hr_1,H⟩:=bind_elim H
 refine TLe (E_c0 (F13_calls t_Suite r_1 hr_1) call13 .z) (fun g_1=>?_)
 refine TVm ?_
 refine TLv V_ex ?_
 refine TLv V_ex ?_
 refine TVa ?_
 refine TVa ?_
 refine TL_nil (TX_next (TC_seq (TC_seq (TC_region (TVm ?_)))))
 refine TLv (V_bin rfl rfl (fun w=>neqI w r_1.2 0)) ?_
 refine TVm ?_
 obtain ⟨j1,Hj,H⟩:=bind_elim H
 refine TL_join (Γ:=Unit) (fun gj1=>[(0,vs key),(1,vs nonce),(5,ptr (some (b1,0)) 0),(57,vb j1)]) (fun gj1=>[⟨some (b1,0),[vi t_Suite]⟩,⟨some (b1,1),[vs t_Secret]⟩,⟨some (b1,2),[vi t_Made]⟩,⟨some (b1,3),[vi t_Add]⟩]) ?_ ?_
 ·intro gj1
  refine TX_next (TCb H (fun hc H=>?_) (fun hc H=>?_))
  ·refine TC_seq (TC_region (TVa ?_))
   refine TVa ?_
   refine TL_nil (TX_next (TC_ret (TX_then_ret ?_)))
   obtain rfl:=sj H
   exact TX2
  ·refine TC_skip (TX_next (TC_seq ?_))
   obtain ⟨r_2,hr_2,H⟩:=bind_elim H
   obtain ⟨r_3,hr_3,H⟩:=bind_elim H
   obtain ⟨h1,H⟩:=if_elim H
   obtain ⟨r_4,hr_4,H⟩:=bind_elim H
   obtain ⟨h2,H⟩:=if_elim H
   obtain ⟨h3,H⟩:=if_elim H
   obtain ⟨r_5,hr_5,H⟩:=bind_elim H
   refine TA_begin [] 22 (by kernel_rfl) (N:=22) rfl ?_
   refine TA_mix (is:=[]) (done':=dn 22 4194303) [itV 0 59 (vs key) [],itV 1 60 (vs nonce) [],itV 2 61 (ptr (some (b1,0)) 0) [],itV 3 62 (vi t_Suite) [2],itV 4 63 (vs r_2) [3],itV 5 64 (ptr (some (b1,2)) 0) [],itV 6 65 (vi t_Made) [5],itV 7 66 (vs r_3) [6],itV 8 67 (vs (r_2++r_3)) [7,4],itV 9 68 (ptr (some (b1,3)) 0) [],itV 10 69 (vi t_Add) [9],itV 11 70 (vs r_4) [10],itV 12 71 (vs ((r_2++r_3)++r_4)) [8,11],itV 13 72 (ptr (some (b1,1)) 0) [],itV 14 73 (vs t_Secret) [13],itV 15 74 (vs (((r_2++r_3)++r_4)++t_Secret)) [14,12],itV 16 75 (Value.tuple [vs r_5.1,vi r_5.2].toArray) [15,0,1],itV 17 58 (Value.tuple [vs r_5.1,vi r_5.2].toArray) [16],itV 18 76 (vs r_5.1) [17],itV 19 77 (vi r_5.2) [17],itV 20 10 (vs r_5.1) [18],itV 21 11 (vi r_5.2) [19]] [] 0 (by kernel_rfl) (QP.then QP.body) (by kernel_rfl) rfl (.v rfl (V_move rfl) (.v rfl (V_move rfl) (.v rfl (V_fe underlying23 inf3) (.v rfl (V_load rfl (.o 0) rfl isAgg3) (.e rfl (E_cu (F18_calls t_Suite 2 r_2 hr_2) call18 .z) (.v rfl (V_fe underlying23 inf3) (.v rfl (V_load rfl (.o 2) rfl isAgg3) (.e rfl (E_cu (F18_calls t_Made 4 r_3 hr_3) call18 .z) (.v rfl (V_bin rfl rfl (fun w=>addS w r_2 r_3 h1)) (.v rfl (V_fe underlying23 inf3) (.v rfl (V_load rfl (.o 3) rfl isAgg3) (.e rfl (E_cu (F18_calls t_Add 4 r_4 hr_4) call18 .z) (.v rfl (V_bin rfl rfl (fun w=>addS w (r_2++r_3) r_4 h2)) (.v rfl (V_fe underlying23 inf9) (.v rfl (V_load rfl (.o 1) rfl isAgg9) (.v rfl (V_bin rfl rfl (fun w=>addS w ((r_2++r_3)++r_4) t_Secret h3)) (.e rfl (E_cu (F15_calls key nonce ([]:Str) (((r_2++r_3)++r_4)++t_Secret) r_5 hr_5) call15 .z) (.v rfl (V_move rfl) (.v rfl V_ex (.v rfl V_ex (.v rfl (V_assign rfl) (.v rfl (V_assign rfl) .nil)))))))))))))))))))))) .nil (by kernel_rfl) rfl (fun γ=>?_)
   refine TA_cut [(10,vs r_5.1),(1,vs nonce)] [⟨some (b1,0),[vi t_Suite]⟩,⟨some (b1,1),[vs t_Secret]⟩,⟨some (b1,2),[vi t_Made]⟩,⟨some (b1,3),[vi t_Add]⟩] ⟨rfl,rfl,trivial⟩ rfl ?_
   refine TA_done (by kernel_rfl) ?_ 0
   refine TX_next (TC_seq (TC_region (TVm ?_)))
   refine TVm ?_
   obtain ⟨h4,H⟩:=if_elim H
   refine TLv (V_bin rfl rfl (fun w=>addS w nonce r_5.1 h4)) ?_
   refine TVa ?_
   obtain ⟨x1,hx1,H⟩:=ltt_elim H
   refine TLr 6 (congrArg vs hx1) ?_
   refine TVa ?_
   refine TL_nil (TX_next (TC_ret ?_))
   obtain rfl:=sj H
   exact TX2
 ·intro hJ
  replace H:=Hj
  refine TFd (d:=20) H (fun hc H=>?_) (fun hc H=>?_)
  ·refine TLs ?_
   refine TLs ?_
   refine TLs ?_
   refine TVt ?_
   refine TVm ?_
   refine TLs ?_
   refine TLs ?_
   refine TLs ?_
   refine TVt ?_
   refine TVm ?_
   refine TLs ?_
   refine TLs ?_
   refine TLs ?_
   refine TLs ?_
   refine TLs ?_
   refine TLs ?_
   refine TVt ?_
   refine TVm ?_
   refine TLs ?_
   refine TLs ?_
   refine TLs ?_
   refine TVt ?_
   refine TVm ?_
   refine TLs ?_
   refine TLs ?_
   refine TLs ?_
   refine TVt ?_
   refine TVm ?_
   refine TLs ?_
   refine TLs ?_
   refine TLs ?_
   refine TVt ?_
   refine TVm ?_
   refine TLs ?_
   refine TLs ?_
   refine TLs ?_
   refine TVt ?_
   refine TL_nil ?_
   obtain rfl:=sj H
   exact TXj [0,0,0,0] (hJ ())
  ·refine TLw (V_move rfl) ?_
   refine TLw (V_len_str rfl underlying9) ?_
   refine TLw (V_bin rfl rfl (fun w=>neqI w ((key).length:Int) 32)) ?_
   refine TVf ?_
   refine TVm ?_
   refine TFd (d:=25) H (fun hc H=>?_) (fun hc H=>?_)
   ·refine TLs ?_
    refine TLs ?_
    refine TLs ?_
    refine TVt ?_
    refine TVm ?_
    refine TLs ?_
    refine TLs ?_
    refine TLs ?_
    refine TLs ?_
    refine TLs ?_
    refine TLs ?_
    refine TVt ?_
    refine TVm ?_
    refine TLs ?_
    refine TLs ?_
    refine TLs ?_
    refine TVt ?_
    refine TVm ?_
    refine TLs ?_
    refine TLs ?_
    refine TLs ?_
    refine TVt ?_
    refine TVm ?_
    refine TLs ?_
    refine TLs ?_
    refine TLs ?_
    refine TVt ?_
    refine TVm ?_
    refine TLs ?_
    refine TLs ?_
    refine TLs ?_
    refine TVt ?_
    refine TL_nil ?_
    obtain rfl:=sj H
    exact TXj [0,0,0,0] (hJ ())
   ·refine TLw (V_move rfl) ?_
    refine TLw (V_len_str rfl underlying9) ?_
    refine TLw (V_bin rfl rfl (fun w=>neqI w ((nonce).length:Int) 12)) ?_
    refine TVf ?_
    refine TVm ?_
    refine TFd (d:=30) H (fun hc H=>?_) (fun hc H=>?_)
    ·refine TLs ?_
     refine TLs ?_
     refine TLs ?_
     refine TLs ?_
     refine TLs ?_
     refine TLs ?_
     refine TVt ?_
     refine TVm ?_
     refine TLs ?_
     refine TLs ?_
     refine TLs ?_
     refine TVt ?_
     refine TVm ?_
     refine TLs ?_
     refine TLs ?_
     refine TLs ?_
     refine TVt ?_
     refine TVm ?_
     refine TLs ?_
     refine TLs ?_
     refine TLs ?_
     refine TVt ?_
     refine TVm ?_
     refine TLs ?_
     refine TLs ?_
     refine TLs ?_
     refine TVt ?_
     refine TL_nil ?_
     obtain rfl:=sj H
     exact TXj [0,0,0,0] (hJ ())
    ·refine TLw (V_fieldE rfl underlying23 rfl rfl inf9 rfl (v:=ptr (some (b1,1)) 0) rfl) ?_
     refine TLw (V_load rfl (.o 1) rfl isAgg9) ?_
     refine TLw (V_len_str rfl underlying9) ?_
     refine TLw (V_move rfl) ?_
     refine TLw (V_bin rfl rfl (fun w=>quoI w r_1.1 8 (by decide))) ?_
     refine TLw (V_bin rfl rfl (fun w=>neqI w ((t_Secret).length:Int) (w64 (r_1.1.tdiv 8)))) ?_
     refine TVf ?_
     refine TVm ?_
     refine TFd (d:=38) H (fun hc H=>?_) (fun hc H=>?_)
     ·refine TLs ?_
      refine TLs ?_
      refine TLs ?_
      refine TVt ?_
      refine TVm ?_
      refine TLs ?_
      refine TLs ?_
      refine TLs ?_
      refine TVt ?_
      refine TVm ?_
      refine TLs ?_
      refine TLs ?_
      refine TLs ?_
      refine TVt ?_
      refine TVm ?_
      refine TLs ?_
      refine TLs ?_
      refine TLs ?_
      refine TVt ?_
      refine TL_nil ?_
      obtain rfl:=sj H
      exact TXj [0,0,0,0] (hJ ())
     ·refine TLw (V_fieldE rfl underlying23 rfl rfl inf3 rfl (v:=ptr (some (b1,2)) 0) rfl) ?_
      refine TLw (V_load rfl (.o 2) rfl isAgg3) ?_
      refine TLw (V_bin rfl rfl (fun w=>lssI w t_Made 0)) ?_
      refine TVf ?_
      refine TVm ?_
      refine TFd (d:=43) H (fun hc H=>?_) (fun hc H=>?_)
      ·refine TLs ?_
       refine TLs ?_
       refine TLs ?_
       refine TVt ?_
       refine TVm ?_
       refine TLs ?_
       refine TLs ?_
       refine TLs ?_
       refine TVt ?_
       refine TVm ?_
       refine TLs ?_
       refine TLs ?_
       refine TLs ?_
       refine TVt ?_
       refine TL_nil ?_
       obtain rfl:=sj H
       exact TXj [0,0,0,0] (hJ ())
      ·refine TLw (V_fieldE rfl underlying23 rfl rfl inf3 rfl (v:=ptr (some (b1,2)) 0) rfl) ?_
       refine TLw (V_load rfl (.o 2) rfl isAgg3) ?_
       refine TLw (V_bin rfl rfl (fun w=>gtrI w t_Made 4294967295)) ?_
       refine TVf ?_
       refine TVm ?_
       refine TFd (d:=48) H (fun hc H=>?_) (fun hc H=>?_)
       ·refine TLs ?_
        refine TLs ?_
        refine TLs ?_
        refine TVt ?_
        refine TVm ?_
        refine TLs ?_
        refine TLs ?_
        refine TLs ?_
        refine TVt ?_
        refine TL_nil ?_
        obtain rfl:=sj H
        exact TXj [0,0,0,0] (hJ ())
       ·refine TLw (V_fieldE rfl underlying23 rfl rfl inf3 rfl (v:=ptr (some (b1,3)) 0) rfl) ?_
        refine TLw (V_load rfl (.o 3) rfl isAgg3) ?_
        refine TLw (V_bin rfl rfl (fun w=>lssI w t_Add 0)) ?_
        refine TVf ?_
        refine TVm ?_
        refine TFd (d:=53) H (fun hc H=>?_) (fun hc H=>?_)
        ·refine TLs ?_
         refine TLs ?_
         refine TLs ?_
         refine TVt ?_
         refine TL_nil ?_
         obtain rfl:=sj H
         exact TXj [0,0,0,0] (hJ ())
        ·refine TLw (V_fieldE rfl underlying23 rfl rfl inf3 rfl (v:=ptr (some (b1,3)) 0) rfl) ?_
         refine TLw (V_load rfl (.o 3) rfl isAgg3) ?_
         refine TLw (V_bin rfl rfl (fun w=>gtrI w t_Add 4294967295)) ?_
         refine TVf ?_
         refine TL_nil ?_
         obtain rfl:=sj H
         exact TXj [0,0,0,0] (hJ ())
end Go.Proofs
end

section
namespace Go.Proofs
open Go Go.Kx
open TrydI Tryd
def halberdref1_Num.b0 (s_:Str) (at_:Int) (size:Int) (s0:Int × Int):Option ((Int × Int) ⊕ (Int)) :=
 if s0.2<size then (if 0≤w64 (at_+s0.2)∧w64 (at_+s0.2)<((s_).length:Int) then (ltt (iop (· ||| ·) (shlI' s0.1 8) ((sg s_ (w64 (at_+s0.2))).toNat:Int)) fun (x1:Int)=>(ltt (w64 (s0.2+1)) fun (i1:Int)=>(some (.inl (x1,i1))))) else none) else (some (.inr s0.1))
def halberdref1_Num (s_:Str) (at_:Int) (size:Int):Option (Int × Int × Int) :=
 if at_<0 then (some (0,0,100)) else (if ((s_).length:Int)<at_ then (some (0,0,100)) else (if (w64 (((s_).length:Int) - at_))<size then (some (0,0,100)) else ((loop (halberdref1_Num.b0 s_ at_ size) BIG (0,0)).bind fun (t_1:Int)=>(ltt (w64 (at_+size)) fun (x2:Int)=>(some (t_1,x2,0))))))
set_option maxHeartbeats 4000000 in
set_option maxRecDepth 20000 in
theorem F22_calls (s_:Str) (at_:Int) (size:Int) (r:Int × Int × Int) (H:halberdref1_Num s_ at_ size=some r) :
  Does Tryd.prog 22 [vs s_,vi at_,vi size] [] [] (Γ:=Unit) (fun g=>Value.tuple [vi r.1,vi r.2.1,vi r.2.2].toArray) (fun g=>[]):=by
 intro w hmem hro hd
 refine calls_of (N:=45) (m0:=[(0,vs s_),(1,vi at_),(2,vi size)]) func22 rfl ntmps22 (argM_ok [vs s_,vi at_,vi size]) rfl hmem hro hd ?_
 unfold halberdref1_Num at H
 refine TC_seq (TC_region (TVa ?_))
 refine TVa ?_
 refine TVa ?_
 refine TL_nil (TX_next (TC_seq (TC_seq (TC_region (TVm ?_)))))
 refine TLv (V_bin rfl rfl (fun w=>lssI w at_ 0)) ?_
 refine TVm ?_
 refine TFd (d:=13) H (fun hc H=>?_) (fun hc H=>?_)
 ·refine TLs ?_
  refine TLs ?_
  refine TLs ?_
  refine TLs ?_
  refine TVt ?_
  refine TVm ?_
  refine TLs ?_
  refine TLs ?_
  refine TLs ?_
  refine TLs ?_
  refine TLs ?_
  refine TLs ?_
  refine TVt ?_
  refine TL_nil (TX_next (TC_cond_t rfl ?_))
  refine TC_seq (TC_region (TVa ?_))
  refine TVa ?_
  refine TVa ?_
  refine TL_nil (TX_next (TC_ret (TX_then_ret ?_)))
  obtain rfl:=sj H
  exact TXr (vs:=[_,_,_]) rfl ⟨rfl,rfl,rfl,trivial⟩
 ·refine TLw (V_move rfl) ?_
  refine TLw (V_move rfl) ?_
  refine TLw (V_len_str rfl underlying9) ?_
  refine TLw (V_bin rfl rfl (fun w=>gtrI w at_ ((s_).length:Int))) ?_
  refine TVf ?_
  refine TVm ?_
  refine TFd (d:=19) H (fun hc H=>?_) (fun hc H=>?_)
  ·refine TLs ?_
   refine TLs ?_
   refine TLs ?_
   refine TLs ?_
   refine TLs ?_
   refine TLs ?_
   refine TVt ?_
   refine TL_nil (TX_next (TC_cond_t rfl ?_))
   refine TC_seq (TC_region (TVa ?_))
   refine TVa ?_
   refine TVa ?_
   refine TL_nil (TX_next (TC_ret (TX_then_ret ?_)))
   obtain rfl:=sj H
   exact TXr (vs:=[_,_,_]) rfl ⟨rfl,rfl,rfl,trivial⟩
  ·refine TLw (V_move rfl) ?_
   refine TLw (V_move rfl) ?_
   refine TLw (V_len_str rfl underlying9) ?_
   refine TLw (V_move rfl) ?_
   refine TLw (V_bin rfl rfl (fun w=>subI w ((s_).length:Int) at_)) ?_
   refine TLw (V_bin rfl rfl (fun w=>gtrI w size (w64 (((s_).length:Int) - at_)))) ?_
   refine TVf ?_
   refine TL_nil (TX_next (TCd H (fun hc H=>?_) (fun hc H=>?_)))
   ·refine TC_seq (TC_region (TVa ?_))
    refine TVa ?_
    refine TVa ?_
    refine TL_nil (TX_next (TC_ret (TX_then_ret ?_)))
    obtain rfl:=sj H
    exact TXr (vs:=[_,_,_]) rfl ⟨rfl,rfl,rfl,trivial⟩
   ·refine TC_skip (TX_next (TC_seq (TC_region (TVa ?_))))
    refine TL_nil (TX_next (TC_seq (TC_seq (TC_region (TVa ?_)))))
    refine TL_nil (TX_next (TC_block ?_))
    obtain ⟨t_1,Hl,H⟩:=bind_elim H
    refine TC.sub (m':=[(0,_),(1,_),(2,_),(9,_),(10,_)]) ⟨rfl,rfl,rfl,rfl,rfl,trivial⟩ ?_
    refine TC.pull (is:=[]) (L':=[]) rfl ?_
    refine TC_loopL (id:=0) (body:=(halberdref1_Num.b0 s_ at_ size)) (σ:=Int × Int) (Γ:=Unit) (Γx:=Unit) (fun s0 g0_=>[(0,vs s_),(1,vi at_),(2,vi size),(9,vi s0.1),(10,vi s0.2)]) (fun s0 g0_=>[]) (fun t g=>[(1,vi at_),(2,vi size),(9,vi t)]) (fun t g=>[]) ?_ BIG (0,0) () t_1 Hl ?_
    ·intro s0 g0_ r1 H K hK hE
     unfold halberdref1_Num.b0 at H
     refine TC_seq (TC_seq (TC_region (TVm ?_)))
     refine TVm ?_
     refine TLv (V_bin rfl rfl (fun w=>lssI w s0.2 size)) ?_
     refine TL_nil (TX_next (TCd H (fun hc H=>?_) (fun hc H=>?_)))
     ·refine TC_skip (TX_next (TC_seq (TC_block (TC_region (TVm ?_)))))
      refine TLv (V_bin rfl rfl (fun w=>shlI w s0.1 .u64 8 (by decide))) ?_
      refine TVm ?_
      refine TVm ?_
      refine TVm ?_
      refine TLv (V_bin rfl rfl (fun w=>addI w at_ s0.2)) ?_
      obtain ⟨h1,H⟩:=if_elim H
      refine TLv (V_idxStr rfl rfl (i:=w64 (at_+s0.2)) underlying9 h1.1 h1.2) ?_
      refine TLv (V_conv rfl (fun w=>cv8toI w _ _ underlying3 (und5) (sg s_ (w64 (at_+s0.2))))) ?_
      refine TLv (V_bin rfl rfl (fun w=>orI w (shlI' s0.1 8) ((sg s_ (w64 (at_+s0.2))).toNat:Int))) ?_
      refine TVa ?_
      obtain ⟨x1,hx1,H⟩:=ltt_elim H
      refine TLr 9 (congrArg vi hx1) ?_
      refine TL_nil (TX_block_normal (TX_next (TC_region (TVm ?_))))
      refine TLv (V_bin rfl rfl (fun w=>addI w s0.2 1)) ?_
      refine TVa ?_
      obtain ⟨i1,hi1,H⟩:=ltt_elim H
      refine TLr 10 (congrArg vi hi1) ?_
      refine TL_nil ?_
      obtain rfl:=sj H
      exact TXk [] (hK (x1,i1) rfl ())
     ·refine TC_exit (TX_then_exit (TX_then_exit ?_))
      obtain rfl:=sj H
      exact TXj [] (hE s0.1 rfl ())
    ·intro g
     refine TX_block_exit (TX_next (TC_seq (TC_region (TVm ?_))))
     refine TVm ?_
     refine TVm ?_
     refine TLv (V_bin rfl rfl (fun w=>addI w at_ size)) ?_
     refine TVa ?_
     refine TVa ?_
     obtain ⟨x2,hx2,H⟩:=ltt_elim H
     refine TLr 7 (congrArg vi hx2) ?_
     refine TVa ?_
     refine TL_nil (TX_next (TC_ret ?_))
     obtain rfl:=sj H
     exact TXr (vs:=[_,_,_]) rfl ⟨rfl,rfl,rfl,trivial⟩
end Go.Proofs
end

section
namespace Go.Proofs
open Go Go.Kx
open TrydI Tryd
def halberdref19_OpenTicket (key:Str) (s_:Str):Option (Int × Str × Int × Int × Int) :=
 if ((key).length:Int) ≠ 32 then (some (0,([]:Str),0,0,2000)) else (if ((s_).length:Int)<12 then (some (0,([]:Str),0,0,2001)) else (if 12≤(s_).length then (if 12≤(s_).length then ((halberdref4_GcmOpen key (sub s_ 0 12) ([]:Str) (sub s_ 12 ((s_).length))).bind fun (r_1:Str × Int)=>((if r_1.2 ≠ 0 then (some true) else (some (decide (((r_1.1).length:Int)<10)))).bind fun (j1:Bool)=>(if j1=true then (some (0,([]:Str),0,0,2001)) else ((halberdref1_Num r_1.1 0 2).bind fun (r_2:Int × Int × Int)=>((halberdref1_Num r_1.1 2 4).bind fun (r_3:Int × Int × Int)=>((halberdref1_Num r_1.1 6 4).bind fun (r_4:Int × Int × Int)=>(if 10≤(r_1.1).length then (if 12≤(s_).length then ((halberdref19_SealTicket key (sub s_ 0 12) r_2.1 (sub r_1.1 10 ((r_1.1).length)) r_3.1 r_4.1).bind fun (r_5:Str × Int)=>((if r_5.2 ≠ 0 then (some true) else (some (decide (r_5.1 ≠ s_)))).bind fun (j2:Bool)=>(if j2=true then (some (0,([]:Str),0,0,2001)) else (some (r_2.1,sub r_1.1 10 ((r_1.1).length),r_3.1,r_4.1,0))))) else none) else none))))))) else none) else none))
set_option maxHeartbeats 4000000 in
set_option maxRecDepth 20000 in
theorem F10_calls (key:Str) (s_:Str) (r:Int × Str × Int × Int × Int) (H:halberdref19_OpenTicket key s_=some r) :
  Does Tryd.prog 10 [vs key,vs s_] [] [] (Γ:=Unit) (fun g=>Value.tuple [aG [(1,[vi r.1]),(1,[vs r.2.1]),(1,[vi r.2.2.1]),(1,[vi r.2.2.2.1])],vi r.2.2.2.2].toArray) (fun g=>[]):=by
 intro w hmem hro hd
 refine calls_of (N:=86) (m0:=[(0,vs key),(1,vs s_)]) func10 rfl ntmps10 (argM_ok [vs key,vs s_]) rfl hmem hro hd ?_
 unfold halberdref19_OpenTicket at H
 refine TC_seq (TC_region (TLe (E_allocP [(1,[vi 0]),(1,[vs ([]:Str)]),(1,[vi 0]),(1,[vi 0])] inf23 zer23 ⟨rfl,rfl,rfl,rfl,trivial⟩) (fun b1=>?_)))
 refine TVa ?_
 refine TL_nil (TX_next (TC_seq (TC_seq (TC_region (TVm ?_)))))
 refine TLv (V_len_str rfl underlying9) ?_
 refine TLv (V_bin rfl rfl (fun w=>neqI w ((key).length:Int) 32)) ?_
 refine TL_nil (TX_next (TCd H (fun hc H=>?_) (fun hc H=>?_)))
 ·refine TC_seq (TC_region (TLv (V_buildStruct (pv:=[]) (pl:=[(0,1),(1,1),(2,1),(3,1)]) rfl rfl underlying23 inf23 places23 zer23 (cs:=flat [(1,[vi 0]),(1,[vs ([]:Str)]),(1,[vi 0]),(1,[vi 0])]) (by kernel_rfl)) ?_))
  refine TLn (E_sp (b:=b1) (o:=0) [0,0,0,0] [(1,[vi 0]),(1,[vs ([]:Str)]),(1,[vi 0]),(1,[vi 0])] [(1,[vi 0]),(1,[vs ([]:Str)]),(1,[vi 0]),(1,[vi 0])] rfl inf23 ⟨rfl,rfl,rfl,rfl,trivial⟩ ⟨rfl,rfl,rfl,rfl,trivial⟩ ⟨(OneC.cons rfl OneC.nil),(OneC.cons rfl OneC.nil),(OneC.cons rfl OneC.nil),(OneC.cons rfl OneC.nil),trivial⟩) (fun _=>?_)
  refine TVa ?_
  refine TL_nil (TX_next (TC_ret (TX_then_ret ?_)))
  obtain rfl:=sj H
  exact TXr (vs:=[_,_]) rfl ⟨(Res_agg (n:=4) (cs:=flat [(1,[vi 0]),(1,[vs ([]:Str)]),(1,[vi 0]),(1,[vi 0])]) rfl (by simp) (SrcEnts (b:=b1) [(1,[vi 0]),(1,[vs ([]:Str)]),(1,[vi 0]),(1,[vi 0])] 0 ⟨rfl,rfl,rfl,rfl,trivial⟩ (AllSrc.all (M:=ents b1 0 [(1,[vi 0]),(1,[vs ([]:Str)]),(1,[vi 0]),(1,[vi 0])]) ⟨Src.own (j:=0) rfl,Src.own (j:=1) rfl,Src.own (j:=2) rfl,Src.own (j:=3) rfl,trivial⟩)) isAgg23 inf23 rfl (by simp [flat])),rfl,trivial⟩
 ·refine TC_skip (TX_next (TC_seq (TC_seq (TC_region (TVm ?_)))))
  refine TLv (V_len_str rfl underlying9) ?_
  refine TLv (V_bin rfl rfl (fun w=>lssI w ((s_).length:Int) 12)) ?_
  refine TL_nil (TX_next (TCd H (fun hc H=>?_) (fun hc H=>?_)))
  ·refine TC_seq (TC_region (TLv (V_buildStruct (pv:=[]) (pl:=[(0,1),(1,1),(2,1),(3,1)]) rfl rfl underlying23 inf23 places23 zer23 (cs:=flat [(1,[vi 0]),(1,[vs ([]:Str)]),(1,[vi 0]),(1,[vi 0])]) (by kernel_rfl)) ?_))
   refine TLn (E_sp (b:=b1) (o:=0) [0,0,0,0] [(1,[vi 0]),(1,[vs ([]:Str)]),(1,[vi 0]),(1,[vi 0])] [(1,[vi 0]),(1,[vs ([]:Str)]),(1,[vi 0]),(1,[vi 0])] rfl inf23 ⟨rfl,rfl,rfl,rfl,trivial⟩ ⟨rfl,rfl,rfl,rfl,trivial⟩ ⟨(OneC.cons rfl OneC.nil),(OneC.cons rfl OneC.nil),(OneC.cons rfl OneC.nil),(OneC.cons rfl OneC.nil),trivial⟩) (fun _=>?_)
   refine TVa ?_
   refine TL_nil (TX_next (TC_ret (TX_then_ret ?_)))
   obtain rfl:=sj H
   exact TXr (vs:=[_,_]) rfl ⟨(Res_agg (n:=4) (cs:=flat [(1,[vi 0]),(1,[vs ([]:Str)]),(1,[vi 0]),(1,[vi 0])]) rfl (by simp) (SrcEnts (b:=b1) [(1,[vi 0]),(1,[vs ([]:Str)]),(1,[vi 0]),(1,[vi 0])] 0 ⟨rfl,rfl,rfl,rfl,trivial⟩ (AllSrc.all (M:=ents b1 0 [(1,[vi 0]),(1,[vs ([]:Str)]),(1,[vi 0]),(1,[vi 0])]) ⟨Src.own (j:=0) rfl,Src.own (j:=1) rfl,Src.own (j:=2) rfl,Src.own (j:=3) rfl,trivial⟩)) isAgg23 inf23 rfl (by simp [flat])),rfl,trivial⟩
  ·refine TC_skip (TX_next (TC_seq ?_))
   obtain ⟨h1,H⟩:=if_elim H
   obtain ⟨h2,H⟩:=if_elim H
   obtain ⟨r_1,hr_1,H⟩:=bind_elim H
   refine TA_begin [] 11 (by kernel_rfl) (N:=11) rfl ?_
   refine TA_mix (is:=[]) (done':=dn 11 2047) [itV 0 29 (vs key) [],itV 1 30 (vs s_) [],itV 2 31 (vs (sub s_ 0 12)) [1],itV 3 32 (vs s_) [],itV 4 33 (vs (sub s_ 12 ((s_).length))) [3],itV 5 34 (Value.tuple [vs r_1.1,vi r_1.2].toArray) [4,0,2],itV 6 28 (Value.tuple [vs r_1.1,vi r_1.2].toArray) [5],itV 7 35 (vs r_1.1) [6],itV 8 36 (vi r_1.2) [6],itV 9 6 (vs r_1.1) [7],itV 10 7 (vi r_1.2) [8]] [] 0 (by kernel_rfl) (QP.then QP.body) (by kernel_rfl) rfl (.v rfl (V_move rfl) (.v rfl (V_move rfl) (.v rfl (V_sliceStr (l:=0) (h:=12) rfl underlying9 Bnd.none' (Bnd.some' (i:=12) rfl (by decide)) (Nat.zero_le _) h1) (.v rfl (V_move rfl) (.v rfl (V_sliceStr (l:=12) (h:=(s_).length) rfl underlying9 (Bnd.some' (i:=12) rfl (by decide)) Bnd.none' h2 (Nat.le_refl _)) (.e rfl (E_cu (F21_calls key (sub s_ 0 12) ([]:Str) (sub s_ 12 ((s_).length)) r_1 hr_1) call21 .z) (.v rfl (V_move rfl) (.v rfl V_ex (.v rfl V_ex (.v rfl (V_assign rfl) (.v rfl (V_assign rfl) .nil))))))))))) .nil (by kernel_rfl) rfl (fun γ=>?_)
   refine TA_cut [(7,vi r_1.2),(6,vs r_1.1),(4,ptr (some (b1,0)) 0),(0,vs key),(1,vs s_)] [⟨some (b1,0),[vi 0]⟩,⟨some (b1,1),[vs ([]:Str)]⟩,⟨some (b1,2),[vi 0]⟩,⟨some (b1,3),[vi 0]⟩] ⟨rfl,rfl,rfl,rfl,rfl,trivial⟩ rfl ?_
   refine TA_done (by kernel_rfl) ?_ 0
   refine TX_next (TC_seq (TC_seq (TC_region (TVm ?_))))
   refine TLv (V_bin rfl rfl (fun w=>neqI w r_1.2 0)) ?_
   refine TVm ?_
   obtain ⟨j1,Hj,H⟩:=bind_elim H
   refine TL_join (Γ:=Unit) (fun gj1=>[(0,vs key),(1,vs s_),(4,ptr (some (b1,0)) 0),(6,vs r_1.1),(43,vb j1)]) (fun gj1=>[⟨some (b1,0),[vi 0]⟩,⟨some (b1,1),[vs ([]:Str)]⟩,⟨some (b1,2),[vi 0]⟩,⟨some (b1,3),[vi 0]⟩]) ?_ ?_
   ·intro gj1
    refine TX_next (TCb H (fun hc H=>?_) (fun hc H=>?_))
    ·refine TC_seq (TC_region (TLv (V_buildStruct (pv:=[]) (pl:=[(0,1),(1,1),(2,1),(3,1)]) rfl rfl underlying23 inf23 places23 zer23 (cs:=flat [(1,[vi 0]),(1,[vs ([]:Str)]),(1,[vi 0]),(1,[vi 0])]) (by kernel_rfl)) ?_))
     refine TLn (E_sp (b:=b1) (o:=0) [0,0,0,0] [(1,[vi 0]),(1,[vs ([]:Str)]),(1,[vi 0]),(1,[vi 0])] [(1,[vi 0]),(1,[vs ([]:Str)]),(1,[vi 0]),(1,[vi 0])] rfl inf23 ⟨rfl,rfl,rfl,rfl,trivial⟩ ⟨rfl,rfl,rfl,rfl,trivial⟩ ⟨(OneC.cons rfl OneC.nil),(OneC.cons rfl OneC.nil),(OneC.cons rfl OneC.nil),(OneC.cons rfl OneC.nil),trivial⟩) (fun _=>?_)
     refine TVa ?_
     refine TL_nil (TX_next (TC_ret (TX_then_ret ?_)))
     obtain rfl:=sj H
     exact TXr (vs:=[_,_]) rfl ⟨(Res_agg (n:=4) (cs:=flat [(1,[vi 0]),(1,[vs ([]:Str)]),(1,[vi 0]),(1,[vi 0])]) rfl (by simp) (SrcEnts (b:=b1) [(1,[vi 0]),(1,[vs ([]:Str)]),(1,[vi 0]),(1,[vi 0])] 0 ⟨rfl,rfl,rfl,rfl,trivial⟩ (AllSrc.all (M:=ents b1 0 [(1,[vi 0]),(1,[vs ([]:Str)]),(1,[vi 0]),(1,[vi 0])]) ⟨Src.own (j:=0) rfl,Src.own (j:=1) rfl,Src.own (j:=2) rfl,Src.own (j:=3) rfl,trivial⟩)) isAgg23 inf23 rfl (by simp [flat])),rfl,trivial⟩
    ·refine TC_skip (TX_next (TC_seq (TC_region (TVm ?_))))
     obtain ⟨r_2,hr_2,H⟩:=bind_elim H
     refine TLe (E_c0 (F22_calls r_1.1 0 2 r_2 hr_2) call22 .z) (fun g_2=>?_)
     refine TVm ?_
     refine TLv V_ex ?_
     refine TLv V_ex ?_
     refine TLv V_ex ?_
     refine TVa ?_
     refine TVa ?_
     refine TVa ?_
     refine TL_nil (TX_next (TC_seq (TC_region (TVm ?_))))
     obtain ⟨r_3,hr_3,H⟩:=bind_elim H
     refine TLe (E_c0 (F22_calls r_1.1 2 4 r_3 hr_3) call22 .z) (fun g_3=>?_)
     refine TVm ?_
     refine TLv V_ex ?_
     refine TLv V_ex ?_
     refine TLv V_ex ?_
     refine TVa ?_
     refine TVa ?_
     refine TVa ?_
     refine TL_nil (TX_next (TC_seq (TC_region (TVm ?_))))
     obtain ⟨r_4,hr_4,H⟩:=bind_elim H
     refine TLe (E_c0 (F22_calls r_1.1 6 4 r_4 hr_4) call22 .z) (fun g_4=>?_)
     refine TVm ?_
     refine TLv V_ex ?_
     refine TLv V_ex ?_
     refine TLv V_ex ?_
     refine TVa ?_
     refine TVa ?_
     refine TVa ?_
     refine TL_nil (TX_next (TC.sub (m':=[(0,_),(1,_),(4,_),(6,_),(8,_),(11,_),(14,_)]) ⟨rfl,rfl,rfl,rfl,rfl,rfl,rfl,trivial⟩ ?_))
     refine TC.pull (is:=[0,0,0,0]) (L':=[_,_,_,_]) rfl ?_
     refine TC_seq (TC_region (TVm ?_))
     refine TVm ?_
     refine TVm ?_
     refine TVm ?_
     obtain ⟨h3,H⟩:=if_elim H
     refine TLv (V_sliceStr (l:=10) (h:=(r_1.1).length) rfl underlying9 (Bnd.some' (i:=10) rfl (by decide)) Bnd.none' h3 (Nat.le_refl _)) ?_
     refine TLv (V_buildStruct (pv:=[(0,vi r_2.1),(2,vi r_3.1),(3,vi r_4.1),(1,vs (sub r_1.1 10 ((r_1.1).length)))]) (pl:=[(0,1),(1,1),(2,1),(3,1)]) rfl rfl underlying23 inf23 places23 zer23 (cs:=flat [(1,[vi r_2.1]),(1,[vs (sub r_1.1 10 ((r_1.1).length))]),(1,[vi r_3.1]),(1,[vi r_4.1])]) (by kernel_rfl)) ?_
     refine TLe (E_allocP [(1,[vi 0]),(1,[vs ([]:Str)]),(1,[vi 0]),(1,[vi 0])] inf23 zer23 ⟨rfl,rfl,rfl,rfl,trivial⟩) (fun b2=>?_)
     refine TLn (E_sp (b:=b2) (o:=0) [0,0,0,0] [(1,[vi 0]),(1,[vs ([]:Str)]),(1,[vi 0]),(1,[vi 0])] [(1,[vi r_2.1]),(1,[vs (sub r_1.1 10 ((r_1.1).length))]),(1,[vi r_3.1]),(1,[vi r_4.1])] rfl inf23 ⟨rfl,rfl,rfl,rfl,trivial⟩ ⟨rfl,rfl,rfl,rfl,trivial⟩ ⟨(OneC.cons rfl OneC.nil),(OneC.cons rfl OneC.nil),(OneC.cons rfl OneC.nil),(OneC.cons rfl OneC.nil),trivial⟩) (fun _=>?_)
     refine TL_nil (TX_next (TC_seq ?_))
     obtain ⟨h4,H⟩:=if_elim H
     obtain ⟨r_5,hr_5,H⟩:=bind_elim H
     refine TA_begin [] 10 (by kernel_rfl) (N:=10) rfl ?_
     refine TA_mix (is:=[]) (done':=dn 10 1023) [itV 0 70 (vs key) [],itV 1 71 (vs s_) [],itV 2 72 (vs (sub s_ 0 12)) [1],itV 3 73 (aG [(1,[vi r_2.1]),(1,[vs (sub r_1.1 10 ((r_1.1).length))]),(1,[vi r_3.1]),(1,[vi r_4.1])]) [],itV 4 74 (Value.tuple [vs r_5.1,vi r_5.2].toArray) [2,3,0],itV 5 69 (Value.tuple [vs r_5.1,vi r_5.2].toArray) [4],itV 6 75 (vs r_5.1) [5],itV 7 76 (vi r_5.2) [5],itV 8 18 (vs r_5.1) [6],itV 9 19 (vi r_5.2) [7]] [] 0 (by kernel_rfl) (QP.then QP.body) (by kernel_rfl) rfl (.v rfl (V_move rfl) (.v rfl (V_move rfl) (.v rfl (V_sliceStr (l:=0) (h:=12) rfl underlying9 Bnd.none' (Bnd.some' (i:=12) rfl (by decide)) (Nat.zero_le _) h4) (.v rfl (V_loadAgg (n:=4) (cs:=flat [(1,[vi r_2.1]),(1,[vs (sub r_1.1 10 ((r_1.1).length))]),(1,[vi r_3.1]),(1,[vi r_4.1])]) rfl (by simp) (SrcEnts (b:=b2) [(1,[vi r_2.1]),(1,[vs (sub r_1.1 10 ((r_1.1).length))]),(1,[vi r_3.1]),(1,[vi r_4.1])] 0 ⟨rfl,rfl,rfl,rfl,trivial⟩ (AllSrc.all (M:=ents b2 0 [(1,[vi r_2.1]),(1,[vs (sub r_1.1 10 ((r_1.1).length))]),(1,[vi r_3.1]),(1,[vi r_4.1])]) ⟨Src.own (j:=0) rfl,Src.own (j:=1) rfl,Src.own (j:=2) rfl,Src.own (j:=3) rfl,trivial⟩)) isAgg23 inf23 rfl (flat_len ⟨rfl,rfl,rfl,rfl,trivial⟩ rfl)) (.e rfl (E_cu (F8_calls key (sub s_ 0 12) r_2.1 (sub r_1.1 10 ((r_1.1).length)) r_3.1 r_4.1 r_5 hr_5) call8 .z) (.v rfl (V_move rfl) (.v rfl V_ex (.v rfl V_ex (.v rfl (V_assign rfl) (.v rfl (V_assign rfl) .nil)))))))))) .nil (by kernel_rfl) rfl (fun γ=>?_)
     refine TA_cut [(19,vi r_5.2),(18,vs r_5.1),(17,ptr (some (b2,0)) 0),(1,vs s_),(4,ptr (some (b1,0)) 0)] [⟨some (b2,0),[vi r_2.1]⟩,⟨some (b2,1),[vs (sub r_1.1 10 ((r_1.1).length))]⟩,⟨some (b2,2),[vi r_3.1]⟩,⟨some (b2,3),[vi r_4.1]⟩,⟨some (b1,0),[vi 0]⟩,⟨some (b1,1),[vs ([]:Str)]⟩,⟨some (b1,2),[vi 0]⟩,⟨some (b1,3),[vi 0]⟩] ⟨rfl,rfl,rfl,rfl,rfl,trivial⟩ rfl ?_
     refine TA_done (by kernel_rfl) ?_ 0
     refine TX_next (TC_seq (TC_seq (TC_region (TVm ?_))))
     refine TLv (V_bin rfl rfl (fun w=>neqI w r_5.2 0)) ?_
     refine TVm ?_
     obtain ⟨j2,Hj,H⟩:=bind_elim H
     refine TL_join (Γ:=Unit) (fun gj2=>[(4,ptr (some (b1,0)) 0),(17,ptr (some (b2,0)) 0),(83,vb j2)]) (fun gj2=>[⟨some (b1,0),[vi 0]⟩,⟨some (b1,1),[vs ([]:Str)]⟩,⟨some (b1,2),[vi 0]⟩,⟨some (b1,3),[vi 0]⟩,⟨some (b2,0),[vi r_2.1]⟩,⟨some (b2,1),[vs (sub r_1.1 10 ((r_1.1).length))]⟩,⟨some (b2,2),[vi r_3.1]⟩,⟨some (b2,3),[vi r_4.1]⟩]) ?_ ?_
     ·intro gj2
      refine TX_next (TCb H (fun hc H=>?_) (fun hc H=>?_))
      ·refine TC_seq (TC_region (TLv (V_buildStruct (pv:=[]) (pl:=[(0,1),(1,1),(2,1),(3,1)]) rfl rfl underlying23 inf23 places23 zer23 (cs:=flat [(1,[vi 0]),(1,[vs ([]:Str)]),(1,[vi 0]),(1,[vi 0])]) (by kernel_rfl)) ?_))
       refine TLn (E_sp (b:=b1) (o:=0) [0,0,0,0] [(1,[vi 0]),(1,[vs ([]:Str)]),(1,[vi 0]),(1,[vi 0])] [(1,[vi 0]),(1,[vs ([]:Str)]),(1,[vi 0]),(1,[vi 0])] rfl inf23 ⟨rfl,rfl,rfl,rfl,trivial⟩ ⟨rfl,rfl,rfl,rfl,trivial⟩ ⟨(OneC.cons rfl OneC.nil),(OneC.cons rfl OneC.nil),(OneC.cons rfl OneC.nil),(OneC.cons rfl OneC.nil),trivial⟩) (fun _=>?_)
       refine TVa ?_
       refine TL_nil (TX_next (TC_ret (TX_then_ret ?_)))
       obtain rfl:=sj H
       exact TXr (vs:=[_,_]) rfl ⟨(Res_agg (n:=4) (cs:=flat [(1,[vi 0]),(1,[vs ([]:Str)]),(1,[vi 0]),(1,[vi 0])]) rfl (by simp) (SrcEnts (b:=b1) [(1,[vi 0]),(1,[vs ([]:Str)]),(1,[vi 0]),(1,[vi 0])] 0 ⟨rfl,rfl,rfl,rfl,trivial⟩ (AllSrc.all (M:=ents b1 0 [(1,[vi 0]),(1,[vs ([]:Str)]),(1,[vi 0]),(1,[vi 0])]) ⟨Src.own (j:=0) rfl,Src.own (j:=1) rfl,Src.own (j:=2) rfl,Src.own (j:=3) rfl,trivial⟩)) isAgg23 inf23 rfl (by simp [flat])),rfl,trivial⟩
      ·refine TC_skip (TX_next (TC_seq (TC_region (TLv (V_loadAgg (n:=4) (cs:=flat [(1,[vi r_2.1]),(1,[vs (sub r_1.1 10 ((r_1.1).length))]),(1,[vi r_3.1]),(1,[vi r_4.1])]) rfl (by simp) (SrcEnts (b:=b2) [(1,[vi r_2.1]),(1,[vs (sub r_1.1 10 ((r_1.1).length))]),(1,[vi r_3.1]),(1,[vi r_4.1])] 0 ⟨rfl,rfl,rfl,rfl,trivial⟩ (AllSrc.all (M:=ents b2 0 [(1,[vi r_2.1]),(1,[vs (sub r_1.1 10 ((r_1.1).length))]),(1,[vi r_3.1]),(1,[vi r_4.1])]) ⟨Src.own (j:=4) rfl,Src.own (j:=5) rfl,Src.own (j:=6) rfl,Src.own (j:=7) rfl,trivial⟩)) isAgg23 inf23 rfl (flat_len ⟨rfl,rfl,rfl,rfl,trivial⟩ rfl)) ?_))))
       refine TLn (E_sp (b:=b1) (o:=0) [0,0,0,0] [(1,[vi 0]),(1,[vs ([]:Str)]),(1,[vi 0]),(1,[vi 0])] [(1,[vi r_2.1]),(1,[vs (sub r_1.1 10 ((r_1.1).length))]),(1,[vi r_3.1]),(1,[vi r_4.1])] rfl inf23 ⟨rfl,rfl,rfl,rfl,trivial⟩ ⟨rfl,rfl,rfl,rfl,trivial⟩ ⟨(OneC.cons rfl OneC.nil),(OneC.cons rfl OneC.nil),(OneC.cons rfl OneC.nil),(OneC.cons rfl OneC.nil),trivial⟩) (fun _=>?_)
       refine TVa ?_
       refine TL_nil (TX_next (TC_ret ?_))
       obtain rfl:=sj H
       exact TXr (vs:=[_,_]) rfl ⟨(Res_agg (n:=4) (cs:=flat [(1,[vi r_2.1]),(1,[vs (sub r_1.1 10 ((r_1.1).length))]),(1,[vi r_3.1]),(1,[vi r_4.1])]) rfl (by simp) (SrcEnts (b:=b1) [(1,[vi r_2.1]),(1,[vs (sub r_1.1 10 ((r_1.1).length))]),(1,[vi r_3.1]),(1,[vi r_4.1])] 0 ⟨rfl,rfl,rfl,rfl,trivial⟩ (AllSrc.all (M:=ents b1 0 [(1,[vi r_2.1]),(1,[vs (sub r_1.1 10 ((r_1.1).length))]),(1,[vi r_3.1]),(1,[vi r_4.1])]) ⟨Src.own (j:=0) rfl,Src.own (j:=1) rfl,Src.own (j:=2) rfl,Src.own (j:=3) rfl,trivial⟩)) isAgg23 inf23 rfl (by simp [flat])),rfl,trivial⟩
     ·intro hJ
      replace H:=Hj
      refine TFd (d:=79) H (fun hc H=>?_) (fun hc H=>?_)
      ·refine TLs ?_
       refine TLs ?_
       refine TLs ?_
       refine TVt ?_
       refine TL_nil ?_
       obtain rfl:=sj H
       exact TXj [4,4,4,4,0,0,0,0] (hJ ())
      ·refine TLw (V_move rfl) ?_
       refine TLw (V_move rfl) ?_
       refine TLw (V_bin rfl rfl (fun w=>neqS w r_5.1 s_)) ?_
       refine TVf ?_
       refine TL_nil ?_
       obtain rfl:=sj H
       exact TXj [4,4,4,4,0,0,0,0] (hJ ())
   ·intro hJ
    replace H:=Hj
    refine TFd (d:=39) H (fun hc H=>?_) (fun hc H=>?_)
    ·refine TLs ?_
     refine TLs ?_
     refine TLs ?_
     refine TVt ?_
     refine TL_nil ?_
     obtain rfl:=sj H
     exact TXj [0,0,0,0] (hJ ())
    ·refine TLw (V_move rfl) ?_
     refine TLw (V_len_str rfl underlying9) ?_
     refine TLw (V_bin rfl rfl (fun w=>lssI w ((r_1.1).length:Int) 10)) ?_
     refine TVf ?_
     refine TL_nil ?_
     obtain rfl:=sj H
     exact TXj [0,0,0,0] (hJ ())
end Go.Proofs
end

section
namespace Go.Proofs
open Go Go.Kx
theorem or_byte (a b:Nat) (ha:a<4294967296) (hb:b<256):iop (· ||| ·) (shlI' (a:Int) 8) (b:Int)=((a * 256+b:Nat):Int):=by
 unfold iop shlI'
 have e1:w64 ((a:Int) * 2 ^ (min (8:Int).toNat 64))=((a * 256:Nat):Int):=by
  rw [show min (8:Int).toNat 64=8 from rfl,w64_id (by omega) (by omega)]; omega
 rw [e1]
 have e2:(BitVec.ofInt 64 ((a * 256:Nat):Int) ||| BitVec.ofInt 64 (b:Int)).toNat=a * 256+b:=by
  rw [BitVec.ofInt_natCast,BitVec.ofInt_natCast,BitVec.toNat_or,BitVec.toNat_ofNat,BitVec.toNat_ofNat,Nat.mod_eq_of_lt (by omega),Nat.mod_eq_of_lt (by omega)]
  rw [show a * 256=a <<< 8 from by rw [Nat.shiftLeft_eq]]
  rw [← Nat.shiftLeft_add_eq_or_of_lt (by omega:b<2 ^ 8)]
 rw [e2]
 exact w64_nat (by omega)
def numB (s:Str) (a:Nat):Nat → Nat
 | 0=>0
 | n+1=>numB s a n * 256+(s.getD (a+n) 0#8).toNat
theorem numB_lt (s:Str) (a:Nat) : ∀ n,numB s a n<256 ^ n
 | 0=>by simp [numB]
 | n+1=>by
  have:=numB_lt s a n
  have h2:=(s.getD (a+n) 0#8).isLt
  rw [Nat.pow_succ]
  show numB s a n * 256+_<_
  omega
def rdN (s:Str) (a n:Nat):Int × Int × Int:=if a+n≤s.length then ((numB s a n:Nat),((a+n:Nat):Int),0) else (0,0,100)
theorem rd_step (s:Str) (a n k:Nat) (hk:k<n) (hn:n≤4) (h:a+n≤s.length):iop (· ||| ·) (shlI' (numB s a k:Int) 8) ((sg s ((a+k:Nat):Int)).toNat:Int)=((numB s a (k+1):Nat):Int):=by
 have h1:=numB_lt s a k
 have h2:(256:Nat) ^ k≤256 ^ 3:=Nat.pow_le_pow_right (by decide) (by omega)
 unfold sg
 rw [Int.toNat_natCast]
 exact or_byte _ _ (by omega) (s.getD (a+k) 0#8).isLt
theorem number_eq (s:Str) (a n:Nat) (hn:n≤4) (hs:s.length<1152921504606846976) (ha:a<1152921504606846976):wire_number s (a:Int) (n:Int)=some (rdN s a n):=by
 have e1:w64 ((s.length:Int) - (a:Int))=(s.length:Int) - (a:Int):=w64_id (by omega) (by omega)
 have e2:w64 ((a:Int)+(n:Int))=((a+n:Nat):Int):=by rw [w64_id (by omega) (by omega)]; omega
 unfold wire_number rdN
 rw [e1,e2]
 clear e1 e2
 by_cases c:a+n≤s.length
 ·rw [if_pos c]
  refine if_n (by omega) (if_n (by omega) (if_n (by omega) (bind_i (v:=((numB s a n:Nat):Int)) (loop_fn (fun k=>(((numB s a k:Nat):Int),(k:Int))) n _ (by omega) rfl (fun k hk=>?_) ?_) rfl)))
  ·have e3:w64 ((a:Int)+(k:Int))=((a+k:Nat):Int):=by rw [w64_id (by omega) (by omega)]; omega
   have e4:w64 ((k:Int)+1)=((k+1:Nat):Int):=by rw [w64_id (by omega) (by omega)]; omega
   unfold wire_number.b0
   simp only [e3,e4]
   clear e3 e4
   refine if_i (by omega) (if_i (by omega) (ltt_i fun x hx=>?_))
   rw [hx,rd_step s a n k hk hn c]
  ·unfold wire_number.b0
   exact if_n (by dsimp only; omega) rfl
 ·rw [if_neg c]
  refine if_n (by omega) ?_
  by_cases c2:s.length<a
  ·exact if_i (by omega) rfl
  ·exact if_n (by omega) (if_i (by omega) rfl)
theorem Num_eq (s:Str) (a n:Nat) (hn:n≤4) (hs:s.length<1152921504606846976) (ha:a<1152921504606846976):halberdref1_Num s (a:Int) (n:Int)=some (rdN s a n):=by
 have e1:w64 ((s.length:Int) - (a:Int))=(s.length:Int) - (a:Int):=w64_id (by omega) (by omega)
 have e2:w64 ((a:Int)+(n:Int))=((a+n:Nat):Int):=by rw [w64_id (by omega) (by omega)]; omega
 unfold halberdref1_Num rdN
 rw [e1,e2]
 clear e1 e2
 by_cases c:a+n≤s.length
 ·rw [if_pos c]
  refine if_n (by omega) (if_n (by omega) (if_n (by omega) (bind_i (v:=((numB s a n:Nat):Int)) (loop_fn (fun k=>(((numB s a k:Nat):Int),(k:Int))) n _ (by omega) rfl (fun k hk=>?_) ?_) rfl)))
  ·have e3:w64 ((a:Int)+(k:Int))=((a+k:Nat):Int):=by rw [w64_id (by omega) (by omega)]; omega
   have e4:w64 ((k:Int)+1)=((k+1:Nat):Int):=by rw [w64_id (by omega) (by omega)]; omega
   unfold halberdref1_Num.b0
   simp only [e3,e4]
   clear e3 e4
   refine if_i (by omega) (if_i (by omega) (ltt_i fun x hx=>ltt_i fun i hi=>?_))
   rw [hx,hi,rd_step s a n k hk hn c]
  ·unfold halberdref1_Num.b0
   exact if_n (by dsimp only; omega) rfl
 ·rw [if_neg c]
  refine if_n (by omega) ?_
  by_cases c2:s.length<a
  ·exact if_i (by omega) rfl
  ·exact if_n (by omega) (if_i (by omega) rfl)
theorem bytesI_getD (x:Int) (n i:Nat) (h:i<n):(bytesI x n).getD i 0#8=BitVec.ofInt 8 (x / 256 ^ (n - 1 - i)):=by
 simp [bytesI,List.getD,h]
theorem ofInt8_toNat (x:Int):((BitVec.ofInt 8 x).toNat:Int)=x % 256:=by
 rw [BitVec.toNat_ofInt]
 have:0≤x % ((2 ^ 8:Nat):Int):=Int.emod_nonneg _ (by decide)
 rw [Int.toNat_of_nonneg this]; rfl
theorem numB_div (s:Str) (a k:Nat) : ∀ j,numB s a (k+j) / 256 ^ j=numB s a k
 | 0=>by simp
 | j+1=>by
  have h2:=(s.getD (a+(k+j)) 0#8).isLt
  show (numB s a (k+j) * 256+(s.getD (a+(k+j)) 0#8).toNat) / 256 ^ (j+1)=_
  rw [Nat.pow_succ,Nat.mul_comm (256 ^ j) 256, ← Nat.div_div_eq_div_mul]
  rw [show (numB s a (k+j) * 256+(s.getD (a+(k+j)) 0#8).toNat) / 256=numB s a (k+j) from by omega]
  exact numB_div s a k j
theorem ofInt8_nat (x j:Nat):(BitVec.ofInt 8 ((x:Int) / 256 ^ j)).toNat=x / 256 ^ j % 256:=by
 have h:=ofInt8_toNat ((x:Int) / 256 ^ j)
 have e:(x:Int) / 256 ^ j=((x / 256 ^ j:Nat):Int):=by rw [Int.natCast_ediv]; simp
 rw [e] at h ⊢
 omega
theorem enc_num (s:Str) (a n:Nat) (h:a+n≤s.length):bytesI ((numB s a n:Nat):Int) n=sub s a (a+n):=by
 refine List.ext_getElem (by rw [bytesI_length,sub_length h]; omega) fun i h1 h2=>?_
 have hi:i<n:=by rw [bytesI_length] at h1; exact h1
 have e1:(bytesI ((numB s a n:Nat):Int) n).getD i 0#8=(sub s a (a+n)).getD i 0#8:=by
  rw [bytesI_getD _ _ _ hi,sub_getD _ _ _ _ (by omega)]
  apply BitVec.eq_of_toNat_eq
  rw [ofInt8_nat]
  have hd:=numB_div s a (i+1) (n - 1 - i)
  rw [show i+1+(n - 1 - i)=n from by omega] at hd
  rw [hd]
  have h2:=(s.getD (a+i) 0#8).isLt
  show (numB s a i * 256+(s.getD (a+i) 0#8).toNat) % 256=_
  omega
 simpa [List.getD,h1,h2] using e1
end Go.Proofs
end
