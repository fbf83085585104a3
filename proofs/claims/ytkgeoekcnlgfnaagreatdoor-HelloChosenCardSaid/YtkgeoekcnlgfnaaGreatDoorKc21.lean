/-
  Part 21 of the proof of what several laws share.
-/
import Derived.WalkKit
import Derived.LaidEql
import Derived.Stop.Asserts
import Derived.RowKitTokens
import Derived.Test.YtkgeoekcnlgfnaaGreatDoorKc1
import Derived.Test.YtkgeoekcnlgfnaaGreatDoorKc2
import Derived.Test.YtkgeoekcnlgfnaaGreatDoorKc3
import Derived.Test.YtkgeoekcnlgfnaaGreatDoorKc4
import Derived.Test.YtkgeoekcnlgfnaaGreatDoorKc5
import Derived.Test.YtkgeoekcnlgfnaaGreatDoorKc6
import Derived.Test.YtkgeoekcnlgfnaaGreatDoorKc7
import Derived.Test.YtkgeoekcnlgfnaaGreatDoorKc14
import Derived.Test.YtkgeoekcnlgfnaaGreatDoorKc15
import Derived.Test.YtkgeoekcnlgfnaaGreatDoorKc16
import Derived.Test.YtkgeoekcnlgfnaaGreatDoorKc17
import Derived.Test.YtkgeoekcnlgfnaaGreatDoorKc18
import Derived.Test.YtkgeoekcnlgfnaaGreatDoorKc19
import Derived.Test.YtkgeoekcnlgfnaaGreatDoorKc20
set_option linter.unusedVariables false
set_option linter.unusedSimpArgs false
section
namespace Go.Proofs
open Go Go.Kx
open TryzI Tryz
def wire_Bytes (x:Int) (size:Int):Option (Str) :=
 ltt (decide (size=4)) fun (x1:Bool)=>(if x1=true then (if (([]:List (BitVec 8))).length+(([BitVec.ofInt 8 (shrI' x 24)]:List (BitVec 8))).length≤140737488355328 then (ltt (([]:List (BitVec 8))++([BitVec.ofInt 8 (shrI' x 24)]:List (BitVec 8))) fun (l1:List (BitVec 8))=>(if (l1).length+(([BitVec.ofInt 8 (shrI' x 16)]:List (BitVec 8))).length≤140737488355328 then (ltt (l1++([BitVec.ofInt 8 (shrI' x 16)]:List (BitVec 8))) fun (l2:List (BitVec 8))=>(if (l2).length+(([BitVec.ofInt 8 (shrI' x 8)]:List (BitVec 8))).length≤140737488355328 then (ltt (l2++([BitVec.ofInt 8 (shrI' x 8)]:List (BitVec 8))) fun (l3:List (BitVec 8))=>(if (l3).length+(([BitVec.ofInt 8 x]:List (BitVec 8))).length≤140737488355328 then (ltt (l3++([BitVec.ofInt 8 x]:List (BitVec 8))) fun (l4:List (BitVec 8))=>(some l4)) else none)) else none)) else none)) else none) else (ltt (decide (size=3)) fun (x2:Bool)=>(if x2=true then (if (([]:List (BitVec 8))).length+(([BitVec.ofInt 8 (shrI' x 16)]:List (BitVec 8))).length≤140737488355328 then (ltt (([]:List (BitVec 8))++([BitVec.ofInt 8 (shrI' x 16)]:List (BitVec 8))) fun (l5:List (BitVec 8))=>(if (l5).length+(([BitVec.ofInt 8 (shrI' x 8)]:List (BitVec 8))).length≤140737488355328 then (ltt (l5++([BitVec.ofInt 8 (shrI' x 8)]:List (BitVec 8))) fun (l6:List (BitVec 8))=>(if (l6).length+(([BitVec.ofInt 8 x]:List (BitVec 8))).length≤140737488355328 then (ltt (l6++([BitVec.ofInt 8 x]:List (BitVec 8))) fun (l7:List (BitVec 8))=>(some l7)) else none)) else none)) else none) else (ltt (decide (size=2)) fun (x3:Bool)=>(if x3=true then (if (([]:List (BitVec 8))).length+(([BitVec.ofInt 8 (shrI' x 8)]:List (BitVec 8))).length≤140737488355328 then (ltt (([]:List (BitVec 8))++([BitVec.ofInt 8 (shrI' x 8)]:List (BitVec 8))) fun (l8:List (BitVec 8))=>(if (l8).length+(([BitVec.ofInt 8 x]:List (BitVec 8))).length≤140737488355328 then (ltt (l8++([BitVec.ofInt 8 x]:List (BitVec 8))) fun (l9:List (BitVec 8))=>(some l9)) else none)) else none) else (if (([]:List (BitVec 8))).length+(([BitVec.ofInt 8 x]:List (BitVec 8))).length≤140737488355328 then (ltt (([]:List (BitVec 8))++([BitVec.ofInt 8 x]:List (BitVec 8))) fun (l10:List (BitVec 8))=>(some l10)) else none))))))
set_option maxHeartbeats 4000000 in
set_option maxRecDepth 20000 in
theorem F134_calls (x:Int) (size:Int) (r:Str) (H:wire_Bytes x size=some r) :
  Does Tryz.prog 134 [vi x,vi size] [] [] (Γ:=Unit) (fun g=>vs r) (fun g=>[]):=by
 intro w hmem hro hd
 refine calls_of (N:=38) (m0:=[(0,vi x),(1,vi size)]) func134 rfl ntmps134 (argM_ok [vi x,vi size]) rfl hmem hro hd ?_
 unfold wire_Bytes at H
 refine TC_seq (TC_region (TVa ?_))
 refine TL_nil (TX_next (TC_seq (TC_region (TLe (E_nilS rfl (z:=e8 (([]:List (BitVec 8))++([]:List (BitVec 8)))) rfl) (fun A1=>?_)))))
 refine TL_nil (TX_next (TC_seq (TC_seq (TC_region (TVm ?_)))))
 refine TL_nil (TX_next (TC_block (TC_seq (TC_block (TC_seq (TC_block (TC_seq (TC_block (TC_seq (TC_block (TC_seq (TC_seq (TC_seq (TC_region (TLv (V_bin rfl rfl (fun w=>eqlI w size 4)) ?_)))))))))))))))
 refine TVa ?_
 obtain ⟨x1,hx1,H⟩:=ltt_elim H
 refine TLr 7 (congrArg vb hx1) ?_
 refine TL_nil (TX_next (TCb H (fun hc H=>?_) (fun hc H=>?_)))
 ·refine TC_exit (TX_then_exit (TX_then_exit (TX_block_exit (TX_next (TC_region (TVm ?_))))))
  refine TVm ?_
  refine TLv (V_bin rfl rfl (fun w=>shrI w x .u64 24 (by decide))) ?_
  refine TLv (V_conv rfl (fun w=>cvI8 w _ _ underlying5 (und3) .i64 (shrI' x 24))) ?_
  refine TLe (E_buildSlice (pv:=[(0,v8 (BitVec.ofInt 8 (shrI' x 24)))]) rfl rfl underlying86 inf5 (s:=1) rfl zer5 rfl rfl rfl (cs:=e8 ([BitVec.ofInt 8 (shrI' x 24)]:List (BitVec 8))) (by kernel_rfl)) (fun b1=>?_)
  refine TL_re (d:=17) (v:=sl (some (b1,0)) 1 1) (v':=sl (some (b1,0)) ((([BitVec.ofInt 8 (shrI' x 24)]:List (BitVec 8))).length) 1) rfl (congrArg (fun n=>sl (some (b1,0)) n 1) rfl) ?_
  obtain ⟨h1,H⟩:=if_elim H
  obtain ⟨l1,hl1,H⟩:=ltt_elim H
  refine TLe (E_app1 (f:=v8) (j:=1) (l:=([]:List (BitVec 8))) (sp:=([]:List (BitVec 8))) (ds:=([BitVec.ofInt 8 (shrI' x 24)]:List (BitVec 8))) 0#8 (.o 0) rfl rfl rfl (fun _=>rfl) underlying86 underlying86 inf5 rfl zer5 (B':=1) rfl (by have:=h1; omega) (by have:=h1; omega) hl1) (fun q1=>?_)
  refine TVa ?_
  refine TL_nil (TX_block_normal (TX_next (TC_region (TVm ?_))))
  refine TVm ?_
  refine TLv (V_bin rfl rfl (fun w=>shrI w x .u64 16 (by decide))) ?_
  refine TLv (V_conv rfl (fun w=>cvI8 w _ _ underlying5 (und3) .i64 (shrI' x 16))) ?_
  refine TLe (E_buildSlice (pv:=[(0,v8 (BitVec.ofInt 8 (shrI' x 16)))]) rfl rfl underlying86 inf5 (s:=1) rfl zer5 rfl rfl rfl (cs:=e8 ([BitVec.ofInt 8 (shrI' x 16)]:List (BitVec 8))) (by kernel_rfl)) (fun b2=>?_)
  refine TL_re (d:=23) (v:=sl (some (b2,0)) 1 1) (v':=sl (some (b2,0)) ((([BitVec.ofInt 8 (shrI' x 16)]:List (BitVec 8))).length) 1) rfl (congrArg (fun n=>sl (some (b2,0)) n 1) rfl) ?_
  obtain ⟨h2,H⟩:=if_elim H
  obtain ⟨l2,hl2,H⟩:=ltt_elim H
  refine TLe (E_app1 (f:=v8) (j:=2) (l:=l1) (sp:=q1.2) (ds:=([BitVec.ofInt 8 (shrI' x 16)]:List (BitVec 8))) 0#8 (.o 0) rfl rfl rfl (fun _=>rfl) underlying86 underlying86 inf5 rfl zer5 (B':=1) rfl (by have:=h2; omega) (by have:=h2; omega) hl2) (fun q2=>?_)
  refine TVa ?_
  refine TL_nil (TX_block_normal (TX_next (TC_region (TVm ?_))))
  refine TVm ?_
  refine TLv (V_bin rfl rfl (fun w=>shrI w x .u64 8 (by decide))) ?_
  refine TLv (V_conv rfl (fun w=>cvI8 w _ _ underlying5 (und3) .i64 (shrI' x 8))) ?_
  refine TLe (E_buildSlice (pv:=[(0,v8 (BitVec.ofInt 8 (shrI' x 8)))]) rfl rfl underlying86 inf5 (s:=1) rfl zer5 rfl rfl rfl (cs:=e8 ([BitVec.ofInt 8 (shrI' x 8)]:List (BitVec 8))) (by kernel_rfl)) (fun b3=>?_)
  refine TL_re (d:=29) (v:=sl (some (b3,0)) 1 1) (v':=sl (some (b3,0)) ((([BitVec.ofInt 8 (shrI' x 8)]:List (BitVec 8))).length) 1) rfl (congrArg (fun n=>sl (some (b3,0)) n 1) rfl) ?_
  obtain ⟨h3,H⟩:=if_elim H
  obtain ⟨l3,hl3,H⟩:=ltt_elim H
  refine TLe (E_app1 (f:=v8) (j:=3) (l:=l2) (sp:=q2.2) (ds:=([BitVec.ofInt 8 (shrI' x 8)]:List (BitVec 8))) 0#8 (.o 0) rfl rfl rfl (fun _=>rfl) underlying86 underlying86 inf5 rfl zer5 (B':=1) rfl (by have:=h3; omega) (by have:=h3; omega) hl3) (fun q3=>?_)
  refine TVa ?_
  refine TL_nil (TX_block_normal (TX_next (TC.sub (m':=[(0,_),(5,_)]) ⟨rfl,rfl,trivial⟩ ?_)))
  refine TC_seq (TC_region (TVm ?_))
  refine TVm ?_
  refine TLv (V_conv rfl (fun w=>cvI8 w _ _ underlying5 (und3) .i64 x)) ?_
  refine TLe (E_buildSlice (pv:=[(0,v8 (BitVec.ofInt 8 x))]) rfl rfl underlying86 inf5 (s:=1) rfl zer5 rfl rfl rfl (cs:=e8 ([BitVec.ofInt 8 x]:List (BitVec 8))) (by kernel_rfl)) (fun b4=>?_)
  refine TL_re (d:=34) (v:=sl (some (b4,0)) 1 1) (v':=sl (some (b4,0)) ((([BitVec.ofInt 8 x]:List (BitVec 8))).length) 1) rfl (congrArg (fun n=>sl (some (b4,0)) n 1) rfl) ?_
  obtain ⟨h4,H⟩:=if_elim H
  obtain ⟨l4,hl4,H⟩:=ltt_elim H
  refine TLe (E_app1 (f:=v8) (j:=4) (l:=l3) (sp:=q3.2) (ds:=([BitVec.ofInt 8 x]:List (BitVec 8))) 0#8 (.o 0) rfl rfl rfl (fun _=>rfl) underlying86 underlying86 inf5 rfl zer5 (B':=1) rfl (by have:=h4; omega) (by have:=h4; omega) hl4) (fun q4=>?_)
  refine TVa ?_
  refine TL_nil (TX_next (TC_exit (TX_block_exit (TX_next (TC_seq (TC_region (TVm ?_)))))))
  refine TLv (V_b2s rfl underlying86 underlying5 underlying9 (srcRow (.o 4)) rfl) ?_
  refine TVa ?_
  refine TL_nil (TX_next (TC_ret ?_))
  obtain rfl:=sj H
  exact TX1
 ·refine TC_skip (TX_next (TC_seq (TC_seq (TC_region (TLv (V_bin rfl rfl (fun w=>eqlI w size 3)) ?_)))))
  refine TVa ?_
  obtain ⟨x2,hx2,H⟩:=ltt_elim H
  refine TLr 9 (congrArg vb hx2) ?_
  refine TL_nil (TX_next (TCb H (fun hc H=>?_) (fun hc H=>?_)))
  ·refine TC_exit (TX_then_exit (TX_then_exit (TX_block_other rfl ?_)))
   refine TX_then_exit (TX_block_exit (TX_next (TC_region (TVm ?_))))
   refine TVm ?_
   refine TLv (V_bin rfl rfl (fun w=>shrI w x .u64 16 (by decide))) ?_
   refine TLv (V_conv rfl (fun w=>cvI8 w _ _ underlying5 (und3) .i64 (shrI' x 16))) ?_
   refine TLe (E_buildSlice (pv:=[(0,v8 (BitVec.ofInt 8 (shrI' x 16)))]) rfl rfl underlying86 inf5 (s:=1) rfl zer5 rfl rfl rfl (cs:=e8 ([BitVec.ofInt 8 (shrI' x 16)]:List (BitVec 8))) (by kernel_rfl)) (fun b5=>?_)
   refine TL_re (d:=23) (v:=sl (some (b5,0)) 1 1) (v':=sl (some (b5,0)) ((([BitVec.ofInt 8 (shrI' x 16)]:List (BitVec 8))).length) 1) rfl (congrArg (fun n=>sl (some (b5,0)) n 1) rfl) ?_
   obtain ⟨h5,H⟩:=if_elim H
   obtain ⟨l5,hl5,H⟩:=ltt_elim H
   refine TLe (E_app1 (f:=v8) (j:=1) (l:=([]:List (BitVec 8))) (sp:=([]:List (BitVec 8))) (ds:=([BitVec.ofInt 8 (shrI' x 16)]:List (BitVec 8))) 0#8 (.o 0) rfl rfl rfl (fun _=>rfl) underlying86 underlying86 inf5 rfl zer5 (B':=1) rfl (by have:=h5; omega) (by have:=h5; omega) hl5) (fun q5=>?_)
   refine TVa ?_
   refine TL_nil (TX_block_normal (TX_next (TC_region (TVm ?_))))
   refine TVm ?_
   refine TLv (V_bin rfl rfl (fun w=>shrI w x .u64 8 (by decide))) ?_
   refine TLv (V_conv rfl (fun w=>cvI8 w _ _ underlying5 (und3) .i64 (shrI' x 8))) ?_
   refine TLe (E_buildSlice (pv:=[(0,v8 (BitVec.ofInt 8 (shrI' x 8)))]) rfl rfl underlying86 inf5 (s:=1) rfl zer5 rfl rfl rfl (cs:=e8 ([BitVec.ofInt 8 (shrI' x 8)]:List (BitVec 8))) (by kernel_rfl)) (fun b6=>?_)
   refine TL_re (d:=29) (v:=sl (some (b6,0)) 1 1) (v':=sl (some (b6,0)) ((([BitVec.ofInt 8 (shrI' x 8)]:List (BitVec 8))).length) 1) rfl (congrArg (fun n=>sl (some (b6,0)) n 1) rfl) ?_
   obtain ⟨h6,H⟩:=if_elim H
   obtain ⟨l6,hl6,H⟩:=ltt_elim H
   refine TLe (E_app1 (f:=v8) (j:=2) (l:=l5) (sp:=q5.2) (ds:=([BitVec.ofInt 8 (shrI' x 8)]:List (BitVec 8))) 0#8 (.o 0) rfl rfl rfl (fun _=>rfl) underlying86 underlying86 inf5 rfl zer5 (B':=1) rfl (by have:=h6; omega) (by have:=h6; omega) hl6) (fun q6=>?_)
   refine TVa ?_
   refine TL_nil (TX_block_normal (TX_next (TC_seq (TC_region (TVm ?_)))))
   refine TVm ?_
   refine TLv (V_conv rfl (fun w=>cvI8 w _ _ underlying5 (und3) .i64 x)) ?_
   refine TLe (E_buildSlice (pv:=[(0,v8 (BitVec.ofInt 8 x))]) rfl rfl underlying86 inf5 (s:=1) rfl zer5 rfl rfl rfl (cs:=e8 ([BitVec.ofInt 8 x]:List (BitVec 8))) (by kernel_rfl)) (fun b7=>?_)
   refine TL_re (d:=34) (v:=sl (some (b7,0)) 1 1) (v':=sl (some (b7,0)) ((([BitVec.ofInt 8 x]:List (BitVec 8))).length) 1) rfl (congrArg (fun n=>sl (some (b7,0)) n 1) rfl) ?_
   obtain ⟨h7,H⟩:=if_elim H
   obtain ⟨l7,hl7,H⟩:=ltt_elim H
   refine TLe (E_app1 (f:=v8) (j:=3) (l:=l6) (sp:=q6.2) (ds:=([BitVec.ofInt 8 x]:List (BitVec 8))) 0#8 (.o 0) rfl rfl rfl (fun _=>rfl) underlying86 underlying86 inf5 rfl zer5 (B':=1) rfl (by have:=h7; omega) (by have:=h7; omega) hl7) (fun q7=>?_)
   refine TVa ?_
   refine TL_nil (TX_next (TC.sub (m':=[(5,_)]) ⟨rfl,trivial⟩ ?_))
   refine TC_exit (TX_block_exit (TX_next (TC_seq (TC_region (TVm ?_)))))
   refine TLv (V_b2s rfl underlying86 underlying5 underlying9 (srcRow (.o 3)) rfl) ?_
   refine TVa ?_
   refine TL_nil (TX_next (TC_ret ?_))
   obtain rfl:=sj H
   exact TX1
  ·refine TC_skip (TX_next (TC_seq (TC_region (TLv (V_bin rfl rfl (fun w=>eqlI w size 2)) ?_))))
   refine TVa ?_
   obtain ⟨x3,hx3,H⟩:=ltt_elim H
   refine TLr 11 (congrArg vb hx3) ?_
   refine TL_nil (TX_next (TCb H (fun hc H=>?_) (fun hc H=>?_)))
   ·refine TC_exit (TX_then_exit (TX_block_other rfl ?_))
    refine TX_then_exit (TX_block_other rfl ?_)
    refine TX_then_exit (TX_block_exit (TX_next (TC_region (TVm ?_))))
    refine TVm ?_
    refine TLv (V_bin rfl rfl (fun w=>shrI w x .u64 8 (by decide))) ?_
    refine TLv (V_conv rfl (fun w=>cvI8 w _ _ underlying5 (und3) .i64 (shrI' x 8))) ?_
    refine TLe (E_buildSlice (pv:=[(0,v8 (BitVec.ofInt 8 (shrI' x 8)))]) rfl rfl underlying86 inf5 (s:=1) rfl zer5 rfl rfl rfl (cs:=e8 ([BitVec.ofInt 8 (shrI' x 8)]:List (BitVec 8))) (by kernel_rfl)) (fun b8=>?_)
    refine TL_re (d:=29) (v:=sl (some (b8,0)) 1 1) (v':=sl (some (b8,0)) ((([BitVec.ofInt 8 (shrI' x 8)]:List (BitVec 8))).length) 1) rfl (congrArg (fun n=>sl (some (b8,0)) n 1) rfl) ?_
    obtain ⟨h8,H⟩:=if_elim H
    obtain ⟨l8,hl8,H⟩:=ltt_elim H
    refine TLe (E_app1 (f:=v8) (j:=1) (l:=([]:List (BitVec 8))) (sp:=([]:List (BitVec 8))) (ds:=([BitVec.ofInt 8 (shrI' x 8)]:List (BitVec 8))) 0#8 (.o 0) rfl rfl rfl (fun _=>rfl) underlying86 underlying86 inf5 rfl zer5 (B':=1) rfl (by have:=h8; omega) (by have:=h8; omega) hl8) (fun q8=>?_)
    refine TVa ?_
    refine TL_nil (TX_block_normal (TX_next (TC_seq (TC_region (TVm ?_)))))
    refine TVm ?_
    refine TLv (V_conv rfl (fun w=>cvI8 w _ _ underlying5 (und3) .i64 x)) ?_
    refine TLe (E_buildSlice (pv:=[(0,v8 (BitVec.ofInt 8 x))]) rfl rfl underlying86 inf5 (s:=1) rfl zer5 rfl rfl rfl (cs:=e8 ([BitVec.ofInt 8 x]:List (BitVec 8))) (by kernel_rfl)) (fun b9=>?_)
    refine TL_re (d:=34) (v:=sl (some (b9,0)) 1 1) (v':=sl (some (b9,0)) ((([BitVec.ofInt 8 x]:List (BitVec 8))).length) 1) rfl (congrArg (fun n=>sl (some (b9,0)) n 1) rfl) ?_
    obtain ⟨h9,H⟩:=if_elim H
    obtain ⟨l9,hl9,H⟩:=ltt_elim H
    refine TLe (E_app1 (f:=v8) (j:=2) (l:=l8) (sp:=q8.2) (ds:=([BitVec.ofInt 8 x]:List (BitVec 8))) 0#8 (.o 0) rfl rfl rfl (fun _=>rfl) underlying86 underlying86 inf5 rfl zer5 (B':=1) rfl (by have:=h9; omega) (by have:=h9; omega) hl9) (fun q9=>?_)
    refine TVa ?_
    refine TL_nil (TX_next (TC_exit (TX_block_exit (TX_next (TC_seq (TC_region (TVm ?_)))))))
    refine TLv (V_b2s rfl underlying86 underlying5 underlying9 (srcRow (.o 2)) rfl) ?_
    refine TVa ?_
    refine TL_nil (TX_next (TC.sub (m':=[(4,_)]) ⟨rfl,trivial⟩ ?_))
    refine TC_ret ?_
    obtain rfl:=sj H
    exact TX1
   ·refine TC_skip (TX_next (TC_exit (TX_block_other rfl ?_)))
    refine TX_then_exit (TX_block_other rfl ?_)
    refine TX_then_exit (TX_block_other rfl ?_)
    refine TX_then_exit (TX_block_exit (TX_next (TC_seq (TC_region (TVm ?_)))))
    refine TVm ?_
    refine TLv (V_conv rfl (fun w=>cvI8 w _ _ underlying5 (und3) .i64 x)) ?_
    refine TLe (E_buildSlice (pv:=[(0,v8 (BitVec.ofInt 8 x))]) rfl rfl underlying86 inf5 (s:=1) rfl zer5 rfl rfl rfl (cs:=e8 ([BitVec.ofInt 8 x]:List (BitVec 8))) (by kernel_rfl)) (fun b10=>?_)
    refine TL_re (d:=34) (v:=sl (some (b10,0)) 1 1) (v':=sl (some (b10,0)) ((([BitVec.ofInt 8 x]:List (BitVec 8))).length) 1) rfl (congrArg (fun n=>sl (some (b10,0)) n 1) rfl) ?_
    obtain ⟨h10,H⟩:=if_elim H
    obtain ⟨l10,hl10,H⟩:=ltt_elim H
    refine TLe (E_app1 (f:=v8) (j:=1) (l:=([]:List (BitVec 8))) (sp:=([]:List (BitVec 8))) (ds:=([BitVec.ofInt 8 x]:List (BitVec 8))) 0#8 (.o 0) rfl rfl rfl (fun _=>rfl) underlying86 underlying86 inf5 rfl zer5 (B':=1) rfl (by have:=h10; omega) (by have:=h10; omega) hl10) (fun q10=>?_)
    refine TVa ?_
    refine TL_nil (TX_next (TC_exit (TX_block_exit (TX_next (TC_seq (TC_region (TVm ?_)))))))
    refine TLv (V_b2s rfl underlying86 underlying5 underlying9 (srcRow (.o 1)) rfl) ?_
    refine TVa ?_
    refine TL_nil (TX_next (TC_ret ?_))
    obtain rfl:=sj H
    exact TX1
end Go.Proofs
end

section
namespace Go.Proofs
open Go Go.Kx
open TryzI Tryz
def wire_Put (x:Int) (size:Int):Option (Str × Int) :=
 if size<1 then (some (([]:Str),101)) else (if 4<size then (some (([]:Str),101)) else (if x<0 then (some (([]:Str),101)) else (if 0≤w64 (8 * size) then (if (shrI' x (w64 (8 * size))) ≠ 0 then (some (([]:Str),101)) else ((wire_Bytes x size).bind fun (r_1:Str)=>(some (r_1,0)))) else none)))
set_option maxHeartbeats 4000000 in
set_option maxRecDepth 20000 in
theorem F133_calls (x:Int) (size:Int) (r:Str × Int) (H:wire_Put x size=some r) :
  Does Tryz.prog 133 [vi x,vi size] [] [] (Γ:=Unit) (fun g=>Value.tuple [vs r.1,vi r.2].toArray) (fun g=>[]):=by
 intro w hmem hro hd
 refine calls_of (N:=26) (m0:=[(0,vi x),(1,vi size)]) func133 rfl ntmps133 (argM_ok [vi x,vi size]) rfl hmem hro hd ?_
 unfold wire_Put at H
 refine TC_seq (TC_region (TVa ?_))
 refine TVa ?_
 refine TL_nil (TX_next (TC_seq (TC_seq (TC_region (TVm ?_)))))
 refine TLv (V_bin rfl rfl (fun w=>lssI w size 1)) ?_
 refine TVm ?_
 refine TFd (d:=8) H (fun hc H=>?_) (fun hc H=>?_)
 ·refine TLs ?_
  refine TLs ?_
  refine TVt ?_
  refine TVm ?_
  refine TLs ?_
  refine TLs ?_
  refine TVt ?_
  refine TVm ?_
  refine TLs ?_
  refine TLs ?_
  refine TLs ?_
  refine TLs ?_
  refine TLs ?_
  refine TVt ?_
  refine TL_nil (TX_next (TC_cond_t rfl ?_))
  refine TC_seq (TC_region (TVa ?_))
  refine TVa ?_
  refine TL_nil (TX_next (TC_ret (TX_then_ret ?_)))
  obtain rfl:=sj H
  exact TX2
 ·refine TLw (V_move rfl) ?_
  refine TLw (V_bin rfl rfl (fun w=>gtrI w size 4)) ?_
  refine TVf ?_
  refine TVm ?_
  refine TFd (d:=12) H (fun hc H=>?_) (fun hc H=>?_)
  ·refine TLs ?_
   refine TLs ?_
   refine TVt ?_
   refine TVm ?_
   refine TLs ?_
   refine TLs ?_
   refine TLs ?_
   refine TLs ?_
   refine TLs ?_
   refine TVt ?_
   refine TL_nil (TX_next (TC_cond_t rfl ?_))
   refine TC_seq (TC_region (TVa ?_))
   refine TVa ?_
   refine TL_nil (TX_next (TC_ret (TX_then_ret ?_)))
   obtain rfl:=sj H
   exact TX2
  ·refine TLw (V_move rfl) ?_
   refine TLw (V_bin rfl rfl (fun w=>lssI w x 0)) ?_
   refine TVf ?_
   refine TVm ?_
   refine TFd (d:=16) H (fun hc H=>?_) (fun hc H=>?_)
   ·refine TLs ?_
    refine TLs ?_
    refine TLs ?_
    refine TLs ?_
    refine TLs ?_
    refine TVt ?_
    refine TL_nil (TX_next (TC_cond_t rfl ?_))
    refine TC_seq (TC_region (TVa ?_))
    refine TVa ?_
    refine TL_nil (TX_next (TC_ret (TX_then_ret ?_)))
    obtain rfl:=sj H
    exact TX2
   ·refine TLw (V_move rfl) ?_
    refine TLw (V_move rfl) ?_
    refine TLw (V_bin rfl rfl (fun w=>mulI w 8 size)) ?_
    obtain ⟨h1,H⟩:=if_elim H
    refine TLw (V_bin rfl rfl (fun w=>shrI w x .i64 (w64 (8 * size)) h1)) ?_
    refine TLw (V_bin rfl rfl (fun w=>neqI w (shrI' x (w64 (8 * size))) 0)) ?_
    refine TVf ?_
    refine TL_nil (TX_next (TCd H (fun hc H=>?_) (fun hc H=>?_)))
    ·refine TC_seq (TC_region (TVa ?_))
     refine TVa ?_
     refine TL_nil (TX_next (TC_ret (TX_then_ret ?_)))
     obtain rfl:=sj H
     exact TX2
    ·refine TC_skip (TX_next (TC_seq (TC_region (TVm ?_))))
     refine TVm ?_
     obtain ⟨r_1,hr_1,H⟩:=bind_elim H
     refine TLe (E_c0 (F134_calls x size r_1 hr_1) call134 .z) (fun g_1=>?_)
     refine TVa ?_
     refine TVa ?_
     refine TL_nil (TX_next (TC_ret ?_))
     obtain rfl:=sj H
     exact TX2
end Go.Proofs
end

section
namespace Go.Proofs
open Go Go.Kx
open TryzI Tryz
def ticket_plain.b0 (r_2:Str × Int) (r_3:Str × Int) (s0:Int):Option ((Int) ⊕ ((Unit) ⊕ (Str × Er))) :=
 if s0<2 then (if 0≤s0∧s0<(2:Int) then (if (s0).toNat<(([r_2.2,r_3.2]:List (Int))).length then (ltt (lg ([r_2.2,r_3.2]:List (Int)) ((s0).toNat)) fun (x2:Int)=>(if x2 ≠ 0 then (ltt (Er.wr 2000 (Er.no x2)) fun (x3:Er)=>(some (.inr (.inr (([]:Str),x3))))) else (some (.inl (w64 (s0+1)))))) else none) else none) else (some (.inr (.inl ())))
def ticket_plain (t_Suite:Int) (t_Secret:Str) (t_Made:Int) (t_Add:Int):Option (Str × Er) :=
 (aead_Sizes t_Suite).bind fun (r_1:Int × Int × Int)=>(if r_1.2.2 ≠ 0 then (ltt (Er.wr 2000 (Er.no r_1.2.2)) fun (x1:Er)=>(some (([]:Str),x1))) else ((wire_Put t_Made 4).bind fun (r_2:Str × Int)=>((wire_Put t_Add 4).bind fun (r_3:Str × Int)=>((loop (ticket_plain.b0 r_2 r_3) BIG 0).bind fun (t_1:(Unit) ⊕ (Str × Er))=>(match t_1 with | .inl t_1=>(if ((t_Secret).length:Int) ≠ (w64 (r_1.2.1.tdiv 8)) then (some (([]:Str),Er.no 2000)) else ((wire_Bytes t_Suite 2).bind fun (r_4:Str)=>(if (r_4).length+(r_2.1).length≤4611686018427387904 then (if (r_4++r_2.1).length+(r_3.1).length≤4611686018427387904 then (if ((r_4++r_2.1)++r_3.1).length+(t_Secret).length≤4611686018427387904 then (ltt (((r_4++r_2.1)++r_3.1)++t_Secret) fun (x4:Str)=>(some (x4,Er.nil))) else none) else none) else none))) | .inr rv=>some rv)))))
set_option maxHeartbeats 4000000 in
set_option maxRecDepth 20000 in
theorem F122_calls (t_Suite:Int) (t_Secret:Str) (t_Made:Int) (t_Add:Int) (r:Str × Er) (H:ticket_plain t_Suite t_Secret t_Made t_Add=some r) :
  Does Tryz.prog 122 [aG [(1,[vi t_Suite]),(1,[vs t_Secret]),(1,[vi t_Made]),(1,[vi t_Add])]] [] [] (Γ:=Unit) (fun g=>Value.tuple [vs r.1,vE r.2].toArray) (fun g=>[]):=by
 intro w hmem hro hd
 refine calls_of (N:=69) (m0:=[(0,aG [(1,[vi t_Suite]),(1,[vs t_Secret]),(1,[vi t_Made]),(1,[vi t_Add])])]) func122 rfl ntmps122 (argM_ok [aG [(1,[vi t_Suite]),(1,[vs t_Secret]),(1,[vi t_Made]),(1,[vi t_Add])]]) rfl hmem hro hd ?_
 unfold ticket_plain at H
 refine TC_seq (TC_region (TLe (E_boxP [(1,[vi t_Suite]),(1,[vs t_Secret]),(1,[vi t_Made]),(1,[vi t_Add])] rfl rfl ⟨rfl,rfl,rfl,rfl,trivial⟩) (fun b1=>?_)))
 refine TVa ?_
 refine TVa ?_
 refine TL_nil (TX_next (TC_seq (TC_region (TLv (V_fieldE rfl underlying66 rfl rfl inf3 rfl (v:=ptr (some (b1,0)) 0) rfl) ?_))))
 refine TLv (V_load rfl (.o 0) rfl isAgg3) ?_
 obtain ⟨r_1,hr_1,H⟩:=bind_elim H
 refine TLe (E_c0 (F70_calls t_Suite r_1 hr_1) call70 .z) (fun g_1=>?_)
 refine TVm ?_
 refine TLv V_ex ?_
 refine TLv V_ex ?_
 refine TLv V_ex ?_
 refine TVa ?_
 refine TVa ?_
 refine TVa ?_
 refine TL_nil (TX_next (TC_seq (TC_seq (TC_region (TVm ?_)))))
 refine TLv (V_bin rfl rfl (fun w=>neqI w r_1.2.2 0)) ?_
 refine TL_nil (TX_next (TCd H (fun hc H=>?_) (fun hc H=>?_)))
 ·refine TC_seq (TC_region (TVm ?_))
  refine TLv (V_mkI rfl underlying36 rfl (r:=vE (Er.no r_1.2.2)) rfl) ?_
  refine TLv (V_buildStruct (pv:=[(0,vi 2000),(1,vE (Er.no r_1.2.2))]) (pl:=[(0,1),(1,1)]) rfl rfl underlying179 inf179 places179 zer179 (cs:=flat [(1,[vi 2000]),(1,[vE (Er.no r_1.2.2)])]) (by kernel_rfl)) ?_
  refine TLv (V_mkI rfl underlying179 rfl (r:=vE (Er.wr 2000 (Er.no r_1.2.2))) rfl) ?_
  refine TVa ?_
  refine TVa ?_
  obtain ⟨x1,hx1,H⟩:=ltt_elim H
  refine TLr 3 (congrArg vE hx1) ?_
  refine TL_nil (TX_next (TC_ret (TX_then_ret ?_)))
  obtain rfl:=sj H
  exact TX2
 ·refine TC_skip (TX_next (TC_seq (TC_region (TLv (V_fieldE rfl underlying66 rfl rfl inf3 rfl (v:=ptr (some (b1,2)) 0) rfl) ?_))))
  refine TLv (V_load rfl (.o 2) rfl isAgg3) ?_
  obtain ⟨r_2,hr_2,H⟩:=bind_elim H
  refine TLe (E_c0 (F133_calls t_Made 4 r_2 hr_2) call133 .z) (fun g_2=>?_)
  refine TVm ?_
  refine TLv V_ex ?_
  refine TLv V_ex ?_
  refine TVa ?_
  refine TVa ?_
  refine TL_nil (TX_next (TC_seq (TC_region (TLv (V_fieldE rfl underlying66 rfl rfl inf3 rfl (v:=ptr (some (b1,3)) 0) rfl) ?_))))
  refine TLv (V_load rfl (.o 3) rfl isAgg3) ?_
  obtain ⟨r_3,hr_3,H⟩:=bind_elim H
  refine TLe (E_c0 (F133_calls t_Add 4 r_3 hr_3) call133 .z) (fun g_3=>?_)
  refine TVm ?_
  refine TLv V_ex ?_
  refine TLv V_ex ?_
  refine TVa ?_
  refine TVa ?_
  refine TL_nil (TX_next (TC.sub (m':=[(1,_),(5,_),(6,_),(7,_),(8,_),(9,_)]) ⟨rfl,rfl,rfl,rfl,rfl,rfl,trivial⟩ ?_))
  refine TC.pull (is:=[0,0,0,0]) (L':=[_,_,_,_]) rfl ?_
  refine TC_seq (TC_seq (TC_region (TVm ?_)))
  refine TVm ?_
  refine TLe (E_buildSlice (pv:=[(0,vi r_2.2),(1,vi r_3.2)]) rfl rfl underlying197 inf36 (s:=1) rfl zer36 rfl rfl rfl (cs:=eI ([r_2.2,r_3.2]:List (Int))) (by kernel_rfl)) (fun b2=>?_)
  refine TLv (V_len_slice rfl underlying197) ?_
  refine TVm ?_
  refine TL_nil (TX_next (TC_block ?_))
  obtain ⟨t_1,Hl,H⟩:=bind_elim H
  refine TC.sub (m':=[(1,_),(5,_),(7,_),(8,_),(39,_),(40,_),(41,_)]) ⟨rfl,rfl,rfl,rfl,rfl,rfl,rfl,trivial⟩ ?_
  refine TC.pull (is:=[1,1,1,1,0]) (L':=[_,_,_,_,_]) rfl ?_
  refine TC_loopR (id:=0) (body:=(ticket_plain.b0 r_2 r_3)) (σ:=Int) (Γ:=Unit) (Γx:=Unit) (fun s0 g0_=>[(1,ptr (some (b1,0)) 0),(5,vi r_1.2.1),(7,vs r_2.1),(8,vs r_3.1),(39,sl (some (b2,0)) 2 2),(40,vi 2),(41,vi s0)]) (fun s0 g0_=>[⟨some (b1,0),[vi t_Suite]⟩,⟨some (b1,1),[vs t_Secret]⟩,⟨some (b1,2),[vi t_Made]⟩,⟨some (b1,3),[vi t_Add]⟩,⟨some (b2,0),eI ([r_2.2,r_3.2]:List (Int))⟩]) (fun t g=>[(1,ptr (some (b1,0)) 0),(5,vi r_1.2.1),(7,vs r_2.1),(8,vs r_3.1)]) (fun t g=>[⟨some (b1,0),[vi t_Suite]⟩,⟨some (b1,1),[vs t_Secret]⟩,⟨some (b1,2),[vi t_Made]⟩,⟨some (b1,3),[vi t_Add]⟩]) r ?_ BIG 0 () t_1 Hl ?_
  ·intro s0 g0_ r1 H K hK hE hR1
   unfold ticket_plain.b0 at H
   refine TC_seq (TC_region (TLv (V_bin rfl rfl (fun w=>lssI w s0 2)) ?_))
   refine TL_nil (TX_next (TC_seq (TCd H (fun hc H=>?_) (fun hc H=>?_))))
   ·refine TC_skip (TX_next (TC_seq (TC_block (TC_seq (TC_region ?_)))))
    obtain ⟨h1,H⟩:=if_elim H
    obtain ⟨h2,H⟩:=if_elim H
    refine TLv (V_idxSl (i:=s0) rfl rfl underlying197 inf36 rfl (fun _ h=>by cases h) h1.1 h1.2 (k:=(s0).toNat) (km1 _)) ?_
    refine TLv (V_load rfl (.o 4) (get_map (f:=vi) (l:=([r_2.2,r_3.2]:List (Int))) h2) isAgg36) ?_
    refine TVa ?_
    obtain ⟨x2,hx2,H⟩:=ltt_elim H
    refine TLr 11 (congrArg vi hx2) ?_
    refine TL_nil (TX_next (TC_seq (TC_region (TVm ?_))))
    refine TLv (V_bin rfl rfl (fun w=>neqI w x2 0)) ?_
    refine TL_nil (TX_next (TCd H (fun hc H=>?_) (fun hc H=>?_)))
    ·refine TC_seq (TC_region (TVm ?_))
     refine TLv (V_mkI rfl underlying36 rfl (r:=vE (Er.no x2)) rfl) ?_
     refine TLv (V_buildStruct (pv:=[(0,vi 2000),(1,vE (Er.no x2))]) (pl:=[(0,1),(1,1)]) rfl rfl underlying179 inf179 places179 zer179 (cs:=flat [(1,[vi 2000]),(1,[vE (Er.no x2)])]) (by kernel_rfl)) ?_
     refine TLv (V_mkI rfl underlying179 rfl (r:=vE (Er.wr 2000 (Er.no x2))) rfl) ?_
     refine TVa ?_
     refine TVa ?_
     obtain ⟨x3,hx3,H⟩:=ltt_elim H
     refine TLr 3 (congrArg vE hx3) ?_
     refine TL_nil (TX_next (TC_ret (TX_block_ret (TX_then_ret (TX_then_ret (TX_block_ret (TX_then_ret ?_)))))))
     have hrv:=(hR1 _ (Option.some.inj H).symm)
     subst hrv
     exact TX2
    ·refine TC_skip (TX_block_normal (TX_next (TC_region (TLv (V_bin rfl rfl (fun w=>addI w s0 1)) ?_))))
     refine TVm ?_
     refine TL_nil ?_
     obtain rfl:=sj H
     exact TXk [0,0,0,0,0] (hK (w64 (s0+1)) rfl ())
   ·refine TC_exit (TX_then_exit (TX_then_exit ?_))
    obtain rfl:=sj H
    exact TXj [0,0,0,0] (hE () rfl ())
  ·rcases t_1 with t_1 | rv
   ·intro gx1
    dsimp only at H
    refine TX_block_exit (TX_next (TC_seq (TC_seq (TC_region (TLv (V_fieldE rfl underlying66 rfl rfl inf9 rfl (v:=ptr (some (b1,1)) 0) rfl) ?_)))))
    refine TLv (V_load rfl (.o 1) rfl isAgg9) ?_
    refine TLv (V_len_str rfl underlying9) ?_
    refine TVm ?_
    refine TLv (V_bin rfl rfl (fun w=>quoI w r_1.2.1 8 (by decide))) ?_
    refine TLv (V_bin rfl rfl (fun w=>neqI w ((t_Secret).length:Int) (w64 (r_1.2.1.tdiv 8)))) ?_
    refine TL_nil (TX_next (TCd H (fun hc H=>?_) (fun hc H=>?_)))
    ·refine TC_seq (TC_region (TLv (V_mkI rfl underlying36 rfl (r:=vE (Er.no 2000)) rfl) ?_))
     refine TVa ?_
     refine TVa ?_
     refine TL_nil (TX_next (TC_ret (TX_then_ret ?_)))
     obtain rfl:=sj H
     exact TX2
    ·refine TC_skip (TX_next (TC_seq ?_))
     obtain ⟨r_4,hr_4,H⟩:=bind_elim H
     obtain ⟨h3,H⟩:=if_elim H
     obtain ⟨h4,H⟩:=if_elim H
     obtain ⟨h5,H⟩:=if_elim H
     obtain ⟨x4,hx4,H⟩:=ltt_elim H
     refine TA_begin [] 12 (by kernel_rfl) (N:=12) rfl ?_
     refine TA_mix (is:=[]) (done':=dn 12 1023) [itV 0 59 (ptr (some (b1,0)) 0) [],itV 1 60 (vi t_Suite) [0],itV 2 61 (vs r_4) [1],itV 3 62 (vs r_2.1) [],itV 4 63 (vs (r_4++r_2.1)) [2,3],itV 5 64 (vs r_3.1) [],itV 6 65 (vs ((r_4++r_2.1)++r_3.1)) [5,4],itV 7 66 (ptr (some (b1,1)) 0) [],itV 8 67 (vs t_Secret) [7],itV 9 68 (vs (((r_4++r_2.1)++r_3.1)++t_Secret)) [6,8]] [] 2 (by kernel_rfl) (QP.then QP.body) (by kernel_rfl) rfl (.v rfl (V_fe underlying66 inf3) (.v rfl (V_load rfl (.o 0) rfl isAgg3) (.e rfl (E_cu (F134_calls t_Suite 2 r_4 hr_4) call134 .z) (.v rfl (V_move rfl) (.v rfl (V_bin rfl rfl (fun w=>addS w r_4 r_2.1 h3)) (.v rfl (V_move rfl) (.v rfl (V_bin rfl rfl (fun w=>addS w (r_4++r_2.1) r_3.1 h4)) (.v rfl (V_fe underlying66 inf9) (.v rfl (V_load rfl (.o 1) rfl isAgg9) (.v rfl (V_bin rfl rfl (fun w=>addS w ((r_4++r_2.1)++r_3.1) t_Secret h5)) .nil)))))))))) .nil (by kernel_rfl) rfl (fun γ=>?_)
     refine TA_cut [(68,vs (((r_4++r_2.1)++r_3.1)++t_Secret))] [⟨some (b1,0),[vi t_Suite]⟩,⟨some (b1,1),[vs t_Secret]⟩,⟨some (b1,2),[vi t_Made]⟩,⟨some (b1,3),[vi t_Add]⟩] ⟨rfl,trivial⟩ rfl ?_
     refine TA_all (rs:=[10]) (by kernel_rfl) rfl ?_
     refine ⟨?_,trivial⟩
     refine TO_v (is:=[]) (done':=dn 12 2047) rfl rfl rfl rfl (by kernel_rfl) (V_assign rfl) (fun _=>rfl) ?_
     refine TA_re (d:=2) (v:=vs (((r_4++r_2.1)++r_3.1)++t_Secret)) (v':=vs x4) rfl (congrArg vs hx4) ?_
     refine TA_all (rs:=[11]) (by kernel_rfl) rfl ?_
     refine ⟨?_,trivial⟩
     refine TO_v (is:=[]) (done':=dn 12 4095) rfl rfl rfl rfl (by kernel_rfl) (V_assign rfl) (fun _=>rfl) ?_
     refine TA_done (by kernel_rfl) ?_ 0
     refine TX_next (TC_ret ?_)
     obtain rfl:=sj H
     exact TX2
   ·exact (Option.some.inj H)
end Go.Proofs
end

section
namespace Go.Proofs
open Go Go.Kx
open TryzI Tryz
def ticket_open (key:Str) (s_:Str):Option (Int × Str × Int × Int × Er) :=
 if ((s_).length:Int)<12 then (some (0,([]:Str),0,0,Er.no 2001)) else (if 12≤(s_).length then (if 12≤(s_).length then ((gcm_Open key (sub s_ 0 12) ([]:Str) (sub s_ 12 ((s_).length))).bind fun (r_1:Str × Int)=>(if r_1.2 ≠ 0 then (ltt (Er.wr 2001 (Er.no r_1.2)) fun (x1:Er)=>(some (0,([]:Str),0,0,x1))) else ((wire_U16 r_1.1 0).bind fun (r_2:Int × Int × Int)=>((wire_U32 r_1.1 r_2.2.1).bind fun (r_3:Int × Int × Int)=>((wire_U32 r_1.1 r_3.2.1).bind fun (r_4:Int × Int × Int)=>(if r_4.2.2 ≠ 0 then (ltt (Er.wr 2001 (Er.no r_4.2.2)) fun (x2:Er)=>(some (0,([]:Str),0,0,x2))) else (if 0≤r_4.2.1 then (if (r_4.2.1).toNat≤(r_1.1).length then ((ticket_plain r_2.1 (sub r_1.1 ((r_4.2.1).toNat) ((r_1.1).length)) r_3.1 r_4.1).bind fun (r_5:Str × Er)=>((if (!(Er.isNil r_5.2))=true then (some true) else (some (decide (r_5.1 ≠ r_1.1)))).bind fun (j1:Bool)=>(if j1=true then (some (0,([]:Str),0,0,Er.no 2001)) else (some (r_2.1,sub r_1.1 ((r_4.2.1).toNat) ((r_1.1).length),r_3.1,r_4.1,Er.nil))))) else none) else none))))))) else none) else none)
set_option maxHeartbeats 4000000 in
set_option maxRecDepth 20000 in
theorem F102_calls (key:Str) (s_:Str) (r:Int × Str × Int × Int × Er) (H:ticket_open key s_=some r) :
  Does Tryz.prog 102 [vs key,vs s_] [] [] (Γ:=Unit) (fun g=>Value.tuple [aG [(1,[vi r.1]),(1,[vs r.2.1]),(1,[vi r.2.2.1]),(1,[vi r.2.2.2.1])],vE r.2.2.2.2].toArray) (fun g=>[]):=by
 intro w hmem hro hd
 refine calls_of (N:=87) (m0:=[(0,vs key),(1,vs s_)]) func102 rfl ntmps102 (argM_ok [vs key,vs s_]) rfl hmem hro hd ?_
 unfold ticket_open at H
 refine TC_seq (TC_region (TLe (E_ap inf66 zer66) (fun b1=>?_)))
 refine TVa ?_
 refine TL_nil (TX_next (TC_seq (TC_seq (TC_region (TVm ?_)))))
 refine TLv (V_len_str rfl underlying9) ?_
 refine TLv (V_bin rfl rfl (fun w=>lssI w ((s_).length:Int) 12)) ?_
 refine TL_nil (TX_next (TCd H (fun hc H=>?_) (fun hc H=>?_)))
 ·refine TC_seq (TC_region (TLv (V_buildStruct (pv:=[]) (pl:=[(0,1),(1,1),(2,1),(3,1)]) rfl rfl underlying66 inf66 places66 zer66 (cs:=flat [(1,[vi 0]),(1,[vs ([]:Str)]),(1,[vi 0]),(1,[vi 0])]) (by kernel_rfl)) ?_))
  refine TLv (V_mkI rfl underlying36 rfl (r:=vE (Er.no 2001)) rfl) ?_
  refine TLn (E_sq (b:=b1) (o:=0) [0,0,0,0] [(1,_),(1,_),(1,_),(1,_)] rfl inf66) (fun _=>?_)
  refine TVa ?_
  refine TL_nil (TX_next (TC_ret (TX_then_ret ?_)))
  obtain rfl:=sj H
  exact TXr (vs:=[_,_]) rfl ⟨(Res_lp (b:=b1) (o:=0) (n:=4) (ps:=[(1,_),(1,_),(1,_),(1,_)]) ⟨.o 0, .o 1, .o 2, .o 3,trivial⟩ isAgg66 inf66),rfl,trivial⟩
 ·refine TC_skip (TX_next (TC_seq ?_))
  obtain ⟨h1,H⟩:=if_elim H
  obtain ⟨h2,H⟩:=if_elim H
  obtain ⟨r_1,hr_1,H⟩:=bind_elim H
  refine TA_begin [] 11 (by kernel_rfl) (N:=11) rfl ?_
  refine TA_mix (is:=[]) (done':=dn 11 2047) [itV 0 23 (vs key) [],itV 1 24 (vs s_) [],itV 2 25 (vs (sub s_ 0 12)) [1],itV 3 26 (vs s_) [],itV 4 27 (vs (sub s_ 12 ((s_).length))) [3],itV 5 28 (Value.tuple [vs r_1.1,vi r_1.2].toArray) [2,4,0],itV 6 22 (Value.tuple [vs r_1.1,vi r_1.2].toArray) [5],itV 7 29 (vs r_1.1) [6],itV 8 30 (vi r_1.2) [6],itV 9 6 (vs r_1.1) [7],itV 10 7 (vi r_1.2) [8]] [] 0 (by kernel_rfl) (QP.then QP.body) (by kernel_rfl) rfl (.v rfl (V_move rfl) (.v rfl (V_move rfl) (.v rfl (V_sliceStr (l:=0) (h:=12) rfl underlying9 Bnd.none' (Bnd.some' (i:=12) rfl (by decide)) (Nat.zero_le _) h1) (.v rfl (V_move rfl) (.v rfl (V_sliceStr (l:=12) (h:=(s_).length) rfl underlying9 (Bnd.some' (i:=12) rfl (by decide)) Bnd.none' h2 (Nat.le_refl _)) (.e rfl (E_cu (F119_calls key (sub s_ 0 12) ([]:Str) (sub s_ 12 ((s_).length)) r_1 hr_1) call119 .z) (.v rfl (V_move rfl) (.v rfl V_ex (.v rfl V_ex (.v rfl (V_assign rfl) (.v rfl (V_assign rfl) .nil))))))))))) .nil (by kernel_rfl) rfl (fun γ=>?_)
  refine TA_cut [(7,vi r_1.2),(6,vs r_1.1),(4,ptr (some (b1,0)) 0)] [⟨some (b1,0),[vi 0]⟩,⟨some (b1,1),[vs ([]:Str)]⟩,⟨some (b1,2),[vi 0]⟩,⟨some (b1,3),[vi 0]⟩] ⟨rfl,rfl,rfl,trivial⟩ rfl ?_
  refine TA_done (by kernel_rfl) ?_ 0
  refine TX_next (TC_seq (TC_seq (TC_region (TVm ?_))))
  refine TLv (V_bin rfl rfl (fun w=>neqI w r_1.2 0)) ?_
  refine TL_nil (TX_next (TCd H (fun hc H=>?_) (fun hc H=>?_)))
  ·refine TC_seq (TC_region (TLv (V_buildStruct (pv:=[]) (pl:=[(0,1),(1,1),(2,1),(3,1)]) rfl rfl underlying66 inf66 places66 zer66 (cs:=flat [(1,[vi 0]),(1,[vs ([]:Str)]),(1,[vi 0]),(1,[vi 0])]) (by kernel_rfl)) ?_))
   refine TVm ?_
   refine TLv (V_mkI rfl underlying36 rfl (r:=vE (Er.no r_1.2)) rfl) ?_
   refine TLv (V_buildStruct (pv:=[(0,vi 2001),(1,vE (Er.no r_1.2))]) (pl:=[(0,1),(1,1)]) rfl rfl underlying179 inf179 places179 zer179 (cs:=flat [(1,[vi 2001]),(1,[vE (Er.no r_1.2)])]) (by kernel_rfl)) ?_
   refine TLv (V_mkI rfl underlying179 rfl (r:=vE (Er.wr 2001 (Er.no r_1.2))) rfl) ?_
   refine TLn (E_sq (b:=b1) (o:=0) [0,0,0,0] [(1,_),(1,_),(1,_),(1,_)] rfl inf66) (fun _=>?_)
   refine TVa ?_
   obtain ⟨x1,hx1,H⟩:=ltt_elim H
   refine TLr 5 (congrArg vE hx1) ?_
   refine TL_nil (TX_next (TC_ret (TX_then_ret ?_)))
   obtain rfl:=sj H
   exact TXr (vs:=[_,_]) rfl ⟨(Res_lp (b:=b1) (o:=0) (n:=4) (ps:=[(1,_),(1,_),(1,_),(1,_)]) ⟨.o 0, .o 1, .o 2, .o 3,trivial⟩ isAgg66 inf66),rfl,trivial⟩
  ·refine TC_skip (TX_next (TC_seq (TC_region (TVm ?_))))
   obtain ⟨r_2,hr_2,H⟩:=bind_elim H
   refine TLe (E_c0 (F120_calls r_1.1 0 r_2 hr_2) call120 .z) (fun g_2=>?_)
   refine TVm ?_
   refine TLv V_ex ?_
   refine TLv V_ex ?_
   refine TLv V_ex ?_
   refine TVa ?_
   refine TVa ?_
   refine TVa ?_
   refine TL_nil (TX_next (TC_seq (TC_region (TVm ?_))))
   refine TVm ?_
   obtain ⟨r_3,hr_3,H⟩:=bind_elim H
   refine TLe (E_c0 (F121_calls r_1.1 r_2.2.1 r_3 hr_3) call121 .z) (fun g_3=>?_)
   refine TVm ?_
   refine TLv V_ex ?_
   refine TLv V_ex ?_
   refine TLv V_ex ?_
   refine TVa ?_
   refine TVa ?_
   refine TVa ?_
   refine TL_nil (TX_next (TC_seq (TC_region (TVm ?_))))
   refine TVm ?_
   obtain ⟨r_4,hr_4,H⟩:=bind_elim H
   refine TLe (E_c0 (F121_calls r_1.1 r_3.2.1 r_4 hr_4) call121 .z) (fun g_4=>?_)
   refine TVm ?_
   refine TLv V_ex ?_
   refine TLv V_ex ?_
   refine TLv V_ex ?_
   refine TVa ?_
   refine TVa ?_
   refine TVa ?_
   refine TL_nil (TX_next (TC.sub (m':=[(4,_),(6,_),(7,_),(8,_),(9,_),(11,_),(13,_)]) ⟨rfl,rfl,rfl,rfl,rfl,rfl,rfl,trivial⟩ ?_))
   refine TC.pull (is:=[0,0,0,0]) (L':=[_,_,_,_]) rfl ?_
   refine TC_seq (TC_seq (TC_region (TVm ?_)))
   refine TLv (V_bin rfl rfl (fun w=>neqI w r_4.2.2 0)) ?_
   refine TL_nil (TX_next (TCd H (fun hc H=>?_) (fun hc H=>?_)))
   ·refine TC_seq (TC_region (TLv (V_buildStruct (pv:=[]) (pl:=[(0,1),(1,1),(2,1),(3,1)]) rfl rfl underlying66 inf66 places66 zer66 (cs:=flat [(1,[vi 0]),(1,[vs ([]:Str)]),(1,[vi 0]),(1,[vi 0])]) (by kernel_rfl)) ?_))
    refine TVm ?_
    refine TLv (V_mkI rfl underlying36 rfl (r:=vE (Er.no r_4.2.2)) rfl) ?_
    refine TLv (V_buildStruct (pv:=[(0,vi 2001),(1,vE (Er.no r_4.2.2))]) (pl:=[(0,1),(1,1)]) rfl rfl underlying179 inf179 places179 zer179 (cs:=flat [(1,[vi 2001]),(1,[vE (Er.no r_4.2.2)])]) (by kernel_rfl)) ?_
    refine TLv (V_mkI rfl underlying179 rfl (r:=vE (Er.wr 2001 (Er.no r_4.2.2))) rfl) ?_
    refine TLn (E_sq (b:=b1) (o:=0) [0,0,0,0] [(1,_),(1,_),(1,_),(1,_)] rfl inf66) (fun _=>?_)
    refine TVa ?_
    obtain ⟨x2,hx2,H⟩:=ltt_elim H
    refine TLr 5 (congrArg vE hx2) ?_
    refine TL_nil (TX_next (TC_ret (TX_then_ret ?_)))
    obtain rfl:=sj H
    exact TXr (vs:=[_,_]) rfl ⟨(Res_lp (b:=b1) (o:=0) (n:=4) (ps:=[(1,_),(1,_),(1,_),(1,_)]) ⟨.o 0, .o 1, .o 2, .o 3,trivial⟩ isAgg66 inf66),rfl,trivial⟩
   ·refine TC_skip (TX_next (TC_seq (TC_region (TVm ?_))))
    refine TVm ?_
    refine TVm ?_
    obtain ⟨h3,H⟩:=if_elim H
    obtain ⟨h4,H⟩:=if_elim H
    refine TLv (V_sliceStr (l:=(r_4.2.1).toNat) (h:=(r_1.1).length) rfl underlying9 (Bnd.some' (i:=r_4.2.1) rfl h3) Bnd.none' h4 (Nat.le_refl _)) ?_
    refine TVm ?_
    refine TVm ?_
    refine TLv (V_buildStruct (pv:=[(0,vi r_2.1),(1,vs (sub r_1.1 ((r_4.2.1).toNat) ((r_1.1).length))),(2,vi r_3.1),(3,vi r_4.1)]) (pl:=[(0,1),(1,1),(2,1),(3,1)]) rfl rfl underlying66 inf66 places66 zer66 (cs:=flat [(1,[vi r_2.1]),(1,[vs (sub r_1.1 ((r_4.2.1).toNat) ((r_1.1).length))]),(1,[vi r_3.1]),(1,[vi r_4.1])]) (by kernel_rfl)) ?_
    refine TLe (E_ap inf66 zer66) (fun b2=>?_)
    refine TLn (E_sq (b:=b2) (o:=0) [0,0,0,0] [(1,_),(1,_),(1,_),(1,_)] rfl inf66) (fun _=>?_)
    refine TL_nil (TX_next (TC_seq (TC_seq (TC_region (TLv (V_lp (b:=b2) (o:=0) (n:=4) (ps:=[(1,_),(1,_),(1,_),(1,_)]) ⟨.o 0, .o 1, .o 2, .o 3,trivial⟩ isAgg66 inf66) ?_)))))
    obtain ⟨r_5,hr_5,H⟩:=bind_elim H
    refine TLe (E_c0 (F122_calls r_2.1 (sub r_1.1 ((r_4.2.1).toNat) ((r_1.1).length)) r_3.1 r_4.1 r_5 hr_5) call122 .z) (fun g_5=>?_)
    refine TVm ?_
    refine TLv V_ex ?_
    refine TLv V_ex ?_
    refine TVa ?_
    refine TVa ?_
    refine TL_nil (TX_next (TC_seq (TC_region (TVm ?_))))
    refine TLv (V_bin rfl rfl (fun w=>neqE w r_5.2 underlying153)) ?_
    refine TVm ?_
    obtain ⟨j1,Hj,H⟩:=bind_elim H
    refine TL_join (Γ:=Unit) (fun gj1=>[(4,ptr (some (b1,0)) 0),(14,ptr (some (b2,0)) 0),(83,vb j1)]) (fun gj1=>[⟨some (b1,0),[vi 0]⟩,⟨some (b1,1),[vs ([]:Str)]⟩,⟨some (b1,2),[vi 0]⟩,⟨some (b1,3),[vi 0]⟩,⟨some (b2,0),[vi r_2.1]⟩,⟨some (b2,1),[vs (sub r_1.1 ((r_4.2.1).toNat) ((r_1.1).length))]⟩,⟨some (b2,2),[vi r_3.1]⟩,⟨some (b2,3),[vi r_4.1]⟩]) ?_ ?_
    ·intro gj1
     refine TX_next (TCb H (fun hc H=>?_) (fun hc H=>?_))
     ·refine TC_seq (TC_region (TLv (V_buildStruct (pv:=[]) (pl:=[(0,1),(1,1),(2,1),(3,1)]) rfl rfl underlying66 inf66 places66 zer66 (cs:=flat [(1,[vi 0]),(1,[vs ([]:Str)]),(1,[vi 0]),(1,[vi 0])]) (by kernel_rfl)) ?_))
      refine TLv (V_mkI rfl underlying36 rfl (r:=vE (Er.no 2001)) rfl) ?_
      refine TLn (E_sq (b:=b1) (o:=0) [0,0,0,0] [(1,_),(1,_),(1,_),(1,_)] rfl inf66) (fun _=>?_)
      refine TVa ?_
      refine TL_nil (TX_next (TC_ret (TX_then_ret ?_)))
      obtain rfl:=sj H
      exact TXr (vs:=[_,_]) rfl ⟨(Res_lp (b:=b1) (o:=0) (n:=4) (ps:=[(1,_),(1,_),(1,_),(1,_)]) ⟨.o 0, .o 1, .o 2, .o 3,trivial⟩ isAgg66 inf66),rfl,trivial⟩
     ·refine TC_skip (TX_next (TC_seq (TC_region (TLv (V_lp (b:=b2) (o:=0) (n:=4) (ps:=[(1,_),(1,_),(1,_),(1,_)]) ⟨.o 4, .o 5, .o 6, .o 7,trivial⟩ isAgg66 inf66) ?_))))
      refine TLn (E_sq (b:=b1) (o:=0) [0,0,0,0] [(1,_),(1,_),(1,_),(1,_)] rfl inf66) (fun _=>?_)
      refine TVa ?_
      refine TL_nil (TX_next (TC_ret ?_))
      obtain rfl:=sj H
      exact TXr (vs:=[_,_]) rfl ⟨(Res_lp (b:=b1) (o:=0) (n:=4) (ps:=[(1,_),(1,_),(1,_),(1,_)]) ⟨.o 0, .o 1, .o 2, .o 3,trivial⟩ isAgg66 inf66),rfl,trivial⟩
    ·intro hJ
     replace H:=Hj
     refine TFb (d:=79) H (fun hc H=>?_) (fun hc H=>?_)
     ·refine TLs ?_
      refine TLs ?_
      refine TLs ?_
      refine TVt ?_
      refine TL_nil ?_
      obtain rfl:=sj H
      exact TXj [4,4,4,4,0,0,0,0] (hJ ())
     ·refine TLw (V_move rfl) ?_
      refine TLw (V_move rfl) ?_
      refine TLw (V_bin rfl rfl (fun w=>neqS w r_5.1 r_1.1)) ?_
      refine TVf ?_
      refine TL_nil ?_
      obtain rfl:=sj H
      exact TXj [4,4,4,4,0,0,0,0] (hJ ())
end Go.Proofs
end

section
namespace Go.Proofs.TryzA
open Go.RowKit Go.Extern.Stop Go.Stop Go.Extern Go
theorem valueOfT (t:Addr) (w:World):(ReflectliteValue.unpack (.iface 184 (.pointer (some t)))).run Tryz.prog w
  = .ok (.agg #[.pointer (some ⟨1,184,none⟩), .pointer (some ⟨w.heap.size,0,none⟩), .int .u64 150]) (w.alloc (.cells #[.pointer (some t)] 184)):=by kernel_rfl
theorem typeT (a:Addr) (w:World):(ReflectliteValue.methodAny (ReflectliteValue.valueError "reflectlite.Value.Type" 0) (fun t _ _ _=>ReflectliteType.toType t) #[.agg #[.pointer (some ⟨1,184,none⟩), .pointer (some a), .int .u64 150]]).run Tryz.prog w
  = .ok (.iface 230 (.agg #[.pointer (some ⟨1,184,none⟩)])) w:=by kernel_rfl
theorem methodKind (h:Value) (w:World):(Go.method 379 230 (.agg #[h]) "Kind").run Tryz.prog w = .ok (170,h) w:=by kernel_rfl
theorem kindT (w:World):((ReflectliteType.abiMethod fun t=>(fun a:Nat=>Value.int IntKind.u8 (a:Int)) <$> Rtype.kind t) #[.pointer (some ⟨1,184,none⟩)]).run Tryz.prog w = .ok (.int .u8 22) w:=by kernel_rfl
theorem kindE (w:World):((ReflectliteType.abiMethod fun t=>(fun a:Nat=>Value.int IntKind.u8 (a:Int)) <$> Rtype.kind t) #[.pointer (some ⟨1,36,none⟩)]).run Tryz.prog w = .ok (.int .u8 2) w:=by kernel_rfl
theorem rlm (z:Sem Value) (f:TypeId → Addr → Nat → Nat → Sem Value) (v:Value) :
  ReflectliteValue.method z f #[v]=(do match ← ReflectliteValue.parts v with | none=>z | some (t,a,fl)=>f t a fl (fl % 32)):=rfl
theorem partsT (a:Addr) (w:World):(ReflectliteValue.parts (.agg #[.pointer (some ⟨1,184,none⟩), .pointer (some a), .int .u64 150])).run Tryz.prog w = .ok (some (184,a,150)) w:=by kernel_rfl
theorem isNilT (a p:Addr) (W:World) (ha:W.cell? a=some (.pointer (some p))) :
  (ReflectliteValue.method (ReflectliteValue.valueError "reflectlite.Value.IsNil" 0) ReflectliteValue.isNil #[.agg #[.pointer (some ⟨1,184,none⟩), .pointer (some a), .int .u64 150]]).run Tryz.prog W = .ok (.bool false) W:=by
 rw [rlm]
 simp only [Sem.run_bind,partsT,Result.andThen]
 simp [ReflectliteValue.isNil,loadVar,isAgg,underlying,Tryz.underlying184,ha,Result.andThen]
theorem methodElem (h:Value) (w:World):(Go.method 379 230 (.agg #[h]) "Elem").run Tryz.prog w = .ok (184, .agg #[h]) w:=by kernel_rfl
theorem methodImplements (h:Value) (w:World):(Go.method 379 230 (.agg #[h]) "Implements").run Tryz.prog w = .ok (185, .agg #[h]) w:=by kernel_rfl
theorem methodAssignableTo (h:Value) (w:World):(Go.method 379 230 (.agg #[h]) "AssignableTo").run Tryz.prog w = .ok (182, .agg #[h]) w:=by kernel_rfl
theorem elemT (w:World):(ReflectliteType.method ReflectliteType.elem #[.agg #[.pointer (some ⟨1,184,none⟩)]]).run Tryz.prog w = .ok (.iface 230 (.agg #[.pointer (some ⟨1,36,none⟩)])) w:=by kernel_rfl
theorem implementsE (w:World):(ReflectliteType.relation "Implements" ReflectliteType.implements_ #[.agg #[.pointer (some ⟨1,36,none⟩)], .iface 230 (.agg #[.pointer (some ⟨1,153,none⟩)])]).run Tryz.prog w = .ok (.bool true) w:=by kernel_rfl
theorem typeOfE (v:Value) (w:World):(ReflectliteType.typeOf #[.iface 36 v]).run Tryz.prog w = .ok (.iface 230 (.agg #[.pointer (some ⟨1,36,none⟩)])) w:=by kernel_rfl
theorem typeOfW (v:Value) (w:World):(ReflectliteType.typeOf #[.iface 179 v]).run Tryz.prog w = .ok (.iface 230 (.agg #[.pointer (some ⟨1,179,none⟩)])) w:=by kernel_rfl
theorem assignableE (w:World):(ReflectliteType.relation "AssignableTo" ReflectliteType.assignableTo #[.agg #[.pointer (some ⟨1,36,none⟩)], .iface 230 (.agg #[.pointer (some ⟨1,36,none⟩)])]).run Tryz.prog w = .ok (.bool true) w:=by kernel_rfl
theorem assignableW (w:World):(ReflectliteType.relation "AssignableTo" ReflectliteType.assignableTo #[.agg #[.pointer (some ⟨1,179,none⟩)], .iface 230 (.agg #[.pointer (some ⟨1,36,none⟩)])]).run Tryz.prog w = .ok (.bool false) w:=by kernel_rfl
theorem valueOfE (n:Int) (w:World):(ReflectliteValue.unpack (.iface 36 (.int .i64 n))).run Tryz.prog w
  = .ok (.agg #[.pointer (some ⟨1,36,none⟩), .pointer (some ⟨w.heap.size,0,none⟩), .int .u64 130]) (w.alloc (.cells #[.int .i64 n] 36)):=by kernel_rfl
theorem elemOfT (w:World):(Rtype.elem? 184).run Tryz.prog w = .ok (some 36) w:=by kernel_rfl
theorem mkE (p:Addr) (w:World):(ReflectliteValue.mk 36 p ReflectliteValue.flagAddr).run Tryz.prog w = .ok (.agg #[.pointer (some ⟨1,36,none⟩), .pointer (some p), .int .u64 386]) w:=by kernel_rfl
theorem elemVT (a p:Addr) (W:World) (ha:W.cell? a=some (.pointer (some p))) :
  (ReflectliteValue.method (ReflectliteValue.valueError "reflectlite.Value.Elem" 0) ReflectliteValue.elem #[.agg #[.pointer (some ⟨1,184,none⟩), .pointer (some a), .int .u64 150]]).run Tryz.prog W
   = .ok (.agg #[.pointer (some ⟨1,36,none⟩), .pointer (some p), .int .u64 386]) W:=by
 rw [rlm]
 simp only [Sem.run_bind,partsT,Result.andThen]
 simp [ReflectliteValue.elem,loadVar,isAgg,underlying,Tryz.underlying184,ha,Result.andThen,elemOfT,mkE]
theorem rls (v x:Value):ReflectliteValue.set #[v,x]=(do
  let (some (dst,a,fl),some (src,b,_)):=(← ReflectliteValue.parts v, ← ReflectliteValue.parts x)
   | unsupported (.noEntry "extern/(internal/reflectlite.Value).Set.zeroValue")
  if fl / ReflectliteValue.flagAddr % 2 == 0 then unsupported (.noEntry "extern/(internal/reflectlite.Value).Set.unaddressable")
  let val ← loadVar src b
  if ← Rtype.directlyAssignable dst src then storeVar dst a val
  else if ← Rtype.implements dst src then
   if (← Rtype.kind src) == 20 then
    match val with
    | .nilIface=>unsupported (.noEntry "extern/reflectlite: a nil value of one interface type handed on as a value of another")
    | _=>storeVar dst a val
   else storeVar dst a (.iface src val)
  else panicString ("reflectlite.Set: value of type " ++ (← Rtype.spelt src) ++ " is not assignable to type " ++ (← Rtype.spelt dst))
  pure (.tuple #[])):=rfl
theorem partsEa (a:Addr) (w:World):(ReflectliteValue.parts (.agg #[.pointer (some ⟨1,36,none⟩), .pointer (some a), .int .u64 386])).run Tryz.prog w = .ok (some (36,a,386)) w:=by kernel_rfl
theorem partsE (a:Addr) (w:World):(ReflectliteValue.parts (.agg #[.pointer (some ⟨1,36,none⟩), .pointer (some a), .int .u64 130])).run Tryz.prog w = .ok (some (36,a,130)) w:=by kernel_rfl
theorem directE (w:World):(Rtype.directlyAssignable 36 36).run Tryz.prog w = .ok true w:=by kernel_rfl
theorem setE (ta b:Addr) (n:Int) (old:Value) (W:World) (hb:W.cell? b=some (.int .i64 n)) (ht:W.cell? ta=some old) (hf:W.frozen? ta=false) :
  (ReflectliteValue.set #[.agg #[.pointer (some ⟨1,36,none⟩), .pointer (some ta), .int .u64 386], .agg #[.pointer (some ⟨1,36,none⟩), .pointer (some b), .int .u64 130]]).run Tryz.prog W
   = .ok (.tuple #[]) (W.setCell ta (.int .i64 n)):=by
 rw [rls]
 simp only [Sem.run_bind,partsEa,partsE,Result.andThen]
 simp [ReflectliteValue.flagAddr,loadVar,isAgg,underlying,Tryz.underlying36,hb,Result.andThen,directE,storeVar,Value.cells,storeCells,Addr.add]
 rw [run_store Tryz.prog W ta _ _ (by rfl)]
 simp [ht,hf]
end Go.Proofs.TryzA
end

section
namespace Go.Proofs.TryzA
open Go.RowKit Go.Extern.Stop Go.Stop Go.Extern Go
set_option maxHeartbeats 4000000 in
theorem as_no (n:Int) (t a:Addr) (old:Value) (w:World) (ha:w.cell? a=some (.pointer (some t))) (ht0:w.cell? t=some old) (hf0:w.frozen? t=false) :
  Calls Tryz.prog 138 #[.iface 36 (.int .i64 n), .iface 184 (.pointer (some t)), .agg #[.pointer (some ⟨1,184,none⟩), .pointer (some a), .int .u64 150], .iface 230 (.agg #[.pointer (some ⟨1,36,none⟩)])] w
   fun ev w'=>ev = .returned (.bool true)∧w'=((w.alloc (.cells #[.pointer (some ⟨1,184,none⟩), .pointer (some a), .int .u64 150] 201)).alloc (.cells #[.int .i64 n] 36)).setCell t (.int .i64 n):=by
 have h52 := @run_callFunc_extern Tryz.prog 135 _ (fun args=>ReflectliteValue.unpack (args.getD 0 (.tuple #[]))) Tryz.func135 (by kernel_rfl) (by kernel_rfl) (by kernel_rfl) (by kernel_rfl)
 have h62 := @run_callFunc_extern Tryz.prog 149 _ ReflectliteType.typeOf Tryz.func149 (by kernel_rfl) (by kernel_rfl) (by kernel_rfl) (by kernel_rfl)
 have h90 := @run_callFunc_extern Tryz.prog 182 _ (ReflectliteType.relation "AssignableTo" ReflectliteType.assignableTo) Tryz.func182 (by kernel_rfl) (by kernel_rfl) (by kernel_rfl) (by kernel_rfl)
 have h63 := @run_callFunc_extern Tryz.prog 150 _ (ReflectliteValue.method (ReflectliteValue.valueError "reflectlite.Value.Elem" 0) ReflectliteValue.elem) Tryz.func150 (by kernel_rfl) (by kernel_rfl) (by kernel_rfl) (by kernel_rfl)
 have h64 := @run_callFunc_extern Tryz.prog 151 _ ReflectliteValue.set Tryz.func151 (by kernel_rfl) (by kernel_rfl) (by kernel_rfl) (by kernel_rfl)
 have tO:=typeOfE
 have mA:=methodAssignableTo
 have aE:=assignableE
 have vE:=valueOfE
 have hal:a.block<w.heap.size:=by
  rcases Nat.lt_or_ge a.block w.heap.size with h | h
  ·exact h
  ·simp [World.cell?,Array.getElem?_eq_none h] at ha
 have htl:t.block<w.heap.size:=by
  rcases Nat.lt_or_ge t.block w.heap.size with h | h
  ·exact h
  ·simp [World.cell?,Array.getElem?_eq_none h] at ht0
 have el:=elemVT a t (w.alloc (.cells #[.pointer (some ⟨1,184,none⟩), .pointer (some a), .int .u64 150] 201)) (by rw [World.cell?_alloc_lt _ _ a hal]; exact ha)
 have st:=setE t ⟨w.heap.size+1,0,none⟩ n old ((w.alloc (.cells #[.pointer (some ⟨1,184,none⟩), .pointer (some a), .int .u64 150] 201)).alloc (.cells #[.int .i64 n] 36))
  (by rw [World.cell?_alloc_at _ _ _ _ (by simp)]; rfl)
  (by rw [World.cell?_alloc_lt _ _ t (by simp; omega),World.cell?_alloc_lt _ _ t htl]; exact ht0)
  (by rw [World.frozen?_alloc_old _ _ t (by simp; omega),World.frozen?_alloc_old _ _ t (Nat.ne_of_lt htl)]; exact hf0)
 go_enter Tryz.func138,Tryz.ntmps138
 go_wp2
 refine wp_loop_rounds 1 ?_
 rw [rounds_succ]
 go_wp2
 go_ret
 exact ⟨rfl,rfl⟩
end Go.Proofs.TryzA
end
