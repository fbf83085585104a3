/-
  Part 9 of the proof of EcdsaTwins.
-/
import Derived.Test.YtiofnmmggblcgaaEcdsaTwinsA1
import Derived.Test.YtiofnmmggblcgaaEcdsaTwinsA2
import Derived.Test.YtiofnmmggblcgaaEcdsaTwinsA3
import Derived.Test.YtiofnmmggblcgaaEcdsaTwinsA4
import Derived.Test.YtiofnmmggblcgaaEcdsaTwinsA5
import Derived.Test.YtiofnmmggblcgaaEcdsaTwinsA6
import Derived.Test.YtiofnmmggblcgaaEcdsaTwinsA7
import Derived.Test.YtiofnmmggblcgaaEcdsaTwinsA8
set_option linter.unusedVariables false
set_option linter.unusedSimpArgs false
section
namespace Go.Proofs
open Go Go.Kx
def der_length (s_:Str) (at_:Int):Option (Int × Int) :=
 if ((s_).length:Int)≤at_ then (some (0,(-1))) else (if 0≤at_∧at_<((s_).length:Int) then (ltt (((sg s_ at_).toNat:Int)) fun (c1:Int)=>(ltt (decide (c1<128)) fun (x1:Bool)=>(if x1=true then (ltt (w64 (at_+1)) fun (x2:Int)=>(some (c1,x2))) else (ltt (decide (c1=130)) fun (x3:Bool)=>(if x3=true then (if ((s_).length:Int)≤(w64 (at_+2)) then (some (0,(-1))) else (ltt (w64 (at_+1)) fun (at_1:Int)=>(if 0≤at_1∧at_1<((s_).length:Int) then (ltt (((sg s_ at_1).toNat:Int)) fun (n1:Int)=>(if ((s_).length:Int)≤(w64 (at_1+1)) then (some (0,(-1))) else (if 0≤w64 (at_1+1)∧w64 (at_1+1)<((s_).length:Int) then (ltt (iop (· ||| ·) (shlI' n1 8) ((sg s_ (w64 (at_1+1))).toNat:Int)) fun (n2:Int)=>(ltt (w64 (128+128)) fun (least1:Int)=>(if n2<least1 then (some (0,(-1))) else (ltt (w64 (at_1+2)) fun (x4:Int)=>(some (n2,x4)))))) else none))) else none))) else (ltt (decide (c1=129)) fun (x5:Bool)=>(if x5=true then (if ((s_).length:Int)≤(w64 (at_+1)) then (some (0,(-1))) else (if 0≤w64 (at_+1)∧w64 (at_+1)<((s_).length:Int) then (ltt (iop (· ||| ·) (shlI' 0 8) ((sg s_ (w64 (at_+1))).toNat:Int)) fun (n3:Int)=>(ltt (w64 (0+128)) fun (least2:Int)=>(if n3<least2 then (some (0,(-1))) else (ltt (w64 (at_+2)) fun (x6:Int)=>(some (n3,x6)))))) else none)) else (some (0,(-1)))))))))) else none)
set_option maxHeartbeats 4000000 in
set_option maxRecDepth 20000 in
theorem F102_calls (s_:Str) (at_:Int) (r:Int × Int) (H:der_length s_ at_=some r) :
  Does Try.prog 102 [vs s_,vi at_] [] [] (Γ:=Unit) (fun g=>Value.tuple [vi r.1,vi r.2].toArray) (fun g=>[]):=by
 intro w hmem hro hd
 refine calls_of (N:=61) (m0:=[(0,vs s_),(1,vi at_)]) Try.func102 rfl Try.ntmps102 (argM_ok [vs s_,vi at_]) rfl hmem hro hd ?_
 unfold der_length at H
 refine TC_seq (TC_region (TLv (V_assign rfl) ?_))
 refine TLv (V_assign rfl) ?_
 refine TL_nil (TX_next (TC_seq (TC_seq (TC_region (TLv (V_move rfl) ?_)))))
 refine TLv (V_move rfl) ?_
 refine TLv (V_len_str rfl Try.underlying9) ?_
 refine TLv (V_bin rfl rfl (fun w=>geqI w at_ ((s_).length:Int))) ?_
 refine TL_nil (TX_next (TC_cond (b:=(decide (((s_).length:Int)≤at_))) rfl (fun hc=>?_) (fun hc=>?_)))
 ·replace H:=ite_t (of_decide_eq_true hc) H
  refine TC_seq (TC_region (TLv (V_assign rfl) ?_))
  refine TLv (V_assign rfl) ?_
  refine TL_nil (TX_next (TC_ret (TX_then_ret ?_)))
  have hrv:=Option.some.inj H
  subst hrv
  exact TX_ret (rs:=[.tmp 4, .tmp 5]) (vs:=[vi 0,vi (-1)]) rfl ⟨rfl,rfl,trivial⟩ (fun w' hs'=>⟨(),rfl,Step.left (Step.pulled (is:=[]) (A:=[]) hs' rfl)⟩)
 ·replace H:=ite_f (of_decide_eq_false hc) H
  refine TC_skip (TX_next (TC_seq (TC_region (TLv (V_assign rfl) ?_))))
  refine TL_nil (TX_next (TC_seq (TC_region (TLv (V_assign rfl) ?_))))
  refine TL_nil (TX_next (TC_seq (TC_seq (TC_region (TLv (V_move rfl) ?_)))))
  refine TLv (V_move rfl) ?_
  obtain ⟨h1,H⟩:=if_elim H
  refine TLv (V_idxStr rfl rfl (i:=at_) Try.underlying9 h1.1 h1.2) ?_
  refine TLv (V_conv rfl (fun w=>cv8toI w _ _ Try.underlying3 (TryI.und5) (sg s_ at_))) ?_
  refine TLv (V_assign rfl) ?_
  obtain ⟨c1,hc1,H⟩:=ltt_elim H
  refine TL_re (d:=8) (v:=vi ((sg s_ at_).toNat:Int)) (v':=vi c1) rfl (congrArg vi hc1) ?_
  refine TL_nil (TX_next (TC_block (TC_seq (TC_block (TC_seq (TC_block (TC_seq (TC_block (TC_seq (TC_block (TC_seq (TC_seq (TC_seq (TC_region (TLv (V_move rfl) ?_)))))))))))))))
  refine TLv (V_bin rfl rfl (fun w=>lssI w c1 128)) ?_
  refine TLv (V_assign rfl) ?_
  obtain ⟨x1,hx1,H⟩:=ltt_elim H
  refine TL_re (d:=17) (v:=vb (decide (c1<128))) (v':=vb x1) rfl (congrArg vb hx1) ?_
  refine TL_nil (TX_next (TC_cond (b:=x1) rfl (fun hc=>?_) (fun hc=>?_)))
  ·replace H:=ite_t hc H
   refine TC_exit (TX_then_exit (TX_then_exit (TX_block_exit (TX_next (TC_seq (TC_seq (TC_region (TLv (V_move rfl) ?_))))))))
   refine TLv (V_move rfl) ?_
   refine TLv (V_bin rfl rfl (fun w=>addI w at_ 1)) ?_
   refine TLv (V_assign rfl) ?_
   refine TLv (V_assign rfl) ?_
   obtain ⟨x2,hx2,H⟩:=ltt_elim H
   refine TL_re (d:=5) (v:=vi (w64 (at_+1))) (v':=vi x2) rfl (congrArg vi hx2) ?_
   refine TL_nil (TX_next (TC_ret (TX_then_ret (TX_block_ret (TX_then_ret (TX_block_ret (TX_then_ret (TX_block_ret (TX_then_ret (TX_block_ret (TX_then_ret ?_)))))))))))
   have hrv:=Option.some.inj H
   subst hrv
   exact TX_ret (rs:=[.tmp 4, .tmp 5]) (vs:=[vi c1,vi x2]) rfl ⟨rfl,rfl,trivial⟩ (fun w' hs'=>⟨(),rfl,Step.left (Step.pulled (is:=[]) (A:=[]) hs' rfl)⟩)
  ·replace H:=ite_f (Bool.eq_false_iff.1 hc) H
   refine TC_skip (TX_next (TC_seq (TC_seq (TC_region (TLv (V_move rfl) ?_)))))
   refine TLv (V_bin rfl rfl (fun w=>eqlI w c1 130)) ?_
   refine TLv (V_assign rfl) ?_
   obtain ⟨x3,hx3,H⟩:=ltt_elim H
   refine TL_re (d:=20) (v:=vb (decide (c1=130))) (v':=vb x3) rfl (congrArg vb hx3) ?_
   refine TL_nil (TX_next (TC_cond (b:=x3) rfl (fun hc=>?_) (fun hc=>?_)))
   ·replace H:=ite_t hc H
    refine TC_exit (TX_then_exit (TX_then_exit (TX_block_other rfl ?_)))
    refine TX_then_exit (TX_block_exit (TX_next (TC_seq (TC_seq (TC_region (TLv (V_move rfl) ?_))))))
    refine TLv (V_bin rfl rfl (fun w=>addI w at_ 2)) ?_
    refine TLv (V_move rfl) ?_
    refine TLv (V_len_str rfl Try.underlying9) ?_
    refine TLv (V_bin rfl rfl (fun w=>geqI w (w64 (at_+2)) ((s_).length:Int))) ?_
    refine TL_nil (TX_next (TC_cond (b:=(decide (((s_).length:Int)≤(w64 (at_+2))))) rfl (fun hc=>?_) (fun hc=>?_)))
    ·replace H:=ite_t (of_decide_eq_true hc) H
     refine TC_seq (TC_region (TLv (V_assign rfl) ?_))
     refine TLv (V_assign rfl) ?_
     refine TL_nil (TX_next (TC.sub (m':=[(4,vi 0),(5,vi (-1))]) ⟨rfl,rfl,trivial⟩ ?_))
     refine TC.pull (is:=[]) (L':=[]) rfl ?_
     refine TC_ret (TX_then_ret (TX_block_ret (TX_then_ret (TX_block_ret (TX_then_ret (TX_block_ret (TX_then_ret ?_)))))))
     have hrv:=Option.some.inj H
     subst hrv
     exact TX_ret (rs:=[.tmp 4, .tmp 5]) (vs:=[vi 0,vi (-1)]) rfl ⟨rfl,rfl,trivial⟩ (fun w' hs'=>⟨(),rfl,Step.left (Step.pulled (is:=[]) (A:=[]) hs' rfl)⟩)
    ·replace H:=ite_f (of_decide_eq_false hc) H
     refine TC_skip (TX_next (TC_seq (TC_region (TLv (V_move rfl) ?_))))
     refine TLv (V_bin rfl rfl (fun w=>addI w at_ 1)) ?_
     refine TLv (V_assign rfl) ?_
     obtain ⟨at_1,hat_1,H⟩:=ltt_elim H
     refine TL_re (d:=1) (v:=vi (w64 (at_+1))) (v':=vi at_1) rfl (congrArg vi hat_1) ?_
     refine TL_nil (TX_next (TC.sub (m':=[(0,vs s_),(1,vi at_1)]) ⟨rfl,rfl,trivial⟩ ?_))
     refine TC.pull (is:=[]) (L':=[]) rfl ?_
     refine TC_seq (TC_region (TLv (V_move rfl) ?_))
     refine TLv (V_move rfl) ?_
     obtain ⟨h2,H⟩:=if_elim H
     refine TLv (V_idxStr rfl rfl (i:=at_1) Try.underlying9 h2.1 h2.2) ?_
     refine TLv (V_conv rfl (fun w=>cv8toI w _ _ Try.underlying3 (TryI.und5) (sg s_ at_1))) ?_
     refine TLv (V_assign rfl) ?_
     obtain ⟨n1,hn1,H⟩:=ltt_elim H
     refine TL_re (d:=6) (v:=vi ((sg s_ at_1).toNat:Int)) (v':=vi n1) rfl (congrArg vi hn1) ?_
     refine TL_nil (TX_next (TC_region (TLv (V_assign rfl) ?_)))
     refine TL_nil (TX_block_normal (TX_next (TC_seq (TC_seq (TC_seq (TC_region (TLv (V_move rfl) ?_)))))))
     refine TLv (V_bin rfl rfl (fun w=>addI w at_1 1)) ?_
     refine TLv (V_move rfl) ?_
     refine TLv (V_len_str rfl Try.underlying9) ?_
     refine TLv (V_bin rfl rfl (fun w=>geqI w (w64 (at_1+1)) ((s_).length:Int))) ?_
     refine TL_nil (TX_next (TC_cond (b:=(decide (((s_).length:Int)≤(w64 (at_1+1))))) rfl (fun hc=>?_) (fun hc=>?_)))
     ·replace H:=ite_t (of_decide_eq_true hc) H
      refine TC_seq (TC_region (TLv (V_assign rfl) ?_))
      refine TLv (V_assign rfl) ?_
      refine TL_nil (TX_next (TC_ret (TX_then_ret (TX_then_ret (TX_block_ret (TX_then_ret (TX_block_ret (TX_then_ret ?_))))))))
      have hrv:=Option.some.inj H
      subst hrv
      exact TX_ret (rs:=[.tmp 4, .tmp 5]) (vs:=[vi 0,vi (-1)]) rfl ⟨rfl,rfl,trivial⟩ (fun w' hs'=>⟨(),rfl,Step.left (Step.pulled (is:=[]) (A:=[]) hs' rfl)⟩)
     ·replace H:=ite_f (of_decide_eq_false hc) H
      refine TC_skip (TX_next (TC_seq (TC_region (TLv (V_move rfl) ?_))))
      refine TLv (V_bin rfl rfl (fun w=>shlI w n1 .u64 8 (by decide))) ?_
      refine TLv (V_move rfl) ?_
      refine TLv (V_move rfl) ?_
      refine TLv (V_bin rfl rfl (fun w=>addI w at_1 1)) ?_
      obtain ⟨h3,H⟩:=if_elim H
      refine TLv (V_idxStr rfl rfl (i:=w64 (at_1+1)) Try.underlying9 h3.1 h3.2) ?_
      refine TLv (V_conv rfl (fun w=>cv8toI w _ _ Try.underlying3 (TryI.und5) (sg s_ (w64 (at_1+1))))) ?_
      refine TLv (V_bin rfl rfl (fun w=>orI w (shlI' n1 8) ((sg s_ (w64 (at_1+1))).toNat:Int))) ?_
      refine TLv (V_assign rfl) ?_
      obtain ⟨n2,hn2,H⟩:=ltt_elim H
      refine TL_re (d:=6) (v:=vi (iop (· ||| ·) (shlI' n1 8) ((sg s_ (w64 (at_1+1))).toNat:Int))) (v':=vi n2) rfl (congrArg vi hn2) ?_
      refine TL_nil (TX_next (TC_region (TLv (V_move rfl) ?_)))
      refine TLv (V_bin rfl rfl (fun w=>addI w 128 128)) ?_
      refine TLv (V_assign rfl) ?_
      obtain ⟨least1,hleast1,H⟩:=ltt_elim H
      refine TL_re (d:=7) (v:=vi (w64 (128+128))) (v':=vi least1) rfl (congrArg vi hleast1) ?_
      refine TL_nil (TX_next (TC_exit (TX_block_other rfl ?_)))
      refine TX_then_exit (TX_block_exit (TX_next (TC_seq (TC_seq (TC_region (TLv (V_move rfl) ?_))))))
      refine TLv (V_move rfl) ?_
      refine TLv (V_bin rfl rfl (fun w=>lssI w n2 least1)) ?_
      refine TL_nil (TX_next (TC.sub (m':=[(1,vi at_1),(6,vi n2),(57,vb (decide (n2<least1)))]) ⟨rfl,rfl,rfl,trivial⟩ ?_))
      refine TC.pull (is:=[]) (L':=[]) rfl ?_
      refine TC_cond (b:=(decide (n2<least1))) rfl (fun hc=>?_) (fun hc=>?_)
      ·replace H:=ite_t (of_decide_eq_true hc) H
       refine TC_seq (TC_region (TLv (V_assign rfl) ?_))
       refine TLv (V_assign rfl) ?_
       refine TL_nil (TX_next (TC_ret (TX_then_ret ?_)))
       have hrv:=Option.some.inj H
       subst hrv
       exact TX_ret (rs:=[.tmp 4, .tmp 5]) (vs:=[vi 0,vi (-1)]) rfl ⟨rfl,rfl,trivial⟩ (fun w' hs'=>⟨(),rfl,Step.left (Step.pulled (is:=[]) (A:=[]) hs' rfl)⟩)
      ·replace H:=ite_f (of_decide_eq_false hc) H
       refine TC_skip (TX_next (TC_seq (TC_region (TLv (V_move rfl) ?_))))
       refine TLv (V_move rfl) ?_
       refine TLv (V_bin rfl rfl (fun w=>addI w at_1 2)) ?_
       refine TLv (V_assign rfl) ?_
       refine TLv (V_assign rfl) ?_
       obtain ⟨x4,hx4,H⟩:=ltt_elim H
       refine TL_re (d:=5) (v:=vi (w64 (at_1+2))) (v':=vi x4) rfl (congrArg vi hx4) ?_
       refine TL_nil (TX_next (TC_ret ?_))
       have hrv:=Option.some.inj H
       subst hrv
       exact TX_ret (rs:=[.tmp 4, .tmp 5]) (vs:=[vi n2,vi x4]) rfl ⟨rfl,rfl,trivial⟩ (fun w' hs'=>⟨(),rfl,Step.left (Step.pulled (is:=[]) (A:=[]) hs' rfl)⟩)
   ·replace H:=ite_f (Bool.eq_false_iff.1 hc) H
    refine TC_skip (TX_next (TC_seq (TC_region (TLv (V_move rfl) ?_))))
    refine TLv (V_bin rfl rfl (fun w=>eqlI w c1 129)) ?_
    refine TLv (V_assign rfl) ?_
    obtain ⟨x5,hx5,H⟩:=ltt_elim H
    refine TL_re (d:=23) (v:=vb (decide (c1=129))) (v':=vb x5) rfl (congrArg vb hx5) ?_
    refine TL_nil (TX_next (TC_cond (b:=x5) rfl (fun hc=>?_) (fun hc=>?_)))
    ·replace H:=ite_t hc H
     refine TC_exit (TX_then_exit (TX_block_other rfl ?_))
     refine TX_then_exit (TX_block_other rfl ?_)
     refine TX_then_exit (TX_block_exit (TX_next (TC_seq (TC_seq (TC_seq (TC_region (TLv (V_move rfl) ?_)))))))
     refine TLv (V_bin rfl rfl (fun w=>addI w at_ 1)) ?_
     refine TLv (V_move rfl) ?_
     refine TLv (V_len_str rfl Try.underlying9) ?_
     refine TLv (V_bin rfl rfl (fun w=>geqI w (w64 (at_+1)) ((s_).length:Int))) ?_
     refine TL_nil (TX_next (TC.sub (m':=[(0,vs s_),(1,vi at_),(6,vi 0),(7,vi 0),(44,vb (decide (((s_).length:Int)≤(w64 (at_+1)))))]) ⟨rfl,rfl,rfl,rfl,rfl,trivial⟩ ?_))
     refine TC.pull (is:=[]) (L':=[]) rfl ?_
     refine TC_cond (b:=(decide (((s_).length:Int)≤(w64 (at_+1))))) rfl (fun hc=>?_) (fun hc=>?_)
     ·replace H:=ite_t (of_decide_eq_true hc) H
      refine TC_seq (TC_region (TLv (V_assign rfl) ?_))
      refine TLv (V_assign rfl) ?_
      refine TL_nil (TX_next (TC_ret (TX_then_ret (TX_then_ret (TX_block_ret (TX_then_ret (TX_block_ret (TX_then_ret ?_))))))))
      have hrv:=Option.some.inj H
      subst hrv
      exact TX_ret (rs:=[.tmp 4, .tmp 5]) (vs:=[vi 0,vi (-1)]) rfl ⟨rfl,rfl,trivial⟩ (fun w' hs'=>⟨(),rfl,Step.left (Step.pulled (is:=[]) (A:=[]) hs' rfl)⟩)
     ·replace H:=ite_f (of_decide_eq_false hc) H
      refine TC_skip (TX_next (TC_seq (TC_region (TLv (V_move rfl) ?_))))
      refine TLv (V_bin rfl rfl (fun w=>shlI w 0 .u64 8 (by decide))) ?_
      refine TLv (V_move rfl) ?_
      refine TLv (V_move rfl) ?_
      refine TLv (V_bin rfl rfl (fun w=>addI w at_ 1)) ?_
      obtain ⟨h4,H⟩:=if_elim H
      refine TLv (V_idxStr rfl rfl (i:=w64 (at_+1)) Try.underlying9 h4.1 h4.2) ?_
      refine TLv (V_conv rfl (fun w=>cv8toI w _ _ Try.underlying3 (TryI.und5) (sg s_ (w64 (at_+1))))) ?_
      refine TLv (V_bin rfl rfl (fun w=>orI w (shlI' 0 8) ((sg s_ (w64 (at_+1))).toNat:Int))) ?_
      refine TLv (V_assign rfl) ?_
      obtain ⟨n3,hn3,H⟩:=ltt_elim H
      refine TL_re (d:=6) (v:=vi (iop (· ||| ·) (shlI' 0 8) ((sg s_ (w64 (at_+1))).toNat:Int))) (v':=vi n3) rfl (congrArg vi hn3) ?_
      refine TL_nil (TX_next (TC_region (TLv (V_move rfl) ?_)))
      refine TLv (V_bin rfl rfl (fun w=>addI w 0 128)) ?_
      refine TLv (V_assign rfl) ?_
      obtain ⟨least2,hleast2,H⟩:=ltt_elim H
      refine TL_re (d:=7) (v:=vi (w64 (0+128))) (v':=vi least2) rfl (congrArg vi hleast2) ?_
      refine TL_nil (TX_next (TC_exit (TX_block_other rfl ?_)))
      refine TX_then_exit (TX_block_exit (TX_next (TC_seq (TC_seq (TC_region (TLv (V_move rfl) ?_))))))
      refine TLv (V_move rfl) ?_
      refine TLv (V_bin rfl rfl (fun w=>lssI w n3 least2)) ?_
      refine TL_nil (TX_next (TC_cond (b:=(decide (n3<least2))) rfl (fun hc=>?_) (fun hc=>?_)))
      ·replace H:=ite_t (of_decide_eq_true hc) H
       refine TC_seq (TC_region (TLv (V_assign rfl) ?_))
       refine TLv (V_assign rfl) ?_
       refine TL_nil (TX_next (TC_ret (TX_then_ret ?_)))
       have hrv:=Option.some.inj H
       subst hrv
       exact TX_ret (rs:=[.tmp 4, .tmp 5]) (vs:=[vi 0,vi (-1)]) rfl ⟨rfl,rfl,trivial⟩ (fun w' hs'=>⟨(),rfl,Step.left (Step.pulled (is:=[]) (A:=[]) hs' rfl)⟩)
      ·replace H:=ite_f (of_decide_eq_false hc) H
       refine TC_skip (TX_next (TC_seq (TC_region (TLv (V_move rfl) ?_))))
       refine TLv (V_move rfl) ?_
       refine TLv (V_bin rfl rfl (fun w=>addI w at_ 2)) ?_
       refine TLv (V_assign rfl) ?_
       refine TLv (V_assign rfl) ?_
       obtain ⟨x6,hx6,H⟩:=ltt_elim H
       refine TL_re (d:=5) (v:=vi (w64 (at_+2))) (v':=vi x6) rfl (congrArg vi hx6) ?_
       refine TL_nil (TX_next (TC_ret ?_))
       have hrv:=Option.some.inj H
       subst hrv
       exact TX_ret (rs:=[.tmp 4, .tmp 5]) (vs:=[vi n3,vi x6]) rfl ⟨rfl,rfl,trivial⟩ (fun w' hs'=>⟨(),rfl,Step.left (Step.pulled (is:=[]) (A:=[]) hs' rfl)⟩)
    ·replace H:=ite_f (Bool.eq_false_iff.1 hc) H
     refine TC_skip (TX_next (TC_exit (TX_block_other rfl ?_)))
     refine TX_then_exit (TX_block_other rfl ?_)
     refine TX_then_exit (TX_block_other rfl ?_)
     refine TX_then_exit (TX_block_exit (TX_next (TC_seq (TC_seq (TC_region (TLv (V_assign rfl) ?_))))))
     refine TLv (V_assign rfl) ?_
     refine TL_nil (TX_next (TC_ret (TX_then_ret (TX_block_ret (TX_then_ret ?_)))))
     have hrv:=Option.some.inj H
     subst hrv
     exact TX_ret (rs:=[.tmp 4, .tmp 5]) (vs:=[vi 0,vi (-1)]) rfl ⟨rfl,rfl,trivial⟩ (fun w' hs'=>⟨(),rfl,Step.left (Step.pulled (is:=[]) (A:=[]) hs' rfl)⟩)
end Go.Proofs
end

section
namespace Go.Proofs
open Go Go.Kx
def der_Get (s_:Str) (at_:Int):Option (Int × Str × Int × Int) :=
 (if at_<0 then (some true) else (if ((s_).length:Int)≤at_ then (some true) else (if 0≤at_∧at_<((s_).length:Int) then ((der_tag ((sg s_ at_).toNat:Int)).bind fun (r_2:Bool)=>(some (!r_2))) else none))).bind fun (j1:Bool)=>(if j1=true then (some (0,([]:Str),0,1300)) else ((der_length s_ (w64 (at_+1))).bind fun (r_1:Int × Int)=>((if r_1.2<0 then (some true) else (some (decide ((w64 (((s_).length:Int) - r_1.2))<r_1.1)))).bind fun (j2:Bool)=>(if j2=true then (some (0,([]:Str),0,1300)) else (if 0≤at_∧at_<((s_).length:Int) then (if 0≤w64 (r_1.2+r_1.1) then (if 0≤r_1.2 then (if (w64 (r_1.2+r_1.1)).toNat≤(s_).length then (if (r_1.2).toNat≤(w64 (r_1.2+r_1.1)).toNat then (ltt (w64 (r_1.2+r_1.1)) fun (x1:Int)=>(some (((sg s_ at_).toNat:Int),sub s_ ((r_1.2).toNat) ((w64 (r_1.2+r_1.1)).toNat),x1,0))) else none) else none) else none) else none) else none)))))
set_option maxHeartbeats 4000000 in
set_option maxRecDepth 20000 in
theorem F93_calls (s_:Str) (at_:Int) (r:Int × Str × Int × Int) (H:der_Get s_ at_=some r) :
  Does Try.prog 93 [vs s_,vi at_] [] [] (Γ:=Unit) (fun g=>Value.tuple [aG [(1,[vi r.1]),(1,[vs r.2.1])],vi r.2.2.1,vi r.2.2.2].toArray) (fun g=>[]):=by
 intro w hmem hro hd
 refine calls_of (N:=58) (m0:=[(0,vs s_),(1,vi at_)]) Try.func93 rfl Try.ntmps93 (argM_ok [vs s_,vi at_]) rfl hmem hro hd ?_
 unfold der_Get at H
 refine TC_seq (TC_region (TLe (E_allocP [(1,[vi 0]),(1,[vs ([]:Str)])] TryI.inf123 TryI.zer123 ⟨rfl,rfl,trivial⟩) (fun b1=>?_)))
 refine TLv (V_assign rfl) ?_
 refine TLv (V_assign rfl) ?_
 refine TL_nil (TX_next (TC_seq (TC_seq (TC_region (TLv (V_move rfl) ?_)))))
 refine TLv (V_bin rfl rfl (fun w=>lssI w at_ 0)) ?_
 refine TLv (V_move rfl) ?_
 obtain ⟨j1,Hj,H⟩:=bind_elim H
 refine TL_join (Γ:=Unit) (fun gj1=>[(0,vs s_),(1,vi at_),(4,ptr (some (b1,0)) 0),(24,vb j1)]) (fun gj1=>[⟨some (b1,0),[vi 0]⟩,⟨some (b1,1),[vs ([]:Str)]⟩]) ?_ ?_
 ·intro gj1
  refine TX_next (TC_cond (b:=j1) rfl (fun hc=>?_) (fun hc=>?_))
  ·replace H:=ite_t hc H
   refine TC_seq (TC_region (TLv (V_buildStruct (pv:=[]) (pl:=[(0,1),(1,1)]) rfl rfl Try.underlying123 TryI.inf123 TryI.places123 TryI.zer123 (cs:=flat [(1,[vi 0]),(1,[vs ([]:Str)])]) (by kernel_rfl)) ?_))
   refine TLn (E_sp (b:=b1) (o:=0) [0,0] [(1,[vi 0]),(1,[vs ([]:Str)])] [(1,[vi 0]),(1,[vs ([]:Str)])] rfl TryI.inf123 ⟨rfl,rfl,trivial⟩ ⟨rfl,rfl,trivial⟩ ⟨(OneC.cons rfl OneC.nil),(OneC.cons rfl OneC.nil),trivial⟩) (fun _=>?_)
   refine TLv (V_assign rfl) ?_
   refine TLv (V_assign rfl) ?_
   refine TL_nil (TX_next (TC_ret (TX_then_ret ?_)))
   have hrv:=Option.some.inj H
   subst hrv
   exact TX_ret (rs:=[.cell 4 123, .tmp 5, .tmp 6]) (vs:=[aG [(1,[vi 0]),(1,[vs ([]:Str)])],vi 0,vi 1300]) rfl ⟨(Res_agg (n:=2) (cs:=flat [(1,[vi 0]),(1,[vs ([]:Str)])]) rfl (by simp) (SrcEnts (b:=b1) [(1,[vi 0]),(1,[vs ([]:Str)])] 0 ⟨rfl,rfl,trivial⟩ (AllSrc.all (M:=ents b1 0 [(1,[vi 0]),(1,[vs ([]:Str)])]) ⟨Src.own (j:=0) rfl,Src.own (j:=1) rfl,trivial⟩)) Try.isAgg123 TryI.inf123 rfl (by simp [flat])),rfl,rfl,trivial⟩ (fun w' hs'=>⟨(),rfl,Step.left (Step.pulled (is:=[]) (A:=[]) hs' rfl)⟩)
  ·replace H:=ite_f (Bool.eq_false_iff.1 hc) H
   refine TC_skip (TX_next (TC_seq (TC_region (TLv (V_move rfl) ?_))))
   refine TLv (V_move rfl) ?_
   refine TLv (V_bin rfl rfl (fun w=>addI w at_ 1)) ?_
   obtain ⟨r_1,hr_1,H⟩:=bind_elim H
   refine TLe (E_c0 (F102_calls s_ (w64 (at_+1)) r_1 hr_1) Try.call102 .z) (fun g_1=>?_)
   refine TLv (V_move rfl) ?_
   refine TLv V_ex ?_
   refine TLv V_ex ?_
   refine TLv (V_assign rfl) ?_
   refine TLv (V_assign rfl) ?_
   refine TL_nil (TX_next (TC_seq (TC_seq (TC_region (TLv (V_move rfl) ?_)))))
   refine TLv (V_bin rfl rfl (fun w=>lssI w r_1.2 0)) ?_
   refine TLv (V_move rfl) ?_
   obtain ⟨j2,Hj,H⟩:=bind_elim H
   refine TL_join (Γ:=Unit) (fun gj2=>[(0,vs s_),(1,vi at_),(4,ptr (some (b1,0)) 0),(7,vi r_1.1),(8,vi r_1.2),(42,vb j2)]) (fun gj2=>[⟨some (b1,0),[vi 0]⟩,⟨some (b1,1),[vs ([]:Str)]⟩]) ?_ ?_
   ·intro gj2
    refine TX_next (TC_cond (b:=j2) rfl (fun hc=>?_) (fun hc=>?_))
    ·replace H:=ite_t hc H
     refine TC_seq (TC_region (TLv (V_buildStruct (pv:=[]) (pl:=[(0,1),(1,1)]) rfl rfl Try.underlying123 TryI.inf123 TryI.places123 TryI.zer123 (cs:=flat [(1,[vi 0]),(1,[vs ([]:Str)])]) (by kernel_rfl)) ?_))
     refine TLn (E_sp (b:=b1) (o:=0) [0,0] [(1,[vi 0]),(1,[vs ([]:Str)])] [(1,[vi 0]),(1,[vs ([]:Str)])] rfl TryI.inf123 ⟨rfl,rfl,trivial⟩ ⟨rfl,rfl,trivial⟩ ⟨(OneC.cons rfl OneC.nil),(OneC.cons rfl OneC.nil),trivial⟩) (fun _=>?_)
     refine TLv (V_assign rfl) ?_
     refine TLv (V_assign rfl) ?_
     refine TL_nil (TX_next (TC_ret (TX_then_ret ?_)))
     have hrv:=Option.some.inj H
     subst hrv
     exact TX_ret (rs:=[.cell 4 123, .tmp 5, .tmp 6]) (vs:=[aG [(1,[vi 0]),(1,[vs ([]:Str)])],vi 0,vi 1300]) rfl ⟨(Res_agg (n:=2) (cs:=flat [(1,[vi 0]),(1,[vs ([]:Str)])]) rfl (by simp) (SrcEnts (b:=b1) [(1,[vi 0]),(1,[vs ([]:Str)])] 0 ⟨rfl,rfl,trivial⟩ (AllSrc.all (M:=ents b1 0 [(1,[vi 0]),(1,[vs ([]:Str)])]) ⟨Src.own (j:=0) rfl,Src.own (j:=1) rfl,trivial⟩)) Try.isAgg123 TryI.inf123 rfl (by simp [flat])),rfl,rfl,trivial⟩ (fun w' hs'=>⟨(),rfl,Step.left (Step.pulled (is:=[]) (A:=[]) hs' rfl)⟩)
    ·replace H:=ite_f (Bool.eq_false_iff.1 hc) H
     refine TC_skip (TX_next (TC_seq ?_))
     obtain ⟨h1,H⟩:=if_elim H
     obtain ⟨h2,H⟩:=if_elim H
     obtain ⟨h3,H⟩:=if_elim H
     obtain ⟨h4,H⟩:=if_elim H
     obtain ⟨h5,H⟩:=if_elim H
     obtain ⟨x1,hx1,H⟩:=ltt_elim H
     refine TA_begin [] 15 (by kernel_rfl) (N:=17) rfl ?_
     refine TA_tk 0 [] (dn 17 1) rfl rfl (V_move rfl) ?_
     refine TA_tk 1 [] (dn 17 3) rfl rfl (V_move rfl) ?_
     refine TA_tk 2 [] (dn 17 7) rfl rfl (V_idxStr rfl rfl (i:=at_) Try.underlying9 h1.1 h1.2) ?_
     refine TA_tk 3 [] (dn 17 15) rfl rfl (V_conv rfl (fun w=>cv8toI w _ _ Try.underlying3 (TryI.und5) (sg s_ at_))) ?_
     refine TA_tk 4 [] (dn 17 31) rfl rfl (V_move rfl) ?_
     refine TA_tk 5 [] (dn 17 63) rfl rfl (V_move rfl) ?_
     refine TA_tk 6 [] (dn 17 127) rfl rfl (V_move rfl) ?_
     refine TA_tk 7 [] (dn 17 255) rfl rfl (V_move rfl) ?_
     refine TA_tk 8 [] (dn 17 511) rfl rfl (V_bin rfl rfl (fun w=>addI w r_1.2 r_1.1)) ?_
     refine TA_tk 9 [] (dn 17 1023) rfl rfl (V_sliceStr (l:=(r_1.2).toNat) (h:=(w64 (r_1.2+r_1.1)).toNat) rfl Try.underlying9 (Bnd.some' (i:=r_1.2) rfl h3) (Bnd.some' (i:=w64 (r_1.2+r_1.1)) rfl h2) h5 h4) ?_
     refine TA_tk 10 [] (dn 17 2047) rfl rfl (V_buildStruct (pv:=[(0,vi ((sg s_ at_).toNat:Int)),(1,vs (sub s_ ((r_1.2).toNat) ((w64 (r_1.2+r_1.1)).toNat)))]) (pl:=[(0,1),(1,1)]) rfl rfl Try.underlying123 TryI.inf123 TryI.places123 TryI.zer123 (cs:=flat [(1,[vi ((sg s_ at_).toNat:Int)]),(1,[vs (sub s_ ((r_1.2).toNat) ((w64 (r_1.2+r_1.1)).toNat))])]) (by kernel_rfl)) ?_
     refine TA_tk 11 [] (dn 17 4095) rfl rfl (V_move rfl) ?_
     refine TA_tk 12 [] (dn 17 8191) rfl rfl (V_move rfl) ?_
     refine TA_tk 13 [] (dn 17 16383) rfl rfl (V_bin rfl rfl (fun w=>addI w r_1.2 r_1.1)) ?_
     refine TA_all (rs:=[14]) (by kernel_rfl) rfl ?_
     refine ⟨?_,trivial⟩
     refine TO_n (is:=[]) (done':=dn 17 32767) rfl rfl rfl (by kernel_rfl) (E_sp (b:=b1) (o:=0) [0,0] [(1,[vi 0]),(1,[vs ([]:Str)])] [(1,[vi ((sg s_ at_).toNat:Int)]),(1,[vs (sub s_ ((r_1.2).toNat) ((w64 (r_1.2+r_1.1)).toNat))])] rfl TryI.inf123 ⟨rfl,rfl,trivial⟩ ⟨rfl,rfl,trivial⟩ ⟨(OneC.cons rfl OneC.nil),(OneC.cons rfl OneC.nil),trivial⟩) (fun _ _=>rfl) (fun _=>?_)
     refine TA_all (rs:=[15]) (by kernel_rfl) rfl ?_
     refine ⟨?_,trivial⟩
     refine TO_v (is:=[]) (R:=[]) (done':=dn 17 65535) rfl rfl rfl rfl (by kernel_rfl) (V_assign rfl) (fun h=>by cases h) ?_
     refine TA_re (d:=5) (v:=vi (w64 (r_1.2+r_1.1))) (v':=vi x1) rfl (congrArg vi hx1) ?_
     refine TA_all (rs:=[16]) (by kernel_rfl) rfl ?_
     refine ⟨?_,trivial⟩
     refine TO_v (is:=[]) (R:=[]) (done':=dn 17 131071) rfl rfl rfl rfl (by kernel_rfl) (V_assign rfl) (fun h=>by cases h) ?_
     refine TA_done (by kernel_rfl) ?_ 0
     refine TX_next (TC_ret ?_)
     have hrv:=Option.some.inj H
     subst hrv
     exact TX_ret (rs:=[.cell 4 123, .tmp 5, .tmp 6]) (vs:=[aG [(1,[vi ((sg s_ at_).toNat:Int)]),(1,[vs (sub s_ ((r_1.2).toNat) ((w64 (r_1.2+r_1.1)).toNat))])],vi x1,vi 0]) rfl ⟨(Res_agg (n:=2) (cs:=flat [(1,[vi ((sg s_ at_).toNat:Int)]),(1,[vs (sub s_ ((r_1.2).toNat) ((w64 (r_1.2+r_1.1)).toNat))])]) rfl (by simp) (SrcEnts (b:=b1) [(1,[vi ((sg s_ at_).toNat:Int)]),(1,[vs (sub s_ ((r_1.2).toNat) ((w64 (r_1.2+r_1.1)).toNat))])] 0 ⟨rfl,rfl,trivial⟩ (AllSrc.all (M:=ents b1 0 [(1,[vi ((sg s_ at_).toNat:Int)]),(1,[vs (sub s_ ((r_1.2).toNat) ((w64 (r_1.2+r_1.1)).toNat))])]) ⟨Src.own (j:=0) rfl,Src.own (j:=1) rfl,trivial⟩)) Try.isAgg123 TryI.inf123 rfl (by simp [flat])),rfl,rfl,trivial⟩ (fun w' hs'=>⟨(),rfl,Step.left (Step.pulled (is:=[]) (A:=[]) hs' rfl)⟩)
   ·intro hJ
    replace H:=Hj
    refine TL_fork (d:=35) (b:=(decide (r_1.2<0))) rfl (fun hc=>?_) (fun hc=>?_)
    ·replace H:=ite_t (of_decide_eq_true hc) H
     refine TL_skip rfl rfl rfl rfl rfl rfl rfl ?_
     refine TL_skip rfl rfl rfl rfl rfl rfl rfl ?_
     refine TL_skip rfl rfl rfl rfl rfl rfl rfl ?_
     refine TL_skip rfl rfl rfl rfl rfl rfl rfl ?_
     refine TL_skip rfl rfl rfl rfl rfl rfl rfl ?_
     refine TL_skip rfl rfl rfl rfl rfl rfl rfl ?_
     refine TLv (V_pick (b:=true) rfl rfl) ?_
     refine TL_nil (TX.sub (m':=[(0,vs s_),(1,vi at_),(4,ptr (some (b1,0)) 0),(7,vi r_1.1),(8,vi r_1.2),(42,vb true)]) ⟨rfl,rfl,rfl,rfl,rfl,rfl,trivial⟩ ?_)
     refine TX.pull (is:=[0,0]) (L':=[⟨some (b1,0),[vi 0]⟩,⟨some (b1,1),[vs ([]:Str)]⟩]) rfl ?_
     obtain rfl:=Option.some.inj H
     exact hJ ()
    ·replace H:=ite_f (of_decide_eq_false hc) H
     refine TL_want rfl rfl rfl rfl rfl rfl (V_move rfl) ?_
     refine TL_want rfl rfl rfl rfl rfl rfl (V_move rfl) ?_
     refine TL_want rfl rfl rfl rfl rfl rfl (V_len_str rfl Try.underlying9) ?_
     refine TL_want rfl rfl rfl rfl rfl rfl (V_move rfl) ?_
     refine TL_want rfl rfl rfl rfl rfl rfl (V_bin rfl rfl (fun w=>subI w ((s_).length:Int) r_1.2)) ?_
     refine TL_want rfl rfl rfl rfl rfl rfl (V_bin rfl rfl (fun w=>gtrI w r_1.1 (w64 (((s_).length:Int) - r_1.2)))) ?_
     refine TLv (V_pick (b:=false) rfl rfl) ?_
     refine TL_nil (TX.sub (m':=[(0,vs s_),(1,vi at_),(4,ptr (some (b1,0)) 0),(7,vi r_1.1),(8,vi r_1.2),(42,vb (decide ((w64 (((s_).length:Int) - r_1.2))<r_1.1)))]) ⟨rfl,rfl,rfl,rfl,rfl,rfl,trivial⟩ ?_)
     refine TX.pull (is:=[0,0]) (L':=[⟨some (b1,0),[vi 0]⟩,⟨some (b1,1),[vs ([]:Str)]⟩]) rfl ?_
     obtain rfl:=Option.some.inj H
     exact hJ ()
 ·intro hJ
  replace H:=Hj
  refine TL_fork (d:=11) (b:=(decide (at_<0))) rfl (fun hc=>?_) (fun hc=>?_)
  ·replace H:=ite_t (of_decide_eq_true hc) H
   refine TL_skip rfl rfl rfl rfl rfl rfl rfl ?_
   refine TL_skip rfl rfl rfl rfl rfl rfl rfl ?_
   refine TL_skip rfl rfl rfl rfl rfl rfl rfl ?_
   refine TL_skip rfl rfl rfl rfl rfl rfl rfl ?_
   refine TLv (V_pick (b:=true) rfl rfl) ?_
   refine TLv (V_move rfl) ?_
   refine TL_skip rfl rfl rfl rfl rfl rfl rfl ?_
   refine TL_skip rfl rfl rfl rfl rfl rfl rfl ?_
   refine TL_skip rfl rfl rfl rfl rfl rfl rfl ?_
   refine TL_skip rfl rfl rfl rfl rfl rfl rfl ?_
   refine TL_skip rfl rfl rfl rfl rfl rfl rfl ?_
   refine TL_skip rfl rfl rfl rfl rfl rfl rfl ?_
   refine TLv (V_pick (b:=true) rfl rfl) ?_
   refine TL_nil (TX.sub (m':=[(0,vs s_),(1,vi at_),(4,ptr (some (b1,0)) 0),(24,vb true)]) ⟨rfl,rfl,rfl,rfl,trivial⟩ ?_)
   refine TX.pull (is:=[0,0]) (L':=[⟨some (b1,0),[vi 0]⟩,⟨some (b1,1),[vs ([]:Str)]⟩]) rfl ?_
   obtain rfl:=Option.some.inj H
   exact hJ ()
  ·replace H:=ite_f (of_decide_eq_false hc) H
   refine TL_want rfl rfl rfl rfl rfl rfl (V_move rfl) ?_
   refine TL_want rfl rfl rfl rfl rfl rfl (V_move rfl) ?_
   refine TL_want rfl rfl rfl rfl rfl rfl (V_len_str rfl Try.underlying9) ?_
   refine TL_want rfl rfl rfl rfl rfl rfl (V_bin rfl rfl (fun w=>geqI w at_ ((s_).length:Int))) ?_
   refine TLv (V_pick (b:=false) rfl rfl) ?_
   refine TLv (V_move rfl) ?_
   refine TL_fork (d:=17) (b:=(decide (((s_).length:Int)≤at_))) rfl (fun hc=>?_) (fun hc=>?_)
   ·replace H:=ite_t (of_decide_eq_true hc) H
    refine TL_skip rfl rfl rfl rfl rfl rfl rfl ?_
    refine TL_skip rfl rfl rfl rfl rfl rfl rfl ?_
    refine TL_skip rfl rfl rfl rfl rfl rfl rfl ?_
    refine TL_skip rfl rfl rfl rfl rfl rfl rfl ?_
    refine TL_skip rfl rfl rfl rfl rfl rfl rfl ?_
    refine TL_skip rfl rfl rfl rfl rfl rfl rfl ?_
    refine TLv (V_pick (b:=true) rfl rfl) ?_
    refine TL_nil (TX.sub (m':=[(0,vs s_),(1,vi at_),(4,ptr (some (b1,0)) 0),(24,vb true)]) ⟨rfl,rfl,rfl,rfl,trivial⟩ ?_)
    refine TX.pull (is:=[0,0]) (L':=[⟨some (b1,0),[vi 0]⟩,⟨some (b1,1),[vs ([]:Str)]⟩]) rfl ?_
    obtain rfl:=Option.some.inj H
    exact hJ ()
   ·replace H:=ite_f (of_decide_eq_false hc) H
    refine TL_want rfl rfl rfl rfl rfl rfl (V_move rfl) ?_
    refine TL_want rfl rfl rfl rfl rfl rfl (V_move rfl) ?_
    obtain ⟨h6,H⟩:=if_elim H
    refine TL_want rfl rfl rfl rfl rfl rfl (V_idxStr rfl rfl (i:=at_) Try.underlying9 h6.1 h6.2) ?_
    refine TL_want rfl rfl rfl rfl rfl rfl (V_conv rfl (fun w=>cv8toI w _ _ Try.underlying3 (TryI.und5) (sg s_ at_))) ?_
    obtain ⟨r_2,hr_2,H⟩:=bind_elim H
    refine TL_wantE rfl rfl rfl rfl rfl rfl (E_c0 (F89_calls ((sg s_ at_).toNat:Int) r_2 hr_2) Try.call89 .z) (fun g_2=>?_)
    refine TL_want rfl rfl rfl rfl rfl rfl (V_un rfl (fun w=>notB w r_2)) ?_
    refine TLv (V_pick (b:=false) rfl rfl) ?_
    refine TL_nil (TX.sub (m':=[(0,vs s_),(1,vi at_),(4,ptr (some (b1,0)) 0),(24,vb (!r_2))]) ⟨rfl,rfl,rfl,rfl,trivial⟩ ?_)
    refine TX.pull (is:=[0,0]) (L':=[⟨some (b1,0),[vi 0]⟩,⟨some (b1,1),[vs ([]:Str)]⟩]) rfl ?_
    obtain rfl:=Option.some.inj H
    exact hJ ()
end Go.Proofs
end

section
namespace Go.Proofs
open Go Go.Kx
def halberdref9_integer.b0  (s0:Str):Option ((Str) ⊕ (Str)) :=
 (if 1<((s0).length:Int) then (if 0≤(0:Int)∧(0:Int)<((s0).length:Int) then (some (decide ((sg s0 0)=0#8))) else none) else (some false)).bind fun (j1:Bool)=>(if j1=true then (if 1≤(s0).length then (ltt (sub s0 1 ((s0).length)) fun (s_1:Str)=>(some (.inl s_1))) else none) else (some (.inr s0)))
def halberdref9_integer (a_:Vx 32 8):Option (Str) :=
 (halberdref9_put a_).bind fun (r_1:Str)=>((loop (halberdref9_integer.b0) BIG r_1).bind fun (t_1:Str)=>(if 0≤(0:Int)∧(0:Int)<((t_1).length:Int) then ((if (127#8).toNat<((sg t_1 0)).toNat then (if (([0#8]:Str)).length+(t_1).length≤4611686018427387904 then (ltt (([0#8]:Str)++t_1) fun (s_2:Str)=>(some s_2)) else none) else (some t_1)).bind fun (j2:Str)=>(if (([BitVec.ofInt 8 ((j2).length:Int)]:List (BitVec 8))).length=1 then (if (([2#8]:Str)).length+(([BitVec.ofInt 8 ((j2).length:Int)]:List (BitVec 8))).length≤4611686018427387904 then (if (([2#8]:Str)++([BitVec.ofInt 8 ((j2).length:Int)]:List (BitVec 8))).length+(j2).length≤4611686018427387904 then (ltt ((([2#8]:Str)++([BitVec.ofInt 8 ((j2).length:Int)]:List (BitVec 8)))++j2) fun (x1:Str)=>(some x1)) else none) else none) else none)) else none))
end Go.Proofs
end

section
namespace Go.Kx
open Go Go.Proofs
open Go.Nt hiding n4
def strip:Str → Str
 | []=>[]
 | x :: r=>if x=0#8 then strip r else x :: r
def derB (b:Str):Str:=match strip b with
 | []=>[0#8]
 | x :: r=>if 128≤x.toNat then 0#8 :: x :: r else x :: r
def DB (n:Nat):Str:=derB (nb32 n)
def DI (n:Nat):Str:=[2#8,BitVec.ofNat 8 (DB n).length]++DB n
def SG (r s:Nat):Str:=[48#8,BitVec.ofNat 8 (DI r++DI s).length]++(DI r++DI s)
theorem strip_len : ∀ b:Str,(strip b).length≤b.length
 | []=>Nat.le_refl _
 | x :: r=>by
  unfold strip
  split
  ·have:=strip_len r; simp; omega
  ·exact Nat.le_refl _
theorem bnum_cons0 (r:Str):bnum (0#8 :: r)=bnum r:=by
 have:=bnum_app [0#8] r
 have e:bnum [0#8]=0:=by decide
 rw [e,Nat.zero_mul,Nat.zero_add] at this
 exact this
theorem bnum_strip : ∀ b:Str,bnum (strip b)=bnum b
 | []=>rfl
 | x :: r=>by
  unfold strip
  split
  ·rename_i h; subst h; rw [bnum_strip r,bnum_cons0]
  ·rfl
theorem strip_pad (k:Nat) (b:Str):strip (List.replicate k 0#8++b)=strip b:=by
 induction k with
 | zero=>simp
 | succ k ih=>rw [List.replicate_succ,List.cons_append]; exact (if_pos rfl).trans ih
theorem bnum_pad (k:Nat) (b:Str):bnum (List.replicate k 0#8++b)=bnum b:=by
 rw [← bnum_strip,strip_pad,bnum_strip]
theorem derB_pad (k:Nat) (b:Str):derB (List.replicate k 0#8++b)=derB b:=by unfold derB; rw [strip_pad]
theorem derB_num (b:Str) (h:b.length≤32):derB b=DB (bnum b):=by
 have e:=nb32_bnum (List.replicate (32 - b.length) 0#8++b) (by simp; omega)
 rw [bnum_pad] at e
 unfold DB
 rw [e,derB_pad]
theorem derB_len (b:Str):1≤(derB b).length∧(derB b).length≤b.length+1:=by
 unfold derB
 have:=strip_len b
 split
 ·simp
 ·rename_i x r h
  rw [h] at this
  split <;> simp at * <;> omega
theorem DB_len (n:Nat):1≤(DB n).length∧(DB n).length≤33:=by
 have:=derB_len (nb32 n)
 rw [nb32_len] at this
 exact this
theorem DI_len (n:Nat):(DI n).length=(DB n).length+2:=by simp [DI]
theorem bnum_derB (b:Str):bnum (derB b)=bnum b:=by
 rw [← bnum_strip b]
 unfold derB
 split
 ·rename_i h; rw [h]; decide
 ·rename_i x r h
  rw [h]
  split
  ·exact bnum_cons0 _
  ·rfl
theorem bnum_DB (n:Nat) (h:n<2 ^ 256):bnum (DB n)=n:=by unfold DB; rw [bnum_derB,bnum_nb32 n h]
theorem DB_33 (n:Nat) (h:(DB n).length=33) : ∃ b,DB n=0#8 :: b∧b.length=32:=by
 unfold DB derB at *
 have hl:=strip_len (nb32 n)
 rw [nb32_len] at hl
 generalize strip (nb32 n)=t at *
 cases t with
 | nil=>simp at h
 | cons x r =>
  simp only at h ⊢
  split at h
  ·rename_i hx
   rw [if_pos hx]
   exact ⟨_,rfl,by simpa using h⟩
  ·exfalso; rw [h] at hl; omega
theorem Integer_loop : ∀ (b:Str) (fuel:Nat),b.length<fuel → loop der_Integer.b0 fuel b=some (strip b)
 | [],0,h=>by simp at h
 | [],f+1,_=>by simp [loop,der_Integer.b0,strip]
 | x :: r,0,h=>by simp at h
 | x :: r,f+1,h=>by
  have h1:der_Integer.b0 (x :: r)=if x=0#8 then some (.inl r) else some (.inr (x :: r)):=by
   unfold der_Integer.b0
   have hs:sg (x :: r) 0=x:=rfl
   have hsub:sub (x :: r) 1 ((x :: r).length)=r:=by
    simp only [sub,List.drop_succ_cons,List.drop_zero]
    exact List.take_of_length_le (by simp)
   rw [hs]
   rw [if_pos (show (0:Int)<((x :: r).length:Int) by rw [List.length_cons]; omega),if_pos (show (0:Int)≤0∧(0:Int)<((x :: r).length:Int) by rw [List.length_cons]; omega)]
   by_cases hx:x=0#8
   ·rw [if_pos hx]
    refine bind_i rfl (if_i (by simp [hx]) (if_i (by simp) ?_))
    unfold ltt; rw [hsub]
   ·rw [if_neg hx]
    exact bind_i rfl (if_n (by simp [hx]) rfl)
  unfold strip
  by_cases hx:x=0#8
  ·rw [if_pos hx] at h1 ⊢
   simp only [loop,h1]
   exact Integer_loop r f (by simp at h; omega)
  ·rw [if_neg hx] at h1 ⊢
   simp only [loop,h1]
theorem tag_eq (t:Nat) (h:t<256):der_tag (t:Int)=some (decide (t % 32 ≠ 31)):=by
 have e:iop (· &&& ·) (t:Int) 31=((t % 32:Nat):Int):=by
  unfold iop
  have:((BitVec.ofInt 64 (t:Int)) &&& (BitVec.ofInt 64 31)).toNat=t % 32:=by
   have e1:(BitVec.ofInt 64 (31:Int)).toNat=2 ^ 5 - 1:=by decide
   have e2:(BitVec.ofInt 64 (t:Int)).toNat=t:=by rw [BitVec.ofInt_natCast,BitVec.toNat_ofNat]; omega
   rw [BitVec.toNat_and,e1,Nat.and_two_pow_sub_one_eq_mod,e2]
  show w64 (((BitVec.ofInt 64 (t:Int)) &&& (BitVec.ofInt 64 31)).toNat:Int)=_
  rw [this,w64_id (by omega) (by omega)]
 have e2:decide (iop (· &&& ·) (t:Int) 31 ≠ 31)=decide (t % 32 ≠ 31):=by
  rw [e]
  exact decide_eq_decide.2 ⟨fun h c=>h (by rw [c]; rfl),fun h c=>h (by omega)⟩
 unfold der_tag
 refine if_i (by omega) (if_i (by omega) (ltt_i fun v hv=>?_))
 rw [hv,e2]
theorem head_short (t n:Nat) (hn:n<128):der_head (t:Int) (n:Int)=some [BitVec.ofNat 8 t,BitVec.ofNat 8 n]:=by
 unfold der_head
 have e1:BitVec.ofInt 8 (t:Int)=BitVec.ofNat 8 t:=BitVec.ofInt_natCast 8 t
 have e2:BitVec.ofInt 8 (n:Int)=BitVec.ofNat 8 n:=BitVec.ofInt_natCast 8 n
 refine ltt_i fun v hv=>?_
 rw [hv]
 refine if_i (by simp; omega) (if_i rfl ?_)
 unfold ltt
 rw [e1,e2]
theorem Put_sum (parts:List Str) (hp:parts.length<1000) (hs:(parts.map List.length).sum<65536) :
  loop (der_Put.b0 parts) BIG (0,0)=some (.inl (((parts.map List.length).sum:Nat):Int)):=by
 refine loop_fn (s0:=((0:Int),(0:Int))) (fun k=>(((((parts.take k).map List.length).sum:Nat):Int),(k:Int))) parts.length _ (by omega) (by simp) (fun k hk=>?_) ?_
 ·unfold der_Put.b0
  dsimp only
  have hg:lg parts k=parts[k]:=by unfold lg; rw [List.getD_eq_getElem?_getD,List.getElem?_eq_getElem hk]; rfl
  have hb:((parts.take (k+1)).map List.length).sum<65536:=by
   have h1:(parts.take (k+1)).flatten.length≤parts.flatten.length:=by
    conv=>rhs; rw [← List.take_append_drop (k+1) parts]
    rw [List.flatten_append,List.length_append]; omega
   rw [List.length_flatten,List.length_flatten] at h1
   omega
  have e:((parts.take (k+1)).map List.length).sum=((parts.take k).map List.length).sum+(parts[k]).length:=by
   rw [List.take_add_one,List.getElem?_eq_getElem hk,List.map_append,List.sum_append]; rfl
  rw [e] at hb
  refine if_i (by omega) (if_i (by omega) (ltt_i fun v hv=>ltt_i fun w hw=>?_))
  rw [Int.toNat_natCast,hg] at hv
  subst hv
  have ew:w=(((((parts.take (k+1)).map List.length).sum:Nat)):Int):=by
   rw [hw,e]
   rw [show w64 ((((parts.take k).map List.length).sum:Nat)+((parts[k]).length:Int))=((((parts.take k).map List.length).sum+(parts[k]).length:Nat):Int) from w64_add (by omega)]
  refine if_n (by rw [ew,e]; omega) ?_
  rw [ew,w64_s (by omega)]
 ·unfold der_Put.b0
  refine if_n (by dsimp only; omega) ?_
  dsimp only
  rw [List.take_length]
theorem Put_fill (parts:List Str) (h:Str) (hp:parts.length<1000) (hb:h.length+(parts.map List.length).sum<100000) :
  loop (der_Put.b1 parts) BIG (0,h)=some (h++parts.flatten):=by
 refine loop_fn (fun k=>((k:Int),h++(parts.take k).flatten)) parts.length _ (by omega) (by simp) (fun k hk=>?_) ?_
 ·unfold der_Put.b1
  dsimp only
  have hg:lg parts k=parts[k]:=by unfold lg; rw [List.getD_eq_getElem?_getD,List.getElem?_eq_getElem hk]; rfl
  have e:(parts.take (k+1)).flatten=(parts.take k).flatten++parts[k]:=by
   rw [List.take_add_one,List.getElem?_eq_getElem hk,List.flatten_append]; simp
  have hle:((parts.take k).flatten).length+(parts[k]).length≤(parts.map List.length).sum:=by
   have h1:(parts.take (k+1)).flatten.length≤parts.flatten.length:=by
    conv=>rhs; rw [← List.take_append_drop (k+1) parts]
    rw [List.flatten_append,List.length_append]; omega
   rw [e,List.length_append,List.length_flatten (L:=parts)] at h1
   exact h1
  refine if_i (by omega) (if_i (by omega) (ltt_i fun v hv=>?_))
  rw [Int.toNat_natCast,hg] at hv
  subst hv
  refine if_i (by rw [List.length_append]; omega) (ltt_i fun w hw=>?_)
  rw [hw,w64_s (by omega),e,List.append_assoc]
 ·unfold der_Put.b1
  refine if_n (by dsimp only; omega) ?_
  dsimp only
  rw [List.take_length]
theorem Put1 (t:Nat) (ht:t<256) (htag:t % 32 ≠ 31) (p:Str) (h:p.length<128):der_Put (t:Int) [p]=some ([BitVec.ofNat 8 t,BitVec.ofNat 8 p.length]++p,0):=by
 unfold der_Put
 have hs:=Put_sum [p] (by simp) (by simp; omega)
 have e:([p].map List.length).sum=p.length:=by simp
 rw [e] at hs
 refine bind_i hs ?_
 dsimp only
 refine bind_i (tag_eq t ht) (if_n (by simp [htag]) (bind_i (head_short t p.length h) (bind_i (Put_fill [p] _ (by simp) (by simp; omega)) ?_)))
 simp
theorem Put2 (t:Nat) (ht:t<256) (htag:t % 32 ≠ 31) (p q:Str) (h:p.length+q.length<128):der_Put (t:Int) [p,q]=some ([BitVec.ofNat 8 t,BitVec.ofNat 8 (p++q).length]++(p++q),0):=by
 unfold der_Put
 have hs:=Put_sum [p,q] (by simp) (by simp; omega)
 have e:([p,q].map List.length).sum=(p++q).length:=by simp
 rw [e] at hs
 refine bind_i hs ?_
 dsimp only
 refine bind_i (tag_eq t ht) (if_n (by simp [htag]) (bind_i (head_short t (p++q).length (by simp; omega)) (bind_i (Put_fill [p,q] _ (by simp) (by simp; omega)) ?_)))
 simp
theorem Integer_eq (b:Str) (h:b.length≤33):der_Integer b=some ([2#8,BitVec.ofNat 8 (derB b).length]++derB b,0):=by
 have hl:=derB_len b
 unfold der_Integer
 refine if_n (by omega) (bind_i (Integer_loop b BIG (by unfold BIG; omega)) ?_)
 have hP:=Put1 2 (by decide) (by decide) (derB b) (by omega)
 unfold derB at hP ⊢
 cases hs:strip b with
 | nil =>
  rw [hs] at hP
  exact bind_i (if_i rfl rfl) (bind_i (v:=[0#8]) (if_i rfl (if_i (by simp) rfl)) (if_i rfl (bind_i hP rfl)))
 | cons x r =>
  rw [hs] at hP
  have hx:sg (x :: r) 0=x:=rfl
  have hb:=strip_len b
  rw [hs] at hb
  dsimp only at hP ⊢
  by_cases h8:128≤x.toNat
  ·rw [if_pos h8] at hP ⊢
   refine bind_i (v:=true) (if_n (by simp) (if_i (by rw [List.length_cons]; omega) ?_)) (bind_i (v:=0#8 :: x :: r) (if_i rfl (if_i (by simp at hb ⊢; omega) rfl)) (if_i rfl (bind_i hP rfl)))
   rw [hx]; simp; exact h8
  ·rw [if_neg h8] at hP ⊢
   refine bind_i (v:=false) (if_n (by simp) (if_i (by rw [List.length_cons]; omega) ?_)) (bind_i (v:=x :: r) (if_n (by decide) rfl) (if_i rfl (bind_i hP rfl)))
   rw [hx]; simp; omega
theorem Integer_nb (n:Nat):der_Integer (nb32 n)=some (DI n,0):=Integer_eq (nb32 n) (by rw [nb32_len]; omega)
end Go.Kx
end

section
namespace Go.Proofs
open Go Go.Kx
def der_All.b0 (s_:Str) (s0:Int × (List (Int × Str))):Option ((Int × (List (Int × Str))) ⊕ (((List (Int × Str))) ⊕ (Int × (List (Int × Str))))) :=
 if s0.1<((s_).length:Int) then ((der_Get s_ s0.1).bind fun (r_1:Int × Str × Int × Int)=>(if r_1.2.2.2 ≠ 0 then (some (.inr (.inr (r_1.2.2.2,([]:List (Int × Str)))))) else (if (s0.2).length+(([(r_1.1,r_1.2.1)]:List (Int × Str))).length≤5864062014805 then (ltt (s0.2++([(r_1.1,r_1.2.1)]:List (Int × Str))) fun (l1:List (Int × Str))=>(some (.inl (r_1.2.2.1,l1)))) else none))) else (some (.inr (.inl s0.2)))
def der_All (s_:Str):Option (Int × (List (Int × Str))) :=
 (loop (der_All.b0 s_) BIG (0,([]:List (Int × Str)))).bind fun (t_1:((List (Int × Str))) ⊕ (Int × (List (Int × Str))))=>(match t_1 with | .inl t_1=>(some (0,t_1)) | .inr rv=>some rv)
set_option maxHeartbeats 4000000 in
set_option maxRecDepth 20000 in
theorem F94_calls (s_:Str) (r:Int × (List (Int × Str))) (H:der_All s_=some r) :
  Does Try.prog 94 [vs s_] [] [] (Γ:=Adr × (List (Int × Str))) (fun g=>Value.tuple [sl g.1 ((r.2).length) ((r.2++g.2).length),vi r.1].toArray) (fun g=>[⟨g.1,eF (fun p:Int × Str=>[vi p.1,vs p.2]) (r.2++g.2)⟩]):=by
 intro w hmem hro hd
 refine calls_of (N:=29) (m0:=[(0,vs s_)]) Try.func94 rfl Try.ntmps94 (argM_ok [vs s_]) rfl hmem hro hd ?_
 unfold der_All at H
 refine TC_seq (TC_region (TLe (E_nilS rfl (z:=eF (fun p:Int × Str=>[vi p.1,vs p.2]) (([]:List (Int × Str))++([]:List (Int × Str)))) rfl) (fun A1=>?_)))
 refine TLv (V_assign rfl) ?_
 refine TL_nil (TX_next (TC_seq (TC_region (TLe (E_nilS rfl (z:=eF (fun p:Int × Str=>[vi p.1,vs p.2]) (([]:List (Int × Str))++([]:List (Int × Str)))) rfl) (fun A2=>?_)))))
 refine TL_nil (TX_next (TC_seq (TC_seq (TC_region (TLv (V_assign rfl) ?_)))))
 refine TL_nil (TX_next (TC_block ?_))
 obtain ⟨t_1,Hl,H⟩:=bind_elim H
 refine TC.sub (m':=[(0,vs s_),(4,sl A2 ((([]:List (Int × Str))).length) ((([]:List (Int × Str))++([]:List (Int × Str))).length)),(5,vi 0)]) ⟨rfl,rfl,rfl,trivial⟩ ?_
 refine TC.pull (is:=[0]) (L':=[⟨A2,eF (fun p:Int × Str=>[vi p.1,vs p.2]) (([]:List (Int × Str))++([]:List (Int × Str)))⟩]) rfl ?_
 refine TC_loopR (id:=0) (body:=(der_All.b0 s_)) (σ:=Int × (List (Int × Str))) (Γ:=Adr × (List (Int × Str))) (Γx:=Adr × (List (Int × Str))) (fun s0 g0_=>[(0,vs s_),(4,sl g0_.1 ((s0.2).length) ((s0.2++g0_.2).length)),(5,vi s0.1)]) (fun s0 g0_=>[⟨g0_.1,eF (fun p:Int × Str=>[vi p.1,vs p.2]) (s0.2++g0_.2)⟩]) (fun t g=>[(4,sl g.1 ((t).length) ((t++g.2).length))]) (fun t g=>[⟨g.1,eF (fun p:Int × Str=>[vi p.1,vs p.2]) (t++g.2)⟩]) r ?_ BIG (0,([]:List (Int × Str))) (A2,([]:List (Int × Str))) t_1 Hl ?_
 ·intro s0 g0_ r1 H K hK hE hR1
  unfold der_All.b0 at H
  refine TC_seq (TC_seq (TC_region (TLv (V_move rfl) ?_)))
  refine TLv (V_move rfl) ?_
  refine TLv (V_len_str rfl Try.underlying9) ?_
  refine TLv (V_bin rfl rfl (fun w=>lssI w s0.1 ((s_).length:Int))) ?_
  refine TL_nil (TX_next (TC_cond (b:=(decide (s0.1<((s_).length:Int)))) rfl (fun hc=>?_) (fun hc=>?_)))
  ·replace H:=ite_t (of_decide_eq_true hc) H
   refine TC_skip (TX_next (TC_block (TC_seq (TC_region (TLv (V_move rfl) ?_)))))
   refine TLv (V_move rfl) ?_
   obtain ⟨r_1,hr_1,H⟩:=bind_elim H
   refine TLe (E_c0 (F93_calls s_ s0.1 r_1 hr_1) Try.call93 .z) (fun g_1=>?_)
   refine TLv (V_move rfl) ?_
   refine TLv V_ex ?_
   refine TLv V_ex ?_
   refine TLv V_ex ?_
   refine TLe (E_allocP [(1,[vi 0]),(1,[vs ([]:Str)])] TryI.inf123 TryI.zer123 ⟨rfl,rfl,trivial⟩) (fun b1=>?_)
   refine TLn (E_sp (b:=b1) (o:=0) [0,0] [(1,[vi 0]),(1,[vs ([]:Str)])] [(1,[vi r_1.1]),(1,[vs r_1.2.1])] rfl TryI.inf123 ⟨rfl,rfl,trivial⟩ ⟨rfl,rfl,trivial⟩ ⟨(OneC.cons rfl OneC.nil),(OneC.cons rfl OneC.nil),trivial⟩) (fun _=>?_)
   refine TLv (V_assign rfl) ?_
   refine TLv (V_assign rfl) ?_
   refine TL_nil (TX_next (TC_seq (TC_seq (TC_region (TLv (V_move rfl) ?_)))))
   refine TLv (V_bin rfl rfl (fun w=>neqI w r_1.2.2.2 0)) ?_
   refine TL_nil (TX_next (TC_cond (b:=(decide (r_1.2.2.2 ≠ 0))) rfl (fun hc=>?_) (fun hc=>?_)))
   ·replace H:=ite_t (of_decide_eq_true hc) H
    refine TC_seq (TC_region (TLv (V_move rfl) ?_))
    refine TLe (E_nilS rfl (z:=eF (fun p:Int × Str=>[vi p.1,vs p.2]) (([]:List (Int × Str))++([]:List (Int × Str)))) rfl) (fun A3=>?_)
    refine TLv (V_assign rfl) ?_
    refine TL_nil (TX_next (TC_ret (TX_then_ret (TX_block_ret (TX_then_ret (TX_block_ret (TX_then_ret ?_)))))))
    have hrv:=(hR1 _ (Option.some.inj H).symm)
    subst hrv
    exact TX_ret (rs:=[.tmp 2, .tmp 3]) (vs:=[sl A3 ((([]:List (Int × Str))).length) ((([]:List (Int × Str))++([]:List (Int × Str))).length),vi r_1.2.2.2]) rfl ⟨rfl,rfl,trivial⟩ (fun w' hs'=>⟨(A3,([]:List (Int × Str))),rfl,Step.left (Step.pulled (is:=[0]) (A:=[⟨A3,eF (fun p:Int × Str=>[vi p.1,vs p.2]) (([]:List (Int × Str))++([]:List (Int × Str)))⟩]) hs' rfl)⟩)
   ·replace H:=ite_f (of_decide_eq_false hc) H
    refine TC_skip (TX_next (TC_seq (TC_region (TLv (V_move rfl) ?_))))
    refine TLv (V_loadAgg (n:=2) (cs:=flat [(1,[vi r_1.1]),(1,[vs r_1.2.1])]) rfl (by simp) (SrcEnts (b:=b1) [(1,[vi r_1.1]),(1,[vs r_1.2.1])] 0 ⟨rfl,rfl,trivial⟩ (AllSrc.all (M:=ents b1 0 [(1,[vi r_1.1]),(1,[vs r_1.2.1])]) ⟨Src.own (j:=0) rfl,Src.own (j:=1) rfl,trivial⟩)) Try.isAgg123 TryI.inf123 rfl (flat_len ⟨rfl,rfl,trivial⟩ rfl)) ?_
    refine TLe (E_buildSlice (pv:=[(0,aG [(1,[vi r_1.1]),(1,[vs r_1.2.1])])]) rfl rfl Try.underlying126 TryI.inf123 (s:=2) rfl TryI.zer123 rfl rfl rfl (cs:=eF (fun p:Int × Str=>[vi p.1,vs p.2]) ([(r_1.1,r_1.2.1)]:List (Int × Str))) (by kernel_rfl)) (fun b2=>?_)
    refine TL_re (d:=25) (v:=sl (some (b2,0)) 1 1) (v':=sl (some (b2,0)) ((([(r_1.1,r_1.2.1)]:List (Int × Str))).length) 1) rfl (congrArg (fun n=>sl (some (b2,0)) n 1) rfl) ?_
    obtain ⟨h1,H⟩:=if_elim H
    obtain ⟨l1,hl1,H⟩:=ltt_elim H
    refine TLe (E_appSl (g:=fun p:Int × Str=>[vi p.1,vs p.2]) (s:=2) (j:=3) (l:=s0.2) (sp:=g0_.2) (ds:=([(r_1.1,r_1.2.1)]:List (Int × Str))) ((0:Int),([]:Str)) rfl rfl rfl (fun _=>rfl) rfl (fun _=>(OneC.cons rfl (OneC.cons rfl OneC.nil))) (.o 0) Try.underlying126 Try.underlying126 TryI.inf123 rfl (TryI.zer123.trans rfl) (bytes:=24) rfl (by have:=h1; omega) (by have:=h1; omega) hl1) (fun q1=>?_)
    refine TLv (V_assign rfl) ?_
    refine TL_nil (TX_next (TC_region (TLv (V_move rfl) ?_)))
    refine TLv (V_assign rfl) ?_
    refine TL_nil (TX_block_normal (TX.sub (m':=[(0,vs s_),(4,sl q1.1 ((l1).length) ((l1++q1.2).length)),(5,vi r_1.2.2.1)]) ⟨rfl,rfl,rfl,trivial⟩ ?_))
    refine TX.pull (is:=[3]) (L':=[⟨q1.1,eF (fun p:Int × Str=>[vi p.1,vs p.2]) (l1++q1.2)⟩]) rfl ?_
    obtain rfl:=Option.some.inj H
    exact fun a w hs=>hK (r_1.2.2.1,l1) rfl (q1.1,q1.2) a w hs
  ·replace H:=ite_f (of_decide_eq_false hc) H
   refine TC_exit (TX_then_exit (TX_then_exit (TX.sub (m':=[(4,sl g0_.1 ((s0.2).length) ((s0.2++g0_.2).length))]) ⟨rfl,trivial⟩ ?_)))
   refine TX.pull (is:=[0]) (L':=[⟨g0_.1,eF (fun p:Int × Str=>[vi p.1,vs p.2]) (s0.2++g0_.2)⟩]) rfl ?_
   obtain rfl:=Option.some.inj H
   exact hE s0.2 rfl (g0_.1,g0_.2)
 ·rcases t_1 with t_1 | rv
  ·intro gx1
   dsimp only at H
   refine TX_block_exit (TX_next (TC_seq (TC_region (TLv (V_move rfl) ?_))))
   refine TLv (V_assign rfl) ?_
   refine TLv (V_assign rfl) ?_
   refine TL_nil (TX_next (TC_ret ?_))
   have hrv:=Option.some.inj H
   subst hrv
   exact TX_ret (rs:=[.tmp 2, .tmp 3]) (vs:=[sl gx1.1 ((t_1).length) ((t_1++gx1.2).length),vi 0]) rfl ⟨rfl,rfl,trivial⟩ (fun w' hs'=>⟨(gx1.1,gx1.2),rfl,Step.left (Step.pulled (is:=[0]) (A:=[⟨gx1.1,eF (fun p:Int × Str=>[vi p.1,vs p.2]) (t_1++gx1.2)⟩]) hs' rfl)⟩)
  ·exact (Option.some.inj H)
end Go.Proofs
end

section
namespace Go.Proofs
open Go Go.Kx
open Vector (replicate)
def ecdsa_integer (t_Tag:Int) (t_Body:Str):Option (Vx 64 4 × Bool) :=
 if 33<((t_Body).length:Int) then (ltt ((replicate 4 0#64:Vx 64 4)) fun (m_1:Vx 64 4)=>(some (m_1,false))) else ((if 32<((t_Body).length:Int) then (if 1≤(t_Body).length then (ltt (sub t_Body 1 ((t_Body).length)) fun (b6:Str)=>(some b6)) else none) else (some t_Body)).bind fun (j1:Str)=>(if 0≤w64 (32 - ((j1).length:Int))∧w64 (32 - ((j1).length:Int))≤17592186044416 then (if (List.replicate ((w64 (32 - ((j1).length:Int))).toNat) 0#8).length=(w64 (32 - ((j1).length:Int))).toNat then (if (List.replicate ((w64 (32 - ((j1).length:Int))).toNat) 0#8).length+(j1).length≤4611686018427387904 then ((pcurve_Scalar ((List.replicate ((w64 (32 - ((j1).length:Int))).toNat) 0#8)++j1)).bind fun (r_1:Vx 64 4 × Bool)=>((der_Integer j1).bind fun (r_2:Str × Int)=>(if (([t_Body]:List (Str))).length=1 then ((der_Put t_Tag ([t_Body]:List (Str))).bind fun (r_3:Str × Int)=>(if r_1.2=true then (ltt (decide (r_2.1=r_3.1)) fun (x1:Bool)=>(some (r_1.1,x1))) else (some (r_1.1,false)))) else none))) else none) else none) else none))
set_option maxHeartbeats 4000000 in
set_option maxRecDepth 20000 in
theorem F95_calls (t_Tag:Int) (t_Body:Str) (r:Vx 64 4 × Bool) (H:ecdsa_integer t_Tag t_Body=some r) :
  Does Try.prog 95 [aG [(1,[vi t_Tag]),(1,[vs t_Body])]] [] [] (Γ:=Unit) (fun g=>Value.tuple [aG [(4,e64 r.1.toList)],vb r.2].toArray) (fun g=>[]):=by
 intro w hmem hro hd
 refine calls_of (N:=55) (m0:=[(0,aG [(1,[vi t_Tag]),(1,[vs t_Body])])]) Try.func95 rfl Try.ntmps95 (argM_ok [aG [(1,[vi t_Tag]),(1,[vs t_Body])]]) rfl hmem hro hd ?_
 unfold ecdsa_integer at H
 refine TC_seq (TC_region (TLe (E_boxP [(1,[vi t_Tag]),(1,[vs t_Body])] rfl rfl ⟨rfl,rfl,trivial⟩) (fun b1=>?_)))
 refine TLe (E_al64 4 TryI.inf57 TryI.zer57) (fun b2=>?_)
 refine TLv (V_assign rfl) ?_
 refine TL_nil (TX_next (TC_seq (TC_seq (TC_region (TLv (V_fieldE rfl Try.underlying123 rfl rfl TryI.inf9 rfl (v:=ptr (some (b1,1)) 0) rfl) ?_)))))
 refine TLv (V_load rfl (.o 2) rfl Try.isAgg9) ?_
 refine TLv (V_len_str rfl Try.underlying9) ?_
 refine TLv (V_bin rfl rfl (fun w=>gtrI w ((t_Body).length:Int) 33)) ?_
 refine TL_nil (TX_next (TC_cond (b:=(decide (33<((t_Body).length:Int)))) rfl (fun hc=>?_) (fun hc=>?_)))
 ·replace H:=ite_t (of_decide_eq_true hc) H
  refine TC_seq (TC_region (TLv (V_buildArr (pv:=[]) rfl rfl Try.underlying57 TryI.inf57 TryI.inf55 rfl TryI.zer57 (cs:=e64 ((replicate 4 0#64:Vx 64 4).toList)) (by kernel_rfl)) ?_))
  refine TLn (E_sv 0 TryI.inf57) (fun _=>?_)
  obtain ⟨m_1,hm_1,H⟩:=ltt_elim H
  refine TL_reE (j:=0) (A:=some (b2,0)) (cs:=e64 ((replicate 4 0#64:Vx 64 4).toList)) (cs':=e64 m_1.toList) rfl (congrArg (fun z:Vx 64 4=>e64 (Vector.toList z)) hm_1) ?_
  refine TLv (V_assign rfl) ?_
  refine TL_nil (TX_next (TC_ret (TX_then_ret ?_)))
  have hrv:=Option.some.inj H
  subst hrv
  exact TX_ret (rs:=[.cell 2 57, .tmp 3]) (vs:=[aG [(4,e64 m_1.toList)],vb false]) rfl ⟨(Res_agg (n:=4) rfl (by simp) (.o 0) Try.isAgg57 TryI.inf57 rfl (lenV (f:=v64) m_1)),rfl,trivial⟩ (fun w' hs'=>⟨(),rfl,Step.left (Step.pulled (is:=[]) (A:=[]) hs' rfl)⟩)
 ·replace H:=ite_f (of_decide_eq_false hc) H
  refine TC_skip (TX_next (TC_seq (TC_region (TLv (V_fieldE rfl Try.underlying123 rfl rfl TryI.inf9 rfl (v:=ptr (some (b1,1)) 0) rfl) ?_))))
  refine TLv (V_load rfl (.o 2) rfl Try.isAgg9) ?_
  refine TLv (V_assign rfl) ?_
  refine TL_nil (TX_next (TC_seq (TC_seq (TC_region (TLv (V_move rfl) ?_)))))
  refine TLv (V_len_str rfl Try.underlying9) ?_
  refine TLv (V_bin rfl rfl (fun w=>gtrI w ((t_Body).length:Int) 32)) ?_
  refine TL_nil (TX_next ?_)
  obtain ⟨j1,Hj,H⟩:=bind_elim H
  refine TC_join (Γ:=Unit) (fun gj1=>[(1,ptr (some (b1,0)) 0),(2,ptr (some (b2,0)) 0),(4,vs j1)]) (fun gj1=>[⟨some (b1,0),[vi t_Tag]⟩,⟨some (b1,1),[vs t_Body]⟩,⟨some (b2,0),e64 ((replicate 4 0#64).toList)⟩]) ?_ ?_
  ·intro gj1
   refine TX_next (TC_seq (TC_region (TLv (V_move rfl) ?_)))
   refine TLv (V_len_str rfl Try.underlying9) ?_
   refine TLv (V_bin rfl rfl (fun w=>subI w 32 ((j1).length:Int))) ?_
   obtain ⟨h1,H⟩:=if_elim H
   refine TLe (E_mk1 rfl rfl Try.underlying42 TryI.inf5 (z:=v8 0#8) rfl rfl rfl (B:=1) rfl h1.1 (Int.le_refl _) (by have:=h1; omega) (by have:=h1; omega) (n':=(w64 (32 - ((j1).length:Int))).toNat) (c':=(w64 (32 - ((j1).length:Int))).toNat) rfl rfl (cs:=e8 (List.replicate ((w64 (32 - ((j1).length:Int))).toNat) 0#8)) (rep_map (f:=v8))) (fun b3=>?_)
   obtain ⟨h2,H⟩:=if_elim H
   refine TLv (V_b2s rfl Try.underlying42 Try.underlying5 Try.underlying9 (.o 0) h2) ?_
   refine TLv (V_move rfl) ?_
   obtain ⟨h3,H⟩:=if_elim H
   refine TLv (V_bin rfl rfl (fun w=>addS w (List.replicate ((w64 (32 - ((j1).length:Int))).toNat) 0#8) j1 h3)) ?_
   obtain ⟨r_1,hr_1,H⟩:=bind_elim H
   refine TLe (E_c0 (F32_calls ((List.replicate ((w64 (32 - ((j1).length:Int))).toNat) 0#8)++j1) r_1 hr_1) Try.call32 .z) (fun g_1=>?_)
   refine TLv (V_move rfl) ?_
   refine TLv V_ex ?_
   refine TLv V_ex ?_
   refine TLe (E_al64 4 TryI.inf57 TryI.zer57) (fun b4=>?_)
   refine TLn (E_sv (vs:=e64 r_1.1.toList) 0 TryI.inf57) (fun _=>?_)
   refine TLv (V_assign rfl) ?_
   refine TL_nil (TX_next (TC_seq (TC_region (TLv (V_move rfl) ?_))))
   obtain ⟨r_2,hr_2,H⟩:=bind_elim H
   refine TLe (E_c0 (F61_calls j1 r_2 hr_2) Try.call61 .z) (fun g_2=>?_)
   refine TLv (V_move rfl) ?_
   refine TLv V_ex ?_
   refine TLv V_ex ?_
   refine TLv (V_assign rfl) ?_
   refine TLv (V_assign rfl) ?_
   refine TL_nil (TX_next (TC_seq (TC_region (TLv (V_fieldE rfl Try.underlying123 rfl rfl TryI.inf3 rfl (v:=ptr (some (b1,0)) 0) rfl) ?_))))
   refine TLv (V_load rfl (.o 2) rfl Try.isAgg3) ?_
   refine TLv (V_fieldE rfl Try.underlying123 rfl rfl TryI.inf9 rfl (v:=ptr (some (b1,1)) 0) rfl) ?_
   refine TLv (V_load rfl (.o 3) rfl Try.isAgg9) ?_
   refine TLe (E_buildSlice (pv:=[(0,vs t_Body)]) rfl rfl Try.underlying46 TryI.inf9 (s:=1) rfl TryI.zer9 rfl rfl rfl (cs:=eS ([t_Body]:List (Str))) (by kernel_rfl)) (fun b5=>?_)
   obtain ⟨h4,H⟩:=if_elim H
   refine TL_re (d:=44) (v:=sl (some (b5,0)) 1 1) (v':=sl (some (b5,0)) ((([t_Body]:List (Str))).length) ((([t_Body]:List (Str))).length)) rfl (congrArg (fun n=>sl (some (b5,0)) n n) h4.symm) ?_
   obtain ⟨r_3,hr_3,H⟩:=bind_elim H
   refine TLe (E_c0 (F63_calls (some (b5,0)) ((([t_Body]:List (Str))).length) t_Tag ([t_Body]:List (Str)) (Nat.le_refl _) r_3 hr_3) Try.call63 ⟨.o 0,trivial⟩) (fun g_3=>?_)
   refine TLv (V_move rfl) ?_
   refine TLv V_ex ?_
   refine TLv V_ex ?_
   refine TLv (V_assign rfl) ?_
   refine TLv (V_assign rfl) ?_
   refine TL_nil (TX_next (TC.sub (m':=[(2,ptr (some (b2,0)) 0),(5,ptr (some (b4,0)) 0),(6,vb r_1.2),(7,vs r_2.1),(9,vs r_3.1)]) ⟨rfl,rfl,rfl,rfl,rfl,trivial⟩ ?_))
   refine TC.pull (is:=[5,1]) (L':=[⟨some (b2,0),e64 ((replicate 4 0#64).toList)⟩,⟨some (b4,0),e64 r_1.1.toList⟩]) rfl ?_
   refine TC_seq (TC_region (TLv (V_lag (.o 1) Try.isAgg57 TryI.inf57) ?_))
   refine TLv (V_move rfl) ?_
   refine TLv (V_move rfl) ?_
   refine TL_fork (d:=50) (b:=r_1.2) rfl (fun hc=>?_) (fun hc=>?_)
   ·replace H:=ite_t hc H
    refine TL_want rfl rfl rfl rfl rfl rfl (V_move rfl) ?_
    refine TL_want rfl rfl rfl rfl rfl rfl (V_move rfl) ?_
    refine TL_want rfl rfl rfl rfl rfl rfl (V_bin rfl rfl (fun w=>eqlS w r_2.1 r_3.1)) ?_
    refine TLv (V_pick (b:=true) rfl rfl) ?_
    refine TLn (E_sv (vs:=e64 r_1.1.toList) 0 TryI.inf57) (fun _=>?_)
    refine TLv (V_assign rfl) ?_
    obtain ⟨x1,hx1,H⟩:=ltt_elim H
    refine TL_re (d:=3) (v:=vb (decide (r_2.1=r_3.1))) (v':=vb x1) rfl (congrArg vb hx1) ?_
    refine TL_nil (TX_next (TC_ret ?_))
    have hrv:=Option.some.inj H
    subst hrv
    exact TX_ret (rs:=[.cell 2 57, .tmp 3]) (vs:=[aG [(4,e64 r_1.1.toList)],vb x1]) rfl ⟨(Res_agg (n:=4) rfl (by simp) (.o 0) Try.isAgg57 TryI.inf57 rfl (lenV (f:=v64) r_1.1)),rfl,trivial⟩ (fun w' hs'=>⟨(),rfl,Step.left (Step.pulled (is:=[]) (A:=[]) hs' rfl)⟩)
   ·replace H:=ite_f (Bool.eq_false_iff.1 hc) H
    refine TL_skip rfl rfl rfl rfl rfl rfl rfl ?_
    refine TL_skip rfl rfl rfl rfl rfl rfl rfl ?_
    refine TL_skip rfl rfl rfl rfl rfl rfl rfl ?_
    refine TLv (V_pick (b:=false) rfl rfl) ?_
    refine TLn (E_sv (vs:=e64 r_1.1.toList) 0 TryI.inf57) (fun _=>?_)
    refine TLv (V_assign rfl) ?_
    refine TL_nil (TX_next (TC_ret ?_))
    have hrv:=Option.some.inj H
    subst hrv
    exact TX_ret (rs:=[.cell 2 57, .tmp 3]) (vs:=[aG [(4,e64 r_1.1.toList)],vb false]) rfl ⟨(Res_agg (n:=4) rfl (by simp) (.o 0) Try.isAgg57 TryI.inf57 rfl (lenV (f:=v64) r_1.1)),rfl,trivial⟩ (fun w' hs'=>⟨(),rfl,Step.left (Step.pulled (is:=[]) (A:=[]) hs' rfl)⟩)
  ·intro hJ
   replace H:=Hj
   refine TC_cond (b:=(decide (32<((t_Body).length:Int)))) rfl (fun hc=>?_) (fun hc=>?_)
   ·replace H:=ite_t (of_decide_eq_true hc) H
    refine TC_region (TLv (V_move rfl) ?_)
    obtain ⟨h5,H⟩:=if_elim H
    refine TLv (V_sliceStr (l:=1) (h:=(t_Body).length) rfl Try.underlying9 (Bnd.some' (i:=1) rfl (by decide)) Bnd.none' h5 (Nat.le_refl _)) ?_
    refine TLv (V_assign rfl) ?_
    obtain ⟨b6,hb6,H⟩:=ltt_elim H
    refine TL_re (d:=4) (v:=vs (sub t_Body 1 ((t_Body).length))) (v':=vs b6) rfl (congrArg vs hb6) ?_
    refine TL_nil (TX.sub (m':=[(1,ptr (some (b1,0)) 0),(2,ptr (some (b2,0)) 0),(4,vs b6)]) ⟨rfl,rfl,rfl,trivial⟩ ?_)
    refine TX.pull (is:=[1,1,0]) (L':=[⟨some (b1,0),[vi t_Tag]⟩,⟨some (b1,1),[vs t_Body]⟩,⟨some (b2,0),e64 ((replicate 4 0#64).toList)⟩]) rfl ?_
    obtain rfl:=Option.some.inj H
    exact hJ ()
   ·replace H:=ite_f (of_decide_eq_false hc) H
    refine TC_skip (TX.sub (m':=[(1,ptr (some (b1,0)) 0),(2,ptr (some (b2,0)) 0),(4,vs t_Body)]) ⟨rfl,rfl,rfl,trivial⟩ ?_)
    refine TX.pull (is:=[1,1,0]) (L':=[⟨some (b1,0),[vi t_Tag]⟩,⟨some (b1,1),[vs t_Body]⟩,⟨some (b2,0),e64 ((replicate 4 0#64).toList)⟩]) rfl ?_
    obtain rfl:=Option.some.inj H
    exact hJ ()
end Go.Proofs
end

section
namespace Go.Proofs
open Go Go.Kx
open Vector (replicate)
def ecdsa_read (sig:Str):Option (Vx 64 4 × Vx 64 4 × Bool) :=
 (der_Get sig 0).bind fun (r_1:Int × Str × Int × Int)=>((if r_1.2.2.2 ≠ 0 then (some true) else (if r_1.2.2.1 ≠ ((sig).length:Int) then (some true) else (some (decide (r_1.1 ≠ 48))))).bind fun (j1:Bool)=>(if j1=true then (ltt ((replicate 4 0#64:Vx 64 4)) fun (m_1:Vx 64 4)=>(ltt ((replicate 4 0#64:Vx 64 4)) fun (m_2:Vx 64 4)=>(some (m_1,m_2,false)))) else ((der_All r_1.2.1).bind fun (r_2:Int × (List (Int × Str)))=>((if r_2.1 ≠ 0 then (some true) else (some (decide (((r_2.2).length:Int) ≠ 2)))).bind fun (j2:Bool)=>(if j2=true then (ltt ((replicate 4 0#64:Vx 64 4)) fun (m_3:Vx 64 4)=>(ltt ((replicate 4 0#64:Vx 64 4)) fun (m_4:Vx 64 4)=>(some (m_3,m_4,false)))) else (if 0≤(0:Int)∧(0:Int)<((r_2.2).length:Int) then ((ecdsa_integer ((lg r_2.2 0).1) ((lg r_2.2 0).2)).bind fun (r_3:Vx 64 4 × Bool)=>(if 0≤(1:Int)∧(1:Int)<((r_2.2).length:Int) then ((ecdsa_integer ((lg r_2.2 1).1) ((lg r_2.2 1).2)).bind fun (r_4:Vx 64 4 × Bool)=>(if r_3.2=true then (some (r_3.1,r_4.1,r_4.2)) else (some (r_3.1,r_4.1,false)))) else none)) else none))))))
set_option maxHeartbeats 4000000 in
set_option maxRecDepth 20000 in
theorem F69_calls (sig:Str) (r:Vx 64 4 × Vx 64 4 × Bool) (H:ecdsa_read sig=some r) :
  Does Try.prog 69 [vs sig] [] [] (Γ:=Unit) (fun g=>Value.tuple [aG [(4,e64 r.1.toList)],aG [(4,e64 r.2.1.toList)],vb r.2.2].toArray) (fun g=>[]):=by
 intro w hmem hro hd
 refine calls_of (N:=69) (m0:=[(0,vs sig)]) Try.func69 rfl Try.ntmps69 (argM_ok [vs sig]) rfl hmem hro hd ?_
 unfold ecdsa_read at H
 refine TC_seq (TC_region (TLe (E_al64 4 TryI.inf57 TryI.zer57) (fun b1=>?_)))
 refine TLe (E_al64 4 TryI.inf57 TryI.zer57) (fun b2=>?_)
 refine TLv (V_assign rfl) ?_
 refine TL_nil (TX_next (TC_seq (TC_region (TLv (V_move rfl) ?_))))
 obtain ⟨r_1,hr_1,H⟩:=bind_elim H
 refine TLe (E_c0 (F93_calls sig 0 r_1 hr_1) Try.call93 .z) (fun g_1=>?_)
 refine TLv (V_move rfl) ?_
 refine TLv V_ex ?_
 refine TLv V_ex ?_
 refine TLv V_ex ?_
 refine TLe (E_allocP [(1,[vi 0]),(1,[vs ([]:Str)])] TryI.inf123 TryI.zer123 ⟨rfl,rfl,trivial⟩) (fun b3=>?_)
 refine TLn (E_sp (b:=b3) (o:=0) [0,0] [(1,[vi 0]),(1,[vs ([]:Str)])] [(1,[vi r_1.1]),(1,[vs r_1.2.1])] rfl TryI.inf123 ⟨rfl,rfl,trivial⟩ ⟨rfl,rfl,trivial⟩ ⟨(OneC.cons rfl OneC.nil),(OneC.cons rfl OneC.nil),trivial⟩) (fun _=>?_)
 refine TLv (V_assign rfl) ?_
 refine TLv (V_assign rfl) ?_
 refine TL_nil (TX_next (TC_seq (TC_seq (TC_region (TLv (V_move rfl) ?_)))))
 refine TLv (V_bin rfl rfl (fun w=>neqI w r_1.2.2.2 0)) ?_
 refine TLv (V_move rfl) ?_
 obtain ⟨j1,Hj,H⟩:=bind_elim H
 refine TL_join (Γ:=Unit) (fun gj1=>[(2,ptr (some (b1,0)) 0),(3,ptr (some (b2,0)) 0),(5,ptr (some (b3,0)) 0),(31,vb j1)]) (fun gj1=>[⟨some (b1,0),e64 ((replicate 4 0#64).toList)⟩,⟨some (b2,0),e64 ((replicate 4 0#64).toList)⟩,⟨some (b3,0),[vi r_1.1]⟩,⟨some (b3,1),[vs r_1.2.1]⟩]) ?_ ?_
 ·intro gj1
  refine TX_next (TC_cond (b:=j1) rfl (fun hc=>?_) (fun hc=>?_))
  ·replace H:=ite_t hc H
   refine TC_seq (TC_region (TLv (V_buildArr (pv:=[]) rfl rfl Try.underlying57 TryI.inf57 TryI.inf55 rfl TryI.zer57 (cs:=e64 ((replicate 4 0#64:Vx 64 4).toList)) (by kernel_rfl)) ?_))
   refine TLv (V_buildArr (pv:=[]) rfl rfl Try.underlying57 TryI.inf57 TryI.inf55 rfl TryI.zer57 (cs:=e64 ((replicate 4 0#64:Vx 64 4).toList)) (by kernel_rfl)) ?_
   refine TLn (E_sv 0 TryI.inf57) (fun _=>?_)
   obtain ⟨m_1,hm_1,H⟩:=ltt_elim H
   refine TL_reE (j:=0) (A:=some (b1,0)) (cs:=e64 ((replicate 4 0#64:Vx 64 4).toList)) (cs':=e64 m_1.toList) rfl (congrArg (fun z:Vx 64 4=>e64 (Vector.toList z)) hm_1) ?_
   refine TLn (E_sv 1 TryI.inf57) (fun _=>?_)
   obtain ⟨m_2,hm_2,H⟩:=ltt_elim H
   refine TL_reE (j:=1) (A:=some (b2,0)) (cs:=e64 ((replicate 4 0#64:Vx 64 4).toList)) (cs':=e64 m_2.toList) rfl (congrArg (fun z:Vx 64 4=>e64 (Vector.toList z)) hm_2) ?_
   refine TLv (V_assign rfl) ?_
   refine TL_nil (TX_next (TC_ret (TX_then_ret ?_)))
   have hrv:=Option.some.inj H
   subst hrv
   exact TX_ret (rs:=[.cell 2 57, .cell 3 57, .tmp 4]) (vs:=[aG [(4,e64 m_1.toList)],aG [(4,e64 m_2.toList)],vb false]) rfl ⟨(Res_agg (n:=4) rfl (by simp) (.o 0) Try.isAgg57 TryI.inf57 rfl (lenV (f:=v64) m_1)),(Res_agg (n:=4) rfl (by simp) (.o 1) Try.isAgg57 TryI.inf57 rfl (lenV (f:=v64) m_2)),rfl,trivial⟩ (fun w' hs'=>⟨(),rfl,Step.left (Step.pulled (is:=[]) (A:=[]) hs' rfl)⟩)
  ·replace H:=ite_f (Bool.eq_false_iff.1 hc) H
   refine TC_skip (TX_next (TC_seq (TC_region (TLv (V_fieldE rfl Try.underlying123 rfl rfl TryI.inf9 rfl (v:=ptr (some (b3,1)) 0) rfl) ?_))))
   refine TLv (V_load rfl (.o 3) rfl Try.isAgg9) ?_
   obtain ⟨r_2,hr_2,H⟩:=bind_elim H
   refine TLe (E_call (Γ:=Adr × (List (Int × Str))) (val:=fun g=>Value.tuple [sl g.1 ((r_2.2).length) ((r_2.2++g.2).length),vi r_2.1].toArray) (mem:=fun g=>[⟨g.1,eF (fun p:Int × Str=>[vi p.1,vs p.2]) (r_2.2++g.2)⟩]) (vs:=[vs r_1.2.1]) (Lin:=[]) (Ro:=[]) (is:=[]) rfl Try.call94 (F94_calls r_1.2.1 r_2 hr_2) rfl trivial) (fun g_2=>?_)
   refine TLv (V_move rfl) ?_
   refine TLv V_ex ?_
   refine TLv V_ex ?_
   refine TLv (V_assign rfl) ?_
   refine TLv (V_assign rfl) ?_
   refine TL_nil (TX_next (TC_seq (TC_seq (TC_region (TLv (V_move rfl) ?_)))))
   refine TLv (V_bin rfl rfl (fun w=>neqI w r_2.1 0)) ?_
   refine TLv (V_move rfl) ?_
   obtain ⟨j2,Hj,H⟩:=bind_elim H
   refine TL_join (Γ:=Unit) (fun gj2=>[(2,ptr (some (b1,0)) 0),(3,ptr (some (b2,0)) 0),(8,sl g_2.1 ((r_2.2).length) ((r_2.2++g_2.2).length)),(46,vb j2)]) (fun gj2=>[⟨some (b1,0),e64 ((replicate 4 0#64).toList)⟩,⟨some (b2,0),e64 ((replicate 4 0#64).toList)⟩,⟨g_2.1,eF (fun p:Int × Str=>[vi p.1,vs p.2]) (r_2.2++g_2.2)⟩]) ?_ ?_
   ·intro gj2
    refine TX_next (TC_cond (b:=j2) rfl (fun hc=>?_) (fun hc=>?_))
    ·replace H:=ite_t hc H
     refine TC_seq (TC_region (TLv (V_buildArr (pv:=[]) rfl rfl Try.underlying57 TryI.inf57 TryI.inf55 rfl TryI.zer57 (cs:=e64 ((replicate 4 0#64:Vx 64 4).toList)) (by kernel_rfl)) ?_))
     refine TLv (V_buildArr (pv:=[]) rfl rfl Try.underlying57 TryI.inf57 TryI.inf55 rfl TryI.zer57 (cs:=e64 ((replicate 4 0#64:Vx 64 4).toList)) (by kernel_rfl)) ?_
     refine TLn (E_sv 0 TryI.inf57) (fun _=>?_)
     obtain ⟨m_3,hm_3,H⟩:=ltt_elim H
     refine TL_reE (j:=0) (A:=some (b1,0)) (cs:=e64 ((replicate 4 0#64:Vx 64 4).toList)) (cs':=e64 m_3.toList) rfl (congrArg (fun z:Vx 64 4=>e64 (Vector.toList z)) hm_3) ?_
     refine TLn (E_sv 1 TryI.inf57) (fun _=>?_)
     obtain ⟨m_4,hm_4,H⟩:=ltt_elim H
     refine TL_reE (j:=1) (A:=some (b2,0)) (cs:=e64 ((replicate 4 0#64:Vx 64 4).toList)) (cs':=e64 m_4.toList) rfl (congrArg (fun z:Vx 64 4=>e64 (Vector.toList z)) hm_4) ?_
     refine TLv (V_assign rfl) ?_
     refine TL_nil (TX_next (TC_ret (TX_then_ret ?_)))
     have hrv:=Option.some.inj H
     subst hrv
     exact TX_ret (rs:=[.cell 2 57, .cell 3 57, .tmp 4]) (vs:=[aG [(4,e64 m_3.toList)],aG [(4,e64 m_4.toList)],vb false]) rfl ⟨(Res_agg (n:=4) rfl (by simp) (.o 0) Try.isAgg57 TryI.inf57 rfl (lenV (f:=v64) m_3)),(Res_agg (n:=4) rfl (by simp) (.o 1) Try.isAgg57 TryI.inf57 rfl (lenV (f:=v64) m_4)),rfl,trivial⟩ (fun w' hs'=>⟨(),rfl,Step.left (Step.pulled (is:=[]) (A:=[]) hs' rfl)⟩)
    ·replace H:=ite_f (Bool.eq_false_iff.1 hc) H
     refine TC_skip (TX_next (TC_seq (TC_region (TLv (V_move rfl) ?_))))
     obtain ⟨h1,H⟩:=if_elim H
     refine TLv (V_idxSlS (i:=0) rfl rfl Try.underlying126 TryI.inf123 rfl (.o 2) (eF_ne2 (s:=2) (fun _=>rfl) rfl (lt_app (toNat_lt h1.1 h1.2))) h1.1 h1.2 (k:=0 * 2) rfl) ?_
     refine TLv (V_loadPart (n:=2) (ds:=[vi ((lg r_2.2 0).1),vs ((lg r_2.2 0).2)]) rfl (.o 2) ((part_eF (g:=fun p:Int × Str=>[vi p.1,vs p.2]) (s:=2) (fun _=>rfl) (r_2.2++g_2.2) 0 (lt_app (toNat_lt h1.1 h1.2))).trans (congrArg (fun p:Int × Str=>[vi p.1,vs p.2]) (lg_app (toNat_lt h1.1 h1.2)))) rfl rfl Try.isAgg123 TryI.inf123 rfl) ?_
     obtain ⟨r_3,hr_3,H⟩:=bind_elim H
     refine TLe (E_c0 (F95_calls ((lg r_2.2 0).1) ((lg r_2.2 0).2) r_3 hr_3) Try.call95 .z) (fun g_3=>?_)
     refine TLv (V_move rfl) ?_
     refine TLv V_ex ?_
     refine TLv V_ex ?_
     refine TLe (E_al64 4 TryI.inf57 TryI.zer57) (fun b4=>?_)
     refine TLn (E_sv (vs:=e64 r_3.1.toList) 0 TryI.inf57) (fun _=>?_)
     refine TLv (V_assign rfl) ?_
     refine TL_nil (TX_next (TC_seq (TC_region (TLv (V_move rfl) ?_))))
     obtain ⟨h2,H⟩:=if_elim H
     refine TLv (V_idxSlS (i:=1) rfl rfl Try.underlying126 TryI.inf123 rfl (.o 3) (eF_ne2 (s:=2) (fun _=>rfl) rfl (lt_app (toNat_lt h2.1 h2.2))) h2.1 h2.2 (k:=1 * 2) rfl) ?_
     refine TLv (V_loadPart (n:=2) (ds:=[vi ((lg r_2.2 1).1),vs ((lg r_2.2 1).2)]) rfl (.o 3) ((part_eF (g:=fun p:Int × Str=>[vi p.1,vs p.2]) (s:=2) (fun _=>rfl) (r_2.2++g_2.2) 1 (lt_app (toNat_lt h2.1 h2.2))).trans (congrArg (fun p:Int × Str=>[vi p.1,vs p.2]) (lg_app (toNat_lt h2.1 h2.2)))) rfl rfl Try.isAgg123 TryI.inf123 rfl) ?_
     obtain ⟨r_4,hr_4,H⟩:=bind_elim H
     refine TLe (E_c0 (F95_calls ((lg r_2.2 1).1) ((lg r_2.2 1).2) r_4 hr_4) Try.call95 .z) (fun g_4=>?_)
     refine TLv (V_move rfl) ?_
     refine TLv V_ex ?_
     refine TLv V_ex ?_
     refine TLe (E_al64 4 TryI.inf57 TryI.zer57) (fun b5=>?_)
     refine TLn (E_sv (vs:=e64 r_4.1.toList) 0 TryI.inf57) (fun _=>?_)
     refine TLv (V_assign rfl) ?_
     refine TL_nil (TX_next (TC_seq (TC_em r_3.2 (fun hg9_4=>?_) (fun hg9_4=>?_))))
     ·replace H:=ite_t hg9_4 H
      refine TA_begin [⟨some (b5,0),e64 r_4.1.toList⟩,⟨some (b4,0),e64 r_3.1.toList⟩,⟨g_2.1,eF (fun p:Int × Str=>[vi p.1,vs p.2]) (r_2.2++g_2.2)⟩] 8 (by kernel_rfl) (N:=9) rfl ?_
      refine TA_tk 0 [0,0,2] (dn 9 1) rfl rfl (V_lag (.o 1) Try.isAgg57 TryI.inf57) ?_
      refine TA_tk 1 [0,0,2] (dn 9 3) rfl rfl (V_lag (.o 0) Try.isAgg57 TryI.inf57) ?_
      refine TA_tk 2 [0,0,2] (dn 9 7) rfl rfl (V_move rfl) ?_
      refine TA_tk 3 [0,0,2] (dn 9 15) rfl rfl (V_move rfl) ?_
      refine TA_re (d:=66) (v:=vb r_3.2) (v':=vb true) rfl (congrArg vb hg9_4) ?_
      refine TA_tw 4 [0,0,2] (dn 9 31) rfl rfl (V_move rfl) ?_
      refine TA_tk 5 [0,0,2] (dn 9 63) rfl rfl (V_pick (b:=true) rfl rfl) ?_
      refine TA_all (rs:=[6]) (by kernel_rfl) rfl ?_
      refine ⟨?_,trivial⟩
      refine TO_n (is:=[0,0,2]) (done':=dn 9 127) rfl rfl rfl (by kernel_rfl) (E_sv (vs:=e64 r_3.1.toList) 2 TryI.inf57) (fun _ _=>rfl) (fun _=>?_)
      refine TA_all (rs:=[7]) (by kernel_rfl) rfl ?_
      refine ⟨?_,trivial⟩
      refine TO_n (is:=[0,0,2]) (done':=dn 9 255) rfl rfl rfl (by kernel_rfl) (E_sv (vs:=e64 r_4.1.toList) 3 TryI.inf57) (fun _ _=>rfl) (fun _=>?_)
      refine TA_all (rs:=[8]) (by kernel_rfl) rfl ?_
      refine ⟨?_,trivial⟩
      refine TO_v (is:=[]) (R:=[]) (done':=dn 9 511) rfl rfl rfl rfl (by kernel_rfl) (V_assign rfl) (fun h=>by cases h) ?_
      refine TA_done (by kernel_rfl) ?_ 0
      refine TX_next (TC_ret ?_)
      have hrv:=Option.some.inj H
      subst hrv
      exact TX_ret (rs:=[.cell 2 57, .cell 3 57, .tmp 4]) (vs:=[aG [(4,e64 r_3.1.toList)],aG [(4,e64 r_4.1.toList)],vb r_4.2]) rfl ⟨(Res_agg (n:=4) rfl (by simp) (.o 2) Try.isAgg57 TryI.inf57 rfl (lenV (f:=v64) r_3.1)),(Res_agg (n:=4) rfl (by simp) (.o 3) Try.isAgg57 TryI.inf57 rfl (lenV (f:=v64) r_4.1)),rfl,trivial⟩ (fun w' hs'=>⟨(),rfl,Step.left (Step.pulled (is:=[]) (A:=[]) hs' rfl)⟩)
     ·replace H:=ite_f (Bool.eq_false_iff.1 hg9_4) H
      refine TA_begin [⟨some (b5,0),e64 r_4.1.toList⟩,⟨some (b4,0),e64 r_3.1.toList⟩,⟨g_2.1,eF (fun p:Int × Str=>[vi p.1,vs p.2]) (r_2.2++g_2.2)⟩] 8 (by kernel_rfl) (N:=9) rfl ?_
      refine TA_tk 0 [0,0,2] (dn 9 1) rfl rfl (V_lag (.o 1) Try.isAgg57 TryI.inf57) ?_
      refine TA_tk 1 [0,0,2] (dn 9 3) rfl rfl (V_lag (.o 0) Try.isAgg57 TryI.inf57) ?_
      refine TA_tk 2 [0,0,2] (dn 9 7) rfl rfl (V_move rfl) ?_
      refine TA_tk 3 [0,0,2] (dn 9 15) rfl rfl (V_move rfl) ?_
      refine TA_re (d:=66) (v:=vb r_3.2) (v':=vb false) rfl (congrArg vb hg9_4) ?_
      refine TA_ts 4 [0,0,2] (dn 9 31) rfl rfl ?_
      refine TA_tk 5 [0,0,2] (dn 9 63) rfl rfl (V_pick (b:=false) rfl rfl) ?_
      refine TA_all (rs:=[6]) (by kernel_rfl) rfl ?_
      refine ⟨?_,trivial⟩
      refine TO_n (is:=[0,0,2]) (done':=dn 9 127) rfl rfl rfl (by kernel_rfl) (E_sv (vs:=e64 r_3.1.toList) 2 TryI.inf57) (fun _ _=>rfl) (fun _=>?_)
      refine TA_all (rs:=[7]) (by kernel_rfl) rfl ?_
      refine ⟨?_,trivial⟩
      refine TO_n (is:=[0,0,2]) (done':=dn 9 255) rfl rfl rfl (by kernel_rfl) (E_sv (vs:=e64 r_4.1.toList) 3 TryI.inf57) (fun _ _=>rfl) (fun _=>?_)
      refine TA_all (rs:=[8]) (by kernel_rfl) rfl ?_
      refine ⟨?_,trivial⟩
      refine TO_v (is:=[]) (R:=[]) (done':=dn 9 511) rfl rfl rfl rfl (by kernel_rfl) (V_assign rfl) (fun h=>by cases h) ?_
      refine TA_done (by kernel_rfl) ?_ 0
      refine TX_next (TC_ret ?_)
      have hrv:=Option.some.inj H
      subst hrv
      exact TX_ret (rs:=[.cell 2 57, .cell 3 57, .tmp 4]) (vs:=[aG [(4,e64 r_3.1.toList)],aG [(4,e64 r_4.1.toList)],vb false]) rfl ⟨(Res_agg (n:=4) rfl (by simp) (.o 2) Try.isAgg57 TryI.inf57 rfl (lenV (f:=v64) r_3.1)),(Res_agg (n:=4) rfl (by simp) (.o 3) Try.isAgg57 TryI.inf57 rfl (lenV (f:=v64) r_4.1)),rfl,trivial⟩ (fun w' hs'=>⟨(),rfl,Step.left (Step.pulled (is:=[]) (A:=[]) hs' rfl)⟩)
   ·intro hJ
    replace H:=Hj
    refine TL_fork (d:=42) (b:=(decide (r_2.1 ≠ 0))) rfl (fun hc=>?_) (fun hc=>?_)
    ·replace H:=ite_t (of_decide_eq_true hc) H
     refine TL_skip rfl rfl rfl rfl rfl rfl rfl ?_
     refine TL_skip rfl rfl rfl rfl rfl rfl rfl ?_
     refine TL_skip rfl rfl rfl rfl rfl rfl rfl ?_
     refine TLv (V_pick (b:=true) rfl rfl) ?_
     refine TL_nil (TX.sub (m':=[(2,ptr (some (b1,0)) 0),(3,ptr (some (b2,0)) 0),(8,sl g_2.1 ((r_2.2).length) ((r_2.2++g_2.2).length)),(46,vb true)]) ⟨rfl,rfl,rfl,rfl,trivial⟩ ?_)
     refine TX.pull (is:=[1,1,0]) (L':=[⟨some (b1,0),e64 ((replicate 4 0#64).toList)⟩,⟨some (b2,0),e64 ((replicate 4 0#64).toList)⟩,⟨g_2.1,eF (fun p:Int × Str=>[vi p.1,vs p.2]) (r_2.2++g_2.2)⟩]) rfl ?_
     obtain rfl:=Option.some.inj H
     exact hJ ()
    ·replace H:=ite_f (of_decide_eq_false hc) H
     refine TL_want rfl rfl rfl rfl rfl rfl (V_move rfl) ?_
     refine TL_want rfl rfl rfl rfl rfl rfl (V_len_slice rfl Try.underlying126) ?_
     refine TL_want rfl rfl rfl rfl rfl rfl (V_bin rfl rfl (fun w=>neqI w ((r_2.2).length:Int) 2)) ?_
     refine TLv (V_pick (b:=false) rfl rfl) ?_
     refine TL_nil (TX.sub (m':=[(2,ptr (some (b1,0)) 0),(3,ptr (some (b2,0)) 0),(8,sl g_2.1 ((r_2.2).length) ((r_2.2++g_2.2).length)),(46,vb (decide (((r_2.2).length:Int) ≠ 2)))]) ⟨rfl,rfl,rfl,rfl,trivial⟩ ?_)
     refine TX.pull (is:=[1,1,0]) (L':=[⟨some (b1,0),e64 ((replicate 4 0#64).toList)⟩,⟨some (b2,0),e64 ((replicate 4 0#64).toList)⟩,⟨g_2.1,eF (fun p:Int × Str=>[vi p.1,vs p.2]) (r_2.2++g_2.2)⟩]) rfl ?_
     obtain rfl:=Option.some.inj H
     exact hJ ()
 ·intro hJ
  replace H:=Hj
  refine TL_fork (d:=21) (b:=(decide (r_1.2.2.2 ≠ 0))) rfl (fun hc=>?_) (fun hc=>?_)
  ·replace H:=ite_t (of_decide_eq_true hc) H
   refine TL_skip rfl rfl rfl rfl rfl rfl rfl ?_
   refine TL_skip rfl rfl rfl rfl rfl rfl rfl ?_
   refine TL_skip rfl rfl rfl rfl rfl rfl rfl ?_
   refine TL_skip rfl rfl rfl rfl rfl rfl rfl ?_
   refine TLv (V_pick (b:=true) rfl rfl) ?_
   refine TLv (V_move rfl) ?_
   refine TL_skip rfl rfl rfl rfl rfl rfl rfl ?_
   refine TL_skip rfl rfl rfl rfl rfl rfl rfl ?_
   refine TL_skip rfl rfl rfl rfl rfl rfl rfl ?_
   refine TLv (V_pick (b:=true) rfl rfl) ?_
   refine TL_nil (TX.sub (m':=[(2,ptr (some (b1,0)) 0),(3,ptr (some (b2,0)) 0),(5,ptr (some (b3,0)) 0),(31,vb true)]) ⟨rfl,rfl,rfl,rfl,trivial⟩ ?_)
   refine TX.pull (is:=[3,2,0,0]) (L':=[⟨some (b1,0),e64 ((replicate 4 0#64).toList)⟩,⟨some (b2,0),e64 ((replicate 4 0#64).toList)⟩,⟨some (b3,0),[vi r_1.1]⟩,⟨some (b3,1),[vs r_1.2.1]⟩]) rfl ?_
   obtain rfl:=Option.some.inj H
   exact hJ ()
  ·replace H:=ite_f (of_decide_eq_false hc) H
   refine TL_want rfl rfl rfl rfl rfl rfl (V_move rfl) ?_
   refine TL_want rfl rfl rfl rfl rfl rfl (V_move rfl) ?_
   refine TL_want rfl rfl rfl rfl rfl rfl (V_len_str rfl Try.underlying9) ?_
   refine TL_want rfl rfl rfl rfl rfl rfl (V_bin rfl rfl (fun w=>neqI w r_1.2.2.1 ((sig).length:Int))) ?_
   refine TLv (V_pick (b:=false) rfl rfl) ?_
   refine TLv (V_move rfl) ?_
   refine TL_fork (d:=27) (b:=(decide (r_1.2.2.1 ≠ ((sig).length:Int)))) rfl (fun hc=>?_) (fun hc=>?_)
   ·replace H:=ite_t (of_decide_eq_true hc) H
    refine TL_skip rfl rfl rfl rfl rfl rfl rfl ?_
    refine TL_skip rfl rfl rfl rfl rfl rfl rfl ?_
    refine TL_skip rfl rfl rfl rfl rfl rfl rfl ?_
    refine TLv (V_pick (b:=true) rfl rfl) ?_
    refine TL_nil (TX.sub (m':=[(2,ptr (some (b1,0)) 0),(3,ptr (some (b2,0)) 0),(5,ptr (some (b3,0)) 0),(31,vb true)]) ⟨rfl,rfl,rfl,rfl,trivial⟩ ?_)
    refine TX.pull (is:=[3,2,0,0]) (L':=[⟨some (b1,0),e64 ((replicate 4 0#64).toList)⟩,⟨some (b2,0),e64 ((replicate 4 0#64).toList)⟩,⟨some (b3,0),[vi r_1.1]⟩,⟨some (b3,1),[vs r_1.2.1]⟩]) rfl ?_
    obtain rfl:=Option.some.inj H
    exact hJ ()
   ·replace H:=ite_f (of_decide_eq_false hc) H
    refine TL_want rfl rfl rfl rfl rfl rfl (V_fieldE rfl Try.underlying123 rfl rfl TryI.inf3 rfl (v:=ptr (some (b3,0)) 0) rfl) ?_
    refine TL_want rfl rfl rfl rfl rfl rfl (V_load rfl (.o 0) rfl Try.isAgg3) ?_
    refine TL_want rfl rfl rfl rfl rfl rfl (V_bin rfl rfl (fun w=>neqI w r_1.1 48)) ?_
    refine TLv (V_pick (b:=false) rfl rfl) ?_
    refine TL_nil (TX.sub (m':=[(2,ptr (some (b1,0)) 0),(3,ptr (some (b2,0)) 0),(5,ptr (some (b3,0)) 0),(31,vb (decide (r_1.1 ≠ 48)))]) ⟨rfl,rfl,rfl,rfl,trivial⟩ ?_)
    refine TX.pull (is:=[3,2,0,0]) (L':=[⟨some (b1,0),e64 ((replicate 4 0#64).toList)⟩,⟨some (b2,0),e64 ((replicate 4 0#64).toList)⟩,⟨some (b3,0),[vi r_1.1]⟩,⟨some (b3,1),[vs r_1.2.1]⟩]) rfl ?_
    obtain rfl:=Option.some.inj H
    exact hJ ()
end Go.Proofs
end

section
namespace Go.Kx
open Go Go.Proofs
open Go.Nt hiding n4
theorem sg_lt (s:Str) (i:Int):(sg s i).toNat<256:=(sg s i).isLt
theorem or_bytes (a b:Nat) (ha:a<256) (hb:b<256):iop (· ||| ·) (shlI' (a:Int) 8) (b:Int)=((a * 256+b:Nat):Int):=by
 unfold iop shlI'
 have e0:w64 ((a:Int) * 2 ^ (min (8:Int).toNat 64))=((a * 256:Nat):Int):=by
  have:(2:Int) ^ (min (8:Int).toNat 64)=256:=by decide
  rw [this,w64_id (by omega) (by omega)]; omega
 rw [e0]
 have e1:((BitVec.ofInt 64 ((a * 256:Nat):Int)) ||| (BitVec.ofInt 64 (b:Int))).toNat=a * 256+b:=by
  rw [BitVec.toNat_or,BitVec.ofInt_natCast,BitVec.ofInt_natCast,BitVec.toNat_ofNat,BitVec.toNat_ofNat,Nat.mod_eq_of_lt (by omega),Nat.mod_eq_of_lt (by omega)]
  have:=Nat.shiftLeft_add_eq_or_of_lt (i:=8) (b:=b) (by omega) a
  rw [Nat.shiftLeft_eq] at this
  exact this.symm
 show w64 (((BitVec.ofInt 64 ((a * 256:Nat):Int)) ||| (BitVec.ofInt 64 (b:Int))).toNat:Int)=_
 rw [e1,w64_id (by omega) (by omega)]
theorem length_ex (s:Str) (at_:Nat) (hs:s.length<4611686018427387904) (ha:at_≤s.length) :
  ∃ n p,der_length s (at_:Int)=some (n,p)∧(p = -1 ∨ (0≤n∧n<65536∧(at_:Int)<p∧p≤s.length∧(n<128 → p=at_+1∧at_<s.length∧n=((sg s (at_:Int)).toNat:Int)))):=by
 have w1:w64 ((at_:Int)+1)=((at_+1:Nat):Int):=w64_add (b:=1) (by omega)
 have w2:w64 ((at_:Int)+2)=((at_+2:Nat):Int):=w64_add (b:=2) (by omega)
 have w3:w64 (((at_+1:Nat):Int)+1)=((at_+2:Nat):Int):=w64_add (b:=1) (by omega)
 have w4:w64 (((at_+1:Nat):Int)+2)=((at_+3:Nat):Int):=w64_add (b:=2) (by omega)
 unfold der_length
 by_cases h0:s.length≤at_
 ·exact ⟨_,_,if_i (by omega) rfl, .inl rfl⟩
 have hc:=sg_lt s (at_:Int)
 generalize (sg s (at_:Int)).toNat=c at hc
 by_cases h1:c<128
 ·refine ⟨(c:Int),((at_+1:Nat):Int),if_n (by omega) (if_i (by omega) (ltt_i fun c' hc'=>ltt_i fun x hx=>?_)), .inr ⟨by omega,by omega,by omega,by omega,fun _=>⟨by omega,by omega,rfl⟩⟩⟩
  subst hc'
  refine if_i (by rw [hx]; simp; omega) (ltt_i fun y hy=>?_)
  rw [hy,w1]
 have go : ∀ r:Option (Int × Int),(∀ c':Int,c'=(c:Int) → (ltt (decide (c'=130)) fun (x3:Bool)=>(if x3=true then (if ((s).length:Int)≤(w64 ((at_:Int)+2)) then (some (0,(-1))) else (ltt (w64 ((at_:Int)+1)) fun (at_1:Int)=>(if 0≤at_1∧at_1<((s).length:Int) then (ltt (((sg s at_1).toNat:Int)) fun (n1:Int)=>(if ((s).length:Int)≤(w64 (at_1+1)) then (some (0,(-1))) else (if 0≤w64 (at_1+1)∧w64 (at_1+1)<((s).length:Int) then (ltt (iop (· ||| ·) (shlI' n1 8) ((sg s (w64 (at_1+1))).toNat:Int)) fun (n2:Int)=>(ltt (w64 (128+128)) fun (least1:Int)=>(if n2<least1 then (some (0,(-1))) else (ltt (w64 (at_1+2)) fun (x4:Int)=>(some (n2,x4)))))) else none))) else none))) else (ltt (decide (c'=129)) fun (x5:Bool)=>(if x5=true then (if ((s).length:Int)≤(w64 ((at_:Int)+1)) then (some (0,(-1))) else (if 0≤w64 ((at_:Int)+1)∧w64 ((at_:Int)+1)<((s).length:Int) then (ltt (iop (· ||| ·) (shlI' 0 8) ((sg s (w64 ((at_:Int)+1))).toNat:Int)) fun (n3:Int)=>(ltt (w64 (0+128)) fun (least2:Int)=>(if n3<least2 then (some (0,(-1))) else (ltt (w64 ((at_:Int)+2)) fun (x6:Int)=>(some (n3,x6)))))) else none)) else (some (0,(-1)))))))=r) →
   (if ((s).length:Int)≤(at_:Int) then (some (0,(-1))) else (if 0≤(at_:Int)∧(at_:Int)<((s).length:Int) then (ltt ((c:Int)) fun (c1:Int)=>(ltt (decide (c1<128)) fun (x1:Bool)=>(if x1=true then (ltt (w64 ((at_:Int)+1)) fun (x2:Int)=>(some (c1,x2))) else (ltt (decide (c1=130)) fun (x3:Bool)=>(if x3=true then (if ((s).length:Int)≤(w64 ((at_:Int)+2)) then (some (0,(-1))) else (ltt (w64 ((at_:Int)+1)) fun (at_1:Int)=>(if 0≤at_1∧at_1<((s).length:Int) then (ltt (((sg s at_1).toNat:Int)) fun (n1:Int)=>(if ((s).length:Int)≤(w64 (at_1+1)) then (some (0,(-1))) else (if 0≤w64 (at_1+1)∧w64 (at_1+1)<((s).length:Int) then (ltt (iop (· ||| ·) (shlI' n1 8) ((sg s (w64 (at_1+1))).toNat:Int)) fun (n2:Int)=>(ltt (w64 (128+128)) fun (least1:Int)=>(if n2<least1 then (some (0,(-1))) else (ltt (w64 (at_1+2)) fun (x4:Int)=>(some (n2,x4)))))) else none))) else none))) else (ltt (decide (c1=129)) fun (x5:Bool)=>(if x5=true then (if ((s).length:Int)≤(w64 ((at_:Int)+1)) then (some (0,(-1))) else (if 0≤w64 ((at_:Int)+1)∧w64 ((at_:Int)+1)<((s).length:Int) then (ltt (iop (· ||| ·) (shlI' 0 8) ((sg s (w64 ((at_:Int)+1))).toNat:Int)) fun (n3:Int)=>(ltt (w64 (0+128)) fun (least2:Int)=>(if n3<least2 then (some (0,(-1))) else (ltt (w64 ((at_:Int)+2)) fun (x6:Int)=>(some (n3,x6)))))) else none)) else (some (0,(-1)))))))))) else none))=r:=fun r h =>
  if_n (by omega) (if_i (by omega) (ltt_i fun c' hc'=>ltt_i fun x hx=>if_n (by rw [hx,hc']; simp; omega) (h c' hc')))
 have hd:=sg_lt s ((at_+1:Nat):Int)
 have he:=sg_lt s ((at_+2:Nat):Int)
 by_cases h2:c=130
 ·by_cases h3:s.length≤at_+2
  ·exact ⟨_,_,go _ fun c' hc'=>ltt_i fun x hx=>if_i (by rw [hx,hc']; simp; omega) (if_i (by rw [w2]; omega) rfl), .inl rfl⟩
  ·have key : ∀ r,(if ((((sg s ((at_+1:Nat):Int)).toNat * 256+(sg s ((at_+2:Nat):Int)).toNat:Nat)):Int)<w64 (128+128) then some ((0:Int),(-1:Int)) else some ((((sg s ((at_+1:Nat):Int)).toNat * 256+(sg s ((at_+2:Nat):Int)).toNat:Nat):Int),((at_+3:Nat):Int)))=r → _=r:=fun r hr =>
    go r fun c' hc'=>ltt_i fun x hx=>if_i (by rw [hx,hc']; simp; omega) (if_n (by rw [w2]; omega) (ltt_i fun a1 ha1=>by
     rw [w1] at ha1
     subst ha1
     refine if_i (by omega) (ltt_i fun n1 hn1=>if_n (by rw [w3]; omega) (if_i (by rw [w3]; omega) (ltt_i fun n2 hn2=>ltt_i fun l hl=>?_)))
     rw [w3,hn1,or_bytes _ _ hd he] at hn2
     subst hn2 hl
     unfold ltt
     rw [w4]; exact hr))
   by_cases h4:(sg s ((at_+1:Nat):Int)).toNat * 256+(sg s ((at_+2:Nat):Int)).toNat<256
   ·exact ⟨_,_,key _ (if_i (by rw [show w64 (128+128)=256 by decide]; omega) rfl), .inl rfl⟩
   ·exact ⟨_,_,key _ (if_n (by rw [show w64 (128+128)=256 by decide]; omega) rfl), .inr ⟨by omega,by omega,by omega,by omega,fun h=>by omega⟩⟩
 ·by_cases h3:c=129
  ·by_cases h4:s.length≤at_+1
   ·exact ⟨_,_,go _ fun c' hc'=>ltt_i fun x hx=>if_n (by rw [hx,hc']; simp; omega) (ltt_i fun y hy=>if_i (by rw [hy,hc']; simp; omega) (if_i (by rw [w1]; omega) rfl)), .inl rfl⟩
   ·have key : ∀ r,(if ((((sg s ((at_+1:Nat):Int)).toNat:Nat)):Int)<w64 (0+128) then some ((0:Int),(-1:Int)) else some ((((sg s ((at_+1:Nat):Int)).toNat:Nat):Int),((at_+2:Nat):Int)))=r → _=r:=fun r hr =>
     go r fun c' hc'=>ltt_i fun x hx=>if_n (by rw [hx,hc']; simp; omega) (ltt_i fun y hy=>if_i (by rw [hy,hc']; simp; omega) (if_n (by rw [w1]; omega) (if_i (by rw [w1]; omega) (ltt_i fun n2 hn2=>ltt_i fun l hl=>by
      have e0:=or_bytes 0 _ (by omega) hd
      rw [Nat.zero_mul,Nat.zero_add] at e0
      rw [w1] at hn2
      have hn3:n2=(((sg s ((at_+1:Nat):Int)).toNat:Nat):Int):=hn2.trans e0
      subst hn3 hl
      unfold ltt
      rw [w2]; exact hr))))
    by_cases h5:(sg s ((at_+1:Nat):Int)).toNat<128
    ·exact ⟨_,_,key _ (if_i (by rw [show w64 (0+128)=128 by decide]; omega) rfl), .inl rfl⟩
    ·exact ⟨_,_,key _ (if_n (by rw [show w64 (0+128)=128 by decide]; omega) rfl), .inr ⟨by omega,by omega,by omega,by omega,fun h=>by omega⟩⟩
  ·exact ⟨_,_,go _ fun c' hc'=>ltt_i fun x hx=>if_n (by rw [hx,hc']; simp; omega) (ltt_i fun y hy=>if_n (by rw [hy,hc']; simp; omega) rfl), .inl rfl⟩
theorem Get_ex (s:Str) (at_:Nat) (hs:s.length<4611686018427387904) (ha:at_≤s.length) :
  ∃ v,der_Get s (at_:Int)=some v∧(v.2.2.2 ≠ 0 ∨ ∃ h c:Nat,v=(((sg s (at_:Int)).toNat:Int),sub s (at_+h) (at_+h+c),((at_+h+c:Nat):Int),0)∧2≤h∧at_+h+c≤s.length∧c<65536∧(sg s (at_:Int)).toNat % 32 ≠ 31 ∧
   (c<128 → h=2∧(sg s ((at_+1:Nat):Int)).toNat=c)):=by
 unfold der_Get
 by_cases h0:s.length≤at_
 ·refine ⟨_,bind_i (v:=true) (if_n (by omega) (if_i (by omega) rfl)) (if_i rfl rfl), .inl (by simp)⟩
 by_cases ht:(sg s (at_:Int)).toNat % 32=31
 ·refine ⟨_,bind_i (v:=true) (if_n (by omega) (if_n (by omega) (if_i (by omega) (bind_i (tag_eq _ (sg_lt s _)) (by simp [ht]))))) (if_i rfl rfl), .inl (by simp)⟩
 have w1:w64 ((at_:Int)+1)=((at_+1:Nat):Int):=w64_add (b:=1) (by omega)
 obtain ⟨n,p,hl,hp⟩:=length_ex s (at_+1) hs (by omega)
 have h1:(if (at_:Int)<0 then some true else if (s.length:Int)≤at_ then some true else if 0≤(at_:Int)∧(at_:Int)<(s.length:Int) then (der_tag ((sg s (at_:Int)).toNat:Int)).bind fun r_2=>some (!r_2) else none)=some false :=
  if_n (by omega) (if_n (by omega) (if_i (by omega) (bind_i (tag_eq _ (sg_lt s _)) (by simp [ht]))))
 rcases hp with hp | ⟨n0,n1,p0,p1,hsh⟩
 ·subst hp
  exact ⟨_,bind_i h1 (if_n (by decide) (bind_i (by rw [w1]; exact hl) (bind_i (v:=true) (if_i (by dsimp only; omega) rfl) (if_i rfl rfl)))), .inl (by simp)⟩
 obtain ⟨c,rfl⟩ : ∃ c:Nat,n=(c:Int):=⟨n.toNat,by omega⟩
 obtain ⟨q,rfl⟩ : ∃ q:Nat,p=(q:Int):=⟨p.toNat,by omega⟩
 have w2:w64 ((s.length:Int) - (q:Int))=((s.length - q:Nat):Int):=by rw [w64_id (by omega) (by omega)]; omega
 have w3:w64 ((q:Int)+(c:Int))=((q+c:Nat):Int):=w64_add (by omega)
 by_cases hbig:s.length - q<c
 ·refine ⟨_,bind_i h1 (if_n (by decide) (bind_i (by rw [w1]; exact hl) (bind_i (v:=true) (if_n (by dsimp only; omega) ?_) (if_i rfl rfl)))), .inl (by simp)⟩
  dsimp only; rw [w2]; simp; omega
 ·refine ⟨_,bind_i h1 (if_n (by decide) (bind_i (by rw [w1]; exact hl) (bind_i (v:=false) (if_n (by dsimp only; omega) ?_) (if_n (by decide) (if_i (by omega) (if_i ?_ (if_i (by dsimp only; omega) (if_i ?_ (if_i ?_ rfl))))))))), .inr ⟨q - at_,c,?_,by omega,by omega,by omega,ht,fun hc=>?_⟩⟩
  ·dsimp only; rw [w2]; simp; omega
  ·dsimp only; rw [w3]; omega
  ·dsimp only; rw [w3]; omega
  ·dsimp only; rw [w3]; omega
  ·rw [w3]
   simp only [Int.toNat_natCast]
   rw [show at_+(q - at_)=q by omega]
  ·obtain ⟨e1,e2,e3⟩:=hsh (by omega)
   refine ⟨by omega,?_⟩
   omega
theorem Get_is (s:Str) (at_ c:Nat) (hs:s.length<4611686018427387904) (ha:at_+2+c≤s.length) (hc:c<128) (ht:(sg s (at_:Int)).toNat % 32 ≠ 31) (h1:(sg s ((at_+1:Nat):Int)).toNat=c) :
  der_Get s (at_:Int)=some (((sg s (at_:Int)).toNat:Int),sub s (at_+2) (at_+2+c),((at_+2+c:Nat):Int),0):=by
 have w1:w64 ((at_:Int)+1)=((at_+1:Nat):Int):=w64_add (b:=1) (by omega)
 have w1':w64 (((at_+1:Nat):Int)+1)=((at_+2:Nat):Int):=w64_add (b:=1) (by omega)
 have hl:der_length s ((at_+1:Nat):Int)=some ((c:Int),((at_+2:Nat):Int)):=by
  have b1 : ¬ ((s.length:Int)≤((at_+1:Nat):Int)):=by omega
  have b2:0≤((at_+1:Nat):Int)∧((at_+1:Nat):Int)<(s.length:Int):=by omega
  have b3:(c:Int)<128:=by omega
  clear hs ha ht w1
  unfold der_length
  refine if_n b1 (if_i b2 (ltt_i fun c1 hc1=>ltt_i fun x hx=>?_))
  rw [h1] at hc1
  subst hc1
  refine if_i (by rw [hx]; exact decide_eq_true b3) (ltt_i fun y hy=>?_)
  rw [hy,w1']
 have w2:w64 ((s.length:Int) - ((at_+2:Nat):Int))=((s.length - (at_+2):Nat):Int):=by rw [w64_id (by omega) (by omega)]; omega
 have w3:w64 (((at_+2:Nat):Int)+(c:Int))=((at_+2+c:Nat):Int):=w64_add (by omega)
 have g1:(if (at_:Int)<0 then some true else if (s.length:Int)≤at_ then some true else if 0≤(at_:Int)∧(at_:Int)<(s.length:Int) then (der_tag ((sg s (at_:Int)).toNat:Int)).bind fun r_2=>some (!r_2) else none)=some false :=
  if_n (by omega) (if_n (by omega) (if_i (by omega) (bind_i (tag_eq _ (sg_lt s _)) (by simp [ht]))))
 have a1 : ¬ (((at_+2:Nat):Int)<0):=by omega
 have a2 : ¬ (w64 ((s.length:Int) - ((at_+2:Nat):Int))<(c:Int)):=by rw [w2]; omega
 have a3:0≤(at_:Int)∧(at_:Int)<(s.length:Int):=by omega
 have a4:0≤w64 (((at_+2:Nat):Int)+(c:Int)):=by rw [w3]; omega
 have a5:(0:Int)≤((at_+2:Nat):Int):=by omega
 have a6:(w64 (((at_+2:Nat):Int)+(c:Int))).toNat≤s.length:=by rw [w3]; omega
 have a7:(((at_+2:Nat):Int)).toNat≤(w64 (((at_+2:Nat):Int)+(c:Int))).toNat:=by rw [w3]; omega
 unfold der_Get
 refine bind_i g1 (if_n Bool.false_ne_true ?_)
 refine bind_i (v:=((c:Int),((at_+2:Nat):Int))) (by rw [w1]; exact hl) ?_
 dsimp only
 refine bind_i (v:=false) ((if_neg a1).trans (congrArg some (decide_eq_false a2))) (if_n Bool.false_ne_true ?_)
 refine if_i a3 (if_i a4 (if_i a5 (if_i a6 (if_i a7 (ltt_i fun x hx=>?_)))))
 clear g1 hl a2 a4 a6 a7
 rw [hx]
 rw [w3]
 simp only [Int.toNat_natCast]
inductive Par (s:Str):Nat → List (Int × Str) → Prop where
 | nil:Par s 0 []
 | snoc {a b:Nat} {l:List (Int × Str)} {t:Int} {x:Str} (h:Par s a l) (g:der_Get s (a:Int)=some (t,x,(b:Int),0)) (hb:b≤s.length) (ha:a<s.length):Par s b (l++[(t,x)])
theorem All_ex (s:Str) (hs:s.length<2930000000000) : ∃ v,der_All s=some v∧(v.1 ≠ 0 ∨ (v.1=0∧Par s s.length v.2)):=by
 have key : ∃ t,loop (der_All.b0 s) BIG (0,[])=some t∧(match t with | .inl l=>Par s s.length l | .inr r=>r.1 ≠ 0):=by
  refine loop_ex (body:=der_All.b0 s) (fun r => ∃ t,r=some t∧(match t with | .inl l=>Par s s.length l | .inr r=>r.1 ≠ 0)) s.length BIG
   (fun d st => ∃ a:Nat,st.1=(a:Int)∧s.length - a≤d∧a≤s.length∧st.2.length≤a∧Par s a st.2) (0,[]) ⟨0,rfl,by omega,by omega,by simp, .nil⟩ (by unfold BIG; omega) ?_ ?_
  ·rintro k ⟨i,l⟩ ⟨a,hi,hd,ha,hll,hp⟩
   dsimp only at hi hll hp
   subst hi
   unfold der_All.b0
   dsimp only
   by_cases hend:s.length≤a
   ·have:a=s.length:=by omega
    subst this
    exact .inr ⟨_,if_n (by omega) rfl,_,rfl,hp⟩
   obtain ⟨v,hv,hc⟩:=Get_ex s a (by omega) ha
   rcases hc with hc | ⟨h,c,rfl,h2,hle,hcl,ht,hsh⟩
   ·exact .inr ⟨_,if_i (by omega) (bind_i hv (if_i hc rfl)),_,rfl,hc⟩
   ·refine .inl ⟨(((a+h+c:Nat):Int),l++[(((sg s (a:Int)).toNat:Int),sub s (a+h) (a+h+c))]),if_i (by omega) (bind_i hv (if_n (by simp) (if_i ?_ rfl))),a+h+c,rfl,by omega,hle,?_,?_⟩
    ·simp; omega
    ·simp; omega
    ·exact .snoc hp hv hle (by omega)
  ·rintro ⟨i,l⟩ ⟨a,hi,hd,ha,hll,hp⟩
   dsimp only at hi hll hp
   subst hi
   have:a=s.length:=by omega
   subst this
   refine ⟨.inl l,?_,_,rfl,hp⟩
   unfold der_All.b0
   exact if_n (by dsimp only; omega) rfl
 obtain ⟨t,h1,h2⟩:=key
 unfold der_All
 cases t with
 | inl l=>exact ⟨_,bind_i h1 rfl, .inr ⟨rfl,h2⟩⟩
 | inr r=>exact ⟨_,bind_i h1 rfl, .inl h2⟩
theorem Par.two {s:Str} {x y:Int × Str} {n:Nat} (h:Par s n [x,y]) : ∃ a:Nat,der_Get s 0=some (x.1,x.2,(a:Int),0)∧der_Get s (a:Int)=some (y.1,y.2,(n:Int),0)∧a≤s.length∧0<s.length∧a<s.length:=by
 generalize hl:[x,y]=l at h
 cases h with
 | nil=>cases hl
 | @snoc a b l' t z h g hb ha =>
  have e:l'=[x]∧y=(t,z):=by
   have h1:=congrArg List.reverse hl
   simp at h1
   obtain ⟨h2,h3⟩:=h1
   refine ⟨?_,h2⟩
   have:=congrArg List.reverse h3
   simpa using this.symm
  obtain ⟨rfl,rfl⟩:=e
  generalize hl2:[x]=l2 at h
  cases h with
  | nil=>cases hl2
  | @snoc a' b' l'' t' z' h g' hb' ha' =>
   have e:l''=[]∧x=(t',z'):=by
    have h1:=congrArg List.reverse hl2
    simp at h1
    exact ⟨h1.2,h1.1⟩
   obtain ⟨rfl,rfl⟩:=e
   generalize hl3:([]:List (Int × Str))=l3 at h
   cases h with
   | nil=>exact ⟨a,g',g,hb',by omega,ha⟩
   | snoc _ _ _ _=>simp at hl3
theorem All_two (s:Str) (a:Nat) (x y:Int × Str) (h0:0<s.length) (ha:a<s.length) (g1:der_Get s 0=some (x.1,x.2,(a:Int),0)) (g2:der_Get s (a:Int)=some (y.1,y.2,(s.length:Int),0)):der_All s=some (0,[x,y]):=by
 have key:loop (der_All.b0 s) BIG ((0:Int),([]:List (Int × Str)))=some (.inl [x,y]):=by
  refine loop_fn (s0:=((0:Int),([]:List (Int × Str)))) (fun k=>match k with | 0=>(0,[]) | 1=>((a:Int),[x]) | _=>((s.length:Int),[x,y])) 2 _ (by decide) rfl (fun k hk=>?_) ?_
  ·have:k=0 ∨ k=1:=by omega
   rcases this with rfl | rfl
   ·unfold der_All.b0
    refine if_i (by simp; omega) (bind_i g1 (if_n (by simp) (if_i (by simp) ?_)))
    unfold ltt; simp
   ·unfold der_All.b0
    refine if_i (by simp; omega) (bind_i g2 (if_n (by simp) (if_i (by simp) ?_)))
    unfold ltt; simp
  ·unfold der_All.b0
   exact if_n (by simp) rfl
 unfold der_All
 exact bind_i key rfl
end Go.Kx
end

section
namespace Go.Kx
open Go Go.Proofs
open Vector (replicate)
open Go.Nt hiding n4
theorem ofNat8 (n:Nat) (h:n<256):(BitVec.ofNat 8 n).toNat=n:=by rw [BitVec.toNat_ofNat]; omega
theorem sub_all' (s:Str) (n:Nat) (h:s.length=n):sub s 0 n=s:=by rw [← h]; exact sub_all s
def isInt (t:Nat) (x:Str) (n:Nat):Prop:=t=2∧0<n∧n<N256∧x=DB n
theorem isSc_pad (b:Str) (h:b.length≤32):isSc (List.replicate (32 - b.length) 0#8++b) ↔ 0<bnum b∧bnum b<N256:=by
 unfold isSc
 rw [bnum_pad]
 constructor
 ·rintro ⟨-,h1,h2⟩; exact ⟨by omega,h1⟩
 ·rintro ⟨h1,h2⟩; exact ⟨by simp; omega,h2,by omega⟩
open Classical in
theorem integer_ex (t:Nat) (ht:t<256) (htag:t % 32 ≠ 31) (x:Str) (hx:x.length<128) :
  ∃ v:Vx 64 4, ∃ b:Bool,ecdsa_integer (t:Int) x=some (v,b)∧(b=true ↔ ∃ n,isInt t x n) ∧ ∀ n,isInt t x n → n4 v=n:=by
 have N256lt:N256<2 ^ 256:=md_N.lt
 unfold ecdsa_integer
 by_cases h33:33<x.length
 ·refine ⟨replicate 4 0#64,false,if_i (by omega) rfl,⟨fun h=>(Bool.false_ne_true h).elim,fun ⟨n,h⟩=>?_⟩,fun n h=>?_⟩
  ·have:=(DB_len n).2; rw [← h.2.2.2] at this; omega
  ·have:=(DB_len n).2; rw [← h.2.2.2] at this; omega
 obtain ⟨b,hb,hb32,hbn⟩ : ∃ b:Str,(if 32<(x.length:Int) then (if 1≤x.length then (ltt (sub x 1 x.length) fun b6:Str=>some b6) else none) else some x)=some b∧b.length≤32 ∧
   ∀ n,x=DB n → bnum b=bnum x∧True:=by
  by_cases h32:32<x.length
  ·refine ⟨sub x 1 x.length,if_i (by omega) (if_i (by omega) rfl),by rw [sub_length (by omega)]; omega,fun n h=>?_⟩
   obtain ⟨c,hc,hcl⟩:=DB_33 n (by rw [← h]; omega)
   rw [h,hc]
   have e:sub (0#8 :: c) 1 (0#8 :: c).length=c:=by
    simp only [sub,List.drop_succ_cons,List.drop_zero]
    exact List.take_of_length_le (by simp)
   rw [e,bnum_cons0]; exact ⟨rfl,trivial⟩
  ·exact ⟨x,if_n (by omega) rfl,by omega,fun n h=>⟨rfl,trivial⟩⟩
 obtain ⟨v,hv,ev⟩:=Scalar_ex (List.replicate (32 - b.length) 0#8++b)
 have w1:w64 (32 - (b.length:Int))=((32 - b.length:Nat):Int):=by rw [w64_id (by omega) (by omega)]; omega
 have hI:=Integer_eq b (by omega)
 have hP:=Put1 t ht htag x hx
 have hdl:=derB_len b
 have hiff:(decide (isSc (List.replicate (32 - b.length) 0#8++b))=true∧([2#8,BitVec.ofNat 8 (derB b).length]++derB b=[BitVec.ofNat 8 t,BitVec.ofNat 8 x.length]++x)) ↔ ∃ n,isInt t x n:=by
  rw [decide_eq_true_iff,isSc_pad b hb32]
  constructor
  ·rintro ⟨⟨h0,h1⟩,h2⟩
   have h2:2#8 :: BitVec.ofNat 8 (derB b).length :: derB b=BitVec.ofNat 8 t :: BitVec.ofNat 8 x.length :: x:=h2
   have e1:(2#8:BitVec 8)=BitVec.ofNat 8 t:=(List.cons.inj h2).1
   have e2:derB b=x:=(List.cons.inj (List.cons.inj h2).2).2
   refine ⟨bnum b,?_,h0,h1,?_⟩
   ·have:=congrArg BitVec.toNat e1
    rw [ofNat8 t ht] at this
    exact this.symm
   ·rw [← e2]; exact derB_num b hb32
  ·rintro ⟨n,rfl,h0,h1,h2⟩
   have hbx:=(hbn n h2).1
   have hn:bnum x=n:=by rw [h2]; exact bnum_DB n (by omega)
   have e:derB b=x:=by rw [derB_num b hb32,hbx,hn,h2]
   rw [hbx,hn,e]
   exact ⟨⟨h0,h1⟩,rfl⟩
 have hval : ∀ n,isInt t x n → n4 v=n:=fun n h=>by
  rw [ev (by simp; omega),bnum_pad,(hbn n h.2.2.2).1,h.2.2.2]
  exact bnum_DB n (by have:=h.2.2.1; omega)
 by_cases hsc:isSc (List.replicate (32 - b.length) 0#8++b)
 ·refine ⟨v,decide ([2#8,BitVec.ofNat 8 (derB b).length]++derB b=[BitVec.ofNat 8 t,BitVec.ofNat 8 x.length]++x),?_,?_,hval⟩
  ·refine if_n (by omega) (bind_i hb ?_)
   rw [w1]
   simp only [Int.toNat_natCast]
   refine if_i (by omega) (if_i (by simp) (if_i (by simp; omega) (bind_i hv (bind_i hI (if_i rfl (bind_i hP ?_))))))
   rw [if_pos (by simp [hsc])]; rfl
  ·rw [← hiff,decide_eq_true_iff]
   exact ⟨fun h=>⟨by simp [hsc],h⟩,fun h=>h.2⟩
 ·refine ⟨v,false,?_,?_,hval⟩
  ·refine if_n (by omega) (bind_i hb ?_)
   rw [w1]
   simp only [Int.toNat_natCast]
   refine if_i (by omega) (if_i (by simp) (if_i (by simp; omega) (bind_i hv (bind_i hI (if_i rfl (bind_i hP ?_))))))
   rw [if_neg (by simp [hsc])]
  ·rw [← hiff]
   exact ⟨fun h=>(Bool.false_ne_true h).elim,fun h=>absurd (of_decide_eq_true h.1) hsc⟩
theorem integer_any (t:Nat) (ht:t<256) (htag:t % 32 ≠ 31) (x:Str) (hlong:x.length<2930000000000) :
  ∃ v:Vx 64 4, ∃ b:Bool,ecdsa_integer (t:Int) x=some (v,b)∧(b=true ↔ ∃ n,isInt t x n) ∧ ∀ n,isInt t x n → n4 v=n:=by
 by_cases h:x.length<128
 ·exact integer_ex t ht htag x h
 ·refine ⟨replicate 4 0#64,false,?_,⟨fun h=>(Bool.false_ne_true h).elim,fun ⟨n,hn⟩=>?_⟩,fun n hn=>?_⟩
  ·unfold ecdsa_integer
   exact if_i (by omega) rfl
  ·have:=(DB_len n).2; rw [← hn.2.2.2] at this; omega
  ·have:=(DB_len n).2; rw [← hn.2.2.2] at this; omega
def isSg (sig:Str) (r s:Nat):Prop:=0<r∧r<N256∧0<s∧s<N256∧sig=SG r s
theorem app_get {a b:Str} {i:Nat} (h:a.length≤i):sg (a++b) (i:Int)=sg b ((i - a.length:Nat):Int):=by
 unfold sg
 simp only [Int.toNat_natCast,List.getD_eq_getElem?_getD]
 rw [List.getElem?_append_right h]
theorem cut_head (s:Str) (a c:Nat) (h:a+2+c≤s.length):sub s a (a+2+c)=[sg s (a:Int),sg s ((a+1:Nat):Int)]++sub s (a+2) (a+2+c):=by
 apply List.ext_getElem?
 intro i
 unfold sg
 simp only [sub,Int.toNat_natCast,List.getElem?_take,List.getElem?_drop,List.getD_eq_getElem?_getD]
 by_cases h0:i=0
 ·subst h0; rw [if_pos (by omega),Nat.add_zero,List.getElem?_eq_getElem (by omega)]; rfl
 by_cases h1:i=1
 ·subst h1; rw [if_pos (by omega),List.getElem?_eq_getElem (by omega)]; rfl
 ·rw [List.getElem?_append_right (by simp; omega)]
  simp only [List.length_cons,List.length_nil,List.getElem?_take,List.getElem?_drop]
  by_cases h2:i<2+c
  ·rw [if_pos (by omega),if_pos (by omega)]; congr 1; omega
  ·rw [if_neg (by omega),if_neg (by omega)]
theorem sub_join (s:Str) (a b c:Nat) (h1:a≤b) (h2:b≤c) (h3:c≤s.length):sub s a b++sub s b c=sub s a c:=by
 have:=List.take_append_drop (b - a) (sub s a c)
 conv=>rhs; rw [← this]
 simp only [sub,List.take_take,List.drop_take,List.drop_drop]
 congr 2
 ·omega
 ·omega
 ·congr 1; omega
end Go.Kx
end

section
namespace Go.Kx
open Go Go.Proofs
open Go.Nt hiding n4
theorem sub_mid (a x b:Str):sub (a++x++b) a.length (a.length+x.length)=x:=by
 simp only [sub]
 rw [List.append_assoc,List.drop_left,Nat.add_sub_cancel_left,List.take_left]
theorem Get_app (pre x post:Str) (t:BitVec 8) (ht:t.toNat % 32 ≠ 31) (hx:x.length<128) (hl:pre.length<1000000∧post.length<1000000) :
  der_Get (pre++([t,BitVec.ofNat 8 x.length]++x)++post) (pre.length:Int)=some ((t.toNat:Int),x,((pre.length+2+x.length:Nat):Int),0):=by
 have e0:sg (pre++([t,BitVec.ofNat 8 x.length]++x)++post) (pre.length:Int)=t:=by
  rw [List.append_assoc,app_get (Nat.le_refl _),Nat.sub_self]; rfl
 have e1:sg (pre++([t,BitVec.ofNat 8 x.length]++x)++post) ((pre.length+1:Nat):Int)=BitVec.ofNat 8 x.length:=by
  rw [List.append_assoc,app_get (by omega),Nat.add_sub_cancel_left]; rfl
 have hlen:(pre++([t,BitVec.ofNat 8 x.length]++x)++post).length=pre.length+2+x.length+post.length:=by simp; omega
 have h:=Get_is (pre++([t,BitVec.ofNat 8 x.length]++x)++post) pre.length x.length (by rw [hlen]; omega) (by rw [hlen]; omega) hx (by rw [e0]; exact ht) (by rw [e1,ofNat8 _ (by omega)])
 rw [e0] at h
 rw [h]
 have es:sub (pre++([t,BitVec.ofNat 8 x.length]++x)++post) (pre.length+2) (pre.length+2+x.length)=x:=by
  have:=sub_mid (pre++[t,BitVec.ofNat 8 x.length]) x post
  rw [List.length_append] at this
  have e2:[t,BitVec.ofNat 8 x.length].length=2:=rfl
  rw [e2] at this
  rw [← List.append_assoc pre]
  exact this
 rw [es]
theorem SG_len (r s:Nat):(DI r++DI s).length≤70:=by
 rw [List.length_append,DI_len,DI_len]
 have:=(DB_len r).2
 have:=(DB_len s).2
 omega
theorem Get_SG (r s:Nat):der_Get (SG r s) 0=some (48,DI r++DI s,((SG r s).length:Int),0):=by
 have h:=SG_len r s
 have:=Get_app [] (DI r++DI s) [] 48#8 (by decide) (by omega) (by decide)
 rw [List.append_nil] at this
 have e:((SG r s).length:Int)=(((([]:Str).length+2+(DI r++DI s).length:Nat)):Int):=by
  have e1:(SG r s).length=2+(DI r++DI s).length:=by unfold SG; rw [List.length_append]; rfl
  have e2:([]:Str).length=0:=rfl
  omega
 rw [e]
 exact this
theorem All_SG (r s:Nat):der_All (DI r++DI s)=some (0,[(2,DB r),(2,DB s)]):=by
 have hr:=DB_len r
 have hs:=DB_len s
 have lr:=DI_len r
 have ls:=DI_len s
 have g1:=Get_app [] (DB r) (DI s) 2#8 (by decide) (by omega) (by rw [ls]; simp; omega)
 have g2:=Get_app (DI r) (DB s) [] 2#8 (by decide) (by omega) (by rw [lr]; simp; omega)
 rw [List.append_nil] at g2
 refine All_two (DI r++DI s) (2+(DB r).length) (2,DB r) (2,DB s) (by rw [List.length_append]; omega) (by rw [List.length_append]; omega) ?_ ?_
 ·have e:(([]:Str).length+2+(DB r).length)=2+(DB r).length:=by simp
  rw [e] at g1
  exact g1
 ·have e1:((2+(DB r).length:Nat):Int)=((DI r).length:Int):=by omega
  have e2:(DI r).length+2+(DB s).length=(DI r++DI s).length:=by rw [List.length_append]; omega
  rw [e1]
  rw [e2] at g2
  exact g2
theorem read_sig (sig:Str) (hl:sig.length<4611686018427387904) : ∃ v w:Vx 64 4, ∃ b:Bool,ecdsa_read sig=some (v,w,b)∧(b=true ↔ ∃ r s,isSg sig r s) ∧ ∀ r s,isSg sig r s → n4 v=r∧n4 w=s:=by
 by_cases hS : ∃ r s,isSg sig r s
 ·obtain ⟨r,s,hr0,hr1,hs0,hs1,rfl⟩:=hS
  obtain ⟨v,b1,i1,f1,g1⟩:=integer_any 2 (by decide) (by decide) (DB r) (by have:=(DB_len r).2; omega)
  obtain ⟨w,b2,i2,f2,g2⟩:=integer_any 2 (by decide) (by decide) (DB s) (by have:=(DB_len s).2; omega)
  have hb1:b1=true:=f1.2 ⟨r,rfl,hr0,hr1,rfl⟩
  have hb2:b2=true:=f2.2 ⟨s,rfl,hs0,hs1,rfl⟩
  have v1:=g1 r ⟨rfl,hr0,hr1,rfl⟩
  have w1:=g2 s ⟨rfl,hs0,hs1,rfl⟩
  subst hb1 hb2
  refine ⟨v,w,true,?_,⟨fun _=>⟨r,s,hr0,hr1,hs0,hs1,rfl⟩,fun _=>rfl⟩,fun r' s' h=>?_⟩
  ·unfold ecdsa_read
   refine bind_i (Get_SG r s) (bind_i (v:=false) (if_n (by simp) (if_n (by simp) (by simp))) (if_n Bool.false_ne_true (bind_i (All_SG r s) (bind_i (v:=false) (if_n (by simp) (by simp)) (if_n Bool.false_ne_true (if_i (by simp) (bind_i i1 (if_i (by simp) (bind_i i2 (if_i rfl rfl))))))))))
  ·
   have e:=h.2.2.2.2
   have hB:DI r++DI s=DI r'++DI s':=by
    unfold SG at e
    have:=List.append_inj_right e rfl
    exact this
   have hA:=All_SG r s
   rw [hB,All_SG r' s'] at hA
   have hA:=Option.some.inj hA
   have hA:=congrArg Prod.snd hA
   simp only [List.cons.injEq,Prod.mk.injEq,and_true,true_and] at hA
   have N256lt:N256<2 ^ 256:=md_N.lt
   have a1:=congrArg bnum hA.1
   have a2:=congrArg bnum hA.2
   rw [bnum_DB _ (by have:=h.2.1; omega),bnum_DB _ (by omega)] at a1
   rw [bnum_DB _ (by have:=h.2.2.2.1; omega),bnum_DB _ (by omega)] at a2
   rw [v1,w1]; exact ⟨a1.symm,a2.symm⟩
 ·refine Exists.elim (show ∃ v w:Vx 64 4,ecdsa_read sig=some (v,w,false) from ?_) fun v ⟨w,h⟩=>⟨v,w,false,h,⟨fun c=>(Bool.false_ne_true c).elim,fun c=>absurd c hS⟩,fun r s c=>absurd ⟨r,s,c⟩ hS⟩
  unfold ecdsa_read
  obtain ⟨u,hu,hc⟩:=Get_ex sig 0 hl (Nat.zero_le _)
  rcases hc with hc | ⟨h,c,rfl,h2,hle,hcl,ht,hsh⟩
  ·exact ⟨_,_,bind_i hu (bind_i (v:=true) (if_i hc rfl) (if_i rfl rfl))⟩
  by_cases hend:((0+h+c:Nat):Int) ≠ (sig.length:Int)
  ·exact ⟨_,_,bind_i hu (bind_i (v:=true) (if_n (by simp) (if_i hend rfl)) (if_i rfl rfl))⟩
  by_cases h48:(((sg sig ((0:Nat):Int)).toNat:Int)) ≠ 48
  ·exact ⟨_,_,bind_i hu (bind_i (v:=true) (if_n (by simp) (if_n hend (by simpa using h48))) (if_i rfl rfl))⟩
  have hend':h+c=sig.length:=by omega
  rw [Nat.zero_add] at hu
  obtain ⟨B,hB⟩ : ∃ B,B=sub sig h (h+c):=⟨_,rfl⟩
  have hBl:B.length=c:=by rw [hB,sub_length (by omega)]; omega
  rw [← hB] at hu
  have f1:(if (0:Int) ≠ 0 then some true else if ((h+c:Nat):Int) ≠ (sig.length:Int) then some true else some (decide (((sg sig ((0:Nat):Int)).toNat:Int) ≠ 48)))=some false:=if_n (by simp) (if_n (by omega) (by simpa using h48))
  obtain ⟨l,hA,hlc⟩:=All_ex B (by omega)
  rcases hlc with hlc | ⟨hl0,hpar⟩
  ·exact ⟨_,_,bind_i hu (bind_i f1 (if_n Bool.false_ne_true (bind_i hA (bind_i (v:=true) (if_i hlc rfl) (if_i rfl rfl)))))⟩
  obtain ⟨e,l⟩:=l
  dsimp only at hl0 hpar
  subst hl0
  by_cases hlen:((l.length:Int)) ≠ 2
  ·exact ⟨_,_,bind_i hu (bind_i f1 (if_n Bool.false_ne_true (bind_i hA (bind_i (v:=true) (if_n (by simp) (by simpa using hlen)) (if_i rfl rfl)))))⟩
  have hlen2:l.length=2:=by omega
  obtain ⟨x,y,rfl⟩ : ∃ x y,l=[x,y]:=by
   match l,hlen2 with
   | [x,y],_=>exact ⟨x,y,rfl⟩
  obtain ⟨a,g1,g2,hal,h0,halt⟩:=hpar.two
  obtain ⟨u1,hu1,hc1⟩:=Get_ex B 0 (by omega) (Nat.zero_le _)
  obtain ⟨u2,hu2,hc2⟩:=Get_ex B a (by omega) hal
  rw [show ((0:Nat):Int)=0 from rfl,g1] at hu1
  rw [g2] at hu2
  have hu1:=(Option.some.inj hu1).symm
  have hu2:=(Option.some.inj hu2).symm
  subst hu1 hu2
  rcases hc1 with hc1 | ⟨p1,c1,q1,k1,le1,cl1,t1,s1⟩
  ·exact absurd rfl hc1
  rcases hc2 with hc2 | ⟨p2,c2,q2,k2,le2,cl2,t2,s2⟩
  ·exact absurd rfl hc2
  simp only [Prod.mk.injEq] at q1 q2
  obtain ⟨x1,x2⟩:=x
  obtain ⟨y1,y2⟩:=y
  obtain ⟨ex1,ex2,ea, -⟩:=q1
  obtain ⟨ey1,ey2,eb, -⟩:=q2
  dsimp only at ex1 ex2 ey1 ey2 g1 g2
  have ea:a=p1+c1:=by omega
  have eb:B.length=a+p2+c2:=by omega
  obtain ⟨v,b1,i1,f1',g1'⟩:=integer_any _ (sg_lt B ((0:Nat):Int)) t1 x2 (by rw [ex2,sub_length (by omega)]; omega)
  obtain ⟨w,b2,i2,f2',g2'⟩:=integer_any _ (sg_lt B (a:Int)) t2 y2 (by rw [ey2,sub_length (by omega)]; omega)
  rw [← ex1] at i1
  rw [← ey1] at i2
  have f2:(if (0:Int) ≠ 0 then some true else some (decide ((([(x1,x2),(y1,y2)]:List (Int × Str)).length:Int) ≠ 2)))=some false:=if_n (by simp) (by simp)
  cases b1 with
  | false=>exact ⟨v,w,bind_i hu (bind_i f1 (if_n Bool.false_ne_true (bind_i hA (bind_i f2 (if_n Bool.false_ne_true (if_i (by simp) (bind_i i1 (if_i (by simp) (bind_i i2 (if_n Bool.false_ne_true rfl))))))))))⟩
  | true =>
   cases b2 with
   | false=>exact ⟨v,w,bind_i hu (bind_i f1 (if_n Bool.false_ne_true (bind_i hA (bind_i f2 (if_n Bool.false_ne_true (if_i (by simp) (bind_i i1 (if_i (by simp) (bind_i i2 (if_i rfl rfl))))))))))⟩
   | true =>
    exfalso
    obtain ⟨r,rt,r0,r1,rx⟩:=f1'.1 rfl
    obtain ⟨s,st,s0,s1',sx⟩:=f2'.1 rfl
    have lx:c1=(DB r).length:=by rw [← rx,ex2,sub_length (by omega)]; omega
    have ly:c2=(DB s).length:=by rw [← sx,ey2,sub_length (by omega)]; omega
    have br:=(DB_len r).2
    have bs:=(DB_len s).2
    obtain ⟨e1,e2⟩:=s1 (by omega)
    obtain ⟨e3,e4⟩:=s2 (by omega)
    subst e1 e3
    have n8 : ∀ (z:BitVec 8) (n:Nat),z.toNat=n → z=BitVec.ofNat 8 n:=fun z n hz=>BitVec.eq_of_toNat_eq (by rw [hz,BitVec.toNat_ofNat]; have:=z.isLt; omega)
    have dr:sub B 0 (0+2+c1)=DI r:=by
     rw [cut_head B 0 c1 (by omega), ← ex2,rx]
     unfold DI
     rw [n8 _ 2 rt,n8 _ c1 e2,lx]
    have ds:sub B a (a+2+c2)=DI s:=by
     rw [cut_head B a c2 (by omega), ← ey2,sx]
     unfold DI
     rw [n8 _ 2 st,n8 _ c2 e4,ly]
    have hBB:B=DI r++DI s:=by
     have j:=sub_join B 0 a B.length (by omega) hal (Nat.le_refl _)
     rw [sub_all] at j
     rw [← j, ← dr, ← ds]
     congr 2 <;> omega
    have hc70:c≤70:=by rw [← hBl,hBB]; exact SG_len r s
    obtain ⟨e5,e6⟩:=hsh (by omega)
    subst e5
    refine hS ⟨r,s,r0,r1,s0,s1',?_⟩
    have hw:sub sig 0 (0+2+c)=sig:=sub_all' sig _ (by omega)
    have hh:=cut_head sig 0 c (by omega)
    rw [hw] at hh
    rw [hh]
    have e48:sg sig ((0:Nat):Int)=48#8:=by
     have:=n8 (sg sig ((0:Nat):Int)) 48 (by omega)
     exact this
    have hBs:sub sig (0+2) (0+2+c)=B:=by rw [hB]
    rw [e48,n8 _ c e6,hBs,hBB]
    unfold SG
    rw [← hBB,hBl]
end Go.Kx
end

section
namespace Go.Proofs
open Go Go.Kx
open Vector (replicate)
def halberdref9_taken.b0  (s0:Str):Option ((Str) ⊕ (Str)) :=
 if 32<((s0).length:Int) then (if 1≤(s0).length then (ltt (sub s0 1 ((s0).length)) fun (b3:Str)=>(some (.inl b3))) else none) else (some (.inr s0))
def halberdref9_taken (s_:Str) (at_:Int):Option (Vx 32 8 × Int × Bool) :=
 (if (w64 (((s_).length:Int) - 2))<at_ then (some true) else (if 0≤at_∧at_<((s_).length:Int) then (some (decide ((sg s_ at_) ≠ 2#8))) else none)).bind fun (j1:Bool)=>(if j1=true then (ltt ((replicate 8 0#32:Vx 32 8)) fun (m_1:Vx 32 8)=>(some (m_1,0,false))) else (if 0≤w64 (at_+1)∧w64 (at_+1)<((s_).length:Int) then (ltt (((sg s_ (w64 (at_+1))).toNat:Int)) fun (k_1:Int)=>((if k_1<1 then (some true) else (if 33<k_1 then (some true) else (some (decide (((s_).length:Int)<(w64 ((w64 (at_+2))+k_1))))))).bind fun (j2:Bool)=>(if j2=true then (ltt ((replicate 8 0#32:Vx 32 8)) fun (m_2:Vx 32 8)=>(some (m_2,0,false))) else (if 0≤w64 ((w64 (at_+2))+k_1) then (if 0≤w64 (at_+2) then (if (w64 ((w64 (at_+2))+k_1)).toNat≤(s_).length then (if (w64 (at_+2)).toNat≤(w64 ((w64 (at_+2))+k_1)).toNat then (ltt (sub s_ ((w64 (at_+2)).toNat) ((w64 ((w64 (at_+2))+k_1)).toNat)) fun (b2:Str)=>((loop (halberdref9_taken.b0) BIG b2).bind fun (t_1:Str)=>(if 0≤w64 (32 - ((t_1).length:Int))∧w64 (32 - ((t_1).length:Int))≤17592186044416 then (if (List.replicate ((w64 (32 - ((t_1).length:Int))).toNat) 0#8).length=(w64 (32 - ((t_1).length:Int))).toNat then (if (List.replicate ((w64 (32 - ((t_1).length:Int))).toNat) 0#8).length+(t_1).length≤4611686018427387904 then ((halberdref9_get ((List.replicate ((w64 (32 - ((t_1).length:Int))).toNat) 0#8)++t_1)).bind fun (r_1:Vx 32 8)=>((halberdref9_integer r_1).bind fun (r_2:Str)=>(if 0≤w64 ((w64 (at_+2))+k_1) then (if 0≤at_ then (if (w64 ((w64 (at_+2))+k_1)).toNat≤(s_).length then (if (at_).toNat≤(w64 ((w64 (at_+2))+k_1)).toNat then (if r_2=sub s_ ((at_).toNat) ((w64 ((w64 (at_+2))+k_1)).toNat) then (if r_1 ≠ (replicate 8 0#32:Vx 32 8) then ((halberdref9_modulus 1).bind fun (r_3:Vx 32 8)=>((halberdref9_less r_1 r_3).bind fun (r_4:Bool)=>(ltt (w64 ((w64 (at_+2))+k_1)) fun (x1:Int)=>(some (r_1,x1,r_4))))) else (ltt (w64 ((w64 (at_+2))+k_1)) fun (x2:Int)=>(some (r_1,x2,false)))) else (ltt (w64 ((w64 (at_+2))+k_1)) fun (x3:Int)=>(some (r_1,x3,false)))) else none) else none) else none) else none))) else none) else none) else none))) else none) else none) else none) else none)))) else none))
end Go.Proofs
end

section
namespace Go.Kx
open Go Go.Proofs
open Go.Nt hiding n4
def standsAt (s:Str) (at_ n:Nat):Prop:=0<n∧n<N256∧at_+(DI n).length≤s.length∧sub s at_ (at_+(DI n).length)=DI n
end Go.Kx
end

section
namespace Go.Proofs
open Go Go.Kx
open Vector (replicate)
def pcurve_Two (u:Vx 64 4) (v:Vx 64 4) (p:Str):Option (Vx 64 4 × Bool) :=
 (pcurve_newCurve).bind fun (r_1:Vx 64 4 × BitVec 64 × Vx 64 4 × Vx 64 4 × Vx 64 4)=>((pcurve_curve_read r_1.1 r_1.2.1 r_1.2.2.1 r_1.2.2.2.1 r_1.2.2.2.2 p).bind fun (r_2:Vx 64 4 × Vx 64 4 × Vx 64 4 × Bool)=>((pcurve_curve_base r_1.1 r_1.2.1 r_1.2.2.1 r_1.2.2.2.1 r_1.2.2.2.2).bind fun (r_3:Vx 64 4 × Vx 64 4 × Vx 64 4)=>((pcurve_curve_times r_1.1 r_1.2.1 r_1.2.2.1 r_1.2.2.2.1 r_1.2.2.2.2 u r_3.1 r_3.2.1 r_3.2.2).bind fun (r_4:Vx 64 4 × Vx 64 4 × Vx 64 4)=>((pcurve_curve_times r_1.1 r_1.2.1 r_1.2.2.1 r_1.2.2.2.1 r_1.2.2.2.2 v r_2.1 r_2.2.1 r_2.2.2.1).bind fun (r_5:Vx 64 4 × Vx 64 4 × Vx 64 4)=>((pcurve_curve_add r_1.1 r_1.2.1 r_1.2.2.1 r_1.2.2.2.1 r_1.2.2.2.2 r_4.1 r_4.2.1 r_4.2.2 r_5.1 r_5.2.1 r_5.2.2).bind fun (r_6:Vx 64 4 × Vx 64 4 × Vx 64 4)=>((num_Nat_Zero r_6.2.2).bind fun (r_7:Bool)=>(if r_7=true then (ltt ((replicate 4 0#64:Vx 64 4)) fun (m_1:Vx 64 4)=>(some (m_1,false))) else ((pcurve_curve_write r_1.1 r_1.2.1 r_1.2.2.1 r_1.2.2.2.1 r_1.2.2.2.2 r_6.1 r_6.2.1 r_6.2.2).bind fun (r_8:Str)=>(if 33≤(r_8).length then ((num_Load (sub r_8 1 33)).bind fun (r_9:Vx 64 4)=>(some (r_9,true))) else none)))))))))
set_option maxHeartbeats 4000000 in
set_option maxRecDepth 20000 in
theorem F70_calls (u:Vx 64 4) (v:Vx 64 4) (p:Str) (r:Vx 64 4 × Bool) (H:pcurve_Two u v p=some r) :
  Does Try.prog 70 [aG [(4,e64 u.toList)],aG [(4,e64 v.toList)],vs p] [] [] (Γ:=Unit) (fun g=>Value.tuple [aG [(4,e64 r.1.toList)],vb r.2].toArray) (fun g=>[]):=by
 intro w hmem hro hd
 refine calls_of (N:=39) (m0:=[(0,aG [(4,e64 u.toList)]),(1,aG [(4,e64 v.toList)]),(2,vs p)]) Try.func70 rfl Try.ntmps70 (argM_ok [aG [(4,e64 u.toList)],aG [(4,e64 v.toList)],vs p]) rfl hmem hro hd ?_
 unfold pcurve_Two at H
 refine TC_seq (TC_region (TLe (E_boxP [(4,e64 u.toList)] rfl rfl ⟨(lenV (f:=v64) u),trivial⟩) (fun b1=>?_)))
 refine TLe (E_boxP [(4,e64 v.toList)] rfl rfl ⟨(lenV (f:=v64) v),trivial⟩) (fun b2=>?_)
 refine TLe (E_al64 4 TryI.inf57 TryI.zer57) (fun b3=>?_)
 refine TLv (V_assign rfl) ?_
 refine TL_nil (TX_next (TC_seq (TC_region ?_)))
 obtain ⟨r_1,hr_1,H⟩:=bind_elim H
 refine TLe (E_call (Γ:=Nat × Nat) (val:=fun g=>ptr (some (g.1,0)) 0) (mem:=fun g=>[⟨some (g.1,0),[ptr (some (g.2,0)) 0]⟩,⟨some (g.2,0),e64 r_1.1.toList⟩,⟨some (g.2,4),[v64 r_1.2.1]⟩,⟨some (g.2,5),e64 r_1.2.2.1.toList⟩,⟨some (g.2,9),e64 r_1.2.2.2.1.toList⟩,⟨some (g.1,1),e64 r_1.2.2.2.2.toList⟩]) (vs:=[]) (Lin:=[]) (Ro:=[]) (is:=[]) rfl Try.call33 (F33_calls r_1 hr_1) rfl trivial) (fun g_1=>?_)
 refine TLv (V_assign rfl) ?_
 refine TL_nil (TX_next (TC_seq (TC_region (TLv (V_move rfl) ?_))))
 refine TLv (V_move rfl) ?_
 obtain ⟨r_2,hr_2,H⟩:=bind_elim H
 refine TLe (E_c0 (F41_calls g_1.1 0 g_1.2 0 r_1.1 r_1.2.1 r_1.2.2.1 r_1.2.2.2.1 r_1.2.2.2.2 p r_2 hr_2) Try.call41 ⟨.o 0, .o 5, .o 1, .o 2, .o 3, .o 4,trivial⟩) (fun g_2=>?_)
 refine TLv (V_move rfl) ?_
 refine TLv V_ex ?_
 refine TLv V_ex ?_
 refine TLe (E_allocP [(4,e64 ((replicate 4 0#64).toList)),(4,e64 ((replicate 4 0#64).toList)),(4,e64 ((replicate 4 0#64).toList))] TryI.inf64 TryI.zer64 ⟨(lenV (f:=v64) (replicate 4 0#64)),(lenV (f:=v64) (replicate 4 0#64)),(lenV (f:=v64) (replicate 4 0#64)),trivial⟩) (fun b4=>?_)
 refine TLn (E_sp (b:=b4) (o:=0) [0,0,0] [(4,e64 ((replicate 4 0#64).toList)),(4,e64 ((replicate 4 0#64).toList)),(4,e64 ((replicate 4 0#64).toList))] [(4,e64 r_2.1.toList),(4,e64 r_2.2.1.toList),(4,e64 r_2.2.2.1.toList)] rfl TryI.inf64 ⟨(lenV (f:=v64) (replicate 4 0#64)),(lenV (f:=v64) (replicate 4 0#64)),(lenV (f:=v64) (replicate 4 0#64)),trivial⟩ ⟨(lenV (f:=v64) r_2.1),(lenV (f:=v64) r_2.2.1),(lenV (f:=v64) r_2.2.2.1),trivial⟩ ⟨(OneC.map (fun _=>rfl) _),(OneC.map (fun _=>rfl) _),(OneC.map (fun _=>rfl) _),trivial⟩) (fun _=>?_)
 refine TLv (V_assign rfl) ?_
 refine TL_nil (TX_next (TC.sub (m':=[(3,ptr (some (b1,0)) 0),(4,ptr (some (b2,0)) 0),(6,ptr (some (b3,0)) 0),(8,ptr (some (g_1.1,0)) 0),(9,ptr (some (b4,0)) 0)]) ⟨rfl,rfl,rfl,rfl,rfl,trivial⟩ ?_))
 refine TC.pull (is:=[11,10,9,3,3,3,3,3,3,0,0,0]) (L':=[⟨some (b1,0),e64 u.toList⟩,⟨some (b2,0),e64 v.toList⟩,⟨some (b3,0),e64 ((replicate 4 0#64).toList)⟩,⟨some (g_1.1,0),[ptr (some (g_1.2,0)) 0]⟩,⟨some (g_1.2,0),e64 r_1.1.toList⟩,⟨some (g_1.2,4),[v64 r_1.2.1]⟩,⟨some (g_1.2,5),e64 r_1.2.2.1.toList⟩,⟨some (g_1.2,9),e64 r_1.2.2.2.1.toList⟩,⟨some (g_1.1,1),e64 r_1.2.2.2.2.toList⟩,⟨some (b4,0),e64 r_2.1.toList⟩,⟨some (b4,4),e64 r_2.2.1.toList⟩,⟨some (b4,8),e64 r_2.2.2.1.toList⟩]) rfl ?_
 refine TC_seq ?_
 obtain ⟨r_3,hr_3,H⟩:=bind_elim H
 obtain ⟨r_4,hr_4,H⟩:=bind_elim H
 obtain ⟨r_5,hr_5,H⟩:=bind_elim H
 obtain ⟨r_6,hr_6,H⟩:=bind_elim H
 refine TA_begin [] 13 (by kernel_rfl) (N:=13) rfl ?_
 refine TA_mix (is:=[]) (done':=dn 13 4095) [itV 0 19 (ptr (some (g_1.1,0)) 0) [],itV 1 20 (ptr (some (g_1.1,0)) 0) [],itV 2 21 (aG [(4,e64 u.toList)]) [],itV 3 22 (ptr (some (g_1.1,0)) 0) [],itV 4 23 (aG [(4,e64 r_3.1.toList),(4,e64 r_3.2.1.toList),(4,e64 r_3.2.2.toList)]) [3],itV 5 24 (aG [(4,e64 r_4.1.toList),(4,e64 r_4.2.1.toList),(4,e64 r_4.2.2.toList)]) [1,2,4],itV 6 25 (ptr (some (g_1.1,0)) 0) [],itV 7 26 (aG [(4,e64 v.toList)]) [],itV 8 27 (aG [(4,e64 r_2.1.toList),(4,e64 r_2.2.1.toList),(4,e64 r_2.2.2.1.toList)]) [],itV 9 28 (aG [(4,e64 r_5.1.toList),(4,e64 r_5.2.1.toList),(4,e64 r_5.2.2.toList)]) [6,7,8],itV 10 29 (aG [(4,e64 r_6.1.toList),(4,e64 r_6.2.1.toList),(4,e64 r_6.2.2.toList)]) [5,0,9],⟨11,11,fun b5=>ptr (some (b5,0)) 0,fun b5=>[⟨some (b5,0),e64 ((replicate 4 0#64).toList)⟩,⟨some (b5,4),e64 ((replicate 4 0#64).toList)⟩,⟨some (b5,8),e64 ((replicate 4 0#64).toList)⟩],[],none⟩] [] 1 (by kernel_rfl) (QP.then QP.body) (by kernel_rfl) rfl (.v rfl (V_move rfl) (.v rfl (V_move rfl) (.v rfl (V_lag (.o 0) Try.isAgg57 TryI.inf57) (.v rfl (V_move rfl) (.e rfl (E_cu (F36_calls g_1.1 0 g_1.2 0 r_1.1 r_1.2.1 r_1.2.2.1 r_1.2.2.2.1 r_1.2.2.2.2 r_3 hr_3) Try.call36 ⟨.o 3, .o 8, .o 4, .o 5, .o 6, .o 7,trivial⟩) (.e rfl (E_cu (F35_calls g_1.1 0 g_1.2 0 r_1.1 r_1.2.1 r_1.2.2.1 r_1.2.2.2.1 r_1.2.2.2.2 u r_3.1 r_3.2.1 r_3.2.2 r_4 hr_4) Try.call35 ⟨.o 3, .o 8, .o 4, .o 5, .o 6, .o 7,trivial⟩) (.v rfl (V_move rfl) (.v rfl (V_lag (.o 1) Try.isAgg57 TryI.inf57) (.v rfl (V_loadAgg (n:=12) (cs:=flat [(4,e64 r_2.1.toList),(4,e64 r_2.2.1.toList),(4,e64 r_2.2.2.1.toList)]) rfl (by simp) (SrcEnts (b:=b4) [(4,e64 r_2.1.toList),(4,e64 r_2.2.1.toList),(4,e64 r_2.2.2.1.toList)] 0 ⟨(lenV (f:=v64) r_2.1),(lenV (f:=v64) r_2.2.1),(lenV (f:=v64) r_2.2.2.1),trivial⟩ (AllSrc.all (M:=ents b4 0 [(4,e64 r_2.1.toList),(4,e64 r_2.2.1.toList),(4,e64 r_2.2.2.1.toList)]) ⟨Src.own (j:=9) rfl,Src.own (j:=10) rfl,Src.own (j:=11) rfl,trivial⟩)) Try.isAgg64 TryI.inf64 rfl (flat_len ⟨(lenV (f:=v64) r_2.1),(lenV (f:=v64) r_2.2.1),(lenV (f:=v64) r_2.2.2.1),trivial⟩ rfl)) (.e rfl (E_cu (F35_calls g_1.1 0 g_1.2 0 r_1.1 r_1.2.1 r_1.2.2.1 r_1.2.2.2.1 r_1.2.2.2.2 v r_2.1 r_2.2.1 r_2.2.2.1 r_5 hr_5) Try.call35 ⟨.o 3, .o 8, .o 4, .o 5, .o 6, .o 7,trivial⟩) (.e rfl (E_cu (F42_calls g_1.1 0 g_1.2 0 r_1.1 r_1.2.1 r_1.2.2.1 r_1.2.2.2.1 r_1.2.2.2.2 r_4.1 r_4.2.1 r_4.2.2 r_5.1 r_5.2.1 r_5.2.2 r_6 hr_6) Try.call42 ⟨.o 3, .o 8, .o 4, .o 5, .o 6, .o 7,trivial⟩) (.c rfl (fun _ _=>(E_allocP [(4,e64 ((replicate 4 0#64).toList)),(4,e64 ((replicate 4 0#64).toList)),(4,e64 ((replicate 4 0#64).toList))] TryI.inf64 TryI.zer64 ⟨(lenV (f:=v64) (replicate 4 0#64)),(lenV (f:=v64) (replicate 4 0#64)),(lenV (f:=v64) (replicate 4 0#64)),trivial⟩)) .nil)))))))))))) .nil (by kernel_rfl) rfl (fun γ=>?_)
 refine TA_cut [(11,ptr (some ((γ 11),0)) 0),(29,aG [(4,e64 r_6.1.toList),(4,e64 r_6.2.1.toList),(4,e64 r_6.2.2.toList)]),(6,ptr (some (b3,0)) 0),(8,ptr (some (g_1.1,0)) 0)] [⟨some ((γ 11),0),e64 ((replicate 4 0#64).toList)⟩,⟨some ((γ 11),4),e64 ((replicate 4 0#64).toList)⟩,⟨some ((γ 11),8),e64 ((replicate 4 0#64).toList)⟩,⟨some (b1,0),e64 u.toList⟩,⟨some (b2,0),e64 v.toList⟩,⟨some (b3,0),e64 ((replicate 4 0#64).toList)⟩,⟨some (g_1.1,0),[ptr (some (g_1.2,0)) 0]⟩,⟨some (g_1.2,0),e64 r_1.1.toList⟩,⟨some (g_1.2,4),[v64 r_1.2.1]⟩,⟨some (g_1.2,5),e64 r_1.2.2.1.toList⟩,⟨some (g_1.2,9),e64 r_1.2.2.2.1.toList⟩,⟨some (g_1.1,1),e64 r_1.2.2.2.2.toList⟩,⟨some (b4,0),e64 r_2.1.toList⟩,⟨some (b4,4),e64 r_2.2.1.toList⟩,⟨some (b4,8),e64 r_2.2.2.1.toList⟩] ⟨rfl,rfl,rfl,rfl,trivial⟩ rfl ?_
 generalize γ 11=b5
 refine TA_all (rs:=[12]) (by kernel_rfl) rfl ?_
 refine ⟨?_,trivial⟩
 refine TO_n (is:=[]) (done':=dn 13 8191) rfl rfl rfl (by kernel_rfl) (E_sp (b:=b5) (o:=0) [0,0,0] [(4,e64 ((replicate 4 0#64).toList)),(4,e64 ((replicate 4 0#64).toList)),(4,e64 ((replicate 4 0#64).toList))] [(4,e64 r_6.1.toList),(4,e64 r_6.2.1.toList),(4,e64 r_6.2.2.toList)] rfl TryI.inf64 ⟨(lenV (f:=v64) (replicate 4 0#64)),(lenV (f:=v64) (replicate 4 0#64)),(lenV (f:=v64) (replicate 4 0#64)),trivial⟩ ⟨(lenV (f:=v64) r_6.1),(lenV (f:=v64) r_6.2.1),(lenV (f:=v64) r_6.2.2),trivial⟩ ⟨(OneC.map (fun _=>rfl) _),(OneC.map (fun _=>rfl) _),(OneC.map (fun _=>rfl) _),trivial⟩) (fun _ _=>rfl) (fun _=>?_)
 refine TA_done (by kernel_rfl) ?_ 0
 refine TX_next (TC_seq (TC_seq (TC_region (TLv (V_fieldE rfl Try.underlying64 rfl rfl TryI.inf57 rfl (v:=ptr (some (b5,8)) 0) rfl) ?_))))
 refine TLv (V_lag (.o 2) Try.isAgg57 TryI.inf57) ?_
 obtain ⟨r_7,hr_7,H⟩:=bind_elim H
 refine TLe (E_c0 (F43_calls r_6.2.2 r_7 hr_7) Try.call43 .z) (fun g_7=>?_)
 refine TL_nil (TX_next (TC_cond (b:=r_7) rfl (fun hc=>?_) (fun hc=>?_)))
 ·replace H:=ite_t hc H
  refine TC_seq (TC_region (TLv (V_buildArr (pv:=[]) rfl rfl Try.underlying57 TryI.inf57 TryI.inf55 rfl TryI.zer57 (cs:=e64 ((replicate 4 0#64:Vx 64 4).toList)) (by kernel_rfl)) ?_))
  refine TLn (E_sv 5 TryI.inf57) (fun _=>?_)
  obtain ⟨m_1,hm_1,H⟩:=ltt_elim H
  refine TL_reE (j:=5) (A:=some (b3,0)) (cs:=e64 ((replicate 4 0#64:Vx 64 4).toList)) (cs':=e64 m_1.toList) rfl (congrArg (fun z:Vx 64 4=>e64 (Vector.toList z)) hm_1) ?_
  refine TLv (V_assign rfl) ?_
  refine TL_nil (TX_next (TC_ret (TX_then_ret ?_)))
  have hrv:=Option.some.inj H
  subst hrv
  exact TX_ret (rs:=[.cell 6 57, .tmp 7]) (vs:=[aG [(4,e64 m_1.toList)],vb false]) rfl ⟨(Res_agg (n:=4) rfl (by simp) (.o 5) Try.isAgg57 TryI.inf57 rfl (lenV (f:=v64) m_1)),rfl,trivial⟩ (fun w' hs'=>⟨(),rfl,Step.left (Step.pulled (is:=[]) (A:=[]) hs' rfl)⟩)
 ·replace H:=ite_f (Bool.eq_false_iff.1 hc) H
  refine TC_skip (TX_next (TC_seq (TC_region (TLv (V_move rfl) ?_))))
  refine TLv (V_loadAgg (n:=12) (cs:=flat [(4,e64 r_6.1.toList),(4,e64 r_6.2.1.toList),(4,e64 r_6.2.2.toList)]) rfl (by simp) (SrcEnts (b:=b5) [(4,e64 r_6.1.toList),(4,e64 r_6.2.1.toList),(4,e64 r_6.2.2.toList)] 0 ⟨(lenV (f:=v64) r_6.1),(lenV (f:=v64) r_6.2.1),(lenV (f:=v64) r_6.2.2),trivial⟩ (AllSrc.all (M:=ents b5 0 [(4,e64 r_6.1.toList),(4,e64 r_6.2.1.toList),(4,e64 r_6.2.2.toList)]) ⟨Src.own (j:=0) rfl,Src.own (j:=1) rfl,Src.own (j:=2) rfl,trivial⟩)) Try.isAgg64 TryI.inf64 rfl (flat_len ⟨(lenV (f:=v64) r_6.1),(lenV (f:=v64) r_6.2.1),(lenV (f:=v64) r_6.2.2),trivial⟩ rfl)) ?_
  obtain ⟨r_8,hr_8,H⟩:=bind_elim H
  refine TLe (E_c0 (F34_calls g_1.1 0 g_1.2 0 r_1.1 r_1.2.1 r_1.2.2.1 r_1.2.2.2.1 r_1.2.2.2.2 r_6.1 r_6.2.1 r_6.2.2 r_8 hr_8) Try.call34 ⟨.o 6, .o 11, .o 7, .o 8, .o 9, .o 10,trivial⟩) (fun g_8=>?_)
  obtain ⟨h1,H⟩:=if_elim H
  refine TLv (V_sliceStr (l:=1) (h:=33) rfl Try.underlying9 (Bnd.some' (i:=1) rfl (by decide)) (Bnd.some' (i:=33) rfl (by decide)) (by decide) h1) ?_
  obtain ⟨r_9,hr_9,H⟩:=bind_elim H
  refine TLe (E_c0 (F55_calls (sub r_8 1 33) r_9 hr_9) Try.call55 .z) (fun g_9=>?_)
  refine TLn (E_sv (vs:=e64 r_9.toList) 5 TryI.inf57) (fun _=>?_)
  refine TLv (V_assign rfl) ?_
  refine TL_nil (TX_next (TC_ret ?_))
  have hrv:=Option.some.inj H
  subst hrv
  exact TX_ret (rs:=[.cell 6 57, .tmp 7]) (vs:=[aG [(4,e64 r_9.toList)],vb true]) rfl ⟨(Res_agg (n:=4) rfl (by simp) (.o 5) Try.isAgg57 TryI.inf57 rfl (lenV (f:=v64) r_9)),rfl,trivial⟩ (fun w' hs'=>⟨(),rfl,Step.left (Step.pulled (is:=[]) (A:=[]) hs' rfl)⟩)
end Go.Proofs
end
