/-
  Part 8 of the proof of what several laws share.
-/
import Derived.Test.YtnplppmninimeaaDoorTkQ1
import Derived.Test.YtnplppmninimeaaDoorTkQ2
import Derived.Test.YtnplppmninimeaaDoorTkQ3
import Derived.Test.YtnplppmninimeaaDoorTkQ4
import Derived.Test.YtnplppmninimeaaDoorTkQ5
import Derived.Test.YtnplppmninimeaaDoorTkQ6
import Derived.Test.YtnplppmninimeaaDoorTkQ7
set_option linter.unusedVariables false
set_option linter.unusedSimpArgs false
section
namespace Go.Proofs
open Go Go.Kx
theorem iop_nat (f:BitVec 64 → BitVec 64 → BitVec 64) (a b:Int) (h:(f (BitVec.ofInt 64 a) (BitVec.ofInt 64 b)).toNat<9223372036854775808):iop f a b=((f (BitVec.ofInt 64 a) (BitVec.ofInt 64 b)).toNat:Int):=by
 unfold iop
 exact w64_nat h
theorem and_mask (x:Int) (n:Nat) (hn:n<63):iop (· &&& ·) x ((2 ^ n - 1:Nat):Int)=x % ((2 ^ n:Nat):Int):=by
 have hp:2 ^ n<2 ^ 63:=Nat.pow_lt_pow_right (by omega) (by omega)
 have hp0:0<2 ^ n:=Nat.two_pow_pos n
 have e:((BitVec.ofInt 64 x) &&& (BitVec.ofInt 64 ((2 ^ n - 1:Nat):Int))).toNat=(x % ((2 ^ n:Nat):Int)).toNat:=by
  have e1:(BitVec.ofInt 64 ((2 ^ n - 1:Nat):Int)).toNat=2 ^ n - 1:=by
   rw [BitVec.ofInt_natCast,BitVec.toNat_ofNat,Nat.mod_eq_of_lt (by omega)]
  rw [BitVec.toNat_and,e1,Nat.and_two_pow_sub_one_eq_mod,BitVec.toNat_ofInt]
  have h1:((x % ((2 ^ 64:Nat):Int)).toNat:Int)=x % ((2 ^ 64:Nat):Int):=Int.toNat_of_nonneg (Int.emod_nonneg _ (by decide))
  have h2:((x % ((2 ^ n:Nat):Int)).toNat:Int)=x % ((2 ^ n:Nat):Int):=Int.toNat_of_nonneg (Int.emod_nonneg _ (by omega))
  apply Int.ofNat.inj
  show (((x % ((2 ^ 64:Nat):Int)).toNat % 2 ^ n:Nat):Int)=_
  rw [Int.natCast_emod,h1]
  show x % ((2 ^ 64:Nat):Int) % ((2 ^ n:Nat):Int)=((x % ((2 ^ n:Nat):Int)).toNat:Int)
  rw [h2]
  refine Int.emod_emod_of_dvd x ?_
  rw [Int.natCast_dvd_natCast]
  exact Nat.pow_dvd_pow 2 (by omega)
 have hlt:(x % ((2 ^ n:Nat):Int)).toNat<2 ^ n:=by
  have:=Int.emod_lt_of_pos x (show (0:Int)<((2 ^ n:Nat):Int) by omega)
  omega
 have:=iop_nat (· &&& ·) x ((2 ^ n - 1:Nat):Int) (by show BitVec.toNat (_ &&& _)<_; rw [e]; omega)
 rw [this]
 show ((BitVec.toNat (_ &&& _):Nat):Int)=_
 rw [e]
 exact Int.toNat_of_nonneg (Int.emod_nonneg _ (by omega))
theorem and255 (x:Int):iop (· &&& ·) x 255=x % 256:=and_mask x 8 (by decide)
theorem ofInt8_mod (x:Int):BitVec.ofInt 8 (x % 256)=BitVec.ofInt 8 x:=by
 apply BitVec.eq_of_toNat_eq
 simp only [BitVec.toNat_ofInt]
 omega
def bytesI (x:Int) (n:Nat):Str:=(List.range n).map fun i=>BitVec.ofInt 8 (x / 256 ^ (n - 1 - i))
theorem bytesI_length (x:Int) (n:Nat):(bytesI x n).length=n:=by simp [bytesI]
theorem Be_eq (x:Int) (n:Nat) (h:n<1000000):halberdref1_Be x (n:Int)=some (bytesI x n):=by
 have e0:w64 ((n:Int) - 1)=(n:Int) - 1:=w64_id (by omega) (by omega)
 unfold halberdref1_Be
 refine if_i (by omega) (ltt_i fun i1 hi1=>?_)
 rw [hi1,e0,Int.toNat_natCast]
 refine bind_i (v:=bytesI x n) (loop_fn (fun k=>(x / 256 ^ k,(n:Int) - 1 - k,(List.range n).map fun i=>if i+k<n then 0#8 else BitVec.ofInt 8 (x / 256 ^ (n - 1 - i)))) n _ (by omega) ?_ (fun k hk=>?_) ?_) (if_i (bytesI_length x n) rfl)
 ·have:(List.range n).map (fun i=>if i+0<n then 0#8 else BitVec.ofInt 8 (x / 256 ^ (n - 1 - i)))=List.replicate n 0#8:=by
   refine List.ext_getElem (by simp) fun i h1 h2=>?_
   simp only [List.getElem_map,List.getElem_range,List.getElem_replicate]
   rw [if_pos (by simp at h1; omega)]
  simp only [this]
  simp
 ·have e1:w64 ((n:Int) - 1 - (k:Int) - 1)=(n:Int) - 1 - ((k+1:Nat):Int):=by rw [w64_id (by omega) (by omega)]; omega
  have e2:((n:Int) - 1 - (k:Int)).toNat=n - 1 - k:=by omega
  unfold halberdref1_Be.b0
  simp only [e1,e2,Int.toNat_natCast]
  clear e1
  refine if_i (by omega) (if_i (by omega) (if_i (by simp; omega) (ltt_i fun m hm=>ltt_i fun i2 hi2=>?_)))
  have hs:shrI' (x / 256 ^ k) 8=x / 256 ^ (k+1):=by
   unfold shrI'
   show x / 256 ^ k / 256=_
   rw [Int.pow_succ,Int.ediv_ediv_of_nonneg (Int.pow_nonneg (by decide))]
  have hm2:m=(List.range n).map fun i=>if i+(k+1)<n then 0#8 else BitVec.ofInt 8 (x / 256 ^ (n - 1 - i)):=by
   rw [hm,and255,ofInt8_mod]
   refine List.ext_getElem (by simp) fun i h1 h2=>?_
   simp only [List.getElem_set,List.getElem_map,List.getElem_range]
   by_cases c:n - 1 - k=i
   ·rw [if_pos c,if_neg (by omega),show n - 1 - i=k by omega]
   ·rw [if_neg c]
    by_cases c2:i+k<n
    ·rw [if_pos c2,if_pos (by omega)]
    ·rw [if_neg c2,if_neg (by omega)]
  rw [hi2,hs,hm2]
 ·unfold halberdref1_Be.b0
  refine if_n (by show ¬ (0:Int)≤(n:Int) - 1 - (n:Int); omega) (congrArg some (congrArg Sum.inr ?_))
  unfold bytesI
  refine List.ext_getElem (by simp) fun i h1 h2=>?_
  simp only [List.getElem_map,List.getElem_range]
  rw [if_neg (by omega)]
def be8 (s:Str) (a:Nat):Nat → BitVec 64
 | 0=>0#64
 | j+1=>(be8 s a j <<< 8) ||| (s.getD (a+j) 0#8).setWidth 64
theorem be8_sub (s:Str) (a b c:Nat) : ∀ n,c+n≤b - a → be8 (sub s a b) c n=be8 s (a+c) n
 | 0,_=>rfl
 | n+1,h=>by
  show (be8 (sub s a b) c n <<< 8) ||| _=(be8 s (a+c) n <<< 8) ||| _
  rw [be8_sub s a b c n (by omega),sub_getD _ _ _ _ (by omega),Nat.add_assoc]
def hexW (w:BitVec 64) (z:Nat):Str:=(List.range z).map fun i=>(w >>> (8 * (z - 1 - i))).setWidth 8
theorem hexW_length (w:BitVec 64) (z:Nat):(hexW w z).length=z:=by simp [hexW]
end Go.Proofs
end

section
namespace Go.Proofs
open Go Go.Kx
open Vector (replicate)
open TrydI Tryd
def gcm_sum_all.b0 (s_table:Vector (BitVec 64 × BitVec 64) 16) (s_folds:Vx 64 16) (b:List (BitVec 8)) (s0:Nat × BitVec 64 × BitVec 64):Option ((Nat × BitVec 64 × BitVec 64) ⊕ (Nat × BitVec 64 × BitVec 64)) :=
 if 16≤((((b).length) - s0.1:Nat):Int) then ((gcm_sum_add s_table s_folds s0.2.1 s0.2.2 (sub b s0.1 ((b).length))).bind fun (r_1:BitVec 64 × BitVec 64)=>(if s0.1≤(b).length then (if 16≤((b).length) - s0.1 then (some (.inl (s0.1+16,r_1.1,r_1.2))) else none) else none)) else (some (.inr (s0.1,s0.2.1,s0.2.2)))
def gcm_sum_all (s_table:Vector (BitVec 64 × BitVec 64) 16) (s_folds:Vx 64 16) (s_y_high:BitVec 64) (s_y_low:BitVec 64) (b:List (BitVec 8)):Option (BitVec 64 × BitVec 64) :=
 (loop (gcm_sum_all.b0 s_table s_folds b) BIG (0,s_y_high,s_y_low)).bind fun (t_1:Nat × BitVec 64 × BitVec 64)=>(if 0<((((b).length) - t_1.1:Nat):Int) then (ltt (vsp (replicate 16 0#8) 0 ((sub b t_1.1 ((b).length)).take (min (((b).length) - t_1.1) 16))) fun (m_1:Vx 8 16)=>((gcm_sum_add s_table s_folds t_1.2.1 t_1.2.2 m_1.toList).bind fun (r_2:BitVec 64 × BitVec 64)=>(some (r_2.1,r_2.2)))) else (some (t_1.2.1,t_1.2.2)))
set_option maxHeartbeats 4000000 in
set_option maxRecDepth 20000 in
theorem F48_calls (bs:Nat) (obs:Nat) (Ab:Adr) (cb:Nat) (s_table:Vector (BitVec 64 × BitVec 64) 16) (s_folds:Vx 64 16) (s_y_high:BitVec 64) (s_y_low:BitVec 64) (b:List (BitVec 8)) (hcb:(b).length≤cb) (r:BitVec 64 × BitVec 64) (H:gcm_sum_all s_table s_folds s_y_high s_y_low b=some r) :
  Does Tryd.prog 48 [ptr (some (bs,obs)) 0,sl Ab ((b).length) cb] [⟨some (bs,obs+48),[v64 s_y_high]⟩,⟨some (bs,obs+49),[v64 s_y_low]⟩] [⟨some (bs,obs),eF (fun p:BitVec 64 × BitVec 64=>[v64 p.1,v64 p.2]) s_table.toList⟩,⟨some (bs,obs+32),e64 s_folds.toList⟩,⟨Ab,e8 b⟩] (Γ:=Unit) (fun g=>Value.tuple [].toArray) (fun g=>[⟨some (bs,obs+48),[v64 r.1]⟩,⟨some (bs,obs+49),[v64 r.2]⟩]):=by
 intro w hmem hro hd
 refine calls_of (N:=22) (m0:=[(0,ptr (some (bs,obs)) 0),(1,sl Ab ((b).length) cb)]) func48 rfl ntmps48 (argM_ok [ptr (some (bs,obs)) 0,sl Ab ((b).length) cb]) rfl hmem hro hd ?_
 unfold gcm_sum_all at H
 refine TC_seq (TC_block (TC_re (d:=1) (v:=sl Ab ((b).length) cb) (v':=sl (cutB Ab cb 0 0 1) (((b).length) - 0) (cb - 0)) rfl (vw_seed 1) ?_))
 obtain ⟨t_1,Hl,H⟩:=bind_elim H
 refine TC.sub (m':=[(0,_),(1,_)]) ⟨rfl,rfl,trivial⟩ ?_
 refine TC.pull (is:=[0,0]) (L':=[_,_]) rfl ?_
 refine TC_loopL (id:=0) (body:=(gcm_sum_all.b0 s_table s_folds b)) (σ:=Nat × BitVec 64 × BitVec 64) (Γ:=Nat) (Γx:=Nat) (fun s0 g0_=>[(0,ptr (some (bs,obs)) 0),(1,sl (cutB Ab cb s0.1 g0_ 1) (((b).length) - s0.1) (cb - s0.1))]) (fun s0 g0_=>[⟨some (bs,obs+48),[v64 s0.2.1]⟩,⟨some (bs,obs+49),[v64 s0.2.2]⟩]) (fun t g=>[(0,ptr (some (bs,obs)) 0),(1,sl (cutB Ab cb t.1 g 1) (((b).length) - t.1) (cb - t.1))]) (fun t g=>[⟨some (bs,obs+48),[v64 t.2.1]⟩,⟨some (bs,obs+49),[v64 t.2.2]⟩]) ?_ BIG (0,s_y_high,s_y_low) 0 t_1 Hl ?_
 ·intro s0 g0_ r1 H K hK hE
  unfold gcm_sum_all.b0 at H
  refine TC_seq (TC_seq (TC_region (TVm ?_)))
  refine TLv (V_len_slice rfl underlying40) ?_
  refine TLv (V_bin rfl rfl (fun w=>geqI w ((((b).length) - s0.1:Nat):Int) 16)) ?_
  refine TL_nil (TX_next (TCd H (fun hc H=>?_) (fun hc H=>?_)))
  ·refine TC_skip (TX_next (TC_seq (TC_block (TC_region (TVm ?_)))))
   refine TVm ?_
   refine TL_re (d:=1) (v:=sl (cutB Ab cb s0.1 g0_ 1) (((b).length) - s0.1) (cb - s0.1)) (v':=sl (cutB Ab cb s0.1 g0_ 1) ((sub b s0.1 ((b).length)).length) (cb - s0.1)) rfl (congrArg (fun n=>sl (cutB Ab cb s0.1 g0_ 1) n (cb - s0.1)) (sub_length (Nat.le_refl _)).symm) ?_
   refine TL_re (d:=5) (v:=sl (cutB Ab cb s0.1 g0_ 1) (((b).length) - s0.1) (cb - s0.1)) (v':=sl (cutB Ab cb s0.1 g0_ 1) ((sub b s0.1 ((b).length)).length) (cb - s0.1)) rfl (congrArg (fun n=>sl (cutB Ab cb s0.1 g0_ 1) n (cb - s0.1)) (sub_length (Nat.le_refl _)).symm) ?_
   refine TL_re (d:=11) (v:=sl (cutB Ab cb s0.1 g0_ 1) (((b).length) - s0.1) (cb - s0.1)) (v':=sl (cutB Ab cb s0.1 g0_ 1) ((sub b s0.1 ((b).length)).length) (cb - s0.1)) rfl (congrArg (fun n=>sl (cutB Ab cb s0.1 g0_ 1) n (cb - s0.1)) (sub_length (Nat.le_refl _)).symm) ?_
   obtain ⟨r_1,hr_1,H⟩:=bind_elim H
   refine TLe (E_call (Γ:=Unit) (val:=fun g=>Value.tuple [].toArray) (mem:=fun g=>[⟨some (bs,obs+48),[v64 r_1.1]⟩,⟨some (bs,obs+49),[v64 r_1.2]⟩]) (vs:=[ptr (some (bs,obs)) 0,sl (cutB Ab cb s0.1 g0_ 1) ((sub b s0.1 ((b).length)).length) (cb - s0.1)]) (Lin:=[⟨some (bs,obs+48),[v64 s0.2.1]⟩,⟨some (bs,obs+49),[v64 s0.2.2]⟩]) (Ro:=[⟨some (bs,obs),eF (fun p:BitVec 64 × BitVec 64=>[v64 p.1,v64 p.2]) s_table.toList⟩,⟨some (bs,obs+32),e64 s_folds.toList⟩,⟨cutB Ab cb s0.1 g0_ 1,e8 (sub b s0.1 ((b).length))⟩]) (is:=[0,0]) rfl call50 (F50_calls bs obs (cutB Ab cb s0.1 g0_ 1) (cb - s0.1) s_table s_folds s0.2.1 s0.2.2 (sub b s0.1 ((b).length)) (vw_cap (Nat.le_refl _) (Nat.le_trans (Nat.le_refl _) hcb)) r_1 hr_1) rfl ⟨.r 0, .r 1,(srcdVw (lst:=b) (SrcD.ro (j:=2) rfl) (Nat.le_trans (Nat.le_refl _) hcb)),trivial⟩) (fun g_1=>?_)
   refine TL_re (d:=1) (v:=sl (cutB Ab cb s0.1 g0_ 1) ((sub b s0.1 ((b).length)).length) (cb - s0.1)) (v':=sl (cutB Ab cb s0.1 g0_ 1) (((b).length) - s0.1) (cb - s0.1)) rfl (congrArg (fun n=>sl (cutB Ab cb s0.1 g0_ 1) n (cb - s0.1)) (sub_length (Nat.le_refl _))) ?_
   refine TL_re (d:=5) (v:=sl (cutB Ab cb s0.1 g0_ 1) ((sub b s0.1 ((b).length)).length) (cb - s0.1)) (v':=sl (cutB Ab cb s0.1 g0_ 1) (((b).length) - s0.1) (cb - s0.1)) rfl (congrArg (fun n=>sl (cutB Ab cb s0.1 g0_ 1) n (cb - s0.1)) (sub_length (Nat.le_refl _))) ?_
   refine TL_re (d:=11) (v:=sl (cutB Ab cb s0.1 g0_ 1) ((sub b s0.1 ((b).length)).length) (cb - s0.1)) (v':=sl (cutB Ab cb s0.1 g0_ 1) (((b).length) - s0.1) (cb - s0.1)) rfl (congrArg (fun n=>sl (cutB Ab cb s0.1 g0_ 1) n (cb - s0.1)) (sub_length (Nat.le_refl _))) ?_
   refine TL_nil (TX_block_normal (TX_next (TC_region (TVm ?_))))
   obtain ⟨h1,H⟩:=if_elim H
   obtain ⟨h2,H⟩:=if_elim H
   refine TLv (V_sliceVw (l:=16) (h:=((b).length) - s0.1) rfl underlying40 inf5 rfl (Bnd.some' (i:=16) rfl (by decide)) Bnd.none' h2 (Nat.le_refl _) (Nat.le_trans (Nat.le_refl _) hcb) (Nat.add_sub_cancel' h1)) ?_
   refine TVa ?_
   refine TL_nil ?_
   obtain rfl:=sj H
   exact TXk [0,0] (hK (s0.1+16,r_1.1,r_1.2) rfl (if cb=s0.1 then g0_ else s0.1))
  ·refine TC_exit (TX_then_exit (TX_then_exit ?_))
   obtain rfl:=sj H
   exact TXj [0,0] (hE (s0.1,s0.2.1,s0.2.2) rfl g0_)
 ·intro g
  obtain ⟨gx1,hgx⟩ : ∃ z,z=g:=⟨g,rfl⟩; subst hgx
  refine TX_block_exit (TX_next (TC_seq (TC_region (TVm ?_))))
  refine TLv (V_len_slice rfl underlying40) ?_
  refine TLv (V_bin rfl rfl (fun w=>gtrI w ((((b).length) - t_1.1:Nat):Int) 0)) ?_
  refine TL_nil (TX_next (TCd H (fun hc H=>?_) (fun hc H=>?_)))
  ·refine TC_seq (TC_region (TLe (E_allocP [(16,e8 ((replicate 16 0#8).toList))] inf84 zer84 ⟨(lenV (f:=v8) (replicate 16 0#8)),trivial⟩) (fun b1=>?_)))
   refine TL_nil (TX_next (TC_seq (TC_region (TLv (V_sliceArr0 rfl (by simp) underlying84 inf5 rfl) ?_))))
   refine TVm ?_
   refine TLe (E_copyB (o:=0) (j:=0) (ds:=(sub b t_1.1 ((b).length))) (copyA rfl) rfl (by simp) underlying40 inf5 rfl (srcVw (lst:=b) (.r 2) (Nat.le_trans (Nat.le_refl _) hcb)) (sub_length (Nat.le_refl _)) rfl rfl (copy_vec (l:=0) (d:=16) (by omega)) (cs':=e8 ((vsp (replicate 16 0#8) 0 ((sub b t_1.1 ((b).length)).take (min (((b).length) - t_1.1) 16))).toList)) (splice_vec (take_room (n:=16) (l:=0) (d:=16) (by omega)))) (fun _=>?_)
   obtain ⟨m_1,hm_1,H⟩:=ltt_elim H
   refine TL_reE (j:=0) (A:=some (b1,0)) (cs:=e8 ((vsp (replicate 16 0#8) 0 ((sub b t_1.1 ((b).length)).take (min (((b).length) - t_1.1) 16))).toList)) (cs':=e8 m_1.toList) rfl (congrArg (fun z:Vx 8 16=>e8 (Vector.toList z)) hm_1) ?_
   refine TL_nil (TX_next (TC_region (TVm ?_)))
   refine TLv (V_sliceArr0 rfl (by simp) underlying84 inf5 rfl) ?_
   refine TL_re (d:=20) (v:=sl (some (b1,0)) 16 16) (v':=sl (some (b1,0)) ((m_1.toList).length) ((m_1.toList).length)) rfl (congrArg (fun n=>sl (some (b1,0)) n n) vec_tl.symm) ?_
   obtain ⟨r_2,hr_2,H⟩:=bind_elim H
   refine TLe (E_call (Γ:=Unit) (val:=fun g=>Value.tuple [].toArray) (mem:=fun g=>[⟨some (bs,obs+48),[v64 r_2.1]⟩,⟨some (bs,obs+49),[v64 r_2.2]⟩]) (vs:=[ptr (some (bs,obs)) 0,sl (some (b1,0)) ((m_1.toList).length) ((m_1.toList).length)]) (Lin:=[⟨some (bs,obs+48),[v64 t_1.2.1]⟩,⟨some (bs,obs+49),[v64 t_1.2.2]⟩]) (Ro:=[⟨some (bs,obs),eF (fun p:BitVec 64 × BitVec 64=>[v64 p.1,v64 p.2]) s_table.toList⟩,⟨some (bs,obs+32),e64 s_folds.toList⟩,⟨some (b1,0),e8 m_1.toList⟩]) (is:=[1,1]) rfl call50 (F50_calls bs obs (some (b1,0)) ((m_1.toList).length) s_table s_folds t_1.2.1 t_1.2.2 m_1.toList (Nat.le_refl _) r_2 hr_2) rfl ⟨.r 0, .r 1, .o 0,trivial⟩) (fun g_2=>?_)
   refine TL_nil ?_
   obtain rfl:=sj H
   exact TX_end (rs:=[]) (vs:=[]) rfl trivial (fun w' hs'=>⟨(),rfl,Step.left (Step.pulled (is:=[0,0]) (A:=[⟨some (bs,obs+48),[v64 r_2.1]⟩,⟨some (bs,obs+49),[v64 r_2.2]⟩]) hs' rfl)⟩)
  ·refine TC_skip ?_
   obtain rfl:=sj H
   exact TX_end (rs:=[]) (vs:=[]) rfl trivial (fun w' hs'=>⟨(),rfl,Step.left (Step.pulled (is:=[0,0]) (A:=[⟨some (bs,obs+48),[v64 t_1.2.1]⟩,⟨some (bs,obs+49),[v64 t_1.2.2]⟩]) hs' rfl)⟩)
end Go.Proofs
end

section
namespace Go.Proofs
open Go Go.Kx
open Vector (replicate)
open TrydI Tryd
def gcm_element_bytes.b0 (e_high:BitVec 64) (e_low:BitVec 64) (s0:Int × Vx 8 16):Option ((Int × Vx 8 16) ⊕ (Vx 8 16)) :=
 if s0.1<8 then (if 0≤w64 (56 - (w64 (8 * s0.1))) then (if 0≤w64 (56 - (w64 (8 * s0.1))) then (if 0≤s0.1∧s0.1<(16:Int) then (ltt (vp s0.2 ((s0.1).toNat) ((e_high >>> (w64 (56 - (w64 (8 * s0.1)))).toNat).setWidth 8)) fun (m_1:Vx 8 16)=>(if 0≤w64 (8+s0.1)∧w64 (8+s0.1)<(16:Int) then (ltt (vp m_1 ((w64 (8+s0.1)).toNat) ((e_low >>> (w64 (56 - (w64 (8 * s0.1)))).toNat).setWidth 8)) fun (m_2:Vx 8 16)=>(some (.inl (w64 (s0.1+1),m_2)))) else none)) else none) else none) else none) else (some (.inr s0.2))
def gcm_element_bytes (e_high:BitVec 64) (e_low:BitVec 64):Option (Vx 8 16) :=
 (loop (gcm_element_bytes.b0 e_high e_low) BIG (0,replicate 16 0#8)).bind fun (t_1:Vx 8 16)=>(some t_1)
set_option maxHeartbeats 4000000 in
set_option maxRecDepth 20000 in
theorem F49_calls (e_high:BitVec 64) (e_low:BitVec 64) (r:Vx 8 16) (H:gcm_element_bytes e_high e_low=some r) :
  Does Tryd.prog 49 [aG [(1,[v64 e_high]),(1,[v64 e_low])]] [] [] (Γ:=Unit) (fun g=>aG [(16,e8 r.toList)]) (fun g=>[]):=by
 intro w hmem hro hd
 refine calls_of (N:=29) (m0:=[(0,aG [(1,[v64 e_high]),(1,[v64 e_low])])]) func49 rfl ntmps49 (argM_ok [aG [(1,[v64 e_high]),(1,[v64 e_low])]]) rfl hmem hro hd ?_
 unfold gcm_element_bytes at H
 refine TC_seq (TC_region (TLe (E_boxP [(1,[v64 e_high]),(1,[v64 e_low])] rfl rfl ⟨rfl,rfl,trivial⟩) (fun b1=>?_)))
 refine TLe (E_allocP [(16,e8 ((replicate 16 0#8).toList))] inf84 zer84 ⟨(lenV (f:=v8) (replicate 16 0#8)),trivial⟩) (fun b2=>?_)
 refine TL_nil (TX_next (TC_seq (TC_region (TLe (E_allocP [(16,e8 ((replicate 16 0#8).toList))] inf84 zer84 ⟨(lenV (f:=v8) (replicate 16 0#8)),trivial⟩) (fun b3=>?_)))))
 refine TL_nil (TX_next (TC_seq (TC_seq (TC_region (TVm ?_)))))
 refine TL_nil (TX_next (TC_block ?_))
 obtain ⟨t_1,Hl,H⟩:=bind_elim H
 refine TC.sub (m':=[(1,_),(2,_),(3,_),(5,_)]) ⟨rfl,rfl,rfl,rfl,trivial⟩ ?_
 refine TC.pull (is:=[2,2,1,0]) (L':=[_,_,_,_]) rfl ?_
 refine TC_loopL (id:=0) (body:=(gcm_element_bytes.b0 e_high e_low)) (σ:=Int × Vx 8 16) (Γ:=Unit) (Γx:=Unit) (fun s0 g0_=>[(1,ptr (some (b1,0)) 0),(2,ptr (some (b2,0)) 0),(3,ptr (some (b3,0)) 0),(5,vi s0.1)]) (fun s0 g0_=>[⟨some (b1,0),[v64 e_high]⟩,⟨some (b1,1),[v64 e_low]⟩,⟨some (b2,0),e8 ((replicate 16 0#8).toList)⟩,⟨some (b3,0),e8 s0.2.toList⟩]) (fun t g=>[(2,ptr (some (b2,0)) 0),(3,ptr (some (b3,0)) 0)]) (fun t g=>[⟨some (b2,0),e8 ((replicate 16 0#8).toList)⟩,⟨some (b3,0),e8 t.toList⟩]) ?_ BIG (0,replicate 16 0#8) () t_1 Hl ?_
 ·intro s0 g0_ r1 H K hK hE
  unfold gcm_element_bytes.b0 at H
  refine TC_seq (TC_region (TLv (V_bin rfl rfl (fun w=>lssI w s0.1 8)) ?_))
  refine TL_nil (TX_next (TC_seq (TCd H (fun hc H=>?_) (fun hc H=>?_))))
  ·refine TC_skip (TX_next (TC_seq (TC_block (TC_seq (TC_region (TVm ?_))))))
   refine TVa ?_
   refine TL_nil (TX_next ?_)
   obtain ⟨h1,H⟩:=if_elim H
   obtain ⟨h2,H⟩:=if_elim H
   obtain ⟨h3,H⟩:=if_elim H
   obtain ⟨m_1,hm_1,H⟩:=ltt_elim H
   obtain ⟨h4,H⟩:=if_elim H
   obtain ⟨m_2,hm_2,H⟩:=ltt_elim H
   refine TA_begin [⟨some (b1,0),[v64 e_high]⟩,⟨some (b1,1),[v64 e_low]⟩,⟨some (b2,0),e8 ((replicate 16 0#8).toList)⟩] 19 (by kernel_rfl) (N:=21) rfl ?_
   refine TA_tk 0 [0,0,0] (dn 21 1) rfl rfl (V_move rfl) ?_
   refine TA_tk 1 [0,0,0] (dn 21 3) rfl rfl (V_move rfl) ?_
   refine TA_tk 2 [0,0,0] (dn 21 7) rfl rfl (V_bin rfl rfl (fun w=>addI w 8 s0.1)) ?_
   refine TA_tk 3 [0,0,0] (dn 21 15) rfl rfl (V_fieldE rfl underlying88 rfl rfl inf86 rfl (v:=ptr (some (b1,0)) 0) rfl) ?_
   refine TA_tk 4 [0,0,0] (dn 21 31) rfl rfl (V_load rfl (.o 0) rfl isAgg86) ?_
   refine TA_tk 5 [0,0,0] (dn 21 63) rfl rfl (V_move rfl) ?_
   refine TA_tk 6 [0,0,0] (dn 21 127) rfl rfl (V_bin rfl rfl (fun w=>mulI w 8 s0.1)) ?_
   refine TA_tk 7 [0,0,0] (dn 21 255) rfl rfl (V_bin rfl rfl (fun w=>subI w 56 (w64 (8 * s0.1)))) ?_
   refine TA_tk 8 [0,0,0] (dn 21 511) rfl rfl (V_bin rfl rfl (fun w=>shr64 w e_high .i64 (w64 (56 - (w64 (8 * s0.1)))) h1)) ?_
   refine TA_tk 9 [0,0,0] (dn 21 1023) rfl rfl (V_conv rfl (fun w=>cv64to8 w _ _ underlying5 (und86) (e_high >>> (w64 (56 - (w64 (8 * s0.1)))).toNat))) ?_
   refine TA_tk 10 [0,0,0] (dn 21 2047) rfl rfl (V_fieldE rfl underlying88 rfl rfl inf86 rfl (v:=ptr (some (b1,1)) 0) rfl) ?_
   refine TA_tk 11 [0,0,0] (dn 21 4095) rfl rfl (V_load rfl (.o 1) rfl isAgg86) ?_
   refine TA_tk 12 [0,0,0] (dn 21 8191) rfl rfl (V_move rfl) ?_
   refine TA_tk 13 [0,0,0] (dn 21 16383) rfl rfl (V_bin rfl rfl (fun w=>mulI w 8 s0.1)) ?_
   refine TA_tk 14 [0,0,0] (dn 21 32767) rfl rfl (V_bin rfl rfl (fun w=>subI w 56 (w64 (8 * s0.1)))) ?_
   refine TA_tk 15 [0,0,0] (dn 21 65535) rfl rfl (V_bin rfl rfl (fun w=>shr64 w e_low .i64 (w64 (56 - (w64 (8 * s0.1)))) h2)) ?_
   refine TA_tk 16 [0,0,0] (dn 21 131071) rfl rfl (V_conv rfl (fun w=>cv64to8 w _ _ underlying5 (und86) (e_low >>> (w64 (56 - (w64 (8 * s0.1)))).toNat))) ?_
   refine TA_tk 17 [0,0,0] (dn 21 262143) rfl rfl (V_idxArr (i:=s0.1) rfl rfl underlying84 inf5 rfl h3.1 h3.2 (k:=(s0.1).toNat) (k01 _)) ?_
   refine TA_all (rs:=[18]) (by kernel_rfl) rfl ?_
   refine ⟨?_,trivial⟩
   refine TO_n (is:=[0,0,0]) (done':=dn 21 524287) rfl rfl rfl (by kernel_rfl) (E_store (j:=3) rfl rfl inf5 rfl rfl rfl (by simpa using (toNat_lt h3.1 h3.2)) (cs':=e8 ((vp s0.2 ((s0.1).toNat) ((e_high >>> (w64 (56 - (w64 (8 * s0.1)))).toNat).setWidth 8)).toList)) set_vec) (fun _ _=>rfl) (fun _=>?_)
   refine TA_reE (j:=3) (A:=some (b3,0)) (cs:=e8 ((vp s0.2 ((s0.1).toNat) ((e_high >>> (w64 (56 - (w64 (8 * s0.1)))).toNat).setWidth 8)).toList)) (cs':=e8 m_1.toList) rfl (congrArg (fun z:Vx 8 16=>e8 (Vector.toList z)) hm_1) ?_
   refine TA_all (rs:=[19]) (by kernel_rfl) rfl ?_
   refine ⟨?_,trivial⟩
   refine TO_v (is:=[]) (R:=[]) (done':=dn 21 1048575) rfl rfl rfl rfl (by kernel_rfl) (V_idxArr (i:=w64 (8+s0.1)) rfl rfl underlying84 inf5 rfl h4.1 h4.2 (k:=(w64 (8+s0.1)).toNat) (k01 _)) (fun h=>by cases h) ?_
   refine TA_all (rs:=[20]) (by kernel_rfl) rfl ?_
   refine ⟨?_,trivial⟩
   refine TO_n (is:=[]) (R:=fun _=>[]) (done':=dn 21 2097151) rfl rfl rfl (by kernel_rfl) (E_store (j:=3) rfl rfl inf5 rfl rfl rfl (by simpa using (toNat_lt h4.1 h4.2)) (cs':=e8 ((vp m_1 ((w64 (8+s0.1)).toNat) ((e_low >>> (w64 (56 - (w64 (8 * s0.1)))).toNat).setWidth 8)).toList)) set_vec) (fun h=>by cases h) (fun _=>?_)
   refine TA_reE (j:=3) (A:=some (b3,0)) (cs:=e8 ((vp m_1 ((w64 (8+s0.1)).toNat) ((e_low >>> (w64 (56 - (w64 (8 * s0.1)))).toNat).setWidth 8)).toList)) (cs':=e8 m_2.toList) rfl (congrArg (fun z:Vx 8 16=>e8 (Vector.toList z)) hm_2) ?_
   refine TA_done (by kernel_rfl) ?_ 0
   refine TX_block_normal (TX_next (TC_region (TLv (V_bin rfl rfl (fun w=>addI w s0.1 1)) ?_)))
   refine TVm ?_
   refine TL_nil ?_
   obtain rfl:=sj H
   exact TXk [0,0,0,0] (hK (w64 (s0.1+1),m_2) rfl ())
  ·refine TC_exit (TX_then_exit (TX_then_exit ?_))
   obtain rfl:=sj H
   exact TXj [2,2] (hE s0.2 rfl ())
 ·intro g
  refine TX_block_exit (TX_next (TC_seq (TC_region (TLv (V_lag (.o 1) isAgg84 inf84) ?_))))
  refine TLn (E_sv (vs:=e8 t_1.toList) 0 inf84) (fun _=>?_)
  refine TL_nil (TX_next (TC_ret ?_))
  obtain rfl:=sj H
  exact TXr (vs:=[_]) rfl ⟨(Res_agg (n:=16) rfl (by simp) (.o 0) isAgg84 inf84 rfl (lenV (f:=v8) t_1)),trivial⟩
end Go.Proofs
end

section
namespace Go.Proofs
open Go Go.Kx
open Vector (replicate)
open TrydI Tryd
def gcm_counter.b0 (n:BitVec 32) (s0:Int × Vx 8 16):Option ((Int × Vx 8 16) ⊕ (Vx 8 16)) :=
 if s0.1<4 then (if 0≤w64 (8 * s0.1) then (if 0≤w64 (15 - s0.1)∧w64 (15 - s0.1)<(16:Int) then (ltt (vp s0.2 ((w64 (15 - s0.1)).toNat) ((n >>> (w64 (8 * s0.1)).toNat).setWidth 8)) fun (m_2:Vx 8 16)=>(some (.inl (w64 (s0.1+1),m_2)))) else none) else none) else (some (.inr s0.2))
def gcm_counter (nonce:Str) (n:BitVec 32):Option (Vx 8 16) :=
 ltt (vsp (replicate 16 0#8) 0 (nonce.take (min ((nonce).length) 16))) fun (m_1:Vx 8 16)=>((loop (gcm_counter.b0 n) BIG (0,m_1)).bind fun (t_1:Vx 8 16)=>(some t_1))
set_option maxHeartbeats 4000000 in
set_option maxRecDepth 20000 in
theorem F46_calls (nonce:Str) (n:BitVec 32) (r:Vx 8 16) (H:gcm_counter nonce n=some r) :
  Does Tryd.prog 46 [vs nonce,v32 n] [] [] (Γ:=Unit) (fun g=>aG [(16,e8 r.toList)]) (fun g=>[]):=by
 intro w hmem hro hd
 refine calls_of (N:=23) (m0:=[(0,vs nonce),(1,v32 n)]) func46 rfl ntmps46 (argM_ok [vs nonce,v32 n]) rfl hmem hro hd ?_
 unfold gcm_counter at H
 refine TC_seq (TC_region (TLe (E_allocP [(16,e8 ((replicate 16 0#8).toList))] inf84 zer84 ⟨(lenV (f:=v8) (replicate 16 0#8)),trivial⟩) (fun b1=>?_)))
 refine TL_nil (TX_next (TC_seq (TC_region (TLe (E_allocP [(16,e8 ((replicate 16 0#8).toList))] inf84 zer84 ⟨(lenV (f:=v8) (replicate 16 0#8)),trivial⟩) (fun b2=>?_)))))
 refine TL_nil (TX_next (TC_seq (TC_region (TLv (V_sliceArr0 rfl (by simp) underlying84 inf5 rfl) ?_))))
 refine TVm ?_
 refine TLe (E_copyStr (o:=0) (j:=0) (copyA rfl) rfl (by simp) underlying40 inf5 rfl rfl (copy_vec (l:=0) (d:=16) (by omega)) (cs':=e8 ((vsp (replicate 16 0#8) 0 (nonce.take (min ((nonce).length) 16))).toList)) (splice_vec (take_room (n:=16) (l:=0) (d:=16) (by omega)))) (fun _=>?_)
 obtain ⟨m_1,hm_1,H⟩:=ltt_elim H
 refine TL_reE (j:=0) (A:=some (b2,0)) (cs:=e8 ((vsp (replicate 16 0#8) 0 (nonce.take (min ((nonce).length) 16))).toList)) (cs':=e8 m_1.toList) rfl (congrArg (fun z:Vx 8 16=>e8 (Vector.toList z)) hm_1) ?_
 refine TL_nil (TX_next (TC_seq (TC_seq (TC_region (TVm ?_)))))
 refine TL_nil (TX_next (TC_block ?_))
 obtain ⟨t_1,Hl,H⟩:=bind_elim H
 refine TC.sub (m':=[(1,_),(4,_),(5,_),(10,_)]) ⟨rfl,rfl,rfl,rfl,trivial⟩ ?_
 refine TC.pull (is:=[1,0]) (L':=[_,_]) rfl ?_
 refine TC_loopL (id:=0) (body:=(gcm_counter.b0 n)) (σ:=Int × Vx 8 16) (Γ:=Unit) (Γx:=Unit) (fun s0 g0_=>[(1,v32 n),(4,ptr (some (b1,0)) 0),(5,ptr (some (b2,0)) 0),(10,vi s0.1)]) (fun s0 g0_=>[⟨some (b1,0),e8 ((replicate 16 0#8).toList)⟩,⟨some (b2,0),e8 s0.2.toList⟩]) (fun t g=>[(4,ptr (some (b1,0)) 0),(5,ptr (some (b2,0)) 0)]) (fun t g=>[⟨some (b1,0),e8 ((replicate 16 0#8).toList)⟩,⟨some (b2,0),e8 t.toList⟩]) ?_ BIG (0,m_1) () t_1 Hl ?_
 ·intro s0 g0_ r1 H K hK hE
  unfold gcm_counter.b0 at H
  refine TC_seq (TC_region (TLv (V_bin rfl rfl (fun w=>lssI w s0.1 4)) ?_))
  refine TL_nil (TX_next (TC_seq (TCd H (fun hc H=>?_) (fun hc H=>?_))))
  ·refine TC_skip (TX_next (TC_seq (TC_block (TC_seq (TC_region (TVm ?_))))))
   refine TVa ?_
   refine TL_nil (TX_next (TC_region (TVm ?_)))
   refine TLv (V_bin rfl rfl (fun w=>subI w 15 s0.1)) ?_
   refine TVm ?_
   refine TVm ?_
   refine TLv (V_bin rfl rfl (fun w=>mulI w 8 s0.1)) ?_
   obtain ⟨h1,H⟩:=if_elim H
   refine TLv (V_bin rfl rfl (fun w=>shr32 w n .i64 (w64 (8 * s0.1)) h1)) ?_
   refine TLv (V_conv rfl (fun w=>cv32to8 w _ _ underlying5 (und92) (n >>> (w64 (8 * s0.1)).toNat))) ?_
   obtain ⟨h2,H⟩:=if_elim H
   refine TLv (V_idxArr (i:=w64 (15 - s0.1)) rfl rfl underlying84 inf5 rfl h2.1 h2.2 (k:=(w64 (15 - s0.1)).toNat) (k01 _)) ?_
   refine TLn (E_store (j:=1) rfl rfl inf5 rfl rfl rfl (by simpa using (toNat_lt h2.1 h2.2)) (cs':=e8 ((vp s0.2 ((w64 (15 - s0.1)).toNat) ((n >>> (w64 (8 * s0.1)).toNat).setWidth 8)).toList)) set_vec) (fun _=>?_)
   obtain ⟨m_2,hm_2,H⟩:=ltt_elim H
   refine TL_reE (j:=1) (A:=some (b2,0)) (cs:=e8 ((vp s0.2 ((w64 (15 - s0.1)).toNat) ((n >>> (w64 (8 * s0.1)).toNat).setWidth 8)).toList)) (cs':=e8 m_2.toList) rfl (congrArg (fun z:Vx 8 16=>e8 (Vector.toList z)) hm_2) ?_
   refine TL_nil (TX_block_normal (TX_next (TC_region (TLv (V_bin rfl rfl (fun w=>addI w s0.1 1)) ?_))))
   refine TVm ?_
   refine TL_nil ?_
   obtain rfl:=sj H
   exact TXk [0,0] (hK (w64 (s0.1+1),m_2) rfl ())
  ·refine TC_exit (TX_then_exit (TX_then_exit ?_))
   obtain rfl:=sj H
   exact TXj [0,0] (hE s0.2 rfl ())
 ·intro g
  refine TX_block_exit (TX_next (TC_seq (TC_region (TLv (V_lag (.o 1) isAgg84 inf84) ?_))))
  refine TLn (E_sv (vs:=e8 t_1.toList) 0 inf84) (fun _=>?_)
  refine TL_nil (TX_next (TC_ret ?_))
  obtain rfl:=sj H
  exact TXr (vs:=[_]) rfl ⟨(Res_agg (n:=16) rfl (by simp) (.o 0) isAgg84 inf84 rfl (lenV (f:=v8) t_1)),trivial⟩
end Go.Proofs
end

section
namespace Go.Proofs
open Go Go.Kx
open TrydI Tryd
def aes_twice (x:BitVec 8):Option (BitVec 8) :=
 ltt ((x <<< 1) ^^^ (27#8 &&& (-(x >>> 7)))) fun (x1:BitVec 8)=>(some x1)
set_option maxHeartbeats 4000000 in
set_option maxRecDepth 20000 in
theorem F60_calls (x:BitVec 8) (r:BitVec 8) (H:aes_twice x=some r) :
  Does Tryd.prog 60 [v8 x] [] [] (Γ:=Unit) (fun g=>v8 r) (fun g=>[]):=by
 intro w hmem hro hd
 refine calls_of (N:=10) (m0:=[(0,v8 x)]) func60 rfl ntmps60 (argM_ok [v8 x]) rfl hmem hro hd ?_
 unfold aes_twice at H
 refine TC_seq (TC_region (TVa ?_))
 refine TL_nil (TX_next (TC_seq (TC_region (TVm ?_))))
 refine TLv (V_bin rfl rfl (fun w=>shl8 w x .u64 1 (by decide))) ?_
 refine TVm ?_
 refine TLv (V_bin rfl rfl (fun w=>shr8 w x .u64 7 (by decide))) ?_
 refine TLv (V_un rfl (fun w=>neg8 w (x >>> 7))) ?_
 refine TLv (V_bin rfl rfl (fun w=>and8 w 27#8 (-(x >>> 7)))) ?_
 refine TLv (V_bin rfl rfl (fun w=>xor8 w (x <<< 1) (27#8 &&& (-(x >>> 7))))) ?_
 refine TVa ?_
 obtain ⟨x1,hx1,H⟩:=ltt_elim H
 refine TLr 2 (congrArg v8 hx1) ?_
 refine TL_nil (TX_next (TC_ret ?_))
 obtain rfl:=sj H
 exact TX1
end Go.Proofs
end
