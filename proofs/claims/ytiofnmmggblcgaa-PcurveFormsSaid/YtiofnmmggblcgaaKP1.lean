/-
  Part KP1 of the proofs of this seat: F74, F42, F35, F36, F33, F41, F34, F32, F21, F13.
-/
import Derived.Test.YtiofnmmggblcgaaK2
import Derived.Test.YtiofnmmggblcgaaKN1
set_option linter.unusedVariables false
set_option linter.unusedSimpArgs false
section
namespace Go.Proofs
open Go Go.Kx
open Vector (replicate)
def pcurve_curve_double (c_Field_M : Vx 64 4) (c_Field_inv : BitVec 64) (c_Field_one : Vx 64 4) (c_Field_two : Vx 64 4) (c_b : Vx 64 4) (p_x : Vx 64 4) (p_y : Vx 64 4) (p_z : Vx 64 4) : Option (Vx 64 4 × Vx 64 4 × Vx 64 4) :=
 (num_Field_Mul c_Field_M c_Field_inv c_Field_one c_Field_two p_z p_z).bind fun (r_1 : Vx 64 4) => ((num_Field_Mul c_Field_M c_Field_inv c_Field_one c_Field_two p_y p_y).bind fun (r_2 : Vx 64 4) => ((num_Field_Mul c_Field_M c_Field_inv c_Field_one c_Field_two p_x r_2).bind fun (r_3 : Vx 64 4) => ((num_Field_Sub c_Field_M c_Field_inv c_Field_one c_Field_two p_x r_1).bind fun (r_4 : Vx 64 4) => ((num_Field_Add c_Field_M c_Field_inv c_Field_one c_Field_two p_x r_1).bind fun (r_5 : Vx 64 4) => ((num_Field_Mul c_Field_M c_Field_inv c_Field_one c_Field_two r_4 r_5).bind fun (r_6 : Vx 64 4) => ((num_Field_Add c_Field_M c_Field_inv c_Field_one c_Field_two r_6 r_6).bind fun (r_7 : Vx 64 4) => ((num_Field_Add c_Field_M c_Field_inv c_Field_one c_Field_two r_6 r_7).bind fun (r_8 : Vx 64 4) => ((num_Field_Add c_Field_M c_Field_inv c_Field_one c_Field_two r_3 r_3).bind fun (r_9 : Vx 64 4) => ((num_Field_Add c_Field_M c_Field_inv c_Field_one c_Field_two r_9 r_9).bind fun (r_10 : Vx 64 4) => ((num_Field_Mul c_Field_M c_Field_inv c_Field_one c_Field_two r_8 r_8).bind fun (r_11 : Vx 64 4) => ((num_Field_Add c_Field_M c_Field_inv c_Field_one c_Field_two r_10 r_10).bind fun (r_12 : Vx 64 4) => ((num_Field_Sub c_Field_M c_Field_inv c_Field_one c_Field_two r_11 r_12).bind fun (r_13 : Vx 64 4) => ((num_Field_Add c_Field_M c_Field_inv c_Field_one c_Field_two p_y p_z).bind fun (r_14 : Vx 64 4) => ((num_Field_Mul c_Field_M c_Field_inv c_Field_one c_Field_two r_14 r_14).bind fun (r_15 : Vx 64 4) => ((num_Field_Sub c_Field_M c_Field_inv c_Field_one c_Field_two r_15 r_2).bind fun (r_16 : Vx 64 4) => ((num_Field_Sub c_Field_M c_Field_inv c_Field_one c_Field_two r_16 r_1).bind fun (r_17 : Vx 64 4) => ((num_Field_Mul c_Field_M c_Field_inv c_Field_one c_Field_two r_2 r_2).bind fun (r_18 : Vx 64 4) => ((num_Field_Add c_Field_M c_Field_inv c_Field_one c_Field_two r_18 r_18).bind fun (r_19 : Vx 64 4) => ((num_Field_Add c_Field_M c_Field_inv c_Field_one c_Field_two r_19 r_19).bind fun (r_20 : Vx 64 4) => ((num_Field_Sub c_Field_M c_Field_inv c_Field_one c_Field_two r_10 r_13).bind fun (r_21 : Vx 64 4) => ((num_Field_Mul c_Field_M c_Field_inv c_Field_one c_Field_two r_8 r_21).bind fun (r_22 : Vx 64 4) => ((num_Field_Add c_Field_M c_Field_inv c_Field_one c_Field_two r_20 r_20).bind fun (r_23 : Vx 64 4) => ((num_Field_Sub c_Field_M c_Field_inv c_Field_one c_Field_two r_22 r_23).bind fun (r_24 : Vx 64 4) => (some (r_13, r_24, r_17)))))))))))))))))))))))))
set_option maxHeartbeats 4000000 in
set_option maxRecDepth 20000 in
theorem F74_calls (bc : Nat) (obc : Nat) (bc_Field : Nat) (obc_Field : Nat) (c_Field_M : Vx 64 4) (c_Field_inv : BitVec 64) (c_Field_one : Vx 64 4) (c_Field_two : Vx 64 4) (c_b : Vx 64 4) (p_x : Vx 64 4) (p_y : Vx 64 4) (p_z : Vx 64 4) (r : Vx 64 4 × Vx 64 4 × Vx 64 4) (H : pcurve_curve_double c_Field_M c_Field_inv c_Field_one c_Field_two c_b p_x p_y p_z = some r) :
  Does Try.prog 74 [ptr (some (bc, obc)) 0, aG [(4, e64 p_x.toList), (4, e64 p_y.toList), (4, e64 p_z.toList)]] [] [⟨some (bc, obc), [ptr (some (bc_Field, obc_Field)) 0]⟩, ⟨some (bc, obc + 1), e64 c_b.toList⟩, ⟨some (bc_Field, obc_Field), e64 c_Field_M.toList⟩, ⟨some (bc_Field, obc_Field + 4), [v64 c_Field_inv]⟩, ⟨some (bc_Field, obc_Field + 5), e64 c_Field_one.toList⟩, ⟨some (bc_Field, obc_Field + 9), e64 c_Field_two.toList⟩] (Γ := Unit) (fun g => aG [(4, e64 r.1.toList), (4, e64 r.2.1.toList), (4, e64 r.2.2.toList)]) (fun g => []) := by
 intro w hmem hro hd
 refine calls_of (N := 184) (m0 := [(0, ptr (some (bc, obc)) 0), (1, aG [(4, e64 p_x.toList), (4, e64 p_y.toList), (4, e64 p_z.toList)])]) Try.func74 rfl Try.ntmps74 (argM_ok [ptr (some (bc, obc)) 0, aG [(4, e64 p_x.toList), (4, e64 p_y.toList), (4, e64 p_z.toList)]]) rfl hmem hro hd ?_
 unfold pcurve_curve_double at H
 refine TC_seq ?_
 refine TC_region ?_
 refine TLe (E_boxP [(4, e64 p_x.toList), (4, e64 p_y.toList), (4, e64 p_z.toList)] rfl rfl ⟨(lenV (f := v64) p_x), (lenV (f := v64) p_y), (lenV (f := v64) p_z), trivial⟩) (fun b1 => ?_)
 refine TLe (E_allocP [(4, e64 ((replicate 4 0#64).toList)), (4, e64 ((replicate 4 0#64).toList)), (4, e64 ((replicate 4 0#64).toList))] TryI.inf64 TryI.zer64 ⟨(lenV (f := v64) (replicate 4 0#64)), (lenV (f := v64) (replicate 4 0#64)), (lenV (f := v64) (replicate 4 0#64)), trivial⟩) (fun b2 => ?_)
 refine TL_nil ?_
 refine TX_next ?_
 refine TC_seq ?_
 obtain ⟨r_1, hr_1, H⟩ := bind_elim H
 obtain ⟨r_2, hr_2, H⟩ := bind_elim H
 refine TA_begin [] 22 (by kernel_rfl) (N := 22) rfl ?_
 refine TA_mix (is := []) (done' := dn 22 1048575) [itV 0 14 (ptr (some (bc, obc)) 0) [], itV 1 15 (ptr (some (bc, obc)) 0) [0], itV 2 16 (ptr (some (bc, obc)) 0) [1], itV 3 17 (ptr (some (bc_Field, obc_Field)) 0) [2], itV 4 18 (ptr (some (b1, 8)) 0) [], itV 5 19 (aG [(4, e64 p_z.toList)]) [4], itV 6 20 (ptr (some (b1, 8)) 0) [], itV 7 21 (aG [(4, e64 p_z.toList)]) [6], itV 8 22 (aG [(4, e64 r_1.toList)]) [3, 5, 7], itV 9 23 (ptr (some (bc, obc)) 0) [], itV 10 24 (ptr (some (bc, obc)) 0) [9], itV 11 25 (ptr (some (bc, obc)) 0) [10], itV 12 26 (ptr (some (bc_Field, obc_Field)) 0) [11], itV 13 27 (ptr (some (b1, 4)) 0) [], itV 14 28 (aG [(4, e64 p_y.toList)]) [13], itV 15 29 (ptr (some (b1, 4)) 0) [], itV 16 30 (aG [(4, e64 p_y.toList)]) [15], itV 17 31 (aG [(4, e64 r_2.toList)]) [12, 14, 16], itA64 18 5 4, itA64 19 6 4] [] 2 (by kernel_rfl) (QP.then QP.body) (by kernel_rfl) rfl (.v rfl (V_move rfl) (.v rfl (V_nilCheck rfl) (.v rfl (V_fe Try.underlying100 TryI.inf82) (.v rfl (V_load rfl (.r 0) rfl Try.isAgg82) (.v rfl (V_fe Try.underlying64 TryI.inf57) (.v rfl (V_lag (.o 5) Try.isAgg57 TryI.inf57) (.v rfl (V_fe Try.underlying64 TryI.inf57) (.v rfl (V_lag (.o 5) Try.isAgg57 TryI.inf57) (.e rfl (E_cu (F58_calls bc_Field obc_Field c_Field_M c_Field_inv c_Field_one c_Field_two p_z p_z r_1 hr_1) Try.call58 ⟨.r 2, .r 3, .r 4, .r 5, trivial⟩) (.v rfl (V_move rfl) (.v rfl (V_nilCheck rfl) (.v rfl (V_fe Try.underlying100 TryI.inf82) (.v rfl (V_load rfl (.r 0) rfl Try.isAgg82) (.v rfl (V_fe Try.underlying64 TryI.inf57) (.v rfl (V_lag (.o 4) Try.isAgg57 TryI.inf57) (.v rfl (V_fe Try.underlying64 TryI.inf57) (.v rfl (V_lag (.o 4) Try.isAgg57 TryI.inf57) (.e rfl (E_cu (F58_calls bc_Field obc_Field c_Field_M c_Field_inv c_Field_one c_Field_two p_y p_y r_2 hr_2) Try.call58 ⟨.r 2, .r 3, .r 4, .r 5, trivial⟩) (.c rfl (fun _ _ => (E_al64 4 TryI.inf57 TryI.zer57)) (.c rfl (fun _ _ => (E_al64 4 TryI.inf57 TryI.zer57)) .nil)))))))))))))))))))) .nil (by kernel_rfl) rfl (fun γ => ?_)
 refine TA_cut [(6, ptr (some ((γ 19), 0)) 0), (5, ptr (some ((γ 18), 0)) 0), (31, aG [(4, e64 r_2.toList)]), (22, aG [(4, e64 r_1.toList)]), (4, ptr (some (b2, 0)) 0), (3, ptr (some (b1, 0)) 0), (0, ptr (some (bc, obc)) 0)] [⟨some ((γ 19), 0), e64 ((replicate 4 0#64).toList)⟩, ⟨some ((γ 18), 0), e64 ((replicate 4 0#64).toList)⟩, ⟨some (b2, 0), e64 ((replicate 4 0#64).toList)⟩, ⟨some (b2, 4), e64 ((replicate 4 0#64).toList)⟩, ⟨some (b2, 8), e64 ((replicate 4 0#64).toList)⟩, ⟨some (b1, 0), e64 p_x.toList⟩, ⟨some (b1, 4), e64 p_y.toList⟩, ⟨some (b1, 8), e64 p_z.toList⟩] ⟨rfl, rfl, rfl, rfl, rfl, rfl, rfl, trivial⟩ rfl ?_
 generalize γ 18 = b3
 generalize γ 19 = b4
 refine TA_all (rs := [20]) (by kernel_rfl) rfl ?_
 refine ⟨?_, trivial⟩
 refine TO_n (is := []) (done' := dn 22 2097151) rfl rfl rfl (by kernel_rfl) (E_sv (vs := e64 r_1.toList) 1 TryI.inf57) (fun _ _ => rfl) (fun _ => ?_)
 refine TA_all (rs := [21]) (by kernel_rfl) rfl ?_
 refine ⟨?_, trivial⟩
 refine TO_n (is := []) (done' := dn 22 4194303) rfl rfl rfl (by kernel_rfl) (E_sv (vs := e64 r_2.toList) 0 TryI.inf57) (fun _ _ => rfl) (fun _ => ?_)
 refine TA_done (by kernel_rfl) ?_ 0
 refine TX_next ?_
 refine TC_seq ?_
 obtain ⟨r_3, hr_3, H⟩ := bind_elim H
 refine TA_begin [] 10 (by kernel_rfl) (N := 10) rfl ?_
 refine TA_mix (is := []) (done' := dn 10 511) [itV 0 32 (ptr (some (bc, obc)) 0) [], itV 1 33 (ptr (some (bc, obc)) 0) [0], itV 2 34 (ptr (some (bc, obc)) 0) [1], itV 3 35 (ptr (some (bc_Field, obc_Field)) 0) [2], itV 4 36 (ptr (some (b1, 0)) 0) [], itV 5 37 (aG [(4, e64 p_x.toList)]) [4], itV 6 38 (aG [(4, e64 r_2.toList)]) [], itV 7 39 (aG [(4, e64 r_3.toList)]) [3, 5, 6], itA64 8 7 4] [] 1 (by kernel_rfl) (QP.then QP.body) (by kernel_rfl) rfl (.v rfl (V_move rfl) (.v rfl (V_nilCheck rfl) (.v rfl (V_fe Try.underlying100 TryI.inf82) (.v rfl (V_load rfl (.r 0) rfl Try.isAgg82) (.v rfl (V_fe Try.underlying64 TryI.inf57) (.v rfl (V_lag (.o 5) Try.isAgg57 TryI.inf57) (.v rfl (V_lag (.o 0) Try.isAgg57 TryI.inf57) (.e rfl (E_cu (F58_calls bc_Field obc_Field c_Field_M c_Field_inv c_Field_one c_Field_two p_x r_2 r_3 hr_3) Try.call58 ⟨.r 2, .r 3, .r 4, .r 5, trivial⟩) (.c rfl (fun _ _ => (E_al64 4 TryI.inf57 TryI.zer57)) .nil))))))))) .nil (by kernel_rfl) rfl (fun γ => ?_)
 refine TA_cut [(7, ptr (some ((γ 8), 0)) 0), (39, aG [(4, e64 r_3.toList)]), (6, ptr (some (b4, 0)) 0), (5, ptr (some (b3, 0)) 0), (4, ptr (some (b2, 0)) 0), (3, ptr (some (b1, 0)) 0), (0, ptr (some (bc, obc)) 0)] [⟨some ((γ 8), 0), e64 ((replicate 4 0#64).toList)⟩, ⟨some (b4, 0), e64 r_2.toList⟩, ⟨some (b3, 0), e64 r_1.toList⟩, ⟨some (b2, 0), e64 ((replicate 4 0#64).toList)⟩, ⟨some (b2, 4), e64 ((replicate 4 0#64).toList)⟩, ⟨some (b2, 8), e64 ((replicate 4 0#64).toList)⟩, ⟨some (b1, 0), e64 p_x.toList⟩, ⟨some (b1, 4), e64 p_y.toList⟩, ⟨some (b1, 8), e64 p_z.toList⟩] ⟨rfl, rfl, rfl, rfl, rfl, rfl, rfl, trivial⟩ rfl ?_
 generalize γ 8 = b5
 refine TA_all (rs := [9]) (by kernel_rfl) rfl ?_
 refine ⟨?_, trivial⟩
 refine TO_n (is := []) (done' := dn 10 1023) rfl rfl rfl (by kernel_rfl) (E_sv (vs := e64 r_3.toList) 0 TryI.inf57) (fun _ _ => rfl) (fun _ => ?_)
 refine TA_done (by kernel_rfl) ?_ 0
 refine TX_next ?_
 refine TC_seq ?_
 obtain ⟨r_4, hr_4, H⟩ := bind_elim H
 obtain ⟨r_5, hr_5, H⟩ := bind_elim H
 obtain ⟨r_6, hr_6, H⟩ := bind_elim H
 refine TA_begin [] 23 (by kernel_rfl) (N := 23) rfl ?_
 refine TA_mix (is := []) (done' := dn 23 4194303) [itV 0 40 (ptr (some (bc, obc)) 0) [], itV 1 41 (ptr (some (bc, obc)) 0) [0], itV 2 42 (ptr (some (bc, obc)) 0) [1], itV 3 43 (ptr (some (bc_Field, obc_Field)) 0) [2], itV 4 44 (ptr (some (bc, obc)) 0) [], itV 5 45 (ptr (some (bc, obc)) 0) [4], itV 6 46 (ptr (some (bc, obc)) 0) [5], itV 7 47 (ptr (some (bc_Field, obc_Field)) 0) [6], itV 8 48 (ptr (some (b1, 0)) 0) [], itV 9 49 (aG [(4, e64 p_x.toList)]) [8], itV 10 50 (aG [(4, e64 r_1.toList)]) [], itV 11 51 (aG [(4, e64 r_4.toList)]) [9, 10, 7], itV 12 52 (ptr (some (bc, obc)) 0) [], itV 13 53 (ptr (some (bc, obc)) 0) [12], itV 14 54 (ptr (some (bc, obc)) 0) [13], itV 15 55 (ptr (some (bc_Field, obc_Field)) 0) [14], itV 16 56 (ptr (some (b1, 0)) 0) [], itV 17 57 (aG [(4, e64 p_x.toList)]) [16], itV 18 58 (aG [(4, e64 r_1.toList)]) [], itV 19 59 (aG [(4, e64 r_5.toList)]) [17, 18, 15], itV 20 60 (aG [(4, e64 r_6.toList)]) [11, 3, 19], itA64 21 8 4] [] 1 (by kernel_rfl) (QP.then QP.body) (by kernel_rfl) rfl (.v rfl (V_move rfl) (.v rfl (V_nilCheck rfl) (.v rfl (V_fe Try.underlying100 TryI.inf82) (.v rfl (V_load rfl (.r 0) rfl Try.isAgg82) (.v rfl (V_move rfl) (.v rfl (V_nilCheck rfl) (.v rfl (V_fe Try.underlying100 TryI.inf82) (.v rfl (V_load rfl (.r 0) rfl Try.isAgg82) (.v rfl (V_fe Try.underlying64 TryI.inf57) (.v rfl (V_lag (.o 6) Try.isAgg57 TryI.inf57) (.v rfl (V_lag (.o 2) Try.isAgg57 TryI.inf57) (.e rfl (E_cu (F77_calls bc_Field obc_Field c_Field_M c_Field_inv c_Field_one c_Field_two p_x r_1 r_4 hr_4) Try.call77 ⟨.r 2, .r 3, .r 4, .r 5, trivial⟩) (.v rfl (V_move rfl) (.v rfl (V_nilCheck rfl) (.v rfl (V_fe Try.underlying100 TryI.inf82) (.v rfl (V_load rfl (.r 0) rfl Try.isAgg82) (.v rfl (V_fe Try.underlying64 TryI.inf57) (.v rfl (V_lag (.o 6) Try.isAgg57 TryI.inf57) (.v rfl (V_lag (.o 2) Try.isAgg57 TryI.inf57) (.e rfl (E_cu (F59_calls bc_Field obc_Field c_Field_M c_Field_inv c_Field_one c_Field_two p_x r_1 r_5 hr_5) Try.call59 ⟨.r 2, .r 3, .r 4, .r 5, trivial⟩) (.e rfl (E_cu (F58_calls bc_Field obc_Field c_Field_M c_Field_inv c_Field_one c_Field_two r_4 r_5 r_6 hr_6) Try.call58 ⟨.r 2, .r 3, .r 4, .r 5, trivial⟩) (.c rfl (fun _ _ => (E_al64 4 TryI.inf57 TryI.zer57)) .nil)))))))))))))))))))))) .nil (by kernel_rfl) rfl (fun γ => ?_)
 refine TA_cut [(8, ptr (some ((γ 21), 0)) 0), (60, aG [(4, e64 r_6.toList)]), (7, ptr (some (b5, 0)) 0), (6, ptr (some (b4, 0)) 0), (5, ptr (some (b3, 0)) 0), (4, ptr (some (b2, 0)) 0), (3, ptr (some (b1, 0)) 0), (0, ptr (some (bc, obc)) 0)] [⟨some ((γ 21), 0), e64 ((replicate 4 0#64).toList)⟩, ⟨some (b5, 0), e64 r_3.toList⟩, ⟨some (b4, 0), e64 r_2.toList⟩, ⟨some (b3, 0), e64 r_1.toList⟩, ⟨some (b2, 0), e64 ((replicate 4 0#64).toList)⟩, ⟨some (b2, 4), e64 ((replicate 4 0#64).toList)⟩, ⟨some (b2, 8), e64 ((replicate 4 0#64).toList)⟩, ⟨some (b1, 0), e64 p_x.toList⟩, ⟨some (b1, 4), e64 p_y.toList⟩, ⟨some (b1, 8), e64 p_z.toList⟩] ⟨rfl, rfl, rfl, rfl, rfl, rfl, rfl, rfl, trivial⟩ rfl ?_
 generalize γ 21 = b6
 refine TA_all (rs := [22]) (by kernel_rfl) rfl ?_
 refine ⟨?_, trivial⟩
 refine TO_n (is := []) (done' := dn 23 8388607) rfl rfl rfl (by kernel_rfl) (E_sv (vs := e64 r_6.toList) 0 TryI.inf57) (fun _ _ => rfl) (fun _ => ?_)
 refine TA_done (by kernel_rfl) ?_ 0
 refine TX_next ?_
 refine TC_seq ?_
 obtain ⟨r_7, hr_7, H⟩ := bind_elim H
 obtain ⟨r_8, hr_8, H⟩ := bind_elim H
 refine TA_begin [] 14 (by kernel_rfl) (N := 14) rfl ?_
 refine TA_mix (is := []) (done' := dn 14 8191) [itV 0 61 (ptr (some (bc, obc)) 0) [], itV 1 62 (ptr (some (bc, obc)) 0) [0], itV 2 63 (ptr (some (bc, obc)) 0) [1], itV 3 64 (ptr (some (bc_Field, obc_Field)) 0) [2], itV 4 65 (aG [(4, e64 r_6.toList)]) [], itV 5 66 (ptr (some (bc, obc)) 0) [], itV 6 67 (ptr (some (bc, obc)) 0) [5], itV 7 68 (ptr (some (bc, obc)) 0) [6], itV 8 69 (ptr (some (bc_Field, obc_Field)) 0) [7], itV 9 70 (aG [(4, e64 r_6.toList)]) [], itV 10 71 (aG [(4, e64 r_6.toList)]) [], itV 11 72 (aG [(4, e64 r_7.toList)]) [8, 9, 10], itV 12 73 (aG [(4, e64 r_8.toList)]) [3, 4, 11]] [] 1 (by kernel_rfl) (QP.then QP.body) (by kernel_rfl) rfl (.v rfl (V_move rfl) (.v rfl (V_nilCheck rfl) (.v rfl (V_fe Try.underlying100 TryI.inf82) (.v rfl (V_load rfl (.r 0) rfl Try.isAgg82) (.v rfl (V_lag (.o 0) Try.isAgg57 TryI.inf57) (.v rfl (V_move rfl) (.v rfl (V_nilCheck rfl) (.v rfl (V_fe Try.underlying100 TryI.inf82) (.v rfl (V_load rfl (.r 0) rfl Try.isAgg82) (.v rfl (V_lag (.o 0) Try.isAgg57 TryI.inf57) (.v rfl (V_lag (.o 0) Try.isAgg57 TryI.inf57) (.e rfl (E_cu (F59_calls bc_Field obc_Field c_Field_M c_Field_inv c_Field_one c_Field_two r_6 r_6 r_7 hr_7) Try.call59 ⟨.r 2, .r 3, .r 4, .r 5, trivial⟩) (.e rfl (E_cu (F59_calls bc_Field obc_Field c_Field_M c_Field_inv c_Field_one c_Field_two r_6 r_7 r_8 hr_8) Try.call59 ⟨.r 2, .r 3, .r 4, .r 5, trivial⟩) .nil))))))))))))) .nil (by kernel_rfl) rfl (fun γ => ?_)
 refine TA_cut [(73, aG [(4, e64 r_8.toList)]), (8, ptr (some (b6, 0)) 0), (7, ptr (some (b5, 0)) 0), (6, ptr (some (b4, 0)) 0), (5, ptr (some (b3, 0)) 0), (4, ptr (some (b2, 0)) 0), (3, ptr (some (b1, 0)) 0), (0, ptr (some (bc, obc)) 0)] [⟨some (b6, 0), e64 r_6.toList⟩, ⟨some (b5, 0), e64 r_3.toList⟩, ⟨some (b4, 0), e64 r_2.toList⟩, ⟨some (b3, 0), e64 r_1.toList⟩, ⟨some (b2, 0), e64 ((replicate 4 0#64).toList)⟩, ⟨some (b2, 4), e64 ((replicate 4 0#64).toList)⟩, ⟨some (b2, 8), e64 ((replicate 4 0#64).toList)⟩, ⟨some (b1, 0), e64 p_x.toList⟩, ⟨some (b1, 4), e64 p_y.toList⟩, ⟨some (b1, 8), e64 p_z.toList⟩] ⟨rfl, rfl, rfl, rfl, rfl, rfl, rfl, rfl, trivial⟩ rfl ?_
 refine TA_all (rs := [13]) (by kernel_rfl) rfl ?_
 refine ⟨?_, trivial⟩
 refine TO_n (is := []) (done' := dn 14 16383) rfl rfl rfl (by kernel_rfl) (E_sv (vs := e64 r_8.toList) 0 TryI.inf57) (fun _ _ => rfl) (fun _ => ?_)
 refine TA_done (by kernel_rfl) ?_ 0
 refine TX_next ?_
 refine TC_seq ?_
 obtain ⟨r_9, hr_9, H⟩ := bind_elim H
 refine TA_begin [] 9 (by kernel_rfl) (N := 9) rfl ?_
 refine TA_mix (is := []) (done' := dn 9 255) [itV 0 74 (ptr (some (bc, obc)) 0) [], itV 1 75 (ptr (some (bc, obc)) 0) [0], itV 2 76 (ptr (some (bc, obc)) 0) [1], itV 3 77 (ptr (some (bc_Field, obc_Field)) 0) [2], itV 4 78 (aG [(4, e64 r_3.toList)]) [], itV 5 79 (aG [(4, e64 r_3.toList)]) [], itV 6 80 (aG [(4, e64 r_9.toList)]) [3, 4, 5], itA64 7 9 4] [] 1 (by kernel_rfl) (QP.then QP.body) (by kernel_rfl) rfl (.v rfl (V_move rfl) (.v rfl (V_nilCheck rfl) (.v rfl (V_fe Try.underlying100 TryI.inf82) (.v rfl (V_load rfl (.r 0) rfl Try.isAgg82) (.v rfl (V_lag (.o 1) Try.isAgg57 TryI.inf57) (.v rfl (V_lag (.o 1) Try.isAgg57 TryI.inf57) (.e rfl (E_cu (F59_calls bc_Field obc_Field c_Field_M c_Field_inv c_Field_one c_Field_two r_3 r_3 r_9 hr_9) Try.call59 ⟨.r 2, .r 3, .r 4, .r 5, trivial⟩) (.c rfl (fun _ _ => (E_al64 4 TryI.inf57 TryI.zer57)) .nil)))))))) .nil (by kernel_rfl) rfl (fun γ => ?_)
 refine TA_cut [(9, ptr (some ((γ 7), 0)) 0), (80, aG [(4, e64 r_9.toList)]), (8, ptr (some (b6, 0)) 0), (6, ptr (some (b4, 0)) 0), (5, ptr (some (b3, 0)) 0), (4, ptr (some (b2, 0)) 0), (3, ptr (some (b1, 0)) 0), (0, ptr (some (bc, obc)) 0)] [⟨some ((γ 7), 0), e64 ((replicate 4 0#64).toList)⟩, ⟨some (b6, 0), e64 r_8.toList⟩, ⟨some (b5, 0), e64 r_3.toList⟩, ⟨some (b4, 0), e64 r_2.toList⟩, ⟨some (b3, 0), e64 r_1.toList⟩, ⟨some (b2, 0), e64 ((replicate 4 0#64).toList)⟩, ⟨some (b2, 4), e64 ((replicate 4 0#64).toList)⟩, ⟨some (b2, 8), e64 ((replicate 4 0#64).toList)⟩, ⟨some (b1, 0), e64 p_x.toList⟩, ⟨some (b1, 4), e64 p_y.toList⟩, ⟨some (b1, 8), e64 p_z.toList⟩] ⟨rfl, rfl, rfl, rfl, rfl, rfl, rfl, rfl, trivial⟩ rfl ?_
 generalize γ 7 = b7
 refine TA_all (rs := [8]) (by kernel_rfl) rfl ?_
 refine ⟨?_, trivial⟩
 refine TO_n (is := []) (done' := dn 9 511) rfl rfl rfl (by kernel_rfl) (E_sv (vs := e64 r_9.toList) 0 TryI.inf57) (fun _ _ => rfl) (fun _ => ?_)
 refine TA_done (by kernel_rfl) ?_ 0
 refine TX_next ?_
 refine TC_seq ?_
 obtain ⟨r_10, hr_10, H⟩ := bind_elim H
 refine TA_begin [] 8 (by kernel_rfl) (N := 8) rfl ?_
 refine TA_mix (is := []) (done' := dn 8 127) [itV 0 81 (ptr (some (bc, obc)) 0) [], itV 1 82 (ptr (some (bc, obc)) 0) [0], itV 2 83 (ptr (some (bc, obc)) 0) [1], itV 3 84 (ptr (some (bc_Field, obc_Field)) 0) [2], itV 4 85 (aG [(4, e64 r_9.toList)]) [], itV 5 86 (aG [(4, e64 r_9.toList)]) [], itV 6 87 (aG [(4, e64 r_10.toList)]) [3, 4, 5]] [] 1 (by kernel_rfl) (QP.then QP.body) (by kernel_rfl) rfl (.v rfl (V_move rfl) (.v rfl (V_nilCheck rfl) (.v rfl (V_fe Try.underlying100 TryI.inf82) (.v rfl (V_load rfl (.r 0) rfl Try.isAgg82) (.v rfl (V_lag (.o 0) Try.isAgg57 TryI.inf57) (.v rfl (V_lag (.o 0) Try.isAgg57 TryI.inf57) (.e rfl (E_cu (F59_calls bc_Field obc_Field c_Field_M c_Field_inv c_Field_one c_Field_two r_9 r_9 r_10 hr_10) Try.call59 ⟨.r 2, .r 3, .r 4, .r 5, trivial⟩) .nil))))))) .nil (by kernel_rfl) rfl (fun γ => ?_)
 refine TA_cut [(87, aG [(4, e64 r_10.toList)]), (9, ptr (some (b7, 0)) 0), (8, ptr (some (b6, 0)) 0), (6, ptr (some (b4, 0)) 0), (5, ptr (some (b3, 0)) 0), (4, ptr (some (b2, 0)) 0), (3, ptr (some (b1, 0)) 0), (0, ptr (some (bc, obc)) 0)] [⟨some (b7, 0), e64 r_9.toList⟩, ⟨some (b6, 0), e64 r_8.toList⟩, ⟨some (b5, 0), e64 r_3.toList⟩, ⟨some (b4, 0), e64 r_2.toList⟩, ⟨some (b3, 0), e64 r_1.toList⟩, ⟨some (b2, 0), e64 ((replicate 4 0#64).toList)⟩, ⟨some (b2, 4), e64 ((replicate 4 0#64).toList)⟩, ⟨some (b2, 8), e64 ((replicate 4 0#64).toList)⟩, ⟨some (b1, 0), e64 p_x.toList⟩, ⟨some (b1, 4), e64 p_y.toList⟩, ⟨some (b1, 8), e64 p_z.toList⟩] ⟨rfl, rfl, rfl, rfl, rfl, rfl, rfl, rfl, trivial⟩ rfl ?_
 refine TA_all (rs := [7]) (by kernel_rfl) rfl ?_
 refine ⟨?_, trivial⟩
 refine TO_n (is := []) (done' := dn 8 255) rfl rfl rfl (by kernel_rfl) (E_sv (vs := e64 r_10.toList) 0 TryI.inf57) (fun _ _ => rfl) (fun _ => ?_)
 refine TA_done (by kernel_rfl) ?_ 0
 refine TX_next ?_
 refine TC_seq ?_
 obtain ⟨r_11, hr_11, H⟩ := bind_elim H
 obtain ⟨r_12, hr_12, H⟩ := bind_elim H
 obtain ⟨r_13, hr_13, H⟩ := bind_elim H
 refine TA_begin [] 21 (by kernel_rfl) (N := 21) rfl ?_
 refine TA_mix (is := []) (done' := dn 21 1048575) [itV 0 88 (ptr (some (bc, obc)) 0) [], itV 1 89 (ptr (some (bc, obc)) 0) [0], itV 2 90 (ptr (some (bc, obc)) 0) [1], itV 3 91 (ptr (some (bc_Field, obc_Field)) 0) [2], itV 4 92 (ptr (some (bc, obc)) 0) [], itV 5 93 (ptr (some (bc, obc)) 0) [4], itV 6 94 (ptr (some (bc, obc)) 0) [5], itV 7 95 (ptr (some (bc_Field, obc_Field)) 0) [6], itV 8 96 (aG [(4, e64 r_8.toList)]) [], itV 9 97 (aG [(4, e64 r_8.toList)]) [], itV 10 98 (aG [(4, e64 r_11.toList)]) [8, 9, 7], itV 11 99 (ptr (some (bc, obc)) 0) [], itV 12 100 (ptr (some (bc, obc)) 0) [11], itV 13 101 (ptr (some (bc, obc)) 0) [12], itV 14 102 (ptr (some (bc_Field, obc_Field)) 0) [13], itV 15 103 (aG [(4, e64 r_10.toList)]) [], itV 16 104 (aG [(4, e64 r_10.toList)]) [], itV 17 105 (aG [(4, e64 r_12.toList)]) [16, 14, 15], itV 18 106 (aG [(4, e64 r_13.toList)]) [17, 10, 3], itA64 19 10 4] [] 1 (by kernel_rfl) (QP.then QP.body) (by kernel_rfl) rfl (.v rfl (V_move rfl) (.v rfl (V_nilCheck rfl) (.v rfl (V_fe Try.underlying100 TryI.inf82) (.v rfl (V_load rfl (.r 0) rfl Try.isAgg82) (.v rfl (V_move rfl) (.v rfl (V_nilCheck rfl) (.v rfl (V_fe Try.underlying100 TryI.inf82) (.v rfl (V_load rfl (.r 0) rfl Try.isAgg82) (.v rfl (V_lag (.o 1) Try.isAgg57 TryI.inf57) (.v rfl (V_lag (.o 1) Try.isAgg57 TryI.inf57) (.e rfl (E_cu (F58_calls bc_Field obc_Field c_Field_M c_Field_inv c_Field_one c_Field_two r_8 r_8 r_11 hr_11) Try.call58 ⟨.r 2, .r 3, .r 4, .r 5, trivial⟩) (.v rfl (V_move rfl) (.v rfl (V_nilCheck rfl) (.v rfl (V_fe Try.underlying100 TryI.inf82) (.v rfl (V_load rfl (.r 0) rfl Try.isAgg82) (.v rfl (V_lag (.o 0) Try.isAgg57 TryI.inf57) (.v rfl (V_lag (.o 0) Try.isAgg57 TryI.inf57) (.e rfl (E_cu (F59_calls bc_Field obc_Field c_Field_M c_Field_inv c_Field_one c_Field_two r_10 r_10 r_12 hr_12) Try.call59 ⟨.r 2, .r 3, .r 4, .r 5, trivial⟩) (.e rfl (E_cu (F77_calls bc_Field obc_Field c_Field_M c_Field_inv c_Field_one c_Field_two r_11 r_12 r_13 hr_13) Try.call77 ⟨.r 2, .r 3, .r 4, .r 5, trivial⟩) (.c rfl (fun _ _ => (E_al64 4 TryI.inf57 TryI.zer57)) .nil)))))))))))))))))))) .nil (by kernel_rfl) rfl (fun γ => ?_)
 refine TA_cut [(10, ptr (some ((γ 19), 0)) 0), (106, aG [(4, e64 r_13.toList)]), (9, ptr (some (b7, 0)) 0), (8, ptr (some (b6, 0)) 0), (6, ptr (some (b4, 0)) 0), (5, ptr (some (b3, 0)) 0), (4, ptr (some (b2, 0)) 0), (3, ptr (some (b1, 0)) 0), (0, ptr (some (bc, obc)) 0)] [⟨some ((γ 19), 0), e64 ((replicate 4 0#64).toList)⟩, ⟨some (b7, 0), e64 r_10.toList⟩, ⟨some (b6, 0), e64 r_8.toList⟩, ⟨some (b5, 0), e64 r_3.toList⟩, ⟨some (b4, 0), e64 r_2.toList⟩, ⟨some (b3, 0), e64 r_1.toList⟩, ⟨some (b2, 0), e64 ((replicate 4 0#64).toList)⟩, ⟨some (b2, 4), e64 ((replicate 4 0#64).toList)⟩, ⟨some (b2, 8), e64 ((replicate 4 0#64).toList)⟩, ⟨some (b1, 0), e64 p_x.toList⟩, ⟨some (b1, 4), e64 p_y.toList⟩, ⟨some (b1, 8), e64 p_z.toList⟩] ⟨rfl, rfl, rfl, rfl, rfl, rfl, rfl, rfl, rfl, trivial⟩ rfl ?_
 generalize γ 19 = b8
 refine TA_all (rs := [20]) (by kernel_rfl) rfl ?_
 refine ⟨?_, trivial⟩
 refine TO_n (is := []) (done' := dn 21 2097151) rfl rfl rfl (by kernel_rfl) (E_sv (vs := e64 r_13.toList) 0 TryI.inf57) (fun _ _ => rfl) (fun _ => ?_)
 refine TA_done (by kernel_rfl) ?_ 0
 refine TX_next ?_
 refine TC_seq ?_
 obtain ⟨r_14, hr_14, H⟩ := bind_elim H
 refine TA_begin [] 11 (by kernel_rfl) (N := 11) rfl ?_
 refine TA_mix (is := []) (done' := dn 11 1023) [itV 0 107 (ptr (some (bc, obc)) 0) [], itV 1 108 (ptr (some (bc, obc)) 0) [0], itV 2 109 (ptr (some (bc, obc)) 0) [1], itV 3 110 (ptr (some (bc_Field, obc_Field)) 0) [2], itV 4 111 (ptr (some (b1, 4)) 0) [], itV 5 112 (aG [(4, e64 p_y.toList)]) [4], itV 6 113 (ptr (some (b1, 8)) 0) [], itV 7 114 (aG [(4, e64 p_z.toList)]) [6], itV 8 115 (aG [(4, e64 r_14.toList)]) [5, 7, 3], itA64 9 11 4] [] 1 (by kernel_rfl) (QP.then QP.body) (by kernel_rfl) rfl (.v rfl (V_move rfl) (.v rfl (V_nilCheck rfl) (.v rfl (V_fe Try.underlying100 TryI.inf82) (.v rfl (V_load rfl (.r 0) rfl Try.isAgg82) (.v rfl (V_fe Try.underlying64 TryI.inf57) (.v rfl (V_lag (.o 10) Try.isAgg57 TryI.inf57) (.v rfl (V_fe Try.underlying64 TryI.inf57) (.v rfl (V_lag (.o 11) Try.isAgg57 TryI.inf57) (.e rfl (E_cu (F59_calls bc_Field obc_Field c_Field_M c_Field_inv c_Field_one c_Field_two p_y p_z r_14 hr_14) Try.call59 ⟨.r 2, .r 3, .r 4, .r 5, trivial⟩) (.c rfl (fun _ _ => (E_al64 4 TryI.inf57 TryI.zer57)) .nil)))))))))) .nil (by kernel_rfl) rfl (fun γ => ?_)
 refine TA_cut [(11, ptr (some ((γ 9), 0)) 0), (115, aG [(4, e64 r_14.toList)]), (10, ptr (some (b8, 0)) 0), (9, ptr (some (b7, 0)) 0), (8, ptr (some (b6, 0)) 0), (6, ptr (some (b4, 0)) 0), (5, ptr (some (b3, 0)) 0), (4, ptr (some (b2, 0)) 0), (0, ptr (some (bc, obc)) 0)] [⟨some ((γ 9), 0), e64 ((replicate 4 0#64).toList)⟩, ⟨some (b8, 0), e64 r_13.toList⟩, ⟨some (b7, 0), e64 r_10.toList⟩, ⟨some (b6, 0), e64 r_8.toList⟩, ⟨some (b5, 0), e64 r_3.toList⟩, ⟨some (b4, 0), e64 r_2.toList⟩, ⟨some (b3, 0), e64 r_1.toList⟩, ⟨some (b2, 0), e64 ((replicate 4 0#64).toList)⟩, ⟨some (b2, 4), e64 ((replicate 4 0#64).toList)⟩, ⟨some (b2, 8), e64 ((replicate 4 0#64).toList)⟩, ⟨some (b1, 0), e64 p_x.toList⟩, ⟨some (b1, 4), e64 p_y.toList⟩, ⟨some (b1, 8), e64 p_z.toList⟩] ⟨rfl, rfl, rfl, rfl, rfl, rfl, rfl, rfl, rfl, trivial⟩ rfl ?_
 generalize γ 9 = b9
 refine TA_all (rs := [10]) (by kernel_rfl) rfl ?_
 refine ⟨?_, trivial⟩
 refine TO_n (is := []) (done' := dn 11 2047) rfl rfl rfl (by kernel_rfl) (E_sv (vs := e64 r_14.toList) 0 TryI.inf57) (fun _ _ => rfl) (fun _ => ?_)
 refine TA_done (by kernel_rfl) ?_ 0
 refine TX_next ?_
 refine TC_seq ?_
 obtain ⟨r_15, hr_15, H⟩ := bind_elim H
 obtain ⟨r_16, hr_16, H⟩ := bind_elim H
 obtain ⟨r_17, hr_17, H⟩ := bind_elim H
 refine TA_begin [] 21 (by kernel_rfl) (N := 21) rfl ?_
 refine TA_mix (is := []) (done' := dn 21 1048575) [itV 0 116 (ptr (some (bc, obc)) 0) [], itV 1 117 (ptr (some (bc, obc)) 0) [0], itV 2 118 (ptr (some (bc, obc)) 0) [1], itV 3 119 (ptr (some (bc_Field, obc_Field)) 0) [2], itV 4 120 (ptr (some (bc, obc)) 0) [], itV 5 121 (ptr (some (bc, obc)) 0) [4], itV 6 122 (ptr (some (bc, obc)) 0) [5], itV 7 123 (ptr (some (bc_Field, obc_Field)) 0) [6], itV 8 124 (ptr (some (bc, obc)) 0) [], itV 9 125 (ptr (some (bc, obc)) 0) [8], itV 10 126 (ptr (some (bc, obc)) 0) [9], itV 11 127 (ptr (some (bc_Field, obc_Field)) 0) [10], itV 12 128 (aG [(4, e64 r_14.toList)]) [], itV 13 129 (aG [(4, e64 r_14.toList)]) [], itV 14 130 (aG [(4, e64 r_15.toList)]) [12, 13, 11], itV 15 131 (aG [(4, e64 r_2.toList)]) [], itV 16 132 (aG [(4, e64 r_16.toList)]) [14, 7, 15], itV 17 133 (aG [(4, e64 r_1.toList)]) [], itV 18 134 (aG [(4, e64 r_17.toList)]) [16, 17, 3], itA64 19 12 4] [] 1 (by kernel_rfl) (QP.then QP.body) (by kernel_rfl) rfl (.v rfl (V_move rfl) (.v rfl (V_nilCheck rfl) (.v rfl (V_fe Try.underlying100 TryI.inf82) (.v rfl (V_load rfl (.r 0) rfl Try.isAgg82) (.v rfl (V_move rfl) (.v rfl (V_nilCheck rfl) (.v rfl (V_fe Try.underlying100 TryI.inf82) (.v rfl (V_load rfl (.r 0) rfl Try.isAgg82) (.v rfl (V_move rfl) (.v rfl (V_nilCheck rfl) (.v rfl (V_fe Try.underlying100 TryI.inf82) (.v rfl (V_load rfl (.r 0) rfl Try.isAgg82) (.v rfl (V_lag (.o 0) Try.isAgg57 TryI.inf57) (.v rfl (V_lag (.o 0) Try.isAgg57 TryI.inf57) (.e rfl (E_cu (F58_calls bc_Field obc_Field c_Field_M c_Field_inv c_Field_one c_Field_two r_14 r_14 r_15 hr_15) Try.call58 ⟨.r 2, .r 3, .r 4, .r 5, trivial⟩) (.v rfl (V_lag (.o 5) Try.isAgg57 TryI.inf57) (.e rfl (E_cu (F77_calls bc_Field obc_Field c_Field_M c_Field_inv c_Field_one c_Field_two r_15 r_2 r_16 hr_16) Try.call77 ⟨.r 2, .r 3, .r 4, .r 5, trivial⟩) (.v rfl (V_lag (.o 6) Try.isAgg57 TryI.inf57) (.e rfl (E_cu (F77_calls bc_Field obc_Field c_Field_M c_Field_inv c_Field_one c_Field_two r_16 r_1 r_17 hr_17) Try.call77 ⟨.r 2, .r 3, .r 4, .r 5, trivial⟩) (.c rfl (fun _ _ => (E_al64 4 TryI.inf57 TryI.zer57)) .nil)))))))))))))))))))) .nil (by kernel_rfl) rfl (fun γ => ?_)
 refine TA_cut [(12, ptr (some ((γ 19), 0)) 0), (134, aG [(4, e64 r_17.toList)]), (10, ptr (some (b8, 0)) 0), (9, ptr (some (b7, 0)) 0), (8, ptr (some (b6, 0)) 0), (6, ptr (some (b4, 0)) 0), (4, ptr (some (b2, 0)) 0), (0, ptr (some (bc, obc)) 0)] [⟨some ((γ 19), 0), e64 ((replicate 4 0#64).toList)⟩, ⟨some (b9, 0), e64 r_14.toList⟩, ⟨some (b8, 0), e64 r_13.toList⟩, ⟨some (b7, 0), e64 r_10.toList⟩, ⟨some (b6, 0), e64 r_8.toList⟩, ⟨some (b5, 0), e64 r_3.toList⟩, ⟨some (b4, 0), e64 r_2.toList⟩, ⟨some (b3, 0), e64 r_1.toList⟩, ⟨some (b2, 0), e64 ((replicate 4 0#64).toList)⟩, ⟨some (b2, 4), e64 ((replicate 4 0#64).toList)⟩, ⟨some (b2, 8), e64 ((replicate 4 0#64).toList)⟩, ⟨some (b1, 0), e64 p_x.toList⟩, ⟨some (b1, 4), e64 p_y.toList⟩, ⟨some (b1, 8), e64 p_z.toList⟩] ⟨rfl, rfl, rfl, rfl, rfl, rfl, rfl, rfl, trivial⟩ rfl ?_
 generalize γ 19 = b10
 refine TA_all (rs := [20]) (by kernel_rfl) rfl ?_
 refine ⟨?_, trivial⟩
 refine TO_n (is := []) (done' := dn 21 2097151) rfl rfl rfl (by kernel_rfl) (E_sv (vs := e64 r_17.toList) 0 TryI.inf57) (fun _ _ => rfl) (fun _ => ?_)
 refine TA_done (by kernel_rfl) ?_ 0
 refine TX_next ?_
 refine TC_seq ?_
 obtain ⟨r_18, hr_18, H⟩ := bind_elim H
 refine TA_begin [] 9 (by kernel_rfl) (N := 9) rfl ?_
 refine TA_mix (is := []) (done' := dn 9 255) [itV 0 135 (ptr (some (bc, obc)) 0) [], itV 1 136 (ptr (some (bc, obc)) 0) [0], itV 2 137 (ptr (some (bc, obc)) 0) [1], itV 3 138 (ptr (some (bc_Field, obc_Field)) 0) [2], itV 4 139 (aG [(4, e64 r_2.toList)]) [], itV 5 140 (aG [(4, e64 r_2.toList)]) [], itV 6 141 (aG [(4, e64 r_18.toList)]) [3, 4, 5], itA64 7 13 4] [] 1 (by kernel_rfl) (QP.then QP.body) (by kernel_rfl) rfl (.v rfl (V_move rfl) (.v rfl (V_nilCheck rfl) (.v rfl (V_fe Try.underlying100 TryI.inf82) (.v rfl (V_load rfl (.r 0) rfl Try.isAgg82) (.v rfl (V_lag (.o 6) Try.isAgg57 TryI.inf57) (.v rfl (V_lag (.o 6) Try.isAgg57 TryI.inf57) (.e rfl (E_cu (F58_calls bc_Field obc_Field c_Field_M c_Field_inv c_Field_one c_Field_two r_2 r_2 r_18 hr_18) Try.call58 ⟨.r 2, .r 3, .r 4, .r 5, trivial⟩) (.c rfl (fun _ _ => (E_al64 4 TryI.inf57 TryI.zer57)) .nil)))))))) .nil (by kernel_rfl) rfl (fun γ => ?_)
 refine TA_cut [(13, ptr (some ((γ 7), 0)) 0), (141, aG [(4, e64 r_18.toList)]), (12, ptr (some (b10, 0)) 0), (10, ptr (some (b8, 0)) 0), (9, ptr (some (b7, 0)) 0), (8, ptr (some (b6, 0)) 0), (4, ptr (some (b2, 0)) 0), (0, ptr (some (bc, obc)) 0)] [⟨some ((γ 7), 0), e64 ((replicate 4 0#64).toList)⟩, ⟨some (b10, 0), e64 r_17.toList⟩, ⟨some (b9, 0), e64 r_14.toList⟩, ⟨some (b8, 0), e64 r_13.toList⟩, ⟨some (b7, 0), e64 r_10.toList⟩, ⟨some (b6, 0), e64 r_8.toList⟩, ⟨some (b5, 0), e64 r_3.toList⟩, ⟨some (b4, 0), e64 r_2.toList⟩, ⟨some (b3, 0), e64 r_1.toList⟩, ⟨some (b2, 0), e64 ((replicate 4 0#64).toList)⟩, ⟨some (b2, 4), e64 ((replicate 4 0#64).toList)⟩, ⟨some (b2, 8), e64 ((replicate 4 0#64).toList)⟩, ⟨some (b1, 0), e64 p_x.toList⟩, ⟨some (b1, 4), e64 p_y.toList⟩, ⟨some (b1, 8), e64 p_z.toList⟩] ⟨rfl, rfl, rfl, rfl, rfl, rfl, rfl, rfl, trivial⟩ rfl ?_
 generalize γ 7 = b11
 refine TA_all (rs := [8]) (by kernel_rfl) rfl ?_
 refine ⟨?_, trivial⟩
 refine TO_n (is := []) (done' := dn 9 511) rfl rfl rfl (by kernel_rfl) (E_sv (vs := e64 r_18.toList) 0 TryI.inf57) (fun _ _ => rfl) (fun _ => ?_)
 refine TA_done (by kernel_rfl) ?_ 0
 refine TX_next ?_
 refine TC_seq ?_
 obtain ⟨r_19, hr_19, H⟩ := bind_elim H
 refine TA_begin [] 8 (by kernel_rfl) (N := 8) rfl ?_
 refine TA_mix (is := []) (done' := dn 8 127) [itV 0 142 (ptr (some (bc, obc)) 0) [], itV 1 143 (ptr (some (bc, obc)) 0) [0], itV 2 144 (ptr (some (bc, obc)) 0) [1], itV 3 145 (ptr (some (bc_Field, obc_Field)) 0) [2], itV 4 146 (aG [(4, e64 r_18.toList)]) [], itV 5 147 (aG [(4, e64 r_18.toList)]) [], itV 6 148 (aG [(4, e64 r_19.toList)]) [3, 4, 5]] [] 1 (by kernel_rfl) (QP.then QP.body) (by kernel_rfl) rfl (.v rfl (V_move rfl) (.v rfl (V_nilCheck rfl) (.v rfl (V_fe Try.underlying100 TryI.inf82) (.v rfl (V_load rfl (.r 0) rfl Try.isAgg82) (.v rfl (V_lag (.o 0) Try.isAgg57 TryI.inf57) (.v rfl (V_lag (.o 0) Try.isAgg57 TryI.inf57) (.e rfl (E_cu (F59_calls bc_Field obc_Field c_Field_M c_Field_inv c_Field_one c_Field_two r_18 r_18 r_19 hr_19) Try.call59 ⟨.r 2, .r 3, .r 4, .r 5, trivial⟩) .nil))))))) .nil (by kernel_rfl) rfl (fun γ => ?_)
 refine TA_cut [(148, aG [(4, e64 r_19.toList)]), (13, ptr (some (b11, 0)) 0), (12, ptr (some (b10, 0)) 0), (10, ptr (some (b8, 0)) 0), (9, ptr (some (b7, 0)) 0), (8, ptr (some (b6, 0)) 0), (4, ptr (some (b2, 0)) 0), (0, ptr (some (bc, obc)) 0)] [⟨some (b11, 0), e64 r_18.toList⟩, ⟨some (b10, 0), e64 r_17.toList⟩, ⟨some (b9, 0), e64 r_14.toList⟩, ⟨some (b8, 0), e64 r_13.toList⟩, ⟨some (b7, 0), e64 r_10.toList⟩, ⟨some (b6, 0), e64 r_8.toList⟩, ⟨some (b5, 0), e64 r_3.toList⟩, ⟨some (b4, 0), e64 r_2.toList⟩, ⟨some (b3, 0), e64 r_1.toList⟩, ⟨some (b2, 0), e64 ((replicate 4 0#64).toList)⟩, ⟨some (b2, 4), e64 ((replicate 4 0#64).toList)⟩, ⟨some (b2, 8), e64 ((replicate 4 0#64).toList)⟩, ⟨some (b1, 0), e64 p_x.toList⟩, ⟨some (b1, 4), e64 p_y.toList⟩, ⟨some (b1, 8), e64 p_z.toList⟩] ⟨rfl, rfl, rfl, rfl, rfl, rfl, rfl, rfl, trivial⟩ rfl ?_
 refine TA_all (rs := [7]) (by kernel_rfl) rfl ?_
 refine ⟨?_, trivial⟩
 refine TO_n (is := []) (done' := dn 8 255) rfl rfl rfl (by kernel_rfl) (E_sv (vs := e64 r_19.toList) 0 TryI.inf57) (fun _ _ => rfl) (fun _ => ?_)
 refine TA_done (by kernel_rfl) ?_ 0
 refine TX_next ?_
 refine TC_seq ?_
 obtain ⟨r_20, hr_20, H⟩ := bind_elim H
 refine TA_begin [] 8 (by kernel_rfl) (N := 8) rfl ?_
 refine TA_mix (is := []) (done' := dn 8 127) [itV 0 149 (ptr (some (bc, obc)) 0) [], itV 1 150 (ptr (some (bc, obc)) 0) [0], itV 2 151 (ptr (some (bc, obc)) 0) [1], itV 3 152 (ptr (some (bc_Field, obc_Field)) 0) [2], itV 4 153 (aG [(4, e64 r_19.toList)]) [], itV 5 154 (aG [(4, e64 r_19.toList)]) [], itV 6 155 (aG [(4, e64 r_20.toList)]) [3, 4, 5]] [] 1 (by kernel_rfl) (QP.then QP.body) (by kernel_rfl) rfl (.v rfl (V_move rfl) (.v rfl (V_nilCheck rfl) (.v rfl (V_fe Try.underlying100 TryI.inf82) (.v rfl (V_load rfl (.r 0) rfl Try.isAgg82) (.v rfl (V_lag (.o 0) Try.isAgg57 TryI.inf57) (.v rfl (V_lag (.o 0) Try.isAgg57 TryI.inf57) (.e rfl (E_cu (F59_calls bc_Field obc_Field c_Field_M c_Field_inv c_Field_one c_Field_two r_19 r_19 r_20 hr_20) Try.call59 ⟨.r 2, .r 3, .r 4, .r 5, trivial⟩) .nil))))))) .nil (by kernel_rfl) rfl (fun γ => ?_)
 refine TA_cut [(155, aG [(4, e64 r_20.toList)]), (13, ptr (some (b11, 0)) 0), (12, ptr (some (b10, 0)) 0), (10, ptr (some (b8, 0)) 0), (9, ptr (some (b7, 0)) 0), (8, ptr (some (b6, 0)) 0), (4, ptr (some (b2, 0)) 0), (0, ptr (some (bc, obc)) 0)] [⟨some (b11, 0), e64 r_19.toList⟩, ⟨some (b10, 0), e64 r_17.toList⟩, ⟨some (b9, 0), e64 r_14.toList⟩, ⟨some (b8, 0), e64 r_13.toList⟩, ⟨some (b7, 0), e64 r_10.toList⟩, ⟨some (b6, 0), e64 r_8.toList⟩, ⟨some (b5, 0), e64 r_3.toList⟩, ⟨some (b4, 0), e64 r_2.toList⟩, ⟨some (b3, 0), e64 r_1.toList⟩, ⟨some (b2, 0), e64 ((replicate 4 0#64).toList)⟩, ⟨some (b2, 4), e64 ((replicate 4 0#64).toList)⟩, ⟨some (b2, 8), e64 ((replicate 4 0#64).toList)⟩, ⟨some (b1, 0), e64 p_x.toList⟩, ⟨some (b1, 4), e64 p_y.toList⟩, ⟨some (b1, 8), e64 p_z.toList⟩] ⟨rfl, rfl, rfl, rfl, rfl, rfl, rfl, rfl, trivial⟩ rfl ?_
 refine TA_all (rs := [7]) (by kernel_rfl) rfl ?_
 refine ⟨?_, trivial⟩
 refine TO_n (is := []) (done' := dn 8 255) rfl rfl rfl (by kernel_rfl) (E_sv (vs := e64 r_20.toList) 0 TryI.inf57) (fun _ _ => rfl) (fun _ => ?_)
 refine TA_done (by kernel_rfl) ?_ 0
 refine TX_next ?_
 refine TC_seq ?_
 obtain ⟨r_21, hr_21, H⟩ := bind_elim H
 obtain ⟨r_22, hr_22, H⟩ := bind_elim H
 obtain ⟨r_23, hr_23, H⟩ := bind_elim H
 obtain ⟨r_24, hr_24, H⟩ := bind_elim H
 refine TA_begin [] 29 (by kernel_rfl) (N := 29) rfl ?_
 refine TA_mix (is := []) (done' := dn 29 268435455) [itV 0 156 (aG [(4, e64 r_13.toList)]) [], itV 1 157 (ptr (some (bc, obc)) 0) [], itV 2 158 (ptr (some (bc, obc)) 0) [1], itV 3 159 (ptr (some (bc, obc)) 0) [2], itV 4 160 (ptr (some (bc_Field, obc_Field)) 0) [3], itV 5 161 (ptr (some (bc, obc)) 0) [], itV 6 162 (ptr (some (bc, obc)) 0) [5], itV 7 163 (ptr (some (bc, obc)) 0) [6], itV 8 164 (ptr (some (bc_Field, obc_Field)) 0) [7], itV 9 165 (aG [(4, e64 r_8.toList)]) [], itV 10 166 (ptr (some (bc, obc)) 0) [], itV 11 167 (ptr (some (bc, obc)) 0) [10], itV 12 168 (ptr (some (bc, obc)) 0) [11], itV 13 169 (ptr (some (bc_Field, obc_Field)) 0) [12], itV 14 170 (aG [(4, e64 r_10.toList)]) [], itV 15 171 (aG [(4, e64 r_13.toList)]) [], itV 16 172 (aG [(4, e64 r_21.toList)]) [13, 14, 15], itV 17 173 (aG [(4, e64 r_22.toList)]) [16, 8, 9], itV 18 174 (ptr (some (bc, obc)) 0) [], itV 19 175 (ptr (some (bc, obc)) 0) [18], itV 20 176 (ptr (some (bc, obc)) 0) [19], itV 21 177 (ptr (some (bc_Field, obc_Field)) 0) [20], itV 22 178 (aG [(4, e64 r_20.toList)]) [], itV 23 179 (aG [(4, e64 r_20.toList)]) [], itV 24 180 (aG [(4, e64 r_23.toList)]) [21, 22, 23], itV 25 181 (aG [(4, e64 r_24.toList)]) [4, 24, 17], itV 26 182 (aG [(4, e64 r_17.toList)]) [], itV 27 183 (aG [(4, e64 r_13.toList), (4, e64 r_24.toList), (4, e64 r_17.toList)]) [0, 25, 26]] [] 1 (by kernel_rfl) (QP.then QP.body) (by kernel_rfl) rfl (.v rfl (V_lag (.o 3) Try.isAgg57 TryI.inf57) (.v rfl (V_move rfl) (.v rfl (V_nilCheck rfl) (.v rfl (V_fe Try.underlying100 TryI.inf82) (.v rfl (V_load rfl (.r 0) rfl Try.isAgg82) (.v rfl (V_move rfl) (.v rfl (V_nilCheck rfl) (.v rfl (V_fe Try.underlying100 TryI.inf82) (.v rfl (V_load rfl (.r 0) rfl Try.isAgg82) (.v rfl (V_lag (.o 5) Try.isAgg57 TryI.inf57) (.v rfl (V_move rfl) (.v rfl (V_nilCheck rfl) (.v rfl (V_fe Try.underlying100 TryI.inf82) (.v rfl (V_load rfl (.r 0) rfl Try.isAgg82) (.v rfl (V_lag (.o 4) Try.isAgg57 TryI.inf57) (.v rfl (V_lag (.o 3) Try.isAgg57 TryI.inf57) (.e rfl (E_cu (F77_calls bc_Field obc_Field c_Field_M c_Field_inv c_Field_one c_Field_two r_10 r_13 r_21 hr_21) Try.call77 ⟨.r 2, .r 3, .r 4, .r 5, trivial⟩) (.e rfl (E_cu (F58_calls bc_Field obc_Field c_Field_M c_Field_inv c_Field_one c_Field_two r_8 r_21 r_22 hr_22) Try.call58 ⟨.r 2, .r 3, .r 4, .r 5, trivial⟩) (.v rfl (V_move rfl) (.v rfl (V_nilCheck rfl) (.v rfl (V_fe Try.underlying100 TryI.inf82) (.v rfl (V_load rfl (.r 0) rfl Try.isAgg82) (.v rfl (V_lag (.o 0) Try.isAgg57 TryI.inf57) (.v rfl (V_lag (.o 0) Try.isAgg57 TryI.inf57) (.e rfl (E_cu (F59_calls bc_Field obc_Field c_Field_M c_Field_inv c_Field_one c_Field_two r_20 r_20 r_23 hr_23) Try.call59 ⟨.r 2, .r 3, .r 4, .r 5, trivial⟩) (.e rfl (E_cu (F77_calls bc_Field obc_Field c_Field_M c_Field_inv c_Field_one c_Field_two r_22 r_23 r_24 hr_24) Try.call77 ⟨.r 2, .r 3, .r 4, .r 5, trivial⟩) (.v rfl (V_lag (.o 1) Try.isAgg57 TryI.inf57) (.v rfl (V_buildStruct (pv := [(0, aG [(4, e64 r_13.toList)]), (1, aG [(4, e64 r_24.toList)]), (2, aG [(4, e64 r_17.toList)])]) (pl := [(0, 4), (4, 4), (8, 4)]) rfl rfl Try.underlying64 TryI.inf64 TryI.places64 TryI.zer64 (cs := flat [(4, e64 r_13.toList), (4, e64 r_24.toList), (4, e64 r_17.toList)]) (fill_part [] [(4, e64 ((replicate 4 0#64).toList)), (4, e64 ((replicate 4 0#64).toList))] rfl rfl trivial rfl (lenV (f := v64) (replicate 4 0#64)) (lenV (f := v64) r_13) (fill_part [(4, e64 r_13.toList)] [(4, e64 ((replicate 4 0#64).toList))] rfl rfl ⟨(lenV (f := v64) r_13), trivial⟩ rfl (lenV (f := v64) (replicate 4 0#64)) (lenV (f := v64) r_24) (fill_part [(4, e64 r_13.toList), (4, e64 r_24.toList)] [] rfl rfl ⟨(lenV (f := v64) r_13), (lenV (f := v64) r_24), trivial⟩ rfl (lenV (f := v64) (replicate 4 0#64)) (lenV (f := v64) r_17) fill_end)))) .nil)))))))))))))))))))))))))))) .nil (by kernel_rfl) rfl (fun γ => ?_)
 refine TA_cut [(183, aG [(4, e64 r_13.toList), (4, e64 r_24.toList), (4, e64 r_17.toList)]), (4, ptr (some (b2, 0)) 0)] [⟨some (b11, 0), e64 r_20.toList⟩, ⟨some (b10, 0), e64 r_17.toList⟩, ⟨some (b9, 0), e64 r_14.toList⟩, ⟨some (b8, 0), e64 r_13.toList⟩, ⟨some (b7, 0), e64 r_10.toList⟩, ⟨some (b6, 0), e64 r_8.toList⟩, ⟨some (b5, 0), e64 r_3.toList⟩, ⟨some (b4, 0), e64 r_2.toList⟩, ⟨some (b3, 0), e64 r_1.toList⟩, ⟨some (b2, 0), e64 ((replicate 4 0#64).toList)⟩, ⟨some (b2, 4), e64 ((replicate 4 0#64).toList)⟩, ⟨some (b2, 8), e64 ((replicate 4 0#64).toList)⟩, ⟨some (b1, 0), e64 p_x.toList⟩, ⟨some (b1, 4), e64 p_y.toList⟩, ⟨some (b1, 8), e64 p_z.toList⟩] ⟨rfl, rfl, trivial⟩ rfl ?_
 refine TA_all (rs := [28]) (by kernel_rfl) rfl ?_
 refine ⟨?_, trivial⟩
 refine TO_n (is := []) (done' := dn 29 536870911) rfl rfl rfl (by kernel_rfl) (E_sp (b := b2) (o := 0) [9, 9, 9] [(4, e64 ((replicate 4 0#64).toList)), (4, e64 ((replicate 4 0#64).toList)), (4, e64 ((replicate 4 0#64).toList))] [(4, e64 r_13.toList), (4, e64 r_24.toList), (4, e64 r_17.toList)] rfl TryI.inf64 ⟨(lenV (f := v64) (replicate 4 0#64)), (lenV (f := v64) (replicate 4 0#64)), (lenV (f := v64) (replicate 4 0#64)), trivial⟩ ⟨(lenV (f := v64) r_13), (lenV (f := v64) r_24), (lenV (f := v64) r_17), trivial⟩ ⟨(OneC.map (fun _ => rfl) _), (OneC.map (fun _ => rfl) _), (OneC.map (fun _ => rfl) _), trivial⟩) (fun _ _ => rfl) (fun _ => ?_)
 refine TA_done (by kernel_rfl) ?_ 0
 refine TX_next ?_
 refine TC_ret ?_
 have hrv := Option.some.inj H
 subst hrv
 exact TX_ret (rs := [.cell 4 64]) (vs := [aG [(4, e64 r_13.toList), (4, e64 r_24.toList), (4, e64 r_17.toList)]]) rfl ⟨(Res_agg (n := 12) (cs := flat [(4, e64 r_13.toList), (4, e64 r_24.toList), (4, e64 r_17.toList)]) rfl (by simp) (SrcEnts (b := b2) [(4, e64 r_13.toList), (4, e64 r_24.toList), (4, e64 r_17.toList)] 0 ⟨(lenV (f := v64) r_13), (lenV (f := v64) r_24), (lenV (f := v64) r_17), trivial⟩ (AllSrc.all (M := ents b2 0 [(4, e64 r_13.toList), (4, e64 r_24.toList), (4, e64 r_17.toList)]) ⟨Src.own (j := 0) rfl, Src.own (j := 1) rfl, Src.own (j := 2) rfl, trivial⟩)) Try.isAgg64 TryI.inf64 rfl (by simp [flat])), trivial⟩ (fun w' hs' => ⟨(), rfl, Step.left (Step.pulled (is := []) (A := []) hs' rfl)⟩)
end Go.Proofs
end

section
namespace Go.Proofs
open Go Go.Kx
open Vector (replicate)
def pcurve_curve_add (c_Field_M : Vx 64 4) (c_Field_inv : BitVec 64) (c_Field_one : Vx 64 4) (c_Field_two : Vx 64 4) (c_b : Vx 64 4) (p_x : Vx 64 4) (p_y : Vx 64 4) (p_z : Vx 64 4) (q_x : Vx 64 4) (q_y : Vx 64 4) (q_z : Vx 64 4) : Option (Vx 64 4 × Vx 64 4 × Vx 64 4) :=
 (num_Nat_Zero p_z).bind fun (r_1 : Bool) => (if r_1 = true then (some (q_x, q_y, q_z)) else ((num_Nat_Zero q_z).bind fun (r_2 : Bool) => (if r_2 = true then (some (p_x, p_y, p_z)) else ((num_Field_Mul c_Field_M c_Field_inv c_Field_one c_Field_two p_z p_z).bind fun (r_3 : Vx 64 4) => ((num_Field_Mul c_Field_M c_Field_inv c_Field_one c_Field_two q_z q_z).bind fun (r_4 : Vx 64 4) => ((num_Field_Mul c_Field_M c_Field_inv c_Field_one c_Field_two p_x r_4).bind fun (r_5 : Vx 64 4) => ((num_Field_Mul c_Field_M c_Field_inv c_Field_one c_Field_two q_x r_3).bind fun (r_6 : Vx 64 4) => ((num_Field_Mul c_Field_M c_Field_inv c_Field_one c_Field_two q_z r_4).bind fun (r_7 : Vx 64 4) => ((num_Field_Mul c_Field_M c_Field_inv c_Field_one c_Field_two p_y r_7).bind fun (r_8 : Vx 64 4) => ((num_Field_Mul c_Field_M c_Field_inv c_Field_one c_Field_two p_z r_3).bind fun (r_9 : Vx 64 4) => ((num_Field_Mul c_Field_M c_Field_inv c_Field_one c_Field_two q_y r_9).bind fun (r_10 : Vx 64 4) => ((num_Field_Sub c_Field_M c_Field_inv c_Field_one c_Field_two r_6 r_5).bind fun (r_11 : Vx 64 4) => ((num_Field_Sub c_Field_M c_Field_inv c_Field_one c_Field_two r_10 r_8).bind fun (r_12 : Vx 64 4) => ((num_Nat_Zero r_11).bind fun (r_13 : Bool) => (if r_13 = true then ((num_Nat_Zero r_12).bind fun (r_14 : Bool) => (if r_14 = true then ((pcurve_curve_double c_Field_M c_Field_inv c_Field_one c_Field_two c_b p_x p_y p_z).bind fun (r_15 : Vx 64 4 × Vx 64 4 × Vx 64 4) => (some (r_15.1, r_15.2.1, r_15.2.2))) else (some (replicate 4 0#64, replicate 4 0#64, replicate 4 0#64)))) else ((num_Field_Mul c_Field_M c_Field_inv c_Field_one c_Field_two r_11 r_11).bind fun (r_16 : Vx 64 4) => ((num_Field_Mul c_Field_M c_Field_inv c_Field_one c_Field_two r_11 r_16).bind fun (r_17 : Vx 64 4) => ((num_Field_Mul c_Field_M c_Field_inv c_Field_one c_Field_two r_5 r_16).bind fun (r_18 : Vx 64 4) => ((num_Field_Mul c_Field_M c_Field_inv c_Field_one c_Field_two r_12 r_12).bind fun (r_19 : Vx 64 4) => ((num_Field_Sub c_Field_M c_Field_inv c_Field_one c_Field_two r_19 r_17).bind fun (r_20 : Vx 64 4) => ((num_Field_Add c_Field_M c_Field_inv c_Field_one c_Field_two r_18 r_18).bind fun (r_21 : Vx 64 4) => ((num_Field_Sub c_Field_M c_Field_inv c_Field_one c_Field_two r_20 r_21).bind fun (r_22 : Vx 64 4) => ((num_Field_Sub c_Field_M c_Field_inv c_Field_one c_Field_two r_18 r_22).bind fun (r_23 : Vx 64 4) => ((num_Field_Mul c_Field_M c_Field_inv c_Field_one c_Field_two r_12 r_23).bind fun (r_24 : Vx 64 4) => ((num_Field_Mul c_Field_M c_Field_inv c_Field_one c_Field_two r_8 r_17).bind fun (r_25 : Vx 64 4) => ((num_Field_Sub c_Field_M c_Field_inv c_Field_one c_Field_two r_24 r_25).bind fun (r_26 : Vx 64 4) => ((num_Field_Mul c_Field_M c_Field_inv c_Field_one c_Field_two p_z q_z).bind fun (r_27 : Vx 64 4) => ((num_Field_Mul c_Field_M c_Field_inv c_Field_one c_Field_two r_11 r_27).bind fun (r_28 : Vx 64 4) => (some (r_22, r_26, r_28))))))))))))))))))))))))))))))
set_option maxHeartbeats 4000000 in
set_option maxRecDepth 20000 in
theorem F42_calls (bc : Nat) (obc : Nat) (bc_Field : Nat) (obc_Field : Nat) (c_Field_M : Vx 64 4) (c_Field_inv : BitVec 64) (c_Field_one : Vx 64 4) (c_Field_two : Vx 64 4) (c_b : Vx 64 4) (p_x : Vx 64 4) (p_y : Vx 64 4) (p_z : Vx 64 4) (q_x : Vx 64 4) (q_y : Vx 64 4) (q_z : Vx 64 4) (r : Vx 64 4 × Vx 64 4 × Vx 64 4) (H : pcurve_curve_add c_Field_M c_Field_inv c_Field_one c_Field_two c_b p_x p_y p_z q_x q_y q_z = some r) :
  Does Try.prog 42 [ptr (some (bc, obc)) 0, aG [(4, e64 p_x.toList), (4, e64 p_y.toList), (4, e64 p_z.toList)], aG [(4, e64 q_x.toList), (4, e64 q_y.toList), (4, e64 q_z.toList)]] [] [⟨some (bc, obc), [ptr (some (bc_Field, obc_Field)) 0]⟩, ⟨some (bc, obc + 1), e64 c_b.toList⟩, ⟨some (bc_Field, obc_Field), e64 c_Field_M.toList⟩, ⟨some (bc_Field, obc_Field + 4), [v64 c_Field_inv]⟩, ⟨some (bc_Field, obc_Field + 5), e64 c_Field_one.toList⟩, ⟨some (bc_Field, obc_Field + 9), e64 c_Field_two.toList⟩] (Γ := Unit) (fun g => aG [(4, e64 r.1.toList), (4, e64 r.2.1.toList), (4, e64 r.2.2.toList)]) (fun g => []) := by
 intro w hmem hro hd
 refine calls_of (N := 205) (m0 := [(0, ptr (some (bc, obc)) 0), (1, aG [(4, e64 p_x.toList), (4, e64 p_y.toList), (4, e64 p_z.toList)]), (2, aG [(4, e64 q_x.toList), (4, e64 q_y.toList), (4, e64 q_z.toList)])]) Try.func42 rfl Try.ntmps42 (argM_ok [ptr (some (bc, obc)) 0, aG [(4, e64 p_x.toList), (4, e64 p_y.toList), (4, e64 p_z.toList)], aG [(4, e64 q_x.toList), (4, e64 q_y.toList), (4, e64 q_z.toList)]]) rfl hmem hro hd ?_
 unfold pcurve_curve_add at H
 refine TC_seq ?_
 refine TC_region ?_
 refine TLe (E_boxP [(4, e64 p_x.toList), (4, e64 p_y.toList), (4, e64 p_z.toList)] rfl rfl ⟨(lenV (f := v64) p_x), (lenV (f := v64) p_y), (lenV (f := v64) p_z), trivial⟩) (fun b1 => ?_)
 refine TLe (E_boxP [(4, e64 q_x.toList), (4, e64 q_y.toList), (4, e64 q_z.toList)] rfl rfl ⟨(lenV (f := v64) q_x), (lenV (f := v64) q_y), (lenV (f := v64) q_z), trivial⟩) (fun b2 => ?_)
 refine TLe (E_allocP [(4, e64 ((replicate 4 0#64).toList)), (4, e64 ((replicate 4 0#64).toList)), (4, e64 ((replicate 4 0#64).toList))] TryI.inf64 TryI.zer64 ⟨(lenV (f := v64) (replicate 4 0#64)), (lenV (f := v64) (replicate 4 0#64)), (lenV (f := v64) (replicate 4 0#64)), trivial⟩) (fun b3 => ?_)
 refine TL_nil ?_
 refine TX_next ?_
 refine TC_seq ?_
 refine TC_block ?_
 refine TC_seq ?_
 refine TC_region ?_
 refine TLv (V_fieldE rfl Try.underlying64 rfl rfl TryI.inf57 rfl (v := ptr (some (b1, 8)) 0) rfl) ?_
 refine TLv (V_lag (.o 8) Try.isAgg57 TryI.inf57) ?_
 obtain ⟨r_1, hr_1, H⟩ := bind_elim H
 refine TLe (E_c0 (F43_calls p_z r_1 hr_1) Try.call43 .z) (fun g_1 => ?_)
 refine TLv (V_assign rfl) ?_
 refine TL_nil ?_
 refine TX_next ?_
 refine TC_cond (b := r_1) rfl (fun hc => ?_) (fun hc => ?_)
 ·replace H := ite_t hc H
  refine TC_seq ?_
  refine TC_region ?_
  refine TLv (V_loadAgg (n := 12) (cs := flat [(4, e64 q_x.toList), (4, e64 q_y.toList), (4, e64 q_z.toList)]) rfl (by simp) (SrcEnts (b := b2) [(4, e64 q_x.toList), (4, e64 q_y.toList), (4, e64 q_z.toList)] 0 ⟨(lenV (f := v64) q_x), (lenV (f := v64) q_y), (lenV (f := v64) q_z), trivial⟩ (AllSrc.all (M := ents b2 0 [(4, e64 q_x.toList), (4, e64 q_y.toList), (4, e64 q_z.toList)]) ⟨Src.own (j := 3) rfl, Src.own (j := 4) rfl, Src.own (j := 5) rfl, trivial⟩)) Try.isAgg64 TryI.inf64 rfl (flat_len ⟨(lenV (f := v64) q_x), (lenV (f := v64) q_y), (lenV (f := v64) q_z), trivial⟩ rfl)) ?_
  refine TLn (E_sp (b := b3) (o := 0) [0, 0, 0] [(4, e64 ((replicate 4 0#64).toList)), (4, e64 ((replicate 4 0#64).toList)), (4, e64 ((replicate 4 0#64).toList))] [(4, e64 q_x.toList), (4, e64 q_y.toList), (4, e64 q_z.toList)] rfl TryI.inf64 ⟨(lenV (f := v64) (replicate 4 0#64)), (lenV (f := v64) (replicate 4 0#64)), (lenV (f := v64) (replicate 4 0#64)), trivial⟩ ⟨(lenV (f := v64) q_x), (lenV (f := v64) q_y), (lenV (f := v64) q_z), trivial⟩ ⟨(OneC.map (fun _ => rfl) _), (OneC.map (fun _ => rfl) _), (OneC.map (fun _ => rfl) _), trivial⟩) (fun _ => ?_)
  refine TL_nil ?_
  refine TX_next ?_
  refine TC_ret ?_
  refine TX_block_ret ?_
  refine TX_then_ret ?_
  have hrv := Option.some.inj H
  subst hrv
  exact TX_ret (rs := [.cell 6 64]) (vs := [aG [(4, e64 q_x.toList), (4, e64 q_y.toList), (4, e64 q_z.toList)]]) rfl ⟨(Res_agg (n := 12) (cs := flat [(4, e64 q_x.toList), (4, e64 q_y.toList), (4, e64 q_z.toList)]) rfl (by simp) (SrcEnts (b := b3) [(4, e64 q_x.toList), (4, e64 q_y.toList), (4, e64 q_z.toList)] 0 ⟨(lenV (f := v64) q_x), (lenV (f := v64) q_y), (lenV (f := v64) q_z), trivial⟩ (AllSrc.all (M := ents b3 0 [(4, e64 q_x.toList), (4, e64 q_y.toList), (4, e64 q_z.toList)]) ⟨Src.own (j := 0) rfl, Src.own (j := 1) rfl, Src.own (j := 2) rfl, trivial⟩)) Try.isAgg64 TryI.inf64 rfl (by simp [flat])), trivial⟩ (fun w' hs' => ⟨(), rfl, Step.left (Step.pulled (is := []) (A := []) hs' rfl)⟩)
 ·replace H := ite_f (Bool.eq_false_iff.1 hc) H
  refine TC_seq ?_
  refine TC_region ?_
  refine TLv (V_fieldE rfl Try.underlying64 rfl rfl TryI.inf57 rfl (v := ptr (some (b2, 8)) 0) rfl) ?_
  refine TLv (V_lag (.o 5) Try.isAgg57 TryI.inf57) ?_
  obtain ⟨r_2, hr_2, H⟩ := bind_elim H
  refine TLe (E_c0 (F43_calls q_z r_2 hr_2) Try.call43 .z) (fun g_2 => ?_)
  refine TLv (V_assign rfl) ?_
  refine TL_nil ?_
  refine TX_next ?_
  refine TC_cond (b := r_2) rfl (fun hc => ?_) (fun hc => ?_)
  ·replace H := ite_t hc H
   refine TC_seq ?_
   refine TC_region ?_
   refine TLv (V_loadAgg (n := 12) (cs := flat [(4, e64 p_x.toList), (4, e64 p_y.toList), (4, e64 p_z.toList)]) rfl (by simp) (SrcEnts (b := b1) [(4, e64 p_x.toList), (4, e64 p_y.toList), (4, e64 p_z.toList)] 0 ⟨(lenV (f := v64) p_x), (lenV (f := v64) p_y), (lenV (f := v64) p_z), trivial⟩ (AllSrc.all (M := ents b1 0 [(4, e64 p_x.toList), (4, e64 p_y.toList), (4, e64 p_z.toList)]) ⟨Src.own (j := 6) rfl, Src.own (j := 7) rfl, Src.own (j := 8) rfl, trivial⟩)) Try.isAgg64 TryI.inf64 rfl (flat_len ⟨(lenV (f := v64) p_x), (lenV (f := v64) p_y), (lenV (f := v64) p_z), trivial⟩ rfl)) ?_
   refine TLn (E_sp (b := b3) (o := 0) [0, 0, 0] [(4, e64 ((replicate 4 0#64).toList)), (4, e64 ((replicate 4 0#64).toList)), (4, e64 ((replicate 4 0#64).toList))] [(4, e64 p_x.toList), (4, e64 p_y.toList), (4, e64 p_z.toList)] rfl TryI.inf64 ⟨(lenV (f := v64) (replicate 4 0#64)), (lenV (f := v64) (replicate 4 0#64)), (lenV (f := v64) (replicate 4 0#64)), trivial⟩ ⟨(lenV (f := v64) p_x), (lenV (f := v64) p_y), (lenV (f := v64) p_z), trivial⟩ ⟨(OneC.map (fun _ => rfl) _), (OneC.map (fun _ => rfl) _), (OneC.map (fun _ => rfl) _), trivial⟩) (fun _ => ?_)
   refine TL_nil ?_
   refine TX_next ?_
   refine TC_ret ?_
   refine TX_block_ret ?_
   refine TX_then_ret ?_
   have hrv := Option.some.inj H
   subst hrv
   exact TX_ret (rs := [.cell 6 64]) (vs := [aG [(4, e64 p_x.toList), (4, e64 p_y.toList), (4, e64 p_z.toList)]]) rfl ⟨(Res_agg (n := 12) (cs := flat [(4, e64 p_x.toList), (4, e64 p_y.toList), (4, e64 p_z.toList)]) rfl (by simp) (SrcEnts (b := b3) [(4, e64 p_x.toList), (4, e64 p_y.toList), (4, e64 p_z.toList)] 0 ⟨(lenV (f := v64) p_x), (lenV (f := v64) p_y), (lenV (f := v64) p_z), trivial⟩ (AllSrc.all (M := ents b3 0 [(4, e64 p_x.toList), (4, e64 p_y.toList), (4, e64 p_z.toList)]) ⟨Src.own (j := 0) rfl, Src.own (j := 1) rfl, Src.own (j := 2) rfl, trivial⟩)) Try.isAgg64 TryI.inf64 rfl (by simp [flat])), trivial⟩ (fun w' hs' => ⟨(), rfl, Step.left (Step.pulled (is := []) (A := []) hs' rfl)⟩)
  ·replace H := ite_f (Bool.eq_false_iff.1 hc) H
   refine TC_skip ?_
   refine TX_block_normal ?_
   refine TX_next ?_
   refine TC_seq ?_
   obtain ⟨r_3, hr_3, H⟩ := bind_elim H
   obtain ⟨r_4, hr_4, H⟩ := bind_elim H
   refine TA_begin [] 22 (by kernel_rfl) (N := 22) rfl ?_
   refine TA_mix (is := []) (done' := dn 22 1048575) [itV 0 30 (ptr (some (bc, obc)) 0) [], itV 1 31 (ptr (some (bc, obc)) 0) [0], itV 2 32 (ptr (some (bc, obc)) 0) [1], itV 3 33 (ptr (some (bc_Field, obc_Field)) 0) [2], itV 4 34 (ptr (some (b1, 8)) 0) [], itV 5 35 (aG [(4, e64 p_z.toList)]) [4], itV 6 36 (ptr (some (b1, 8)) 0) [], itV 7 37 (aG [(4, e64 p_z.toList)]) [6], itV 8 38 (aG [(4, e64 r_3.toList)]) [3, 5, 7], itV 9 39 (ptr (some (bc, obc)) 0) [], itV 10 40 (ptr (some (bc, obc)) 0) [9], itV 11 41 (ptr (some (bc, obc)) 0) [10], itV 12 42 (ptr (some (bc_Field, obc_Field)) 0) [11], itV 13 43 (ptr (some (b2, 8)) 0) [], itV 14 44 (aG [(4, e64 q_z.toList)]) [13], itV 15 45 (ptr (some (b2, 8)) 0) [], itV 16 46 (aG [(4, e64 q_z.toList)]) [15], itV 17 47 (aG [(4, e64 r_4.toList)]) [12, 14, 16], itA64 18 7 4, itA64 19 8 4] [] 2 (by kernel_rfl) (QP.then QP.body) (by kernel_rfl) rfl (.v rfl (V_move rfl) (.v rfl (V_nilCheck rfl) (.v rfl (V_fe Try.underlying100 TryI.inf82) (.v rfl (V_load rfl (.r 0) rfl Try.isAgg82) (.v rfl (V_fe Try.underlying64 TryI.inf57) (.v rfl (V_lag (.o 8) Try.isAgg57 TryI.inf57) (.v rfl (V_fe Try.underlying64 TryI.inf57) (.v rfl (V_lag (.o 8) Try.isAgg57 TryI.inf57) (.e rfl (E_cu (F58_calls bc_Field obc_Field c_Field_M c_Field_inv c_Field_one c_Field_two p_z p_z r_3 hr_3) Try.call58 ⟨.r 2, .r 3, .r 4, .r 5, trivial⟩) (.v rfl (V_move rfl) (.v rfl (V_nilCheck rfl) (.v rfl (V_fe Try.underlying100 TryI.inf82) (.v rfl (V_load rfl (.r 0) rfl Try.isAgg82) (.v rfl (V_fe Try.underlying64 TryI.inf57) (.v rfl (V_lag (.o 5) Try.isAgg57 TryI.inf57) (.v rfl (V_fe Try.underlying64 TryI.inf57) (.v rfl (V_lag (.o 5) Try.isAgg57 TryI.inf57) (.e rfl (E_cu (F58_calls bc_Field obc_Field c_Field_M c_Field_inv c_Field_one c_Field_two q_z q_z r_4 hr_4) Try.call58 ⟨.r 2, .r 3, .r 4, .r 5, trivial⟩) (.c rfl (fun _ _ => (E_al64 4 TryI.inf57 TryI.zer57)) (.c rfl (fun _ _ => (E_al64 4 TryI.inf57 TryI.zer57)) .nil)))))))))))))))))))) .nil (by kernel_rfl) rfl (fun γ => ?_)
   refine TA_cut [(8, ptr (some ((γ 19), 0)) 0), (7, ptr (some ((γ 18), 0)) 0), (47, aG [(4, e64 r_4.toList)]), (38, aG [(4, e64 r_3.toList)]), (6, ptr (some (b3, 0)) 0), (5, ptr (some (b2, 0)) 0), (4, ptr (some (b1, 0)) 0), (0, ptr (some (bc, obc)) 0)] [⟨some ((γ 19), 0), e64 ((replicate 4 0#64).toList)⟩, ⟨some ((γ 18), 0), e64 ((replicate 4 0#64).toList)⟩, ⟨some (b3, 0), e64 ((replicate 4 0#64).toList)⟩, ⟨some (b3, 4), e64 ((replicate 4 0#64).toList)⟩, ⟨some (b3, 8), e64 ((replicate 4 0#64).toList)⟩, ⟨some (b2, 0), e64 q_x.toList⟩, ⟨some (b2, 4), e64 q_y.toList⟩, ⟨some (b2, 8), e64 q_z.toList⟩, ⟨some (b1, 0), e64 p_x.toList⟩, ⟨some (b1, 4), e64 p_y.toList⟩, ⟨some (b1, 8), e64 p_z.toList⟩] ⟨rfl, rfl, rfl, rfl, rfl, rfl, rfl, rfl, trivial⟩ rfl ?_
   generalize γ 18 = b4
   generalize γ 19 = b5
   refine TA_all (rs := [20]) (by kernel_rfl) rfl ?_
   refine ⟨?_, trivial⟩
   refine TO_n (is := []) (done' := dn 22 2097151) rfl rfl rfl (by kernel_rfl) (E_sv (vs := e64 r_3.toList) 1 TryI.inf57) (fun _ _ => rfl) (fun _ => ?_)
   refine TA_all (rs := [21]) (by kernel_rfl) rfl ?_
   refine ⟨?_, trivial⟩
   refine TO_n (is := []) (done' := dn 22 4194303) rfl rfl rfl (by kernel_rfl) (E_sv (vs := e64 r_4.toList) 0 TryI.inf57) (fun _ _ => rfl) (fun _ => ?_)
   refine TA_done (by kernel_rfl) ?_ 0
   refine TX_next ?_
   refine TC_seq ?_
   obtain ⟨r_5, hr_5, H⟩ := bind_elim H
   obtain ⟨r_6, hr_6, H⟩ := bind_elim H
   refine TA_begin [] 20 (by kernel_rfl) (N := 20) rfl ?_
   refine TA_mix (is := []) (done' := dn 20 262143) [itV 0 48 (ptr (some (bc, obc)) 0) [], itV 1 49 (ptr (some (bc, obc)) 0) [0], itV 2 50 (ptr (some (bc, obc)) 0) [1], itV 3 51 (ptr (some (bc_Field, obc_Field)) 0) [2], itV 4 52 (ptr (some (b1, 0)) 0) [], itV 5 53 (aG [(4, e64 p_x.toList)]) [4], itV 6 54 (aG [(4, e64 r_4.toList)]) [], itV 7 55 (aG [(4, e64 r_5.toList)]) [3, 5, 6], itV 8 56 (ptr (some (bc, obc)) 0) [], itV 9 57 (ptr (some (bc, obc)) 0) [8], itV 10 58 (ptr (some (bc, obc)) 0) [9], itV 11 59 (ptr (some (bc_Field, obc_Field)) 0) [10], itV 12 60 (ptr (some (b2, 0)) 0) [], itV 13 61 (aG [(4, e64 q_x.toList)]) [12], itV 14 62 (aG [(4, e64 r_3.toList)]) [], itV 15 63 (aG [(4, e64 r_6.toList)]) [11, 13, 14], itA64 16 9 4, itA64 17 10 4] [] 2 (by kernel_rfl) (QP.then QP.body) (by kernel_rfl) rfl (.v rfl (V_move rfl) (.v rfl (V_nilCheck rfl) (.v rfl (V_fe Try.underlying100 TryI.inf82) (.v rfl (V_load rfl (.r 0) rfl Try.isAgg82) (.v rfl (V_fe Try.underlying64 TryI.inf57) (.v rfl (V_lag (.o 8) Try.isAgg57 TryI.inf57) (.v rfl (V_lag (.o 0) Try.isAgg57 TryI.inf57) (.e rfl (E_cu (F58_calls bc_Field obc_Field c_Field_M c_Field_inv c_Field_one c_Field_two p_x r_4 r_5 hr_5) Try.call58 ⟨.r 2, .r 3, .r 4, .r 5, trivial⟩) (.v rfl (V_move rfl) (.v rfl (V_nilCheck rfl) (.v rfl (V_fe Try.underlying100 TryI.inf82) (.v rfl (V_load rfl (.r 0) rfl Try.isAgg82) (.v rfl (V_fe Try.underlying64 TryI.inf57) (.v rfl (V_lag (.o 5) Try.isAgg57 TryI.inf57) (.v rfl (V_lag (.o 1) Try.isAgg57 TryI.inf57) (.e rfl (E_cu (F58_calls bc_Field obc_Field c_Field_M c_Field_inv c_Field_one c_Field_two q_x r_3 r_6 hr_6) Try.call58 ⟨.r 2, .r 3, .r 4, .r 5, trivial⟩) (.c rfl (fun _ _ => (E_al64 4 TryI.inf57 TryI.zer57)) (.c rfl (fun _ _ => (E_al64 4 TryI.inf57 TryI.zer57)) .nil)))))))))))))))))) .nil (by kernel_rfl) rfl (fun γ => ?_)
   refine TA_cut [(10, ptr (some ((γ 17), 0)) 0), (9, ptr (some ((γ 16), 0)) 0), (63, aG [(4, e64 r_6.toList)]), (55, aG [(4, e64 r_5.toList)]), (8, ptr (some (b5, 0)) 0), (7, ptr (some (b4, 0)) 0), (6, ptr (some (b3, 0)) 0), (5, ptr (some (b2, 0)) 0), (4, ptr (some (b1, 0)) 0), (0, ptr (some (bc, obc)) 0)] [⟨some ((γ 17), 0), e64 ((replicate 4 0#64).toList)⟩, ⟨some ((γ 16), 0), e64 ((replicate 4 0#64).toList)⟩, ⟨some (b5, 0), e64 r_4.toList⟩, ⟨some (b4, 0), e64 r_3.toList⟩, ⟨some (b3, 0), e64 ((replicate 4 0#64).toList)⟩, ⟨some (b3, 4), e64 ((replicate 4 0#64).toList)⟩, ⟨some (b3, 8), e64 ((replicate 4 0#64).toList)⟩, ⟨some (b2, 0), e64 q_x.toList⟩, ⟨some (b2, 4), e64 q_y.toList⟩, ⟨some (b2, 8), e64 q_z.toList⟩, ⟨some (b1, 0), e64 p_x.toList⟩, ⟨some (b1, 4), e64 p_y.toList⟩, ⟨some (b1, 8), e64 p_z.toList⟩] ⟨rfl, rfl, rfl, rfl, rfl, rfl, rfl, rfl, rfl, rfl, trivial⟩ rfl ?_
   generalize γ 16 = b6
   generalize γ 17 = b7
   refine TA_all (rs := [18]) (by kernel_rfl) rfl ?_
   refine ⟨?_, trivial⟩
   refine TO_n (is := []) (done' := dn 20 524287) rfl rfl rfl (by kernel_rfl) (E_sv (vs := e64 r_5.toList) 1 TryI.inf57) (fun _ _ => rfl) (fun _ => ?_)
   refine TA_all (rs := [19]) (by kernel_rfl) rfl ?_
   refine ⟨?_, trivial⟩
   refine TO_n (is := []) (done' := dn 20 1048575) rfl rfl rfl (by kernel_rfl) (E_sv (vs := e64 r_6.toList) 0 TryI.inf57) (fun _ _ => rfl) (fun _ => ?_)
   refine TA_done (by kernel_rfl) ?_ 0
   refine TX_next ?_
   refine TC_seq ?_
   obtain ⟨r_7, hr_7, H⟩ := bind_elim H
   obtain ⟨r_8, hr_8, H⟩ := bind_elim H
   obtain ⟨r_9, hr_9, H⟩ := bind_elim H
   obtain ⟨r_10, hr_10, H⟩ := bind_elim H
   refine TA_begin [] 34 (by kernel_rfl) (N := 34) rfl ?_
   refine TA_mix (is := []) (done' := dn 34 4294967295) [itV 0 64 (ptr (some (bc, obc)) 0) [], itV 1 65 (ptr (some (bc, obc)) 0) [0], itV 2 66 (ptr (some (bc, obc)) 0) [1], itV 3 67 (ptr (some (bc_Field, obc_Field)) 0) [2], itV 4 68 (ptr (some (b1, 4)) 0) [], itV 5 69 (aG [(4, e64 p_y.toList)]) [4], itV 6 70 (ptr (some (bc, obc)) 0) [], itV 7 71 (ptr (some (bc, obc)) 0) [6], itV 8 72 (ptr (some (bc, obc)) 0) [7], itV 9 73 (ptr (some (bc_Field, obc_Field)) 0) [8], itV 10 74 (ptr (some (b2, 8)) 0) [], itV 11 75 (aG [(4, e64 q_z.toList)]) [10], itV 12 76 (aG [(4, e64 r_4.toList)]) [], itV 13 77 (aG [(4, e64 r_7.toList)]) [9, 11, 12], itV 14 78 (aG [(4, e64 r_8.toList)]) [3, 13, 5], itV 15 79 (ptr (some (bc, obc)) 0) [], itV 16 80 (ptr (some (bc, obc)) 0) [15], itV 17 81 (ptr (some (bc, obc)) 0) [16], itV 18 82 (ptr (some (bc_Field, obc_Field)) 0) [17], itV 19 83 (ptr (some (b2, 4)) 0) [], itV 20 84 (aG [(4, e64 q_y.toList)]) [19], itV 21 85 (ptr (some (bc, obc)) 0) [], itV 22 86 (ptr (some (bc, obc)) 0) [21], itV 23 87 (ptr (some (bc, obc)) 0) [22], itV 24 88 (ptr (some (bc_Field, obc_Field)) 0) [23], itV 25 89 (ptr (some (b1, 8)) 0) [], itV 26 90 (aG [(4, e64 p_z.toList)]) [25], itV 27 91 (aG [(4, e64 r_3.toList)]) [], itV 28 92 (aG [(4, e64 r_9.toList)]) [24, 26, 27], itV 29 93 (aG [(4, e64 r_10.toList)]) [18, 20, 28], itA64 30 11 4, itA64 31 12 4] [] 2 (by kernel_rfl) (QP.then QP.body) (by kernel_rfl) rfl (.v rfl (V_move rfl) (.v rfl (V_nilCheck rfl) (.v rfl (V_fe Try.underlying100 TryI.inf82) (.v rfl (V_load rfl (.r 0) rfl Try.isAgg82) (.v rfl (V_fe Try.underlying64 TryI.inf57) (.v rfl (V_lag (.o 11) Try.isAgg57 TryI.inf57) (.v rfl (V_move rfl) (.v rfl (V_nilCheck rfl) (.v rfl (V_fe Try.underlying100 TryI.inf82) (.v rfl (V_load rfl (.r 0) rfl Try.isAgg82) (.v rfl (V_fe Try.underlying64 TryI.inf57) (.v rfl (V_lag (.o 9) Try.isAgg57 TryI.inf57) (.v rfl (V_lag (.o 2) Try.isAgg57 TryI.inf57) (.e rfl (E_cu (F58_calls bc_Field obc_Field c_Field_M c_Field_inv c_Field_one c_Field_two q_z r_4 r_7 hr_7) Try.call58 ⟨.r 2, .r 3, .r 4, .r 5, trivial⟩) (.e rfl (E_cu (F58_calls bc_Field obc_Field c_Field_M c_Field_inv c_Field_one c_Field_two p_y r_7 r_8 hr_8) Try.call58 ⟨.r 2, .r 3, .r 4, .r 5, trivial⟩) (.v rfl (V_move rfl) (.v rfl (V_nilCheck rfl) (.v rfl (V_fe Try.underlying100 TryI.inf82) (.v rfl (V_load rfl (.r 0) rfl Try.isAgg82) (.v rfl (V_fe Try.underlying64 TryI.inf57) (.v rfl (V_lag (.o 8) Try.isAgg57 TryI.inf57) (.v rfl (V_move rfl) (.v rfl (V_nilCheck rfl) (.v rfl (V_fe Try.underlying100 TryI.inf82) (.v rfl (V_load rfl (.r 0) rfl Try.isAgg82) (.v rfl (V_fe Try.underlying64 TryI.inf57) (.v rfl (V_lag (.o 12) Try.isAgg57 TryI.inf57) (.v rfl (V_lag (.o 3) Try.isAgg57 TryI.inf57) (.e rfl (E_cu (F58_calls bc_Field obc_Field c_Field_M c_Field_inv c_Field_one c_Field_two p_z r_3 r_9 hr_9) Try.call58 ⟨.r 2, .r 3, .r 4, .r 5, trivial⟩) (.e rfl (E_cu (F58_calls bc_Field obc_Field c_Field_M c_Field_inv c_Field_one c_Field_two q_y r_9 r_10 hr_10) Try.call58 ⟨.r 2, .r 3, .r 4, .r 5, trivial⟩) (.c rfl (fun _ _ => (E_al64 4 TryI.inf57 TryI.zer57)) (.c rfl (fun _ _ => (E_al64 4 TryI.inf57 TryI.zer57)) .nil)))))))))))))))))))))))))))))))) .nil (by kernel_rfl) rfl (fun γ => ?_)
   refine TA_cut [(12, ptr (some ((γ 31), 0)) 0), (11, ptr (some ((γ 30), 0)) 0), (93, aG [(4, e64 r_10.toList)]), (78, aG [(4, e64 r_8.toList)]), (10, ptr (some (b7, 0)) 0), (9, ptr (some (b6, 0)) 0), (6, ptr (some (b3, 0)) 0), (5, ptr (some (b2, 0)) 0), (4, ptr (some (b1, 0)) 0), (0, ptr (some (bc, obc)) 0)] [⟨some ((γ 31), 0), e64 ((replicate 4 0#64).toList)⟩, ⟨some ((γ 30), 0), e64 ((replicate 4 0#64).toList)⟩, ⟨some (b7, 0), e64 r_6.toList⟩, ⟨some (b6, 0), e64 r_5.toList⟩, ⟨some (b5, 0), e64 r_4.toList⟩, ⟨some (b4, 0), e64 r_3.toList⟩, ⟨some (b3, 0), e64 ((replicate 4 0#64).toList)⟩, ⟨some (b3, 4), e64 ((replicate 4 0#64).toList)⟩, ⟨some (b3, 8), e64 ((replicate 4 0#64).toList)⟩, ⟨some (b2, 0), e64 q_x.toList⟩, ⟨some (b2, 4), e64 q_y.toList⟩, ⟨some (b2, 8), e64 q_z.toList⟩, ⟨some (b1, 0), e64 p_x.toList⟩, ⟨some (b1, 4), e64 p_y.toList⟩, ⟨some (b1, 8), e64 p_z.toList⟩] ⟨rfl, rfl, rfl, rfl, rfl, rfl, rfl, rfl, rfl, rfl, trivial⟩ rfl ?_
   generalize γ 30 = b8
   generalize γ 31 = b9
   refine TA_all (rs := [32]) (by kernel_rfl) rfl ?_
   refine ⟨?_, trivial⟩
   refine TO_n (is := []) (done' := dn 34 8589934591) rfl rfl rfl (by kernel_rfl) (E_sv (vs := e64 r_8.toList) 1 TryI.inf57) (fun _ _ => rfl) (fun _ => ?_)
   refine TA_all (rs := [33]) (by kernel_rfl) rfl ?_
   refine ⟨?_, trivial⟩
   refine TO_n (is := []) (done' := dn 34 17179869183) rfl rfl rfl (by kernel_rfl) (E_sv (vs := e64 r_10.toList) 0 TryI.inf57) (fun _ _ => rfl) (fun _ => ?_)
   refine TA_done (by kernel_rfl) ?_ 0
   refine TX_next ?_
   refine TC_seq ?_
   obtain ⟨r_11, hr_11, H⟩ := bind_elim H
   obtain ⟨r_12, hr_12, H⟩ := bind_elim H
   refine TA_begin [] 18 (by kernel_rfl) (N := 18) rfl ?_
   refine TA_mix (is := []) (done' := dn 18 65535) [itV 0 94 (ptr (some (bc, obc)) 0) [], itV 1 95 (ptr (some (bc, obc)) 0) [0], itV 2 96 (ptr (some (bc, obc)) 0) [1], itV 3 97 (ptr (some (bc_Field, obc_Field)) 0) [2], itV 4 98 (aG [(4, e64 r_6.toList)]) [], itV 5 99 (aG [(4, e64 r_5.toList)]) [], itV 6 100 (aG [(4, e64 r_11.toList)]) [3, 4, 5], itV 7 101 (ptr (some (bc, obc)) 0) [], itV 8 102 (ptr (some (bc, obc)) 0) [7], itV 9 103 (ptr (some (bc, obc)) 0) [8], itV 10 104 (ptr (some (bc_Field, obc_Field)) 0) [9], itV 11 105 (aG [(4, e64 r_10.toList)]) [], itV 12 106 (aG [(4, e64 r_8.toList)]) [], itV 13 107 (aG [(4, e64 r_12.toList)]) [10, 11, 12], itA64 14 13 4, itA64 15 14 4] [] 2 (by kernel_rfl) (QP.then QP.body) (by kernel_rfl) rfl (.v rfl (V_move rfl) (.v rfl (V_nilCheck rfl) (.v rfl (V_fe Try.underlying100 TryI.inf82) (.v rfl (V_load rfl (.r 0) rfl Try.isAgg82) (.v rfl (V_lag (.o 2) Try.isAgg57 TryI.inf57) (.v rfl (V_lag (.o 3) Try.isAgg57 TryI.inf57) (.e rfl (E_cu (F77_calls bc_Field obc_Field c_Field_M c_Field_inv c_Field_one c_Field_two r_6 r_5 r_11 hr_11) Try.call77 ⟨.r 2, .r 3, .r 4, .r 5, trivial⟩) (.v rfl (V_move rfl) (.v rfl (V_nilCheck rfl) (.v rfl (V_fe Try.underlying100 TryI.inf82) (.v rfl (V_load rfl (.r 0) rfl Try.isAgg82) (.v rfl (V_lag (.o 0) Try.isAgg57 TryI.inf57) (.v rfl (V_lag (.o 1) Try.isAgg57 TryI.inf57) (.e rfl (E_cu (F77_calls bc_Field obc_Field c_Field_M c_Field_inv c_Field_one c_Field_two r_10 r_8 r_12 hr_12) Try.call77 ⟨.r 2, .r 3, .r 4, .r 5, trivial⟩) (.c rfl (fun _ _ => (E_al64 4 TryI.inf57 TryI.zer57)) (.c rfl (fun _ _ => (E_al64 4 TryI.inf57 TryI.zer57)) .nil)))))))))))))))) .nil (by kernel_rfl) rfl (fun γ => ?_)
   refine TA_cut [(14, ptr (some ((γ 15), 0)) 0), (13, ptr (some ((γ 14), 0)) 0), (107, aG [(4, e64 r_12.toList)]), (100, aG [(4, e64 r_11.toList)]), (11, ptr (some (b8, 0)) 0), (9, ptr (some (b6, 0)) 0), (6, ptr (some (b3, 0)) 0), (5, ptr (some (b2, 0)) 0), (4, ptr (some (b1, 0)) 0), (0, ptr (some (bc, obc)) 0)] [⟨some ((γ 15), 0), e64 ((replicate 4 0#64).toList)⟩, ⟨some ((γ 14), 0), e64 ((replicate 4 0#64).toList)⟩, ⟨some (b9, 0), e64 r_10.toList⟩, ⟨some (b8, 0), e64 r_8.toList⟩, ⟨some (b7, 0), e64 r_6.toList⟩, ⟨some (b6, 0), e64 r_5.toList⟩, ⟨some (b5, 0), e64 r_4.toList⟩, ⟨some (b4, 0), e64 r_3.toList⟩, ⟨some (b3, 0), e64 ((replicate 4 0#64).toList)⟩, ⟨some (b3, 4), e64 ((replicate 4 0#64).toList)⟩, ⟨some (b3, 8), e64 ((replicate 4 0#64).toList)⟩, ⟨some (b2, 0), e64 q_x.toList⟩, ⟨some (b2, 4), e64 q_y.toList⟩, ⟨some (b2, 8), e64 q_z.toList⟩, ⟨some (b1, 0), e64 p_x.toList⟩, ⟨some (b1, 4), e64 p_y.toList⟩, ⟨some (b1, 8), e64 p_z.toList⟩] ⟨rfl, rfl, rfl, rfl, rfl, rfl, rfl, rfl, rfl, rfl, trivial⟩ rfl ?_
   generalize γ 14 = b10
   generalize γ 15 = b11
   refine TA_all (rs := [16]) (by kernel_rfl) rfl ?_
   refine ⟨?_, trivial⟩
   refine TO_n (is := []) (done' := dn 18 131071) rfl rfl rfl (by kernel_rfl) (E_sv (vs := e64 r_11.toList) 1 TryI.inf57) (fun _ _ => rfl) (fun _ => ?_)
   refine TA_all (rs := [17]) (by kernel_rfl) rfl ?_
   refine ⟨?_, trivial⟩
   refine TO_n (is := []) (done' := dn 18 262143) rfl rfl rfl (by kernel_rfl) (E_sv (vs := e64 r_12.toList) 0 TryI.inf57) (fun _ _ => rfl) (fun _ => ?_)
   refine TA_done (by kernel_rfl) ?_ 0
   refine TX_next ?_
   refine TC_seq ?_
   refine TC_seq ?_
   refine TC_region ?_
   refine TLv (V_lag (.o 1) Try.isAgg57 TryI.inf57) ?_
   obtain ⟨r_13, hr_13, H⟩ := bind_elim H
   refine TLe (E_c0 (F43_calls r_11 r_13 hr_13) Try.call43 .z) (fun g_13 => ?_)
   refine TL_nil ?_
   refine TX_next ?_
   refine TC_cond (b := r_13) rfl (fun hc => ?_) (fun hc => ?_)
   ·replace H := ite_t hc H
    refine TC_seq ?_
    refine TC_seq ?_
    refine TC_region ?_
    refine TLv (V_lag (.o 0) Try.isAgg57 TryI.inf57) ?_
    obtain ⟨r_14, hr_14, H⟩ := bind_elim H
    refine TLe (E_c0 (F43_calls r_12 r_14 hr_14) Try.call43 .z) (fun g_14 => ?_)
    refine TL_nil ?_
    refine TX_next ?_
    refine TC_cond (b := r_14) rfl (fun hc => ?_) (fun hc => ?_)
    ·replace H := ite_t hc H
     refine TC_seq ?_
     refine TC_region ?_
     refine TLv (V_move rfl) ?_
     refine TLv (V_loadAgg (n := 12) (cs := flat [(4, e64 p_x.toList), (4, e64 p_y.toList), (4, e64 p_z.toList)]) rfl (by simp) (SrcEnts (b := b1) [(4, e64 p_x.toList), (4, e64 p_y.toList), (4, e64 p_z.toList)] 0 ⟨(lenV (f := v64) p_x), (lenV (f := v64) p_y), (lenV (f := v64) p_z), trivial⟩ (AllSrc.all (M := ents b1 0 [(4, e64 p_x.toList), (4, e64 p_y.toList), (4, e64 p_z.toList)]) ⟨Src.own (j := 14) rfl, Src.own (j := 15) rfl, Src.own (j := 16) rfl, trivial⟩)) Try.isAgg64 TryI.inf64 rfl (flat_len ⟨(lenV (f := v64) p_x), (lenV (f := v64) p_y), (lenV (f := v64) p_z), trivial⟩ rfl)) ?_
     obtain ⟨r_15, hr_15, H⟩ := bind_elim H
     refine TLe (E_c0 (F74_calls bc obc bc_Field obc_Field c_Field_M c_Field_inv c_Field_one c_Field_two c_b p_x p_y p_z r_15 hr_15) Try.call74 ⟨.r 0, .r 1, .r 2, .r 3, .r 4, .r 5, trivial⟩) (fun g_15 => ?_)
     refine TLn (E_sp (b := b3) (o := 0) [8, 8, 8] [(4, e64 ((replicate 4 0#64).toList)), (4, e64 ((replicate 4 0#64).toList)), (4, e64 ((replicate 4 0#64).toList))] [(4, e64 r_15.1.toList), (4, e64 r_15.2.1.toList), (4, e64 r_15.2.2.toList)] rfl TryI.inf64 ⟨(lenV (f := v64) (replicate 4 0#64)), (lenV (f := v64) (replicate 4 0#64)), (lenV (f := v64) (replicate 4 0#64)), trivial⟩ ⟨(lenV (f := v64) r_15.1), (lenV (f := v64) r_15.2.1), (lenV (f := v64) r_15.2.2), trivial⟩ ⟨(OneC.map (fun _ => rfl) _), (OneC.map (fun _ => rfl) _), (OneC.map (fun _ => rfl) _), trivial⟩) (fun _ => ?_)
     refine TL_nil ?_
     refine TX_next ?_
     refine TC.sub (m' := [(6, ptr (some (b3, 0)) 0)]) ⟨rfl, trivial⟩ ?_
     refine TC.pull (is := [0, 0, 0]) (L' := [⟨some (b3, 0), e64 r_15.1.toList⟩, ⟨some (b3, 4), e64 r_15.2.1.toList⟩, ⟨some (b3, 8), e64 r_15.2.2.toList⟩]) rfl ?_
     refine TC_ret ?_
     refine TX_then_ret ?_
     refine TX_then_ret ?_
     have hrv := Option.some.inj H
     subst hrv
     exact TX_ret (rs := [.cell 6 64]) (vs := [aG [(4, e64 r_15.1.toList), (4, e64 r_15.2.1.toList), (4, e64 r_15.2.2.toList)]]) rfl ⟨(Res_agg (n := 12) (cs := flat [(4, e64 r_15.1.toList), (4, e64 r_15.2.1.toList), (4, e64 r_15.2.2.toList)]) rfl (by simp) (SrcEnts (b := b3) [(4, e64 r_15.1.toList), (4, e64 r_15.2.1.toList), (4, e64 r_15.2.2.toList)] 0 ⟨(lenV (f := v64) r_15.1), (lenV (f := v64) r_15.2.1), (lenV (f := v64) r_15.2.2), trivial⟩ (AllSrc.all (M := ents b3 0 [(4, e64 r_15.1.toList), (4, e64 r_15.2.1.toList), (4, e64 r_15.2.2.toList)]) ⟨Src.own (j := 0) rfl, Src.own (j := 1) rfl, Src.own (j := 2) rfl, trivial⟩)) Try.isAgg64 TryI.inf64 rfl (by simp [flat])), trivial⟩ (fun w' hs' => ⟨(), rfl, Step.left (Step.pulled (is := []) (A := []) hs' rfl)⟩)
    ·replace H := ite_f (Bool.eq_false_iff.1 hc) H
     refine TC_skip ?_
     refine TX_next ?_
     refine TC_seq ?_
     refine TC_region ?_
     refine TLv (V_buildStruct (pv := []) (pl := [(0, 4), (4, 4), (8, 4)]) rfl rfl Try.underlying64 TryI.inf64 TryI.places64 TryI.zer64 (cs := flat [(4, e64 ((replicate 4 0#64).toList)), (4, e64 ((replicate 4 0#64).toList)), (4, e64 ((replicate 4 0#64).toList))]) fill_end) ?_
     refine TLn (E_sp (b := b3) (o := 0) [8, 8, 8] [(4, e64 ((replicate 4 0#64).toList)), (4, e64 ((replicate 4 0#64).toList)), (4, e64 ((replicate 4 0#64).toList))] [(4, e64 ((replicate 4 0#64).toList)), (4, e64 ((replicate 4 0#64).toList)), (4, e64 ((replicate 4 0#64).toList))] rfl TryI.inf64 ⟨(lenV (f := v64) (replicate 4 0#64)), (lenV (f := v64) (replicate 4 0#64)), (lenV (f := v64) (replicate 4 0#64)), trivial⟩ ⟨(lenV (f := v64) (replicate 4 0#64)), (lenV (f := v64) (replicate 4 0#64)), (lenV (f := v64) (replicate 4 0#64)), trivial⟩ ⟨(OneC.map (fun _ => rfl) _), (OneC.map (fun _ => rfl) _), (OneC.map (fun _ => rfl) _), trivial⟩) (fun _ => ?_)
     refine TL_nil ?_
     refine TX_next ?_
     refine TC_ret ?_
     refine TX_then_ret ?_
     have hrv := Option.some.inj H
     subst hrv
     exact TX_ret (rs := [.cell 6 64]) (vs := [aG [(4, e64 ((replicate 4 0#64).toList)), (4, e64 ((replicate 4 0#64).toList)), (4, e64 ((replicate 4 0#64).toList))]]) rfl ⟨(Res_agg (n := 12) (cs := flat [(4, e64 ((replicate 4 0#64).toList)), (4, e64 ((replicate 4 0#64).toList)), (4, e64 ((replicate 4 0#64).toList))]) rfl (by simp) (SrcEnts (b := b3) [(4, e64 ((replicate 4 0#64).toList)), (4, e64 ((replicate 4 0#64).toList)), (4, e64 ((replicate 4 0#64).toList))] 0 ⟨(lenV (f := v64) (replicate 4 0#64)), (lenV (f := v64) (replicate 4 0#64)), (lenV (f := v64) (replicate 4 0#64)), trivial⟩ (AllSrc.all (M := ents b3 0 [(4, e64 ((replicate 4 0#64).toList)), (4, e64 ((replicate 4 0#64).toList)), (4, e64 ((replicate 4 0#64).toList))]) ⟨Src.own (j := 0) rfl, Src.own (j := 1) rfl, Src.own (j := 2) rfl, trivial⟩)) Try.isAgg64 TryI.inf64 rfl (by simp [flat])), trivial⟩ (fun w' hs' => ⟨(), rfl, Step.left (Step.pulled (is := []) (A := []) hs' rfl)⟩)
   ·replace H := ite_f (Bool.eq_false_iff.1 hc) H
    refine TC_skip ?_
    refine TX_next ?_
    refine TC_seq ?_
    obtain ⟨r_16, hr_16, H⟩ := bind_elim H
    refine TA_begin [] 9 (by kernel_rfl) (N := 9) rfl ?_
    refine TA_mix (is := []) (done' := dn 9 255) [itV 0 116 (ptr (some (bc, obc)) 0) [], itV 1 117 (ptr (some (bc, obc)) 0) [0], itV 2 118 (ptr (some (bc, obc)) 0) [1], itV 3 119 (ptr (some (bc_Field, obc_Field)) 0) [2], itV 4 120 (aG [(4, e64 r_11.toList)]) [], itV 5 121 (aG [(4, e64 r_11.toList)]) [], itV 6 122 (aG [(4, e64 r_16.toList)]) [4, 5, 3], itA64 7 15 4] [] 1 (by kernel_rfl) (QP.then QP.body) (by kernel_rfl) rfl (.v rfl (V_move rfl) (.v rfl (V_nilCheck rfl) (.v rfl (V_fe Try.underlying100 TryI.inf82) (.v rfl (V_load rfl (.r 0) rfl Try.isAgg82) (.v rfl (V_lag (.o 1) Try.isAgg57 TryI.inf57) (.v rfl (V_lag (.o 1) Try.isAgg57 TryI.inf57) (.e rfl (E_cu (F58_calls bc_Field obc_Field c_Field_M c_Field_inv c_Field_one c_Field_two r_11 r_11 r_16 hr_16) Try.call58 ⟨.r 2, .r 3, .r 4, .r 5, trivial⟩) (.c rfl (fun _ _ => (E_al64 4 TryI.inf57 TryI.zer57)) .nil)))))))) .nil (by kernel_rfl) rfl (fun γ => ?_)
    refine TA_cut [(15, ptr (some ((γ 7), 0)) 0), (122, aG [(4, e64 r_16.toList)]), (14, ptr (some (b11, 0)) 0), (13, ptr (some (b10, 0)) 0), (11, ptr (some (b8, 0)) 0), (9, ptr (some (b6, 0)) 0), (6, ptr (some (b3, 0)) 0), (5, ptr (some (b2, 0)) 0), (4, ptr (some (b1, 0)) 0), (0, ptr (some (bc, obc)) 0)] [⟨some ((γ 7), 0), e64 ((replicate 4 0#64).toList)⟩, ⟨some (b11, 0), e64 r_12.toList⟩, ⟨some (b10, 0), e64 r_11.toList⟩, ⟨some (b9, 0), e64 r_10.toList⟩, ⟨some (b8, 0), e64 r_8.toList⟩, ⟨some (b7, 0), e64 r_6.toList⟩, ⟨some (b6, 0), e64 r_5.toList⟩, ⟨some (b5, 0), e64 r_4.toList⟩, ⟨some (b4, 0), e64 r_3.toList⟩, ⟨some (b3, 0), e64 ((replicate 4 0#64).toList)⟩, ⟨some (b3, 4), e64 ((replicate 4 0#64).toList)⟩, ⟨some (b3, 8), e64 ((replicate 4 0#64).toList)⟩, ⟨some (b2, 0), e64 q_x.toList⟩, ⟨some (b2, 4), e64 q_y.toList⟩, ⟨some (b2, 8), e64 q_z.toList⟩, ⟨some (b1, 0), e64 p_x.toList⟩, ⟨some (b1, 4), e64 p_y.toList⟩, ⟨some (b1, 8), e64 p_z.toList⟩] ⟨rfl, rfl, rfl, rfl, rfl, rfl, rfl, rfl, rfl, rfl, trivial⟩ rfl ?_
    generalize γ 7 = b12
    refine TA_all (rs := [8]) (by kernel_rfl) rfl ?_
    refine ⟨?_, trivial⟩
    refine TO_n (is := []) (done' := dn 9 511) rfl rfl rfl (by kernel_rfl) (E_sv (vs := e64 r_16.toList) 0 TryI.inf57) (fun _ _ => rfl) (fun _ => ?_)
    refine TA_done (by kernel_rfl) ?_ 0
    refine TX_next ?_
    refine TC_seq ?_
    obtain ⟨r_17, hr_17, H⟩ := bind_elim H
    obtain ⟨r_18, hr_18, H⟩ := bind_elim H
    refine TA_begin [] 18 (by kernel_rfl) (N := 18) rfl ?_
    refine TA_mix (is := []) (done' := dn 18 65535) [itV 0 123 (ptr (some (bc, obc)) 0) [], itV 1 124 (ptr (some (bc, obc)) 0) [0], itV 2 125 (ptr (some (bc, obc)) 0) [1], itV 3 126 (ptr (some (bc_Field, obc_Field)) 0) [2], itV 4 127 (aG [(4, e64 r_11.toList)]) [], itV 5 128 (aG [(4, e64 r_16.toList)]) [], itV 6 129 (aG [(4, e64 r_17.toList)]) [5, 3, 4], itV 7 130 (ptr (some (bc, obc)) 0) [], itV 8 131 (ptr (some (bc, obc)) 0) [7], itV 9 132 (ptr (some (bc, obc)) 0) [8], itV 10 133 (ptr (some (bc_Field, obc_Field)) 0) [9], itV 11 134 (aG [(4, e64 r_5.toList)]) [], itV 12 135 (aG [(4, e64 r_16.toList)]) [], itV 13 136 (aG [(4, e64 r_18.toList)]) [10, 11, 12], itA64 14 16 4, itA64 15 17 4] [] 2 (by kernel_rfl) (QP.then QP.body) (by kernel_rfl) rfl (.v rfl (V_move rfl) (.v rfl (V_nilCheck rfl) (.v rfl (V_fe Try.underlying100 TryI.inf82) (.v rfl (V_load rfl (.r 0) rfl Try.isAgg82) (.v rfl (V_lag (.o 2) Try.isAgg57 TryI.inf57) (.v rfl (V_lag (.o 0) Try.isAgg57 TryI.inf57) (.e rfl (E_cu (F58_calls bc_Field obc_Field c_Field_M c_Field_inv c_Field_one c_Field_two r_11 r_16 r_17 hr_17) Try.call58 ⟨.r 2, .r 3, .r 4, .r 5, trivial⟩) (.v rfl (V_move rfl) (.v rfl (V_nilCheck rfl) (.v rfl (V_fe Try.underlying100 TryI.inf82) (.v rfl (V_load rfl (.r 0) rfl Try.isAgg82) (.v rfl (V_lag (.o 6) Try.isAgg57 TryI.inf57) (.v rfl (V_lag (.o 0) Try.isAgg57 TryI.inf57) (.e rfl (E_cu (F58_calls bc_Field obc_Field c_Field_M c_Field_inv c_Field_one c_Field_two r_5 r_16 r_18 hr_18) Try.call58 ⟨.r 2, .r 3, .r 4, .r 5, trivial⟩) (.c rfl (fun _ _ => (E_al64 4 TryI.inf57 TryI.zer57)) (.c rfl (fun _ _ => (E_al64 4 TryI.inf57 TryI.zer57)) .nil)))))))))))))))) .nil (by kernel_rfl) rfl (fun γ => ?_)
    refine TA_cut [(17, ptr (some ((γ 15), 0)) 0), (16, ptr (some ((γ 14), 0)) 0), (136, aG [(4, e64 r_18.toList)]), (129, aG [(4, e64 r_17.toList)]), (14, ptr (some (b11, 0)) 0), (13, ptr (some (b10, 0)) 0), (11, ptr (some (b8, 0)) 0), (6, ptr (some (b3, 0)) 0), (5, ptr (some (b2, 0)) 0), (4, ptr (some (b1, 0)) 0), (0, ptr (some (bc, obc)) 0)] [⟨some ((γ 15), 0), e64 ((replicate 4 0#64).toList)⟩, ⟨some ((γ 14), 0), e64 ((replicate 4 0#64).toList)⟩, ⟨some (b12, 0), e64 r_16.toList⟩, ⟨some (b11, 0), e64 r_12.toList⟩, ⟨some (b10, 0), e64 r_11.toList⟩, ⟨some (b9, 0), e64 r_10.toList⟩, ⟨some (b8, 0), e64 r_8.toList⟩, ⟨some (b7, 0), e64 r_6.toList⟩, ⟨some (b6, 0), e64 r_5.toList⟩, ⟨some (b5, 0), e64 r_4.toList⟩, ⟨some (b4, 0), e64 r_3.toList⟩, ⟨some (b3, 0), e64 ((replicate 4 0#64).toList)⟩, ⟨some (b3, 4), e64 ((replicate 4 0#64).toList)⟩, ⟨some (b3, 8), e64 ((replicate 4 0#64).toList)⟩, ⟨some (b2, 0), e64 q_x.toList⟩, ⟨some (b2, 4), e64 q_y.toList⟩, ⟨some (b2, 8), e64 q_z.toList⟩, ⟨some (b1, 0), e64 p_x.toList⟩, ⟨some (b1, 4), e64 p_y.toList⟩, ⟨some (b1, 8), e64 p_z.toList⟩] ⟨rfl, rfl, rfl, rfl, rfl, rfl, rfl, rfl, rfl, rfl, rfl, trivial⟩ rfl ?_
    generalize γ 14 = b13
    generalize γ 15 = b14
    refine TA_all (rs := [16]) (by kernel_rfl) rfl ?_
    refine ⟨?_, trivial⟩
    refine TO_n (is := []) (done' := dn 18 131071) rfl rfl rfl (by kernel_rfl) (E_sv (vs := e64 r_17.toList) 1 TryI.inf57) (fun _ _ => rfl) (fun _ => ?_)
    refine TA_all (rs := [17]) (by kernel_rfl) rfl ?_
    refine ⟨?_, trivial⟩
    refine TO_n (is := []) (done' := dn 18 262143) rfl rfl rfl (by kernel_rfl) (E_sv (vs := e64 r_18.toList) 0 TryI.inf57) (fun _ _ => rfl) (fun _ => ?_)
    refine TA_done (by kernel_rfl) ?_ 0
    refine TX_next ?_
    refine TC_seq ?_
    obtain ⟨r_19, hr_19, H⟩ := bind_elim H
    obtain ⟨r_20, hr_20, H⟩ := bind_elim H
    obtain ⟨r_21, hr_21, H⟩ := bind_elim H
    obtain ⟨r_22, hr_22, H⟩ := bind_elim H
    refine TA_begin [] 27 (by kernel_rfl) (N := 27) rfl ?_
    refine TA_mix (is := []) (done' := dn 27 67108863) [itV 0 137 (ptr (some (bc, obc)) 0) [], itV 1 138 (ptr (some (bc, obc)) 0) [0], itV 2 139 (ptr (some (bc, obc)) 0) [1], itV 3 140 (ptr (some (bc_Field, obc_Field)) 0) [2], itV 4 141 (ptr (some (bc, obc)) 0) [], itV 5 142 (ptr (some (bc, obc)) 0) [4], itV 6 143 (ptr (some (bc, obc)) 0) [5], itV 7 144 (ptr (some (bc_Field, obc_Field)) 0) [6], itV 8 145 (ptr (some (bc, obc)) 0) [], itV 9 146 (ptr (some (bc, obc)) 0) [8], itV 10 147 (ptr (some (bc, obc)) 0) [9], itV 11 148 (ptr (some (bc_Field, obc_Field)) 0) [10], itV 12 149 (aG [(4, e64 r_12.toList)]) [], itV 13 150 (aG [(4, e64 r_12.toList)]) [], itV 14 151 (aG [(4, e64 r_19.toList)]) [11, 12, 13], itV 15 152 (aG [(4, e64 r_17.toList)]) [], itV 16 153 (aG [(4, e64 r_20.toList)]) [7, 15, 14], itV 17 154 (ptr (some (bc, obc)) 0) [], itV 18 155 (ptr (some (bc, obc)) 0) [17], itV 19 156 (ptr (some (bc, obc)) 0) [18], itV 20 157 (ptr (some (bc_Field, obc_Field)) 0) [19], itV 21 158 (aG [(4, e64 r_18.toList)]) [], itV 22 159 (aG [(4, e64 r_18.toList)]) [], itV 23 160 (aG [(4, e64 r_21.toList)]) [20, 21, 22], itV 24 161 (aG [(4, e64 r_22.toList)]) [23, 16, 3], itA64 25 18 4] [] 1 (by kernel_rfl) (QP.then QP.body) (by kernel_rfl) rfl (.v rfl (V_move rfl) (.v rfl (V_nilCheck rfl) (.v rfl (V_fe Try.underlying100 TryI.inf82) (.v rfl (V_load rfl (.r 0) rfl Try.isAgg82) (.v rfl (V_move rfl) (.v rfl (V_nilCheck rfl) (.v rfl (V_fe Try.underlying100 TryI.inf82) (.v rfl (V_load rfl (.r 0) rfl Try.isAgg82) (.v rfl (V_move rfl) (.v rfl (V_nilCheck rfl) (.v rfl (V_fe Try.underlying100 TryI.inf82) (.v rfl (V_load rfl (.r 0) rfl Try.isAgg82) (.v rfl (V_lag (.o 3) Try.isAgg57 TryI.inf57) (.v rfl (V_lag (.o 3) Try.isAgg57 TryI.inf57) (.e rfl (E_cu (F58_calls bc_Field obc_Field c_Field_M c_Field_inv c_Field_one c_Field_two r_12 r_12 r_19 hr_19) Try.call58 ⟨.r 2, .r 3, .r 4, .r 5, trivial⟩) (.v rfl (V_lag (.o 1) Try.isAgg57 TryI.inf57) (.e rfl (E_cu (F77_calls bc_Field obc_Field c_Field_M c_Field_inv c_Field_one c_Field_two r_19 r_17 r_20 hr_20) Try.call77 ⟨.r 2, .r 3, .r 4, .r 5, trivial⟩) (.v rfl (V_move rfl) (.v rfl (V_nilCheck rfl) (.v rfl (V_fe Try.underlying100 TryI.inf82) (.v rfl (V_load rfl (.r 0) rfl Try.isAgg82) (.v rfl (V_lag (.o 0) Try.isAgg57 TryI.inf57) (.v rfl (V_lag (.o 0) Try.isAgg57 TryI.inf57) (.e rfl (E_cu (F59_calls bc_Field obc_Field c_Field_M c_Field_inv c_Field_one c_Field_two r_18 r_18 r_21 hr_21) Try.call59 ⟨.r 2, .r 3, .r 4, .r 5, trivial⟩) (.e rfl (E_cu (F77_calls bc_Field obc_Field c_Field_M c_Field_inv c_Field_one c_Field_two r_20 r_21 r_22 hr_22) Try.call77 ⟨.r 2, .r 3, .r 4, .r 5, trivial⟩) (.c rfl (fun _ _ => (E_al64 4 TryI.inf57 TryI.zer57)) .nil)))))))))))))))))))))))))) .nil (by kernel_rfl) rfl (fun γ => ?_)
    refine TA_cut [(18, ptr (some ((γ 25), 0)) 0), (161, aG [(4, e64 r_22.toList)]), (17, ptr (some (b14, 0)) 0), (16, ptr (some (b13, 0)) 0), (14, ptr (some (b11, 0)) 0), (13, ptr (some (b10, 0)) 0), (11, ptr (some (b8, 0)) 0), (6, ptr (some (b3, 0)) 0), (5, ptr (some (b2, 0)) 0), (4, ptr (some (b1, 0)) 0), (0, ptr (some (bc, obc)) 0)] [⟨some ((γ 25), 0), e64 ((replicate 4 0#64).toList)⟩, ⟨some (b14, 0), e64 r_18.toList⟩, ⟨some (b13, 0), e64 r_17.toList⟩, ⟨some (b12, 0), e64 r_16.toList⟩, ⟨some (b11, 0), e64 r_12.toList⟩, ⟨some (b10, 0), e64 r_11.toList⟩, ⟨some (b9, 0), e64 r_10.toList⟩, ⟨some (b8, 0), e64 r_8.toList⟩, ⟨some (b7, 0), e64 r_6.toList⟩, ⟨some (b6, 0), e64 r_5.toList⟩, ⟨some (b5, 0), e64 r_4.toList⟩, ⟨some (b4, 0), e64 r_3.toList⟩, ⟨some (b3, 0), e64 ((replicate 4 0#64).toList)⟩, ⟨some (b3, 4), e64 ((replicate 4 0#64).toList)⟩, ⟨some (b3, 8), e64 ((replicate 4 0#64).toList)⟩, ⟨some (b2, 0), e64 q_x.toList⟩, ⟨some (b2, 4), e64 q_y.toList⟩, ⟨some (b2, 8), e64 q_z.toList⟩, ⟨some (b1, 0), e64 p_x.toList⟩, ⟨some (b1, 4), e64 p_y.toList⟩, ⟨some (b1, 8), e64 p_z.toList⟩] ⟨rfl, rfl, rfl, rfl, rfl, rfl, rfl, rfl, rfl, rfl, rfl, trivial⟩ rfl ?_
    generalize γ 25 = b15
    refine TA_all (rs := [26]) (by kernel_rfl) rfl ?_
    refine ⟨?_, trivial⟩
    refine TO_n (is := []) (done' := dn 27 134217727) rfl rfl rfl (by kernel_rfl) (E_sv (vs := e64 r_22.toList) 0 TryI.inf57) (fun _ _ => rfl) (fun _ => ?_)
    refine TA_done (by kernel_rfl) ?_ 0
    refine TX_next ?_
    refine TC_seq ?_
    obtain ⟨r_23, hr_23, H⟩ := bind_elim H
    obtain ⟨r_24, hr_24, H⟩ := bind_elim H
    obtain ⟨r_25, hr_25, H⟩ := bind_elim H
    obtain ⟨r_26, hr_26, H⟩ := bind_elim H
    refine TA_begin [] 27 (by kernel_rfl) (N := 27) rfl ?_
    refine TA_mix (is := []) (done' := dn 27 67108863) [itV 0 162 (ptr (some (bc, obc)) 0) [], itV 1 163 (ptr (some (bc, obc)) 0) [0], itV 2 164 (ptr (some (bc, obc)) 0) [1], itV 3 165 (ptr (some (bc_Field, obc_Field)) 0) [2], itV 4 166 (ptr (some (bc, obc)) 0) [], itV 5 167 (ptr (some (bc, obc)) 0) [4], itV 6 168 (ptr (some (bc, obc)) 0) [5], itV 7 169 (ptr (some (bc_Field, obc_Field)) 0) [6], itV 8 170 (aG [(4, e64 r_12.toList)]) [], itV 9 171 (ptr (some (bc, obc)) 0) [], itV 10 172 (ptr (some (bc, obc)) 0) [9], itV 11 173 (ptr (some (bc, obc)) 0) [10], itV 12 174 (ptr (some (bc_Field, obc_Field)) 0) [11], itV 13 175 (aG [(4, e64 r_18.toList)]) [], itV 14 176 (aG [(4, e64 r_22.toList)]) [], itV 15 177 (aG [(4, e64 r_23.toList)]) [14, 12, 13], itV 16 178 (aG [(4, e64 r_24.toList)]) [7, 8, 15], itV 17 179 (ptr (some (bc, obc)) 0) [], itV 18 180 (ptr (some (bc, obc)) 0) [17], itV 19 181 (ptr (some (bc, obc)) 0) [18], itV 20 182 (ptr (some (bc_Field, obc_Field)) 0) [19], itV 21 183 (aG [(4, e64 r_8.toList)]) [], itV 22 184 (aG [(4, e64 r_17.toList)]) [], itV 23 185 (aG [(4, e64 r_25.toList)]) [22, 20, 21], itV 24 186 (aG [(4, e64 r_26.toList)]) [23, 16, 3], itA64 25 19 4] [] 1 (by kernel_rfl) (QP.then QP.body) (by kernel_rfl) rfl (.v rfl (V_move rfl) (.v rfl (V_nilCheck rfl) (.v rfl (V_fe Try.underlying100 TryI.inf82) (.v rfl (V_load rfl (.r 0) rfl Try.isAgg82) (.v rfl (V_move rfl) (.v rfl (V_nilCheck rfl) (.v rfl (V_fe Try.underlying100 TryI.inf82) (.v rfl (V_load rfl (.r 0) rfl Try.isAgg82) (.v rfl (V_lag (.o 4) Try.isAgg57 TryI.inf57) (.v rfl (V_move rfl) (.v rfl (V_nilCheck rfl) (.v rfl (V_fe Try.underlying100 TryI.inf82) (.v rfl (V_load rfl (.r 0) rfl Try.isAgg82) (.v rfl (V_lag (.o 1) Try.isAgg57 TryI.inf57) (.v rfl (V_lag (.o 0) Try.isAgg57 TryI.inf57) (.e rfl (E_cu (F77_calls bc_Field obc_Field c_Field_M c_Field_inv c_Field_one c_Field_two r_18 r_22 r_23 hr_23) Try.call77 ⟨.r 2, .r 3, .r 4, .r 5, trivial⟩) (.e rfl (E_cu (F58_calls bc_Field obc_Field c_Field_M c_Field_inv c_Field_one c_Field_two r_12 r_23 r_24 hr_24) Try.call58 ⟨.r 2, .r 3, .r 4, .r 5, trivial⟩) (.v rfl (V_move rfl) (.v rfl (V_nilCheck rfl) (.v rfl (V_fe Try.underlying100 TryI.inf82) (.v rfl (V_load rfl (.r 0) rfl Try.isAgg82) (.v rfl (V_lag (.o 7) Try.isAgg57 TryI.inf57) (.v rfl (V_lag (.o 2) Try.isAgg57 TryI.inf57) (.e rfl (E_cu (F58_calls bc_Field obc_Field c_Field_M c_Field_inv c_Field_one c_Field_two r_8 r_17 r_25 hr_25) Try.call58 ⟨.r 2, .r 3, .r 4, .r 5, trivial⟩) (.e rfl (E_cu (F77_calls bc_Field obc_Field c_Field_M c_Field_inv c_Field_one c_Field_two r_24 r_25 r_26 hr_26) Try.call77 ⟨.r 2, .r 3, .r 4, .r 5, trivial⟩) (.c rfl (fun _ _ => (E_al64 4 TryI.inf57 TryI.zer57)) .nil)))))))))))))))))))))))))) .nil (by kernel_rfl) rfl (fun γ => ?_)
    refine TA_cut [(19, ptr (some ((γ 25), 0)) 0), (186, aG [(4, e64 r_26.toList)]), (18, ptr (some (b15, 0)) 0), (13, ptr (some (b10, 0)) 0), (6, ptr (some (b3, 0)) 0), (5, ptr (some (b2, 0)) 0), (4, ptr (some (b1, 0)) 0), (0, ptr (some (bc, obc)) 0)] [⟨some ((γ 25), 0), e64 ((replicate 4 0#64).toList)⟩, ⟨some (b15, 0), e64 r_22.toList⟩, ⟨some (b14, 0), e64 r_18.toList⟩, ⟨some (b13, 0), e64 r_17.toList⟩, ⟨some (b12, 0), e64 r_16.toList⟩, ⟨some (b11, 0), e64 r_12.toList⟩, ⟨some (b10, 0), e64 r_11.toList⟩, ⟨some (b9, 0), e64 r_10.toList⟩, ⟨some (b8, 0), e64 r_8.toList⟩, ⟨some (b7, 0), e64 r_6.toList⟩, ⟨some (b6, 0), e64 r_5.toList⟩, ⟨some (b5, 0), e64 r_4.toList⟩, ⟨some (b4, 0), e64 r_3.toList⟩, ⟨some (b3, 0), e64 ((replicate 4 0#64).toList)⟩, ⟨some (b3, 4), e64 ((replicate 4 0#64).toList)⟩, ⟨some (b3, 8), e64 ((replicate 4 0#64).toList)⟩, ⟨some (b2, 0), e64 q_x.toList⟩, ⟨some (b2, 4), e64 q_y.toList⟩, ⟨some (b2, 8), e64 q_z.toList⟩, ⟨some (b1, 0), e64 p_x.toList⟩, ⟨some (b1, 4), e64 p_y.toList⟩, ⟨some (b1, 8), e64 p_z.toList⟩] ⟨rfl, rfl, rfl, rfl, rfl, rfl, rfl, rfl, trivial⟩ rfl ?_
    generalize γ 25 = b16
    refine TA_all (rs := [26]) (by kernel_rfl) rfl ?_
    refine ⟨?_, trivial⟩
    refine TO_n (is := []) (done' := dn 27 134217727) rfl rfl rfl (by kernel_rfl) (E_sv (vs := e64 r_26.toList) 0 TryI.inf57) (fun _ _ => rfl) (fun _ => ?_)
    refine TA_done (by kernel_rfl) ?_ 0
    refine TX_next ?_
    refine TC_seq ?_
    obtain ⟨r_27, hr_27, H⟩ := bind_elim H
    obtain ⟨r_28, hr_28, H⟩ := bind_elim H
    refine TA_begin [] 19 (by kernel_rfl) (N := 19) rfl ?_
    refine TA_mix (is := []) (done' := dn 19 262143) [itV 0 187 (aG [(4, e64 r_22.toList)]) [], itV 1 188 (aG [(4, e64 r_26.toList)]) [], itV 2 189 (ptr (some (bc, obc)) 0) [], itV 3 190 (ptr (some (bc, obc)) 0) [2], itV 4 191 (ptr (some (bc, obc)) 0) [3], itV 5 192 (ptr (some (bc_Field, obc_Field)) 0) [4], itV 6 193 (aG [(4, e64 r_11.toList)]) [], itV 7 194 (ptr (some (bc, obc)) 0) [], itV 8 195 (ptr (some (bc, obc)) 0) [7], itV 9 196 (ptr (some (bc, obc)) 0) [8], itV 10 197 (ptr (some (bc_Field, obc_Field)) 0) [9], itV 11 198 (ptr (some (b1, 8)) 0) [], itV 12 199 (aG [(4, e64 p_z.toList)]) [11], itV 13 200 (ptr (some (b2, 8)) 0) [], itV 14 201 (aG [(4, e64 q_z.toList)]) [13], itV 15 202 (aG [(4, e64 r_27.toList)]) [14, 10, 12], itV 16 203 (aG [(4, e64 r_28.toList)]) [5, 6, 15], itV 17 204 (aG [(4, e64 r_22.toList), (4, e64 r_26.toList), (4, e64 r_28.toList)]) [0, 1, 16]] [] 1 (by kernel_rfl) (QP.then QP.body) (by kernel_rfl) rfl (.v rfl (V_lag (.o 1) Try.isAgg57 TryI.inf57) (.v rfl (V_lag (.o 0) Try.isAgg57 TryI.inf57) (.v rfl (V_move rfl) (.v rfl (V_nilCheck rfl) (.v rfl (V_fe Try.underlying100 TryI.inf82) (.v rfl (V_load rfl (.r 0) rfl Try.isAgg82) (.v rfl (V_lag (.o 6) Try.isAgg57 TryI.inf57) (.v rfl (V_move rfl) (.v rfl (V_nilCheck rfl) (.v rfl (V_fe Try.underlying100 TryI.inf82) (.v rfl (V_load rfl (.r 0) rfl Try.isAgg82) (.v rfl (V_fe Try.underlying64 TryI.inf57) (.v rfl (V_lag (.o 21) Try.isAgg57 TryI.inf57) (.v rfl (V_fe Try.underlying64 TryI.inf57) (.v rfl (V_lag (.o 18) Try.isAgg57 TryI.inf57) (.e rfl (E_cu (F58_calls bc_Field obc_Field c_Field_M c_Field_inv c_Field_one c_Field_two p_z q_z r_27 hr_27) Try.call58 ⟨.r 2, .r 3, .r 4, .r 5, trivial⟩) (.e rfl (E_cu (F58_calls bc_Field obc_Field c_Field_M c_Field_inv c_Field_one c_Field_two r_11 r_27 r_28 hr_28) Try.call58 ⟨.r 2, .r 3, .r 4, .r 5, trivial⟩) (.v rfl (V_buildStruct (pv := [(0, aG [(4, e64 r_22.toList)]), (1, aG [(4, e64 r_26.toList)]), (2, aG [(4, e64 r_28.toList)])]) (pl := [(0, 4), (4, 4), (8, 4)]) rfl rfl Try.underlying64 TryI.inf64 TryI.places64 TryI.zer64 (cs := flat [(4, e64 r_22.toList), (4, e64 r_26.toList), (4, e64 r_28.toList)]) (fill_part [] [(4, e64 ((replicate 4 0#64).toList)), (4, e64 ((replicate 4 0#64).toList))] rfl rfl trivial rfl (lenV (f := v64) (replicate 4 0#64)) (lenV (f := v64) r_22) (fill_part [(4, e64 r_22.toList)] [(4, e64 ((replicate 4 0#64).toList))] rfl rfl ⟨(lenV (f := v64) r_22), trivial⟩ rfl (lenV (f := v64) (replicate 4 0#64)) (lenV (f := v64) r_26) (fill_part [(4, e64 r_22.toList), (4, e64 r_26.toList)] [] rfl rfl ⟨(lenV (f := v64) r_22), (lenV (f := v64) r_26), trivial⟩ rfl (lenV (f := v64) (replicate 4 0#64)) (lenV (f := v64) r_28) fill_end)))) .nil)))))))))))))))))) .nil (by kernel_rfl) rfl (fun γ => ?_)
    refine TA_cut [(204, aG [(4, e64 r_22.toList), (4, e64 r_26.toList), (4, e64 r_28.toList)]), (6, ptr (some (b3, 0)) 0)] [⟨some (b16, 0), e64 r_26.toList⟩, ⟨some (b15, 0), e64 r_22.toList⟩, ⟨some (b14, 0), e64 r_18.toList⟩, ⟨some (b13, 0), e64 r_17.toList⟩, ⟨some (b12, 0), e64 r_16.toList⟩, ⟨some (b11, 0), e64 r_12.toList⟩, ⟨some (b10, 0), e64 r_11.toList⟩, ⟨some (b9, 0), e64 r_10.toList⟩, ⟨some (b8, 0), e64 r_8.toList⟩, ⟨some (b7, 0), e64 r_6.toList⟩, ⟨some (b6, 0), e64 r_5.toList⟩, ⟨some (b5, 0), e64 r_4.toList⟩, ⟨some (b4, 0), e64 r_3.toList⟩, ⟨some (b3, 0), e64 ((replicate 4 0#64).toList)⟩, ⟨some (b3, 4), e64 ((replicate 4 0#64).toList)⟩, ⟨some (b3, 8), e64 ((replicate 4 0#64).toList)⟩, ⟨some (b2, 0), e64 q_x.toList⟩, ⟨some (b2, 4), e64 q_y.toList⟩, ⟨some (b2, 8), e64 q_z.toList⟩, ⟨some (b1, 0), e64 p_x.toList⟩, ⟨some (b1, 4), e64 p_y.toList⟩, ⟨some (b1, 8), e64 p_z.toList⟩] ⟨rfl, rfl, trivial⟩ rfl ?_
    refine TA_all (rs := [18]) (by kernel_rfl) rfl ?_
    refine ⟨?_, trivial⟩
    refine TO_n (is := []) (done' := dn 19 524287) rfl rfl rfl (by kernel_rfl) (E_sp (b := b3) (o := 0) [13, 13, 13] [(4, e64 ((replicate 4 0#64).toList)), (4, e64 ((replicate 4 0#64).toList)), (4, e64 ((replicate 4 0#64).toList))] [(4, e64 r_22.toList), (4, e64 r_26.toList), (4, e64 r_28.toList)] rfl TryI.inf64 ⟨(lenV (f := v64) (replicate 4 0#64)), (lenV (f := v64) (replicate 4 0#64)), (lenV (f := v64) (replicate 4 0#64)), trivial⟩ ⟨(lenV (f := v64) r_22), (lenV (f := v64) r_26), (lenV (f := v64) r_28), trivial⟩ ⟨(OneC.map (fun _ => rfl) _), (OneC.map (fun _ => rfl) _), (OneC.map (fun _ => rfl) _), trivial⟩) (fun _ _ => rfl) (fun _ => ?_)
    refine TA_done (by kernel_rfl) ?_ 0
    refine TX_next ?_
    refine TC_ret ?_
    have hrv := Option.some.inj H
    subst hrv
    exact TX_ret (rs := [.cell 6 64]) (vs := [aG [(4, e64 r_22.toList), (4, e64 r_26.toList), (4, e64 r_28.toList)]]) rfl ⟨(Res_agg (n := 12) (cs := flat [(4, e64 r_22.toList), (4, e64 r_26.toList), (4, e64 r_28.toList)]) rfl (by simp) (SrcEnts (b := b3) [(4, e64 r_22.toList), (4, e64 r_26.toList), (4, e64 r_28.toList)] 0 ⟨(lenV (f := v64) r_22), (lenV (f := v64) r_26), (lenV (f := v64) r_28), trivial⟩ (AllSrc.all (M := ents b3 0 [(4, e64 r_22.toList), (4, e64 r_26.toList), (4, e64 r_28.toList)]) ⟨Src.own (j := 0) rfl, Src.own (j := 1) rfl, Src.own (j := 2) rfl, trivial⟩)) Try.isAgg64 TryI.inf64 rfl (by simp [flat])), trivial⟩ (fun w' hs' => ⟨(), rfl, Step.left (Step.pulled (is := []) (A := []) hs' rfl)⟩)
end Go.Proofs
end

section
namespace Go.Proofs
open Go Go.Kx
open Vector (replicate)
def pcurve_curve_times.b0 (c_Field_M : Vx 64 4) (c_Field_inv : BitVec 64) (c_Field_one : Vx 64 4) (c_Field_two : Vx 64 4) (c_b : Vx 64 4) (k : Vx 64 4) (p_x : Vx 64 4) (p_y : Vx 64 4) (p_z : Vx 64 4) (s0 : Int × Vx 64 4 × Vx 64 4 × Vx 64 4) : Option ((Int × Vx 64 4 × Vx 64 4 × Vx 64 4) ⊕ (Vx 64 4 × Vx 64 4 × Vx 64 4)) :=
 if 0 ≤ s0.1 then ((pcurve_curve_double c_Field_M c_Field_inv c_Field_one c_Field_two c_b s0.2.1 s0.2.2.1 s0.2.2.2).bind fun (r_1 : Vx 64 4 × Vx 64 4 × Vx 64 4) => (if 0 ≤ w64 (s0.1.tdiv 64) ∧ w64 (s0.1.tdiv 64) < (4 : Int) then (if 0 ≤ s0.1.tmod 64 then (if (((vg k ((w64 (s0.1.tdiv 64)).toNat)) >>> (s0.1.tmod 64).toNat) &&& 1#64) = 1#64 then ((pcurve_curve_add c_Field_M c_Field_inv c_Field_one c_Field_two c_b r_1.1 r_1.2.1 r_1.2.2 p_x p_y p_z).bind fun (r_2 : Vx 64 4 × Vx 64 4 × Vx 64 4) => (ltt (w64 (s0.1 - 1)) fun (i1 : Int) => (some (.inl (i1, r_2.1, r_2.2.1, r_2.2.2))))) else (ltt (w64 (s0.1 - 1)) fun (i2 : Int) => (some (.inl (i2, r_1.1, r_1.2.1, r_1.2.2))))) else none) else none)) else (some (.inr (s0.2.1, s0.2.2.1, s0.2.2.2)))
def pcurve_curve_times (c_Field_M : Vx 64 4) (c_Field_inv : BitVec 64) (c_Field_one : Vx 64 4) (c_Field_two : Vx 64 4) (c_b : Vx 64 4) (k : Vx 64 4) (p_x : Vx 64 4) (p_y : Vx 64 4) (p_z : Vx 64 4) : Option (Vx 64 4 × Vx 64 4 × Vx 64 4) :=
 (loop (pcurve_curve_times.b0 c_Field_M c_Field_inv c_Field_one c_Field_two c_b k p_x p_y p_z) BIG (255, replicate 4 0#64, replicate 4 0#64, replicate 4 0#64)).bind fun (t_1 : Vx 64 4 × Vx 64 4 × Vx 64 4) => (some (t_1.1, t_1.2.1, t_1.2.2))
set_option maxHeartbeats 4000000 in
set_option maxRecDepth 20000 in
theorem F35_calls (bc : Nat) (obc : Nat) (bc_Field : Nat) (obc_Field : Nat) (c_Field_M : Vx 64 4) (c_Field_inv : BitVec 64) (c_Field_one : Vx 64 4) (c_Field_two : Vx 64 4) (c_b : Vx 64 4) (k : Vx 64 4) (p_x : Vx 64 4) (p_y : Vx 64 4) (p_z : Vx 64 4) (r : Vx 64 4 × Vx 64 4 × Vx 64 4) (H : pcurve_curve_times c_Field_M c_Field_inv c_Field_one c_Field_two c_b k p_x p_y p_z = some r) :
  Does Try.prog 35 [ptr (some (bc, obc)) 0, aG [(4, e64 k.toList)], aG [(4, e64 p_x.toList), (4, e64 p_y.toList), (4, e64 p_z.toList)]] [] [⟨some (bc, obc), [ptr (some (bc_Field, obc_Field)) 0]⟩, ⟨some (bc, obc + 1), e64 c_b.toList⟩, ⟨some (bc_Field, obc_Field), e64 c_Field_M.toList⟩, ⟨some (bc_Field, obc_Field + 4), [v64 c_Field_inv]⟩, ⟨some (bc_Field, obc_Field + 5), e64 c_Field_one.toList⟩, ⟨some (bc_Field, obc_Field + 9), e64 c_Field_two.toList⟩] (Γ := Unit) (fun g => aG [(4, e64 r.1.toList), (4, e64 r.2.1.toList), (4, e64 r.2.2.toList)]) (fun g => []) := by
 intro w hmem hro hd
 refine calls_of (N := 30) (m0 := [(0, ptr (some (bc, obc)) 0), (1, aG [(4, e64 k.toList)]), (2, aG [(4, e64 p_x.toList), (4, e64 p_y.toList), (4, e64 p_z.toList)])]) Try.func35 rfl Try.ntmps35 (argM_ok [ptr (some (bc, obc)) 0, aG [(4, e64 k.toList)], aG [(4, e64 p_x.toList), (4, e64 p_y.toList), (4, e64 p_z.toList)]]) rfl hmem hro hd ?_
 unfold pcurve_curve_times at H
 refine TC_seq ?_
 refine TC_region ?_
 refine TLe (E_boxP [(4, e64 k.toList)] rfl rfl ⟨(lenV (f := v64) k), trivial⟩) (fun b1 => ?_)
 refine TLe (E_boxP [(4, e64 p_x.toList), (4, e64 p_y.toList), (4, e64 p_z.toList)] rfl rfl ⟨(lenV (f := v64) p_x), (lenV (f := v64) p_y), (lenV (f := v64) p_z), trivial⟩) (fun b2 => ?_)
 refine TLe (E_allocP [(4, e64 ((replicate 4 0#64).toList)), (4, e64 ((replicate 4 0#64).toList)), (4, e64 ((replicate 4 0#64).toList))] TryI.inf64 TryI.zer64 ⟨(lenV (f := v64) (replicate 4 0#64)), (lenV (f := v64) (replicate 4 0#64)), (lenV (f := v64) (replicate 4 0#64)), trivial⟩) (fun b3 => ?_)
 refine TL_nil ?_
 refine TX_next ?_
 refine TC_seq ?_
 refine TC_region ?_
 refine TLe (E_allocP [(4, e64 ((replicate 4 0#64).toList)), (4, e64 ((replicate 4 0#64).toList)), (4, e64 ((replicate 4 0#64).toList))] TryI.inf64 TryI.zer64 ⟨(lenV (f := v64) (replicate 4 0#64)), (lenV (f := v64) (replicate 4 0#64)), (lenV (f := v64) (replicate 4 0#64)), trivial⟩) (fun b4 => ?_)
 refine TL_nil ?_
 refine TX_next ?_
 refine TC_seq ?_
 refine TC_seq ?_
 refine TC_region ?_
 refine TLv (V_assign rfl) ?_
 refine TL_nil ?_
 refine TX_next ?_
 refine TC_block ?_
 obtain ⟨t_1, Hl, H⟩ := bind_elim H
 refine TC.sub (m' := [(0, ptr (some (bc, obc)) 0), (4, ptr (some (b1, 0)) 0), (5, ptr (some (b2, 0)) 0), (6, ptr (some (b3, 0)) 0), (7, ptr (some (b4, 0)) 0), (8, vi 255)]) ⟨rfl, rfl, rfl, rfl, rfl, rfl, trivial⟩ ?_
 refine TC.pull (is := [9, 6, 6, 6, 3, 3, 3, 0, 0, 0]) (L' := [⟨some (b1, 0), e64 k.toList⟩, ⟨some (b2, 0), e64 p_x.toList⟩, ⟨some (b2, 4), e64 p_y.toList⟩, ⟨some (b2, 8), e64 p_z.toList⟩, ⟨some (b3, 0), e64 ((replicate 4 0#64).toList)⟩, ⟨some (b3, 4), e64 ((replicate 4 0#64).toList)⟩, ⟨some (b3, 8), e64 ((replicate 4 0#64).toList)⟩, ⟨some (b4, 0), e64 ((replicate 4 0#64).toList)⟩, ⟨some (b4, 4), e64 ((replicate 4 0#64).toList)⟩, ⟨some (b4, 8), e64 ((replicate 4 0#64).toList)⟩]) rfl ?_
 refine TC_loopL (id := 0) (body := (pcurve_curve_times.b0 c_Field_M c_Field_inv c_Field_one c_Field_two c_b k p_x p_y p_z)) (σ := Int × Vx 64 4 × Vx 64 4 × Vx 64 4) (Γ := Unit) (Γx := Unit) (fun s0 g0_ => [(0, ptr (some (bc, obc)) 0), (4, ptr (some (b1, 0)) 0), (5, ptr (some (b2, 0)) 0), (6, ptr (some (b3, 0)) 0), (7, ptr (some (b4, 0)) 0), (8, vi s0.1)]) (fun s0 g0_ => [⟨some (b1, 0), e64 k.toList⟩, ⟨some (b2, 0), e64 p_x.toList⟩, ⟨some (b2, 4), e64 p_y.toList⟩, ⟨some (b2, 8), e64 p_z.toList⟩, ⟨some (b3, 0), e64 ((replicate 4 0#64).toList)⟩, ⟨some (b3, 4), e64 ((replicate 4 0#64).toList)⟩, ⟨some (b3, 8), e64 ((replicate 4 0#64).toList)⟩, ⟨some (b4, 0), e64 s0.2.1.toList⟩, ⟨some (b4, 4), e64 s0.2.2.1.toList⟩, ⟨some (b4, 8), e64 s0.2.2.2.toList⟩]) (fun t g => [(6, ptr (some (b3, 0)) 0), (7, ptr (some (b4, 0)) 0)]) (fun t g => [⟨some (b3, 0), e64 ((replicate 4 0#64).toList)⟩, ⟨some (b3, 4), e64 ((replicate 4 0#64).toList)⟩, ⟨some (b3, 8), e64 ((replicate 4 0#64).toList)⟩, ⟨some (b4, 0), e64 t.1.toList⟩, ⟨some (b4, 4), e64 t.2.1.toList⟩, ⟨some (b4, 8), e64 t.2.2.toList⟩]) ?_ BIG (255, replicate 4 0#64, replicate 4 0#64, replicate 4 0#64) () t_1 Hl ?_
 ·intro s0 g0_ r1 H K hK hE
  unfold pcurve_curve_times.b0 at H
  refine TC_seq ?_
  refine TC_seq ?_
  refine TC_region ?_
  refine TLv (V_move rfl) ?_
  refine TLv (V_bin rfl rfl (fun w => geqI w s0.1 0)) ?_
  refine TL_nil ?_
  refine TX_next ?_
  refine TC_cond (b := (decide (0 ≤ s0.1))) rfl (fun hc => ?_) (fun hc => ?_)
  ·replace H := ite_t (of_decide_eq_true hc) H
   refine TC_skip ?_
   refine TX_next ?_
   refine TC_seq ?_
   refine TC_block ?_
   refine TC_seq ?_
   refine TC_region ?_
   refine TLv (V_move rfl) ?_
   refine TLv (V_loadAgg (n := 12) (cs := flat [(4, e64 s0.2.1.toList), (4, e64 s0.2.2.1.toList), (4, e64 s0.2.2.2.toList)]) rfl (by simp) (SrcEnts (b := b4) [(4, e64 s0.2.1.toList), (4, e64 s0.2.2.1.toList), (4, e64 s0.2.2.2.toList)] 0 ⟨(lenV (f := v64) s0.2.1), (lenV (f := v64) s0.2.2.1), (lenV (f := v64) s0.2.2.2), trivial⟩ (AllSrc.all (M := ents b4 0 [(4, e64 s0.2.1.toList), (4, e64 s0.2.2.1.toList), (4, e64 s0.2.2.2.toList)]) ⟨Src.own (j := 7) rfl, Src.own (j := 8) rfl, Src.own (j := 9) rfl, trivial⟩)) Try.isAgg64 TryI.inf64 rfl (flat_len ⟨(lenV (f := v64) s0.2.1), (lenV (f := v64) s0.2.2.1), (lenV (f := v64) s0.2.2.2), trivial⟩ rfl)) ?_
   obtain ⟨r_1, hr_1, H⟩ := bind_elim H
   refine TLe (E_c0 (F74_calls bc obc bc_Field obc_Field c_Field_M c_Field_inv c_Field_one c_Field_two c_b s0.2.1 s0.2.2.1 s0.2.2.2 r_1 hr_1) Try.call74 ⟨.r 0, .r 1, .r 2, .r 3, .r 4, .r 5, trivial⟩) (fun g_1 => ?_)
   refine TLn (E_sp (b := b4) (o := 0) [7, 7, 7] [(4, e64 s0.2.1.toList), (4, e64 s0.2.2.1.toList), (4, e64 s0.2.2.2.toList)] [(4, e64 r_1.1.toList), (4, e64 r_1.2.1.toList), (4, e64 r_1.2.2.toList)] rfl TryI.inf64 ⟨(lenV (f := v64) s0.2.1), (lenV (f := v64) s0.2.2.1), (lenV (f := v64) s0.2.2.2), trivial⟩ ⟨(lenV (f := v64) r_1.1), (lenV (f := v64) r_1.2.1), (lenV (f := v64) r_1.2.2), trivial⟩ ⟨(OneC.map (fun _ => rfl) _), (OneC.map (fun _ => rfl) _), (OneC.map (fun _ => rfl) _), trivial⟩) (fun _ => ?_)
   refine TL_nil ?_
   refine TX_next ?_
   refine TC_seq ?_
   refine TC_region ?_
   refine TLv (V_move rfl) ?_
   refine TLv (V_bin rfl rfl (fun w => quoI w s0.1 64 (by decide))) ?_
   obtain ⟨h1, H⟩ := if_elim H
   refine TLv (V_idxArr (i := w64 (s0.1.tdiv 64)) rfl rfl Try.underlying57 TryI.inf55 rfl h1.1 h1.2 (k := (w64 (s0.1.tdiv 64)).toNat) (k01 _)) ?_
   refine TLv (V_load rfl (.o 3) (get_vec (f := v64) (V := k) (toNat_lt h1.1 h1.2)) Try.isAgg55) ?_
   refine TLv (V_move rfl) ?_
   refine TLv (V_bin rfl rfl (fun w => remI w s0.1 64 (by decide))) ?_
   obtain ⟨h2, H⟩ := if_elim H
   refine TLv (V_bin rfl rfl (fun w => shr64 w (vg k ((w64 (s0.1.tdiv 64)).toNat)) .i64 (s0.1.tmod 64) h2)) ?_
   refine TLv (V_bin rfl rfl (fun w => and64 w ((vg k ((w64 (s0.1.tdiv 64)).toNat)) >>> (s0.1.tmod 64).toNat) 1#64)) ?_
   refine TLv (V_bin rfl rfl (fun w => eql64 w (((vg k ((w64 (s0.1.tdiv 64)).toNat)) >>> (s0.1.tmod 64).toNat) &&& 1#64) 1#64)) ?_
   refine TL_nil ?_
   refine TX_next ?_
   refine TC_cond (b := (decide ((((vg k ((w64 (s0.1.tdiv 64)).toNat)) >>> (s0.1.tmod 64).toNat) &&& 1#64) = 1#64))) rfl (fun hc => ?_) (fun hc => ?_)
   ·replace H := ite_t (of_decide_eq_true hc) H
    refine TC_region ?_
    refine TLv (V_move rfl) ?_
    refine TLv (V_loadAgg (n := 12) (cs := flat [(4, e64 r_1.1.toList), (4, e64 r_1.2.1.toList), (4, e64 r_1.2.2.toList)]) rfl (by simp) (SrcEnts (b := b4) [(4, e64 r_1.1.toList), (4, e64 r_1.2.1.toList), (4, e64 r_1.2.2.toList)] 0 ⟨(lenV (f := v64) r_1.1), (lenV (f := v64) r_1.2.1), (lenV (f := v64) r_1.2.2), trivial⟩ (AllSrc.all (M := ents b4 0 [(4, e64 r_1.1.toList), (4, e64 r_1.2.1.toList), (4, e64 r_1.2.2.toList)]) ⟨Src.own (j := 0) rfl, Src.own (j := 1) rfl, Src.own (j := 2) rfl, trivial⟩)) Try.isAgg64 TryI.inf64 rfl (flat_len ⟨(lenV (f := v64) r_1.1), (lenV (f := v64) r_1.2.1), (lenV (f := v64) r_1.2.2), trivial⟩ rfl)) ?_
    refine TLv (V_loadAgg (n := 12) (cs := flat [(4, e64 p_x.toList), (4, e64 p_y.toList), (4, e64 p_z.toList)]) rfl (by simp) (SrcEnts (b := b2) [(4, e64 p_x.toList), (4, e64 p_y.toList), (4, e64 p_z.toList)] 0 ⟨(lenV (f := v64) p_x), (lenV (f := v64) p_y), (lenV (f := v64) p_z), trivial⟩ (AllSrc.all (M := ents b2 0 [(4, e64 p_x.toList), (4, e64 p_y.toList), (4, e64 p_z.toList)]) ⟨Src.own (j := 4) rfl, Src.own (j := 5) rfl, Src.own (j := 6) rfl, trivial⟩)) Try.isAgg64 TryI.inf64 rfl (flat_len ⟨(lenV (f := v64) p_x), (lenV (f := v64) p_y), (lenV (f := v64) p_z), trivial⟩ rfl)) ?_
    obtain ⟨r_2, hr_2, H⟩ := bind_elim H
    refine TLe (E_c0 (F42_calls bc obc bc_Field obc_Field c_Field_M c_Field_inv c_Field_one c_Field_two c_b r_1.1 r_1.2.1 r_1.2.2 p_x p_y p_z r_2 hr_2) Try.call42 ⟨.r 0, .r 1, .r 2, .r 3, .r 4, .r 5, trivial⟩) (fun g_2 => ?_)
    refine TLn (E_sp (b := b4) (o := 0) [0, 0, 0] [(4, e64 r_1.1.toList), (4, e64 r_1.2.1.toList), (4, e64 r_1.2.2.toList)] [(4, e64 r_2.1.toList), (4, e64 r_2.2.1.toList), (4, e64 r_2.2.2.toList)] rfl TryI.inf64 ⟨(lenV (f := v64) r_1.1), (lenV (f := v64) r_1.2.1), (lenV (f := v64) r_1.2.2), trivial⟩ ⟨(lenV (f := v64) r_2.1), (lenV (f := v64) r_2.2.1), (lenV (f := v64) r_2.2.2), trivial⟩ ⟨(OneC.map (fun _ => rfl) _), (OneC.map (fun _ => rfl) _), (OneC.map (fun _ => rfl) _), trivial⟩) (fun _ => ?_)
    refine TL_nil ?_
    refine TX_block_normal ?_
    refine TX_next ?_
    refine TC_region ?_
    refine TLv (V_move rfl) ?_
    refine TLv (V_bin rfl rfl (fun w => subI w s0.1 1)) ?_
    refine TLv (V_assign rfl) ?_
    obtain ⟨i1, hi1, H⟩ := ltt_elim H
    refine TL_re (d := 8) (v := vi (w64 (s0.1 - 1))) (v' := vi i1) rfl (congrArg vi hi1) ?_
    refine TL_nil ?_
    refine TX.sub (m' := [(0, ptr (some (bc, obc)) 0), (4, ptr (some (b1, 0)) 0), (5, ptr (some (b2, 0)) 0), (6, ptr (some (b3, 0)) 0), (7, ptr (some (b4, 0)) 0), (8, vi i1)]) ⟨rfl, rfl, rfl, rfl, rfl, rfl, trivial⟩ ?_
    refine TX.pull (is := [3, 3, 3, 3, 3, 3, 3, 0, 0, 0]) (L' := [⟨some (b1, 0), e64 k.toList⟩, ⟨some (b2, 0), e64 p_x.toList⟩, ⟨some (b2, 4), e64 p_y.toList⟩, ⟨some (b2, 8), e64 p_z.toList⟩, ⟨some (b3, 0), e64 ((replicate 4 0#64).toList)⟩, ⟨some (b3, 4), e64 ((replicate 4 0#64).toList)⟩, ⟨some (b3, 8), e64 ((replicate 4 0#64).toList)⟩, ⟨some (b4, 0), e64 r_2.1.toList⟩, ⟨some (b4, 4), e64 r_2.2.1.toList⟩, ⟨some (b4, 8), e64 r_2.2.2.toList⟩]) rfl ?_
    obtain rfl := Option.some.inj H
    exact fun a w hs => hK (i1, r_2.1, r_2.2.1, r_2.2.2) rfl () a w hs
   ·replace H := ite_f (of_decide_eq_false hc) H
    refine TC_skip ?_
    refine TX_block_normal ?_
    refine TX_next ?_
    refine TC_region ?_
    refine TLv (V_move rfl) ?_
    refine TLv (V_bin rfl rfl (fun w => subI w s0.1 1)) ?_
    refine TLv (V_assign rfl) ?_
    obtain ⟨i2, hi2, H⟩ := ltt_elim H
    refine TL_re (d := 8) (v := vi (w64 (s0.1 - 1))) (v' := vi i2) rfl (congrArg vi hi2) ?_
    refine TL_nil ?_
    refine TX.sub (m' := [(0, ptr (some (bc, obc)) 0), (4, ptr (some (b1, 0)) 0), (5, ptr (some (b2, 0)) 0), (6, ptr (some (b3, 0)) 0), (7, ptr (some (b4, 0)) 0), (8, vi i2)]) ⟨rfl, rfl, rfl, rfl, rfl, rfl, trivial⟩ ?_
    refine TX.pull (is := [3, 3, 3, 3, 3, 3, 3, 0, 0, 0]) (L' := [⟨some (b1, 0), e64 k.toList⟩, ⟨some (b2, 0), e64 p_x.toList⟩, ⟨some (b2, 4), e64 p_y.toList⟩, ⟨some (b2, 8), e64 p_z.toList⟩, ⟨some (b3, 0), e64 ((replicate 4 0#64).toList)⟩, ⟨some (b3, 4), e64 ((replicate 4 0#64).toList)⟩, ⟨some (b3, 8), e64 ((replicate 4 0#64).toList)⟩, ⟨some (b4, 0), e64 r_1.1.toList⟩, ⟨some (b4, 4), e64 r_1.2.1.toList⟩, ⟨some (b4, 8), e64 r_1.2.2.toList⟩]) rfl ?_
    obtain rfl := Option.some.inj H
    exact fun a w hs => hK (i2, r_1.1, r_1.2.1, r_1.2.2) rfl () a w hs
  ·replace H := ite_f (of_decide_eq_false hc) H
   refine TC_exit ?_
   refine TX_then_exit ?_
   refine TX_then_exit ?_
   refine TX.sub (m' := [(6, ptr (some (b3, 0)) 0), (7, ptr (some (b4, 0)) 0)]) ⟨rfl, rfl, trivial⟩ ?_
   refine TX.pull (is := [4, 4, 4, 4, 4, 4]) (L' := [⟨some (b3, 0), e64 ((replicate 4 0#64).toList)⟩, ⟨some (b3, 4), e64 ((replicate 4 0#64).toList)⟩, ⟨some (b3, 8), e64 ((replicate 4 0#64).toList)⟩, ⟨some (b4, 0), e64 s0.2.1.toList⟩, ⟨some (b4, 4), e64 s0.2.2.1.toList⟩, ⟨some (b4, 8), e64 s0.2.2.2.toList⟩]) rfl ?_
   obtain rfl := Option.some.inj H
   exact hE (s0.2.1, s0.2.2.1, s0.2.2.2) rfl ()
 ·intro g
  refine TX_block_exit ?_
  refine TX_next ?_
  refine TC_seq ?_
  refine TC_region ?_
  refine TLv (V_loadAgg (n := 12) (cs := flat [(4, e64 t_1.1.toList), (4, e64 t_1.2.1.toList), (4, e64 t_1.2.2.toList)]) rfl (by simp) (SrcEnts (b := b4) [(4, e64 t_1.1.toList), (4, e64 t_1.2.1.toList), (4, e64 t_1.2.2.toList)] 0 ⟨(lenV (f := v64) t_1.1), (lenV (f := v64) t_1.2.1), (lenV (f := v64) t_1.2.2), trivial⟩ (AllSrc.all (M := ents b4 0 [(4, e64 t_1.1.toList), (4, e64 t_1.2.1.toList), (4, e64 t_1.2.2.toList)]) ⟨Src.own (j := 3) rfl, Src.own (j := 4) rfl, Src.own (j := 5) rfl, trivial⟩)) Try.isAgg64 TryI.inf64 rfl (flat_len ⟨(lenV (f := v64) t_1.1), (lenV (f := v64) t_1.2.1), (lenV (f := v64) t_1.2.2), trivial⟩ rfl)) ?_
  refine TLn (E_sp (b := b3) (o := 0) [0, 0, 0] [(4, e64 ((replicate 4 0#64).toList)), (4, e64 ((replicate 4 0#64).toList)), (4, e64 ((replicate 4 0#64).toList))] [(4, e64 t_1.1.toList), (4, e64 t_1.2.1.toList), (4, e64 t_1.2.2.toList)] rfl TryI.inf64 ⟨(lenV (f := v64) (replicate 4 0#64)), (lenV (f := v64) (replicate 4 0#64)), (lenV (f := v64) (replicate 4 0#64)), trivial⟩ ⟨(lenV (f := v64) t_1.1), (lenV (f := v64) t_1.2.1), (lenV (f := v64) t_1.2.2), trivial⟩ ⟨(OneC.map (fun _ => rfl) _), (OneC.map (fun _ => rfl) _), (OneC.map (fun _ => rfl) _), trivial⟩) (fun _ => ?_)
  refine TL_nil ?_
  refine TX_next ?_
  refine TC_ret ?_
  have hrv := Option.some.inj H
  subst hrv
  exact TX_ret (rs := [.cell 6 64]) (vs := [aG [(4, e64 t_1.1.toList), (4, e64 t_1.2.1.toList), (4, e64 t_1.2.2.toList)]]) rfl ⟨(Res_agg (n := 12) (cs := flat [(4, e64 t_1.1.toList), (4, e64 t_1.2.1.toList), (4, e64 t_1.2.2.toList)]) rfl (by simp) (SrcEnts (b := b3) [(4, e64 t_1.1.toList), (4, e64 t_1.2.1.toList), (4, e64 t_1.2.2.toList)] 0 ⟨(lenV (f := v64) t_1.1), (lenV (f := v64) t_1.2.1), (lenV (f := v64) t_1.2.2), trivial⟩ (AllSrc.all (M := ents b3 0 [(4, e64 t_1.1.toList), (4, e64 t_1.2.1.toList), (4, e64 t_1.2.2.toList)]) ⟨Src.own (j := 0) rfl, Src.own (j := 1) rfl, Src.own (j := 2) rfl, trivial⟩)) Try.isAgg64 TryI.inf64 rfl (by simp [flat])), trivial⟩ (fun w' hs' => ⟨(), rfl, Step.left (Step.pulled (is := []) (A := []) hs' rfl)⟩)
end Go.Proofs
end

section
namespace Go.Proofs
open Go Go.Kx
open Vector (replicate)
def pcurve_curve_base (c_Field_M : Vx 64 4) (c_Field_inv : BitVec 64) (c_Field_one : Vx 64 4) (c_Field_two : Vx 64 4) (c_b : Vx 64 4) : Option (Vx 64 4 × Vx 64 4 × Vx 64 4) :=
 ltt ((#v[17627433388654248598#64, 8575836109218198432#64, 17923454489921339634#64, 7716867327612699207#64] : Vx 64 4)) fun (m_1 : Vx 64 4) => (ltt ((#v[14678990851816772085#64, 3156516839386865358#64, 10297457778147434006#64, 5756518291402817435#64] : Vx 64 4)) fun (m_2 : Vx 64 4) => ((num_Field_In c_Field_M c_Field_inv c_Field_one c_Field_two m_1).bind fun (r_1 : Vx 64 4) => ((num_Field_In c_Field_M c_Field_inv c_Field_one c_Field_two m_2).bind fun (r_2 : Vx 64 4) => ((num_Field_One c_Field_M c_Field_inv c_Field_one c_Field_two).bind fun (r_3 : Vx 64 4) => (some (r_1, r_2, r_3))))))
set_option maxHeartbeats 4000000 in
set_option maxRecDepth 20000 in
theorem F36_calls (bc : Nat) (obc : Nat) (bc_Field : Nat) (obc_Field : Nat) (c_Field_M : Vx 64 4) (c_Field_inv : BitVec 64) (c_Field_one : Vx 64 4) (c_Field_two : Vx 64 4) (c_b : Vx 64 4) (r : Vx 64 4 × Vx 64 4 × Vx 64 4) (H : pcurve_curve_base c_Field_M c_Field_inv c_Field_one c_Field_two c_b = some r) :
  Does Try.prog 36 [ptr (some (bc, obc)) 0] [] [⟨some (bc, obc), [ptr (some (bc_Field, obc_Field)) 0]⟩, ⟨some (bc, obc + 1), e64 c_b.toList⟩, ⟨some (bc_Field, obc_Field), e64 c_Field_M.toList⟩, ⟨some (bc_Field, obc_Field + 4), [v64 c_Field_inv]⟩, ⟨some (bc_Field, obc_Field + 5), e64 c_Field_one.toList⟩, ⟨some (bc_Field, obc_Field + 9), e64 c_Field_two.toList⟩] (Γ := Unit) (fun g => aG [(4, e64 r.1.toList), (4, e64 r.2.1.toList), (4, e64 r.2.2.toList)]) (fun g => []) := by
 intro w hmem hro hd
 refine calls_of (N := 25) (m0 := [(0, ptr (some (bc, obc)) 0)]) Try.func36 rfl Try.ntmps36 (argM_ok [ptr (some (bc, obc)) 0]) rfl hmem hro hd ?_
 unfold pcurve_curve_base at H
 refine TC_seq ?_
 refine TC_region ?_
 refine TLe (E_allocP [(4, e64 ((replicate 4 0#64).toList)), (4, e64 ((replicate 4 0#64).toList)), (4, e64 ((replicate 4 0#64).toList))] TryI.inf64 TryI.zer64 ⟨(lenV (f := v64) (replicate 4 0#64)), (lenV (f := v64) (replicate 4 0#64)), (lenV (f := v64) (replicate 4 0#64)), trivial⟩) (fun b1 => ?_)
 refine TL_nil ?_
 refine TX_next ?_
 refine TC_seq ?_
 refine TC_region ?_
 refine TLv (V_buildArr (pv := [(0, v64 17627433388654248598#64), (1, v64 8575836109218198432#64), (2, v64 17923454489921339634#64), (3, v64 7716867327612699207#64)]) rfl rfl Try.underlying57 TryI.inf57 TryI.inf55 rfl TryI.zer57 (cs := e64 ((#v[17627433388654248598#64, 8575836109218198432#64, 17923454489921339634#64, 7716867327612699207#64] : Vx 64 4).toList)) (by kernel_rfl)) ?_
 refine TLe (E_al64 4 TryI.inf57 TryI.zer57) (fun b2 => ?_)
 refine TLn (E_sv 0 TryI.inf57) (fun _ => ?_)
 obtain ⟨m_1, hm_1, H⟩ := ltt_elim H
 refine TL_reE (j := 0) (A := some (b2, 0)) (cs := e64 ((#v[17627433388654248598#64, 8575836109218198432#64, 17923454489921339634#64, 7716867327612699207#64] : Vx 64 4).toList)) (cs' := e64 m_1.toList) rfl (congrArg (fun z : Vx 64 4 => e64 (Vector.toList z)) hm_1) ?_
 refine TL_nil ?_
 refine TX_next ?_
 refine TC_seq ?_
 refine TC_region ?_
 refine TLv (V_buildArr (pv := [(0, v64 14678990851816772085#64), (1, v64 3156516839386865358#64), (2, v64 10297457778147434006#64), (3, v64 5756518291402817435#64)]) rfl rfl Try.underlying57 TryI.inf57 TryI.inf55 rfl TryI.zer57 (cs := e64 ((#v[14678990851816772085#64, 3156516839386865358#64, 10297457778147434006#64, 5756518291402817435#64] : Vx 64 4).toList)) (by kernel_rfl)) ?_
 refine TLe (E_al64 4 TryI.inf57 TryI.zer57) (fun b3 => ?_)
 refine TLn (E_sv 0 TryI.inf57) (fun _ => ?_)
 obtain ⟨m_2, hm_2, H⟩ := ltt_elim H
 refine TL_reE (j := 0) (A := some (b3, 0)) (cs := e64 ((#v[14678990851816772085#64, 3156516839386865358#64, 10297457778147434006#64, 5756518291402817435#64] : Vx 64 4).toList)) (cs' := e64 m_2.toList) rfl (congrArg (fun z : Vx 64 4 => e64 (Vector.toList z)) hm_2) ?_
 refine TL_nil ?_
 refine TX_next ?_
 refine TC_seq ?_
 obtain ⟨r_1, hr_1, H⟩ := bind_elim H
 obtain ⟨r_2, hr_2, H⟩ := bind_elim H
 obtain ⟨r_3, hr_3, H⟩ := bind_elim H
 refine TA_begin [] 19 (by kernel_rfl) (N := 19) rfl ?_
 refine TA_mix (is := []) (done' := dn 19 262143) [itV 0 7 (ptr (some (bc, obc)) 0) [], itV 1 8 (ptr (some (bc, obc)) 0) [0], itV 2 9 (ptr (some (bc, obc)) 0) [1], itV 3 10 (ptr (some (bc_Field, obc_Field)) 0) [2], itV 4 11 (aG [(4, e64 m_1.toList)]) [], itV 5 12 (aG [(4, e64 r_1.toList)]) [3, 4], itV 6 13 (ptr (some (bc, obc)) 0) [], itV 7 14 (ptr (some (bc, obc)) 0) [6], itV 8 15 (ptr (some (bc, obc)) 0) [7], itV 9 16 (ptr (some (bc_Field, obc_Field)) 0) [8], itV 10 17 (aG [(4, e64 m_2.toList)]) [], itV 11 18 (aG [(4, e64 r_2.toList)]) [9, 10], itV 12 19 (ptr (some (bc, obc)) 0) [], itV 13 20 (ptr (some (bc, obc)) 0) [12], itV 14 21 (ptr (some (bc, obc)) 0) [13], itV 15 22 (ptr (some (bc_Field, obc_Field)) 0) [14], itV 16 23 (aG [(4, e64 r_3.toList)]) [15], itV 17 24 (aG [(4, e64 r_1.toList), (4, e64 r_2.toList), (4, e64 r_3.toList)]) [11, 5, 16]] [] 1 (by kernel_rfl) (QP.then QP.body) (by kernel_rfl) rfl (.v rfl (V_move rfl) (.v rfl (V_nilCheck rfl) (.v rfl (V_fe Try.underlying100 TryI.inf82) (.v rfl (V_load rfl (.r 0) rfl Try.isAgg82) (.v rfl (V_lag (.o 1) Try.isAgg57 TryI.inf57) (.e rfl (E_cu (F56_calls bc_Field obc_Field c_Field_M c_Field_inv c_Field_one c_Field_two m_1 r_1 hr_1) Try.call56 ⟨.r 2, .r 3, .r 4, .r 5, trivial⟩) (.v rfl (V_move rfl) (.v rfl (V_nilCheck rfl) (.v rfl (V_fe Try.underlying100 TryI.inf82) (.v rfl (V_load rfl (.r 0) rfl Try.isAgg82) (.v rfl (V_lag (.o 0) Try.isAgg57 TryI.inf57) (.e rfl (E_cu (F56_calls bc_Field obc_Field c_Field_M c_Field_inv c_Field_one c_Field_two m_2 r_2 hr_2) Try.call56 ⟨.r 2, .r 3, .r 4, .r 5, trivial⟩) (.v rfl (V_move rfl) (.v rfl (V_nilCheck rfl) (.v rfl (V_fe Try.underlying100 TryI.inf82) (.v rfl (V_load rfl (.r 0) rfl Try.isAgg82) (.e rfl (E_cu (F75_calls bc_Field obc_Field c_Field_M c_Field_inv c_Field_one c_Field_two r_3 hr_3) Try.call75 ⟨.r 2, .r 3, .r 4, .r 5, trivial⟩) (.v rfl (V_buildStruct (pv := [(0, aG [(4, e64 r_1.toList)]), (1, aG [(4, e64 r_2.toList)]), (2, aG [(4, e64 r_3.toList)])]) (pl := [(0, 4), (4, 4), (8, 4)]) rfl rfl Try.underlying64 TryI.inf64 TryI.places64 TryI.zer64 (cs := flat [(4, e64 r_1.toList), (4, e64 r_2.toList), (4, e64 r_3.toList)]) (fill_part [] [(4, e64 ((replicate 4 0#64).toList)), (4, e64 ((replicate 4 0#64).toList))] rfl rfl trivial rfl (lenV (f := v64) (replicate 4 0#64)) (lenV (f := v64) r_1) (fill_part [(4, e64 r_1.toList)] [(4, e64 ((replicate 4 0#64).toList))] rfl rfl ⟨(lenV (f := v64) r_1), trivial⟩ rfl (lenV (f := v64) (replicate 4 0#64)) (lenV (f := v64) r_2) (fill_part [(4, e64 r_1.toList), (4, e64 r_2.toList)] [] rfl rfl ⟨(lenV (f := v64) r_1), (lenV (f := v64) r_2), trivial⟩ rfl (lenV (f := v64) (replicate 4 0#64)) (lenV (f := v64) r_3) fill_end)))) .nil)))))))))))))))))) .nil (by kernel_rfl) rfl (fun γ => ?_)
 refine TA_cut [(24, aG [(4, e64 r_1.toList), (4, e64 r_2.toList), (4, e64 r_3.toList)]), (2, ptr (some (b1, 0)) 0)] [⟨some (b3, 0), e64 m_2.toList⟩, ⟨some (b2, 0), e64 m_1.toList⟩, ⟨some (b1, 0), e64 ((replicate 4 0#64).toList)⟩, ⟨some (b1, 4), e64 ((replicate 4 0#64).toList)⟩, ⟨some (b1, 8), e64 ((replicate 4 0#64).toList)⟩] ⟨rfl, rfl, trivial⟩ rfl ?_
 refine TA_all (rs := [18]) (by kernel_rfl) rfl ?_
 refine ⟨?_, trivial⟩
 refine TO_n (is := []) (done' := dn 19 524287) rfl rfl rfl (by kernel_rfl) (E_sp (b := b1) (o := 0) [2, 2, 2] [(4, e64 ((replicate 4 0#64).toList)), (4, e64 ((replicate 4 0#64).toList)), (4, e64 ((replicate 4 0#64).toList))] [(4, e64 r_1.toList), (4, e64 r_2.toList), (4, e64 r_3.toList)] rfl TryI.inf64 ⟨(lenV (f := v64) (replicate 4 0#64)), (lenV (f := v64) (replicate 4 0#64)), (lenV (f := v64) (replicate 4 0#64)), trivial⟩ ⟨(lenV (f := v64) r_1), (lenV (f := v64) r_2), (lenV (f := v64) r_3), trivial⟩ ⟨(OneC.map (fun _ => rfl) _), (OneC.map (fun _ => rfl) _), (OneC.map (fun _ => rfl) _), trivial⟩) (fun _ _ => rfl) (fun _ => ?_)
 refine TA_done (by kernel_rfl) ?_ 0
 refine TX_next ?_
 refine TC_ret ?_
 have hrv := Option.some.inj H
 subst hrv
 exact TX_ret (rs := [.cell 2 64]) (vs := [aG [(4, e64 r_1.toList), (4, e64 r_2.toList), (4, e64 r_3.toList)]]) rfl ⟨(Res_agg (n := 12) (cs := flat [(4, e64 r_1.toList), (4, e64 r_2.toList), (4, e64 r_3.toList)]) rfl (by simp) (SrcEnts (b := b1) [(4, e64 r_1.toList), (4, e64 r_2.toList), (4, e64 r_3.toList)] 0 ⟨(lenV (f := v64) r_1), (lenV (f := v64) r_2), (lenV (f := v64) r_3), trivial⟩ (AllSrc.all (M := ents b1 0 [(4, e64 r_1.toList), (4, e64 r_2.toList), (4, e64 r_3.toList)]) ⟨Src.own (j := 0) rfl, Src.own (j := 1) rfl, Src.own (j := 2) rfl, trivial⟩)) Try.isAgg64 TryI.inf64 rfl (by simp [flat])), trivial⟩ (fun w' hs' => ⟨(), rfl, Step.left (Step.pulled (is := []) (A := []) hs' rfl)⟩)
end Go.Proofs
end

section
namespace Go.Proofs
open Go Go.Kx
open Vector (replicate)
def pcurve_newCurve : Option (Vx 64 4 × BitVec 64 × Vx 64 4 × Vx 64 4 × Vx 64 4) :=
 (num_New 0).bind fun (r_1 : (Unit) ⊕ (Vx 64 4 × BitVec 64 × Vx 64 4 × Vx 64 4)) => (match r_1 with | .inl r_1 => (none) | .inr r_1 => ((num_Field_In r_1.1 r_1.2.1 r_1.2.2.1 r_1.2.2.2 (#v[4309448131093880907#64, 7285987128567378166#64, 12964664127075681980#64, 6540974713487397863#64] : Vx 64 4)).bind fun (r_2 : Vx 64 4) => (some (r_1.1, r_1.2.1, r_1.2.2.1, r_1.2.2.2, r_2))))
set_option maxHeartbeats 4000000 in
set_option maxRecDepth 20000 in
theorem F33_calls (r : Vx 64 4 × BitVec 64 × Vx 64 4 × Vx 64 4 × Vx 64 4) (H : pcurve_newCurve = some r) :
  Does Try.prog 33 [] [] [] (Γ := Nat × Nat) (fun g => ptr (some (g.1, 0)) 0) (fun g => [⟨some (g.1, 0), [ptr (some (g.2, 0)) 0]⟩, ⟨some (g.2, 0), e64 r.1.toList⟩, ⟨some (g.2, 4), [v64 r.2.1]⟩, ⟨some (g.2, 5), e64 r.2.2.1.toList⟩, ⟨some (g.2, 9), e64 r.2.2.2.1.toList⟩, ⟨some (g.1, 1), e64 r.2.2.2.2.toList⟩]) := by
 intro w hmem hro hd
 refine calls_of (N := 9) (m0 := []) Try.func33 rfl Try.ntmps33 (argM_ok []) rfl hmem hro hd ?_
 unfold pcurve_newCurve at H
 refine TC_seq ?_
 refine TC_region ?_
 refine TLv (V_assign rfl) ?_
 refine TL_nil ?_
 refine TX_next ?_
 refine TC_seq ?_
 refine TC_region ?_
 obtain ⟨r_1, hr_1, H⟩ := bind_elim H
 rcases r_1 with r_1 | r_1
 ·dsimp only at H
  refine TL_e rfl rfl rfl (E_call (Γ := Unit × Nat) (val := fun g => Value.pointer none) (mem := fun g => []) (vs := [vi 0]) (Lin := []) (Ro := []) (is := []) rfl Try.call53 (F53_calls 0 (.inl r_1) hr_1) rfl trivial) (fun g_1 => ?_)
  refine TLv (V_assign rfl) ?_
  refine TL_nil ?_
  refine TX_next ?_
  refine TC_seq ?_
  refine TC_region ?_
  refine TLv (V_move rfl) ?_
  refine TLv (V_move rfl) ?_
  refine TLv (V_buildArr (pv := [(0, v64 4309448131093880907#64), (1, v64 7285987128567378166#64), (2, v64 12964664127075681980#64), (3, v64 6540974713487397863#64)]) rfl rfl Try.underlying57 TryI.inf57 TryI.inf55 rfl TryI.zer57 (cs := e64 ((#v[4309448131093880907#64, 7285987128567378166#64, 12964664127075681980#64, 6540974713487397863#64] : Vx 64 4).toList)) (by kernel_rfl)) ?_
  exact absurd (show (none : Option _) = some _ from H) (fun h => by cases h)
 ·dsimp only at H
  refine TL_e rfl rfl rfl (E_call (Γ := Unit × Nat) (val := fun g => ptr (some (g.2, 0)) 0) (mem := fun g => [⟨some (g.2, 0), e64 r_1.1.toList⟩, ⟨some (g.2, 4), [v64 r_1.2.1]⟩, ⟨some (g.2, 5), e64 r_1.2.2.1.toList⟩, ⟨some (g.2, 9), e64 r_1.2.2.2.toList⟩]) (vs := [vi 0]) (Lin := []) (Ro := []) (is := []) rfl Try.call53 (F53_calls 0 (.inr r_1) hr_1) rfl trivial) (fun g_2 => ?_)
  refine TLv (V_assign rfl) ?_
  refine TL_nil ?_
  refine TX_next ?_
  refine TC_seq ?_
  refine TC_region ?_
  refine TLv (V_move rfl) ?_
  refine TLv (V_move rfl) ?_
  refine TLv (V_buildArr (pv := [(0, v64 4309448131093880907#64), (1, v64 7285987128567378166#64), (2, v64 12964664127075681980#64), (3, v64 6540974713487397863#64)]) rfl rfl Try.underlying57 TryI.inf57 TryI.inf55 rfl TryI.zer57 (cs := e64 ((#v[4309448131093880907#64, 7285987128567378166#64, 12964664127075681980#64, 6540974713487397863#64] : Vx 64 4).toList)) (by kernel_rfl)) ?_
  obtain ⟨r_2, hr_2, H⟩ := bind_elim H
  refine TLe (E_c0 (F56_calls g_2.2 0 r_1.1 r_1.2.1 r_1.2.2.1 r_1.2.2.2 (#v[4309448131093880907#64, 7285987128567378166#64, 12964664127075681980#64, 6540974713487397863#64] : Vx 64 4) r_2 hr_2) Try.call56 ⟨.o 0, .o 1, .o 2, .o 3, trivial⟩) (fun g_3 => ?_)
  refine TLv (V_buildStruct (pv := [(0, ptr (some (g_2.2, 0)) 0), (1, aG [(4, e64 r_2.toList)])]) (pl := [(0, 1), (1, 4)]) rfl rfl Try.underlying100 TryI.inf100 TryI.places100 TryI.zer100 (cs := flat [(1, [ptr (some (g_2.2, 0)) 0]), (4, e64 r_2.toList)]) (fill_part [] [(4, e64 ((replicate 4 0#64).toList))] rfl rfl trivial rfl rfl rfl (fill_part [(1, [ptr (some (g_2.2, 0)) 0])] [] rfl rfl ⟨rfl, trivial⟩ rfl (lenV (f := v64) (replicate 4 0#64)) (lenV (f := v64) r_2) fill_end))) ?_
  refine TLe (E_boxP [(1, [ptr (some (g_2.2, 0)) 0]), (4, e64 r_2.toList)] rfl rfl ⟨rfl, (lenV (f := v64) r_2), trivial⟩) (fun b1 => ?_)
  refine TLv (V_assign rfl) ?_
  refine TL_nil ?_
  refine TX_next ?_
  refine TC_ret ?_
  have hrv := Option.some.inj H
  subst hrv
  exact TX_ret (rs := [.tmp 0]) (vs := [ptr (some (b1, 0)) 0]) rfl ⟨rfl, trivial⟩ (fun w' hs' => ⟨(b1, g_2.2), rfl, Step.left (Step.pulled (is := [0, 1, 1, 1, 1, 0]) (A := [⟨some (b1, 0), [ptr (some (g_2.2, 0)) 0]⟩, ⟨some (g_2.2, 0), e64 r_1.1.toList⟩, ⟨some (g_2.2, 4), [v64 r_1.2.1]⟩, ⟨some (g_2.2, 5), e64 r_1.2.2.1.toList⟩, ⟨some (g_2.2, 9), e64 r_1.2.2.2.toList⟩, ⟨some (b1, 1), e64 r_2.toList⟩]) hs' rfl)⟩)
end Go.Proofs
end

section
namespace Go.Proofs
open Go Go.Kx
open Vector (replicate)
def pcurve_curve_read (c_Field_M : Vx 64 4) (c_Field_inv : BitVec 64) (c_Field_one : Vx 64 4) (c_Field_two : Vx 64 4) (c_b : Vx 64 4) (p : Str) : Option (Vx 64 4 × Vx 64 4 × Vx 64 4 × Bool) :=
 (if ((p).length : Int) ≠ 65 then (some true) else (if 0 ≤ (0 : Int) ∧ (0 : Int) < ((p).length : Int) then (some (decide ((sg p 0) ≠ 4#8))) else none)).bind fun (j1 : Bool) => (if j1 = true then (some (replicate 4 0#64, replicate 4 0#64, replicate 4 0#64, false)) else (if 33 ≤ (p).length then ((num_Field_Read c_Field_M c_Field_inv c_Field_one c_Field_two (sub p 1 33)).bind fun (r_1 : Vx 64 4 × Bool) => (if 33 ≤ (p).length then ((num_Field_Read c_Field_M c_Field_inv c_Field_one c_Field_two (sub p 33 ((p).length))).bind fun (r_2 : Vx 64 4 × Bool) => ((if (!r_1.2) = true then (some true) else (some (!r_2.2))).bind fun (j2 : Bool) => (if j2 = true then (some (replicate 4 0#64, replicate 4 0#64, replicate 4 0#64, false)) else ((num_Field_In c_Field_M c_Field_inv c_Field_one c_Field_two r_1.1).bind fun (r_3 : Vx 64 4) => ((num_Field_In c_Field_M c_Field_inv c_Field_one c_Field_two r_2.1).bind fun (r_4 : Vx 64 4) => ((num_Field_Add c_Field_M c_Field_inv c_Field_one c_Field_two r_3 r_3).bind fun (r_5 : Vx 64 4) => ((num_Field_Add c_Field_M c_Field_inv c_Field_one c_Field_two r_3 r_5).bind fun (r_6 : Vx 64 4) => ((num_Field_Mul c_Field_M c_Field_inv c_Field_one c_Field_two r_3 r_3).bind fun (r_7 : Vx 64 4) => ((num_Field_Mul c_Field_M c_Field_inv c_Field_one c_Field_two r_3 r_7).bind fun (r_8 : Vx 64 4) => ((num_Field_Sub c_Field_M c_Field_inv c_Field_one c_Field_two r_8 r_6).bind fun (r_9 : Vx 64 4) => ((num_Field_Add c_Field_M c_Field_inv c_Field_one c_Field_two r_9 c_b).bind fun (r_10 : Vx 64 4) => ((num_Field_One c_Field_M c_Field_inv c_Field_one c_Field_two).bind fun (r_11 : Vx 64 4) => ((num_Field_Mul c_Field_M c_Field_inv c_Field_one c_Field_two r_4 r_4).bind fun (r_12 : Vx 64 4) => (ltt (decide (r_12 = r_10)) fun (x1 : Bool) => (some (r_3, r_4, r_11, x1)))))))))))))))) else none)) else none))
set_option maxHeartbeats 4000000 in
set_option maxRecDepth 20000 in
theorem F41_calls (bc : Nat) (obc : Nat) (bc_Field : Nat) (obc_Field : Nat) (c_Field_M : Vx 64 4) (c_Field_inv : BitVec 64) (c_Field_one : Vx 64 4) (c_Field_two : Vx 64 4) (c_b : Vx 64 4) (p : Str) (r : Vx 64 4 × Vx 64 4 × Vx 64 4 × Bool) (H : pcurve_curve_read c_Field_M c_Field_inv c_Field_one c_Field_two c_b p = some r) :
  Does Try.prog 41 [ptr (some (bc, obc)) 0, vs p] [] [⟨some (bc, obc), [ptr (some (bc_Field, obc_Field)) 0]⟩, ⟨some (bc, obc + 1), e64 c_b.toList⟩, ⟨some (bc_Field, obc_Field), e64 c_Field_M.toList⟩, ⟨some (bc_Field, obc_Field + 4), [v64 c_Field_inv]⟩, ⟨some (bc_Field, obc_Field + 5), e64 c_Field_one.toList⟩, ⟨some (bc_Field, obc_Field + 9), e64 c_Field_two.toList⟩] (Γ := Unit) (fun g => Value.tuple [aG [(4, e64 r.1.toList), (4, e64 r.2.1.toList), (4, e64 r.2.2.1.toList)], vb r.2.2.2].toArray) (fun g => []) := by
 intro w hmem hro hd
 refine calls_of (N := 118) (m0 := [(0, ptr (some (bc, obc)) 0), (1, vs p)]) Try.func41 rfl Try.ntmps41 (argM_ok [ptr (some (bc, obc)) 0, vs p]) rfl hmem hro hd ?_
 unfold pcurve_curve_read at H
 refine TC_seq ?_
 refine TC_region ?_
 refine TLe (E_allocP [(4, e64 ((replicate 4 0#64).toList)), (4, e64 ((replicate 4 0#64).toList)), (4, e64 ((replicate 4 0#64).toList))] TryI.inf64 TryI.zer64 ⟨(lenV (f := v64) (replicate 4 0#64)), (lenV (f := v64) (replicate 4 0#64)), (lenV (f := v64) (replicate 4 0#64)), trivial⟩) (fun b1 => ?_)
 refine TLv (V_assign rfl) ?_
 refine TL_nil ?_
 refine TX_next ?_
 refine TC_seq ?_
 refine TC_seq ?_
 refine TC_region ?_
 refine TLv (V_move rfl) ?_
 refine TLv (V_len_str rfl Try.underlying9) ?_
 refine TLv (V_bin rfl rfl (fun w => neqI w ((p).length : Int) 65)) ?_
 refine TLv (V_move rfl) ?_
 obtain ⟨j1, Hj, H⟩ := bind_elim H
 refine TL_join (Γ := Unit) (fun gj1 => [(0, ptr (some (bc, obc)) 0), (1, vs p), (4, ptr (some (b1, 0)) 0), (19, vb j1)]) (fun gj1 => [⟨some (b1, 0), e64 ((replicate 4 0#64).toList)⟩, ⟨some (b1, 4), e64 ((replicate 4 0#64).toList)⟩, ⟨some (b1, 8), e64 ((replicate 4 0#64).toList)⟩]) ?_ ?_
 ·intro gj1
  refine TX_next ?_
  refine TC_cond (b := j1) rfl (fun hc => ?_) (fun hc => ?_)
  ·replace H := ite_t hc H
   refine TC_seq ?_
   refine TC_region ?_
   refine TLv (V_buildStruct (pv := []) (pl := [(0, 4), (4, 4), (8, 4)]) rfl rfl Try.underlying64 TryI.inf64 TryI.places64 TryI.zer64 (cs := flat [(4, e64 ((replicate 4 0#64).toList)), (4, e64 ((replicate 4 0#64).toList)), (4, e64 ((replicate 4 0#64).toList))]) fill_end) ?_
   refine TLn (E_sp (b := b1) (o := 0) [0, 0, 0] [(4, e64 ((replicate 4 0#64).toList)), (4, e64 ((replicate 4 0#64).toList)), (4, e64 ((replicate 4 0#64).toList))] [(4, e64 ((replicate 4 0#64).toList)), (4, e64 ((replicate 4 0#64).toList)), (4, e64 ((replicate 4 0#64).toList))] rfl TryI.inf64 ⟨(lenV (f := v64) (replicate 4 0#64)), (lenV (f := v64) (replicate 4 0#64)), (lenV (f := v64) (replicate 4 0#64)), trivial⟩ ⟨(lenV (f := v64) (replicate 4 0#64)), (lenV (f := v64) (replicate 4 0#64)), (lenV (f := v64) (replicate 4 0#64)), trivial⟩ ⟨(OneC.map (fun _ => rfl) _), (OneC.map (fun _ => rfl) _), (OneC.map (fun _ => rfl) _), trivial⟩) (fun _ => ?_)
   refine TLv (V_assign rfl) ?_
   refine TL_nil ?_
   refine TX_next ?_
   refine TC_ret ?_
   refine TX_then_ret ?_
   have hrv := Option.some.inj H
   subst hrv
   exact TX_ret (rs := [.cell 4 64, .tmp 5]) (vs := [aG [(4, e64 ((replicate 4 0#64).toList)), (4, e64 ((replicate 4 0#64).toList)), (4, e64 ((replicate 4 0#64).toList))], vb false]) rfl ⟨(Res_agg (n := 12) (cs := flat [(4, e64 ((replicate 4 0#64).toList)), (4, e64 ((replicate 4 0#64).toList)), (4, e64 ((replicate 4 0#64).toList))]) rfl (by simp) (SrcEnts (b := b1) [(4, e64 ((replicate 4 0#64).toList)), (4, e64 ((replicate 4 0#64).toList)), (4, e64 ((replicate 4 0#64).toList))] 0 ⟨(lenV (f := v64) (replicate 4 0#64)), (lenV (f := v64) (replicate 4 0#64)), (lenV (f := v64) (replicate 4 0#64)), trivial⟩ (AllSrc.all (M := ents b1 0 [(4, e64 ((replicate 4 0#64).toList)), (4, e64 ((replicate 4 0#64).toList)), (4, e64 ((replicate 4 0#64).toList))]) ⟨Src.own (j := 0) rfl, Src.own (j := 1) rfl, Src.own (j := 2) rfl, trivial⟩)) Try.isAgg64 TryI.inf64 rfl (by simp [flat])), rfl, trivial⟩ (fun w' hs' => ⟨(), rfl, Step.left (Step.pulled (is := []) (A := []) hs' rfl)⟩)
  ·replace H := ite_f (Bool.eq_false_iff.1 hc) H
   refine TC_skip ?_
   refine TX_next ?_
   refine TC_seq ?_
   obtain ⟨h1, H⟩ := if_elim H
   obtain ⟨r_1, hr_1, H⟩ := bind_elim H
   refine TA_begin [⟨some (b1, 0), e64 ((replicate 4 0#64).toList)⟩, ⟨some (b1, 4), e64 ((replicate 4 0#64).toList)⟩, ⟨some (b1, 8), e64 ((replicate 4 0#64).toList)⟩] 12 (by kernel_rfl) (N := 13) rfl ?_
   refine TA_tk 0 [0, 0, 0] (dn 13 1) rfl rfl (V_move rfl) ?_
   refine TA_tk 1 [0, 0, 0] (dn 13 3) rfl rfl (V_nilCheck rfl) ?_
   refine TA_tk 2 [0, 0, 0] (dn 13 7) rfl rfl (V_fieldE rfl Try.underlying100 rfl rfl TryI.inf82 rfl (v := ptr (some (bc, obc)) 0) rfl) ?_
   refine TA_tk 3 [0, 0, 0] (dn 13 15) rfl rfl (V_load rfl (.r 0) rfl Try.isAgg82) ?_
   refine TA_tk 4 [0, 0, 0] (dn 13 31) rfl rfl (V_move rfl) ?_
   refine TA_tk 5 [0, 0, 0] (dn 13 63) rfl rfl (V_sliceStr (l := 1) (h := 33) rfl Try.underlying9 (Bnd.some' (i := 1) rfl (by decide)) (Bnd.some' (i := 33) rfl (by decide)) (by decide) h1) ?_
   refine TA_mix (is := [0, 0, 0]) (done' := dn 13 2047) [itV 6 28 (Value.tuple [aG [(4, e64 r_1.1.toList)], vb r_1.2].toArray) [], itV 7 21 (Value.tuple [aG [(4, e64 r_1.1.toList)], vb r_1.2].toArray) [6], itV 8 29 (aG [(4, e64 r_1.1.toList)]) [7], itA64 10 6 4] [itV 9 30 (vb r_1.2) [7]] 2 (by kernel_rfl) (QP.then QP.body) (by kernel_rfl) rfl (.e rfl (E_cu (F73_calls bc_Field obc_Field c_Field_M c_Field_inv c_Field_one c_Field_two (sub p 1 33) r_1 hr_1) Try.call73 ⟨.r 2, .r 3, .r 4, .r 5, trivial⟩) (.v rfl (V_move rfl) (.v rfl V_ex (.c rfl (fun _ _ => (E_al64 4 TryI.inf57 TryI.zer57)) .nil)))) (.c rfl (fun _ => V_ex) .nil) (by kernel_rfl) rfl (fun γ => ?_)
   refine TA_cut [(30, vb r_1.2), (6, ptr (some ((γ 10), 0)) 0), (29, aG [(4, e64 r_1.1.toList)]), (0, ptr (some (bc, obc)) 0), (1, vs p), (4, ptr (some (b1, 0)) 0)] [⟨some ((γ 10), 0), e64 ((replicate 4 0#64).toList)⟩, ⟨some (b1, 0), e64 ((replicate 4 0#64).toList)⟩, ⟨some (b1, 4), e64 ((replicate 4 0#64).toList)⟩, ⟨some (b1, 8), e64 ((replicate 4 0#64).toList)⟩] ⟨rfl, rfl, rfl, rfl, rfl, rfl, trivial⟩ rfl ?_
   generalize γ 10 = b2
   refine TA_all (rs := [11]) (by kernel_rfl) rfl ?_
   refine ⟨?_, trivial⟩
   refine TO_n (is := [1, 1, 1]) (done' := dn 13 4095) rfl rfl rfl (by kernel_rfl) (E_sv (vs := e64 r_1.1.toList) 0 TryI.inf57) (fun _ _ => rfl) (fun _ => ?_)
   refine TA_all (rs := [12]) (by kernel_rfl) rfl ?_
   refine ⟨?_, trivial⟩
   refine TO_v (is := []) (R := []) (done' := dn 13 8191) rfl rfl rfl rfl (by kernel_rfl) (V_assign rfl) (fun h => by cases h) ?_
   refine TA_done (by kernel_rfl) ?_ 0
   refine TX_next ?_
   refine TC_seq ?_
   obtain ⟨h2, H⟩ := if_elim H
   obtain ⟨r_2, hr_2, H⟩ := bind_elim H
   refine TA_begin [⟨some (b2, 0), e64 r_1.1.toList⟩, ⟨some (b1, 0), e64 ((replicate 4 0#64).toList)⟩, ⟨some (b1, 4), e64 ((replicate 4 0#64).toList)⟩, ⟨some (b1, 8), e64 ((replicate 4 0#64).toList)⟩] 12 (by kernel_rfl) (N := 13) rfl ?_
   refine TA_tk 0 [0, 0, 0, 0] (dn 13 1) rfl rfl (V_move rfl) ?_
   refine TA_tk 1 [0, 0, 0, 0] (dn 13 3) rfl rfl (V_nilCheck rfl) ?_
   refine TA_tk 2 [0, 0, 0, 0] (dn 13 7) rfl rfl (V_fieldE rfl Try.underlying100 rfl rfl TryI.inf82 rfl (v := ptr (some (bc, obc)) 0) rfl) ?_
   refine TA_tk 3 [0, 0, 0, 0] (dn 13 15) rfl rfl (V_load rfl (.r 0) rfl Try.isAgg82) ?_
   refine TA_tk 4 [0, 0, 0, 0] (dn 13 31) rfl rfl (V_move rfl) ?_
   refine TA_tk 5 [0, 0, 0, 0] (dn 13 63) rfl rfl (V_sliceStr (l := 33) (h := (p).length) rfl Try.underlying9 (Bnd.some' (i := 33) rfl (by decide)) Bnd.none' h2 (Nat.le_refl _)) ?_
   refine TA_mix (is := [0, 0, 0, 0]) (done' := dn 13 2047) [itV 6 38 (Value.tuple [aG [(4, e64 r_2.1.toList)], vb r_2.2].toArray) [], itV 7 31 (Value.tuple [aG [(4, e64 r_2.1.toList)], vb r_2.2].toArray) [6], itV 8 39 (aG [(4, e64 r_2.1.toList)]) [7], itA64 10 8 4] [itV 9 40 (vb r_2.2) [7]] 2 (by kernel_rfl) (QP.then QP.body) (by kernel_rfl) rfl (.e rfl (E_cu (F73_calls bc_Field obc_Field c_Field_M c_Field_inv c_Field_one c_Field_two (sub p 33 ((p).length)) r_2 hr_2) Try.call73 ⟨.r 2, .r 3, .r 4, .r 5, trivial⟩) (.v rfl (V_move rfl) (.v rfl V_ex (.c rfl (fun _ _ => (E_al64 4 TryI.inf57 TryI.zer57)) .nil)))) (.c rfl (fun _ => V_ex) .nil) (by kernel_rfl) rfl (fun γ => ?_)
   refine TA_cut [(40, vb r_2.2), (8, ptr (some ((γ 10), 0)) 0), (39, aG [(4, e64 r_2.1.toList)]), (7, vb r_1.2), (6, ptr (some (b2, 0)) 0), (0, ptr (some (bc, obc)) 0), (4, ptr (some (b1, 0)) 0)] [⟨some ((γ 10), 0), e64 ((replicate 4 0#64).toList)⟩, ⟨some (b2, 0), e64 r_1.1.toList⟩, ⟨some (b1, 0), e64 ((replicate 4 0#64).toList)⟩, ⟨some (b1, 4), e64 ((replicate 4 0#64).toList)⟩, ⟨some (b1, 8), e64 ((replicate 4 0#64).toList)⟩] ⟨rfl, rfl, rfl, rfl, rfl, rfl, rfl, trivial⟩ rfl ?_
   generalize γ 10 = b3
   refine TA_all (rs := [11]) (by kernel_rfl) rfl ?_
   refine ⟨?_, trivial⟩
   refine TO_n (is := [1, 1, 1, 1]) (done' := dn 13 4095) rfl rfl rfl (by kernel_rfl) (E_sv (vs := e64 r_2.1.toList) 0 TryI.inf57) (fun _ _ => rfl) (fun _ => ?_)
   refine TA_all (rs := [12]) (by kernel_rfl) rfl ?_
   refine ⟨?_, trivial⟩
   refine TO_v (is := []) (R := []) (done' := dn 13 8191) rfl rfl rfl rfl (by kernel_rfl) (V_assign rfl) (fun h => by cases h) ?_
   refine TA_done (by kernel_rfl) ?_ 0
   refine TX_next ?_
   refine TC_seq ?_
   refine TC_seq ?_
   refine TC_region ?_
   refine TLv (V_move rfl) ?_
   refine TLv (V_un rfl (fun w => notB w r_1.2)) ?_
   refine TLv (V_move rfl) ?_
   obtain ⟨j2, Hj, H⟩ := bind_elim H
   refine TL_join (Γ := Unit) (fun gj2 => [(0, ptr (some (bc, obc)) 0), (4, ptr (some (b1, 0)) 0), (6, ptr (some (b2, 0)) 0), (8, ptr (some (b3, 0)) 0), (46, vb j2)]) (fun gj2 => [⟨some (b1, 0), e64 ((replicate 4 0#64).toList)⟩, ⟨some (b1, 4), e64 ((replicate 4 0#64).toList)⟩, ⟨some (b1, 8), e64 ((replicate 4 0#64).toList)⟩, ⟨some (b2, 0), e64 r_1.1.toList⟩, ⟨some (b3, 0), e64 r_2.1.toList⟩]) ?_ ?_
   ·intro gj2
    refine TX_next ?_
    refine TC_cond (b := j2) rfl (fun hc => ?_) (fun hc => ?_)
    ·replace H := ite_t hc H
     refine TC_seq ?_
     refine TC_region ?_
     refine TLv (V_buildStruct (pv := []) (pl := [(0, 4), (4, 4), (8, 4)]) rfl rfl Try.underlying64 TryI.inf64 TryI.places64 TryI.zer64 (cs := flat [(4, e64 ((replicate 4 0#64).toList)), (4, e64 ((replicate 4 0#64).toList)), (4, e64 ((replicate 4 0#64).toList))]) fill_end) ?_
     refine TLn (E_sp (b := b1) (o := 0) [0, 0, 0] [(4, e64 ((replicate 4 0#64).toList)), (4, e64 ((replicate 4 0#64).toList)), (4, e64 ((replicate 4 0#64).toList))] [(4, e64 ((replicate 4 0#64).toList)), (4, e64 ((replicate 4 0#64).toList)), (4, e64 ((replicate 4 0#64).toList))] rfl TryI.inf64 ⟨(lenV (f := v64) (replicate 4 0#64)), (lenV (f := v64) (replicate 4 0#64)), (lenV (f := v64) (replicate 4 0#64)), trivial⟩ ⟨(lenV (f := v64) (replicate 4 0#64)), (lenV (f := v64) (replicate 4 0#64)), (lenV (f := v64) (replicate 4 0#64)), trivial⟩ ⟨(OneC.map (fun _ => rfl) _), (OneC.map (fun _ => rfl) _), (OneC.map (fun _ => rfl) _), trivial⟩) (fun _ => ?_)
     refine TLv (V_assign rfl) ?_
     refine TL_nil ?_
     refine TX_next ?_
     refine TC_ret ?_
     refine TX_then_ret ?_
     have hrv := Option.some.inj H
     subst hrv
     exact TX_ret (rs := [.cell 4 64, .tmp 5]) (vs := [aG [(4, e64 ((replicate 4 0#64).toList)), (4, e64 ((replicate 4 0#64).toList)), (4, e64 ((replicate 4 0#64).toList))], vb false]) rfl ⟨(Res_agg (n := 12) (cs := flat [(4, e64 ((replicate 4 0#64).toList)), (4, e64 ((replicate 4 0#64).toList)), (4, e64 ((replicate 4 0#64).toList))]) rfl (by simp) (SrcEnts (b := b1) [(4, e64 ((replicate 4 0#64).toList)), (4, e64 ((replicate 4 0#64).toList)), (4, e64 ((replicate 4 0#64).toList))] 0 ⟨(lenV (f := v64) (replicate 4 0#64)), (lenV (f := v64) (replicate 4 0#64)), (lenV (f := v64) (replicate 4 0#64)), trivial⟩ (AllSrc.all (M := ents b1 0 [(4, e64 ((replicate 4 0#64).toList)), (4, e64 ((replicate 4 0#64).toList)), (4, e64 ((replicate 4 0#64).toList))]) ⟨Src.own (j := 0) rfl, Src.own (j := 1) rfl, Src.own (j := 2) rfl, trivial⟩)) Try.isAgg64 TryI.inf64 rfl (by simp [flat])), rfl, trivial⟩ (fun w' hs' => ⟨(), rfl, Step.left (Step.pulled (is := []) (A := []) hs' rfl)⟩)
    ·replace H := ite_f (Bool.eq_false_iff.1 hc) H
     refine TC_skip ?_
     refine TX_next ?_
     refine TC_seq ?_
     obtain ⟨r_3, hr_3, H⟩ := bind_elim H
     obtain ⟨r_4, hr_4, H⟩ := bind_elim H
     refine TA_begin [] 14 (by kernel_rfl) (N := 14) rfl ?_
     refine TA_mix (is := []) (done' := dn 14 4095) [itV 0 48 (ptr (some (bc, obc)) 0) [], itV 1 49 (ptr (some (bc, obc)) 0) [0], itV 2 50 (ptr (some (bc, obc)) 0) [1], itV 3 51 (ptr (some (bc_Field, obc_Field)) 0) [2], itV 4 52 (aG [(4, e64 r_1.1.toList)]) [], itV 5 53 (aG [(4, e64 r_3.toList)]) [3, 4], itV 6 54 (ptr (some (bc, obc)) 0) [], itV 7 55 (ptr (some (bc, obc)) 0) [6], itV 8 56 (ptr (some (bc, obc)) 0) [7], itV 9 57 (ptr (some (bc_Field, obc_Field)) 0) [8], itV 10 58 (aG [(4, e64 r_2.1.toList)]) [], itV 11 59 (aG [(4, e64 r_4.toList)]) [9, 10]] [] 2 (by kernel_rfl) (QP.then QP.body) (by kernel_rfl) rfl (.v rfl (V_move rfl) (.v rfl (V_nilCheck rfl) (.v rfl (V_fe Try.underlying100 TryI.inf82) (.v rfl (V_load rfl (.r 0) rfl Try.isAgg82) (.v rfl (V_lag (.o 3) Try.isAgg57 TryI.inf57) (.e rfl (E_cu (F56_calls bc_Field obc_Field c_Field_M c_Field_inv c_Field_one c_Field_two r_1.1 r_3 hr_3) Try.call56 ⟨.r 2, .r 3, .r 4, .r 5, trivial⟩) (.v rfl (V_move rfl) (.v rfl (V_nilCheck rfl) (.v rfl (V_fe Try.underlying100 TryI.inf82) (.v rfl (V_load rfl (.r 0) rfl Try.isAgg82) (.v rfl (V_lag (.o 4) Try.isAgg57 TryI.inf57) (.e rfl (E_cu (F56_calls bc_Field obc_Field c_Field_M c_Field_inv c_Field_one c_Field_two r_2.1 r_4 hr_4) Try.call56 ⟨.r 2, .r 3, .r 4, .r 5, trivial⟩) .nil)))))))))))) .nil (by kernel_rfl) rfl (fun γ => ?_)
     refine TA_cut [(59, aG [(4, e64 r_4.toList)]), (53, aG [(4, e64 r_3.toList)]), (0, ptr (some (bc, obc)) 0), (4, ptr (some (b1, 0)) 0), (6, ptr (some (b2, 0)) 0), (8, ptr (some (b3, 0)) 0)] [⟨some (b1, 0), e64 ((replicate 4 0#64).toList)⟩, ⟨some (b1, 4), e64 ((replicate 4 0#64).toList)⟩, ⟨some (b1, 8), e64 ((replicate 4 0#64).toList)⟩, ⟨some (b2, 0), e64 r_1.1.toList⟩, ⟨some (b3, 0), e64 r_2.1.toList⟩] ⟨rfl, rfl, rfl, rfl, rfl, rfl, trivial⟩ rfl ?_
     refine TA_all (rs := [12]) (by kernel_rfl) rfl ?_
     refine ⟨?_, trivial⟩
     refine TO_n (is := []) (done' := dn 14 8191) rfl rfl rfl (by kernel_rfl) (E_sv (vs := e64 r_3.toList) 3 TryI.inf57) (fun _ _ => rfl) (fun _ => ?_)
     refine TA_all (rs := [13]) (by kernel_rfl) rfl ?_
     refine ⟨?_, trivial⟩
     refine TO_n (is := []) (done' := dn 14 16383) rfl rfl rfl (by kernel_rfl) (E_sv (vs := e64 r_4.toList) 4 TryI.inf57) (fun _ _ => rfl) (fun _ => ?_)
     refine TA_done (by kernel_rfl) ?_ 0
     refine TX_next ?_
     refine TC_seq ?_
     obtain ⟨r_5, hr_5, H⟩ := bind_elim H
     obtain ⟨r_6, hr_6, H⟩ := bind_elim H
     refine TA_begin [] 15 (by kernel_rfl) (N := 15) rfl ?_
     refine TA_mix (is := []) (done' := dn 15 16383) [itV 0 60 (ptr (some (bc, obc)) 0) [], itV 1 61 (ptr (some (bc, obc)) 0) [0], itV 2 62 (ptr (some (bc, obc)) 0) [1], itV 3 63 (ptr (some (bc_Field, obc_Field)) 0) [2], itV 4 64 (aG [(4, e64 r_3.toList)]) [], itV 5 65 (ptr (some (bc, obc)) 0) [], itV 6 66 (ptr (some (bc, obc)) 0) [5], itV 7 67 (ptr (some (bc, obc)) 0) [6], itV 8 68 (ptr (some (bc_Field, obc_Field)) 0) [7], itV 9 69 (aG [(4, e64 r_3.toList)]) [], itV 10 70 (aG [(4, e64 r_3.toList)]) [], itV 11 71 (aG [(4, e64 r_5.toList)]) [8, 9, 10], itV 12 72 (aG [(4, e64 r_6.toList)]) [4, 11, 3], itA64 13 10 4] [] 1 (by kernel_rfl) (QP.then QP.body) (by kernel_rfl) rfl (.v rfl (V_move rfl) (.v rfl (V_nilCheck rfl) (.v rfl (V_fe Try.underlying100 TryI.inf82) (.v rfl (V_load rfl (.r 0) rfl Try.isAgg82) (.v rfl (V_lag (.o 3) Try.isAgg57 TryI.inf57) (.v rfl (V_move rfl) (.v rfl (V_nilCheck rfl) (.v rfl (V_fe Try.underlying100 TryI.inf82) (.v rfl (V_load rfl (.r 0) rfl Try.isAgg82) (.v rfl (V_lag (.o 3) Try.isAgg57 TryI.inf57) (.v rfl (V_lag (.o 3) Try.isAgg57 TryI.inf57) (.e rfl (E_cu (F59_calls bc_Field obc_Field c_Field_M c_Field_inv c_Field_one c_Field_two r_3 r_3 r_5 hr_5) Try.call59 ⟨.r 2, .r 3, .r 4, .r 5, trivial⟩) (.e rfl (E_cu (F59_calls bc_Field obc_Field c_Field_M c_Field_inv c_Field_one c_Field_two r_3 r_5 r_6 hr_6) Try.call59 ⟨.r 2, .r 3, .r 4, .r 5, trivial⟩) (.c rfl (fun _ _ => (E_al64 4 TryI.inf57 TryI.zer57)) .nil)))))))))))))) .nil (by kernel_rfl) rfl (fun γ => ?_)
     refine TA_cut [(10, ptr (some ((γ 13), 0)) 0), (72, aG [(4, e64 r_6.toList)]), (0, ptr (some (bc, obc)) 0), (4, ptr (some (b1, 0)) 0), (6, ptr (some (b2, 0)) 0), (8, ptr (some (b3, 0)) 0)] [⟨some ((γ 13), 0), e64 ((replicate 4 0#64).toList)⟩, ⟨some (b1, 0), e64 ((replicate 4 0#64).toList)⟩, ⟨some (b1, 4), e64 ((replicate 4 0#64).toList)⟩, ⟨some (b1, 8), e64 ((replicate 4 0#64).toList)⟩, ⟨some (b2, 0), e64 r_3.toList⟩, ⟨some (b3, 0), e64 r_4.toList⟩] ⟨rfl, rfl, rfl, rfl, rfl, rfl, trivial⟩ rfl ?_
     generalize γ 13 = b4
     refine TA_all (rs := [14]) (by kernel_rfl) rfl ?_
     refine ⟨?_, trivial⟩
     refine TO_n (is := []) (done' := dn 15 32767) rfl rfl rfl (by kernel_rfl) (E_sv (vs := e64 r_6.toList) 0 TryI.inf57) (fun _ _ => rfl) (fun _ => ?_)
     refine TA_done (by kernel_rfl) ?_ 0
     refine TX_next ?_
     refine TC_seq ?_
     obtain ⟨r_7, hr_7, H⟩ := bind_elim H
     obtain ⟨r_8, hr_8, H⟩ := bind_elim H
     obtain ⟨r_9, hr_9, H⟩ := bind_elim H
     obtain ⟨r_10, hr_10, H⟩ := bind_elim H
     refine TA_begin [] 30 (by kernel_rfl) (N := 30) rfl ?_
     refine TA_mix (is := []) (done' := dn 30 536870911) [itV 0 73 (ptr (some (bc, obc)) 0) [], itV 1 74 (ptr (some (bc, obc)) 0) [0], itV 2 75 (ptr (some (bc, obc)) 0) [1], itV 3 76 (ptr (some (bc_Field, obc_Field)) 0) [2], itV 4 77 (ptr (some (bc, obc)) 0) [], itV 5 78 (ptr (some (bc, obc)) 0) [4], itV 6 79 (ptr (some (bc, obc)) 0) [5], itV 7 80 (ptr (some (bc_Field, obc_Field)) 0) [6], itV 8 81 (ptr (some (bc, obc)) 0) [], itV 9 82 (ptr (some (bc, obc)) 0) [8], itV 10 83 (ptr (some (bc, obc)) 0) [9], itV 11 84 (ptr (some (bc_Field, obc_Field)) 0) [10], itV 12 85 (aG [(4, e64 r_3.toList)]) [], itV 13 86 (ptr (some (bc, obc)) 0) [], itV 14 87 (ptr (some (bc, obc)) 0) [13], itV 15 88 (ptr (some (bc, obc)) 0) [14], itV 16 89 (ptr (some (bc_Field, obc_Field)) 0) [15], itV 17 90 (aG [(4, e64 r_3.toList)]) [], itV 18 91 (aG [(4, e64 r_3.toList)]) [], itV 19 92 (aG [(4, e64 r_7.toList)]) [16, 17, 18], itV 20 93 (aG [(4, e64 r_8.toList)]) [11, 12, 19], itV 21 94 (aG [(4, e64 r_6.toList)]) [], itV 22 95 (aG [(4, e64 r_9.toList)]) [7, 20, 21], itV 23 96 (ptr (some (bc, obc)) 0) [], itV 24 97 (ptr (some (bc, obc)) 0) [23], itV 25 98 (ptr (some (bc, obc + 1)) 0) [24], itV 26 99 (aG [(4, e64 c_b.toList)]) [25], itV 27 100 (aG [(4, e64 r_10.toList)]) [26, 3, 22], itA64 28 11 4] [] 1 (by kernel_rfl) (QP.then QP.body) (by kernel_rfl) rfl (.v rfl (V_move rfl) (.v rfl (V_nilCheck rfl) (.v rfl (V_fe Try.underlying100 TryI.inf82) (.v rfl (V_load rfl (.r 0) rfl Try.isAgg82) (.v rfl (V_move rfl) (.v rfl (V_nilCheck rfl) (.v rfl (V_fe Try.underlying100 TryI.inf82) (.v rfl (V_load rfl (.r 0) rfl Try.isAgg82) (.v rfl (V_move rfl) (.v rfl (V_nilCheck rfl) (.v rfl (V_fe Try.underlying100 TryI.inf82) (.v rfl (V_load rfl (.r 0) rfl Try.isAgg82) (.v rfl (V_lag (.o 4) Try.isAgg57 TryI.inf57) (.v rfl (V_move rfl) (.v rfl (V_nilCheck rfl) (.v rfl (V_fe Try.underlying100 TryI.inf82) (.v rfl (V_load rfl (.r 0) rfl Try.isAgg82) (.v rfl (V_lag (.o 4) Try.isAgg57 TryI.inf57) (.v rfl (V_lag (.o 4) Try.isAgg57 TryI.inf57) (.e rfl (E_cu (F58_calls bc_Field obc_Field c_Field_M c_Field_inv c_Field_one c_Field_two r_3 r_3 r_7 hr_7) Try.call58 ⟨.r 2, .r 3, .r 4, .r 5, trivial⟩) (.e rfl (E_cu (F58_calls bc_Field obc_Field c_Field_M c_Field_inv c_Field_one c_Field_two r_3 r_7 r_8 hr_8) Try.call58 ⟨.r 2, .r 3, .r 4, .r 5, trivial⟩) (.v rfl (V_lag (.o 0) Try.isAgg57 TryI.inf57) (.e rfl (E_cu (F77_calls bc_Field obc_Field c_Field_M c_Field_inv c_Field_one c_Field_two r_8 r_6 r_9 hr_9) Try.call77 ⟨.r 2, .r 3, .r 4, .r 5, trivial⟩) (.v rfl (V_move rfl) (.v rfl (V_nilCheck rfl) (.v rfl (V_fe Try.underlying100 TryI.inf57) (.v rfl (V_lag (.r 1) Try.isAgg57 TryI.inf57) (.e rfl (E_cu (F59_calls bc_Field obc_Field c_Field_M c_Field_inv c_Field_one c_Field_two r_9 c_b r_10 hr_10) Try.call59 ⟨.r 2, .r 3, .r 4, .r 5, trivial⟩) (.c rfl (fun _ _ => (E_al64 4 TryI.inf57 TryI.zer57)) .nil))))))))))))))))))))))))))))) .nil (by kernel_rfl) rfl (fun γ => ?_)
     refine TA_cut [(11, ptr (some ((γ 28), 0)) 0), (100, aG [(4, e64 r_10.toList)]), (0, ptr (some (bc, obc)) 0), (4, ptr (some (b1, 0)) 0), (6, ptr (some (b2, 0)) 0), (8, ptr (some (b3, 0)) 0)] [⟨some ((γ 28), 0), e64 ((replicate 4 0#64).toList)⟩, ⟨some (b4, 0), e64 r_6.toList⟩, ⟨some (b1, 0), e64 ((replicate 4 0#64).toList)⟩, ⟨some (b1, 4), e64 ((replicate 4 0#64).toList)⟩, ⟨some (b1, 8), e64 ((replicate 4 0#64).toList)⟩, ⟨some (b2, 0), e64 r_3.toList⟩, ⟨some (b3, 0), e64 r_4.toList⟩] ⟨rfl, rfl, rfl, rfl, rfl, rfl, trivial⟩ rfl ?_
     generalize γ 28 = b5
     refine TA_all (rs := [29]) (by kernel_rfl) rfl ?_
     refine ⟨?_, trivial⟩
     refine TO_n (is := []) (done' := dn 30 1073741823) rfl rfl rfl (by kernel_rfl) (E_sv (vs := e64 r_10.toList) 0 TryI.inf57) (fun _ _ => rfl) (fun _ => ?_)
     refine TA_done (by kernel_rfl) ?_ 0
     refine TX_next ?_
     refine TC_seq ?_
     obtain ⟨r_11, hr_11, H⟩ := bind_elim H
     obtain ⟨r_12, hr_12, H⟩ := bind_elim H
     obtain ⟨x1, hx1, H⟩ := ltt_elim H
     refine TA_begin [⟨some (b5, 0), e64 r_10.toList⟩, ⟨some (b4, 0), e64 r_6.toList⟩, ⟨some (b2, 0), e64 r_3.toList⟩, ⟨some (b3, 0), e64 r_4.toList⟩] 18 (by kernel_rfl) (N := 19) rfl ?_
     refine TA_tk 0 [0, 0, 3, 3] (dn 19 1) rfl rfl (V_lag (.o 2) Try.isAgg57 TryI.inf57) ?_
     refine TA_tk 1 [0, 0, 3, 3] (dn 19 3) rfl rfl (V_lag (.o 3) Try.isAgg57 TryI.inf57) ?_
     refine TA_tk 2 [0, 0, 3, 3] (dn 19 7) rfl rfl (V_move rfl) ?_
     refine TA_tk 3 [0, 0, 3, 3] (dn 19 15) rfl rfl (V_nilCheck rfl) ?_
     refine TA_tk 4 [0, 0, 3, 3] (dn 19 31) rfl rfl (V_fieldE rfl Try.underlying100 rfl rfl TryI.inf82 rfl (v := ptr (some (bc, obc)) 0) rfl) ?_
     refine TA_tk 5 [0, 0, 3, 3] (dn 19 63) rfl rfl (V_load rfl (.r 0) rfl Try.isAgg82) ?_
     refine TA_tk 8 [0, 0, 3, 3] (dn 19 319) rfl rfl (V_move rfl) ?_
     refine TA_tk 9 [0, 0, 3, 3] (dn 19 831) rfl rfl (V_nilCheck rfl) ?_
     refine TA_tk 10 [0, 0, 3, 3] (dn 19 1855) rfl rfl (V_fieldE rfl Try.underlying100 rfl rfl TryI.inf82 rfl (v := ptr (some (bc, obc)) 0) rfl) ?_
     refine TA_tk 11 [0, 0, 3, 3] (dn 19 3903) rfl rfl (V_load rfl (.r 0) rfl Try.isAgg82) ?_
     refine TA_tk 12 [0, 0, 3, 3] (dn 19 7999) rfl rfl (V_lag (.o 3) Try.isAgg57 TryI.inf57) ?_
     refine TA_tk 13 [0, 0, 3, 3] (dn 19 16191) rfl rfl (V_lag (.o 3) Try.isAgg57 TryI.inf57) ?_
     refine TA_tk 15 [0, 0, 3, 3] (dn 19 48959) rfl rfl (V_lag (.o 0) Try.isAgg57 TryI.inf57) ?_
     refine TA_all (rs := [6]) (by kernel_rfl) rfl ?_
     refine ⟨?_, trivial⟩
     refine TO_e (is := [0, 0, 3, 3]) (done' := dn 19 49023) rfl rfl rfl rfl (by kernel_rfl) (E_c0 (F75_calls bc_Field obc_Field c_Field_M c_Field_inv c_Field_one c_Field_two r_11 hr_11) Try.call75 ⟨.r 2, .r 3, .r 4, .r 5, trivial⟩) (fun _ _ => rfl) (fun g_11 => ?_)
     refine TA_tk 7 [0, 0, 3, 3] (dn 19 49151) rfl rfl (V_buildStruct (pv := [(0, aG [(4, e64 r_3.toList)]), (1, aG [(4, e64 r_4.toList)]), (2, aG [(4, e64 r_11.toList)])]) (pl := [(0, 4), (4, 4), (8, 4)]) rfl rfl Try.underlying64 TryI.inf64 TryI.places64 TryI.zer64 (cs := flat [(4, e64 r_3.toList), (4, e64 r_4.toList), (4, e64 r_11.toList)]) (fill_part [] [(4, e64 ((replicate 4 0#64).toList)), (4, e64 ((replicate 4 0#64).toList))] rfl rfl trivial rfl (lenV (f := v64) (replicate 4 0#64)) (lenV (f := v64) r_3) (fill_part [(4, e64 r_3.toList)] [(4, e64 ((replicate 4 0#64).toList))] rfl rfl ⟨(lenV (f := v64) r_3), trivial⟩ rfl (lenV (f := v64) (replicate 4 0#64)) (lenV (f := v64) r_4) (fill_part [(4, e64 r_3.toList), (4, e64 r_4.toList)] [] rfl rfl ⟨(lenV (f := v64) r_3), (lenV (f := v64) r_4), trivial⟩ rfl (lenV (f := v64) (replicate 4 0#64)) (lenV (f := v64) r_11) fill_end)))) ?_
     refine TA_all (rs := [14]) (by kernel_rfl) rfl ?_
     refine ⟨?_, trivial⟩
     refine TO_e (is := [0, 0, 3, 3]) (done' := dn 19 65535) rfl rfl rfl rfl (by kernel_rfl) (E_c0 (F58_calls bc_Field obc_Field c_Field_M c_Field_inv c_Field_one c_Field_two r_4 r_4 r_12 hr_12) Try.call58 ⟨.r 2, .r 3, .r 4, .r 5, trivial⟩) (fun _ _ => rfl) (fun g_12 => ?_)
     refine TA_tk 16 [0, 0, 3, 3] (dn 19 131071) rfl rfl (V_bin rfl rfl (fun w => eqlA w Try.underlying57 Try.underlying55 (by kernel_rfl) (by kernel_rfl) r_12 r_10)) ?_
     refine TA_all (rs := [17]) (by kernel_rfl) rfl ?_
     refine ⟨?_, trivial⟩
     refine TO_n (is := [3, 3, 3, 3]) (done' := dn 19 262143) rfl rfl rfl (by kernel_rfl) (E_sp (b := b1) (o := 0) [2, 2, 2] [(4, e64 ((replicate 4 0#64).toList)), (4, e64 ((replicate 4 0#64).toList)), (4, e64 ((replicate 4 0#64).toList))] [(4, e64 r_3.toList), (4, e64 r_4.toList), (4, e64 r_11.toList)] rfl TryI.inf64 ⟨(lenV (f := v64) (replicate 4 0#64)), (lenV (f := v64) (replicate 4 0#64)), (lenV (f := v64) (replicate 4 0#64)), trivial⟩ ⟨(lenV (f := v64) r_3), (lenV (f := v64) r_4), (lenV (f := v64) r_11), trivial⟩ ⟨(OneC.map (fun _ => rfl) _), (OneC.map (fun _ => rfl) _), (OneC.map (fun _ => rfl) _), trivial⟩) (fun _ _ => rfl) (fun _ => ?_)
     refine TA_all (rs := [18]) (by kernel_rfl) rfl ?_
     refine ⟨?_, trivial⟩
     refine TO_v (is := []) (R := []) (done' := dn 19 524287) rfl rfl rfl rfl (by kernel_rfl) (V_assign rfl) (fun h => by cases h) ?_
     refine TA_re (d := 5) (v := vb (decide (r_12 = r_10))) (v' := vb x1) rfl (congrArg vb hx1) ?_
     refine TA_done (by kernel_rfl) ?_ 0
     refine TX_next ?_
     refine TC_ret ?_
     have hrv := Option.some.inj H
     subst hrv
     exact TX_ret (rs := [.cell 4 64, .tmp 5]) (vs := [aG [(4, e64 r_3.toList), (4, e64 r_4.toList), (4, e64 r_11.toList)], vb x1]) rfl ⟨(Res_agg (n := 12) (cs := flat [(4, e64 r_3.toList), (4, e64 r_4.toList), (4, e64 r_11.toList)]) rfl (by simp) (SrcEnts (b := b1) [(4, e64 r_3.toList), (4, e64 r_4.toList), (4, e64 r_11.toList)] 0 ⟨(lenV (f := v64) r_3), (lenV (f := v64) r_4), (lenV (f := v64) r_11), trivial⟩ (AllSrc.all (M := ents b1 0 [(4, e64 r_3.toList), (4, e64 r_4.toList), (4, e64 r_11.toList)]) ⟨Src.own (j := 0) rfl, Src.own (j := 1) rfl, Src.own (j := 2) rfl, trivial⟩)) Try.isAgg64 TryI.inf64 rfl (by simp [flat])), rfl, trivial⟩ (fun w' hs' => ⟨(), rfl, Step.left (Step.pulled (is := []) (A := []) hs' rfl)⟩)
   ·intro hJ
    replace H := Hj
    refine TL_fork (d := 43) (b := (!r_1.2)) rfl (fun hc => ?_) (fun hc => ?_)
    ·replace H := ite_t hc H
     refine TL_skip rfl rfl rfl rfl rfl rfl rfl ?_
     refine TL_skip rfl rfl rfl rfl rfl rfl rfl ?_
     refine TLv (V_pick (b := true) rfl rfl) ?_
     refine TL_nil ?_
     refine TX.sub (m' := [(0, ptr (some (bc, obc)) 0), (4, ptr (some (b1, 0)) 0), (6, ptr (some (b2, 0)) 0), (8, ptr (some (b3, 0)) 0), (46, vb true)]) ⟨rfl, rfl, rfl, rfl, rfl, trivial⟩ ?_
     refine TX.pull (is := [2, 2, 2, 1, 0]) (L' := [⟨some (b1, 0), e64 ((replicate 4 0#64).toList)⟩, ⟨some (b1, 4), e64 ((replicate 4 0#64).toList)⟩, ⟨some (b1, 8), e64 ((replicate 4 0#64).toList)⟩, ⟨some (b2, 0), e64 r_1.1.toList⟩, ⟨some (b3, 0), e64 r_2.1.toList⟩]) rfl ?_
     obtain rfl := Option.some.inj H
     exact hJ ()
    ·replace H := ite_f (Bool.eq_false_iff.1 hc) H
     refine TL_want rfl rfl rfl rfl rfl rfl (V_move rfl) ?_
     refine TL_want rfl rfl rfl rfl rfl rfl (V_un rfl (fun w => notB w r_2.2)) ?_
     refine TLv (V_pick (b := false) rfl rfl) ?_
     refine TL_nil ?_
     refine TX.sub (m' := [(0, ptr (some (bc, obc)) 0), (4, ptr (some (b1, 0)) 0), (6, ptr (some (b2, 0)) 0), (8, ptr (some (b3, 0)) 0), (46, vb (!r_2.2))]) ⟨rfl, rfl, rfl, rfl, rfl, trivial⟩ ?_
     refine TX.pull (is := [2, 2, 2, 1, 0]) (L' := [⟨some (b1, 0), e64 ((replicate 4 0#64).toList)⟩, ⟨some (b1, 4), e64 ((replicate 4 0#64).toList)⟩, ⟨some (b1, 8), e64 ((replicate 4 0#64).toList)⟩, ⟨some (b2, 0), e64 r_1.1.toList⟩, ⟨some (b3, 0), e64 r_2.1.toList⟩]) rfl ?_
     obtain rfl := Option.some.inj H
     exact hJ ()
 ·intro hJ
  replace H := Hj
  refine TL_fork (d := 15) (b := (decide (((p).length : Int) ≠ 65))) rfl (fun hc => ?_) (fun hc => ?_)
  ·replace H := ite_t (of_decide_eq_true hc) H
   refine TL_skip rfl rfl rfl rfl rfl rfl rfl ?_
   refine TL_skip rfl rfl rfl rfl rfl rfl rfl ?_
   refine TL_skip rfl rfl rfl rfl rfl rfl rfl ?_
   refine TLv (V_pick (b := true) rfl rfl) ?_
   refine TL_nil ?_
   refine TX.sub (m' := [(0, ptr (some (bc, obc)) 0), (1, vs p), (4, ptr (some (b1, 0)) 0), (19, vb true)]) ⟨rfl, rfl, rfl, rfl, trivial⟩ ?_
   refine TX.pull (is := [0, 0, 0]) (L' := [⟨some (b1, 0), e64 ((replicate 4 0#64).toList)⟩, ⟨some (b1, 4), e64 ((replicate 4 0#64).toList)⟩, ⟨some (b1, 8), e64 ((replicate 4 0#64).toList)⟩]) rfl ?_
   obtain rfl := Option.some.inj H
   exact hJ ()
  ·replace H := ite_f (of_decide_eq_false hc) H
   refine TL_want rfl rfl rfl rfl rfl rfl (V_move rfl) ?_
   obtain ⟨h3, H⟩ := if_elim H
   refine TL_want rfl rfl rfl rfl rfl rfl (V_idxStr rfl rfl (i := 0) Try.underlying9 h3.1 h3.2) ?_
   refine TL_want rfl rfl rfl rfl rfl rfl (V_bin rfl rfl (fun w => neq8 w (sg p 0) 4#8)) ?_
   refine TLv (V_pick (b := false) rfl rfl) ?_
   refine TL_nil ?_
   refine TX.sub (m' := [(0, ptr (some (bc, obc)) 0), (1, vs p), (4, ptr (some (b1, 0)) 0), (19, vb (decide ((sg p 0) ≠ 4#8)))]) ⟨rfl, rfl, rfl, rfl, trivial⟩ ?_
   refine TX.pull (is := [0, 0, 0]) (L' := [⟨some (b1, 0), e64 ((replicate 4 0#64).toList)⟩, ⟨some (b1, 4), e64 ((replicate 4 0#64).toList)⟩, ⟨some (b1, 8), e64 ((replicate 4 0#64).toList)⟩]) rfl ?_
   obtain rfl := Option.some.inj H
   exact hJ ()
end Go.Proofs
end

section
namespace Go.Proofs
open Go Go.Kx
open Vector (replicate)
def pcurve_curve_write (c_Field_M : Vx 64 4) (c_Field_inv : BitVec 64) (c_Field_one : Vx 64 4) (c_Field_two : Vx 64 4) (c_b : Vx 64 4) (p_x : Vx 64 4) (p_y : Vx 64 4) (p_z : Vx 64 4) : Option (Str) :=
 (num_Field_Inv c_Field_M c_Field_inv c_Field_one c_Field_two p_z).bind fun (r_1 : Vx 64 4) => ((num_Field_Mul c_Field_M c_Field_inv c_Field_one c_Field_two r_1 r_1).bind fun (r_2 : Vx 64 4) => ((num_Field_Mul c_Field_M c_Field_inv c_Field_one c_Field_two p_x r_2).bind fun (r_3 : Vx 64 4) => ((num_Field_Out c_Field_M c_Field_inv c_Field_one c_Field_two r_3).bind fun (r_4 : Vx 64 4) => ((num_Field_Mul c_Field_M c_Field_inv c_Field_one c_Field_two r_1 r_2).bind fun (r_5 : Vx 64 4) => ((num_Field_Mul c_Field_M c_Field_inv c_Field_one c_Field_two p_y r_5).bind fun (r_6 : Vx 64 4) => ((num_Field_Out c_Field_M c_Field_inv c_Field_one c_Field_two r_6).bind fun (r_7 : Vx 64 4) => (if (([4#8] : List (BitVec 8))).length = 1 then ((num_Nat_Bytes r_4).bind fun (r_8 : Str) => (if (([4#8] : List (BitVec 8))).length + (r_8).length ≤ 4611686018427387904 then ((num_Nat_Bytes r_7).bind fun (r_9 : Str) => (if (([4#8] : List (BitVec 8)) ++ r_8).length + (r_9).length ≤ 4611686018427387904 then (ltt ((([4#8] : List (BitVec 8)) ++ r_8) ++ r_9) fun (x1 : Str) => (some x1)) else none)) else none)) else none)))))))
set_option maxHeartbeats 4000000 in
set_option maxRecDepth 20000 in
theorem F34_calls (bc : Nat) (obc : Nat) (bc_Field : Nat) (obc_Field : Nat) (c_Field_M : Vx 64 4) (c_Field_inv : BitVec 64) (c_Field_one : Vx 64 4) (c_Field_two : Vx 64 4) (c_b : Vx 64 4) (p_x : Vx 64 4) (p_y : Vx 64 4) (p_z : Vx 64 4) (r : Str) (H : pcurve_curve_write c_Field_M c_Field_inv c_Field_one c_Field_two c_b p_x p_y p_z = some r) :
  Does Try.prog 34 [ptr (some (bc, obc)) 0, aG [(4, e64 p_x.toList), (4, e64 p_y.toList), (4, e64 p_z.toList)]] [] [⟨some (bc, obc), [ptr (some (bc_Field, obc_Field)) 0]⟩, ⟨some (bc, obc + 1), e64 c_b.toList⟩, ⟨some (bc_Field, obc_Field), e64 c_Field_M.toList⟩, ⟨some (bc_Field, obc_Field + 4), [v64 c_Field_inv]⟩, ⟨some (bc_Field, obc_Field + 5), e64 c_Field_one.toList⟩, ⟨some (bc_Field, obc_Field + 9), e64 c_Field_two.toList⟩] (Γ := Unit) (fun g => vs r) (fun g => []) := by
 intro w hmem hro hd
 refine calls_of (N := 63) (m0 := [(0, ptr (some (bc, obc)) 0), (1, aG [(4, e64 p_x.toList), (4, e64 p_y.toList), (4, e64 p_z.toList)])]) Try.func34 rfl Try.ntmps34 (argM_ok [ptr (some (bc, obc)) 0, aG [(4, e64 p_x.toList), (4, e64 p_y.toList), (4, e64 p_z.toList)]]) rfl hmem hro hd ?_
 unfold pcurve_curve_write at H
 refine TC_seq ?_
 refine TC_region ?_
 refine TLe (E_boxP [(4, e64 p_x.toList), (4, e64 p_y.toList), (4, e64 p_z.toList)] rfl rfl ⟨(lenV (f := v64) p_x), (lenV (f := v64) p_y), (lenV (f := v64) p_z), trivial⟩) (fun b1 => ?_)
 refine TLv (V_assign rfl) ?_
 refine TL_nil ?_
 refine TX_next ?_
 refine TC_seq ?_
 obtain ⟨r_1, hr_1, H⟩ := bind_elim H
 refine TA_begin [] 9 (by kernel_rfl) (N := 9) rfl ?_
 refine TA_mix (is := []) (done' := dn 9 255) [itV 0 9 (ptr (some (bc, obc)) 0) [], itV 1 10 (ptr (some (bc, obc)) 0) [0], itV 2 11 (ptr (some (bc, obc)) 0) [1], itV 3 12 (ptr (some (bc_Field, obc_Field)) 0) [2], itV 4 13 (ptr (some (b1, 8)) 0) [], itV 5 14 (aG [(4, e64 p_z.toList)]) [4], itV 6 15 (aG [(4, e64 r_1.toList)]) [3, 5], itA64 7 5 4] [] 1 (by kernel_rfl) (QP.then QP.body) (by kernel_rfl) rfl (.v rfl (V_move rfl) (.v rfl (V_nilCheck rfl) (.v rfl (V_fe Try.underlying100 TryI.inf82) (.v rfl (V_load rfl (.r 0) rfl Try.isAgg82) (.v rfl (V_fe Try.underlying64 TryI.inf57) (.v rfl (V_lag (.o 2) Try.isAgg57 TryI.inf57) (.e rfl (E_cu (F60_calls bc_Field obc_Field c_Field_M c_Field_inv c_Field_one c_Field_two p_z r_1 hr_1) Try.call60 ⟨.r 2, .r 3, .r 4, .r 5, trivial⟩) (.c rfl (fun _ _ => (E_al64 4 TryI.inf57 TryI.zer57)) .nil)))))))) .nil (by kernel_rfl) rfl (fun γ => ?_)
 refine TA_cut [(5, ptr (some ((γ 7), 0)) 0), (15, aG [(4, e64 r_1.toList)]), (3, ptr (some (b1, 0)) 0), (0, ptr (some (bc, obc)) 0)] [⟨some ((γ 7), 0), e64 ((replicate 4 0#64).toList)⟩, ⟨some (b1, 0), e64 p_x.toList⟩, ⟨some (b1, 4), e64 p_y.toList⟩, ⟨some (b1, 8), e64 p_z.toList⟩] ⟨rfl, rfl, rfl, rfl, trivial⟩ rfl ?_
 generalize γ 7 = b2
 refine TA_all (rs := [8]) (by kernel_rfl) rfl ?_
 refine ⟨?_, trivial⟩
 refine TO_n (is := []) (done' := dn 9 511) rfl rfl rfl (by kernel_rfl) (E_sv (vs := e64 r_1.toList) 0 TryI.inf57) (fun _ _ => rfl) (fun _ => ?_)
 refine TA_done (by kernel_rfl) ?_ 0
 refine TX_next ?_
 refine TC_seq ?_
 obtain ⟨r_2, hr_2, H⟩ := bind_elim H
 refine TA_begin [] 9 (by kernel_rfl) (N := 9) rfl ?_
 refine TA_mix (is := []) (done' := dn 9 255) [itV 0 16 (ptr (some (bc, obc)) 0) [], itV 1 17 (ptr (some (bc, obc)) 0) [0], itV 2 18 (ptr (some (bc, obc)) 0) [1], itV 3 19 (ptr (some (bc_Field, obc_Field)) 0) [2], itV 4 20 (aG [(4, e64 r_1.toList)]) [], itV 5 21 (aG [(4, e64 r_1.toList)]) [], itV 6 22 (aG [(4, e64 r_2.toList)]) [3, 4, 5], itA64 7 6 4] [] 1 (by kernel_rfl) (QP.then QP.body) (by kernel_rfl) rfl (.v rfl (V_move rfl) (.v rfl (V_nilCheck rfl) (.v rfl (V_fe Try.underlying100 TryI.inf82) (.v rfl (V_load rfl (.r 0) rfl Try.isAgg82) (.v rfl (V_lag (.o 0) Try.isAgg57 TryI.inf57) (.v rfl (V_lag (.o 0) Try.isAgg57 TryI.inf57) (.e rfl (E_cu (F58_calls bc_Field obc_Field c_Field_M c_Field_inv c_Field_one c_Field_two r_1 r_1 r_2 hr_2) Try.call58 ⟨.r 2, .r 3, .r 4, .r 5, trivial⟩) (.c rfl (fun _ _ => (E_al64 4 TryI.inf57 TryI.zer57)) .nil)))))))) .nil (by kernel_rfl) rfl (fun γ => ?_)
 refine TA_cut [(6, ptr (some ((γ 7), 0)) 0), (22, aG [(4, e64 r_2.toList)]), (5, ptr (some (b2, 0)) 0), (3, ptr (some (b1, 0)) 0), (0, ptr (some (bc, obc)) 0)] [⟨some ((γ 7), 0), e64 ((replicate 4 0#64).toList)⟩, ⟨some (b2, 0), e64 r_1.toList⟩, ⟨some (b1, 0), e64 p_x.toList⟩, ⟨some (b1, 4), e64 p_y.toList⟩, ⟨some (b1, 8), e64 p_z.toList⟩] ⟨rfl, rfl, rfl, rfl, rfl, trivial⟩ rfl ?_
 generalize γ 7 = b3
 refine TA_all (rs := [8]) (by kernel_rfl) rfl ?_
 refine ⟨?_, trivial⟩
 refine TO_n (is := []) (done' := dn 9 511) rfl rfl rfl (by kernel_rfl) (E_sv (vs := e64 r_2.toList) 0 TryI.inf57) (fun _ _ => rfl) (fun _ => ?_)
 refine TA_done (by kernel_rfl) ?_ 0
 refine TX_next ?_
 refine TC_seq ?_
 obtain ⟨r_3, hr_3, H⟩ := bind_elim H
 obtain ⟨r_4, hr_4, H⟩ := bind_elim H
 obtain ⟨r_5, hr_5, H⟩ := bind_elim H
 obtain ⟨r_6, hr_6, H⟩ := bind_elim H
 obtain ⟨r_7, hr_7, H⟩ := bind_elim H
 refine TA_begin [] 36 (by kernel_rfl) (N := 36) rfl ?_
 refine TA_mix (is := []) (done' := dn 36 17179869183) [itV 0 23 (ptr (some (bc, obc)) 0) [], itV 1 24 (ptr (some (bc, obc)) 0) [0], itV 2 25 (ptr (some (bc, obc)) 0) [1], itV 3 26 (ptr (some (bc_Field, obc_Field)) 0) [2], itV 4 27 (ptr (some (bc, obc)) 0) [], itV 5 28 (ptr (some (bc, obc)) 0) [4], itV 6 29 (ptr (some (bc, obc)) 0) [5], itV 7 30 (ptr (some (bc_Field, obc_Field)) 0) [6], itV 8 31 (ptr (some (b1, 0)) 0) [], itV 9 32 (aG [(4, e64 p_x.toList)]) [8], itV 10 33 (aG [(4, e64 r_2.toList)]) [], itV 11 34 (aG [(4, e64 r_3.toList)]) [9, 10, 7], itV 12 35 (aG [(4, e64 r_4.toList)]) [3, 11], itV 13 36 (ptr (some (bc, obc)) 0) [], itV 14 37 (ptr (some (bc, obc)) 0) [13], itV 15 38 (ptr (some (bc, obc)) 0) [14], itV 16 39 (ptr (some (bc_Field, obc_Field)) 0) [15], itV 17 40 (ptr (some (bc, obc)) 0) [], itV 18 41 (ptr (some (bc, obc)) 0) [17], itV 19 42 (ptr (some (bc, obc)) 0) [18], itV 20 43 (ptr (some (bc_Field, obc_Field)) 0) [19], itV 21 44 (ptr (some (b1, 4)) 0) [], itV 22 45 (aG [(4, e64 p_y.toList)]) [21], itV 23 46 (ptr (some (bc, obc)) 0) [], itV 24 47 (ptr (some (bc, obc)) 0) [23], itV 25 48 (ptr (some (bc, obc)) 0) [24], itV 26 49 (ptr (some (bc_Field, obc_Field)) 0) [25], itV 27 50 (aG [(4, e64 r_1.toList)]) [], itV 28 51 (aG [(4, e64 r_2.toList)]) [], itV 29 52 (aG [(4, e64 r_5.toList)]) [26, 27, 28], itV 30 53 (aG [(4, e64 r_6.toList)]) [20, 29, 22], itV 31 54 (aG [(4, e64 r_7.toList)]) [30, 16], itA64 32 7 4, itA64 33 8 4] [] 2 (by kernel_rfl) (QP.then QP.body) (by kernel_rfl) rfl (.v rfl (V_move rfl) (.v rfl (V_nilCheck rfl) (.v rfl (V_fe Try.underlying100 TryI.inf82) (.v rfl (V_load rfl (.r 0) rfl Try.isAgg82) (.v rfl (V_move rfl) (.v rfl (V_nilCheck rfl) (.v rfl (V_fe Try.underlying100 TryI.inf82) (.v rfl (V_load rfl (.r 0) rfl Try.isAgg82) (.v rfl (V_fe Try.underlying64 TryI.inf57) (.v rfl (V_lag (.o 2) Try.isAgg57 TryI.inf57) (.v rfl (V_lag (.o 0) Try.isAgg57 TryI.inf57) (.e rfl (E_cu (F58_calls bc_Field obc_Field c_Field_M c_Field_inv c_Field_one c_Field_two p_x r_2 r_3 hr_3) Try.call58 ⟨.r 2, .r 3, .r 4, .r 5, trivial⟩) (.e rfl (E_cu (F57_calls bc_Field obc_Field c_Field_M c_Field_inv c_Field_one c_Field_two r_3 r_4 hr_4) Try.call57 ⟨.r 2, .r 3, .r 4, .r 5, trivial⟩) (.v rfl (V_move rfl) (.v rfl (V_nilCheck rfl) (.v rfl (V_fe Try.underlying100 TryI.inf82) (.v rfl (V_load rfl (.r 0) rfl Try.isAgg82) (.v rfl (V_move rfl) (.v rfl (V_nilCheck rfl) (.v rfl (V_fe Try.underlying100 TryI.inf82) (.v rfl (V_load rfl (.r 0) rfl Try.isAgg82) (.v rfl (V_fe Try.underlying64 TryI.inf57) (.v rfl (V_lag (.o 3) Try.isAgg57 TryI.inf57) (.v rfl (V_move rfl) (.v rfl (V_nilCheck rfl) (.v rfl (V_fe Try.underlying100 TryI.inf82) (.v rfl (V_load rfl (.r 0) rfl Try.isAgg82) (.v rfl (V_lag (.o 1) Try.isAgg57 TryI.inf57) (.v rfl (V_lag (.o 0) Try.isAgg57 TryI.inf57) (.e rfl (E_cu (F58_calls bc_Field obc_Field c_Field_M c_Field_inv c_Field_one c_Field_two r_1 r_2 r_5 hr_5) Try.call58 ⟨.r 2, .r 3, .r 4, .r 5, trivial⟩) (.e rfl (E_cu (F58_calls bc_Field obc_Field c_Field_M c_Field_inv c_Field_one c_Field_two p_y r_5 r_6 hr_6) Try.call58 ⟨.r 2, .r 3, .r 4, .r 5, trivial⟩) (.e rfl (E_cu (F57_calls bc_Field obc_Field c_Field_M c_Field_inv c_Field_one c_Field_two r_6 r_7 hr_7) Try.call57 ⟨.r 2, .r 3, .r 4, .r 5, trivial⟩) (.c rfl (fun _ _ => (E_al64 4 TryI.inf57 TryI.zer57)) (.c rfl (fun _ _ => (E_al64 4 TryI.inf57 TryI.zer57)) .nil)))))))))))))))))))))))))))))))))) .nil (by kernel_rfl) rfl (fun γ => ?_)
 refine TA_cut [(8, ptr (some ((γ 33), 0)) 0), (7, ptr (some ((γ 32), 0)) 0), (54, aG [(4, e64 r_7.toList)]), (35, aG [(4, e64 r_4.toList)])] [⟨some ((γ 33), 0), e64 ((replicate 4 0#64).toList)⟩, ⟨some ((γ 32), 0), e64 ((replicate 4 0#64).toList)⟩, ⟨some (b3, 0), e64 r_2.toList⟩, ⟨some (b2, 0), e64 r_1.toList⟩, ⟨some (b1, 0), e64 p_x.toList⟩, ⟨some (b1, 4), e64 p_y.toList⟩, ⟨some (b1, 8), e64 p_z.toList⟩] ⟨rfl, rfl, rfl, rfl, trivial⟩ rfl ?_
 generalize γ 32 = b4
 generalize γ 33 = b5
 refine TA_all (rs := [34]) (by kernel_rfl) rfl ?_
 refine ⟨?_, trivial⟩
 refine TO_n (is := []) (done' := dn 36 34359738367) rfl rfl rfl (by kernel_rfl) (E_sv (vs := e64 r_4.toList) 1 TryI.inf57) (fun _ _ => rfl) (fun _ => ?_)
 refine TA_all (rs := [35]) (by kernel_rfl) rfl ?_
 refine ⟨?_, trivial⟩
 refine TO_n (is := []) (done' := dn 36 68719476735) rfl rfl rfl (by kernel_rfl) (E_sv (vs := e64 r_7.toList) 0 TryI.inf57) (fun _ _ => rfl) (fun _ => ?_)
 refine TA_done (by kernel_rfl) ?_ 0
 refine TX_next ?_
 refine TC_seq ?_
 obtain ⟨h1, H⟩ := if_elim H
 obtain ⟨r_8, hr_8, H⟩ := bind_elim H
 obtain ⟨h2, H⟩ := if_elim H
 obtain ⟨r_9, hr_9, H⟩ := bind_elim H
 obtain ⟨h3, H⟩ := if_elim H
 obtain ⟨x1, hx1, H⟩ := ltt_elim H
 refine TA_begin [] 9 (by kernel_rfl) (N := 9) rfl ?_
 refine TA_mix (is := []) (done' := dn 9 255) [⟨0, 55, fun b6 => sl (some (b6, 0)) 1 1, fun b6 => [⟨some (b6, 0), e8 ([4#8] : List (BitVec 8))⟩], [], none⟩, ⟨1, 56, fun _ => vs ([4#8] : List (BitVec 8)), fun _ => [], [0], some 0⟩, itV 2 57 (aG [(4, e64 r_4.toList)]) [], itV 3 58 (vs r_8) [2], itV 4 59 (vs (([4#8] : List (BitVec 8)) ++ r_8)) [1, 3], itV 5 60 (aG [(4, e64 r_7.toList)]) [], itV 6 61 (vs r_9) [5], itV 7 62 (vs ((([4#8] : List (BitVec 8)) ++ r_8) ++ r_9)) [4, 6]] [] 1 (by kernel_rfl) (QP.then QP.body) (by kernel_rfl) rfl (.c rfl (fun _ _ => (E_buildSlice (pv := [(0, v8 4#8)]) rfl rfl Try.underlying42 TryI.inf5 (s := 1) rfl TryI.zer5 rfl rfl rfl (cs := e8 ([4#8] : List (BitVec 8))) (by kernel_rfl))) (.c rfl (fun _ _ => OpE_v (V_b2s rfl Try.underlying42 Try.underlying5 Try.underlying9 (.o 0) h1)) (.v rfl (V_lag (.o 1) Try.isAgg57 TryI.inf57) (.e rfl (E_cu (F62_calls r_4 r_8 hr_8) Try.call62 .z) (.v rfl (V_bin rfl rfl (fun w => addS w ([4#8] : List (BitVec 8)) r_8 h2)) (.v rfl (V_lag (.o 0) Try.isAgg57 TryI.inf57) (.e rfl (E_cu (F62_calls r_7 r_9 hr_9) Try.call62 .z) (.v rfl (V_bin rfl rfl (fun w => addS w (([4#8] : List (BitVec 8)) ++ r_8) r_9 h3)) .nil)))))))) .nil (by kernel_rfl) rfl (fun γ => ?_)
 refine TA_cut [(62, vs ((([4#8] : List (BitVec 8)) ++ r_8) ++ r_9))] [⟨some ((γ 0), 0), e8 ([4#8] : List (BitVec 8))⟩, ⟨some (b5, 0), e64 r_7.toList⟩, ⟨some (b4, 0), e64 r_4.toList⟩, ⟨some (b3, 0), e64 r_2.toList⟩, ⟨some (b2, 0), e64 r_1.toList⟩, ⟨some (b1, 0), e64 p_x.toList⟩, ⟨some (b1, 4), e64 p_y.toList⟩, ⟨some (b1, 8), e64 p_z.toList⟩] ⟨rfl, trivial⟩ rfl ?_
 generalize γ 0 = b6
 refine TA_all (rs := [8]) (by kernel_rfl) rfl ?_
 refine ⟨?_, trivial⟩
 refine TO_v (is := []) (done' := dn 9 511) rfl rfl rfl rfl (by kernel_rfl) (V_assign rfl) (fun _ => rfl) ?_
 refine TA_re (d := 4) (v := vs ((([4#8] : List (BitVec 8)) ++ r_8) ++ r_9)) (v' := vs x1) rfl (congrArg vs hx1) ?_
 refine TA_done (by kernel_rfl) ?_ 0
 refine TX_next ?_
 refine TC_ret ?_
 have hrv := Option.some.inj H
 subst hrv
 exact TX_ret (rs := [.tmp 4]) (vs := [vs x1]) rfl ⟨rfl, trivial⟩ (fun w' hs' => ⟨(), rfl, Step.left (Step.pulled (is := []) (A := []) hs' rfl)⟩)
end Go.Proofs
end

section
namespace Go.Proofs
open Go Go.Kx
def pcurve_Scalar (k : Str) : Option (Vx 64 4 × Bool) :=
 (num_New 1).bind fun (r_1 : (Unit) ⊕ (Vx 64 4 × BitVec 64 × Vx 64 4 × Vx 64 4)) => (match r_1 with | .inl r_1 => ((num_Field_Read_nil0 k).bind fun (r_2 : Vx 64 4) => (some (r_2, false))) | .inr r_1 => ((num_Field_Read r_1.1 r_1.2.1 r_1.2.2.1 r_1.2.2.2 k).bind fun (r_3 : Vx 64 4 × Bool) => (if r_3.2 = true then ((num_Nat_Zero r_3.1).bind fun (r_4 : Bool) => (some (r_3.1, !r_4))) else (some (r_3.1, false)))))
set_option maxHeartbeats 4000000 in
set_option maxRecDepth 20000 in
theorem F32_calls (k : Str) (r : Vx 64 4 × Bool) (H : pcurve_Scalar k = some r) :
  Does Try.prog 32 [vs k] [] [] (Γ := Unit) (fun g => Value.tuple [aG [(4, e64 r.1.toList)], vb r.2].toArray) (fun g => []) := by
 intro w hmem hro hd
 refine calls_of (N := 19) (m0 := [(0, vs k)]) Try.func32 rfl Try.ntmps32 (argM_ok [vs k]) rfl hmem hro hd ?_
 unfold pcurve_Scalar at H
 refine TC_seq ?_
 refine TC_region ?_
 refine TLe (E_al64 4 TryI.inf57 TryI.zer57) (fun b1 => ?_)
 refine TLv (V_assign rfl) ?_
 refine TL_nil ?_
 refine TX_next ?_
 refine TC_seq ?_
 refine TC_region ?_
 obtain ⟨r_1, hr_1, H⟩ := bind_elim H
 rcases r_1 with r_1 | r_1
 ·dsimp only at H
  refine TL_e rfl rfl rfl (E_call (Γ := Unit × Nat) (val := fun g => Value.pointer none) (mem := fun g => []) (vs := [vi 1]) (Lin := []) (Ro := []) (is := []) rfl Try.call53 (F53_calls 1 (.inl r_1) hr_1) rfl trivial) (fun g_1 => ?_)
  refine TLv (V_move rfl) ?_
  obtain ⟨r_2, hr_2, H⟩ := bind_elim H
  refine TLe (E_c0 (F73_nil0_calls k r_2 hr_2) Try.call73 .z) (fun g_2 => ?_)
  refine TLv (V_move rfl) ?_
  refine TLv V_ex ?_
  refine TLv V_ex ?_
  refine TLe (E_al64 4 TryI.inf57 TryI.zer57) (fun b2 => ?_)
  refine TLn (E_sv (vs := e64 r_2.toList) 0 TryI.inf57) (fun _ => ?_)
  refine TLv (V_assign rfl) ?_
  refine TL_nil ?_
  refine TX_next ?_
  refine TC_seq ?_
  refine TA_begin [⟨some (b2, 0), e64 r_2.toList⟩] 8 (by kernel_rfl) (N := 9) rfl ?_
  refine TA_tk 0 [0] (dn 9 1) rfl rfl (V_lag (.o 0) Try.isAgg57 TryI.inf57) ?_
  refine TA_tk 1 [0] (dn 9 3) rfl rfl (V_move rfl) ?_
  refine TA_tk 2 [0] (dn 9 7) rfl rfl (V_move rfl) ?_
  refine TA_ts 3 [0] (dn 9 15) rfl rfl ?_
  refine TA_ts 4 [0] (dn 9 31) rfl rfl ?_
  refine TA_ts 5 [0] (dn 9 63) rfl rfl ?_
  refine TA_tk 6 [0] (dn 9 127) rfl rfl (V_pick (b := false) rfl rfl) ?_
  refine TA_all (rs := [7]) (by kernel_rfl) rfl ?_
  refine ⟨?_, trivial⟩
  refine TO_n (is := [0]) (done' := dn 9 255) rfl rfl rfl (by kernel_rfl) (E_sv (vs := e64 r_2.toList) 1 TryI.inf57) (fun _ _ => rfl) (fun _ => ?_)
  refine TA_all (rs := [8]) (by kernel_rfl) rfl ?_
  refine ⟨?_, trivial⟩
  refine TO_v (is := []) (R := []) (done' := dn 9 511) rfl rfl rfl rfl (by kernel_rfl) (V_assign rfl) (fun h => by cases h) ?_
  refine TA_done (by kernel_rfl) ?_ 0
  refine TX_next ?_
  refine TC_ret ?_
  have hrv := Option.some.inj H
  subst hrv
  exact TX_ret (rs := [.cell 2 57, .tmp 3]) (vs := [aG [(4, e64 r_2.toList)], vb false]) rfl ⟨(Res_agg (n := 4) rfl (by simp) (.o 1) Try.isAgg57 TryI.inf57 rfl (lenV (f := v64) r_2)), rfl, trivial⟩ (fun w' hs' => ⟨(), rfl, Step.left (Step.pulled (is := []) (A := []) hs' rfl)⟩)
 ·dsimp only at H
  refine TL_e rfl rfl rfl (E_call (Γ := Unit × Nat) (val := fun g => ptr (some (g.2, 0)) 0) (mem := fun g => [⟨some (g.2, 0), e64 r_1.1.toList⟩, ⟨some (g.2, 4), [v64 r_1.2.1]⟩, ⟨some (g.2, 5), e64 r_1.2.2.1.toList⟩, ⟨some (g.2, 9), e64 r_1.2.2.2.toList⟩]) (vs := [vi 1]) (Lin := []) (Ro := []) (is := []) rfl Try.call53 (F53_calls 1 (.inr r_1) hr_1) rfl trivial) (fun g_3 => ?_)
  refine TLv (V_move rfl) ?_
  obtain ⟨r_3, hr_3, H⟩ := bind_elim H
  refine TLe (E_c0 (F73_calls g_3.2 0 r_1.1 r_1.2.1 r_1.2.2.1 r_1.2.2.2 k r_3 hr_3) Try.call73 ⟨.o 0, .o 1, .o 2, .o 3, trivial⟩) (fun g_4 => ?_)
  refine TLv (V_move rfl) ?_
  refine TLv V_ex ?_
  refine TLv V_ex ?_
  refine TLe (E_al64 4 TryI.inf57 TryI.zer57) (fun b3 => ?_)
  refine TLn (E_sv (vs := e64 r_3.1.toList) 0 TryI.inf57) (fun _ => ?_)
  refine TLv (V_assign rfl) ?_
  refine TL_nil ?_
  refine TX_next ?_
  refine TC_seq ?_
  refine TC_em r_3.2 (fun hg2_3 => ?_) (fun hg2_3 => ?_)
  ·replace H := ite_t hg2_3 H
   obtain ⟨r_4, hr_4, H⟩ := bind_elim H
   refine TA_begin [⟨some (b3, 0), e64 r_3.1.toList⟩, ⟨some (g_3.2, 0), e64 r_1.1.toList⟩, ⟨some (g_3.2, 4), [v64 r_1.2.1]⟩, ⟨some (g_3.2, 5), e64 r_1.2.2.1.toList⟩, ⟨some (g_3.2, 9), e64 r_1.2.2.2.toList⟩] 8 (by kernel_rfl) (N := 9) rfl ?_
   refine TA_tk 0 [0, 0, 0, 0, 0] (dn 9 1) rfl rfl (V_lag (.o 0) Try.isAgg57 TryI.inf57) ?_
   refine TA_tk 1 [0, 0, 0, 0, 0] (dn 9 3) rfl rfl (V_move rfl) ?_
   refine TA_tk 2 [0, 0, 0, 0, 0] (dn 9 7) rfl rfl (V_move rfl) ?_
   refine TA_re (d := 14) (v := vb r_3.2) (v' := vb true) rfl (congrArg vb hg2_3) ?_
   refine TA_tw 3 [0, 0, 0, 0, 0] (dn 9 15) rfl rfl (V_lag (.o 0) Try.isAgg57 TryI.inf57) ?_
   refine TA_all (rs := [4]) (by kernel_rfl) rfl ?_
   refine ⟨?_, trivial⟩
   refine TO_eW (is := [0, 0, 0, 0, 0]) (done' := dn 9 31) rfl rfl rfl rfl rfl rfl rfl (by kernel_rfl) (E_c0 (F43_calls r_3.1 r_4 hr_4) Try.call43 .z) (fun _ _ => rfl) (fun g_5 => ?_)
   refine TA_tw 5 [0, 0, 0, 0, 0] (dn 9 63) rfl rfl (V_un rfl (fun w => notB w r_4)) ?_
   refine TA_tk 6 [0, 0, 0, 0, 0] (dn 9 127) rfl rfl (V_pick (b := true) rfl rfl) ?_
   refine TA_all (rs := [7]) (by kernel_rfl) rfl ?_
   refine ⟨?_, trivial⟩
   refine TO_n (is := [0, 0, 0, 0, 0]) (done' := dn 9 255) rfl rfl rfl (by kernel_rfl) (E_sv (vs := e64 r_3.1.toList) 5 TryI.inf57) (fun _ _ => rfl) (fun _ => ?_)
   refine TA_all (rs := [8]) (by kernel_rfl) rfl ?_
   refine ⟨?_, trivial⟩
   refine TO_v (is := []) (R := []) (done' := dn 9 511) rfl rfl rfl rfl (by kernel_rfl) (V_assign rfl) (fun h => by cases h) ?_
   refine TA_done (by kernel_rfl) ?_ 0
   refine TX_next ?_
   refine TC_ret ?_
   have hrv := Option.some.inj H
   subst hrv
   exact TX_ret (rs := [.cell 2 57, .tmp 3]) (vs := [aG [(4, e64 r_3.1.toList)], vb (!r_4)]) rfl ⟨(Res_agg (n := 4) rfl (by simp) (.o 5) Try.isAgg57 TryI.inf57 rfl (lenV (f := v64) r_3.1)), rfl, trivial⟩ (fun w' hs' => ⟨(), rfl, Step.left (Step.pulled (is := []) (A := []) hs' rfl)⟩)
  ·replace H := ite_f (Bool.eq_false_iff.1 hg2_3) H
   refine TA_begin [⟨some (b3, 0), e64 r_3.1.toList⟩, ⟨some (g_3.2, 0), e64 r_1.1.toList⟩, ⟨some (g_3.2, 4), [v64 r_1.2.1]⟩, ⟨some (g_3.2, 5), e64 r_1.2.2.1.toList⟩, ⟨some (g_3.2, 9), e64 r_1.2.2.2.toList⟩] 8 (by kernel_rfl) (N := 9) rfl ?_
   refine TA_tk 0 [0, 0, 0, 0, 0] (dn 9 1) rfl rfl (V_lag (.o 0) Try.isAgg57 TryI.inf57) ?_
   refine TA_tk 1 [0, 0, 0, 0, 0] (dn 9 3) rfl rfl (V_move rfl) ?_
   refine TA_tk 2 [0, 0, 0, 0, 0] (dn 9 7) rfl rfl (V_move rfl) ?_
   refine TA_re (d := 14) (v := vb r_3.2) (v' := vb false) rfl (congrArg vb hg2_3) ?_
   refine TA_ts 3 [0, 0, 0, 0, 0] (dn 9 15) rfl rfl ?_
   refine TA_ts 4 [0, 0, 0, 0, 0] (dn 9 31) rfl rfl ?_
   refine TA_ts 5 [0, 0, 0, 0, 0] (dn 9 63) rfl rfl ?_
   refine TA_tk 6 [0, 0, 0, 0, 0] (dn 9 127) rfl rfl (V_pick (b := false) rfl rfl) ?_
   refine TA_all (rs := [7]) (by kernel_rfl) rfl ?_
   refine ⟨?_, trivial⟩
   refine TO_n (is := [0, 0, 0, 0, 0]) (done' := dn 9 255) rfl rfl rfl (by kernel_rfl) (E_sv (vs := e64 r_3.1.toList) 5 TryI.inf57) (fun _ _ => rfl) (fun _ => ?_)
   refine TA_all (rs := [8]) (by kernel_rfl) rfl ?_
   refine ⟨?_, trivial⟩
   refine TO_v (is := []) (R := []) (done' := dn 9 511) rfl rfl rfl rfl (by kernel_rfl) (V_assign rfl) (fun h => by cases h) ?_
   refine TA_done (by kernel_rfl) ?_ 0
   refine TX_next ?_
   refine TC_ret ?_
   have hrv := Option.some.inj H
   subst hrv
   exact TX_ret (rs := [.cell 2 57, .tmp 3]) (vs := [aG [(4, e64 r_3.1.toList)], vb false]) rfl ⟨(Res_agg (n := 4) rfl (by simp) (.o 5) Try.isAgg57 TryI.inf57 rfl (lenV (f := v64) r_3.1)), rfl, trivial⟩ (fun w' hs' => ⟨(), rfl, Step.left (Step.pulled (is := []) (A := []) hs' rfl)⟩)
end Go.Proofs
end

section
namespace Go.Proofs
open Go Go.Kx
open Vector (replicate)
def pcurve_On (p : Str) : Option (Bool) :=
 (pcurve_newCurve).bind fun (r_1 : Vx 64 4 × BitVec 64 × Vx 64 4 × Vx 64 4 × Vx 64 4) => ((pcurve_curve_read r_1.1 r_1.2.1 r_1.2.2.1 r_1.2.2.2.1 r_1.2.2.2.2 p).bind fun (r_2 : Vx 64 4 × Vx 64 4 × Vx 64 4 × Bool) => (some r_2.2.2.2))
set_option maxHeartbeats 4000000 in
set_option maxRecDepth 20000 in
theorem F21_calls (p : Str) (r : Bool) (H : pcurve_On p = some r) :
  Does Try.prog 21 [vs p] [] [] (Γ := Unit) (fun g => vb r) (fun g => []) := by
 intro w hmem hro hd
 refine calls_of (N := 12) (m0 := [(0, vs p)]) Try.func21 rfl Try.ntmps21 (argM_ok [vs p]) rfl hmem hro hd ?_
 unfold pcurve_On at H
 refine TC_seq ?_
 refine TC_region ?_
 refine TLv (V_assign rfl) ?_
 refine TL_nil ?_
 refine TX_next ?_
 refine TC_seq ?_
 refine TC_region ?_
 obtain ⟨r_1, hr_1, H⟩ := bind_elim H
 refine TLe (E_call (Γ := Nat × Nat) (val := fun g => ptr (some (g.1, 0)) 0) (mem := fun g => [⟨some (g.1, 0), [ptr (some (g.2, 0)) 0]⟩, ⟨some (g.2, 0), e64 r_1.1.toList⟩, ⟨some (g.2, 4), [v64 r_1.2.1]⟩, ⟨some (g.2, 5), e64 r_1.2.2.1.toList⟩, ⟨some (g.2, 9), e64 r_1.2.2.2.1.toList⟩, ⟨some (g.1, 1), e64 r_1.2.2.2.2.toList⟩]) (vs := []) (Lin := []) (Ro := []) (is := []) rfl Try.call33 (F33_calls r_1 hr_1) rfl trivial) (fun g_1 => ?_)
 refine TLv (V_move rfl) ?_
 obtain ⟨r_2, hr_2, H⟩ := bind_elim H
 refine TLe (E_c0 (F41_calls g_1.1 0 g_1.2 0 r_1.1 r_1.2.1 r_1.2.2.1 r_1.2.2.2.1 r_1.2.2.2.2 p r_2 hr_2) Try.call41 ⟨.o 0, .o 5, .o 1, .o 2, .o 3, .o 4, trivial⟩) (fun g_2 => ?_)
 refine TLv (V_move rfl) ?_
 refine TLv V_ex ?_
 refine TLv V_ex ?_
 refine TLe (E_allocP [(4, e64 ((replicate 4 0#64).toList)), (4, e64 ((replicate 4 0#64).toList)), (4, e64 ((replicate 4 0#64).toList))] TryI.inf64 TryI.zer64 ⟨(lenV (f := v64) (replicate 4 0#64)), (lenV (f := v64) (replicate 4 0#64)), (lenV (f := v64) (replicate 4 0#64)), trivial⟩) (fun b1 => ?_)
 refine TLn (E_sp (b := b1) (o := 0) [0, 0, 0] [(4, e64 ((replicate 4 0#64).toList)), (4, e64 ((replicate 4 0#64).toList)), (4, e64 ((replicate 4 0#64).toList))] [(4, e64 r_2.1.toList), (4, e64 r_2.2.1.toList), (4, e64 r_2.2.2.1.toList)] rfl TryI.inf64 ⟨(lenV (f := v64) (replicate 4 0#64)), (lenV (f := v64) (replicate 4 0#64)), (lenV (f := v64) (replicate 4 0#64)), trivial⟩ ⟨(lenV (f := v64) r_2.1), (lenV (f := v64) r_2.2.1), (lenV (f := v64) r_2.2.2.1), trivial⟩ ⟨(OneC.map (fun _ => rfl) _), (OneC.map (fun _ => rfl) _), (OneC.map (fun _ => rfl) _), trivial⟩) (fun _ => ?_)
 refine TLv (V_assign rfl) ?_
 refine TL_nil ?_
 refine TX_next ?_
 refine TC_seq ?_
 refine TC_region ?_
 refine TLv (V_move rfl) ?_
 refine TLv (V_assign rfl) ?_
 refine TL_nil ?_
 refine TX_next ?_
 refine TC_ret ?_
 have hrv := Option.some.inj H
 subst hrv
 exact TX_ret (rs := [.tmp 2]) (vs := [vb r_2.2.2.2]) rfl ⟨rfl, trivial⟩ (fun w' hs' => ⟨(), rfl, Step.left (Step.pulled (is := []) (A := []) hs' rfl)⟩)
end Go.Proofs
end

section
namespace Go.Proofs
open Go Go.Kx
def pcurve_Public (k : Str) : Option (Str × Int) :=
 (pcurve_Scalar k).bind fun (r_1 : Vx 64 4 × Bool) => (if (!r_1.2) = true then (some (([] : Str), 1100)) else ((pcurve_newCurve).bind fun (r_2 : Vx 64 4 × BitVec 64 × Vx 64 4 × Vx 64 4 × Vx 64 4) => ((pcurve_curve_base r_2.1 r_2.2.1 r_2.2.2.1 r_2.2.2.2.1 r_2.2.2.2.2).bind fun (r_3 : Vx 64 4 × Vx 64 4 × Vx 64 4) => ((pcurve_curve_times r_2.1 r_2.2.1 r_2.2.2.1 r_2.2.2.2.1 r_2.2.2.2.2 r_1.1 r_3.1 r_3.2.1 r_3.2.2).bind fun (r_4 : Vx 64 4 × Vx 64 4 × Vx 64 4) => ((pcurve_curve_write r_2.1 r_2.2.1 r_2.2.2.1 r_2.2.2.2.1 r_2.2.2.2.2 r_4.1 r_4.2.1 r_4.2.2).bind fun (r_5 : Str) => (some (r_5, 0)))))))
set_option maxHeartbeats 4000000 in
set_option maxRecDepth 20000 in
theorem F13_calls (k : Str) (r : Str × Int) (H : pcurve_Public k = some r) :
  Does Try.prog 13 [vs k] [] [] (Γ := Unit) (fun g => Value.tuple [vs r.1, vi r.2].toArray) (fun g => []) := by
 intro w hmem hro hd
 refine calls_of (N := 22) (m0 := [(0, vs k)]) Try.func13 rfl Try.ntmps13 (argM_ok [vs k]) rfl hmem hro hd ?_
 unfold pcurve_Public at H
 refine TC_seq ?_
 refine TC_region ?_
 refine TLv (V_assign rfl) ?_
 refine TLv (V_assign rfl) ?_
 refine TL_nil ?_
 refine TX_next ?_
 refine TC_seq ?_
 refine TC_region ?_
 refine TLv (V_move rfl) ?_
 obtain ⟨r_1, hr_1, H⟩ := bind_elim H
 refine TLe (E_c0 (F32_calls k r_1 hr_1) Try.call32 .z) (fun g_1 => ?_)
 refine TLv (V_move rfl) ?_
 refine TLv V_ex ?_
 refine TLv V_ex ?_
 refine TLe (E_al64 4 TryI.inf57 TryI.zer57) (fun b1 => ?_)
 refine TLn (E_sv (vs := e64 r_1.1.toList) 0 TryI.inf57) (fun _ => ?_)
 refine TLv (V_assign rfl) ?_
 refine TL_nil ?_
 refine TX_next ?_
 refine TC_seq ?_
 refine TC_seq ?_
 refine TC_region ?_
 refine TLv (V_move rfl) ?_
 refine TLv (V_un rfl (fun w => notB w r_1.2)) ?_
 refine TL_nil ?_
 refine TX_next ?_
 refine TC_cond (b := (!r_1.2)) rfl (fun hc => ?_) (fun hc => ?_)
 ·replace H := ite_t hc H
  refine TC_seq ?_
  refine TC_region ?_
  refine TLv (V_assign rfl) ?_
  refine TLv (V_assign rfl) ?_
  refine TL_nil ?_
  refine TX_next ?_
  refine TC_ret ?_
  refine TX_then_ret ?_
  have hrv := Option.some.inj H
  subst hrv
  exact TX_ret (rs := [.tmp 2, .tmp 3]) (vs := [vs ([] : Str), vi 1100]) rfl ⟨rfl, rfl, trivial⟩ (fun w' hs' => ⟨(), rfl, Step.left (Step.pulled (is := []) (A := []) hs' rfl)⟩)
 ·replace H := ite_f (Bool.eq_false_iff.1 hc) H
  refine TC_skip ?_
  refine TX_next ?_
  refine TC_seq ?_
  refine TC_region ?_
  obtain ⟨r_2, hr_2, H⟩ := bind_elim H
  refine TLe (E_call (Γ := Nat × Nat) (val := fun g => ptr (some (g.1, 0)) 0) (mem := fun g => [⟨some (g.1, 0), [ptr (some (g.2, 0)) 0]⟩, ⟨some (g.2, 0), e64 r_2.1.toList⟩, ⟨some (g.2, 4), [v64 r_2.2.1]⟩, ⟨some (g.2, 5), e64 r_2.2.2.1.toList⟩, ⟨some (g.2, 9), e64 r_2.2.2.2.1.toList⟩, ⟨some (g.1, 1), e64 r_2.2.2.2.2.toList⟩]) (vs := []) (Lin := []) (Ro := []) (is := []) rfl Try.call33 (F33_calls r_2 hr_2) rfl trivial) (fun g_2 => ?_)
  refine TLv (V_assign rfl) ?_
  refine TL_nil ?_
  refine TX_next ?_
  refine TC_seq ?_
  obtain ⟨r_3, hr_3, H⟩ := bind_elim H
  obtain ⟨r_4, hr_4, H⟩ := bind_elim H
  obtain ⟨r_5, hr_5, H⟩ := bind_elim H
  refine TA_begin [] 9 (by kernel_rfl) (N := 9) rfl ?_
  refine TA_mix (is := []) (done' := dn 9 127) [itV 0 15 (ptr (some (g_2.1, 0)) 0) [], itV 1 16 (ptr (some (g_2.1, 0)) 0) [], itV 2 17 (aG [(4, e64 r_1.1.toList)]) [], itV 3 18 (ptr (some (g_2.1, 0)) 0) [], itV 4 19 (aG [(4, e64 r_3.1.toList), (4, e64 r_3.2.1.toList), (4, e64 r_3.2.2.toList)]) [3], itV 5 20 (aG [(4, e64 r_4.1.toList), (4, e64 r_4.2.1.toList), (4, e64 r_4.2.2.toList)]) [1, 2, 4], itV 6 21 (vs r_5) [5, 0]] [] 2 (by kernel_rfl) (QP.then QP.body) (by kernel_rfl) rfl (.v rfl (V_move rfl) (.v rfl (V_move rfl) (.v rfl (V_lag (.o 6) Try.isAgg57 TryI.inf57) (.v rfl (V_move rfl) (.e rfl (E_cu (F36_calls g_2.1 0 g_2.2 0 r_2.1 r_2.2.1 r_2.2.2.1 r_2.2.2.2.1 r_2.2.2.2.2 r_3 hr_3) Try.call36 ⟨.o 0, .o 5, .o 1, .o 2, .o 3, .o 4, trivial⟩) (.e rfl (E_cu (F35_calls g_2.1 0 g_2.2 0 r_2.1 r_2.2.1 r_2.2.2.1 r_2.2.2.2.1 r_2.2.2.2.2 r_1.1 r_3.1 r_3.2.1 r_3.2.2 r_4 hr_4) Try.call35 ⟨.o 0, .o 5, .o 1, .o 2, .o 3, .o 4, trivial⟩) (.e rfl (E_cu (F34_calls g_2.1 0 g_2.2 0 r_2.1 r_2.2.1 r_2.2.2.1 r_2.2.2.2.1 r_2.2.2.2.2 r_4.1 r_4.2.1 r_4.2.2 r_5 hr_5) Try.call34 ⟨.o 0, .o 5, .o 1, .o 2, .o 3, .o 4, trivial⟩) .nil))))))) .nil (by kernel_rfl) rfl (fun γ => ?_)
  refine TA_cut [(21, vs r_5), (3, vi 0), (2, vs ([] : Str))] [⟨some (g_2.1, 0), [ptr (some (g_2.2, 0)) 0]⟩, ⟨some (g_2.2, 0), e64 r_2.1.toList⟩, ⟨some (g_2.2, 4), [v64 r_2.2.1]⟩, ⟨some (g_2.2, 5), e64 r_2.2.2.1.toList⟩, ⟨some (g_2.2, 9), e64 r_2.2.2.2.1.toList⟩, ⟨some (g_2.1, 1), e64 r_2.2.2.2.2.toList⟩, ⟨some (b1, 0), e64 r_1.1.toList⟩] ⟨rfl, rfl, rfl, trivial⟩ rfl ?_
  refine TA_all (rs := [7]) (by kernel_rfl) rfl ?_
  refine ⟨?_, trivial⟩
  refine TO_v (is := []) (done' := dn 9 255) rfl rfl rfl rfl (by kernel_rfl) (V_assign rfl) (fun _ => rfl) ?_
  refine TA_all (rs := [8]) (by kernel_rfl) rfl ?_
  refine ⟨?_, trivial⟩
  refine TO_v (is := []) (done' := dn 9 511) rfl rfl rfl rfl (by kernel_rfl) (V_assign rfl) (fun _ => rfl) ?_
  refine TA_done (by kernel_rfl) ?_ 0
  refine TX_next ?_
  refine TC_ret ?_
  have hrv := Option.some.inj H
  subst hrv
  exact TX_ret (rs := [.tmp 2, .tmp 3]) (vs := [vs r_5, vi 0]) rfl ⟨rfl, rfl, trivial⟩ (fun w' hs' => ⟨(), rfl, Step.left (Step.pulled (is := []) (A := []) hs' rfl)⟩)
end Go.Proofs
end
