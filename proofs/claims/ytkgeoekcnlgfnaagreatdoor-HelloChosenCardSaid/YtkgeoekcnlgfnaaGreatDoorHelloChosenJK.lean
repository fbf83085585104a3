/-
  HelloChosen: for every input the law returns true, and what it was handed reads as before.
-/
import Derived.Test.YtkgeoekcnlgfnaaGreatDoorRows
import Derived.WalkKit
import Derived.ProofKit
import Derived.OpenShut
import Derived.ShutString
import Derived.ChangeOld
import Derived.Below
import Derived.SizedLaws
import Derived.Test.YtkgeoekcnlgfnaaGreatDoorCards
import Derived.Test.YtkgeoekcnlgfnaaGreatDoorTie
import Derived.ChangeSame
import Derived.ChangeVars
import Derived.JoinedOf
import Derived.LaidLaws
import Derived.LaidHandle
import Derived.Stop.Joined
import Derived.SevenTiedAt
import Derived.Test.YtkgeoekcnlgfnaaGreatDoorKc1
import Derived.Test.YtkgeoekcnlgfnaaGreatDoorKc2
import Derived.Test.YtkgeoekcnlgfnaaGreatDoorKc3
import Derived.Test.YtkgeoekcnlgfnaaGreatDoorKc4
import Derived.Test.YtkgeoekcnlgfnaaGreatDoorKc5
import Derived.Test.YtkgeoekcnlgfnaaGreatDoorKc6
import Derived.Test.YtkgeoekcnlgfnaaGreatDoorKc7
import Derived.Test.YtkgeoekcnlgfnaaGreatDoorKc8
import Derived.Test.YtkgeoekcnlgfnaaGreatDoorKc9
import Derived.Test.YtkgeoekcnlgfnaaGreatDoorKc10
import Derived.Test.YtkgeoekcnlgfnaaGreatDoorKc11
import Derived.Test.YtkgeoekcnlgfnaaGreatDoorKc12
import Derived.Test.YtkgeoekcnlgfnaaGreatDoorKc13
import Derived.Test.YtkgeoekcnlgfnaaGreatDoorKc14
import Derived.Test.YtkgeoekcnlgfnaaGreatDoorKc15
import Derived.Test.YtkgeoekcnlgfnaaGreatDoorKc16
import Derived.Test.YtkgeoekcnlgfnaaGreatDoorKc17
import Derived.Test.YtkgeoekcnlgfnaaGreatDoorKc18
import Derived.Test.YtkgeoekcnlgfnaaGreatDoorKc19
import Derived.Test.YtkgeoekcnlgfnaaGreatDoorKc20
import Derived.Test.YtkgeoekcnlgfnaaGreatDoorKc21
import Derived.Test.YtkgeoekcnlgfnaaGreatDoorKc22
import Derived.Test.YtkgeoekcnlgfnaaGreatDoorKc23
import Derived.Test.YtkgeoekcnlgfnaaGreatDoorKc24
import Derived.Test.YtkgeoekcnlgfnaaGreatDoorKc25
import Derived.Test.YtkgeoekcnlgfnaaGreatDoorKc26
import Derived.Test.YtkgeoekcnlgfnaaGreatDoorKc27
import Derived.Test.YtkgeoekcnlgfnaaGreatDoorKc28
import Derived.Test.YtkgeoekcnlgfnaaGreatDoorKc29
import Derived.Test.YtkgeoekcnlgfnaaGreatDoorKc30
import Derived.Test.YtkgeoekcnlgfnaaGreatDoorKc31
namespace Go.Proofs.YtkgeoekcnlgfnaaGreatDoor.helloChosen
open Go.Kx
open Go.ChangeShapes Go.WideShapes Go.ChangeAt Go.RowKit
open Go.ChangeMaps (open_string shut_string)
set_option linter.unusedVariables false

theorem own : ownKnob Tryz.prog.godebug = none := by kernel_rfl
theorem etH : Tryz.prog.globalNamed "errors.errorType" = some 0 := by kernel_rfl
theorem rtH : (Tryz.prog.cutTypes.find? (·.1 == "internal/reflectlite.rtype")).map (·.2) = some 230 := by kernel_rfl
theorem oneH : ((List.range 279).filter fun t => Tryz.prog.rowNamed t [101, 114, 114, 111, 114]) = [153] := by kernel_rfl
theorem sizeH : Tryz.prog.types.size = 279 := by kernel_rfl
theorem handle_of_laid {W : World} (h : laidMetH Tryz.prog Rows.helloChosenRow.laid W) : W.cell? ⟨0, 0, none⟩ = some hdE := by
  have h1 : laidMet Tryz.prog [] W ∧ handlesMet Tryz.prog Rows.helloChosenRow.laid W := h
  obtain ⟨name, u, ty, e1, e2, e3, e4, e5⟩ := h1.2 _ (List.mem_singleton.2 rfl)
  have en : name = [101, 114, 114, 111, 114] := (Option.some.inj e1).symm
  subst en
  obtain rfl := Option.some.inj (rtH.symm.trans e2)
  have hm : ty ∈ (List.range 279).filter fun t => Tryz.prog.rowNamed t [101, 114, 114, 111, 114] := List.mem_filter.2 ⟨List.mem_range.2 (by rw [← sizeH]; exact e3), e4⟩
  rw [oneH] at hm
  obtain rfl := List.mem_singleton.1 hm
  have hh : typeHandle Tryz.prog 153 = .pointer (some ⟨1, 153, none⟩) := by kernel_rfl
  rw [hh] at e5
  simpa [hdE] using World.var?_cell etH e5 0
noncomputable def laidWorld (os : Os) : World :=
  let w0 := World.holding Tryz.prog os ⟨#[], #[], []⟩
  { w0 with heap := w0.heap.modify 0 fun
      | .cells _ t frozen => .cells #[.iface 230 (.agg #[.pointer (some ⟨1, 153, none⟩)])] t frozen
      | o => o }
theorem laidWorld_met (os : Os) (args : Array Value) : laidMetH Tryz.prog Rows.helloChosenRow.laid ((laidWorld os).forCall (fun _ _ => 0) ⟨#[], args, []⟩).memory :=
  laidMetH_of_parts (laidMet_nil _ _) (by kernel_rfl)
theorem laidOut : laidOutB Tryz.prog = true := by kernel_rfl

set_option maxRecDepth 100000 in
theorem contract (H : Type) (enc : TypeId × Value → H) (W : World) (base : Nat) (args : Array Value) (ds gs : List (DataW H)) (before : List MemPlace)
    (hval0 : ∀ (j : Nat) t v, Tryz.f4.params[j]? = some t → args[j]? = some v → Value.okWide Tryz.prog W .any base t v)
    (hW : DataW.Whole enc Tryz.prog Tryz.f4.params.toList Rows.helloChosenSpec.vars false W args.toList ds gs before) (hsz0 : (DataW.weightsEach Tryz.prog (Tryz.f4.params.toList ++ Rows.helloChosenSpec.plain.varTypes Tryz.prog) (ds ++ gs)).all (· ≤ reachBytes) = true) (hL : laidMetH Tryz.prog Rows.helloChosenRow.laid W) :
    Calls Tryz.prog 4 args W fun e W' => ∃ v, e = .returned v ∧ Rows.helloChosenSpec.post enc Tryz.prog Tryz.f4 false true false false W args v W' := by
  have hval : ∀ (j : Nat) t v, Tryz.f4.params[j]? = some t → args[j]? = some v → Value.okWide Tryz.prog W .any base t v := hval0
  have hW' := hW
  obtain ⟨p, q, hA0, hV, rfl, hfz, hnd⟩ := hW
  have hA : DataW.TrodAll enc Tryz.prog W 0 (fun _ => true) true Tryz.f4.params.toList args.toList ds p := hA0
  rw [Tryz.params4] at hA hval hsz0
  obtain ⟨v0, vs0, d0, ds0, p0, q0, hargs, rfl, rfl, h0, r0_⟩ := trodAll_cons hA
  obtain ⟨v1, vs1, d1, ds1, p1, q1, rfl, rfl, rfl, h1, r1_⟩ := trodAll_cons r0_
  obtain ⟨v2, vs2, d2, ds2, p2, q2, rfl, rfl, rfl, h2, r2_⟩ := trodAll_cons r1_
  obtain ⟨v3, vs3, d3, ds3, p3, q3, rfl, rfl, rfl, h3, r3_⟩ := trodAll_cons r2_
  obtain ⟨rfl, rfl, rfl⟩ := trodAll_nil r3_
  obtain rfl : args = #[v0, v1, v2, v3] := Array.toList_inj.1 hargs
  obtain ⟨rfl, rfl⟩ := trodVars_none hV
  have k0 := h0
  have lt0 : ∀ x ∈ p0, x.block < W.heap.size := by obtain ⟨m, hm⟩ := k0; exact DataW.trod_lt m _ _ _ hm
  have k1 := h1
  have lt1 : ∀ x ∈ p1, x.block < W.heap.size := by obtain ⟨m, hm⟩ := k1; exact DataW.trod_lt m _ _ _ hm
  obtain ⟨a2, rfl, rfl, rfl⟩ := open_bool Tryz.underlying4 (hval 2 4 v2 rfl rfl) h2
  obtain ⟨a3, rfl, rfl, rfl, w3⟩ := open_int Tryz.underlying3 (hval 3 3 v3 rfl rfl) h3
  obtain ⟨xs0, ys0, m0, rfl, rfl, rfl, xl0, yl0, ok0, tr0⟩ := open_struct (ts := [4, 22, 22, 23, 9, 23, 9, 3, 9, 24, 9, 3, 3, 3, 3]) Tryz.underlying26 (by kernel_rfl) (hval 0 26 v0 rfl rfl) h0 (by kernel_rfl)
  obtain ⟨x0_0, x0_1, x0_2, x0_3, x0_4, x0_5, x0_6, x0_7, x0_8, x0_9, x0_10, x0_11, x0_12, x0_13, x0_14, rfl⟩ : ∃ x0_0 x0_1 x0_2 x0_3 x0_4 x0_5 x0_6 x0_7 x0_8 x0_9 x0_10 x0_11 x0_12 x0_13 x0_14, xs0 = [x0_0, x0_1, x0_2, x0_3, x0_4, x0_5, x0_6, x0_7, x0_8, x0_9, x0_10, x0_11, x0_12, x0_13, x0_14] := by
    match xs0, xl0 with
    | [x0_0, x0_1, x0_2, x0_3, x0_4, x0_5, x0_6, x0_7, x0_8, x0_9, x0_10, x0_11, x0_12, x0_13, x0_14], _ => exact ⟨x0_0, x0_1, x0_2, x0_3, x0_4, x0_5, x0_6, x0_7, x0_8, x0_9, x0_10, x0_11, x0_12, x0_13, x0_14, rfl⟩
  obtain ⟨y0_0, y0_1, y0_2, y0_3, y0_4, y0_5, y0_6, y0_7, y0_8, y0_9, y0_10, y0_11, y0_12, y0_13, y0_14, rfl⟩ : ∃ y0_0 y0_1 y0_2 y0_3 y0_4 y0_5 y0_6 y0_7 y0_8 y0_9 y0_10 y0_11 y0_12 y0_13 y0_14, ys0 = [y0_0, y0_1, y0_2, y0_3, y0_4, y0_5, y0_6, y0_7, y0_8, y0_9, y0_10, y0_11, y0_12, y0_13, y0_14] := by
    match ys0, yl0 with
    | [y0_0, y0_1, y0_2, y0_3, y0_4, y0_5, y0_6, y0_7, y0_8, y0_9, y0_10, y0_11, y0_12, y0_13, y0_14], _ => exact ⟨y0_0, y0_1, y0_2, y0_3, y0_4, y0_5, y0_6, y0_7, y0_8, y0_9, y0_10, y0_11, y0_12, y0_13, y0_14, rfl⟩
  have hz0 := sized_struct hsz0 (j := 0) (t := 26) rfl rfl Tryz.underlying26
  have t0_0 := fld1 (i := 0) (tr0 0 _ rfl) (T := 4) rfl rfl (by kernel_rfl) rfl rfl
  obtain ⟨a0_0, rfl, rfl⟩ := fld_bool Tryz.underlying4 t0_0
  have t0_1 := fld1 (i := 1) (tr0 1 _ rfl) (T := 22) rfl rfl (by kernel_rfl) rfl rfl
  have o0_1 := okV_slice Tryz.underlying22 (ok0 1 _ _ rfl rfl)
  obtain ⟨A0_1, l0_1, c0_1, rfl, hl0_1, ro0_1, sd0_1, w0_1⟩ := in_ints Tryz.underlying22 Tryz.underlying3 (by kernel_rfl) o0_1 (trod_slc Tryz.underlying22 o0_1 t0_1)
  have r0_1 : l0_1.length * 8 ≤ 140737488351232 := ints_le hz0 (j := 1) (t := 22) rfl rfl Tryz.underlying22 (by kernel_rfl) sd0_1
  have t0_2 := fld1 (i := 2) (tr0 2 _ rfl) (T := 22) rfl rfl (by kernel_rfl) rfl rfl
  have o0_2 := okV_slice Tryz.underlying22 (ok0 2 _ _ rfl rfl)
  obtain ⟨A0_2, l0_2, c0_2, rfl, hl0_2, ro0_2, sd0_2, w0_2⟩ := in_ints Tryz.underlying22 Tryz.underlying3 (by kernel_rfl) o0_2 (trod_slc Tryz.underlying22 o0_2 t0_2)
  have r0_2 : l0_2.length * 8 ≤ 140737488351232 := ints_le hz0 (j := 2) (t := 22) rfl rfl Tryz.underlying22 (by kernel_rfl) sd0_2
  have t0_3 := fld1 (i := 3) (tr0 3 _ rfl) (T := 23) rfl rfl (by kernel_rfl) rfl rfl
  have o0_3 := okV_slice Tryz.underlying23 (ok0 3 _ _ rfl rfl)
  obtain ⟨A0_3, l0_3, c0_3, rfl, hl0_3, ro0_3, r0_3, q0_3⟩ := in_strs Tryz.underlying23 Tryz.underlying9 (by kernel_rfl) (by kernel_rfl) o0_3 (trod_slc Tryz.underlying23 o0_3 t0_3) hz0 (j := 3) rfl rfl
  have t0_4 := fld1 (i := 4) (tr0 4 _ rfl) (T := 9) rfl rfl (by kernel_rfl) rfl rfl
  obtain ⟨a0_4, rfl, rfl⟩ := fld_str Tryz.underlying9 t0_4
  have r0_4 : (str a0_4).length ≤ 140737488351232 := str_le (sized_string hz0 (j := 4) (t := 9) rfl rfl)
  have t0_5 := fld1 (i := 5) (tr0 5 _ rfl) (T := 23) rfl rfl (by kernel_rfl) rfl rfl
  have o0_5 := okV_slice Tryz.underlying23 (ok0 5 _ _ rfl rfl)
  obtain ⟨A0_5, l0_5, c0_5, rfl, hl0_5, ro0_5, r0_5, q0_5⟩ := in_strs Tryz.underlying23 Tryz.underlying9 (by kernel_rfl) (by kernel_rfl) o0_5 (trod_slc Tryz.underlying23 o0_5 t0_5) hz0 (j := 5) rfl rfl
  have t0_6 := fld1 (i := 6) (tr0 6 _ rfl) (T := 9) rfl rfl (by kernel_rfl) rfl rfl
  obtain ⟨a0_6, rfl, rfl⟩ := fld_str Tryz.underlying9 t0_6
  have r0_6 : (str a0_6).length ≤ 140737488351232 := str_le (sized_string hz0 (j := 6) (t := 9) rfl rfl)
  have t0_7 := fld1 (i := 7) (tr0 7 _ rfl) (T := 3) rfl rfl (by kernel_rfl) rfl rfl
  obtain ⟨a0_7, rfl, rfl, w0_7⟩ := fld_int Tryz.underlying3 t0_7
  have t0_8 := fld1 (i := 8) (tr0 8 _ rfl) (T := 9) rfl rfl (by kernel_rfl) rfl rfl
  obtain ⟨a0_8, rfl, rfl⟩ := fld_str Tryz.underlying9 t0_8
  have r0_8 : (str a0_8).length ≤ 140737488351232 := str_le (sized_string hz0 (j := 8) (t := 9) rfl rfl)
  have t0_9 := fld1 (i := 9) (tr0 9 _ rfl) (T := 24) rfl rfl (by kernel_rfl) rfl rfl
  have o0_9 := okV_slice Tryz.underlying24 (ok0 9 _ _ rfl rfl)
  have dec0_9 : ∀ n cs y, DataW.trod enc Tryz.prog W 0 (fun _ => true) true n 57 cs = some y → ∃ a : Str × Str × Int × Int × Int × Int, cs = (fun p : Str × Str × Int × Int × Int × Int => [vs p.1, vs p.2.1, vi p.2.2.1, vi p.2.2.2.1, vi p.2.2.2.2.1, vi p.2.2.2.2.2]) a := fun n cs y h => by
    obtain ⟨ys, m, _, _, hlen, hl, hf⟩ := DataW.trod_struct Tryz.underlying57 h
    have hlen2 : cs.length = 6 := hlen.trans (by kernel_rfl)
    obtain ⟨z0, z1, z2, z3, z4, z5, rfl⟩ : ∃ z0 z1 z2 z3 z4 z5, cs = [z0, z1, z2, z3, z4, z5] := by
      match cs, hlen2 with
      | [z0, z1, z2, z3, z4, z5], _ => exact ⟨z0, z1, z2, z3, z4, z5, rfl⟩
    obtain ⟨u0, u1, u2, u3, u4, u5, rfl⟩ : ∃ u0 u1 u2 u3 u4 u5, ys = [u0, u1, u2, u3, u4, u5] := by
      match ys, hl with
      | [u0, u1, u2, u3, u4, u5], _ => exact ⟨u0, u1, u2, u3, u4, u5, rfl⟩
    obtain ⟨b0, rfl, _⟩ := fld_str Tryz.underlying9 (fld1 (i := 0) (hf 0 _ rfl) (T := 9) rfl rfl (by kernel_rfl) rfl rfl)
    obtain ⟨b1, rfl, _⟩ := fld_str Tryz.underlying9 (fld1 (i := 1) (hf 1 _ rfl) (T := 9) rfl rfl (by kernel_rfl) rfl rfl)
    obtain ⟨b2, rfl, _, _⟩ := fld_int Tryz.underlying3 (fld1 (i := 2) (hf 2 _ rfl) (T := 3) rfl rfl (by kernel_rfl) rfl rfl)
    obtain ⟨b3, rfl, _, _⟩ := fld_int Tryz.underlying3 (fld1 (i := 3) (hf 3 _ rfl) (T := 3) rfl rfl (by kernel_rfl) rfl rfl)
    obtain ⟨b4, rfl, _, _⟩ := fld_int Tryz.underlying3 (fld1 (i := 4) (hf 4 _ rfl) (T := 3) rfl rfl (by kernel_rfl) rfl rfl)
    obtain ⟨b5, rfl, _, _⟩ := fld_int Tryz.underlying3 (fld1 (i := 5) (hf 5 _ rfl) (T := 3) rfl rfl (by kernel_rfl) rfl rfl)
    exact ⟨(str b0, str b1, b2, b3, b4, b5), rfl⟩
  obtain ⟨A0_9, l0_9, c0_9, rfl, hl0_9, ro0_9, r0_9⟩ := in_recs (k := 6) (B := 64) (j := 9) (fun _ => rfl) (by decide) Tryz.underlying24 (by kernel_rfl) (by kernel_rfl) dec0_9 o0_9 (trod_slc Tryz.underlying24 o0_9 t0_9) hz0 rfl rfl
  have t0_10 := fld1 (i := 10) (tr0 10 _ rfl) (T := 9) rfl rfl (by kernel_rfl) rfl rfl
  obtain ⟨a0_10, rfl, rfl⟩ := fld_str Tryz.underlying9 t0_10
  have r0_10 : (str a0_10).length ≤ 140737488351232 := str_le (sized_string hz0 (j := 10) (t := 9) rfl rfl)
  have t0_11 := fld1 (i := 11) (tr0 11 _ rfl) (T := 3) rfl rfl (by kernel_rfl) rfl rfl
  obtain ⟨a0_11, rfl, rfl, w0_11⟩ := fld_int Tryz.underlying3 t0_11
  have t0_12 := fld1 (i := 12) (tr0 12 _ rfl) (T := 3) rfl rfl (by kernel_rfl) rfl rfl
  obtain ⟨a0_12, rfl, rfl, w0_12⟩ := fld_int Tryz.underlying3 t0_12
  have t0_13 := fld1 (i := 13) (tr0 13 _ rfl) (T := 3) rfl rfl (by kernel_rfl) rfl rfl
  obtain ⟨a0_13, rfl, rfl, w0_13⟩ := fld_int Tryz.underlying3 t0_13
  have t0_14 := fld1 (i := 14) (tr0 14 _ rfl) (T := 3) rfl rfl (by kernel_rfl) rfl rfl
  obtain ⟨a0_14, rfl, rfl, w0_14⟩ := fld_int Tryz.underlying3 t0_14
  obtain ⟨xs1, ys1, m1, rfl, rfl, rfl, xl1, yl1, ok1, tr1⟩ := open_struct (ts := [3, 9, 9, 22, 9, 22, 22, 22, 22, 27, 28, 23, 3, 22, 23, 3, 9, 3, 3, 9, 3]) Tryz.underlying30 (by kernel_rfl) (hval 1 30 v1 rfl rfl) h1 (by kernel_rfl)
  obtain ⟨x1_0, x1_1, x1_2, x1_3, x1_4, x1_5, x1_6, x1_7, x1_8, x1_9, x1_10, x1_11, x1_12, x1_13, x1_14, x1_15, x1_16, x1_17, x1_18, x1_19, x1_20, rfl⟩ : ∃ x1_0 x1_1 x1_2 x1_3 x1_4 x1_5 x1_6 x1_7 x1_8 x1_9 x1_10 x1_11 x1_12 x1_13 x1_14 x1_15 x1_16 x1_17 x1_18 x1_19 x1_20, xs1 = [x1_0, x1_1, x1_2, x1_3, x1_4, x1_5, x1_6, x1_7, x1_8, x1_9, x1_10, x1_11, x1_12, x1_13, x1_14, x1_15, x1_16, x1_17, x1_18, x1_19, x1_20] := by
    match xs1, xl1 with
    | [x1_0, x1_1, x1_2, x1_3, x1_4, x1_5, x1_6, x1_7, x1_8, x1_9, x1_10, x1_11, x1_12, x1_13, x1_14, x1_15, x1_16, x1_17, x1_18, x1_19, x1_20], _ => exact ⟨x1_0, x1_1, x1_2, x1_3, x1_4, x1_5, x1_6, x1_7, x1_8, x1_9, x1_10, x1_11, x1_12, x1_13, x1_14, x1_15, x1_16, x1_17, x1_18, x1_19, x1_20, rfl⟩
  obtain ⟨y1_0, y1_1, y1_2, y1_3, y1_4, y1_5, y1_6, y1_7, y1_8, y1_9, y1_10, y1_11, y1_12, y1_13, y1_14, y1_15, y1_16, y1_17, y1_18, y1_19, y1_20, rfl⟩ : ∃ y1_0 y1_1 y1_2 y1_3 y1_4 y1_5 y1_6 y1_7 y1_8 y1_9 y1_10 y1_11 y1_12 y1_13 y1_14 y1_15 y1_16 y1_17 y1_18 y1_19 y1_20, ys1 = [y1_0, y1_1, y1_2, y1_3, y1_4, y1_5, y1_6, y1_7, y1_8, y1_9, y1_10, y1_11, y1_12, y1_13, y1_14, y1_15, y1_16, y1_17, y1_18, y1_19, y1_20] := by
    match ys1, yl1 with
    | [y1_0, y1_1, y1_2, y1_3, y1_4, y1_5, y1_6, y1_7, y1_8, y1_9, y1_10, y1_11, y1_12, y1_13, y1_14, y1_15, y1_16, y1_17, y1_18, y1_19, y1_20], _ => exact ⟨y1_0, y1_1, y1_2, y1_3, y1_4, y1_5, y1_6, y1_7, y1_8, y1_9, y1_10, y1_11, y1_12, y1_13, y1_14, y1_15, y1_16, y1_17, y1_18, y1_19, y1_20, rfl⟩
  have hz1 := sized_struct hsz0 (j := 1) (t := 30) rfl rfl Tryz.underlying30
  have t1_0 := fld1 (i := 0) (tr1 0 _ rfl) (T := 3) rfl rfl (by kernel_rfl) rfl rfl
  obtain ⟨a1_0, rfl, rfl, w1_0⟩ := fld_int Tryz.underlying3 t1_0
  have t1_1 := fld1 (i := 1) (tr1 1 _ rfl) (T := 9) rfl rfl (by kernel_rfl) rfl rfl
  obtain ⟨a1_1, rfl, rfl⟩ := fld_str Tryz.underlying9 t1_1
  have r1_1 : (str a1_1).length ≤ 140737488351232 := str_le (sized_string hz1 (j := 1) (t := 9) rfl rfl)
  have t1_2 := fld1 (i := 2) (tr1 2 _ rfl) (T := 9) rfl rfl (by kernel_rfl) rfl rfl
  obtain ⟨a1_2, rfl, rfl⟩ := fld_str Tryz.underlying9 t1_2
  have r1_2 : (str a1_2).length ≤ 140737488351232 := str_le (sized_string hz1 (j := 2) (t := 9) rfl rfl)
  have t1_3 := fld1 (i := 3) (tr1 3 _ rfl) (T := 22) rfl rfl (by kernel_rfl) rfl rfl
  have o1_3 := okV_slice Tryz.underlying22 (ok1 3 _ _ rfl rfl)
  obtain ⟨A1_3, l1_3, c1_3, rfl, hl1_3, ro1_3, sd1_3, w1_3⟩ := in_ints Tryz.underlying22 Tryz.underlying3 (by kernel_rfl) o1_3 (trod_slc Tryz.underlying22 o1_3 t1_3)
  have r1_3 : l1_3.length * 8 ≤ 140737488351232 := ints_le hz1 (j := 3) (t := 22) rfl rfl Tryz.underlying22 (by kernel_rfl) sd1_3
  have t1_4 := fld1 (i := 4) (tr1 4 _ rfl) (T := 9) rfl rfl (by kernel_rfl) rfl rfl
  obtain ⟨a1_4, rfl, rfl⟩ := fld_str Tryz.underlying9 t1_4
  have r1_4 : (str a1_4).length ≤ 140737488351232 := str_le (sized_string hz1 (j := 4) (t := 9) rfl rfl)
  have t1_5 := fld1 (i := 5) (tr1 5 _ rfl) (T := 22) rfl rfl (by kernel_rfl) rfl rfl
  have o1_5 := okV_slice Tryz.underlying22 (ok1 5 _ _ rfl rfl)
  obtain ⟨A1_5, l1_5, c1_5, rfl, hl1_5, ro1_5, sd1_5, w1_5⟩ := in_ints Tryz.underlying22 Tryz.underlying3 (by kernel_rfl) o1_5 (trod_slc Tryz.underlying22 o1_5 t1_5)
  have r1_5 : l1_5.length * 8 ≤ 140737488351232 := ints_le hz1 (j := 5) (t := 22) rfl rfl Tryz.underlying22 (by kernel_rfl) sd1_5
  have t1_6 := fld1 (i := 6) (tr1 6 _ rfl) (T := 22) rfl rfl (by kernel_rfl) rfl rfl
  have o1_6 := okV_slice Tryz.underlying22 (ok1 6 _ _ rfl rfl)
  obtain ⟨A1_6, l1_6, c1_6, rfl, hl1_6, ro1_6, sd1_6, w1_6⟩ := in_ints Tryz.underlying22 Tryz.underlying3 (by kernel_rfl) o1_6 (trod_slc Tryz.underlying22 o1_6 t1_6)
  have r1_6 : l1_6.length * 8 ≤ 140737488351232 := ints_le hz1 (j := 6) (t := 22) rfl rfl Tryz.underlying22 (by kernel_rfl) sd1_6
  have t1_7 := fld1 (i := 7) (tr1 7 _ rfl) (T := 22) rfl rfl (by kernel_rfl) rfl rfl
  have o1_7 := okV_slice Tryz.underlying22 (ok1 7 _ _ rfl rfl)
  obtain ⟨A1_7, l1_7, c1_7, rfl, hl1_7, ro1_7, sd1_7, w1_7⟩ := in_ints Tryz.underlying22 Tryz.underlying3 (by kernel_rfl) o1_7 (trod_slc Tryz.underlying22 o1_7 t1_7)
  have r1_7 : l1_7.length * 8 ≤ 140737488351232 := ints_le hz1 (j := 7) (t := 22) rfl rfl Tryz.underlying22 (by kernel_rfl) sd1_7
  have t1_8 := fld1 (i := 8) (tr1 8 _ rfl) (T := 22) rfl rfl (by kernel_rfl) rfl rfl
  have o1_8 := okV_slice Tryz.underlying22 (ok1 8 _ _ rfl rfl)
  obtain ⟨A1_8, l1_8, c1_8, rfl, hl1_8, ro1_8, sd1_8, w1_8⟩ := in_ints Tryz.underlying22 Tryz.underlying3 (by kernel_rfl) o1_8 (trod_slc Tryz.underlying22 o1_8 t1_8)
  have r1_8 : l1_8.length * 8 ≤ 140737488351232 := ints_le hz1 (j := 8) (t := 22) rfl rfl Tryz.underlying22 (by kernel_rfl) sd1_8
  have t1_9 := fld1 (i := 9) (tr1 9 _ rfl) (T := 27) rfl rfl (by kernel_rfl) rfl rfl
  have o1_9 := okV_slice Tryz.underlying27 (ok1 9 _ _ rfl rfl)
  have dec1_9 : ∀ n cs y, DataW.trod enc Tryz.prog W 0 (fun _ => true) true n 50 cs = some y → ∃ a : Int × Str, cs = (fun p : Int × Str => [vi p.1, vs p.2]) a := fun n cs y h => by
    obtain ⟨ys, m, _, _, hlen, hl, hf⟩ := DataW.trod_struct Tryz.underlying50 h
    have hlen2 : cs.length = 2 := hlen.trans (by kernel_rfl)
    obtain ⟨z0, z1, rfl⟩ : ∃ z0 z1, cs = [z0, z1] := by
      match cs, hlen2 with
      | [z0, z1], _ => exact ⟨z0, z1, rfl⟩
    obtain ⟨u0, u1, rfl⟩ : ∃ u0 u1, ys = [u0, u1] := by
      match ys, hl with
      | [u0, u1], _ => exact ⟨u0, u1, rfl⟩
    obtain ⟨b0, rfl, _, _⟩ := fld_int Tryz.underlying3 (fld1 (i := 0) (hf 0 _ rfl) (T := 3) rfl rfl (by kernel_rfl) rfl rfl)
    obtain ⟨b1, rfl, _⟩ := fld_str Tryz.underlying9 (fld1 (i := 1) (hf 1 _ rfl) (T := 9) rfl rfl (by kernel_rfl) rfl rfl)
    exact ⟨(b0, str b1), rfl⟩
  obtain ⟨A1_9, l1_9, c1_9, rfl, hl1_9, ro1_9, r1_9⟩ := in_recs (k := 2) (B := 24) (j := 9) (fun _ => rfl) (by decide) Tryz.underlying27 (by kernel_rfl) (by kernel_rfl) dec1_9 o1_9 (trod_slc Tryz.underlying27 o1_9 t1_9) hz1 rfl rfl
  have t1_10 := fld1 (i := 10) (tr1 10 _ rfl) (T := 28) rfl rfl (by kernel_rfl) rfl rfl
  have o1_10 := okV_slice Tryz.underlying28 (ok1 10 _ _ rfl rfl)
  have dec1_10 : ∀ n cs y, DataW.trod enc Tryz.prog W 0 (fun _ => true) true n 60 cs = some y → ∃ a : Str × Int, cs = (fun p : Str × Int => [vs p.1, vi p.2]) a := fun n cs y h => by
    obtain ⟨ys, m, _, _, hlen, hl, hf⟩ := DataW.trod_struct Tryz.underlying60 h
    have hlen2 : cs.length = 2 := hlen.trans (by kernel_rfl)
    obtain ⟨z0, z1, rfl⟩ : ∃ z0 z1, cs = [z0, z1] := by
      match cs, hlen2 with
      | [z0, z1], _ => exact ⟨z0, z1, rfl⟩
    obtain ⟨u0, u1, rfl⟩ : ∃ u0 u1, ys = [u0, u1] := by
      match ys, hl with
      | [u0, u1], _ => exact ⟨u0, u1, rfl⟩
    obtain ⟨b0, rfl, _⟩ := fld_str Tryz.underlying9 (fld1 (i := 0) (hf 0 _ rfl) (T := 9) rfl rfl (by kernel_rfl) rfl rfl)
    obtain ⟨b1, rfl, _, _⟩ := fld_int Tryz.underlying3 (fld1 (i := 1) (hf 1 _ rfl) (T := 3) rfl rfl (by kernel_rfl) rfl rfl)
    exact ⟨(str b0, b1), rfl⟩
  obtain ⟨A1_10, l1_10, c1_10, rfl, hl1_10, ro1_10, r1_10⟩ := in_recs (k := 2) (B := 24) (j := 10) (fun _ => rfl) (by decide) Tryz.underlying28 (by kernel_rfl) (by kernel_rfl) dec1_10 o1_10 (trod_slc Tryz.underlying28 o1_10 t1_10) hz1 rfl rfl
  have t1_11 := fld1 (i := 11) (tr1 11 _ rfl) (T := 23) rfl rfl (by kernel_rfl) rfl rfl
  have o1_11 := okV_slice Tryz.underlying23 (ok1 11 _ _ rfl rfl)
  obtain ⟨A1_11, l1_11, c1_11, rfl, hl1_11, ro1_11, r1_11, q1_11⟩ := in_strs Tryz.underlying23 Tryz.underlying9 (by kernel_rfl) (by kernel_rfl) o1_11 (trod_slc Tryz.underlying23 o1_11 t1_11) hz1 (j := 11) rfl rfl
  have t1_12 := fld1 (i := 12) (tr1 12 _ rfl) (T := 3) rfl rfl (by kernel_rfl) rfl rfl
  obtain ⟨a1_12, rfl, rfl, w1_12⟩ := fld_int Tryz.underlying3 t1_12
  have t1_13 := fld1 (i := 13) (tr1 13 _ rfl) (T := 22) rfl rfl (by kernel_rfl) rfl rfl
  have o1_13 := okV_slice Tryz.underlying22 (ok1 13 _ _ rfl rfl)
  obtain ⟨A1_13, l1_13, c1_13, rfl, hl1_13, ro1_13, sd1_13, w1_13⟩ := in_ints Tryz.underlying22 Tryz.underlying3 (by kernel_rfl) o1_13 (trod_slc Tryz.underlying22 o1_13 t1_13)
  have r1_13 : l1_13.length * 8 ≤ 140737488351232 := ints_le hz1 (j := 13) (t := 22) rfl rfl Tryz.underlying22 (by kernel_rfl) sd1_13
  have t1_14 := fld1 (i := 14) (tr1 14 _ rfl) (T := 23) rfl rfl (by kernel_rfl) rfl rfl
  have o1_14 := okV_slice Tryz.underlying23 (ok1 14 _ _ rfl rfl)
  obtain ⟨A1_14, l1_14, c1_14, rfl, hl1_14, ro1_14, r1_14, q1_14⟩ := in_strs Tryz.underlying23 Tryz.underlying9 (by kernel_rfl) (by kernel_rfl) o1_14 (trod_slc Tryz.underlying23 o1_14 t1_14) hz1 (j := 14) rfl rfl
  have t1_15 := fld1 (i := 15) (tr1 15 _ rfl) (T := 3) rfl rfl (by kernel_rfl) rfl rfl
  obtain ⟨a1_15, rfl, rfl, w1_15⟩ := fld_int Tryz.underlying3 t1_15
  have t1_16 := fld1 (i := 16) (tr1 16 _ rfl) (T := 9) rfl rfl (by kernel_rfl) rfl rfl
  obtain ⟨a1_16, rfl, rfl⟩ := fld_str Tryz.underlying9 t1_16
  have r1_16 : (str a1_16).length ≤ 140737488351232 := str_le (sized_string hz1 (j := 16) (t := 9) rfl rfl)
  have t1_17 := fld1 (i := 17) (tr1 17 _ rfl) (T := 3) rfl rfl (by kernel_rfl) rfl rfl
  obtain ⟨a1_17, rfl, rfl, w1_17⟩ := fld_int Tryz.underlying3 t1_17
  have t1_18 := fld1 (i := 18) (tr1 18 _ rfl) (T := 3) rfl rfl (by kernel_rfl) rfl rfl
  obtain ⟨a1_18, rfl, rfl, w1_18⟩ := fld_int Tryz.underlying3 t1_18
  have t1_19 := fld1 (i := 19) (tr1 19 _ rfl) (T := 9) rfl rfl (by kernel_rfl) rfl rfl
  obtain ⟨a1_19, rfl, rfl⟩ := fld_str Tryz.underlying9 t1_19
  have r1_19 : (str a1_19).length ≤ 140737488351232 := str_le (sized_string hz1 (j := 19) (t := 9) rfl rfl)
  have t1_20 := fld1 (i := 20) (tr1 20 _ rfl) (T := 3) rfl rfl (by kernel_rfl) rfl rfl
  obtain ⟨a1_20, rfl, rfl, w1_20⟩ := fld_int Tryz.underlying3 t1_20
  have hg := handle_of_laid hL
  clear hA0 hval0
  simp only [List.append_nil] at hW'
  have walk := (F4_calls A0_1 c0_1 A0_2 c0_2 A0_3 c0_3 A0_5 c0_5 A0_9 c0_9 A1_3 c1_3 A1_5 c1_5 A1_6 c1_6 A1_7 c1_7 A1_8 c1_8 A1_9 c1_9 A1_10 c1_10 A1_11 c1_11 A1_13 c1_13 A1_14 c1_14 a0_0 l0_1 l0_2 l0_3 (str a0_4) l0_5 (str a0_6) a0_7 (str a0_8) l0_9 (str a0_10) a0_11 a0_12 a0_13 a0_14 a1_0 (str a1_1) (str a1_2) l1_3 (str a1_4) l1_5 l1_6 l1_7 l1_8 l1_9 l1_10 l1_11 a1_12 l1_13 l1_14 a1_15 (str a1_16) a1_17 a1_18 (str a1_19) a1_20 a2 a3 hl0_1 hl0_2 hl0_3 hl0_5 hl0_9 hl1_3 hl1_5 hl1_6 hl1_7 hl1_8 hl1_9 hl1_10 hl1_11 hl1_13 hl1_14 true (HelloChosen_true a0_0 l0_1 l0_2 l0_3 (str a0_4) l0_5 (str a0_6) a0_7 (str a0_8) l0_9 (str a0_10) a0_11 a0_12 a0_13 a0_14 a1_0 (str a1_1) (str a1_2) l1_3 (str a1_4) l1_5 l1_6 l1_7 l1_8 l1_9 l1_10 l1_11 a1_12 l1_13 l1_14 a1_15 (str a1_16) a1_17 a1_18 (str a1_19) a1_20 a2 a3 (bndm r0_1 (by decide)) (bndm r0_2 (by decide)) (bndm r0_3 (by decide)) (bndm r0_5 (by decide)) (bndm r0_9 (by decide)) (bndm r1_3 (by decide)) (bndm r1_5 (by decide)) (bndm r1_6 (by decide)) (bndm r1_7 (by decide)) (bndm r1_8 (by decide)) (bndm r1_9 (by decide)))).law2 W (fun e he => by
    simp only [List.mem_cons, List.not_mem_nil, or_false] at he
    rcases he with rfl | rfl | rfl | rfl | rfl | rfl | rfl | rfl | rfl | rfl | rfl | rfl | rfl | rfl | rfl | rfl
    · exact ro0_1
    · exact ro0_2
    · exact ro0_3
    · exact ro0_5
    · exact ro0_9
    · exact ro1_3
    · exact ro1_5
    · exact ro1_6
    · exact ro1_7
    · exact ro1_8
    · exact ro1_9
    · exact ro1_10
    · exact ro1_11
    · exact ro1_13
    · exact ro1_14
    · exact ⟨(fun h => by cases h), fun i v hv => by cases i with | zero => (cases hv; exact hg) | succ i => cases hv⟩)
  refine walk.mono fun e W' ⟨he, bel⟩ => ?_
  subst he
  exact ⟨_, rfl, _, _, _, [], _, [], hW', trodAll_mk1 (shut_bool Tryz.underlying4 _), (trodAll_cons_mk (Below.trod laidOut (by kernel_rfl) (of_decide_eq_true (by kernel_rfl)) k0 bel lt0) (trodAll_cons_mk (Below.trod laidOut (by kernel_rfl) (of_decide_eq_true (by kernel_rfl)) k1 bel lt1) (trodAll_cons_mk (shut_bool Tryz.underlying4 _) (trodAll_cons_mk (shut_int Tryz.underlying3 w3) trodAll_mk0)))), rfl, bel.frame _, fun h => by cases h⟩

set_option maxRecDepth 100000 in
theorem lifted (os : Os) (started : os.Started) (H : Type) (enc : TypeId × Value → H) :
    ReturnsInHanded {} Tryz.checked os 4 .any (fun w args => (Rows.helloChosenSpec.pre enc Tryz.prog Tryz.f4 [] false w args ∧ laidMetH Tryz.prog Rows.helloChosenRow.laid w) ∧ sizedMet enc Tryz.prog Tryz.f4 (OpenSpec.ofChange Rows.helloChosenSpec) false w args) (Rows.helloChosenSpec.post enc Tryz.prog Tryz.f4 false true false false) := by
  refine returnsInHanded_of_change_and (C := Tryz.checked) (X := fun w _ => laidMetH Tryz.prog Rows.helloChosenRow.laid w) (fun _ _ _ hh h => h.of_heap hh) own started (by kernel_rfl) Tryz.func4
    (ChangeSpec.witness_at (enc := enc) (C := Tryz.checked) (os := os) (X := fun w _ => laidMetH Tryz.prog Rows.helloChosenRow.laid w) false (laidWorld os) #[.agg #[.bool false, .slice none 0 0, .slice none 0 0, .slice none 0 0, .string ByteArray.empty, .slice none 0 0, .string ByteArray.empty, .int .i64 0, .string ByteArray.empty, .slice none 0 0, .string ByteArray.empty, .int .i64 0, .int .i64 0, .int .i64 0, .int .i64 0], .agg #[.int .i64 0, .string ByteArray.empty, .string ByteArray.empty, .slice none 0 0, .string ByteArray.empty, .slice none 0 0, .slice none 0 0, .slice none 0 0, .slice none 0 0, .slice none 0 0, .slice none 0 0, .slice none 0 0, .int .i64 0, .slice none 0 0, .slice none 0 0, .int .i64 0, .string ByteArray.empty, .int .i64 0, .int .i64 0, .string ByteArray.empty, .int .i64 0], .bool false, .int .i64 0] 8 rfl (by kernel_rfl) (by kernel_rfl) (by kernel_rfl) (by kernel_rfl) (by kernel_rfl) (laidWorld_met os _)) ?_
  intro W base args ds gs before hval0 hW _ hsz0 hL _
  exact contract H enc W base args ds gs before hval0 hW hsz0 hL

theorem over : Rows.helloChosenRow.holds Tryz.pinned (OpenSpec.ofChange Rows.helloChosenSpec) :=
  OpenClaim.holds_of_wide 4 Tryz.f4 rfl rfl rfl rfl rfl rfl rfl ⟨rfl, rfl, rfl, rfl, rfl⟩ rfl rfl rfl rfl rfl (by kernel_rfl) Tryz.func4 (by kernel_rfl)
    (of_decide_eq_true (by kernel_rfl)) (by unfold Func.isWrapper; first | (rw [if_pos (by decide +kernel)]; kernel_rfl) | (rw [if_neg (by decide +kernel)]; exact ⟨rfl, rfl⟩))
    (fun os started H enc _ => lifted os started H enc)

set_option maxRecDepth 100000 in
theorem proved : Rows.HelloChosenCardSaid :=
  Claim7.holds_tied_plain_at .later [] [.handle] true (true, "98c844c516d5046596e42d8125769fe559090e0ccbfaa4a5c9981484cd27b4df") true
    over (fun _ h => by cases h) (by kernel_rfl) (fun _ h => by cases h) helloChosen_row_tie rfl ⟨rfl, rfl⟩ (by kernel_rfl) rfl
    (fun f fn hf hfn => by
      obtain rfl : f = 4 := Option.some.inj ((show Tryz.prog.funcNamed "halberd/halberdlaw24.HelloChosen" = some 4 by kernel_rfl).symm.trans hf) |>.symm
      obtain rfl : fn = Tryz.f4 := (Option.some.inj (Tryz.func4.symm.trans hfn)).symm
      exact ⟨by kernel_rfl, fun j t ht => by
        rw [Tryz.params4] at ht
        have hm := Array.mem_of_getElem? ht
        simp only [List.mem_toArray, List.mem_cons, List.not_mem_nil, or_false] at hm
        rcases hm with rfl | rfl | rfl | rfl
        · exact (show Tryz.prog.wantsStandIn 26 = false by kernel_rfl)
        · exact (show Tryz.prog.wantsStandIn 30 = false by kernel_rfl)
        · exact (show Tryz.prog.wantsStandIn 4 = false by kernel_rfl)
        · exact (show Tryz.prog.wantsStandIn 3 = false by kernel_rfl)⟩)
    (by kernel_rfl)
#print axioms proved
end Go.Proofs.YtkgeoekcnlgfnaaGreatDoor.helloChosen
