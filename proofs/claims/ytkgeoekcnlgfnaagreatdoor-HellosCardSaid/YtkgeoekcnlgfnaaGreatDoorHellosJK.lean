/-
  Hellos: for every input the law returns true, and what it was handed reads as before.
-/
import Derived.Test.YtkgeoekcnlgfnaaGreatDoorRows
import Derived.ProofKit
import Derived.OpenShut
import Derived.ShutString
import Derived.ChangeOld
import Derived.Test.YtkgeoekcnlgfnaaGreatDoorCards
import Derived.Test.YtkgeoekcnlgfnaaGreatDoorTie
import Derived.ChangeVars
import Derived.JoinedOf
import Derived.LaidLaws
import Derived.LaidHandle
import Derived.Stop.Joined
import Derived.SevenTiedAt
import Derived.Test.YtkgeoekcnlgfnaaGreatDoorKh39
namespace Go.Proofs.YtkgeoekcnlgfnaaGreatDoor.hellos
open Go.Kx
open Go.ChangeShapes Go.WideShapes Go.ChangeAt Go.RowKit
open Go.ChangeMaps (open_string shut_string)
set_option linter.unusedVariables false

theorem own : ownKnob Tryz.prog.godebug = none := by kernel_rfl
theorem etH : Tryz.prog.globalNamed "errors.errorType" = some 0 := by kernel_rfl
theorem rtH : (Tryz.prog.cutTypes.find? (·.1 == "internal/reflectlite.rtype")).map (·.2) = some 230 := by kernel_rfl
theorem oneH : ((List.range 279).filter fun t => Tryz.prog.rowNamed t [101, 114, 114, 111, 114]) = [153] := by kernel_rfl
theorem sizeH : Tryz.prog.types.size = 279 := by kernel_rfl
theorem handle_of_laid {W : World} (h : laidMetH Tryz.prog Rows.hellosRow.laid W) : W.cell? ⟨0, 0, none⟩ = some vo := by
  have h1 : laidMet Tryz.prog [] W ∧ handlesMet Tryz.prog Rows.hellosRow.laid W := h
  obtain ⟨name, u, ty, e1, e2, e3, e4, e5⟩ := h1.2 _ (List.mem_singleton.2 rfl)
  have en : name = [101, 114, 114, 111, 114] := (Option.some.inj e1).symm
  subst en
  obtain rfl := Option.some.inj (rtH.symm.trans e2)
  have hm : ty ∈ (List.range 279).filter fun t => Tryz.prog.rowNamed t [101, 114, 114, 111, 114] := List.mem_filter.2 ⟨List.mem_range.2 (by rw [← sizeH]; exact e3), e4⟩
  rw [oneH] at hm
  obtain rfl := List.mem_singleton.1 hm
  have hh : typeHandle Tryz.prog 153 = .pointer (some ⟨1, 153, none⟩) := by kernel_rfl
  rw [hh] at e5
  simpa [vo] using World.var?_cell etH e5 0
noncomputable def laidWorld (os : Os) : World :=
  let w0 := World.holding Tryz.prog os ⟨#[], #[], []⟩
  { w0 with heap := w0.heap.modify 0 fun
      | .cells _ t frozen => .cells #[.iface 230 (.agg #[.pointer (some ⟨1, 153, none⟩)])] t frozen
      | o => o }
theorem laidWorld_met (os : Os) (args : Array Value) : laidMetH Tryz.prog Rows.hellosRow.laid ((laidWorld os).forCall (fun _ _ => 0) ⟨#[], args, []⟩).memory :=
  laidMetH_of_parts (laidMet_nil _ _) (by kernel_rfl)
theorem laidOut : laidOutB Tryz.prog = true := by kernel_rfl

set_option maxRecDepth 100000 in
theorem contract (H : Type) (enc : TypeId × Value → H) (W : World) (base : Nat) (args : Array Value) (ds gs : List (DataW H)) (before : List MemPlace)
    (tH : ∀ (j : Nat) t v, Tryz.f3.params[j]? = some t → args[j]? = some v → Value.okWide Tryz.prog W .any base t v)
    (hW : DataW.Whole enc Tryz.prog Tryz.f3.params.toList Rows.hellosSpec.vars false W args.toList ds gs before) (zw : (DataW.weightsEach Tryz.prog (Tryz.f3.params.toList ++ Rows.hellosSpec.plain.varTypes Tryz.prog) (ds ++ gs)).all (· ≤ reachBytes) = true) (hL : laidMetH Tryz.prog Rows.hellosRow.laid W) :
    Calls Tryz.prog 3 args W fun e W' => ∃ v, e = .returned v ∧ Rows.hellosSpec.post enc Tryz.prog Tryz.f3 false true false false W args v W' := by
  have hval : ∀ (j : Nat) t v, Tryz.f3.params[j]? = some t → args[j]? = some v → Value.okWide Tryz.prog W .any base t v := tH
  have hW' := hW
  obtain ⟨p, q, hA0, hV, rfl, hfz, hnd⟩ := hW
  have hA : DataW.TrodAll enc Tryz.prog W 0 (fun _ => true) true Tryz.f3.params.toList args.toList ds p := hA0
  rw [Tryz.params3] at hA hval zw
  obtain ⟨v0, vs0, d0, ds0, p0, q0, hargs, rfl, rfl, h0, r0_⟩ := trodAll_cons hA
  obtain ⟨v1, vs1, d1, ds1, p1, q1, rfl, rfl, rfl, h1, r1_⟩ := trodAll_cons r0_
  obtain ⟨v2, vs2, d2, ds2, p2, q2, rfl, rfl, rfl, h2, r2_⟩ := trodAll_cons r1_
  obtain ⟨v3, vs3, d3, ds3, p3, q3, rfl, rfl, rfl, h3, r3_⟩ := trodAll_cons r2_
  obtain ⟨v4, vs4, d4, ds4, p4, q4, rfl, rfl, rfl, h4, r4_⟩ := trodAll_cons r3_
  obtain ⟨v5, vs5, d5, ds5, p5, q5, rfl, rfl, rfl, h5, r5_⟩ := trodAll_cons r4_
  obtain ⟨v6, vs6, d6, ds6, p6, q6, rfl, rfl, rfl, h6, r6_⟩ := trodAll_cons r5_
  obtain ⟨rfl, rfl, rfl⟩ := trodAll_nil r6_
  obtain rfl : args = #[v0, v1, v2, v3, v4, v5, v6] := Array.toList_inj.1 hargs
  obtain ⟨rfl, rfl⟩ := trodVars_none hV
  have k0 := h0
  have lt0 : ∀ x ∈ p0, x.block < W.heap.size := by obtain ⟨m, hm⟩ := k0; exact DataW.trod_lt m _ _ _ hm
  have k1 := h1
  have lt1 : ∀ x ∈ p1, x.block < W.heap.size := by obtain ⟨m, hm⟩ := k1; exact DataW.trod_lt m _ _ _ hm
  obtain ⟨a2, rfl, rfl, rfl⟩ := open_bool Tryz.underlying4 (hval 2 4 v2 rfl rfl) h2
  obtain ⟨a3, rfl, rfl, rfl, w3⟩ := open_int Tryz.underlying3 (hval 3 3 v3 rfl rfl) h3
  obtain ⟨a4, rfl, rfl, rfl, w4⟩ := open_string Tryz.underlying9 (hval 4 9 v4 rfl rfl) h4
  obtain ⟨a5, rfl, rfl, rfl, w5⟩ := open_string Tryz.underlying9 (hval 5 9 v5 rfl rfl) h5
  obtain ⟨a6, rfl, rfl, rfl, w6⟩ := open_string Tryz.underlying9 (hval 6 9 v6 rfl rfl) h6
  obtain ⟨xs0, ys0, m0, rfl, rfl, rfl, xl0, yl0, ok0, xm⟩ := Fv (ts := [4, 22, 22, 23, 9, 23, 9, 3, 9, 24, 9, 3, 3, 3, 3]) Tryz.underlying26 (by kernel_rfl) (hval 0 26 v0 rfl rfl) h0 (by kernel_rfl)
  obtain ⟨gL, jl, iN, iH, jw, fZ, fV, jE, il, iY, uR, ui, uF, sK, uD, rfl⟩ : ∃ gL jl iN iH jw fZ fV jE il iY uR ui uF sK uD, xs0 = [gL, jl, iN, iH, jw, fZ, fV, jE, il, iY, uR, ui, uF, sK, uD] := by
    match xs0, xl0 with
    | [gL, jl, iN, iH, jw, fZ, fV, jE, il, iY, uR, ui, uF, sK, uD], _ => exact ⟨gL, jl, iN, iH, jw, fZ, fV, jE, il, iY, uR, ui, uF, sK, uD, rfl⟩
  obtain ⟨iG, jB, gF, jA, jo, ic, fP, gB, jD, jg, tQ, sP, uy, uT, uj, rfl⟩ : ∃ iG jB gF jA jo ic fP gB jD jg tQ sP uy uT uj, ys0 = [iG, jB, gF, jA, jo, ic, fP, gB, jD, jg, tQ, sP, uy, uT, uj] := by
    match ys0, yl0 with
    | [iG, jB, gF, jA, jo, ic, fP, gB, jD, jg, tQ, sP, uy, uT, uj], _ => exact ⟨iG, jB, gF, jA, jo, ic, fP, gB, jD, jg, tQ, sP, uy, uT, uj, rfl⟩
  have Ij := GD zw (j := 0) (t := 26) rfl rfl Tryz.underlying26
  have adQ := R7 (i := 0) (xm 0 _ rfl) (T := 4) rfl rfl (by kernel_rfl) rfl rfl
  obtain ⟨ab1, rfl, rfl⟩ := ma Tryz.underlying4 adQ
  have adJ := R7 (i := 1) (xm 1 _ rfl) (T := 22) rfl rfl (by kernel_rfl) rfl rfl
  have acd := TG Tryz.underlying22 (ok0 1 _ _ rfl rfl)
  obtain ⟨ade, cu, adG, rfl, acb, aaI, aaJ, aeL⟩ := LX Tryz.underlying22 Tryz.underlying3 (by kernel_rfl) acd (Sb Tryz.underlying22 acd adJ)
  have acF : cu.length * 8 ≤ 140737488351232 := LW Ij (j := 1) (t := 22) rfl rfl Tryz.underlying22 (by kernel_rfl) aaJ
  have acz := R7 (i := 2) (xm 2 _ rfl) (T := 22) rfl rfl (by kernel_rfl) rfl rfl
  have abP := TG Tryz.underlying22 (ok0 2 _ _ rfl rfl)
  obtain ⟨acH, aN, adx, rfl, abG, ab8, abo, aes⟩ := LX Tryz.underlying22 Tryz.underlying3 (by kernel_rfl) abP (Sb Tryz.underlying22 abP acz)
  have adX : aN.length * 8 ≤ 140737488351232 := LW Ij (j := 2) (t := 22) rfl rfl Tryz.underlying22 (by kernel_rfl) abo
  have adT := R7 (i := 3) (xm 3 _ rfl) (T := 23) rfl rfl (by kernel_rfl) rfl rfl
  have aah := TG Tryz.underlying23 (ok0 3 _ _ rfl rfl)
  obtain ⟨acT, ab9, adI, rfl, abD, abb, adS, aeQ⟩ := EZ Tryz.underlying23 Tryz.underlying9 (by kernel_rfl) (by kernel_rfl) aah (Sb Tryz.underlying23 aah adT) Ij (j := 3) rfl rfl
  have acC := R7 (i := 4) (xm 4 _ rfl) (T := 9) rfl rfl (by kernel_rfl) rfl rfl
  obtain ⟨ae, rfl, rfl⟩ := Pz Tryz.underlying9 acC
  have aeH : (str ae).length ≤ 140737488351232 := NC (sized_string Ij (j := 4) (t := 9) rfl rfl)
  have adC := R7 (i := 5) (xm 5 _ rfl) (T := 23) rfl rfl (by kernel_rfl) rfl rfl
  have abj := TG Tryz.underlying23 (ok0 5 _ _ rfl rfl)
  obtain ⟨acK, abW, adl, rfl, aaz, aaR, adf, aeo⟩ := EZ Tryz.underlying23 Tryz.underlying9 (by kernel_rfl) (by kernel_rfl) abj (Sb Tryz.underlying23 abj adC) Ij (j := 5) rfl rfl
  have ad1 := R7 (i := 6) (xm 6 _ rfl) (T := 9) rfl rfl (by kernel_rfl) rfl rfl
  obtain ⟨bZ, rfl, rfl⟩ := Pz Tryz.underlying9 ad1
  have aen : (str bZ).length ≤ 140737488351232 := NC (sized_string Ij (j := 6) (t := 9) rfl rfl)
  have ac7 := R7 (i := 7) (xm 7 _ rfl) (T := 3) rfl rfl (by kernel_rfl) rfl rfl
  obtain ⟨abv, rfl, rfl, aer⟩ := RG Tryz.underlying3 ac7
  have adp := R7 (i := 8) (xm 8 _ rfl) (T := 9) rfl rfl (by kernel_rfl) rfl rfl
  obtain ⟨cO, rfl, rfl⟩ := Pz Tryz.underlying9 adp
  have aeD : (str cO).length ≤ 140737488351232 := NC (sized_string Ij (j := 8) (t := 9) rfl rfl)
  have adH := R7 (i := 9) (xm 9 _ rfl) (T := 24) rfl rfl (by kernel_rfl) rfl rfl
  have acl := TG Tryz.underlying24 (ok0 9 _ _ rfl rfl)
  have aK : ∀ n cs y, DataW.trod enc Tryz.prog W 0 (fun _ => true) true n 57 cs = some y → ∃ a : Str × Str × Int × Int × Int × Int, cs = (fun p : Str × Str × Int × Int × Int × Int => [vs p.1, vs p.2.1, vi p.2.2.1, vi p.2.2.2.1, vi p.2.2.2.2.1, vi p.2.2.2.2.2]) a := fun n cs y h => by
    obtain ⟨ys, m, _, _, hlen, hl, hf⟩ := DataW.trod_struct Tryz.underlying57 h
    have Eg : cs.length = 6 := hlen.trans (by kernel_rfl)
    obtain ⟨z0, z1, z2, z3, z4, z5, rfl⟩ : ∃ z0 z1 z2 z3 z4 z5, cs = [z0, z1, z2, z3, z4, z5] := by
      match cs, Eg with
      | [z0, z1, z2, z3, z4, z5], _ => exact ⟨z0, z1, z2, z3, z4, z5, rfl⟩
    obtain ⟨u0, u1, u2, u3, u4, u5, rfl⟩ : ∃ u0 u1 u2 u3 u4 u5, ys = [u0, u1, u2, u3, u4, u5] := by
      match ys, hl with
      | [u0, u1, u2, u3, u4, u5], _ => exact ⟨u0, u1, u2, u3, u4, u5, rfl⟩
    obtain ⟨b0, rfl, _⟩ := Pz Tryz.underlying9 (R7 (i := 0) (hf 0 _ rfl) (T := 9) rfl rfl (by kernel_rfl) rfl rfl)
    obtain ⟨b1, rfl, _⟩ := Pz Tryz.underlying9 (R7 (i := 1) (hf 1 _ rfl) (T := 9) rfl rfl (by kernel_rfl) rfl rfl)
    obtain ⟨b2, rfl, _, _⟩ := RG Tryz.underlying3 (R7 (i := 2) (hf 2 _ rfl) (T := 3) rfl rfl (by kernel_rfl) rfl rfl)
    obtain ⟨b3, rfl, _, _⟩ := RG Tryz.underlying3 (R7 (i := 3) (hf 3 _ rfl) (T := 3) rfl rfl (by kernel_rfl) rfl rfl)
    obtain ⟨b4, rfl, _, _⟩ := RG Tryz.underlying3 (R7 (i := 4) (hf 4 _ rfl) (T := 3) rfl rfl (by kernel_rfl) rfl rfl)
    obtain ⟨b5, rfl, _, _⟩ := RG Tryz.underlying3 (R7 (i := 5) (hf 5 _ rfl) (T := 3) rfl rfl (by kernel_rfl) rfl rfl)
    exact ⟨(str b0, str b1, b2, b3, b4, b5), rfl⟩
  obtain ⟨acB, acs, acM, rfl, aaF, aaX, acD⟩ := zY (k := 6) (B := 64) (j := 9) (fun _ => rfl) (by decide) Tryz.underlying24 (by kernel_rfl) (by kernel_rfl) aK acl (Sb Tryz.underlying24 acl adH) Ij rfl rfl
  have ab3 := R7 (i := 10) (xm 10 _ rfl) (T := 9) rfl rfl (by kernel_rfl) rfl rfl
  obtain ⟨ng, rfl, rfl⟩ := Pz Tryz.underlying9 ab3
  have ad7 : (str ng).length ≤ 140737488351232 := NC (sized_string Ij (j := 10) (t := 9) rfl rfl)
  have aax := R7 (i := 11) (xm 11 _ rfl) (T := 3) rfl rfl (by kernel_rfl) rfl rfl
  obtain ⟨eT, rfl, rfl, aeg⟩ := RG Tryz.underlying3 aax
  have aap := R7 (i := 12) (xm 12 _ rfl) (T := 3) rfl rfl (by kernel_rfl) rfl rfl
  obtain ⟨eY, rfl, rfl, ad4⟩ := RG Tryz.underlying3 aap
  have aau := R7 (i := 13) (xm 13 _ rfl) (T := 3) rfl rfl (by kernel_rfl) rfl rfl
  obtain ⟨fA, rfl, rfl, aem⟩ := RG Tryz.underlying3 aau
  have abY := R7 (i := 14) (xm 14 _ rfl) (T := 3) rfl rfl (by kernel_rfl) rfl rfl
  obtain ⟨fD, rfl, rfl, aej⟩ := RG Tryz.underlying3 abY
  obtain ⟨xs1, ys1, m1, rfl, rfl, rfl, xl1, yl1, kg, CJ⟩ := Fv (ts := [3, 9, 9, 22, 9, 22, 22, 22, 22, 27, 28, 23, 3, 22, 23, 3, 9, 3, 3, 9, 3]) Tryz.underlying30 (by kernel_rfl) (hval 1 30 v1 rfl rfl) h1 (by kernel_rfl)
  obtain ⟨iV, jT, jK, fQ, fO, fJ, gY, jq, jh, jd, um, ve, sF, sV, rY, sW, rV, uA, rX, tu, r_, rfl⟩ : ∃ iV jT jK fQ fO fJ gY jq jh jd um ve sF sV rY sW rV uA rX tu r_, xs1 = [iV, jT, jK, fQ, fO, fJ, gY, jq, jh, jd, um, ve, sF, sV, rY, sW, rV, uA, rX, tu, r_] := by
    match xs1, xl1 with
    | [iV, jT, jK, fQ, fO, fJ, gY, jq, jh, jd, um, ve, sF, sV, rY, sW, rV, uA, rX, tu, r_], _ => exact ⟨iV, jT, jK, fQ, fO, fJ, gY, jq, jh, jd, um, ve, sF, sV, rY, sW, rV, uA, rX, tu, r_, rfl⟩
  obtain ⟨fM, iO, je, gD, ji, gQ, gJ, gq, jQ, gN, vv, sH, rR, uB, sI, uO, sM, vC, uX, uh, ut, rfl⟩ : ∃ fM iO je gD ji gQ gJ gq jQ gN vv sH rR uB sI uO sM vC uX uh ut, ys1 = [fM, iO, je, gD, ji, gQ, gJ, gq, jQ, gN, vv, sH, rR, uB, sI, uO, sM, vC, uX, uh, ut] := by
    match ys1, yl1 with
    | [fM, iO, je, gD, ji, gQ, gJ, gq, jQ, gN, vv, sH, rR, uB, sI, uO, sM, vC, uX, uh, ut], _ => exact ⟨fM, iO, je, gD, ji, gQ, gJ, gq, jQ, gN, vv, sH, rR, uB, sI, uO, sM, vC, uX, uh, ut, rfl⟩
  have A9 := GD zw (j := 1) (t := 30) rfl rfl Tryz.underlying30
  have acQ := R7 (i := 0) (CJ 0 _ rfl) (T := 3) rfl rfl (by kernel_rfl) rfl rfl
  obtain ⟨acj, rfl, rfl, aeP⟩ := RG Tryz.underlying3 acQ
  have ad3 := R7 (i := 1) (CJ 1 _ rfl) (T := 9) rfl rfl (by kernel_rfl) rfl rfl
  obtain ⟨bX, rfl, rfl⟩ := Pz Tryz.underlying9 ad3
  have aew : (str bX).length ≤ 140737488351232 := NC (sized_string A9 (j := 1) (t := 9) rfl rfl)
  have ac0 := R7 (i := 2) (CJ 2 _ rfl) (T := 9) rfl rfl (by kernel_rfl) rfl rfl
  obtain ⟨aD, rfl, rfl⟩ := Pz Tryz.underlying9 ac0
  have aeu : (str aD).length ≤ 140737488351232 := NC (sized_string A9 (j := 2) (t := 9) rfl rfl)
  have acO := R7 (i := 3) (CJ 3 _ rfl) (T := 22) rfl rfl (by kernel_rfl) rfl rfl
  have abK := TG Tryz.underlying22 (kg 3 _ _ rfl rfl)
  obtain ⟨adc, bz, adK, rfl, abr, abM, ab4, aeA⟩ := LX Tryz.underlying22 Tryz.underlying3 (by kernel_rfl) abK (Sb Tryz.underlying22 abK acO)
  have adU : bz.length * 8 ≤ 140737488351232 := LW A9 (j := 3) (t := 22) rfl rfl Tryz.underlying22 (by kernel_rfl) ab4
  have adh := R7 (i := 4) (CJ 4 _ rfl) (T := 9) rfl rfl (by kernel_rfl) rfl rfl
  obtain ⟨dJ, rfl, rfl⟩ := Pz Tryz.underlying9 adh
  have aeF : (str dJ).length ≤ 140737488351232 := NC (sized_string A9 (j := 4) (t := 9) rfl rfl)
  have adg := R7 (i := 5) (CJ 5 _ rfl) (T := 22) rfl rfl (by kernel_rfl) rfl rfl
  have aaD := TG Tryz.underlying22 (kg 5 _ _ rfl rfl)
  obtain ⟨ado, cK, ac_, rfl, ach, abH, aa3, aeq⟩ := LX Tryz.underlying22 Tryz.underlying3 (by kernel_rfl) aaD (Sb Tryz.underlying22 aaD adg)
  have ac5 : cK.length * 8 ≤ 140737488351232 := LW A9 (j := 5) (t := 22) rfl rfl Tryz.underlying22 (by kernel_rfl) aa3
  have adu := R7 (i := 6) (CJ 6 _ rfl) (T := 22) rfl rfl (by kernel_rfl) rfl rfl
  have abT := TG Tryz.underlying22 (kg 6 _ _ rfl rfl)
  obtain ⟨adR, aZ, acR, rfl, acv, abe, aaL, aeB⟩ := LX Tryz.underlying22 Tryz.underlying3 (by kernel_rfl) abT (Sb Tryz.underlying22 abT adu)
  have adZ : aZ.length * 8 ≤ 140737488351232 := LW A9 (j := 6) (t := 22) rfl rfl Tryz.underlying22 (by kernel_rfl) aaL
  have adj := R7 (i := 7) (CJ 7 _ rfl) (T := 22) rfl rfl (by kernel_rfl) rfl rfl
  have ace := TG Tryz.underlying22 (kg 7 _ _ rfl rfl)
  obtain ⟨adN, bT, acL, rfl, abB, aaq, aba, aeJ⟩ := LX Tryz.underlying22 Tryz.underlying3 (by kernel_rfl) ace (Sb Tryz.underlying22 ace adj)
  have ac6 : bT.length * 8 ≤ 140737488351232 := LW A9 (j := 7) (t := 22) rfl rfl Tryz.underlying22 (by kernel_rfl) aba
  have adk := R7 (i := 8) (CJ 8 _ rfl) (T := 22) rfl rfl (by kernel_rfl) rfl rfl
  have abQ := TG Tryz.underlying22 (kg 8 _ _ rfl rfl)
  obtain ⟨ady, bO, adb, rfl, aal, aa7, aaZ, aeC⟩ := LX Tryz.underlying22 Tryz.underlying3 (by kernel_rfl) abQ (Sb Tryz.underlying22 abQ adk)
  have adz : bO.length * 8 ≤ 140737488351232 := LW A9 (j := 8) (t := 22) rfl rfl Tryz.underlying22 (by kernel_rfl) aaZ
  have ac4 := R7 (i := 9) (CJ 9 _ rfl) (T := 27) rfl rfl (by kernel_rfl) rfl rfl
  have abp := TG Tryz.underlying27 (kg 9 _ _ rfl rfl)
  have aA : ∀ n cs y, DataW.trod enc Tryz.prog W 0 (fun _ => true) true n 50 cs = some y → ∃ a : Int × Str, cs = (fun p : Int × Str => [vi p.1, vs p.2]) a := fun n cs y h => by
    obtain ⟨ys, m, _, _, hlen, hl, hf⟩ := DataW.trod_struct Tryz.underlying50 h
    have Eg : cs.length = 2 := hlen.trans (by kernel_rfl)
    obtain ⟨z0, z1, rfl⟩ : ∃ z0 z1, cs = [z0, z1] := by
      match cs, Eg with
      | [z0, z1], _ => exact ⟨z0, z1, rfl⟩
    obtain ⟨u0, u1, rfl⟩ : ∃ u0 u1, ys = [u0, u1] := by
      match ys, hl with
      | [u0, u1], _ => exact ⟨u0, u1, rfl⟩
    obtain ⟨b0, rfl, _, _⟩ := RG Tryz.underlying3 (R7 (i := 0) (hf 0 _ rfl) (T := 3) rfl rfl (by kernel_rfl) rfl rfl)
    obtain ⟨b1, rfl, _⟩ := Pz Tryz.underlying9 (R7 (i := 1) (hf 1 _ rfl) (T := 9) rfl rfl (by kernel_rfl) rfl rfl)
    exact ⟨(b0, str b1), rfl⟩
  obtain ⟨adF, abI, ac8, rfl, abx, abn, acW⟩ := zY (k := 2) (B := 24) (j := 9) (fun _ => rfl) (by decide) Tryz.underlying27 (by kernel_rfl) (by kernel_rfl) aA abp (Sb Tryz.underlying27 abp ac4) A9 rfl rfl
  have aaN := R7 (i := 10) (CJ 10 _ rfl) (T := 28) rfl rfl (by kernel_rfl) rfl rfl
  have fI := TG Tryz.underlying28 (kg 10 _ _ rfl rfl)
  have jH : ∀ n cs y, DataW.trod enc Tryz.prog W 0 (fun _ => true) true n 60 cs = some y → ∃ a : Str × Int, cs = (fun p : Str × Int => [vs p.1, vi p.2]) a := fun n cs y h => by
    obtain ⟨ys, m, _, _, hlen, hl, hf⟩ := DataW.trod_struct Tryz.underlying60 h
    have Eg : cs.length = 2 := hlen.trans (by kernel_rfl)
    obtain ⟨z0, z1, rfl⟩ : ∃ z0 z1, cs = [z0, z1] := by
      match cs, Eg with
      | [z0, z1], _ => exact ⟨z0, z1, rfl⟩
    obtain ⟨u0, u1, rfl⟩ : ∃ u0 u1, ys = [u0, u1] := by
      match ys, hl with
      | [u0, u1], _ => exact ⟨u0, u1, rfl⟩
    obtain ⟨b0, rfl, _⟩ := Pz Tryz.underlying9 (R7 (i := 0) (hf 0 _ rfl) (T := 9) rfl rfl (by kernel_rfl) rfl rfl)
    obtain ⟨b1, rfl, _, _⟩ := RG Tryz.underlying3 (R7 (i := 1) (hf 1 _ rfl) (T := 3) rfl rfl (by kernel_rfl) rfl rfl)
    exact ⟨(str b0, b1), rfl⟩
  obtain ⟨aco, fo, aaK, rfl, bJ, bC, aa2⟩ := zY (k := 2) (B := 24) (j := 10) (fun _ => rfl) (by decide) Tryz.underlying28 (by kernel_rfl) (by kernel_rfl) jH fI (Sb Tryz.underlying28 fI aaN) A9 rfl rfl
  have ab_ := R7 (i := 11) (CJ 11 _ rfl) (T := 23) rfl rfl (by kernel_rfl) rfl rfl
  have d9 := TG Tryz.underlying23 (kg 11 _ _ rfl rfl)
  obtain ⟨aaY, eH, aan, rfl, bK, dw, acm, ad_⟩ := EZ Tryz.underlying23 Tryz.underlying9 (by kernel_rfl) (by kernel_rfl) d9 (Sb Tryz.underlying23 d9 ab_) A9 (j := 11) rfl rfl
  have aaT := R7 (i := 12) (CJ 12 _ rfl) (T := 3) rfl rfl (by kernel_rfl) rfl rfl
  obtain ⟨eG, rfl, rfl, ad5⟩ := RG Tryz.underlying3 aaT
  have abk := R7 (i := 13) (CJ 13 _ rfl) (T := 22) rfl rfl (by kernel_rfl) rfl rfl
  have fF := TG Tryz.underlying22 (kg 13 _ _ rfl rfl)
  obtain ⟨aaO, nX, abS, rfl, cz, aM, dD, aea⟩ := LX Tryz.underlying22 Tryz.underlying3 (by kernel_rfl) fF (Sb Tryz.underlying22 fF abk)
  have acp : nX.length * 8 ≤ 140737488351232 := LW A9 (j := 13) (t := 22) rfl rfl Tryz.underlying22 (by kernel_rfl) dD
  have abq := R7 (i := 14) (CJ 14 _ rfl) (T := 23) rfl rfl (by kernel_rfl) rfl rfl
  have fE := TG Tryz.underlying23 (kg 14 _ _ rfl rfl)
  obtain ⟨aaM, eB, aaP, rfl, b_, dm, abN, aei⟩ := EZ Tryz.underlying23 Tryz.underlying9 (by kernel_rfl) (by kernel_rfl) fE (Sb Tryz.underlying23 fE abq) A9 (j := 14) rfl rfl
  have aat := R7 (i := 15) (CJ 15 _ rfl) (T := 3) rfl rfl (by kernel_rfl) rfl rfl
  obtain ⟨d_, rfl, rfl, ad9⟩ := RG Tryz.underlying3 aat
  have abm := R7 (i := 16) (CJ 16 _ rfl) (T := 9) rfl rfl (by kernel_rfl) rfl rfl
  obtain ⟨n_, rfl, rfl⟩ := Pz Tryz.underlying9 abm
  have ad8 : (str n_).length ≤ 140737488351232 := NC (sized_string A9 (j := 16) (t := 9) rfl rfl)
  have aai := R7 (i := 17) (CJ 17 _ rfl) (T := 3) rfl rfl (by kernel_rfl) rfl rfl
  obtain ⟨dY, rfl, rfl, aek⟩ := RG Tryz.underlying3 aai
  have acx := R7 (i := 18) (CJ 18 _ rfl) (T := 3) rfl rfl (by kernel_rfl) rfl rfl
  obtain ⟨fw, rfl, rfl, aee⟩ := RG Tryz.underlying3 acx
  have aaw := R7 (i := 19) (CJ 19 _ rfl) (T := 9) rfl rfl (by kernel_rfl) rfl rfl
  obtain ⟨nD, rfl, rfl⟩ := Pz Tryz.underlying9 aaw
  have aed : (str nD).length ≤ 140737488351232 := NC (sized_string A9 (j := 19) (t := 9) rfl rfl)
  have ab2 := R7 (i := 20) (CJ 20 _ rfl) (T := 3) rfl rfl (by kernel_rfl) rfl rfl
  obtain ⟨fC, rfl, rfl, aef⟩ := RG Tryz.underlying3 ab2
  have r4 : (str a4).length ≤ 140737488351232 := NC (sized_string zw (j := 4) (t := 9) rfl rfl)
  have r5 : (str a5).length ≤ 140737488351232 := NC (sized_string zw (j := 5) (t := 9) rfl rfl)
  have r6 : (str a6).length ≤ 140737488351232 := NC (sized_string zw (j := 6) (t := 9) rfl rfl)
  have hg := handle_of_laid hL
  clear hA0 tH
  simp only [List.append_nil] at hW'
  rw [JF a4]
  rw [JF a5]
  rw [JF a6]
  have walk := (kK ade adG acH adx acT adI acK adl acB acM adc adK ado ac_ adR acR adN acL ady adb adF ac8 aco aaK aaY aan aaO abS aaM aaP ab1 cu aN ab9 (str ae) abW (str bZ) abv (str cO) acs (str ng) eT eY fA fD acj (str bX) (str aD) bz (str dJ) cK aZ bT bO abI fo eH eG nX eB d_ (str n_) dY fw (str nD) fC a2 a3 (str a4) (str a5) (str a6) acb abG abD aaz aaF abr ach acv abB aal abx bJ bK cz b_ true (xU ab1 cu aN ab9 (str ae) abW (str bZ) abv (str cO) acs (str ng) eT eY fA fD acj (str bX) (str aD) bz (str dJ) cK aZ bT bO abI fo eH eG nX eB d_ (str n_) dY fw (str nD) fC a2 a3 (str a4) (str a5) (str a6) acF adX adS adf acD adU ac5 adZ ac6 adz acW aa2 acm acp abN)).ac2 W (fun e he => by
    simp only [List.mem_cons, List.not_mem_nil, or_false] at he
    rcases he with rfl | rfl | rfl | rfl | rfl | rfl | rfl | rfl | rfl | rfl | rfl | rfl | rfl | rfl | rfl | rfl
    · exact aaI
    · exact ab8
    · exact abb
    · exact aaR
    · exact aaX
    · exact abM
    · exact abH
    · exact abe
    · exact aaq
    · exact aa7
    · exact abn
    · exact bC
    · exact dw
    · exact aM
    · exact dm
    · exact ⟨(fun h => by cases h), fun i v hv => by cases i with | zero => (cases hv; exact hg) | succ i => cases hv⟩)
  refine walk.mono fun e W' ⟨he, bel⟩ => ?_
  rw [← JF a4]
  rw [← JF a5]
  rw [← JF a6]
  subst he
  exact ⟨_, rfl, _, _, _, [], _, [], hW', trodAll_mk1 (shut_bool Tryz.underlying4 _), (trodAll_cons_mk (Below.trod laidOut (by kernel_rfl) (of_decide_eq_true (by kernel_rfl)) k0 bel lt0) (trodAll_cons_mk (Below.trod laidOut (by kernel_rfl) (of_decide_eq_true (by kernel_rfl)) k1 bel lt1) (trodAll_cons_mk (shut_bool Tryz.underlying4 _) (trodAll_cons_mk (shut_int Tryz.underlying3 w3) (trodAll_cons_mk (shut_string Tryz.underlying9 w4) (trodAll_cons_mk (shut_string Tryz.underlying9 w5) (trodAll_cons_mk (shut_string Tryz.underlying9 w6) trodAll_mk0))))))), rfl, bel.frame _, fun h => by cases h⟩

set_option maxRecDepth 100000 in
theorem lifted (os : Os) (started : os.Started) (H : Type) (enc : TypeId × Value → H) :
    ReturnsInHanded {} Tryz.checked os 3 .any (fun w args => (Rows.hellosSpec.pre enc Tryz.prog Tryz.f3 [] false w args ∧ laidMetH Tryz.prog Rows.hellosRow.laid w) ∧ sizedMet enc Tryz.prog Tryz.f3 (OpenSpec.ofChange Rows.hellosSpec) false w args) (Rows.hellosSpec.post enc Tryz.prog Tryz.f3 false true false false) := by
  refine returnsInHanded_of_change_and (C := Tryz.checked) (X := fun w _ => laidMetH Tryz.prog Rows.hellosRow.laid w) (fun _ _ _ hh h => h.of_heap hh) own started (by kernel_rfl) Tryz.func3
    (ChangeSpec.witness_at (enc := enc) (C := Tryz.checked) (os := os) (X := fun w _ => laidMetH Tryz.prog Rows.hellosRow.laid w) false (laidWorld os) #[.agg #[.bool false, .slice none 0 0, .slice none 0 0, .slice none 0 0, .string ByteArray.empty, .slice none 0 0, .string ByteArray.empty, .int .i64 0, .string ByteArray.empty, .slice none 0 0, .string ByteArray.empty, .int .i64 0, .int .i64 0, .int .i64 0, .int .i64 0], .agg #[.int .i64 0, .string ByteArray.empty, .string ByteArray.empty, .slice none 0 0, .string ByteArray.empty, .slice none 0 0, .slice none 0 0, .slice none 0 0, .slice none 0 0, .slice none 0 0, .slice none 0 0, .slice none 0 0, .int .i64 0, .slice none 0 0, .slice none 0 0, .int .i64 0, .string ByteArray.empty, .int .i64 0, .int .i64 0, .string ByteArray.empty, .int .i64 0], .bool false, .int .i64 0, .string ByteArray.empty, .string ByteArray.empty, .string ByteArray.empty] 8 rfl (by kernel_rfl) (by kernel_rfl) (by kernel_rfl) (by kernel_rfl) (by kernel_rfl) (laidWorld_met os _)) ?_
  intro W base args ds gs before tH hW _ zw hL _
  exact contract H enc W base args ds gs before tH hW zw hL

theorem over : Rows.hellosRow.holds Tryz.pinned (OpenSpec.ofChange Rows.hellosSpec) :=
  OpenClaim.holds_of_wide 3 Tryz.f3 rfl rfl rfl rfl rfl rfl rfl ⟨rfl, rfl, rfl, rfl, rfl⟩ rfl rfl rfl rfl rfl (by kernel_rfl) Tryz.func3 (by kernel_rfl)
    (of_decide_eq_true (by kernel_rfl)) (by unfold Func.isWrapper; first | (rw [if_pos (by decide +kernel)]; kernel_rfl) | (rw [if_neg (by decide +kernel)]; exact ⟨rfl, rfl⟩))
    (fun os started H enc _ => lifted os started H enc)

set_option maxRecDepth 100000 in
theorem proved : Rows.HellosCardSaid :=
  Claim7.holds_tied_plain_at .later [] [.handle] true (true, "98c844c516d5046596e42d8125769fe559090e0ccbfaa4a5c9981484cd27b4df") true
    over (fun _ h => by cases h) (by kernel_rfl) (fun _ h => by cases h) hellos_row_tie rfl ⟨rfl, rfl⟩ (by kernel_rfl) rfl
    (fun f fn hf hfn => by
      obtain rfl : f = 3 := Option.some.inj ((show Tryz.prog.funcNamed "halberd/halberdlaw24.Hellos" = some 3 by kernel_rfl).symm.trans hf) |>.symm
      obtain rfl : fn = Tryz.f3 := (Option.some.inj (Tryz.func3.symm.trans hfn)).symm
      exact ⟨by kernel_rfl, fun j t ht => by
        rw [Tryz.params3] at ht
        have hm := Array.mem_of_getElem? ht
        simp only [List.mem_toArray, List.mem_cons, List.not_mem_nil, or_false] at hm
        rcases hm with rfl | rfl | rfl | rfl | rfl | rfl | rfl
        · exact (show Tryz.prog.wantsStandIn 26 = false by kernel_rfl)
        · exact (show Tryz.prog.wantsStandIn 30 = false by kernel_rfl)
        · exact (show Tryz.prog.wantsStandIn 4 = false by kernel_rfl)
        · exact (show Tryz.prog.wantsStandIn 3 = false by kernel_rfl)
        · exact (show Tryz.prog.wantsStandIn 9 = false by kernel_rfl)
        · exact (show Tryz.prog.wantsStandIn 9 = false by kernel_rfl)
        · exact (show Tryz.prog.wantsStandIn 9 = false by kernel_rfl)⟩)
    (by kernel_rfl)
#print axioms proved
end Go.Proofs.YtkgeoekcnlgfnaaGreatDoor.hellos
