/-
  Part 1 of the proof of Tickets.
-/
import Derived.WideShapes
import Derived.ChangeSame
import Derived.ChangeMaps5
import Derived.Test.YtnplppmninimeaaDoorTkQ1
import Derived.Test.YtnplppmninimeaaDoorTkQ2
import Derived.Test.YtnplppmninimeaaDoorTkQ3
import Derived.Test.YtnplppmninimeaaDoorTkQ4
import Derived.Test.YtnplppmninimeaaDoorTkQ5
import Derived.Test.YtnplppmninimeaaDoorTkQ6
import Derived.Test.YtnplppmninimeaaDoorTkQ7
import Derived.Test.YtnplppmninimeaaDoorTkQ8
import Derived.Test.YtnplppmninimeaaDoorTkQ9
import Derived.Test.YtnplppmninimeaaDoorTkQ10
import Derived.Test.YtnplppmninimeaaDoorTkQ11
import Derived.Test.YtnplppmninimeaaDoorTkQ12
import Derived.Test.YtnplppmninimeaaDoorTkQ13
import Derived.Test.YtnplppmninimeaaDoorTkQ14
import Derived.Test.YtnplppmninimeaaDoorTkQ15
import Derived.Test.YtnplppmninimeaaDoorTkQ16
import Derived.Test.YtnplppmninimeaaDoorTkQ17
import Derived.Test.YtnplppmninimeaaDoorTkQ18
import Derived.Test.YtnplppmninimeaaDoorTkQ19
import Derived.Test.YtnplppmninimeaaDoorTkQ20
import Derived.Test.YtnplppmninimeaaDoorTkQ21
set_option linter.unusedVariables false
set_option linter.unusedSimpArgs false
section
namespace Go.Proofs
open Go Go.Kx
open TrydI Tryd
def halberdlaw20_Tickets (key:Str) (nonce:Str) (t_Suite:Int) (t_Secret:Str) (t_Made:Int) (t_Add:Int) (s_:Str):Option (Bool) :=
 (ticket_Seal key nonce t_Suite t_Secret t_Made t_Add).bind fun (r_1:Str × Int)=>((halberdref19_SealTicket key nonce t_Suite t_Secret t_Made t_Add).bind fun (r_2:Str × Int)=>((ticket_Open key s_).bind fun (r_3:Int × Str × Int × Int × Int)=>((halberdref19_OpenTicket key s_).bind fun (r_4:Int × Str × Int × Int × Int)=>(if r_1.1=r_2.1 then ((halberdlaw0_Num r_1.2).bind fun (r_5:Int)=>(if r_5=r_2.2 then (if (Lf.all [Lf.i r_3.1,Lf.s r_3.2.1,Lf.i r_3.2.2.1,Lf.i r_3.2.2.2.1] [Lf.i r_4.1,Lf.s r_4.2.1,Lf.i r_4.2.2.1,Lf.i r_4.2.2.2.1])=true then ((halberdlaw0_Num r_3.2.2.2.2).bind fun (r_6:Int)=>(if r_6=r_4.2.2.2.2 then ((halberdlaw20_awake).bind fun (r_7:Bool)=>(some r_7)) else (some false))) else (some false)) else (some false))) else (some false)))))
set_option maxHeartbeats 4000000 in
set_option maxRecDepth 20000 in
theorem F3_calls (key:Str) (nonce:Str) (t_Suite:Int) (t_Secret:Str) (t_Made:Int) (t_Add:Int) (s_:Str) (r:Bool) (H:halberdlaw20_Tickets key nonce t_Suite t_Secret t_Made t_Add s_=some r) :
  Does Tryd.prog 3 [vs key,vs nonce,aG [(1,[vi t_Suite]),(1,[vs t_Secret]),(1,[vi t_Made]),(1,[vi t_Add])],vs s_] [] [⟨some (0,0),[hdE]⟩] (Γ:=Unit) (fun g=>vb r) (fun g=>[]):=by
 intro w hmem hro hd
 refine calls_of (N:=66) (m0:=[(0,vs key),(1,vs nonce),(2,aG [(1,[vi t_Suite]),(1,[vs t_Secret]),(1,[vi t_Made]),(1,[vi t_Add])]),(3,vs s_)]) func3 rfl ntmps3 (argM_ok [vs key,vs nonce,aG [(1,[vi t_Suite]),(1,[vs t_Secret]),(1,[vi t_Made]),(1,[vi t_Add])],vs s_]) rfl hmem hro hd ?_
 unfold halberdlaw20_Tickets at H
 refine TC_seq (TC_region (TLe (E_boxP [(1,[vi t_Suite]),(1,[vs t_Secret]),(1,[vi t_Made]),(1,[vi t_Add])] rfl rfl ⟨rfl,rfl,rfl,rfl,trivial⟩) (fun b1=>?_)))
 refine TVa ?_
 refine TL_nil (TX_next (TC_seq (TC_region (TVm ?_))))
 refine TVm ?_
 refine TLv (V_loadAgg (n:=4) (cs:=flat [(1,[vi t_Suite]),(1,[vs t_Secret]),(1,[vi t_Made]),(1,[vi t_Add])]) rfl (by simp) (SrcEnts (b:=b1) [(1,[vi t_Suite]),(1,[vs t_Secret]),(1,[vi t_Made]),(1,[vi t_Add])] 0 ⟨rfl,rfl,rfl,rfl,trivial⟩ (AllSrc.all (M:=ents b1 0 [(1,[vi t_Suite]),(1,[vs t_Secret]),(1,[vi t_Made]),(1,[vi t_Add])]) ⟨Src.own (j:=0) rfl,Src.own (j:=1) rfl,Src.own (j:=2) rfl,Src.own (j:=3) rfl,trivial⟩)) isAgg23 inf23 rfl (flat_len ⟨rfl,rfl,rfl,rfl,trivial⟩ rfl)) ?_
 obtain ⟨r_1,hr_1,H⟩:=bind_elim H
 refine TLe (E_c0 (F7_calls key nonce t_Suite t_Secret t_Made t_Add r_1 hr_1) call7 .z) (fun g_1=>?_)
 refine TVm ?_
 refine TLv V_ex ?_
 refine TLv V_ex ?_
 refine TVa ?_
 refine TVa ?_
 refine TL_nil (TX_next (TC_seq (TC_region (TVm ?_))))
 refine TVm ?_
 refine TLv (V_loadAgg (n:=4) (cs:=flat [(1,[vi t_Suite]),(1,[vs t_Secret]),(1,[vi t_Made]),(1,[vi t_Add])]) rfl (by simp) (SrcEnts (b:=b1) [(1,[vi t_Suite]),(1,[vs t_Secret]),(1,[vi t_Made]),(1,[vi t_Add])] 0 ⟨rfl,rfl,rfl,rfl,trivial⟩ (AllSrc.all (M:=ents b1 0 [(1,[vi t_Suite]),(1,[vs t_Secret]),(1,[vi t_Made]),(1,[vi t_Add])]) ⟨Src.own (j:=0) rfl,Src.own (j:=1) rfl,Src.own (j:=2) rfl,Src.own (j:=3) rfl,trivial⟩)) isAgg23 inf23 rfl (flat_len ⟨rfl,rfl,rfl,rfl,trivial⟩ rfl)) ?_
 obtain ⟨r_2,hr_2,H⟩:=bind_elim H
 refine TLe (E_c0 (F8_calls key nonce t_Suite t_Secret t_Made t_Add r_2 hr_2) call8 .z) (fun g_2=>?_)
 refine TVm ?_
 refine TLv V_ex ?_
 refine TLv V_ex ?_
 refine TVa ?_
 refine TVa ?_
 refine TL_nil (TX_next (TC_seq (TC_region (TVm ?_))))
 refine TVm ?_
 obtain ⟨r_3,hr_3,H⟩:=bind_elim H
 refine TLe (E_c0 (F9_calls key s_ r_3 hr_3) call9 ⟨.r 0,trivial⟩) (fun g_3=>?_)
 refine TVm ?_
 refine TLv V_ex ?_
 refine TLv V_ex ?_
 refine TLe (E_allocP [(1,[vi 0]),(1,[vs ([]:Str)]),(1,[vi 0]),(1,[vi 0])] inf23 zer23 ⟨rfl,rfl,rfl,rfl,trivial⟩) (fun b2=>?_)
 refine TLn (E_sp (b:=b2) (o:=0) [0,0,0,0] [(1,[vi 0]),(1,[vs ([]:Str)]),(1,[vi 0]),(1,[vi 0])] [(1,[vi r_3.1]),(1,[vs r_3.2.1]),(1,[vi r_3.2.2.1]),(1,[vi r_3.2.2.2.1])] rfl inf23 ⟨rfl,rfl,rfl,rfl,trivial⟩ ⟨rfl,rfl,rfl,rfl,trivial⟩ ⟨(OneC.cons rfl OneC.nil),(OneC.cons rfl OneC.nil),(OneC.cons rfl OneC.nil),(OneC.cons rfl OneC.nil),trivial⟩) (fun _=>?_)
 refine TVa ?_
 refine TL_nil (TX_next (TC.sub (m':=[(0,_),(3,_),(9,_),(10,_),(11,_),(12,_),(13,_),(14,_)]) ⟨rfl,rfl,rfl,rfl,rfl,rfl,rfl,rfl,trivial⟩ ?_))
 refine TC.pull (is:=[0,0,0,0]) (L':=[_,_,_,_]) rfl ?_
 refine TC_seq (TC_region (TVm ?_))
 refine TVm ?_
 obtain ⟨r_4,hr_4,H⟩:=bind_elim H
 refine TLe (E_c0 (F10_calls key s_ r_4 hr_4) call10 .z) (fun g_4=>?_)
 refine TVm ?_
 refine TLv V_ex ?_
 refine TLv V_ex ?_
 refine TLe (E_allocP [(1,[vi 0]),(1,[vs ([]:Str)]),(1,[vi 0]),(1,[vi 0])] inf23 zer23 ⟨rfl,rfl,rfl,rfl,trivial⟩) (fun b3=>?_)
 refine TLn (E_sp (b:=b3) (o:=0) [0,0,0,0] [(1,[vi 0]),(1,[vs ([]:Str)]),(1,[vi 0]),(1,[vi 0])] [(1,[vi r_4.1]),(1,[vs r_4.2.1]),(1,[vi r_4.2.2.1]),(1,[vi r_4.2.2.2.1])] rfl inf23 ⟨rfl,rfl,rfl,rfl,trivial⟩ ⟨rfl,rfl,rfl,rfl,trivial⟩ ⟨(OneC.cons rfl OneC.nil),(OneC.cons rfl OneC.nil),(OneC.cons rfl OneC.nil),(OneC.cons rfl OneC.nil),trivial⟩) (fun _=>?_)
 refine TVa ?_
 refine TL_nil (TX_next (TC_seq (TC_region (TVm ?_))))
 refine TVm ?_
 refine TLv (V_bin rfl rfl (fun w=>eqlS w r_1.1 r_2.1)) ?_
 refine TVm ?_
 refine TFd (d:=46) H (fun hc H=>?_) (fun hc H=>?_)
 ·refine TLw (V_move rfl) ?_
  obtain ⟨r_5,hr_5,H⟩:=bind_elim H
  refine TLu (E_c0 (F11_calls r_1.2 r_5 hr_5) call11 .z) (fun g_5=>?_)
  refine TLw (V_move rfl) ?_
  refine TLw (V_bin rfl rfl (fun w=>eqlI w r_5 r_2.2)) ?_
  refine TVt ?_
  refine TVm ?_
  refine TFd (d:=52) H (fun hc H=>?_) (fun hc H=>?_)
  ·refine TLw (V_loadAgg (n:=4) (cs:=flat [(1,[vi r_3.1]),(1,[vs r_3.2.1]),(1,[vi r_3.2.2.1]),(1,[vi r_3.2.2.2.1])]) rfl (by simp) (SrcEnts (b:=b2) [(1,[vi r_3.1]),(1,[vs r_3.2.1]),(1,[vi r_3.2.2.1]),(1,[vi r_3.2.2.2.1])] 0 ⟨rfl,rfl,rfl,rfl,trivial⟩ (AllSrc.all (M:=ents b2 0 [(1,[vi r_3.1]),(1,[vs r_3.2.1]),(1,[vi r_3.2.2.1]),(1,[vi r_3.2.2.2.1])]) ⟨Src.own (j:=4) rfl,Src.own (j:=5) rfl,Src.own (j:=6) rfl,Src.own (j:=7) rfl,trivial⟩)) isAgg23 inf23 rfl (flat_len ⟨rfl,rfl,rfl,rfl,trivial⟩ rfl)) ?_
   refine TLw (V_loadAgg (n:=4) (cs:=flat [(1,[vi r_4.1]),(1,[vs r_4.2.1]),(1,[vi r_4.2.2.1]),(1,[vi r_4.2.2.2.1])]) rfl (by simp) (SrcEnts (b:=b3) [(1,[vi r_4.1]),(1,[vs r_4.2.1]),(1,[vi r_4.2.2.1]),(1,[vi r_4.2.2.2.1])] 0 ⟨rfl,rfl,rfl,rfl,trivial⟩ (AllSrc.all (M:=ents b3 0 [(1,[vi r_4.1]),(1,[vs r_4.2.1]),(1,[vi r_4.2.2.1]),(1,[vi r_4.2.2.2.1])]) ⟨Src.own (j:=0) rfl,Src.own (j:=1) rfl,Src.own (j:=2) rfl,Src.own (j:=3) rfl,trivial⟩)) isAgg23 inf23 rfl (flat_len ⟨rfl,rfl,rfl,rfl,trivial⟩ rfl)) ?_
   refine TLw (V_bin rfl rfl (fun w=>eqlSt w underlying23 (by kernel_rfl) (by kernel_rfl) [Lf.i r_3.1,Lf.s r_3.2.1,Lf.i r_3.2.2.1,Lf.i r_3.2.2.2.1] [Lf.i r_4.1,Lf.s r_4.2.1,Lf.i r_4.2.2.1,Lf.i r_4.2.2.2.1] (by kernel_rfl) (by kernel_rfl) (by kernel_rfl) (by kernel_rfl))) ?_
   refine TVt ?_
   refine TVm ?_
   refine TFb (d:=57) H (fun hc H=>?_) (fun hc H=>?_)
   ·refine TLw (V_move rfl) ?_
    obtain ⟨r_6,hr_6,H⟩:=bind_elim H
    refine TLu (E_c0 (F11_calls r_3.2.2.2.2 r_6 hr_6) call11 .z) (fun g_6=>?_)
    refine TLw (V_move rfl) ?_
    refine TLw (V_bin rfl rfl (fun w=>eqlI w r_6 r_4.2.2.2.2)) ?_
    refine TVt ?_
    refine TVm ?_
    refine TFd (d:=63) H (fun hc H=>?_) (fun hc H=>?_)
    ·obtain ⟨r_7,hr_7,H⟩:=bind_elim H
     refine TLu (E_c0 (F12_calls r_7 hr_7) call12 ⟨.r 0,trivial⟩) (fun g_7=>?_)
     refine TVt ?_
     refine TVa ?_
     refine TL_nil (TX_next (TC.sub (m':=[(8,_)]) ⟨rfl,trivial⟩ ?_))
     refine TC.pull (is:=[]) (L':=[]) rfl ?_
     refine TC_ret ?_
     obtain rfl:=sj H
     exact TX1
    ·refine TLs ?_
     refine TVf ?_
     refine TVa ?_
     refine TL_nil (TX_next (TC.sub (m':=[(8,_)]) ⟨rfl,trivial⟩ ?_))
     refine TC.pull (is:=[]) (L':=[]) rfl ?_
     refine TC_ret ?_
     obtain rfl:=sj H
     exact TX1
   ·refine TLs ?_
    refine TLs ?_
    refine TLs ?_
    refine TLs ?_
    refine TVf ?_
    refine TVm ?_
    refine TLs ?_
    refine TVf ?_
    refine TVa ?_
    refine TL_nil (TX_next (TC.sub (m':=[(8,_)]) ⟨rfl,trivial⟩ ?_))
    refine TC.pull (is:=[]) (L':=[]) rfl ?_
    refine TC_ret ?_
    obtain rfl:=sj H
    exact TX1
  ·refine TLs ?_
   refine TLs ?_
   refine TLs ?_
   refine TVf ?_
   refine TVm ?_
   refine TLs ?_
   refine TLs ?_
   refine TLs ?_
   refine TLs ?_
   refine TVf ?_
   refine TVm ?_
   refine TLs ?_
   refine TVf ?_
   refine TVa ?_
   refine TL_nil (TX_next (TC.sub (m':=[(8,_)]) ⟨rfl,trivial⟩ ?_))
   refine TC.pull (is:=[]) (L':=[]) rfl ?_
   refine TC_ret ?_
   obtain rfl:=sj H
   exact TX1
 ·refine TLs ?_
  refine TLs ?_
  refine TLs ?_
  refine TLs ?_
  refine TVf ?_
  refine TVm ?_
  refine TLs ?_
  refine TLs ?_
  refine TLs ?_
  refine TVf ?_
  refine TVm ?_
  refine TLs ?_
  refine TLs ?_
  refine TLs ?_
  refine TLs ?_
  refine TVf ?_
  refine TVm ?_
  refine TLs ?_
  refine TVf ?_
  refine TVa ?_
  refine TL_nil (TX_next (TC.sub (m':=[(8,_)]) ⟨rfl,trivial⟩ ?_))
  refine TC.pull (is:=[]) (L':=[]) rfl ?_
  refine TC_ret ?_
  obtain rfl:=sj H
  exact TX1
end Go.Proofs
end

section
namespace Go.Proofs
open Go Go.Kx
theorem Tickets_true (key nonce:Str) (su:Int) (sec:Str) (mk ad:Int) (s:Str):halberdlaw20_Tickets key nonce su sec mk ad s=some true:=by
 unfold halberdlaw20_Tickets
 refine bind_i (SealT_eq _ _ _ _ _ _) (bind_i (SealTR_eq _ _ _ _ _ _) (bind_i (OpenT_eq _ _) (bind_i (OpenTR_eq _ _) (if_i rfl (bind_i (num0 _) (if_i rfl (if_i ?_ (bind_i (num0 _) (if_i rfl (bind_i awake20 rfl))))))))))
 rw [lf_all4]; simp
end Go.Proofs
end

section
namespace Go.Kx
open Go Go.WideShapes Go.ChangeShapes
section
variable {H:Type} {enc:TypeId × Value → H} {P:Program} {w:World} {base:Nat} {sp:Nat → Bool} {held:Bool} {t u s:TypeId} {f0 f1 f2 f3:Field}
theorem open_isii {r:Reach} {b0:Nat} {v:Value} {d:DataW H} {ps:List MemPlace} (ht:P.underlying t=some (.struct #[f0,f1,f2,f3]))
  (e0:f0.type=u∧f0.offset=0) (e1:f1.type=s∧f1.offset=1) (e2:f2.type=u∧f2.offset=2) (e3:f3.type=u∧f3.offset=3)
  (hu:P.underlying u=some (.int .i64)) (hs:P.underlying s=some .string) (cu:P.cellsOf u=1) (cs:P.cellsOf s=1) (ct:P.cellsOf t=4)
  (hval:Value.okWide P w r b0 t v) (hd:DataW.Trod enc P w base sp held t v d ps) :
  ∃ (a:Int) (b:ByteArray) (c e:Int),v = .agg #[.int .i64 a, .string b, .int .i64 c, .int .i64 e]∧d = .agg [.lit (.int .i64 a), .lit (.string b.data.toList), .lit (.int .i64 c), .lit (.int .i64 e)]∧ps=[] ∧
   (Lit.int .i64 a).wf=true∧b.size≤maxLen∧(Lit.int .i64 c).wf=true∧(Lit.int .i64 e).wf=true:=by
 obtain ⟨xs,rfl,hsz⟩:=okWide_struct ht hval
 obtain ⟨fuel,hf⟩:=hd
 obtain ⟨ys,m,_,hx,hlen,hl,hf⟩:=DataW.trod_struct ht hf
 have hc:(Value.agg xs).cells=xs:=rfl
 rw [hc] at hf
 obtain ⟨x0,x1,x2,x3,hxs⟩ : ∃ x0 x1 x2 x3,xs.toList=[x0,x1,x2,x3]:=by
  have h4:xs.toList.length=4:=by simpa [ct] using hsz
  match h:xs.toList,h4 with
  | [x0,x1,x2,x3],_=>exact ⟨x0,x1,x2,x3,rfl⟩
 obtain ⟨y0,y1,y2,y3,rfl⟩ : ∃ y0 y1 y2 y3,ys=[y0,y1,y2,y3]:=by
  match ys,hl with
  | [y0,y1,y2,y3],_=>exact ⟨y0,y1,y2,y3,rfl⟩
 have h0:=hf 0 f0 rfl
 have h1:=hf 1 f1 rfl
 have h2:=hf 2 f2 rfl
 have h3:=hf 3 f3 rfl
 rw [hxs] at h0 h1 h2 h3
 rw [e0.1,e0.2,cu] at h0
 rw [e1.1,e1.2,cs] at h1
 rw [e2.1,e2.2,cu] at h2
 rw [e3.1,e3.2,cu] at h3
 obtain ⟨a,ea,hy0,wa⟩:=DataW.trod_int hu (x:=y0) h0
 obtain ⟨b,eb,hy1,wb⟩:=DataW.trod_string hs (x:=y1) h1
 obtain ⟨c,ec,hy2,wc⟩:=DataW.trod_int hu (x:=y2) h2
 obtain ⟨e,ee,hy3,we⟩:=DataW.trod_int hu (x:=y3) h3
 simp at ea eb ec ee
 subst ea eb ec ee hy0 hy1 hy2 hy3
 have hxa:xs = #[.int .i64 a, .string b, .int .i64 c, .int .i64 e]:=Array.toList_inj.1 hxs
 subst hxa
 simp only [Prod.mk.injEq] at hx
 exact ⟨a,b,c,e,rfl,by simpa using hx.1,by simpa using hx.2,wa,wb,wc,we⟩
theorem shut_isii {a c e:Int} {b:ByteArray} (ht:P.underlying t=some (.struct #[f0,f1,f2,f3]))
  (e0:f0.type=u∧f0.offset=0) (e1:f1.type=s∧f1.offset=1) (e2:f2.type=u∧f2.offset=2) (e3:f3.type=u∧f3.offset=3)
  (hu:P.underlying u=some (.int .i64)) (hs:P.underlying s=some .string) (cu:P.cellsOf u=1) (cs:P.cellsOf s=1) (ct:P.cellsOf t=4)
  (wa:(Lit.int .i64 a).wf=true) (wb:b.size≤maxLen) (wc:(Lit.int .i64 c).wf=true) (we:(Lit.int .i64 e).wf=true) :
  DataW.Trod enc P w base sp held t (.agg #[.int .i64 a, .string b, .int .i64 c, .int .i64 e]) (.agg [.lit (.int .i64 a), .lit (.string b.data.toList), .lit (.int .i64 c), .lit (.int .i64 e)]) []:=by
 refine ⟨2,?_⟩
 have:=trod_struct_mk (enc:=enc) (P:=P) (w:=w) (base:=base) (spare:=sp) (held:=held) (n:=1) (t:=t) (fs := #[f0,f1,f2,f3]) (cs:=[.int .i64 a, .string b, .int .i64 c, .int .i64 e])
  (xs:=[(.lit (.int .i64 a),[]),(.lit (.string b.data.toList),[]),(.lit (.int .i64 c),[]),(.lit (.int .i64 e),[])]) ht (by rw [ct]; rfl)
  (by simp [e0.1,e0.2,e1.1,e1.2,e2.1,e2.2,e3.1,e3.2,cu,cs,DataW.trod,hu,hs,wa,wb,wc,we])
 show DataW.trod enc P w base sp held 2 t [.int .i64 a, .string b, .int .i64 c, .int .i64 e]=_
 simpa using this
end
theorem agg_isii (a:Int) (b:ByteArray) (c e:Int):Value.agg #[.int .i64 a, .string b, .int .i64 c, .int .i64 e]=aG [(1,[vi a]),(1,[vs (str b)]),(1,[vi c]),(1,[vi e])]:=by
 rw [← vs_str b]; rfl
end Go.Kx
end
