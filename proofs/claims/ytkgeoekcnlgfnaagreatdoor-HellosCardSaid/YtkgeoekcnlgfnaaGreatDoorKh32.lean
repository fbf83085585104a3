/-
  Part 32 of the proof of what several laws share.
-/
import Derived.Test.YtkgeoekcnlgfnaaGreatDoorKh24
set_option maxHeartbeats 4000000
set_option maxRecDepth 20000
set_option linter.unusedVariables false
set_option linter.unusedSimpArgs false
section
namespace Go.Kx
open Go
variable {P:Program} {t e:TypeId} {x y:Operand}
inductive Lk where | i | s | b
inductive Lf where | i (a:Int) | s (a:Str) | b (a:Bool)
def Lf.v:Lf → Value
 | .i a=>vi a
 | .s a=>vs a
 | .b a=>vb a
def Lf.kind:Lf → Lk
 | .i _ => .i
 | .s _ => .s
 | .b _ => .b
def Lf.eq:Lf → Lf → Bool
 | .i p, .i q=>decide (p=q)
 | .s p, .s q=>decide (p=q)
 | .b p, .b q=>p == q
 | _,_=>false
def Lf.all:List Lf → List Lf → Bool
 | x :: r,y :: q=>Lf.eq x y && Lf.all r q
 | _,_=>true
def zN:Option TypeDesc → Lk → Bool
 | some (.int .i64), .i=>true
 | some .string, .s=>true
 | some .bool, .b=>true
 | _,_=>false
def xK (P:Program):List Field → Nat → List Lk → Bool
 | [],_,[]=>true
 | f :: fs,k,q :: r=>f.name != "_" && (Nat.beq f.offset k && (zN (P.underlying f.type) q && xK P fs (k+1) r))
 | _,_,_=>false
theorem aaj {u:Option TypeDesc} (h:zN u .i=true):u=some (.int .i64):=by
 unfold zN at h; split at h <;> simp_all
theorem abw {u:Option TypeDesc} (h:zN u .s=true):u=some .string:=by
 unfold zN at h; split at h <;> simp_all
theorem abz {u:Option TypeDesc} (h:zN u .b=true):u=some .bool:=by
 unfold zN at h; split at h <;> simp_all
theorem sU (w:World) {cs:List Value} {off:Nat} {a:Lf} (ht:zN (P.underlying t) a.kind=true) (hv:cs[off]? = some a.v):(part t cs.toArray off).run P w = .ok a.v w:=by
 have hv':cs.toArray[off]? = some a.v:=by simpa using hv
 cases a
 ·simp [part,isAgg,Sem.run_bind,run_underlying (aaj ht),hv']
 ·simp [part,isAgg,Sem.run_bind,run_underlying (abw ht),hv']
 ·simp [part,isAgg,Sem.run_bind,run_underlying (abz ht),hv']
theorem lX (a b:Str):(bytes a == bytes b)=decide (a=b):=by
 show ((bytes a).data == (bytes b).data)=_
 rw [Bool.eq_iff_iff,beq_iff_eq,decide_eq_true_eq]
 constructor
 ·intro h
  have h1:=eqS a b
  have h2:bytes a=bytes b:=by
   cases ha:bytes a; cases hb:bytes b
   rw [ha,hb] at h
   simp only at h
   rw [h]
  rw [h2] at h1
  simpa using h1.symm
 ·rintro rfl; rfl
theorem aa_ (w:World) (d:Nat) (a b:Lf) (ht:zN (P.underlying t) a.kind=true) (hk:b.kind=a.kind):(Op.equalIn (d+1) t a.v b.v).run P w = .ok (Lf.eq a b) w:=by
 cases a
 ·cases b with
  | i b=>simp [Lf.v,Lf.eq,vi,Op.equalIn,Sem.run_bind,run_underlying (aaj ht)]; rfl
  | s b=>exact absurd hk (by simp [Lf.kind])
  | b b=>exact absurd hk (by simp [Lf.kind])
 ·cases b with
  | s b=>simp [Lf.v,Lf.eq,vs,Op.equalIn,Sem.run_bind,run_underlying (abw ht),lX]
  | i b=>exact absurd hk (by simp [Lf.kind])
  | b b=>exact absurd hk (by simp [Lf.kind])
 ·cases b with
  | b b=>simp [Lf.v,Lf.eq,vb,Op.equalIn,Sem.run_bind,run_underlying (abz ht)]
  | s b=>exact absurd hk (by simp [Lf.kind])
  | i b=>exact absurd hk (by simp [Lf.kind])
theorem u_ (w:World) (d:Nat) (cs ds:List Value) :
  ∀ (fs:List Field) (k:Nat) (xs ys:List Lf),xK P fs k (xs.map Lf.kind)=true → ys.map Lf.kind=xs.map Lf.kind → (∀ i v,xs[i]? = some v → cs[k+i]? = some v.v) → (∀ i v,ys[i]? = some v → ds[k+i]? = some v.v) →
  (forIn (m:=Sem) fs (none,PUnit.unit) (fun f (_:Option Bool × PUnit)=>do
   if f.name ≠ "_" then
    if !(← Op.equalIn (d+1) f.type (← part f.type cs.toArray f.offset) (← part f.type ds.toArray f.offset)) then pure (ForInStep.done (some false,PUnit.unit))
    else pure (ForInStep.yield (none,PUnit.unit))
   else pure (ForInStep.yield (none,PUnit.unit)))).run P w = .ok (if Lf.all xs ys then none else some false,PUnit.unit) w
 | [],_,xs,ys,hf,hk,_,_=>by
  cases xs with
  | nil=>simp [Sem.run,Lf.all]
  | cons x r=>simp [xK] at hf
 | f :: fs,k,xs,ys,hf,hk,hx,hy=>by
  cases xs with
  | nil=>simp [xK] at hf
  | cons a r =>
   cases ys with
   | nil=>simp at hk
   | cons b q =>
    simp only [List.map_cons,xK,Bool.and_eq_true,bne_iff_ne] at hf
    obtain ⟨hn,ho,hl,hr⟩:=hf
    simp only [List.map_cons,List.cons.injEq] at hk
    have ho:=Nat.eq_of_beq_eq_true ho
    have h1:=sU (P:=P) w hl (off:=f.offset) (cs:=cs) (by rw [ho]; exact hx 0 a rfl)
    have h2:=sU (P:=P) w (by rw [hk.1]; exact hl) (off:=f.offset) (cs:=ds) (a:=b) (t:=f.type) (by rw [ho]; exact hy 0 b rfl)
    have h3:=aa_ (P:=P) w d a b hl hk.1
    have ih:=u_ w d cs ds fs (k+1) r q hr hk.2 (fun i v h=>by rw [Nat.add_assoc,Nat.add_comm 1 i]; exact hx (i+1) v h) (fun i v h=>by rw [Nat.add_assoc,Nat.add_comm 1 i]; exact hy (i+1) v h)
    rw [List.forIn_cons]
    simp only [hn,ne_eq,not_false_eq_true,if_true,Sem.run_bind,h1,h2,h3,Result.andThen_ok]
    cases hb:Lf.eq a b
    ·have e0:Lf.all (a :: r) (b :: q)=false:=by simp [Lf.all,hb]
     rw [e0]; rfl
    ·have e0:Lf.all (a :: r) (b :: q)=Lf.all r q:=by simp [Lf.all,hb]
     rw [e0]; exact ih
theorem dZ (w:World) (d:Nat) {fs:List Field} (ht:P.underlying t=some (.struct fs.toArray)) (hs:P.stoodInHeld t=false) (xs ys:List Lf) (hf:xK P fs 0 (xs.map Lf.kind)=true) (hk:ys.map Lf.kind=xs.map Lf.kind) :
  (Op.equalIn (d+2) t (.agg (xs.map Lf.v).toArray) (.agg (ys.map Lf.v).toArray)).run P w = .ok (Lf.all xs ys) w:=by
 have hl:=u_ (P:=P) w d (xs.map Lf.v) (ys.map Lf.v) fs 0 xs ys hf hk (fun i v h=>by simp [h]) (fun i v h=>by simp [h])
 unfold Op.equalIn
 simp only [Sem.run_bind,run_underlying ht,Result.andThen_ok,run_program,hs,Bool.false_eq_true,if_false,List.forIn_toArray]
 refine (congrArg (fun r=>Result.andThen r _) hl).trans ?_
 simp only [Result.andThen_ok]
 cases Lf.all xs ys <;> simp [Sem.run]
theorem aao (w:World) {fs:List Field} (ht:P.underlying t=some (.struct fs.toArray)) (hs:P.stoodInHeld t=false) (hg:P.eqGuardType P.depth t=false) (xs ys:List Lf) (hf:xK P fs 0 (xs.map Lf.kind)=true) (hk:ys.map Lf.kind=xs.map Lf.kind)
  {vx vy:Value} (hx:vx = .agg (xs.map Lf.v).toArray) (hy:vy = .agg (ys.map Lf.v).toArray):(TU .eql t x y vx vy).run P w = .ok (vb (Lf.all xs ys)) w:=hx ▸ hy ▸ XI w (F7 w hg) (by
 have h:=dZ w 9998 ht hs xs ys hf hk
 show ((Op.equalIn (9998+2) t _ _) >>= fun r=>pure (Value.bool r)).run P w=_
 rw [Sem.run_bind,h]; simp [vb])
theorem FB (w:World) {fs:List Field} (ht:P.underlying t=some (.struct fs.toArray)) (hs:P.stoodInHeld t=false) (hg:P.eqGuardType P.depth t=false) (xs ys:List Lf) (hf:xK P fs 0 (xs.map Lf.kind)=true) (hk:ys.map Lf.kind=xs.map Lf.kind)
  {vx vy:Value} (hx:vx = .agg (xs.map Lf.v).toArray) (hy:vy = .agg (ys.map Lf.v).toArray):(TU .neq t x y vx vy).run P w = .ok (vb (!(Lf.all xs ys))) w:=hx ▸ hy ▸ XI w (F7 w hg) (by
 have h:=dZ w 9998 ht hs xs ys hf hk
 show ((Op.equalIn (9998+2) t _ _) >>= fun r=>pure (Value.bool (!r))).run P w=_
 rw [Sem.run_bind,h]; simp [vb])
end Go.Kx
end

section
namespace Go.Proofs
open Go Go.Kx
open TryzI Tryz
def Ug (Pj:Bool) (Xp Xo:List (Int)) (QK:List (Str)) (GQ:Str) (QG:List (Str)) (Sm:Str) (PK:Int) (Ki:Str) (RS:List (Str × Str × Int × Int × Int × Int)) (J8:Str) (MQ G_:Int) (MP Kh:Int):Option (Bool × Str × Str × Int × Str × Str × Int × Int × Int × Int × List (Int) × List (Int) × List (Str) × List (Str) × (List (Str × Str × Int × Int × Int × Int))) :=
 if 0=(([]:List (Int))).length then (if (([]:List (Int))).length+(Xp).length≤17592186044416 then (X5 (([]:List (Int))++Xp) fun l1=>(if 0=(([]:List (Int))).length then (if (([]:List (Int))).length+(Xo).length≤17592186044416 then (X5 (([]:List (Int))++Xo) fun l2=>(if 0=(([]:List (Str))).length then (if (([]:List (Str))).length+(QK).length≤8796093022208 then (X5 (([]:List (Str))++QK) fun l3=>(if 0=(([]:List (Str))).length then (if (([]:List (Str))).length+(QG).length≤8796093022208 then (X5 (([]:List (Str))++QG) fun l4=>(if 0=(([]:List (Str × Str × Int × Int × Int × Int))).length then (if (([]:List (Str × Str × Int × Int × Int × Int))).length+(RS).length≤2199023255552 then (X5 (([]:List (Str × Str × Int × Int × Int × Int))++RS) fun l5=>(some (Pj,GQ,Sm,PK,Ki,J8,MQ,G_,MP,Kh,l1,l2,l3,l4,l5))) else none) else none)) else none) else none)) else none) else none)) else none) else none)) else none) else none
theorem KT {Aa_Suites:Y6} {ca_Suites:Nat} {Aa_Groups:Y6} {ca_Groups:Nat} {Aa_Chain:Y6} {ca_Chain:Nat} {Aa_Roots:Y6} {ca_Roots:Nat} {Aa_Psk:Y6} {ca_Psk:Nat} {Pj:Bool} {Xp:List (Int)} {Xo:List (Int)} {QK:List (Str)} {GQ:Str} {QG:List (Str)} {Sm:Str} {PK:Int} {Ki:Str} {RS:List (Str × Str × Int × Int × Int × Int)} {J8:Str} {MQ:Int} {G_:Int} {MP:Int} {Kh:Int} (Ms:(Xp).length≤ca_Suites) (Mq:(Xo).length≤ca_Groups) (Ci:(QK).length≤ca_Chain) (BJ:(QG).length≤ca_Roots) (tq:(RS).length≤ca_Psk) {r:Bool × Str × Str × Int × Str × Str × Int × Int × Int × Int × List (Int) × List (Int) × List (Str) × List (Str) × (List (Str × Str × Int × Int × Int × Int))} (H:Ug Pj Xp Xo QK GQ QG Sm PK Ki RS J8 MQ G_ MP Kh=some r) :
  Does Tryz.prog 10 [aG [(1,[vb Pj]),(1,[sl Aa_Suites ((Xp).length) ca_Suites]),(1,[sl Aa_Groups ((Xo).length) ca_Groups]),(1,[sl Aa_Chain ((QK).length) ca_Chain]),(1,[vs GQ]),(1,[sl Aa_Roots ((QG).length) ca_Roots]),(1,[vs Sm]),(1,[vi PK]),(1,[vs Ki]),(1,[sl Aa_Psk ((RS).length) ca_Psk]),(1,[vs J8]),(1,[vi MQ]),(1,[vi G_]),(1,[vi MP]),(1,[vi Kh])]] [] [⟨Aa_Suites,eI Xp⟩,⟨Aa_Groups,eI Xo⟩,⟨Aa_Chain,eS QK⟩,⟨Aa_Roots,eS QG⟩,⟨Aa_Psk,eF (fun p:Str × Str × Int × Int × Int × Int=>[vs p.1,vs p.2.1,vi p.2.2.1,vi p.2.2.2.1,vi p.2.2.2.2.1,vi p.2.2.2.2.2]) RS⟩] (Γ:=Y6 × Y6 × Y6 × Y6 × Y6 × List (Int) × List (Int) × List (Str) × List (Str) × (List (Str × Str × Int × Int × Int × Int))) (fun g=>aG [(1,[vb r.1]),(1,[sl g.1 ((r.2.2.2.2.2.2.2.2.2.2.1).length) ((r.2.2.2.2.2.2.2.2.2.2.1++g.2.2.2.2.2.1).length)]),(1,[sl g.2.1 ((r.2.2.2.2.2.2.2.2.2.2.2.1).length) ((r.2.2.2.2.2.2.2.2.2.2.2.1++g.2.2.2.2.2.2.1).length)]),(1,[sl g.2.2.1 ((r.2.2.2.2.2.2.2.2.2.2.2.2.1).length) ((r.2.2.2.2.2.2.2.2.2.2.2.2.1++g.2.2.2.2.2.2.2.1).length)]),(1,[vs r.2.1]),(1,[sl g.2.2.2.1 ((r.2.2.2.2.2.2.2.2.2.2.2.2.2.1).length) ((r.2.2.2.2.2.2.2.2.2.2.2.2.2.1++g.2.2.2.2.2.2.2.2.1).length)]),(1,[vs r.2.2.1]),(1,[vi r.2.2.2.1]),(1,[vs r.2.2.2.2.1]),(1,[sl g.2.2.2.2.1 ((r.2.2.2.2.2.2.2.2.2.2.2.2.2.2).length) ((r.2.2.2.2.2.2.2.2.2.2.2.2.2.2++g.2.2.2.2.2.2.2.2.2).length)]),(1,[vs r.2.2.2.2.2.1]),(1,[vi r.2.2.2.2.2.2.1]),(1,[vi r.2.2.2.2.2.2.2.1]),(1,[vi r.2.2.2.2.2.2.2.2.1]),(1,[vi r.2.2.2.2.2.2.2.2.2.1])]) (fun g=>[⟨g.1,eI (r.2.2.2.2.2.2.2.2.2.2.1++g.2.2.2.2.2.1)⟩,⟨g.2.1,eI (r.2.2.2.2.2.2.2.2.2.2.2.1++g.2.2.2.2.2.2.1)⟩,⟨g.2.2.1,eS (r.2.2.2.2.2.2.2.2.2.2.2.2.1++g.2.2.2.2.2.2.2.1)⟩,⟨g.2.2.2.1,eS (r.2.2.2.2.2.2.2.2.2.2.2.2.2.1++g.2.2.2.2.2.2.2.2.1)⟩,⟨g.2.2.2.2.1,eF (fun p:Str × Str × Int × Int × Int × Int=>[vs p.1,vs p.2.1,vi p.2.2.1,vi p.2.2.2.1,vi p.2.2.2.2.1,vi p.2.2.2.2.2]) (r.2.2.2.2.2.2.2.2.2.2.2.2.2.2++g.2.2.2.2.2.2.2.2.2)⟩]):=by
 intro w hmem hro hd
 refine Zn func10 rfl ntmps10 rfl hmem hro hd ?_
 unfold Ug at H
 refine Z_ (YE PT (fun b1=>?_))
 refine YE (SL We LM) (fun b2=>?_)
 refine Mo [zP,zS,zS,zI,zI] rfl ?_
 refine Qb rfl ?_
 refine Z_ (YE (WB (cs:=eI nI) underlying22 YM rfl) (fun b3=>?_))
 refine ZV (ZQ 1 underlying26 XO) ?_
 refine ZV (Z8 rfl (.o 22) rfl isAgg22) ?_
 have ⟨h1,H⟩:=Z4 H
 refine Ta 0 (congrArg (eI) (List.append_nil _).symm) ?_
 refine WN (v':=sl (some (b3,0)) ((nI).length) ((nI++nI).length)) 3 (Us h1) ?_
 have ⟨h2,H⟩:=Z4 H
 have ⟨l1,AO,H⟩:=ZX H
 refine YE (SH (f:=vi) (j:=0) (l:=([]:List (Int))) (sp:=([]:List (Int))) (ds:=Xp) (0:Int) (.r 0) rfl rfl rfl (fun _=>rfl) underlying22 underlying22 YM rfl LG (B':=8) rfl (by have:=h2; omega) (by have:=h2; omega) AO) (fun q1=>?_)
 refine ZV (ZQ 1 underlying26 XO) ?_
 refine VM (YR (j:=22) rfl rfl XO rfl rfl rfl (Nat.lt_succ_self 0) (cs':=[sl q1.1 ((l1).length) ((l1++q1.2).length)]) rfl) (fun _=>?_)
 refine Qb rfl ?_
 refine Z_ (YE (WB (cs:=eI nI) underlying22 YM rfl) (fun b4=>?_))
 refine ZV (ZQ 2 underlying26 XO) ?_
 refine ZV (Z8 rfl (.o 24) rfl isAgg22) ?_
 have ⟨h3,H⟩:=Z4 H
 refine Ta 0 (congrArg (eI) (List.append_nil _).symm) ?_
 refine WN (v':=sl (some (b4,0)) ((nI).length) ((nI++nI).length)) 8 (Us h3) ?_
 have ⟨h4,H⟩:=Z4 H
 have ⟨l2,Cw,H⟩:=ZX H
 refine YE (SH (f:=vi) (j:=0) (l:=([]:List (Int))) (sp:=([]:List (Int))) (ds:=Xo) (0:Int) (.r 1) rfl rfl rfl (fun _=>rfl) underlying22 underlying22 YM rfl LG (B':=8) rfl (by have:=h4; omega) (by have:=h4; omega) Cw) (fun q2=>?_)
 refine ZV (ZQ 2 underlying26 XO) ?_
 refine VM (YR (j:=24) rfl rfl XO rfl rfl rfl (Nat.lt_succ_self 0) (cs':=[sl q2.1 ((l2).length) ((l2++q2.2).length)]) rfl) (fun _=>?_)
 refine Qb rfl ?_
 refine Z_ (YE (WB (cs:=eS nS) underlying23 Xe rfl) (fun b5=>?_))
 refine ZV (ZQ 3 underlying26 Xn) ?_
 refine ZV (Z8 rfl (.o 26) rfl isAgg23) ?_
 have ⟨h5,H⟩:=Z4 H
 refine Ta 0 (congrArg (eS) (List.append_nil _).symm) ?_
 refine WN (v':=sl (some (b5,0)) ((nS).length) ((nS++nS).length)) 13 (Us h5) ?_
 have ⟨h6,H⟩:=Z4 H
 have ⟨l3,hl3,H⟩:=ZX H
 refine YE (SH (f:=vs) (j:=0) (l:=([]:List (Str))) (sp:=([]:List (Str))) (ds:=QK) ([]:Str) (.r 2) rfl rfl rfl (fun _=>rfl) underlying23 underlying23 Xe rfl oI (B':=16) rfl (by have:=h6; omega) (by have:=h6; omega) hl3) (fun q3=>?_)
 refine ZV (ZQ 3 underlying26 Xn) ?_
 refine VM (YR (j:=26) rfl rfl Xn rfl rfl rfl (Nat.lt_succ_self 0) (cs':=[sl q3.1 ((l3).length) ((l3++q3.2).length)]) rfl) (fun _=>?_)
 refine Qb rfl ?_
 refine Z_ (YE (WB (cs:=eS nS) underlying23 Xe rfl) (fun b6=>?_))
 refine ZV (ZQ 5 underlying26 Xn) ?_
 refine ZV (Z8 rfl (.o 29) rfl isAgg23) ?_
 have ⟨h7,H⟩:=Z4 H
 refine Ta 0 (congrArg (eS) (List.append_nil _).symm) ?_
 refine WN (v':=sl (some (b6,0)) ((nS).length) ((nS++nS).length)) 18 (Us h7) ?_
 have ⟨h8,H⟩:=Z4 H
 have ⟨l4,hl4,H⟩:=ZX H
 refine YE (SH (f:=vs) (j:=0) (l:=([]:List (Str))) (sp:=([]:List (Str))) (ds:=QG) ([]:Str) (.r 3) rfl rfl rfl (fun _=>rfl) underlying23 underlying23 Xe rfl oI (B':=16) rfl (by have:=h8; omega) (by have:=h8; omega) hl4) (fun q4=>?_)
 refine ZV (ZQ 5 underlying26 Xn) ?_
 refine VM (YR (j:=29) rfl rfl Xn rfl rfl rfl (Nat.lt_succ_self 0) (cs':=[sl q4.1 ((l4).length) ((l4++q4.2).length)]) rfl) (fun _=>?_)
 refine Qb rfl ?_
 refine Z_ (YE (WB (cs:=eF (fun p:Str × Str × Int × Int × Int × Int=>[vs p.1,vs p.2.1,vi p.2.2.1,vi p.2.2.2.1,vi p.2.2.2.2.1,vi p.2.2.2.2.2]) nP) underlying24 Ut rfl) (fun b7=>?_))
 refine ZV (ZQ 9 underlying26 R6) ?_
 refine ZV (Z8 rfl (.o 34) rfl isAgg24) ?_
 have ⟨h9,H⟩:=Z4 H
 refine Ta 0 (congrArg (eF (fun p:Str × Str × Int × Int × Int × Int=>[vs p.1,vs p.2.1,vi p.2.2.1,vi p.2.2.2.1,vi p.2.2.2.2.1,vi p.2.2.2.2.2])) (List.append_nil _).symm) ?_
 refine WN (v':=sl (some (b7,0)) ((nP).length) ((nP++nP).length)) 23 (Us h9) ?_
 have ⟨JN,H⟩:=Z4 H
 have ⟨l5,hl5,H⟩:=ZX H
 refine YE (I8 (g:=fun p:Str × Str × Int × Int × Int × Int=>[vs p.1,vs p.2.1,vi p.2.2.1,vi p.2.2.2.1,vi p.2.2.2.2.1,vi p.2.2.2.2.2]) (s:=6) (j:=0) (l:=([]:List (Str × Str × Int × Int × Int × Int))) (sp:=([]:List (Str × Str × Int × Int × Int × Int))) (ds:=RS) (([]:Str),([]:Str),(0:Int),(0:Int),(0:Int),(0:Int)) rfl rfl rfl (fun _=>rfl) rfl (fun _=>(S_.cons rfl (S_.cons rfl (S_.cons rfl (S_.cons rfl (S_.cons rfl (S_.cons rfl S_.nil))))))) (.r 4) underlying24 underlying24 Ut rfl (Fx.trans rfl) (bytes:=64) rfl (by have:=JN; omega) (by have:=JN; omega) hl5) (fun q5=>?_)
 refine ZV (ZQ 9 underlying26 R6) ?_
 refine VM (YR (j:=34) rfl rfl R6 rfl rfl rfl (Nat.lt_succ_self 0) (cs':=[sl q5.1 ((l5).length) ((l5++q5.2).length)]) rfl) (fun _=>?_)
 refine Z6 (N7 [1,2] rfl rfl ?_)
 refine Z_ (ZV (VY [25,26,27,28,29,30,31,32,33,34,35,36,37,38,39] rfl rfl isAgg26 We) ?_)
 refine VM (VZ (rp 15 10) rfl rfl We) (fun _=>?_)
 refine Zq ?_
 obtain rfl:=sj H
 exact JK (q1.1,q2.1,q3.1,q4.1,q5.1,q1.2,q2.2,q3.2,q4.2,q5.2) [19,18,17,16,15] (vs:=[_]) rfl ⟨(Wp [0,1,2,3,4,5,6,7,8,9,10,11,12,13,14] rfl rfl isAgg26 We),trivial⟩ rfl
def SY (NR:Int) (Q5 Sy:Str) (Xp:List (Int)) (Sm:Str) (V7 Xo:List (Int)) (VB Un:List (Int)) (Vb:List (Int × Str)) (Xj:List (Str × Int)) (VD:List (Str)) (RS:Int) (U_:List (Int)) (Uk:List (Str)) (Q0:Int) (NS:Str) (Nw KP:Int) (PL:Str) (QV:Int):Option (Int × Str × Str × Str × Int × Int × Str × Int × Int × Str × Int × List (Int) × List (Int) × List (Int) × List (Int) × List (Int) × (List (Int × Str)) × (List (Str × Int)) × List (Str) × List (Int) × List (Str)) :=
 if 0=(([]:List (Int))).length then (if (([]:List (Int))).length+(Xp).length≤17592186044416 then (X5 (([]:List (Int))++Xp) fun l1=>(if 0=(([]:List (Int))).length then (if (([]:List (Int))).length+(V7).length≤17592186044416 then (X5 (([]:List (Int))++V7) fun l2=>(if 0=(([]:List (Int))).length then (if (([]:List (Int))).length+(Xo).length≤17592186044416 then (X5 (([]:List (Int))++Xo) fun l3=>(if 0=(([]:List (Int))).length then (if (([]:List (Int))).length+(VB).length≤17592186044416 then (X5 (([]:List (Int))++VB) fun l4=>(if 0=(([]:List (Int))).length then (if (([]:List (Int))).length+(Un).length≤17592186044416 then (X5 (([]:List (Int))++Un) fun l5=>(if 0=(([]:List (Int × Str))).length then (if (([]:List (Int × Str))).length+(Vb).length≤5864062014805 then (X5 (([]:List (Int × Str))++Vb) fun l6=>(if 0=(([]:List (Str × Int))).length then (if (([]:List (Str × Int))).length+(Xj).length≤5864062014805 then (X5 (([]:List (Str × Int))++Xj) fun l7=>(if 0=(([]:List (Str))).length then (if (([]:List (Str))).length+(VD).length≤8796093022208 then (X5 (([]:List (Str))++VD) fun l8=>(if 0=(([]:List (Int))).length then (if (([]:List (Int))).length+(U_).length≤17592186044416 then (X5 (([]:List (Int))++U_) fun l9=>(if 0=(([]:List (Str))).length then (if (([]:List (Str))).length+(Uk).length≤8796093022208 then (X5 (([]:List (Str))++Uk) fun pG=>(some (NR,Q5,Sy,Sm,RS,Q0,NS,Nw,KP,PL,QV,l1,l2,l3,l4,l5,l6,l7,l8,l9,pG))) else none) else none)) else none) else none)) else none) else none)) else none) else none)) else none) else none)) else none) else none)) else none) else none)) else none) else none)) else none) else none)) else none) else none
theorem Q8 {Aa_Suites:Y6} {ca_Suites:Nat} {Aa_Versions:Y6} {ca_Versions:Nat} {Aa_Groups:Y6} {ca_Groups:Nat} {Aa_Schemes:Y6} {ca_Schemes:Nat} {Aa_Modes:Y6} {ca_Modes:Nat} {Aa_Shares:Y6} {ca_Shares:Nat} {Aa_Identities:Y6} {ca_Identities:Nat} {Aa_Binders:Y6} {ca_Binders:Nat} {Aa_Others:Y6} {ca_Others:Nat} {Aa_Certs:Y6} {ca_Certs:Nat} {NR:Int} {Q5:Str} {Sy:Str} {Xp:List (Int)} {Sm:Str} {V7:List (Int)} {Xo:List (Int)} {VB:List (Int)} {Un:List (Int)} {Vb:List (Int × Str)} {Xj:List (Str × Int)} {VD:List (Str)} {RS:Int} {U_:List (Int)} {Uk:List (Str)} {Q0:Int} {NS:Str} {Nw:Int} {KP:Int} {PL:Str} {QV:Int} (Ms:(Xp).length≤ca_Suites) (GJ:(V7).length≤ca_Versions) (Mq:(Xo).length≤ca_Groups) (FH:(VB).length≤ca_Schemes) (CE:(Un).length≤ca_Modes) (Ev:(Vb).length≤ca_Shares) (Jk:(Xj).length≤ca_Identities) (FJ:(VD).length≤ca_Binders) (Dt:(U_).length≤ca_Others) (Bl:(Uk).length≤ca_Certs) {r:Int × Str × Str × Str × Int × Int × Str × Int × Int × Str × Int × List (Int) × List (Int) × List (Int) × List (Int) × List (Int) × (List (Int × Str)) × (List (Str × Int)) × List (Str) × List (Int) × List (Str)} (H:SY NR Q5 Sy Xp Sm V7 Xo VB Un Vb Xj VD RS U_ Uk Q0 NS Nw KP PL QV=some r) :
  Does Tryz.prog 11 [aG [(1,[vi NR]),(1,[vs Q5]),(1,[vs Sy]),(1,[sl Aa_Suites ((Xp).length) ca_Suites]),(1,[vs Sm]),(1,[sl Aa_Versions ((V7).length) ca_Versions]),(1,[sl Aa_Groups ((Xo).length) ca_Groups]),(1,[sl Aa_Schemes ((VB).length) ca_Schemes]),(1,[sl Aa_Modes ((Un).length) ca_Modes]),(1,[sl Aa_Shares ((Vb).length) ca_Shares]),(1,[sl Aa_Identities ((Xj).length) ca_Identities]),(1,[sl Aa_Binders ((VD).length) ca_Binders]),(1,[vi RS]),(1,[sl Aa_Others ((U_).length) ca_Others]),(1,[sl Aa_Certs ((Uk).length) ca_Certs]),(1,[vi Q0]),(1,[vs NS]),(1,[vi Nw]),(1,[vi KP]),(1,[vs PL]),(1,[vi QV])]] [] [⟨Aa_Suites,eI Xp⟩,⟨Aa_Versions,eI V7⟩,⟨Aa_Groups,eI Xo⟩,⟨Aa_Schemes,eI VB⟩,⟨Aa_Modes,eI Un⟩,⟨Aa_Shares,eF (fun p:Int × Str=>[vi p.1,vs p.2]) Vb⟩,⟨Aa_Identities,eF (fun p:Str × Int=>[vs p.1,vi p.2]) Xj⟩,⟨Aa_Binders,eS VD⟩,⟨Aa_Others,eI U_⟩,⟨Aa_Certs,eS Uk⟩] (Γ:=Y6 × Y6 × Y6 × Y6 × Y6 × Y6 × Y6 × Y6 × Y6 × Y6 × List (Int) × List (Int) × List (Int) × List (Int) × List (Int) × (List (Int × Str)) × (List (Str × Int)) × List (Str) × List (Int) × List (Str)) (fun g=>aG [(1,[vi r.1]),(1,[vs r.2.1]),(1,[vs r.2.2.1]),(1,[sl g.1 ((r.2.2.2.2.2.2.2.2.2.2.2.1).length) ((r.2.2.2.2.2.2.2.2.2.2.2.1++g.2.2.2.2.2.2.2.2.2.2.1).length)]),(1,[vs r.2.2.2.1]),(1,[sl g.2.1 ((r.2.2.2.2.2.2.2.2.2.2.2.2.1).length) ((r.2.2.2.2.2.2.2.2.2.2.2.2.1++g.2.2.2.2.2.2.2.2.2.2.2.1).length)]),(1,[sl g.2.2.1 ((r.2.2.2.2.2.2.2.2.2.2.2.2.2.1).length) ((r.2.2.2.2.2.2.2.2.2.2.2.2.2.1++g.2.2.2.2.2.2.2.2.2.2.2.2.1).length)]),(1,[sl g.2.2.2.1 ((r.2.2.2.2.2.2.2.2.2.2.2.2.2.2.1).length) ((r.2.2.2.2.2.2.2.2.2.2.2.2.2.2.1++g.2.2.2.2.2.2.2.2.2.2.2.2.2.1).length)]),(1,[sl g.2.2.2.2.1 ((r.2.2.2.2.2.2.2.2.2.2.2.2.2.2.2.1).length) ((r.2.2.2.2.2.2.2.2.2.2.2.2.2.2.2.1++g.2.2.2.2.2.2.2.2.2.2.2.2.2.2.1).length)]),(1,[sl g.2.2.2.2.2.1 ((r.2.2.2.2.2.2.2.2.2.2.2.2.2.2.2.2.1).length) ((r.2.2.2.2.2.2.2.2.2.2.2.2.2.2.2.2.1++g.2.2.2.2.2.2.2.2.2.2.2.2.2.2.2.1).length)]),(1,[sl g.2.2.2.2.2.2.1 ((r.2.2.2.2.2.2.2.2.2.2.2.2.2.2.2.2.2.1).length) ((r.2.2.2.2.2.2.2.2.2.2.2.2.2.2.2.2.2.1++g.2.2.2.2.2.2.2.2.2.2.2.2.2.2.2.2.1).length)]),(1,[sl g.2.2.2.2.2.2.2.1 ((r.2.2.2.2.2.2.2.2.2.2.2.2.2.2.2.2.2.2.1).length) ((r.2.2.2.2.2.2.2.2.2.2.2.2.2.2.2.2.2.2.1++g.2.2.2.2.2.2.2.2.2.2.2.2.2.2.2.2.2.1).length)]),(1,[vi r.2.2.2.2.1]),(1,[sl g.2.2.2.2.2.2.2.2.1 ((r.2.2.2.2.2.2.2.2.2.2.2.2.2.2.2.2.2.2.2.1).length) ((r.2.2.2.2.2.2.2.2.2.2.2.2.2.2.2.2.2.2.2.1++g.2.2.2.2.2.2.2.2.2.2.2.2.2.2.2.2.2.2.1).length)]),(1,[sl g.2.2.2.2.2.2.2.2.2.1 ((r.2.2.2.2.2.2.2.2.2.2.2.2.2.2.2.2.2.2.2.2).length) ((r.2.2.2.2.2.2.2.2.2.2.2.2.2.2.2.2.2.2.2.2++g.2.2.2.2.2.2.2.2.2.2.2.2.2.2.2.2.2.2.2).length)]),(1,[vi r.2.2.2.2.2.1]),(1,[vs r.2.2.2.2.2.2.1]),(1,[vi r.2.2.2.2.2.2.2.1]),(1,[vi r.2.2.2.2.2.2.2.2.1]),(1,[vs r.2.2.2.2.2.2.2.2.2.1]),(1,[vi r.2.2.2.2.2.2.2.2.2.2.1])]) (fun g=>[⟨g.1,eI (r.2.2.2.2.2.2.2.2.2.2.2.1++g.2.2.2.2.2.2.2.2.2.2.1)⟩,⟨g.2.1,eI (r.2.2.2.2.2.2.2.2.2.2.2.2.1++g.2.2.2.2.2.2.2.2.2.2.2.1)⟩,⟨g.2.2.1,eI (r.2.2.2.2.2.2.2.2.2.2.2.2.2.1++g.2.2.2.2.2.2.2.2.2.2.2.2.1)⟩,⟨g.2.2.2.1,eI (r.2.2.2.2.2.2.2.2.2.2.2.2.2.2.1++g.2.2.2.2.2.2.2.2.2.2.2.2.2.1)⟩,⟨g.2.2.2.2.1,eI (r.2.2.2.2.2.2.2.2.2.2.2.2.2.2.2.1++g.2.2.2.2.2.2.2.2.2.2.2.2.2.2.1)⟩,⟨g.2.2.2.2.2.1,eF (fun p:Int × Str=>[vi p.1,vs p.2]) (r.2.2.2.2.2.2.2.2.2.2.2.2.2.2.2.2.1++g.2.2.2.2.2.2.2.2.2.2.2.2.2.2.2.1)⟩,⟨g.2.2.2.2.2.2.1,eF (fun p:Str × Int=>[vs p.1,vi p.2]) (r.2.2.2.2.2.2.2.2.2.2.2.2.2.2.2.2.2.1++g.2.2.2.2.2.2.2.2.2.2.2.2.2.2.2.2.1)⟩,⟨g.2.2.2.2.2.2.2.1,eS (r.2.2.2.2.2.2.2.2.2.2.2.2.2.2.2.2.2.2.1++g.2.2.2.2.2.2.2.2.2.2.2.2.2.2.2.2.2.1)⟩,⟨g.2.2.2.2.2.2.2.2.1,eI (r.2.2.2.2.2.2.2.2.2.2.2.2.2.2.2.2.2.2.2.1++g.2.2.2.2.2.2.2.2.2.2.2.2.2.2.2.2.2.2.1)⟩,⟨g.2.2.2.2.2.2.2.2.2.1,eS (r.2.2.2.2.2.2.2.2.2.2.2.2.2.2.2.2.2.2.2.2++g.2.2.2.2.2.2.2.2.2.2.2.2.2.2.2.2.2.2.2)⟩]):=by
 intro w hmem hro hd
 refine Zn func11 rfl ntmps11 rfl hmem hro hd ?_
 unfold SY at H
 refine Z_ (YE PT (fun b1=>?_))
 refine YE (SL Xg Pw) (fun b2=>?_)
 refine Mo [zS,zI,zS,zA,zB,zI,zI,zI,zI,zI] rfl ?_
 refine Qb rfl ?_
 refine Z_ (YE (WB (cs:=eI nI) underlying22 YM rfl) (fun b3=>?_))
 refine ZV (ZQ 3 underlying30 XO) ?_
 refine ZV (Z8 rfl (.o 35) rfl isAgg22) ?_
 have ⟨h1,H⟩:=Z4 H
 refine Ta 0 (congrArg (eI) (List.append_nil _).symm) ?_
 refine WN (v':=sl (some (b3,0)) ((nI).length) ((nI++nI).length)) 3 (Us h1) ?_
 have ⟨h2,H⟩:=Z4 H
 have ⟨l1,AO,H⟩:=ZX H
 refine YE (SH (f:=vi) (j:=0) (l:=([]:List (Int))) (sp:=([]:List (Int))) (ds:=Xp) (0:Int) (.r 0) rfl rfl rfl (fun _=>rfl) underlying22 underlying22 YM rfl LG (B':=8) rfl (by have:=h2; omega) (by have:=h2; omega) AO) (fun q1=>?_)
 refine ZV (ZQ 3 underlying30 XO) ?_
 refine VM (YR (j:=35) rfl rfl XO rfl rfl rfl (Nat.lt_succ_self 0) (cs':=[sl q1.1 ((l1).length) ((l1++q1.2).length)]) rfl) (fun _=>?_)
 refine Qb rfl ?_
 refine Z_ (YE (WB (cs:=eI nI) underlying22 YM rfl) (fun b4=>?_))
 refine ZV (ZQ 5 underlying30 XO) ?_
 refine ZV (Z8 rfl (.o 38) rfl isAgg22) ?_
 have ⟨h3,H⟩:=Z4 H
 refine Ta 0 (congrArg (eI) (List.append_nil _).symm) ?_
 refine WN (v':=sl (some (b4,0)) ((nI).length) ((nI++nI).length)) 8 (Us h3) ?_
 have ⟨h4,H⟩:=Z4 H
 have ⟨l2,Cw,H⟩:=ZX H
 refine YE (SH (f:=vi) (j:=0) (l:=([]:List (Int))) (sp:=([]:List (Int))) (ds:=V7) (0:Int) (.r 1) rfl rfl rfl (fun _=>rfl) underlying22 underlying22 YM rfl LG (B':=8) rfl (by have:=h4; omega) (by have:=h4; omega) Cw) (fun q2=>?_)
 refine ZV (ZQ 5 underlying30 XO) ?_
 refine VM (YR (j:=38) rfl rfl XO rfl rfl rfl (Nat.lt_succ_self 0) (cs':=[sl q2.1 ((l2).length) ((l2++q2.2).length)]) rfl) (fun _=>?_)
 refine Qb rfl ?_
 refine Z_ (YE (WB (cs:=eI nI) underlying22 YM rfl) (fun b5=>?_))
 refine ZV (ZQ 6 underlying30 XO) ?_
 refine ZV (Z8 rfl (.o 40) rfl isAgg22) ?_
 have ⟨h5,H⟩:=Z4 H
 refine Ta 0 (congrArg (eI) (List.append_nil _).symm) ?_
 refine WN (v':=sl (some (b5,0)) ((nI).length) ((nI++nI).length)) 13 (Us h5) ?_
 have ⟨h6,H⟩:=Z4 H
 have ⟨l3,hl3,H⟩:=ZX H
 refine YE (SH (f:=vi) (j:=0) (l:=([]:List (Int))) (sp:=([]:List (Int))) (ds:=Xo) (0:Int) (.r 2) rfl rfl rfl (fun _=>rfl) underlying22 underlying22 YM rfl LG (B':=8) rfl (by have:=h6; omega) (by have:=h6; omega) hl3) (fun q3=>?_)
 refine ZV (ZQ 6 underlying30 XO) ?_
 refine VM (YR (j:=40) rfl rfl XO rfl rfl rfl (Nat.lt_succ_self 0) (cs':=[sl q3.1 ((l3).length) ((l3++q3.2).length)]) rfl) (fun _=>?_)
 refine Qb rfl ?_
 refine Z_ (YE (WB (cs:=eI nI) underlying22 YM rfl) (fun b6=>?_))
 refine ZV (ZQ 7 underlying30 XO) ?_
 refine ZV (Z8 rfl (.o 42) rfl isAgg22) ?_
 have ⟨h7,H⟩:=Z4 H
 refine Ta 0 (congrArg (eI) (List.append_nil _).symm) ?_
 refine WN (v':=sl (some (b6,0)) ((nI).length) ((nI++nI).length)) 18 (Us h7) ?_
 have ⟨h8,H⟩:=Z4 H
 have ⟨l4,hl4,H⟩:=ZX H
 refine YE (SH (f:=vi) (j:=0) (l:=([]:List (Int))) (sp:=([]:List (Int))) (ds:=VB) (0:Int) (.r 3) rfl rfl rfl (fun _=>rfl) underlying22 underlying22 YM rfl LG (B':=8) rfl (by have:=h8; omega) (by have:=h8; omega) hl4) (fun q4=>?_)
 refine ZV (ZQ 7 underlying30 XO) ?_
 refine VM (YR (j:=42) rfl rfl XO rfl rfl rfl (Nat.lt_succ_self 0) (cs':=[sl q4.1 ((l4).length) ((l4++q4.2).length)]) rfl) (fun _=>?_)
 refine Qb rfl ?_
 refine Z_ (YE (WB (cs:=eI nI) underlying22 YM rfl) (fun b7=>?_))
 refine ZV (ZQ 8 underlying30 XO) ?_
 refine ZV (Z8 rfl (.o 44) rfl isAgg22) ?_
 have ⟨h9,H⟩:=Z4 H
 refine Ta 0 (congrArg (eI) (List.append_nil _).symm) ?_
 refine WN (v':=sl (some (b7,0)) ((nI).length) ((nI++nI).length)) 23 (Us h9) ?_
 have ⟨JN,H⟩:=Z4 H
 have ⟨l5,hl5,H⟩:=ZX H
 refine YE (SH (f:=vi) (j:=0) (l:=([]:List (Int))) (sp:=([]:List (Int))) (ds:=Un) (0:Int) (.r 4) rfl rfl rfl (fun _=>rfl) underlying22 underlying22 YM rfl LG (B':=8) rfl (by have:=JN; omega) (by have:=JN; omega) hl5) (fun q5=>?_)
 refine ZV (ZQ 8 underlying30 XO) ?_
 refine VM (YR (j:=44) rfl rfl XO rfl rfl rfl (Nat.lt_succ_self 0) (cs':=[sl q5.1 ((l5).length) ((l5++q5.2).length)]) rfl) (fun _=>?_)
 refine Z6 (N7 [1,2] rfl rfl ?_)
 refine Z_ (YE (WB (cs:=eF (fun p:Int × Str=>[vi p.1,vs p.2]) nB) underlying27 Rv rfl) (fun b8=>?_))
 refine ZV (ZQ 9 underlying30 QR) ?_
 refine ZV (Z8 rfl (.o 46) rfl isAgg27) ?_
 have ⟨h11,H⟩:=Z4 H
 refine Ta 0 (congrArg (eF (fun p:Int × Str=>[vi p.1,vs p.2])) (List.append_nil _).symm) ?_
 refine WN (v':=sl (some (b8,0)) ((nB).length) ((nB++nB).length)) 28 (Us h11) ?_
 have ⟨h12,H⟩:=Z4 H
 have ⟨l6,hl6,H⟩:=ZX H
 refine YE (I8 (g:=fun p:Int × Str=>[vi p.1,vs p.2]) (s:=2) (j:=0) (l:=([]:List (Int × Str))) (sp:=([]:List (Int × Str))) (ds:=Vb) ((0:Int),([]:Str)) rfl rfl rfl (fun _=>rfl) rfl (fun _=>(S_.cons rfl (S_.cons rfl S_.nil))) (.r 5) underlying27 underlying27 Rv rfl (CG.trans rfl) (bytes:=24) rfl (by have:=h12; omega) (by have:=h12; omega) hl6) (fun q6=>?_)
 refine ZV (ZQ 9 underlying30 QR) ?_
 refine VM (YR (j:=46) rfl rfl QR rfl rfl rfl (Nat.lt_succ_self 0) (cs':=[sl q6.1 ((l6).length) ((l6++q6.2).length)]) rfl) (fun _=>?_)
 refine Qb rfl ?_
 refine Z_ (YE (WB (cs:=eF (fun p:Str × Int=>[vs p.1,vi p.2]) nA) underlying28 LH rfl) (fun b9=>?_))
 refine ZV (ZQ 10 underlying30 MX) ?_
 refine ZV (Z8 rfl (.o 48) rfl isAgg28) ?_
 have ⟨h13,H⟩:=Z4 H
 refine Ta 0 (congrArg (eF (fun p:Str × Int=>[vs p.1,vi p.2])) (List.append_nil _).symm) ?_
 refine WN (v':=sl (some (b9,0)) ((nA).length) ((nA++nA).length)) 33 (Us h13) ?_
 have ⟨h14,H⟩:=Z4 H
 have ⟨l7,hl7,H⟩:=ZX H
 refine YE (I8 (g:=fun p:Str × Int=>[vs p.1,vi p.2]) (s:=2) (j:=0) (l:=([]:List (Str × Int))) (sp:=([]:List (Str × Int))) (ds:=Xj) (([]:Str),(0:Int)) rfl rfl rfl (fun _=>rfl) rfl (fun _=>(S_.cons rfl (S_.cons rfl S_.nil))) (.r 6) underlying28 underlying28 LH rfl (yX.trans rfl) (bytes:=24) rfl (by have:=h14; omega) (by have:=h14; omega) hl7) (fun q7=>?_)
 refine ZV (ZQ 10 underlying30 MX) ?_
 refine VM (YR (j:=48) rfl rfl MX rfl rfl rfl (Nat.lt_succ_self 0) (cs':=[sl q7.1 ((l7).length) ((l7++q7.2).length)]) rfl) (fun _=>?_)
 refine Qb rfl ?_
 refine Z_ (YE (WB (cs:=eS nS) underlying23 Xe rfl) (fun qy=>?_))
 refine ZV (ZQ 11 underlying30 Xn) ?_
 refine ZV (Z8 rfl (.o 50) rfl isAgg23) ?_
 have ⟨h15,H⟩:=Z4 H
 refine Ta 0 (congrArg (eS) (List.append_nil _).symm) ?_
 refine WN (v':=sl (some (qy,0)) ((nS).length) ((nS++nS).length)) 38 (Us h15) ?_
 have ⟨h16,H⟩:=Z4 H
 have ⟨l8,hl8,H⟩:=ZX H
 refine YE (SH (f:=vs) (j:=0) (l:=([]:List (Str))) (sp:=([]:List (Str))) (ds:=VD) ([]:Str) (.r 7) rfl rfl rfl (fun _=>rfl) underlying23 underlying23 Xe rfl oI (B':=16) rfl (by have:=h16; omega) (by have:=h16; omega) hl8) (fun q8=>?_)
 refine ZV (ZQ 11 underlying30 Xn) ?_
 refine VM (YR (j:=50) rfl rfl Xn rfl rfl rfl (Nat.lt_succ_self 0) (cs':=[sl q8.1 ((l8).length) ((l8++q8.2).length)]) rfl) (fun _=>?_)
 refine Qb rfl ?_
 refine Z_ (YE (WB (cs:=eI nI) underlying22 YM rfl) (fun lS=>?_))
 refine ZV (ZQ 13 underlying30 XO) ?_
 refine ZV (Z8 rfl (.o 53) rfl isAgg22) ?_
 have ⟨h17,H⟩:=Z4 H
 refine Ta 0 (congrArg (eI) (List.append_nil _).symm) ?_
 refine WN (v':=sl (some (lS,0)) ((nI).length) ((nI++nI).length)) 43 (Us h17) ?_
 have ⟨h18,H⟩:=Z4 H
 have ⟨l9,hl9,H⟩:=ZX H
 refine YE (SH (f:=vi) (j:=0) (l:=([]:List (Int))) (sp:=([]:List (Int))) (ds:=U_) (0:Int) (.r 8) rfl rfl rfl (fun _=>rfl) underlying22 underlying22 YM rfl LG (B':=8) rfl (by have:=h18; omega) (by have:=h18; omega) hl9) (fun q9=>?_)
 refine ZV (ZQ 13 underlying30 XO) ?_
 refine VM (YR (j:=53) rfl rfl XO rfl rfl rfl (Nat.lt_succ_self 0) (cs':=[sl q9.1 ((l9).length) ((l9++q9.2).length)]) rfl) (fun _=>?_)
 refine Qb rfl ?_
 refine Z_ (YE (WB (cs:=eS nS) underlying23 Xe rfl) (fun b12=>?_))
 refine ZV (ZQ 14 underlying30 Xn) ?_
 refine ZV (Z8 rfl (.o 55) rfl isAgg23) ?_
 have ⟨h19,H⟩:=Z4 H
 refine Ta 0 (congrArg (eS) (List.append_nil _).symm) ?_
 refine WN (v':=sl (some (b12,0)) ((nS).length) ((nS++nS).length)) 48 (Us h19) ?_
 have ⟨h20,H⟩:=Z4 H
 have ⟨pG,hl10,H⟩:=ZX H
 refine YE (SH (f:=vs) (j:=0) (l:=([]:List (Str))) (sp:=([]:List (Str))) (ds:=Uk) ([]:Str) (.r 9) rfl rfl rfl (fun _=>rfl) underlying23 underlying23 Xe rfl oI (B':=16) rfl (by have:=h20; omega) (by have:=h20; omega) hl10) (fun q10=>?_)
 refine ZV (ZQ 14 underlying30 Xn) ?_
 refine VM (YR (j:=55) rfl rfl Xn rfl rfl rfl (Nat.lt_succ_self 0) (cs':=[sl q10.1 ((pG).length) ((pG++q10.2).length)]) rfl) (fun _=>?_)
 refine Z6 (N7 [1,2] rfl rfl ?_)
 refine Z_ (ZV (VY [41,42,43,44,45,46,47,48,49,50,51,52,53,54,55,56,57,58,59,60,61] rfl rfl isAgg30 Xg) ?_)
 refine VM (VZ (rp 21 20) rfl rfl Xg) (fun _=>?_)
 refine Zq ?_
 obtain rfl:=sj H
 exact JK (q1.1,q2.1,q3.1,q4.1,q5.1,q6.1,q7.1,q8.1,q9.1,q10.1,q1.2,q2.2,q3.2,q4.2,q5.2,q6.2,q7.2,q8.2,q9.2,q10.2) [30,29,28,27,26,25,24,23,22,21] (vs:=[_]) rfl ⟨(Wp [0,1,2,3,4,5,6,7,8,9,10,11,12,13,14,15,16,17,18,19,20] rfl rfl isAgg30 Xg),trivial⟩ rfl
def Yo.b0 (a_ b:List (Int)) (s0:Int):Option ((Int) ⊕ ((Unit) ⊕ (Bool))) :=
 if s0<((a_).length:Int) then (if 0≤s0∧s0<((a_).length:Int) then (if 0≤s0∧s0<((b).length:Int) then (if (lg a_ ((s0).toNat)) ≠ (lg b ((s0).toNat)) then (some (.inr (.inr false))) else (some (.inl (ZJ (s0+1))))) else none) else none) else (some (.inr (.inl ())))
def Yo (a_ b:List (Int)):Option (Bool) :=
 if ((a_).length:Int) ≠ ((b).length:Int) then (some false) else ((loop (Yo.b0 a_ b) BIG 0).bind fun Yw=>(match Yw with | .inl Yw=>(some true) | .inr rv=>some rv))
theorem OC {Aa_:Y6} {ca_:Nat} {Ab:Y6} {cb:Nat} {a_:List (Int)} {b:List (Int)} (jb:(a_).length≤ca_) (hcb:(b).length≤cb) {r:Bool} (H:Yo a_ b=some r) :
  Does Tryz.prog 27 [sl Aa_ ((a_).length) ca_,sl Ab ((b).length) cb] [] [⟨Aa_,eI a_⟩,⟨Ab,eI b⟩] (Γ:=Unit) (fun g=>vb r) (fun g=>[]):=by
 intro w hmem hro hd
 refine Zn func27 rfl ntmps27 rfl hmem hro hd ?_
 unfold Yo at H
 refine Z_ (Y2 ?_)
 refine Z6 (ZY (Z_ (YP ?_)))
 refine ZV (ZG rfl underlying22) ?_
 refine YP ?_
 refine ZV (ZG rfl underlying22) ?_
 refine ZV (ZT SN) ?_
 refine Z6 (UK H (fun hc H=>?_) (fun hc H=>?_))
 ·refine Z_ (Y2 ?_)
  refine Zq (ZZ ?_)
  obtain rfl:=sj H
  exact Wj
 refine ZN (Z7 (ZY (Z_ (Y2 ?_))))
 refine Z6 (ZP ?_)
 have ⟨Yw,Hl,H⟩:=Z9 H
 refine Wz [0,1,5] [] rfl rfl ?_
 refine U0 (id:=0) (body:=(Yo.b0 a_ b)) (σ:=Int) (Γ:=Unit) (Γx:=Unit) (fun s0 WG=>[(0,sl Aa_ ((a_).length) ca_),(1,sl Ab ((b).length) cb),(5,vi s0)]) (fun s0 WG=>[]) (fun t g=>[]) (fun t g=>[]) r ?_ BIG 0 () Yw Hl ?_
 ·intro s0 WG r1 H K hK hE MK
  unfold Yo.b0 at H
  refine ZY (Z_ (Zj 2 rfl ?_))
  refine ZV (ZG rfl underlying22) ?_
  refine ZV (ZT WV) ?_
  refine Z6 (UK H (fun hc H=>?_) (fun hc H=>?_))
  ·refine ZN (Z7 (ZY (ZP (ZY ?_))))
   have ⟨h1,H⟩:=Z4 H
   have ⟨h2,H⟩:=Z4 H
   refine U3 [] 9 rfl ?_
   refine PX 0 [] (.v 0 [] rfl rfl (ZO rfl) (.v 1 [] rfl rfl (ZO rfl) (.v 2 [0,1] rfl rfl (YK (i:=s0) rfl rfl underlying22 YM rfl (.r 0) (Uf (tl h1)) h1.1 h1.2 (k:=(s0).toNat) (JZ _)) (.v 3 [2] rfl rfl (Z8 rfl (.r 0) (UL (f:=vi) (l:=a_) (tl h1)) isAgg3) (.v 4 [] rfl rfl (ZO rfl) (.v 5 [] rfl rfl (ZO rfl) (.v 6 [4,5] rfl rfl (YK (i:=s0) rfl rfl underlying22 YM rfl (.r 1) (Uf (tl h2)) h2.1 h2.2 (k:=(s0).toNat) (JZ _)) (.v 7 [6] rfl rfl (Z8 rfl (.r 1) (UL (f:=vi) (l:=b) (tl h2)) isAgg3) (.v 8 [7,3] rfl rfl (V9 SN rfl rfl) .nil))))))))) (fun γ=>?_)
   refine Qj [25,0,1,5] rfl rfl ?_
   refine Vi ?_
   refine Z7 (UK H (fun hc H=>?_) (fun hc H=>?_))
   ·refine Z_ (Y2 ?_)
    refine Zq (ZE (ZZ (ZZ (ZE (ZZ ?_)))))
    have M3:=(MK _ (Option.some.inj H).symm)
    subst M3
    exact Wj
   refine ZN (ZW (Z7 (ZH (YP ?_))))
   refine ZV (ZT XN) ?_
   refine Y2 ?_
   refine ZK ?_
   obtain rfl:=sj H
   exact Ri [] (hK (ZJ (s0+1)) rfl ())
  refine YW (Z0 (Z0 ?_))
  obtain rfl:=sj H
  exact WW [] (hE () rfl ())
 rcases Yw with Yw | rv
 ·intro Fe
  dsimp only at H
  refine ZL (Z7 (Z_ (Y2 ?_)))
  refine Zq ?_
  obtain rfl:=sj H
  exact Wj
 exact (Option.some.inj H)
def XX.b0 (a_ b:List (Str)) (s0:Int):Option ((Int) ⊕ ((Unit) ⊕ (Bool))) :=
 if s0<((a_).length:Int) then (if 0≤s0∧s0<((a_).length:Int) then (if 0≤s0∧s0<((b).length:Int) then (if lg a_ ((s0).toNat) ≠ lg b ((s0).toNat) then (some (.inr (.inr false))) else (some (.inl (ZJ (s0+1))))) else none) else none) else (some (.inr (.inl ())))
def XX (a_ b:List (Str)):Option (Bool) :=
 if ((a_).length:Int) ≠ ((b).length:Int) then (some false) else ((loop (XX.b0 a_ b) BIG 0).bind fun Yw=>(match Yw with | .inl Yw=>(some true) | .inr rv=>some rv))
theorem I4 {Aa_:Y6} {ca_:Nat} {Ab:Y6} {cb:Nat} {a_:List (Str)} {b:List (Str)} (jb:(a_).length≤ca_) (hcb:(b).length≤cb) {r:Bool} (H:XX a_ b=some r) :
  Does Tryz.prog 28 [sl Aa_ ((a_).length) ca_,sl Ab ((b).length) cb] [] [⟨Aa_,eS a_⟩,⟨Ab,eS b⟩] (Γ:=Unit) (fun g=>vb r) (fun g=>[]):=by
 intro w hmem hro hd
 refine Zn func28 rfl ntmps28 rfl hmem hro hd ?_
 unfold XX at H
 refine Z_ (Y2 ?_)
 refine Z6 (ZY (Z_ (YP ?_)))
 refine ZV (ZG rfl underlying23) ?_
 refine YP ?_
 refine ZV (ZG rfl underlying23) ?_
 refine ZV (ZT SN) ?_
 refine Z6 (UK H (fun hc H=>?_) (fun hc H=>?_))
 ·refine Z_ (Y2 ?_)
  refine Zq (ZZ ?_)
  obtain rfl:=sj H
  exact Wj
 refine ZN (Z7 (ZY (Z_ (Y2 ?_))))
 refine Z6 (ZP ?_)
 have ⟨Yw,Hl,H⟩:=Z9 H
 refine Wz [0,1,5] [] rfl rfl ?_
 refine U0 (id:=0) (body:=(XX.b0 a_ b)) (σ:=Int) (Γ:=Unit) (Γx:=Unit) (fun s0 WG=>[(0,sl Aa_ ((a_).length) ca_),(1,sl Ab ((b).length) cb),(5,vi s0)]) (fun s0 WG=>[]) (fun t g=>[]) (fun t g=>[]) r ?_ BIG 0 () Yw Hl ?_
 ·intro s0 WG r1 H K hK hE MK
  unfold XX.b0 at H
  refine ZY (Z_ (Zj 2 rfl ?_))
  refine ZV (ZG rfl underlying23) ?_
  refine ZV (ZT WV) ?_
  refine Z6 (UK H (fun hc H=>?_) (fun hc H=>?_))
  ·refine ZN (Z7 (ZY (ZP (ZY ?_))))
   have ⟨h1,H⟩:=Z4 H
   have ⟨h2,H⟩:=Z4 H
   refine U3 [] 9 rfl ?_
   refine PX 0 [] (.v 0 [] rfl rfl (ZO rfl) (.v 1 [] rfl rfl (ZO rfl) (.v 2 [0,1] rfl rfl (YK (i:=s0) rfl rfl underlying23 Xe rfl (.r 0) (Uf (tl h1)) h1.1 h1.2 (k:=(s0).toNat) (JZ _)) (.v 3 [2] rfl rfl (Z8 rfl (.r 0) (UL (f:=vs) (l:=a_) (tl h1)) isAgg9) (.v 4 [] rfl rfl (ZO rfl) (.v 5 [] rfl rfl (ZO rfl) (.v 6 [4,5] rfl rfl (YK (i:=s0) rfl rfl underlying23 Xe rfl (.r 1) (Uf (tl h2)) h2.1 h2.2 (k:=(s0).toNat) (JZ _)) (.v 7 [6] rfl rfl (Z8 rfl (.r 1) (UL (f:=vs) (l:=b) (tl h2)) isAgg9) (.v 8 [7,3] rfl rfl (V9 KX rfl rfl) .nil))))))))) (fun γ=>?_)
   refine Qj [25,0,1,5] rfl rfl ?_
   refine Vi ?_
   refine Z7 (UK H (fun hc H=>?_) (fun hc H=>?_))
   ·refine Z_ (Y2 ?_)
    refine Zq (ZE (ZZ (ZZ (ZE (ZZ ?_)))))
    have M3:=(MK _ (Option.some.inj H).symm)
    subst M3
    exact Wj
   refine ZN (ZW (Z7 (ZH (YP ?_))))
   refine ZV (ZT XN) ?_
   refine Y2 ?_
   refine ZK ?_
   obtain rfl:=sj H
   exact Ri [] (hK (ZJ (s0+1)) rfl ())
  refine YW (Z0 (Z0 ?_))
  obtain rfl:=sj H
  exact WW [] (hE () rfl ())
 rcases Yw with Yw | rv
 ·intro Fe
  dsimp only at H
  refine ZL (Z7 (Z_ (Y2 ?_)))
  refine Zq ?_
  obtain rfl:=sj H
  exact Wj
 exact (Option.some.inj H)
def WK.b0 (a_ b:List (Str × Str × Int × Int × Int × Int)) (s0:Int):Option ((Int) ⊕ ((Unit) ⊕ (Bool))) :=
 if s0<((a_).length:Int) then (if 0≤s0∧s0<((a_).length:Int) then (if 0≤s0∧s0<((b).length:Int) then (if (!(Lf.all [Lf.s ((lg a_ ((s0).toNat)).1),Lf.s ((lg a_ ((s0).toNat)).2.1),Lf.i ((lg a_ ((s0).toNat)).2.2.1),Lf.i ((lg a_ ((s0).toNat)).2.2.2.1),Lf.i ((lg a_ ((s0).toNat)).2.2.2.2.1),Lf.i ((lg a_ ((s0).toNat)).2.2.2.2.2)] [Lf.s ((lg b ((s0).toNat)).1),Lf.s ((lg b ((s0).toNat)).2.1),Lf.i ((lg b ((s0).toNat)).2.2.1),Lf.i ((lg b ((s0).toNat)).2.2.2.1),Lf.i ((lg b ((s0).toNat)).2.2.2.2.1),Lf.i ((lg b ((s0).toNat)).2.2.2.2.2)]))=true then (some (.inr (.inr false))) else (some (.inl (ZJ (s0+1))))) else none) else none) else (some (.inr (.inl ())))
def WK (a_ b:List (Str × Str × Int × Int × Int × Int)):Option (Bool) :=
 if ((a_).length:Int) ≠ ((b).length:Int) then (some false) else ((loop (WK.b0 a_ b) BIG 0).bind fun Yw=>(match Yw with | .inl Yw=>(some true) | .inr rv=>some rv))
theorem pY {Aa_:Y6} {ca_:Nat} {Ab:Y6} {cb:Nat} {a_:List (Str × Str × Int × Int × Int × Int)} {b:List (Str × Str × Int × Int × Int × Int)} (jb:(a_).length≤ca_) (hcb:(b).length≤cb) {r:Bool} (H:WK a_ b=some r) :
  Does Tryz.prog 54 [sl Aa_ ((a_).length) ca_,sl Ab ((b).length) cb] [] [⟨Aa_,eF (fun p:Str × Str × Int × Int × Int × Int=>[vs p.1,vs p.2.1,vi p.2.2.1,vi p.2.2.2.1,vi p.2.2.2.2.1,vi p.2.2.2.2.2]) a_⟩,⟨Ab,eF (fun p:Str × Str × Int × Int × Int × Int=>[vs p.1,vs p.2.1,vi p.2.2.1,vi p.2.2.2.1,vi p.2.2.2.2.1,vi p.2.2.2.2.2]) b⟩] (Γ:=Unit) (fun g=>vb r) (fun g=>[]):=by
 intro w hmem hro hd
 refine Zn func54 rfl ntmps54 rfl hmem hro hd ?_
 unfold WK at H
 refine Z_ (Y2 ?_)
 refine Z6 (ZY (Z_ (YP ?_)))
 refine ZV (ZG rfl underlying24) ?_
 refine YP ?_
 refine ZV (ZG rfl underlying24) ?_
 refine ZV (ZT SN) ?_
 refine Z6 (UK H (fun hc H=>?_) (fun hc H=>?_))
 ·refine Z_ (Y2 ?_)
  refine Zq (ZZ ?_)
  obtain rfl:=sj H
  exact Wj
 refine ZN (Z7 (ZY (Z_ (Y2 ?_))))
 refine Z6 (ZP ?_)
 have ⟨Yw,Hl,H⟩:=Z9 H
 refine Wz [0,1,5] [] rfl rfl ?_
 refine U0 (id:=0) (body:=(WK.b0 a_ b)) (σ:=Int) (Γ:=Unit) (Γx:=Unit) (fun s0 WG=>[(0,sl Aa_ ((a_).length) ca_),(1,sl Ab ((b).length) cb),(5,vi s0)]) (fun s0 WG=>[]) (fun t g=>[]) (fun t g=>[]) r ?_ BIG 0 () Yw Hl ?_
 ·intro s0 WG r1 H K hK hE MK
  unfold WK.b0 at H
  refine ZY (Z_ (Zj 2 rfl ?_))
  refine ZV (ZG rfl underlying24) ?_
  refine ZV (ZT WV) ?_
  refine Z6 (UK H (fun hc H=>?_) (fun hc H=>?_))
  ·refine ZN (Z7 (ZY (ZP (ZY ?_))))
   have ⟨h1,H⟩:=Z4 H
   have ⟨h2,H⟩:=Z4 H
   refine U3 [] 9 rfl ?_
   refine PX 0 [] (.v 0 [] rfl rfl (ZO rfl) (.v 1 [] rfl rfl (ZO rfl) (.v 2 [0,1] rfl rfl (YK (i:=s0) rfl rfl underlying24 Ut rfl (.r 0) (VC (s:=6) (fun _=>rfl) rfl (tl h1)) h1.1 h1.2 (k:=((s0).toNat) * 6) rfl) (.v 3 [2] rfl rfl (UE (n:=6) (ds:=[vs ((lg a_ ((s0).toNat)).1),vs ((lg a_ ((s0).toNat)).2.1),vi ((lg a_ ((s0).toNat)).2.2.1),vi ((lg a_ ((s0).toNat)).2.2.2.1),vi ((lg a_ ((s0).toNat)).2.2.2.2.1),vi ((lg a_ ((s0).toNat)).2.2.2.2.2)]) rfl (.r 0) (RJ (g:=fun p:Str × Str × Int × Int × Int × Int=>[vs p.1,vs p.2.1,vi p.2.2.1,vi p.2.2.2.1,vi p.2.2.2.2.1,vi p.2.2.2.2.2]) (s:=6) (fun _=>rfl) a_ ((s0).toNat) (tl h1)) rfl rfl isAgg57 Ut rfl) (.v 4 [] rfl rfl (ZO rfl) (.v 5 [] rfl rfl (ZO rfl) (.v 6 [4,5] rfl rfl (YK (i:=s0) rfl rfl underlying24 Ut rfl (.r 1) (VC (s:=6) (fun _=>rfl) rfl (tl h2)) h2.1 h2.2 (k:=((s0).toNat) * 6) rfl) (.v 7 [6] rfl rfl (UE (n:=6) (ds:=[vs ((lg b ((s0).toNat)).1),vs ((lg b ((s0).toNat)).2.1),vi ((lg b ((s0).toNat)).2.2.1),vi ((lg b ((s0).toNat)).2.2.2.1),vi ((lg b ((s0).toNat)).2.2.2.2.1),vi ((lg b ((s0).toNat)).2.2.2.2.2)]) rfl (.r 1) (RJ (g:=fun p:Str × Str × Int × Int × Int × Int=>[vs p.1,vs p.2.1,vi p.2.2.1,vi p.2.2.2.1,vi p.2.2.2.2.1,vi p.2.2.2.2.2]) (s:=6) (fun _=>rfl) b ((s0).toNat) (tl h2)) rfl rfl isAgg57 Ut rfl) (.v 8 [7,3] rfl rfl (Zg rfl rfl (fun w=>FB w underlying57 (by kernel_rfl) (by kernel_rfl) [Lf.s ((lg a_ ((s0).toNat)).1),Lf.s ((lg a_ ((s0).toNat)).2.1),Lf.i ((lg a_ ((s0).toNat)).2.2.1),Lf.i ((lg a_ ((s0).toNat)).2.2.2.1),Lf.i ((lg a_ ((s0).toNat)).2.2.2.2.1),Lf.i ((lg a_ ((s0).toNat)).2.2.2.2.2)] [Lf.s ((lg b ((s0).toNat)).1),Lf.s ((lg b ((s0).toNat)).2.1),Lf.i ((lg b ((s0).toNat)).2.2.1),Lf.i ((lg b ((s0).toNat)).2.2.2.1),Lf.i ((lg b ((s0).toNat)).2.2.2.2.1),Lf.i ((lg b ((s0).toNat)).2.2.2.2.2)] (by kernel_rfl) (by kernel_rfl) (by kernel_rfl) (by kernel_rfl))) .nil))))))))) (fun γ=>?_)
   refine Qj [25,0,1,5] rfl rfl ?_
   refine Vi ?_
   refine Z7 (Sn H (fun hc H=>?_) (fun hc H=>?_))
   ·refine Z_ (Y2 ?_)
    refine Zq (ZE (ZZ (ZZ (ZE (ZZ ?_)))))
    have M3:=(MK _ (Option.some.inj H).symm)
    subst M3
    exact Wj
   refine ZN (ZW (Z7 (ZH (YP ?_))))
   refine ZV (ZT XN) ?_
   refine Y2 ?_
   refine ZK ?_
   obtain rfl:=sj H
   exact Ri [] (hK (ZJ (s0+1)) rfl ())
  refine YW (Z0 (Z0 ?_))
  obtain rfl:=sj H
  exact WW [] (hE () rfl ())
 rcases Yw with Yw | rv
 ·intro Fe
  dsimp only at H
  refine ZL (Z7 (Z_ (Y2 ?_)))
  refine Zq ?_
  obtain rfl:=sj H
  exact Wj
 exact (Option.some.inj H)
end Go.Proofs
end
