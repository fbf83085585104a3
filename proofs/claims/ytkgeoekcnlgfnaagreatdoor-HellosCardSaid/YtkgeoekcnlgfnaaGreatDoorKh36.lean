/-
  Part 36 of the proof of what several laws share.
-/
import Derived.Test.YtkgeoekcnlgfnaaGreatDoorKh31
import Derived.Test.YtkgeoekcnlgfnaaGreatDoorKh35
set_option linter.unusedVariables false
set_option linter.unusedSimpArgs false
section
namespace Go.Proofs
open Go Go.Kx
def bE (S:List Int) (p:Str × Str × Int × Int × Int × Int):Prop:=p.2.2.1 ∈ S∧p.2.1.length=hl p.2.2.1∧(1≤p.1.length∧p.1.length≤4096)∧(0≤p.2.2.2.1∧p.2.2.2.1≤4294967295)∧(0≤p.2.2.2.2.1∧p.2.2.2.2.1≤4294967295)∧(0≤p.2.2.2.2.2∧p.2.2.2.2.2≤604800)
theorem Ue {o:Option Bool} {P:Prop} (h:o=some false) (n : ¬ P) : ∃ b,o=some b∧(b=true ↔ P):=⟨false,h,⟨fun h=>(nomatch h),fun h=>absurd h n⟩⟩
section
variable {s:Bool} {S G:List Int} {ch:List Str} {key:Str} {ro:List Str} {nm:Str} {tk:Int} {sl:Str} {U4:List (Str × Str × Int × Int × Int × Int)} {tape:Str} {clock pad limit ring:Int}
theorem bN (hS:S.length<1152921504606846976) (hk : ∀ x ∈ S,Bq x) (t Le:Str) (su ad got life:Int) :
  ∃ b,K7 s S G ch key ro nm tk sl U4 tape clock pad limit ring t Le su ad got life=some b∧(b=true ↔ bE S (t,Le,su,ad,got,life)):=by
 unfold K7 bE
 dsimp only
 rw [K6,Uz su hS,Po,Po,Po,Po]
 simp only [Option.bind_some]
 by_cases h1:su ∈ S
 ·rw [if_pos (decide_eq_true h1),(FI (hk su h1)).2]
  by_cases h2:Le.length=hl su
  ·rw [if_pos (by omega)]
   by_cases h3:1≤t.length∧t.length≤4096
   ·rw [if_pos (by rw [decide_eq_true_iff]; omega)]
    by_cases h4:0≤ad∧ad≤4294967295
    ·rw [if_pos (decide_eq_true h4)]
     by_cases h5:0≤got∧got≤4294967295
     ·rw [if_pos (decide_eq_true h5)]
      exact ⟨_,rfl,by rw [decide_eq_true_iff]; exact ⟨fun h=>⟨h1,h2,h3,h4,h5,h⟩,fun h=>h.2.2.2.2.2⟩⟩
     ·rw [if_neg (by rw [decide_eq_true_iff]; exact h5)]; exact Ue rfl fun h=>h5 h.2.2.2.2.1
    ·rw [if_neg (by rw [decide_eq_true_iff]; exact h4)]; exact Ue rfl fun h=>h4 h.2.2.2.1
   ·rw [if_neg (by rw [decide_eq_true_iff]; omega)]; exact Ue rfl fun h=>h3 h.2.2.1
  ·rw [if_neg (by omega)]; exact Ue rfl fun h=>h2 h.2.1
 ·rw [if_neg (by rw [decide_eq_true_iff]; exact h1)]; exact Ue rfl fun h=>h1 h.1
theorem iW (hS:S.length<1152921504606846976) (hp:U4.length<1152921504606846976) (hk : ∀ x ∈ S,Bq x) :
  ∃ b,XF U4 s S G ch key ro nm tk sl U4 tape clock pad limit ring=some b∧(b=true ↔ ¬ ∀ j,j<U4.length → bE S (lg U4 j)):=by
 unfold XF Y3
 refine Or.elim (Og (body:=Y3.b0 U4 s S G ch key ro nm tk sl U4 tape clock pad limit ring) (fun j=>(j:Int)) (fun j=>bE S (lg U4 j)) hp (fun j hj=>?_) ?_) (fun hx=>?_) (fun hx=>?_)
 ·have e:=QW hj hp
  obtain ⟨b,h1,h2⟩:=bN (s:=s) (S:=S) (G:=G) (ch:=ch) (key:=key) (ro:=ro) (nm:=nm) (tk:=tk) (sl:=sl) (U4:=U4) (tape:=tape) (clock:=clock) (pad:=pad) (limit:=limit) (ring:=ring) hS hk (lg U4 j).1 (lg U4 j).2.1 (lg U4 j).2.2.1 (lg U4 j).2.2.2.1 (lg U4 j).2.2.2.2.1 (lg U4 j).2.2.2.2.2
  have h3:PY (lg U4 j).1 (lg U4 j).2.1 (lg U4 j).2.2.1 (lg U4 j).2.2.2.1 (lg U4 j).2.2.2.2.1 (lg U4 j).2.2.2.2.2 s S G ch key ro nm tk sl U4 tape clock pad limit ring=some (!b):=by
   unfold PY; exact Z5 h1 rfl
  unfold Y3.b0
  rw [e,if_pos (by omega),if_pos (by omega),Int.toNat_natCast,h3]
  clear e
  refine ⟨!b,?_,?_⟩
  ·cases b <;> rfl
  ·cases b with
   | true=>exact ⟨fun h=>(nomatch h),fun h=>absurd (h2.1 rfl) h⟩
   | false=>exact ⟨fun _ h=>(nomatch (h2.2 h)),fun _=>rfl⟩
 ·unfold Y3.b0
  exact if_neg (by omega)
 ·obtain ⟨h1,h2⟩:=hx
  exact ⟨false,Z5 (Z5 h1 rfl) (Ze fun z hz=>by rw [hz]; rfl),⟨fun h=>(nomatch h),fun h=>absurd h2 h⟩⟩
 ·obtain ⟨k,h1,h2,h3⟩:=hx
  exact ⟨true,Z5 (Z5 h3 rfl) (Ze fun z hz=>by rw [hz,decide_eq_true (by omega)]),⟨fun _ h=>h2 (h k h1),fun _=>rfl⟩⟩
def OkC (S:List Int) (ch:List Str) (key:Str) (ro:List Str) (nm:Str) (tk:Int) (sl:Str) (U4:List (Str × Str × Int × Int × Int × Int)):Prop :=
 ch.length=0∧key=[]∧sl=[]∧tk=0∧U4.length≤1∧(ro.length≤8∧OkT ro)∧nm.length≤64 ∧ ∀ j,j<U4.length → bE S (lg U4 j)
theorem ql (hS:S.length<1152921504606846976) (hr:ro.length<1152921504606846976) (hp:U4.length<1152921504606846976) (hk : ∀ x ∈ S,Bq x) :
  ∃ b,Oh s S G ch key ro nm tk sl U4 tape clock pad limit ring=some b∧(b=true ↔ OkC S ch key ro nm tk sl U4):=by
 unfold Oh OkC
 by_cases h1:ch.length=0
 ·rw [if_neg (by omega)]
  by_cases h2:key=[]
  ·rw [if_neg (fun h=>h h2)]
   by_cases h3:sl=[]
   ·rw [if_neg (fun h=>h h3)]
    by_cases h4:tk=0
    ·rw [if_neg (fun h=>h h4)]
     by_cases h5:U4.length≤1
     ·rw [decide_eq_false (by omega)]
      obtain ⟨b,c1,c2⟩:=xY ro 0 hr
      cases b with
      | false=>exact Ue (Z5 rfl (Zi (by decide) (Z5 c1 rfl))) fun h=>nomatch c2.2 ⟨Nat.zero_le _,h.2.2.2.2.2.1⟩
      | true =>
       have c3:=c2.1 rfl
       by_cases h6:nm.length≤64
       ·obtain ⟨b,d1,d2⟩:=iW (s:=s) (S:=S) (G:=G) (ch:=ch) (key:=key) (ro:=ro) (nm:=nm) (tk:=tk) (sl:=sl) (U4:=U4) (tape:=tape) (clock:=clock) (pad:=pad) (limit:=limit) (ring:=ring) hS hp hk
        refine ⟨!b,Z5 rfl (Zi (by decide) (Z5 c1 (ZM rfl (ZM (by omega) (Z5 d1 rfl))))),?_⟩
        cases b with
        | true=>exact ⟨fun h=>(nomatch h),fun h=>absurd h.2.2.2.2.2.2.2 (d2.1 rfl)⟩
        | false=>exact ⟨fun _=>⟨h1,h2,h3,h4,h5,c3.2,h6,Classical.byContradiction fun h=>nomatch d2.2 h⟩,fun _=>rfl⟩
       ·exact Ue (Z5 rfl (Zi (by decide) (Z5 c1 (ZM rfl (Zi (by omega) rfl))))) fun h=>h6 h.2.2.2.2.2.2.1
     ·rw [decide_eq_true (by omega)]; exact Ue rfl fun h=>h5 h.2.2.2.2.1
    ·rw [if_pos h4]; exact Ue rfl fun h=>h4 h.2.2.2.1
   ·rw [if_pos h3]; exact Ue rfl fun h=>h3 h.2.2.1
  ·rw [if_pos h2]; exact Ue rfl fun h=>h2 h.2.1
 ·rw [if_pos (by omega)]; exact Ue rfl fun h=>h1 h.1
theorem wW (hS:S.length<1152921504606846976) (hr:ro.length<1152921504606846976) (hp:U4.length<1152921504606846976) (hk : ∀ x ∈ S,Bq x) :
  ∃ b,XH s S G ch key ro nm tk sl U4 tape clock pad limit ring=some b∧(b=true ↔ OkC S ch key ro nm tk sl U4):=by
 unfold XH OkC
 by_cases h1:ch.length=0
 ·rw [if_neg (by omega)]
  by_cases h2:key=[]
  ·rw [if_neg (fun h=>h h2)]
   by_cases h3:sl=[]
   ·rw [if_neg (fun h=>h h3)]
    by_cases h4:tk=0
    ·rw [if_neg (fun h=>h h4)]
     obtain ⟨b,c1,c2⟩:=BQ ro hr
     rw [c1]
     cases b with
     | false=>exact Ue rfl fun h=>nomatch c2.2 h.2.2.2.2.2.1
     | true =>
      have c3:=c2.1 rfl
      by_cases h6:nm.length≤64
      ·by_cases h5:U4.length≤1
       ·refine Or.elim (Og (body:=XH.b0 S U4) (fun _=>false) (fun j=>bE S (lg U4 j)) hp (fun j hj=>?_) ?_) (fun hx=>?_) (fun hx=>?_)
        ·have e:=QW hj hp
         unfold XH.b0
         rw [e,if_pos (by omega),if_pos (by omega),Int.toNat_natCast,Ar,Nt _ hS]
         clear e
         generalize lg U4 j=p
         obtain ⟨t,Le,su,ad,got,life⟩:=p
         dsimp only
         unfold bE
         dsimp only
         by_cases q1:su ∈ S
         ·rw [if_pos (hk su q1),decide_eq_true q1]
          have e2:=(FI (hk su q1)).2
          refine ⟨!decide (Le.length=hl su∧(1≤t.length∧t.length≤4096)∧(0≤ad∧ad≤4294967295)∧(0≤got∧got≤4294967295)∧(0≤life∧life≤604800)),Z5 rfl (Z5 (v := !decide (Le.length=hl su∧(1≤t.length∧t.length≤4096)∧(0≤ad∧ad≤4294967295)∧(0≤got∧got≤4294967295)∧(0≤life∧life≤604800))) (Zi (fun h=>h rfl) (Z5 rfl (Zi (by decide) ?_))) ?_),?_⟩
          ·dsimp only
           rw [e2]
           by_cases a1:Le.length=hl su
           ·refine Zi (by omega) ?_
            by_cases a2:1≤t.length
            ·refine Zi (by omega) ?_
             by_cases a3:t.length≤4096
             ·refine Zi (by omega) ?_
              by_cases a4:0≤ad
              ·refine Zi (by omega) ?_
               by_cases a5:ad≤4294967295
               ·refine Zi (by omega) ?_
                by_cases a6:0≤got
                ·refine Zi (by omega) ?_
                 by_cases a7:got≤4294967295
                 ·refine Zi (by omega) ?_
                  by_cases a8:0≤life
                  ·refine Zi (by omega) ?_
                   by_cases a9:life≤604800
                   ·rw [decide_eq_false (by omega),decide_eq_true ⟨a1,⟨a2,a3⟩,⟨a4,a5⟩,⟨a6,a7⟩,a8,a9⟩]; rfl
                   ·rw [decide_eq_true (by omega),decide_eq_false (fun h=>a9 h.2.2.2.2.2)]; rfl
                  ·rw [if_pos (by omega),decide_eq_false (fun h=>a8 h.2.2.2.2.1)]; rfl
                 ·rw [if_pos (by omega),decide_eq_false (fun h=>a7 h.2.2.2.1.2)]; rfl
                ·rw [if_pos (by omega),decide_eq_false (fun h=>a6 h.2.2.2.1.1)]; rfl
               ·rw [if_pos (by omega),decide_eq_false (fun h=>a5 h.2.2.1.2)]; rfl
              ·rw [if_pos (by omega),decide_eq_false (fun h=>a4 h.2.2.1.1)]; rfl
             ·rw [if_pos (by omega),decide_eq_false (fun h=>a3 h.2.1.2)]; rfl
            ·rw [if_pos (by omega),decide_eq_false (fun h=>a2 h.2.1.1)]; rfl
           ·rw [if_pos (by omega),decide_eq_false (fun h=>a1 h.1)]; rfl
          ·cases decide (Le.length=hl su∧(1≤t.length∧t.length≤4096)∧(0≤ad∧ad≤4294967295)∧(0≤got∧got≤4294967295)∧(0≤life∧life≤604800)) <;> rfl
          ·rw [Bool.not_eq_true',decide_eq_false_iff_not]
           exact ⟨fun h c=>h c.2,fun h c=>h ⟨q1,c⟩⟩
         ·refine ⟨true,Z5 rfl (Z5 (v:=true) ?_ rfl),⟨fun _ h=>q1 h.1,fun _=>rfl⟩⟩
          by_cases q2:Bq su
          ·rw [if_pos q2,decide_eq_false q1]
           exact Zi (fun h=>h rfl) rfl
          ·rw [if_neg q2]
           exact ZM (by decide) rfl
        ·unfold XH.b0
         exact if_neg (by omega)
        ·obtain ⟨g1,g2⟩:=hx
         exact ⟨true,Z5 (v:=false) (Z5 rfl (Zi (by decide) (Zi (by omega) (by rw [decide_eq_false (by omega)])))) (Zi (by decide) (Z5 g1 rfl)),⟨fun _=>⟨h1,h2,h3,h4,h5,c3,h6,g2⟩,fun _=>rfl⟩⟩
        ·obtain ⟨k,g1,g2,g3⟩:=hx
         exact Ue (Z5 (v:=false) (Z5 rfl (Zi (by decide) (Zi (by omega) (by rw [decide_eq_false (by omega)])))) (Zi (by decide) (Z5 g3 rfl))) fun h=>g2 (h.2.2.2.2.2.2.2 k g1)
       ·exact Ue (Z5 (v:=true) (Z5 rfl (Zi (by decide) (Zi (by omega) (by rw [decide_eq_true (by omega)])))) rfl) fun h=>h5 h.2.2.2.2.1
      ·exact Ue (Z5 (v:=true) (Z5 rfl (Zi (by decide) (ZM (by omega) rfl))) rfl) fun h=>h6 h.2.2.2.2.2.2.1
    ·rw [if_pos h4]; exact Ue rfl fun h=>h4 h.2.2.2.1
   ·rw [if_pos h3]; exact Ue rfl fun h=>h3 h.2.2.1
  ·rw [if_pos h2]; exact Ue rfl fun h=>h2 h.2.1
 ·rw [if_pos (by omega)]; exact Ue rfl fun h=>h1 h.1
def OkV (ch:List Str) (key:Str) (ro:List Str) (nm:Str) (tk:Int) (sl:Str) (U4:List (Str × Str × Int × Int × Int × Int)):Prop :=
 jM key∧(1≤ch.length∧ch.length≤8∧OkT ch)∧zL ch ch.length≤65536∧(sl.length=32 ∨ sl=[]∧tk=0)∧(0≤tk∧tk≤8)∧ro.length=0∧U4.length=0∧nm=[]
theorem rA (hc:ch.length<1152921504606846976) (hr:ro.length<1152921504606846976) (hp:U4.length<1152921504606846976) :
  ∃ b,N_ s S G ch key ro nm tk sl U4 tape clock pad limit ring=some b∧(b=true ↔ OkV ch key ro nm tk sl U4):=by
 unfold N_ OkV
 obtain ⟨x,b,a1,a2⟩:=qU key
 have hj : ∃ j:Bool,(if ((sl).length:Int)=32 then (some true) else (if sl=([]:Str) then (X5 (decide (tk=0)) fun (E8:Bool)=>(some E8)) else (some false)))=some j∧(j=true ↔ (sl.length=32 ∨ sl=[]∧tk=0)):=by
  by_cases c:sl.length=32
  ·exact ⟨true,ZM (by omega) rfl,⟨fun _ => .inl c,fun _=>rfl⟩⟩
  ·by_cases c2:sl=[]
   ·refine ⟨decide (tk=0),Zi (by omega) (ZM c2 (Ze fun z hz=>by rw [hz])),?_⟩
    rw [decide_eq_true_iff]
    exact ⟨fun h => .inr ⟨c2,h⟩,fun h=>by rcases h with h | h; exact absurd h c; exact h.2⟩
   ·exact Ue (Zi (by omega) (Zi c2 rfl)) fun h=>by rcases h with h | h; exact c h; exact c2 h.1
 obtain ⟨j,j1,j2⟩:=hj
 cases b with
 | false=>exact Ue (Z5 a1 (Z5 j1 (Zi (fun h=>nomatch h) rfl))) fun h=>nomatch a2.2 h.1
 | true =>
  obtain ⟨b,c1,c2⟩:=xY ch 1 hc
  cases b with
  | false=>exact Ue (Z5 a1 (Z5 j1 (ZM rfl (Z5 c1 (Zi (by decide) rfl))))) fun h=>nomatch c2.2 h.2.1
  | true =>
   have c3:=c2.1 rfl
   have f:=jO ch c3.2.1 fun q hq=>(c3.2.2 q hq).2
   by_cases d:zL ch ch.length≤65536
   ·rw [decide_eq_true d] at f
    cases j with
    | false=>exact Ue (Z5 a1 (Z5 j1 (ZM rfl (Z5 c1 (ZM rfl (Z5 f (ZM rfl (Zi (by decide) rfl)))))))) fun h=>nomatch j2.2 h.2.2.2.1
    | true =>
     by_cases d2:0≤tk∧tk≤8
     ·have e1:ZJ (((ro.length:Nat):Int)+((U4.length:Nat):Int))=((ro.length+U4.length:Nat):Int):=Vj (by omega)
      by_cases d3:ro.length+U4.length=0
      ·by_cases d4:nm=[]
       ·refine ⟨true,Z5 a1 (Z5 j1 (ZM rfl (Z5 c1 (ZM rfl (Z5 f (ZM rfl (ZM rfl (Z5 (Po _ _ _) (ZM (decide_eq_true d2) (ZM (by rw [e1]; omega) (Ze fun z hz=>by rw [hz,decide_eq_true d4]))))))))))),⟨fun _=>⟨a2.1 rfl,c3,d,j2.1 rfl,d2,by omega,by omega,d4⟩,fun _=>rfl⟩⟩
       ·exact Ue (Z5 a1 (Z5 j1 (ZM rfl (Z5 c1 (ZM rfl (Z5 f (ZM rfl (ZM rfl (Z5 (Po _ _ _) (ZM (decide_eq_true d2) (ZM (by rw [e1]; omega) (Ze fun z hz=>by rw [hz,decide_eq_false d4])))))))))))) fun h=>d4 h.2.2.2.2.2.2.2
      ·exact Ue (Z5 a1 (Z5 j1 (ZM rfl (Z5 c1 (ZM rfl (Z5 f (ZM rfl (ZM rfl (Z5 (Po _ _ _) (ZM (decide_eq_true d2) (Zi (by rw [e1]; omega) rfl))))))))))) fun h=>d3 (by rw [h.2.2.2.2.2.1,h.2.2.2.2.2.2.1])
     ·exact Ue (Z5 a1 (Z5 j1 (ZM rfl (Z5 c1 (ZM rfl (Z5 f (ZM rfl (ZM rfl (Z5 (Po _ _ _) (Zi (by rw [decide_eq_true_iff]; exact d2) rfl)))))))))) fun h=>d2 h.2.2.2.2.1
   ·rw [decide_eq_false d] at f
    exact Ue (Z5 a1 (Z5 j1 (ZM rfl (Z5 c1 (ZM rfl (Z5 f (Zi (by decide) rfl))))))) fun h=>d h.2.2.1
theorem wu (hc:ch.length<1152921504606846976) :
  ∃ b,XJ s S G ch key ro nm tk sl U4 tape clock pad limit ring=some b∧(b=true ↔ OkV ch key ro nm tk sl U4):=by
 unfold XJ OkV
 obtain ⟨w,e,a1,a2⟩:=lN key
 obtain ⟨t,t1,t2⟩:=gX ch hc
 obtain ⟨b,c1,c2⟩:=BQ ch hc
 rw [a1,t1,c1]
 simp only [Option.bind_some]
 cases b with
 | false=>exact Ue rfl fun h=>nomatch c2.2 ⟨h.2.1.2.1,h.2.1.2.2⟩
 | true =>
  have c3:=c2.1 rfl
  have ht:=t2 c3.1 fun q hq=>(c3.2 q hq).2
  rw [if_pos rfl]
  by_cases d:zL ch ch.length≤65536
  ·rw [if_pos (by rw [ht]; omega)]
   by_cases d1:1≤ch.length
   ·rw [if_pos (by omega)]
    by_cases de:e=0
    ·obtain ⟨k1,k2⟩:=a2.1 de
     rw [if_pos de,if_pos (by simp)]
     have kz:=lc key k1
     by_cases d2:key=List.replicate 32 0#8
     ·rw [if_neg (fun h=>h d2)]; exact Ue rfl fun h=>h.1.2.2 (kz.1 d2)
     ·have hsc:jM key:=⟨k1,k2,fun h=>d2 (kz.2 h)⟩
      rw [if_pos d2]
      by_cases d3:0≤tk
      ·rw [if_pos d3]
       by_cases d4:tk≤8
       ·rw [if_pos d4]
        have tail : ∀ P:Prop,P → ∃ b,(if ((ro).length:Int)=0 then (if nm=([]:Str) then (X5 (decide (((U4).length:Int)=0)) fun x1=>(some x1)) else (some false)) else (some false))=some b∧(b=true ↔ ro.length=0∧U4.length=0∧nm=[]):=fun _ _=>by
         by_cases q1:ro.length=0
         ·by_cases q2:nm=[]
          ·refine ⟨decide (((U4).length:Int)=0),ZM (by omega) (ZM q2 (Ze fun z hz=>by rw [hz])),?_⟩
           rw [decide_eq_true_iff]
           exact ⟨fun h=>⟨q1,by omega,q2⟩,fun h=>by omega⟩
          ·exact Ue (ZM (by omega) (Zi q2 rfl)) fun h=>q2 h.2.2
         ·exact Ue (Zi (by omega) rfl) fun h=>q1 h.1
        obtain ⟨b,u1,u2⟩:=tail True trivial
        by_cases d5:sl.length=32
        ·rw [if_pos (by omega)]
         exact ⟨b,u1,⟨fun h=>⟨hsc,⟨d1,c3⟩,d, .inl d5,⟨d3,d4⟩,u2.1 h⟩,fun h=>u2.2 h.2.2.2.2.2⟩⟩
        ·rw [if_neg (by omega)]
         by_cases d6:sl=[]
         ·rw [if_pos d6]
          by_cases d7:tk=0
          ·rw [if_pos d7]
           exact ⟨b,u1,⟨fun h=>⟨hsc,⟨d1,c3⟩,d, .inr ⟨d6,d7⟩,⟨d3,d4⟩,u2.1 h⟩,fun h=>u2.2 h.2.2.2.2.2⟩⟩
          ·rw [if_neg d7]; exact Ue rfl fun h=>by rcases h.2.2.2.1 with h | h; exact d5 h; exact d7 h.2
         ·rw [if_neg d6]; exact Ue rfl fun h=>by rcases h.2.2.2.1 with h | h; exact d5 h; exact d6 h.1
       ·rw [if_neg d4]; exact Ue rfl fun h=>d4 h.2.2.2.2.1.2
      ·rw [if_neg d3]; exact Ue rfl fun h=>d3 h.2.2.2.2.1.1
    ·rw [if_neg de]; exact Ue rfl fun h=>de (a2.2 ⟨h.1.1,h.1.2.1⟩)
   ·rw [if_neg (by omega)]; exact Ue rfl fun h=>d1 h.2.1.1
  ·rw [if_neg (by rw [ht]; omega)]; exact Ue rfl fun h=>d h.2.2.1
def OkR (clock pad limit ring:Int) (tape:Str):Prop:=(0≤clock∧clock≤4294967295)∧(0≤pad∧pad≤16384)∧(4≤limit∧limit≤16777216)∧(33290≤ring∧ring≤262144)∧tape.length≤65536
theorem wI (hS:S.length<1152921504606846976) (hG:G.length<1152921504606846976) (hc:ch.length<1152921504606846976) (hr:ro.length<1152921504606846976) (hp:U4.length<1152921504606846976) :
  ∃ b,PQ s S G ch key ro nm tk sl U4 tape clock pad limit ring=some b∧Ty s S G ch key ro nm tk sl U4 tape clock pad limit ring=some b∧(b=true → (∀ x ∈ S,Bq x)∧1≤G.length∧(∀ x ∈ S,0≤x)∧(∀ x ∈ G,0≤x)∧OkR clock pad limit ring tape∧(s=false → OkC S ch key ro nm tk sl U4)):=by
 obtain ⟨b1,p1,p2⟩:=pI S hS
 obtain ⟨b2,p3,p4⟩:=qP G hG
 obtain ⟨b3,q1,q2⟩:=uI S [4865,4866,4867] hS (by decide)
 obtain ⟨b4,q3,q4⟩:=uI G [29,23] hG (by decide)
 obtain rfl:b1=b3:=Ha (p2.trans q2.symm)
 obtain rfl:b2=b4:=Ha (p4.trans q4.symm)
 unfold PQ Ty
 rw [p1,q1,if_pos (show ([4865,4866,4867]:List Int).length=3 from rfl)]
 cases b1 with
 | false=>exact ⟨false,rfl,rfl,fun h=>nomatch h⟩
 | true =>
  have abX : ∀ x ∈ S,x ∈ [4865,4866,4867]:=fun x hx=>by
   obtain ⟨n,hn,rfl⟩:=Jh.1 hx
   exact ((p2.1 rfl).2.2 n hn).1
  have hk : ∀ x ∈ S,Bq x:=fun x hx=>by
   have:=abX x hx; simp at this; exact this
  cases b2 with
  | false=>exact ⟨false,Z5 rfl (Z5 (v:=true) (Zi (by decide) (Z5 p3 (ZM rfl rfl))) rfl),Z5 rfl (Z5 (v:=true) (Zi (by decide) (ZM rfl (Z5 q3 (ZM rfl rfl)))) rfl),fun h=>nomatch h⟩
  | true =>
   have acZ : ∀ x ∈ G,x ∈ [29,23]:=fun x hx=>by
    obtain ⟨n,hn,rfl⟩:=Jh.1 hx
    exact ((p4.1 rfl).2.2 n hn).1
   rw [p3,q3]
   simp only [Po,Option.bind_some]
   by_cases hR:OkR clock pad limit ring tape
   ·obtain ⟨r1,r2,r3,r4,r5⟩:=hR
    have hok:=(⟨r1,r2,r3,r4,r5⟩:OkR clock pad limit ring tape)
    have e1:(if (!true)=true then (some true) else (if (!true)=true then (some true) else (if (!decide (0≤clock∧clock≤4294967295))=true then (some true) else (if (!decide (0≤pad∧pad≤16384))=true then (some true) else (if (!decide (4≤limit∧limit≤16777216))=true then (some true) else (if (!decide (33290≤ring∧ring≤262144))=true then (some true) else (some (decide (65536<((tape).length:Int))))))))))=some false:=by
     rw [decide_eq_true r1,decide_eq_true r2,decide_eq_true r3,decide_eq_true r4,decide_eq_false (by omega)]; rfl
    have e2:(if (!true)=true then (some true) else (if (([29,23]:List (Int))).length=2 then (if (!true)=true then (some true) else (if clock<0 then (some true) else (if 4294967295<clock then (some true) else (if pad<0 then (some true) else (if 16384<pad then (some true) else (if limit<4 then (some true) else (if 16777216<limit then (some true) else (if ring<33290 then (some true) else (if 262144<ring then (some true) else (some (decide (65536<((tape).length:Int))))))))))))) else none))=some false:=by
     refine Zi (by decide) (ZM rfl (Zi (by decide) (Zi (by omega) (Zi (by omega) (Zi (by omega) (Zi (by omega) (Zi (by omega) (Zi (by omega) (Zi (by omega) (Zi (by omega) ?_))))))))))
     rw [decide_eq_false (by omega)]
    have facts : ∀ {P:Prop},P → (∀ x ∈ S,Bq x)∧1≤G.length∧(∀ x ∈ S,0≤x)∧(∀ x ∈ G,0≤x)∧OkR clock pad limit ring tape∧P:=fun h=>⟨hk,(p4.1 rfl).1,fun x hx=>by have:=abX x hx; simp at this; omega,fun x hx=>by have:=acZ x hx; simp at this; omega,hok,h⟩
    cases s with
    | true =>
     obtain ⟨b,s1,s2⟩:=rA (s:=true) (S:=S) (G:=G) (ch:=ch) (key:=key) (ro:=ro) (nm:=nm) (tk:=tk) (sl:=sl) (U4:=U4) (tape:=tape) (clock:=clock) (pad:=pad) (limit:=limit) (ring:=ring) hc hr hp
     obtain ⟨b',s3,s4⟩:=wu (s:=true) (S:=S) (G:=G) (ch:=ch) (key:=key) (ro:=ro) (nm:=nm) (tk:=tk) (sl:=sl) (U4:=U4) (tape:=tape) (clock:=clock) (pad:=pad) (limit:=limit) (ring:=ring) hc
     obtain rfl:b=b':=Ha (s2.trans s4.symm)
     exact ⟨b,Z5 e1 (Zi (by decide) (ZM rfl (Z5 s1 rfl))),Z5 e2 (Zi (by decide) (ZM rfl (Z5 s3 rfl))),fun _=>facts fun h=>nomatch h⟩
    | false =>
     obtain ⟨b,s1,s2⟩:=ql (s:=false) (S:=S) (G:=G) (ch:=ch) (key:=key) (ro:=ro) (nm:=nm) (tk:=tk) (sl:=sl) (U4:=U4) (tape:=tape) (clock:=clock) (pad:=pad) (limit:=limit) (ring:=ring) hS hr hp hk
     obtain ⟨b',s3,s4⟩:=wW (s:=false) (S:=S) (G:=G) (ch:=ch) (key:=key) (ro:=ro) (nm:=nm) (tk:=tk) (sl:=sl) (U4:=U4) (tape:=tape) (clock:=clock) (pad:=pad) (limit:=limit) (ring:=ring) hS hr hp hk
     obtain rfl:b=b':=Ha (s2.trans s4.symm)
     exact ⟨b,Z5 e1 (Zi (by decide) (Zi (by decide) (Z5 s1 rfl))),Z5 e2 (Zi (by decide) (Zi (by decide) (Z5 s3 rfl))),fun h=>facts fun _=>s2.1 h⟩
   ·refine ⟨false,Z5 (v:=true) ?_ rfl,Z5 (v:=true) ?_ rfl,fun h=>nomatch h⟩
    ·unfold OkR at hR
     by_cases r1:0≤clock∧clock≤4294967295 <;> by_cases r2:0≤pad∧pad≤16384 <;> by_cases r3:4≤limit∧limit≤16777216 <;> by_cases r4:33290≤ring∧ring≤262144 <;> simp [r1,r2,r3,r4] at hR ⊢
     omega
    ·unfold OkR at hR
     refine Zi (by decide) (ZM rfl (Zi (by decide) ?_))
     repeat (split; · rfl)
     rw [decide_eq_true (by omega)]
end
end Go.Proofs
end
