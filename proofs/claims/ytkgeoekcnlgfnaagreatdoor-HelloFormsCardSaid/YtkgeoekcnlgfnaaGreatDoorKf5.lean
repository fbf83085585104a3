/-
  Part 5 of the proof of what several laws share.
-/
import Derived.Test.YtkgeoekcnlgfnaaGreatDoorProg
import Derived.Test.YtkgeoekcnlgfnaaGreatDoorKf1
import Derived.Test.YtkgeoekcnlgfnaaGreatDoorKf2
import Derived.Test.YtkgeoekcnlgfnaaGreatDoorKf3
import Derived.Test.YtkgeoekcnlgfnaaGreatDoorKf4
set_option linter.unusedVariables false
set_option linter.unusedSimpArgs false
section
namespace Go.Proofs.TryzI
open Go Go.Kx
open Vector (replicate)
set_option maxRecDepth 20000
theorem inf3:Tryz.prog.info? 3=some Tryz.t3:=by kernel_rfl
theorem und3:(Tryz.prog.underlying 3).isSome=true:=by kernel_rfl
theorem zer3:zcells Tryz.t3=some (flat [(1,[vi 0])]):=by kernel_rfl
theorem inf4:Tryz.prog.info? 4=some Tryz.t4:=by kernel_rfl
theorem inf5:Tryz.prog.info? 5=some Tryz.t5:=by kernel_rfl
theorem und5:(Tryz.prog.underlying 5).isSome=true:=by kernel_rfl
theorem zer5:zcells Tryz.t5=some (flat [(1,[v8 0#8])]):=by kernel_rfl
theorem inf9:Tryz.prog.info? 9=some Tryz.t9:=by kernel_rfl
theorem zer9:zcells Tryz.t9=some (flat [(1,[vs ([]:Str)])]):=by kernel_rfl
theorem inf22:Tryz.prog.info? 22=some Tryz.t22:=by kernel_rfl
theorem inf23:Tryz.prog.info? 23=some Tryz.t23:=by kernel_rfl
theorem inf24:Tryz.prog.info? 24=some Tryz.t24:=by kernel_rfl
theorem inf26:Tryz.prog.info? 26=some Tryz.t26:=by kernel_rfl
theorem zer26:zcells Tryz.t26=some (flat [(1,[vb false]),(1,[sl none 0 0]),(1,[sl none 0 0]),(1,[sl none 0 0]),(1,[vs ([]:Str)]),(1,[sl none 0 0]),(1,[vs ([]:Str)]),(1,[vi 0]),(1,[vs ([]:Str)]),(1,[sl none 0 0]),(1,[vs ([]:Str)]),(1,[vi 0]),(1,[vi 0]),(1,[vi 0]),(1,[vi 0])]):=by kernel_rfl
theorem places26 (w:World):((#[Field.mk "Server" 4 0 false "" "" 0,Field.mk "Suites" 22 1 false "" "" 8,Field.mk "Groups" 22 2 false "" "" 32,Field.mk "Chain" 23 3 false "" "" 56,Field.mk "Key" 9 4 false "" "" 80,Field.mk "Roots" 23 5 false "" "" 96,Field.mk "Name" 9 6 false "" "" 120,Field.mk "Tickets" 3 7 false "" "" 136,Field.mk "Seal" 9 8 false "" "" 144,Field.mk "Psk" 24 9 false "" "" 160,Field.mk "Tape" 9 10 false "" "" 184,Field.mk "Clock" 3 11 false "" "" 200,Field.mk "Pad" 3 12 false "" "" 208,Field.mk "Limit" 3 13 false "" "" 216,Field.mk "Ring" 3 14 false "" "" 224]:Array Field).mapM (m:=Sem) fun f:Field=>do pure (f.offset, ← sizeOf f.type)).run Tryz.prog w = .ok ([(0,1),(1,1),(2,1),(3,1),(4,1),(5,1),(6,1),(7,1),(8,1),(9,1),(10,1),(11,1),(12,1),(13,1),(14,1)]:List (Nat × Nat)).toArray w:=by kernel_rfl
theorem inf27:Tryz.prog.info? 27=some Tryz.t27:=by kernel_rfl
theorem inf28:Tryz.prog.info? 28=some Tryz.t28:=by kernel_rfl
theorem inf30:Tryz.prog.info? 30=some Tryz.t30:=by kernel_rfl
theorem zer30:zcells Tryz.t30=some (flat [(1,[vi 0]),(1,[vs ([]:Str)]),(1,[vs ([]:Str)]),(1,[sl none 0 0]),(1,[vs ([]:Str)]),(1,[sl none 0 0]),(1,[sl none 0 0]),(1,[sl none 0 0]),(1,[sl none 0 0]),(1,[sl none 0 0]),(1,[sl none 0 0]),(1,[sl none 0 0]),(1,[vi 0]),(1,[sl none 0 0]),(1,[sl none 0 0]),(1,[vi 0]),(1,[vs ([]:Str)]),(1,[vi 0]),(1,[vi 0]),(1,[vs ([]:Str)]),(1,[vi 0])]):=by kernel_rfl
theorem places30 (w:World):((#[Field.mk "Kind" 3 0 false "" "" 0,Field.mk "Random" 9 1 false "" "" 8,Field.mk "Session" 9 2 false "" "" 24,Field.mk "Suites" 22 3 false "" "" 40,Field.mk "Name" 9 4 false "" "" 64,Field.mk "Versions" 22 5 false "" "" 80,Field.mk "Groups" 22 6 false "" "" 104,Field.mk "Schemes" 22 7 false "" "" 128,Field.mk "Modes" 22 8 false "" "" 152,Field.mk "Shares" 27 9 false "" "" 176,Field.mk "Identities" 28 10 false "" "" 200,Field.mk "Binders" 23 11 false "" "" 224,Field.mk "Psk" 3 12 false "" "" 248,Field.mk "Others" 22 13 false "" "" 256,Field.mk "Certs" 23 14 false "" "" 280,Field.mk "Scheme" 3 15 false "" "" 304,Field.mk "Data" 9 16 false "" "" 312,Field.mk "Life" 3 17 false "" "" 328,Field.mk "Add" 3 18 false "" "" 336,Field.mk "Nonce" 9 19 false "" "" 344,Field.mk "Update" 3 20 false "" "" 360]:Array Field).mapM (m:=Sem) fun f:Field=>do pure (f.offset, ← sizeOf f.type)).run Tryz.prog w = .ok ([(0,1),(1,1),(2,1),(3,1),(4,1),(5,1),(6,1),(7,1),(8,1),(9,1),(10,1),(11,1),(12,1),(13,1),(14,1),(15,1),(16,1),(17,1),(18,1),(19,1),(20,1)]:List (Nat × Nat)).toArray w:=by kernel_rfl
theorem inf34:Tryz.prog.info? 34=some Tryz.t34:=by kernel_rfl
theorem zer34:zcells Tryz.t34=some (flat [(1,[vi 0]),(1,[vi 0]),(1,[vs ([]:Str)]),(1,[vb false]),(1,[vb false]),(1,[vi 0])]):=by kernel_rfl
theorem places34 (w:World):((#[Field.mk "Suite" 3 0 false "" "" 0,Field.mk "Group" 3 1 false "" "" 8,Field.mk "Share" 9 2 false "" "" 16,Field.mk "Retry" 4 3 false "" "" 32,Field.mk "Psk" 4 4 false "" "" 33,Field.mk "Alert" 3 5 false "" "" 40]:Array Field).mapM (m:=Sem) fun f:Field=>do pure (f.offset, ← sizeOf f.type)).run Tryz.prog w = .ok ([(0,1),(1,1),(2,1),(3,1),(4,1),(5,1)]:List (Nat × Nat)).toArray w:=by kernel_rfl
theorem inf36:Tryz.prog.info? 36=some Tryz.t36:=by kernel_rfl
theorem zer36:zcells Tryz.t36=some (flat [(1,[vi 0])]):=by kernel_rfl
theorem inf50:Tryz.prog.info? 50=some Tryz.t50:=by kernel_rfl
theorem zer50:zcells Tryz.t50=some (flat [(1,[vi 0]),(1,[vs ([]:Str)])]):=by kernel_rfl
theorem places50 (w:World):((#[Field.mk "Group" 3 0 false "" "" 0,Field.mk "Key" 9 1 false "" "" 8]:Array Field).mapM (m:=Sem) fun f:Field=>do pure (f.offset, ← sizeOf f.type)).run Tryz.prog w = .ok ([(0,1),(1,1)]:List (Nat × Nat)).toArray w:=by kernel_rfl
theorem und53:(Tryz.prog.underlying 53).isSome=true:=by kernel_rfl
theorem inf57:Tryz.prog.info? 57=some Tryz.t57:=by kernel_rfl
theorem zer57:zcells Tryz.t57=some (flat [(1,[vs ([]:Str)]),(1,[vs ([]:Str)]),(1,[vi 0]),(1,[vi 0]),(1,[vi 0]),(1,[vi 0])]):=by kernel_rfl
theorem places57 (w:World):((#[Field.mk "Ticket" 9 0 false "" "" 0,Field.mk "Secret" 9 1 false "" "" 16,Field.mk "Suite" 3 2 false "" "" 32,Field.mk "Add" 3 3 false "" "" 40,Field.mk "Got" 3 4 false "" "" 48,Field.mk "Life" 3 5 false "" "" 56]:Array Field).mapM (m:=Sem) fun f:Field=>do pure (f.offset, ← sizeOf f.type)).run Tryz.prog w = .ok ([(0,1),(1,1),(2,1),(3,1),(4,1),(5,1)]:List (Nat × Nat)).toArray w:=by kernel_rfl
theorem inf60:Tryz.prog.info? 60=some Tryz.t60:=by kernel_rfl
theorem zer60:zcells Tryz.t60=some (flat [(1,[vs ([]:Str)]),(1,[vi 0])]):=by kernel_rfl
theorem places60 (w:World):((#[Field.mk "Ticket" 9 0 false "" "" 0,Field.mk "Age" 3 1 false "" "" 16]:Array Field).mapM (m:=Sem) fun f:Field=>do pure (f.offset, ← sizeOf f.type)).run Tryz.prog w = .ok ([(0,1),(1,1)]:List (Nat × Nat)).toArray w:=by kernel_rfl
theorem inf66:Tryz.prog.info? 66=some Tryz.t66:=by kernel_rfl
theorem zer66:zcells Tryz.t66=some (flat [(1,[vi 0]),(1,[vs ([]:Str)]),(1,[vi 0]),(1,[vi 0])]):=by kernel_rfl
theorem places66 (w:World):((#[Field.mk "Suite" 3 0 false "" "" 0,Field.mk "Secret" 9 1 false "" "" 8,Field.mk "Made" 3 2 false "" "" 24,Field.mk "Add" 3 3 false "" "" 32]:Array Field).mapM (m:=Sem) fun f:Field=>do pure (f.offset, ← sizeOf f.type)).run Tryz.prog w = .ok ([(0,1),(1,1),(2,1),(3,1)]:List (Nat × Nat)).toArray w:=by kernel_rfl
theorem inf71:Tryz.prog.info? 71=some Tryz.t71:=by kernel_rfl
theorem inf72:Tryz.prog.info? 72=some Tryz.t72:=by kernel_rfl
theorem inf74:Tryz.prog.info? 74=some Tryz.t74:=by kernel_rfl
theorem zer74:zcells Tryz.t74=some (flat [(1,[Value.pointer none]),(1,[Value.pointer none]),(1,[vb false]),(1,[vi 0]),(1,[vi 0]),(1,[vi 0]),(1,[vs ([]:Str)]),(1,[vb false]),(1,[vb false]),(1,[vi 0])]):=by kernel_rfl
theorem places74 (w:World):((#[Field.mk "c" 71 0 false "" "halberd/hello" 0,Field.mk "m" 72 1 false "" "halberd/hello" 8,Field.mk "again" 4 2 false "" "halberd/hello" 16,Field.mk "group" 3 3 false "" "halberd/hello" 24,Field.mk "out" 34 4 false "" "halberd/hello" 32]:Array Field).mapM (m:=Sem) fun f:Field=>do pure (f.offset, ← sizeOf f.type)).run Tryz.prog w = .ok ([(0,1),(1,1),(2,1),(3,1),(4,6)]:List (Nat × Nat)).toArray w:=by kernel_rfl
theorem inf75:Tryz.prog.info? 75=some Tryz.t75:=by kernel_rfl
theorem zer75:zcells Tryz.t75=some [.nilFunc]:=by kernel_rfl
theorem inf115:Tryz.prog.info? 115=some Tryz.t115:=by kernel_rfl
theorem und115:(Tryz.prog.underlying 115).isSome=true:=by kernel_rfl
theorem inf117:Tryz.prog.info? 117=some Tryz.t117:=by kernel_rfl
theorem zer117:zcells Tryz.t117=some (flat [(4,e64 ((replicate 4 0#64).toList))]):=by kernel_rfl
theorem und140:(Tryz.prog.underlying 140).isSome=true:=by kernel_rfl
theorem inf147:Tryz.prog.info? 147=some Tryz.t147:=by kernel_rfl
theorem zer147:zcells Tryz.t147=some (flat [(4,e8 ((replicate 4 0#8).toList))]):=by kernel_rfl
theorem inf159:Tryz.prog.info? 159=some Tryz.t159:=by kernel_rfl
theorem zer159:zcells Tryz.t159=some (flat [(4,e64 ((replicate 4 0#64).toList)),(1,[v64 0#64]),(4,e64 ((replicate 4 0#64).toList)),(4,e64 ((replicate 4 0#64).toList))]):=by kernel_rfl
theorem places159 (w:World):((#[Field.mk "M" 117 0 false "" "" 0,Field.mk "inv" 115 4 false "" "halberd/num" 32,Field.mk "one" 117 5 false "" "halberd/num" 40,Field.mk "two" 117 9 false "" "halberd/num" 72]:Array Field).mapM (m:=Sem) fun f:Field=>do pure (f.offset, ← sizeOf f.type)).run Tryz.prog w = .ok ([(0,4),(4,1),(5,4),(9,4)]:List (Nat × Nat)).toArray w:=by kernel_rfl
theorem inf171:Tryz.prog.info? 171=some Tryz.t171:=by kernel_rfl
theorem zer171:zcells Tryz.t171=some (flat [(16,e8 ((replicate 16 0#8).toList))]):=by kernel_rfl
theorem inf179:Tryz.prog.info? 179=some Tryz.t179:=by kernel_rfl
theorem zer179:zcells Tryz.t179=some (flat [(1,[vi 0]),(1,[vE Er.nil])]):=by kernel_rfl
theorem places179 (w:World):((#[Field.mk "outer" 36 0 false "" "halberd/ticket" 0,Field.mk "inner" 153 1 false "" "halberd/ticket" 8]:Array Field).mapM (m:=Sem) fun f:Field=>do pure (f.offset, ← sizeOf f.type)).run Tryz.prog w = .ok ([(0,1),(1,1)]:List (Nat × Nat)).toArray w:=by kernel_rfl
theorem inf211:Tryz.prog.info? 211=some Tryz.t211:=by kernel_rfl
theorem inf216:Tryz.prog.info? 216=some Tryz.t216:=by kernel_rfl
theorem zer216:zcells Tryz.t216=some (flat [(1,[v64 0#64]),(1,[v64 0#64])]):=by kernel_rfl
theorem places216 (w:World):((#[Field.mk "high" 115 0 false "" "halberd/gcm" 0,Field.mk "low" 115 1 false "" "halberd/gcm" 8]:Array Field).mapM (m:=Sem) fun f:Field=>do pure (f.offset, ← sizeOf f.type)).run Tryz.prog w = .ok ([(0,1),(1,1)]:List (Nat × Nat)).toArray w:=by kernel_rfl
theorem inf219:Tryz.prog.info? 219=some Tryz.t219:=by kernel_rfl
theorem zer219:zcells Tryz.t219=some (flat [(1,[Value.pointer none]),(1,[v64 0#64]),(1,[v64 0#64])]):=by kernel_rfl
theorem places219 (w:World):((#[Field.mk "aes" 211 0 false "" "halberd/gcm" 0,Field.mk "h" 216 1 false "" "halberd/gcm" 8]:Array Field).mapM (m:=Sem) fun f:Field=>do pure (f.offset, ← sizeOf f.type)).run Tryz.prog w = .ok ([(0,1),(1,2)]:List (Nat × Nat)).toArray w:=by kernel_rfl
theorem inf224:Tryz.prog.info? 224=some Tryz.t224:=by kernel_rfl
theorem inf225:Tryz.prog.info? 225=some Tryz.t225:=by kernel_rfl
theorem inf227:Tryz.prog.info? 227=some Tryz.t227:=by kernel_rfl
theorem zer227:zcells Tryz.t227=some (flat [(32,eF (fun p:BitVec 64 × BitVec 64=>[v64 p.1,v64 p.2]) ((replicate 16 (0#64,0#64)).toList)),(16,e64 ((replicate 16 0#64).toList)),(1,[v64 0#64]),(1,[v64 0#64])]):=by kernel_rfl
theorem places227 (w:World):((#[Field.mk "table" 224 0 false "" "halberd/gcm" 0,Field.mk "folds" 225 32 false "" "halberd/gcm" 256,Field.mk "y" 216 48 false "" "halberd/gcm" 384]:Array Field).mapM (m:=Sem) fun f:Field=>do pure (f.offset, ← sizeOf f.type)).run Tryz.prog w = .ok ([(0,32),(32,16),(48,2)]:List (Nat × Nat)).toArray w:=by kernel_rfl
theorem inf243:Tryz.prog.info? 243=some Tryz.t243:=by kernel_rfl
theorem zer243:zcells Tryz.t243=some (flat [(256,e8 ((replicate 256 0#8).toList))]):=by kernel_rfl
theorem inf245:Tryz.prog.info? 245=some Tryz.t245:=by kernel_rfl
theorem inf247:Tryz.prog.info? 247=some Tryz.t247:=by kernel_rfl
theorem zer247:zcells Tryz.t247=some (flat [(256,e8 ((replicate 256 0#8).toList)),(1,[sl none 0 0])]):=by kernel_rfl
theorem places247 (w:World):((#[Field.mk "table" 243 0 false "" "halberd/aes" 0,Field.mk "keys" 245 256 false "" "halberd/aes" 256]:Array Field).mapM (m:=Sem) fun f:Field=>do pure (f.offset, ← sizeOf f.type)).run Tryz.prog w = .ok ([(0,256),(256,1)]:List (Nat × Nat)).toArray w:=by kernel_rfl
end Go.Proofs.TryzI
end

section
namespace Go.Kx
open Go
theorem loop_at {σ τ:Type} {body:σ → Option (σ ⊕ τ)} (f:Nat → σ) (n:Nat) (t:τ) (hstep : ∀ k,k<n → body (f k)=some (.inl (f (k+1)))) (hend:body (f n)=some (.inr t)) :
  ∀ (d m fuel:Nat),m+d=n → d<fuel → loop body fuel (f m)=some t
 | 0,m,0,_,h=>by omega
 | 0,m,fuel+1,hm,_=>by
  have:m=n:=by omega
  subst this
  simp only [loop,hend]
 | d+1,m,0,_,h=>by omega
 | d+1,m,fuel+1,hm,h=>by
  simp only [loop,hstep m (by omega)]
  exact loop_at f n t hstep hend d (m+1) fuel (by omega) (by omega)
theorem loop_iter {σ τ:Type} {body:σ → Option (σ ⊕ τ)} (f:Nat → σ) (n:Nat) (t:τ) (hn:n<1152921504606846976) (hstep : ∀ k,k<n → body (f k)=some (.inl (f (k+1)))) (hend:body (f n)=some (.inr t)):loop body BIG (f 0)=some t :=
 loop_at f n t hstep hend n 0 BIG (by omega) hn
theorem w64_id {x:Int} (h0 : -9223372036854775808≤x) (h1:x<9223372036854775808):w64 x=x:=by
 unfold w64
 omega
theorem w64_nat {n:Nat} (h:n<9223372036854775808):w64 (n:Int)=n:=w64_id (by omega) (by omega)
theorem ltt_i {α β:Type} {x:α} {f:α → β} {r:β} (h : ∀ v,v=x → f v=r):ltt x f=r:=h x rfl
theorem if_i {α:Type} {p:Prop} [Decidable p] {x y r:α} (hp:p) (h:x=r):(if p then x else y)=r:=by rwa [if_pos hp]
theorem if_n {α:Type} {p:Prop} [Decidable p] {x y r:α} (hp : ¬ p) (h:y=r):(if p then x else y)=r:=by rwa [if_neg hp]
theorem bind_i {α β:Type} {x:Option α} {f:α → Option β} {r:Option β} {v:α} (hx:x=some v) (h:f v=r):x.bind f=r:=by subst hx; exact h
end Go.Kx
end

section
namespace Go.Kx
open Go
theorem loop_fn {S τ:Type} {body:S → Option (S ⊕ τ)} (f:Nat → S) (n:Nat) {s0:S} (t:τ) (hn:n<1152921504606846976) (h0:s0=f 0)
  (hstep : ∀ k,k<n → body (f k)=some (.inl (f (k+1)))) (hend:body (f n)=some (.inr t)):loop body BIG s0=some t:=by
 subst h0; exact loop_iter f n t hn hstep hend
end Go.Kx
namespace Go.Kx
end Go.Kx
namespace Go.Kx
end Go.Kx
end

section
namespace Go.Kx
open Go
theorem TL_join {C:Ctx} {ops:Array Oper} {Q:Exit → Act → World → Prop} {l:List Oper} {m:Sl} {L:Mem} {Γ:Type} (m':Γ → Sl) (L':Γ → Mem)
  (hr : ∀ g,TX C Q .normal (m' g) (L' g)) (h:(∀ g,TX C Q .normal (m' g) (L' g)) → TL C ops Q l m L):TL C ops Q l m L:=h hr
end Go.Kx
end

section
namespace Go.Kx
open Go
structure It where
 i:Nat
 d:Nat
 val:List Nat → Nat → Value
 es:Nat → Mem
 deps:List Nat
 mdep:Option Nat
def itSl (γ:Nat → Nat):List It → Sl
 | []=>[]
 | k :: r=>(k.d,k.val (k.deps.map γ) (γ k.i)) :: itSl γ r
def itEs (γ:Nat → Nat):List It → Mem
 | []=>[]
 | k :: r=>k.es (γ k.i)++itEs γ r
def itFind:List It → Nat → Option It
 | [],_=>none
 | k :: r,j=>match Nat.beq k.i j with
  | true=>some k
  | false=>itFind r j
def itPick (T:List It):List Nat → List It
 | []=>[]
 | j :: r=>match itFind T j with
  | none=>itPick T r
  | some k=>k :: itPick T r
def itMem (T:List It) (γ:Nat → Nat):Option Nat → Mem
 | none=>[]
 | some j=>match itFind T j with
  | none=>[]
  | some k=>k.es (γ k.i)
theorem itFind_spec : ∀ {T:List It} {j:Nat} {k:It},itFind T j=some k → k ∈ T∧k.i=j
 | [],_,_,h=>by cases h
 | x :: r,j,k,h=>by
  simp only [itFind] at h
  cases hb:Nat.beq x.i j with
  | true=>simp only [hb,Option.some.injEq] at h; subst h; exact ⟨List.mem_cons_self,Nat.eq_of_beq_eq_true hb⟩
  | false=>simp only [hb] at h; exact ⟨List.mem_cons_of_mem _ (itFind_spec h).1,(itFind_spec h).2⟩
def waitsI (ops:Array Oper) (a x:Nat):Bool :=
 match ops[a]? with
 | none=>false
 | some o=>o.after.any fun e=>Region.binds .any e && Nat.beq e.on x
def waitsT (ops:Array Oper) (T:List It):Nat → Nat → Nat → Bool
 | 0,a,x=>waitsI ops a x
 | f+1,a,x=>waitsI ops a x || T.any fun k=>waitsI ops a k.i && waitsT ops T f k.i x
def noDup:List Nat → Bool
 | []=>true
 | x :: r => !(r.any fun y=>Nat.beq x y) && noDup r
theorem noDup_spec : ∀ {l:List Nat},noDup l=true → l.Nodup
 | [],_=>List.nodup_nil
 | x :: r,h=>by
  simp only [noDup,Bool.and_eq_true,Bool.not_eq_true',List.any_eq_false] at h
  refine List.nodup_cons.2 ⟨fun hx=>h.1 x hx (by simp),noDup_spec h.2⟩
section
variable {C:Ctx} {Q:Exit → Act → World → Prop} {m:Sl} {L Lr R:Mem} {ops:Array Oper} {js n:Nat} {done done':Array Bool}
def GW (ops:Array Oper) (o:Oper) (m:Sl):Prop:=o.guard=none ∨ ∃ j want oj dj,o.guard=some (j,want)∧ops[j]? = some oj∧oj.dst=some dj∧lk m dj=some (.bool want)
theorem GW.plain {o:Oper} {m:Sl} (h:o.guard=none):GW ops o m := .inl h
theorem GW.wanted {o:Oper} {m:Sl} {a:Act} (h:GW ops o m) (hs:Slots m a):Region.wanted o (yielded ops a.tmps)=true:=by
 rcases h with h | ⟨j,want,oj,dj,hg,hj,hdj,hb⟩
 ·simp [Region.wanted,h]
 ·have h1:=hs dj _ hb
  simp [Region.wanted,hg,yielded,hj,hdj,h1]
inductive PtLaws (C:Ctx) (ops:Array Oper) (m:Sl) (Lr:Mem) (T:List It):List It → Prop where
 | nil:PtLaws C ops m Lr T []
 | cons {k:It} {r:List It} {oi:Oper} {v:Value} (ho:ops[k.i]? = some oi) (hg : ∀ γ,GW ops oi (itSl γ (itPick T k.deps)++m)) (hd:oi.dst=some k.d) (hN:Nat.blt k.d C.N=true) (hm:(lk m k.d).isNone=true)
   (hv:k.val=fun _ _=>v) (he:k.es=fun _=>[]) (hmd:k.mdep=none) (hl : ∀ (γ:Nat → Nat),OpV C oi (itSl γ (itPick T k.deps)++m) Lr v)
   (hr:PtLaws C ops m Lr T r):PtLaws C ops m Lr T (k :: r)
inductive ItLaws (C:Ctx) (ops:Array Oper) (m:Sl) (L:Mem) (T:List It):List It → Prop where
 | nil:ItLaws C ops m L T []
 | cons {k:It} {r:List It} {oi:Oper} (ho:ops[k.i]? = some oi) (hg : ∀ γ,GW ops oi (itSl γ (itPick T k.deps)++m)) (hd:oi.dst=some k.d) (hN:Nat.blt k.d C.N=true) (hm:(lk m k.d).isNone=true)
   (hl : ∀ (γ:Nat → Nat) (R:Mem),OpE C oi (itSl γ (itPick T k.deps)++m) (itMem T γ k.mdep++(L++R)) (k.val (k.deps.map γ)) (fun b=>k.es b++(itMem T γ k.mdep++(L++R))))
   (hr:ItLaws C ops m L T r):ItLaws C ops m L T (k :: r)
theorem ItLaws.get {T:List It} : ∀ {r:List It},ItLaws C ops m L T r → ∀ k ∈ r, ∃ oi,ops[k.i]? = some oi∧(∀ γ,GW ops oi (itSl γ (itPick T k.deps)++m))∧oi.dst=some k.d∧Nat.blt k.d C.N=true∧lk m k.d=none ∧
  ∀ (γ:Nat → Nat) (R:Mem),OpE C oi (itSl γ (itPick T k.deps)++m) (itMem T γ k.mdep++(L++R)) (k.val (k.deps.map γ)) (fun b=>k.es b++(itMem T γ k.mdep++(L++R)))
 | _, .nil,_,h=>by cases h
 | _, .cons ho hg hd hN hm hl hr,k,h=>by
  rcases List.mem_cons.1 h with rfl | h
  ·exact ⟨_,ho,hg,hd,hN,by simpa using hm,hl⟩
  ·exact hr.get k h
def topo (ops:Array Oper):Array Bool → List It → Bool
 | _,[]=>true
 | D,k :: r=>(match ops[k.i]? with
  | none=>false
  | some o=>o.after.all fun e => !(Region.binds .any e) || D.getD e.on false) && topo ops (D.setIfInBounds k.i true) r
def mixOk (ops:Array Oper) (done:Array Bool) (js:Nat) (T P:List It):Bool :=
 Nat.beq ops.size done.size && ((T++P).all fun k => !(done.getD k.i true)) && ((T++P).all fun k=>k.deps.all fun j=>waitsI ops k.i j) &&
 ((T++P).all fun k=>match k.mdep with | none=>true | some j=>waitsI ops k.i j) &&
 ((List.range ops.size).all fun j=>done.getD j true || ((T++P).any fun k=>Nat.beq k.i j) || T.all fun k=>waitsT ops (T++P) 6 j k.i) && noDup ((T++P).map (·.i)) && noDup ((T++P).map (·.d)) && topo ops done (T++P) &&
 (P.all fun k=>waitsFor ops js k.i) &&
 (P.all fun k=>(List.range ops.size).all fun j=>done.getD j true || (T.any fun x=>Nat.beq x.i j) || Nat.beq j k.i || waitsI ops j k.i || match ops[k.i]?,ops[j]? with | some oi,some oj=>oi.apart ops oj | _,_=>false) &&
 Region.noSelect ops
theorem getD_set {D:Array Bool} {i j:Nat} (h:(D.setIfInBounds i true).getD j false=true):j=i ∨ D.getD j false=true:=by
 by_cases hij:i=j
 ·exact .inl hij.symm
 ·rw [Array.getD_eq_getD_getElem?,Array.getElem?_setIfInBounds_ne hij, ← Array.getD_eq_getD_getElem?] at h
  exact .inr h
theorem topo_ready {X:Array Bool} : ∀ {T:List It} {D:Array Bool},topo ops D T=true → (∀ j,D.getD j false=true → X.getD j false=true) → (∀ k ∈ T,X.getD k.i true=X.getD k.i false) →
  (∃ k ∈ T,X.getD k.i false=false) → ∃ k ∈ T,X.getD k.i false=false∧k.i ∈ Region.ready .any ops X
 | [],_,_,_,_,h=>by obtain ⟨k,hk,_⟩:=h; cases hk
 | k :: r,D,ht,hD,hX,h=>by
  simp only [topo,Bool.and_eq_true] at ht
  cases hk:X.getD k.i false with
  | true =>
   have:=topo_ready ht.2 (fun j hj=>?_) (fun x hx=>hX x (List.mem_cons_of_mem _ hx)) ?_
   ·obtain ⟨x,hx,h2⟩:=this; exact ⟨x,List.mem_cons_of_mem _ hx,h2⟩
   ·rcases getD_set hj with rfl | h1
    ·exact hk
    ·exact hD j h1
   ·obtain ⟨x,hx,hx0⟩:=h
    rcases List.mem_cons.1 hx with rfl | hx
    ·rw [hk] at hx0; cases hx0
    ·exact ⟨x,hx,hx0⟩
  | false =>
   have h1:=ht.1
   split at h1
   ·cases h1
   ·rename_i o ho
    refine ⟨k,List.mem_cons_self,hk,mem_ready.2 ⟨by rw [hX k List.mem_cons_self,hk],o,ho,fun e he hb=>?_⟩⟩
    simp only [Array.all_eq_true'] at h1
    have:=h1 e he
    simp only [hb,Bool.not_true,Bool.false_or] at this
    exact hD _ this
theorem PtLaws.get {T:List It} : ∀ {r:List It},PtLaws C ops m Lr T r → ∀ k ∈ r, ∃ oi v,ops[k.i]? = some oi∧(∀ γ,GW ops oi (itSl γ (itPick T k.deps)++m))∧oi.dst=some k.d∧Nat.blt k.d C.N=true∧lk m k.d=none ∧
  (k.val=fun _ _=>v)∧(k.es=fun _=>[])∧k.mdep=none ∧ ∀ (γ:Nat → Nat),OpV C oi (itSl γ (itPick T k.deps)++m) Lr v
 | _, .nil,_,h=>by cases h
 | _, .cons ho hg hd hN hm hv he hmd hl hr,k,h=>by
  rcases List.mem_cons.1 h with rfl | h
  ·exact ⟨_,_,ho,hg,hd,hN,by simpa using hm,hv,he,hmd,hl⟩
  ·exact hr.get k h
theorem OpE_unit {o:Oper} {m:Sl} {L M:Mem} {v:Value} (h:OpE C o m L (Γ:=Unit) (fun _=>v) (fun _=>M)):OpE C o m L (Γ:=Nat) (fun _=>v) (fun _=>M) :=
 fun a w hs Q K hK=>h a w hs Q K fun _ w' hs'=>hK 0 w' hs'
theorem OpE_v {o:Oper} {m:Sl} {L:Mem} {v:Value} (h:OpV C o m L v):OpE C o m L (Γ:=Nat) (fun _=>v) (fun _=>L):=fun a w hs Q K hK=>by
 unfold Oper.wp
 rw [h a w hs,Oper.upon_value]
 exact hK 0 w hs.step
theorem lk_append {A B:Sl} {t:Nat} {v:Value} (h:lk (A++B) t=some v):(∃ p ∈ A,p.1=t∧p.2=v) ∨ lk B t=some v:=by
 induction A with
 | nil=>exact .inr h
 | cons p A ih =>
  obtain ⟨k,u⟩:=p
  simp only [List.cons_append,lk] at h
  cases hb:Nat.beq k t with
  | true=>simp only [hb,Option.some.injEq] at h; exact .inl ⟨_,List.mem_cons_self,Nat.eq_of_beq_eq_true hb,h⟩
  | false =>
   simp only [hb] at h
   rcases ih h with ⟨p,hp,h1⟩ | h1
   ·exact .inl ⟨p,List.mem_cons_of_mem _ hp,h1⟩
   ·exact .inr h1
theorem itSl_mem {γ:Nat → Nat} : ∀ {T:List It} {p:Nat × Value},p ∈ itSl γ T → ∃ k ∈ T,p=(k.d,k.val (k.deps.map γ) (γ k.i))
 | [],_,h=>by cases h
 | k :: r,p,h=>by
  rcases List.mem_cons.1 h with rfl | h
  ·exact ⟨k,List.mem_cons_self,rfl⟩
  ·obtain ⟨x,hx,he⟩:=itSl_mem h; exact ⟨x,List.mem_cons_of_mem _ hx,he⟩
theorem itPick_mem {T:List It} : ∀ {l:List Nat} {k:It},k ∈ itPick T l → k ∈ T∧k.i ∈ l
 | [],_,h=>by cases h
 | j :: r,k,h=>by
  simp only [itPick] at h
  split at h
  ·exact ⟨(itPick_mem h).1,List.mem_cons_of_mem _ (itPick_mem h).2⟩
  ·rename_i x hx
   rcases List.mem_cons.1 h with rfl | h
   ·exact ⟨(itFind_spec hx).1,(itFind_spec hx).2 ▸ List.mem_cons_self⟩
   ·exact ⟨(itPick_mem h).1,List.mem_cons_of_mem _ (itPick_mem h).2⟩
def upd (γ:Nat → Nat) (i b:Nat):Nat → Nat:=fun j=>match Nat.beq j i with | true=>b | false=>γ j
theorem upd_same {γ:Nat → Nat} {i b:Nat}:upd γ i b i=b:=by simp [upd]
theorem upd_ne {γ:Nat → Nat} {i b j:Nat} (h:j ≠ i):upd γ i b j=γ j:=by
 unfold upd
 cases hb:Nat.beq j i with
 | true=>exact absurd (Nat.eq_of_beq_eq_true hb) h
 | false=>rfl
theorem map_upd {γ:Nat → Nat} {i b:Nat} : ∀ {l:List Nat},i ∉ l → l.map (upd γ i b)=l.map γ
 | [],_=>rfl
 | x :: l,h=>by
  simp only [List.mem_cons,not_or] at h
  simp only [List.map_cons]
  rw [upd_ne (Ne.symm h.1),map_upd h.2]
theorem itEs_upd {γ:Nat → Nat} {i b:Nat} : ∀ {T:List It},(∀ k ∈ T,k.i ≠ i) → itEs (upd γ i b) T=itEs γ T
 | [],_=>rfl
 | k :: r,h=>by
  simp only [itEs]
  rw [upd_ne (h k List.mem_cons_self),itEs_upd fun x hx=>h x (List.mem_cons_of_mem _ hx)]
theorem itEs_perm {γ:Nat → Nat} {T T':List It} (h:T.Perm T'):(itEs γ T).Perm (itEs γ T'):=by
 induction h with
 | nil=>exact List.Perm.refl _
 | cons x _ ih=>exact ih.append_left _
 | swap x y l =>
  simp only [itEs, ← List.append_assoc]
  exact List.Perm.append_right _ List.perm_append_comm
 | trans _ _ h1 h2=>exact h1.trans h2
def setAll (done:Array Bool) (l:List Nat):Array Bool:=l.foldl (fun D i=>D.setIfInBounds i true) done
theorem setAll_get : ∀ (l:List Nat) (done:Array Bool) (j:Nat),(setAll done l)[j]? = if j ∈ l then done[j]?.map (fun _=>true) else done[j]?
 | [],_,_=>by simp [setAll]
 | i :: r,done,j=>by
  have ih:=setAll_get r (done.setIfInBounds i true) j
  show (setAll (done.setIfInBounds i true) r)[j]? = _
  rw [ih]
  by_cases hij:i=j
  ·subst hij
   by_cases hlt:i<done.size
   ·simp [Array.getElem?_setIfInBounds_self_of_lt hlt,Array.getElem?_eq_getElem hlt]
   ·simp [Array.setIfInBounds,hlt,Array.getElem?_eq_none (Nat.not_lt.1 hlt)]
  ·rw [Array.getElem?_setIfInBounds_ne hij]
   have:(j ∈ i :: r) ↔ j ∈ r:=by simp [Ne.symm hij]
   simp only [this]
theorem setAll_perm {l l':List Nat} (h:l.Perm l') (done:Array Bool):setAll done l=setAll done l':=by
 apply Array.ext_getElem?
 intro j
 rw [setAll_get,setAll_get]
 simp only [h.mem_iff]
theorem setAll_push (done:Array Bool) (l:List Nat) (i:Nat):(setAll done l).setIfInBounds i true=setAll done (i :: l):=by
 have:setAll done (l++[i])=(setAll done l).setIfInBounds i true:=by simp [setAll]
 rw [← this]
 exact setAll_perm (List.perm_append_singleton i l) done
theorem waitsI_ready {a x:Nat} {D:Array Bool} (hw:waitsI ops a x=true) (hr:a ∈ Region.ready .any ops D):D.getD x false=true:=by
 obtain ⟨_,o,ho,hall⟩:=mem_ready.1 hr
 simp only [waitsI,ho,Array.any_eq_true',Bool.and_eq_true] at hw
 obtain ⟨e,he,hb,hx⟩:=hw
 have:=Nat.eq_of_beq_eq_true hx
 subst this
 exact hall e he hb
def mFold (γ:Nat → Nat):List It → Sl → Sl
 | [],m=>m
 | k :: r,m=>mFold γ r ((k.d,k.val (k.deps.map γ) (γ k.i)) :: m)
def LFold (γ:Nat → Nat):List It → Mem → Mem
 | [],L=>L
 | k :: r,L=>LFold γ r (k.es (γ k.i)++L)
theorem LFold_perm {γ:Nat → Nat} : ∀ (T:List It) (L:Mem),(L++itEs γ T).Perm (LFold γ T L)
 | [],L=>by simp [LFold,itEs]
 | k :: r,L=>by
  refine List.Perm.trans ?_ (LFold_perm r _)
  simp only [itEs, ← List.append_assoc]
  exact List.Perm.append_right _ List.perm_append_comm
theorem mFold_lk {γ:Nat → Nat} {t:Nat} {v:Value} : ∀ (T:List It) (m:Sl),lk (mFold γ T m) t=some v → (∃ k ∈ T,k.d=t∧k.val (k.deps.map γ) (γ k.i)=v) ∨ lk m t=some v
 | [],m,h => .inr h
 | k :: r,m,h=>by
  rcases mFold_lk r _ h with ⟨x,hx,h1⟩ | h1
  ·exact .inl ⟨x,List.mem_cons_of_mem _ hx,h1⟩
  ·simp only [lk] at h1
   cases hb:Nat.beq k.d t with
   | true=>simp only [hb,Option.some.injEq] at h1; exact .inl ⟨k,List.mem_cons_self,Nat.eq_of_beq_eq_true hb,h1⟩
   | false=>simp only [hb] at h1; exact .inr h1
theorem TA_mix (T P:List It) (n:Nat) {n0:Nat} {is:List Nat} (hn:Nat.beq n0 (n+(T++P).length)=true) (hQ:QP Q) (hc:mixOk ops done js T P=true) (hp:pull is L=some (Lr,R)) (hl:ItLaws C ops m L (T++P) T) (pl:PtLaws C ops m Lr (T++P) P)
  (hd':((setAll done ((T++P).map (·.i))).toList == done'.toList)=true) (hjs:done'.getD js false=false)
  (h : ∀ γ,TA C ops Q js Lr n done' (mFold γ (T++P) m) (LFold γ (T++P) L)):TA C ops Q js Lr n0 done m L:=by
 have hn':=Nat.eq_of_beq_eq_true hn
 subst hn'
 have hd2:setAll done ((T++P).map (·.i))=done':=Array.toList_inj.1 (eq_of_beq hd')
 simp only [mixOk,Bool.and_eq_true,List.all_eq_true,Bool.or_eq_true,List.any_eq_true,Bool.not_eq_true'] at hc
 obtain ⟨⟨⟨⟨⟨⟨⟨⟨⟨⟨hsz,hund⟩,hdeps⟩,hmdep⟩,hoth⟩,hni⟩,hnd⟩,htopo⟩,hwf⟩,hfree⟩,hsel⟩:=hc
 have hsz:=Nat.eq_of_beq_eq_true hsz
 have hni:=noDup_spec hni
 have hnd:=noDup_spec hnd
 have laws : ∀ k ∈ T++P, ∃ oi,ops[k.i]? = some oi∧(∀ γ,GW ops oi (itSl γ (itPick (T++P) k.deps)++m))∧oi.dst=some k.d∧Nat.blt k.d C.N=true∧lk m k.d=none ∧
   ∀ (γ:Nat → Nat) (R:Mem),OpE C oi (itSl γ (itPick (T++P) k.deps)++m) (itMem (T++P) γ k.mdep++(L++R)) (k.val (k.deps.map γ)) (fun b=>k.es b++(itMem (T++P) γ k.mdep++(L++R))):=fun k hk=>by
  rcases List.mem_append.1 hk with h1 | h1
  ·exact hl.get k h1
  ·obtain ⟨oi,v,ho,hg,hd,hN,hm,hv,he,hmd,hlw⟩:=pl.get k h1
   refine ⟨oi,ho,hg,hd,hN,hm,fun γ R a w hs Q K hK=>?_⟩
   rw [hmd] at hs hK
   simp only [itMem,List.nil_append,he,hv] at hs hK
   have hs2:Sat C (itSl γ (itPick (T++P) k.deps)++m) Lr a w:=hs.mem (hs.step.left.pulled hp).left
   unfold Oper.wp
   rw [hlw γ a w hs2,Oper.upon_value]
   exact hK 0 w hs.step
 suffices H : ∀ (Rm Dn:List It) (γ:Nat → Nat) (a:Act) (w:World),(Dn++Rm).Perm (T++P) → Sat C m (L++itEs γ Dn) a w → (∀ k ∈ Dn,a.tmps[k.d]? = some (k.val (k.deps.map γ) (γ k.i))) →
   (∀ k ∈ Dn, ∀ x,waitsI ops k.i x=true → (setAll done (Dn.map (·.i))).getD x false=true) → wpD C.P ops Q js (fun w=>Step C.w0 C.L0 w Lr) (n+Rm.length) (setAll done (Dn.map (·.i))) a w by
  intro a w hs
  have:=H (T++P) [] (fun _=>0) a w (by simp) (by simpa [itEs] using hs) (by simp) (by simp)
  simpa [setAll] using this
 intro Rm
 generalize hr:Rm.length=r
 induction r generalizing Rm with
 | zero =>
  intro Dn γ a w hperm hs hv hcl
  have:Rm=[]:=List.length_eq_zero_iff.1 hr
  subst this
  simp only [List.append_nil] at hperm
  have e1:setAll done (Dn.map (·.i))=done':=by rw [← hd2]; exact setAll_perm (hperm.map _) done
  rw [e1]
  refine h γ a w ⟨hs.defers,hs.size,fun t v ht=>?_,?_,hs.ro⟩
  ·rcases mFold_lk (T++P) m ht with ⟨k,hk,rfl,rfl⟩ | h1
   ·exact hv k (hperm.mem_iff.2 hk)
   ·exact hs.slots t v h1
  ·exact hs.step.perm (((itEs_perm hperm).append_left L).trans (LFold_perm (T++P) L))
 | succ r ih =>
  intro Dn γ a w hperm hs hv hcl
  have hmemT : ∀ k ∈ Dn++Rm,k ∈ T++P:=fun k hk=>hperm.mem_iff.1 hk
  have hni2:((Dn++Rm).map (·.i)).Nodup:=(hperm.map _).nodup_iff.2 hni
  have hnd2:((Dn++Rm).map (·.d)).Nodup:=(hperm.map _).nodup_iff.2 hnd
  have hget : ∀ j b,(setAll done (Dn.map (·.i))).getD j b=if j ∈ Dn.map (·.i) then (if j<done.size then true else b) else done.getD j b:=fun j b=>by
   rw [Array.getD_eq_getD_getElem?,setAll_get]
   split
   ·split
    ·rename_i hlt; simp [Array.getElem?_eq_getElem hlt]
    ·rename_i hlt; simp [Array.getElem?_eq_none (Nat.not_lt.1 hlt)]
   ·rw [Array.getD_eq_getD_getElem?]
  have hdn : ∀ k ∈ Dn,k.i<done.size:=fun k hk=>by
   have:=hund k (hmemT k (List.mem_append_left _ hk))
   by_cases hlt:k.i<done.size
   ·exact hlt
   ·rw [Array.getD_eq_getD_getElem?,Array.getElem?_eq_none (Nat.not_lt.1 hlt)] at this; cases this
  have hrm : ∀ k ∈ Rm,(setAll done (Dn.map (·.i))).getD k.i true=false∧(setAll done (Dn.map (·.i))).getD k.i false=false:=fun k hk=>by
   have hnot:k.i ∉ Dn.map (·.i):=fun hin=>by
    rw [List.map_append] at hni2
    exact (List.nodup_append.1 hni2).2.2 _ hin _ (List.mem_map_of_mem hk) rfl
   have hu:=hund k (hmemT k (List.mem_append_right _ hk))
   rw [hget,hget,if_neg hnot,if_neg hnot]
   refine ⟨hu,?_⟩
   by_cases hlt:k.i<done.size
   ·rw [Array.getD_eq_getD_getElem?,Array.getElem?_eq_getElem hlt] at hu ⊢; simpa using hu
   ·rw [Array.getD_eq_getD_getElem?,Array.getElem?_eq_none (Nat.not_lt.1 hlt)]; rfl
  have ready1 : ∃ k ∈ Rm,k.i ∈ Region.ready .any ops (setAll done (Dn.map (·.i))):=by
   obtain ⟨k0,hk0⟩ : ∃ k0,k0 ∈ Rm:=by cases Rm with | nil=>cases hr | cons x _=>exact ⟨x,List.mem_cons_self⟩
   obtain ⟨k,hkT,hk0',hkr⟩:=topo_ready (ops:=ops) (X:=setAll done (Dn.map (·.i))) htopo (fun j hj=>by
     rw [hget]
     split
     ·rw [Array.getD_eq_getD_getElem?] at hj
      by_cases hlt:j<done.size
      ·rw [if_pos hlt]
      ·rw [Array.getElem?_eq_none (Nat.not_lt.1 hlt)] at hj; cases hj
     ·exact hj) (fun k hk=>by
     rcases List.mem_append.1 (hperm.mem_iff.2 hk) with h2 | h2
     ·rw [hget,hget,if_pos (List.mem_map_of_mem h2),if_pos (List.mem_map_of_mem h2),if_pos (hdn k h2),if_pos (hdn k h2)]
     ·rw [(hrm k h2).1,(hrm k h2).2]) ⟨k0,hmemT k0 (List.mem_append_right _ hk0),(hrm k0 hk0).2⟩
   rcases List.mem_append.1 (hperm.mem_iff.2 hkT) with h2 | h2
   ·rw [hget,if_pos (List.mem_map_of_mem h2),if_pos (hdn k h2)] at hk0'; cases hk0'
   ·exact ⟨k,h2,hkr⟩
  by_cases hTr : ∃ k0 ∈ Rm,k0 ∈ T
  case neg =>
   obtain ⟨k,hk,hkr⟩:=ready1
   have hkP:k ∈ P:=by
    rcases List.mem_append.1 (hmemT k (List.mem_append_right _ hk)) with h1 | h1
    ·exact absurd ⟨k,hk,h1⟩ hTr
    ·exact h1
   obtain ⟨oi,v,ho,hg,hd,hN,hm,hv',he,hmd,hlw⟩:=pl.get k hkP
   obtain ⟨s,t',hst⟩:=List.append_of_mem hk
   subst hst
   have hTd : ∀ x ∈ T,x ∈ Dn:=fun x hx=>by
    rcases List.mem_append.1 (hperm.mem_iff.2 (List.mem_append_left P hx)) with h1 | h1
    ·exact h1
    ·exact absurd ⟨x,h1,hx⟩ hTr
   have hperm2:((k :: Dn)++(s++t')).Perm (T++P):=by
    refine List.Perm.trans ?_ hperm
    simp only [List.cons_append, ← List.append_assoc]
    exact List.perm_middle.symm
   have hnot : ∀ x ∈ Dn,x.i ≠ k.i∧x.d ≠ k.d:=fun x hx=>by
    rw [List.map_append] at hni2 hnd2
    exact ⟨(List.nodup_append.1 hni2).2.2 _ (List.mem_map_of_mem hx) _ (List.mem_map_of_mem hk),(List.nodup_append.1 hnd2).2.2 _ (List.mem_map_of_mem hx) _ (List.mem_map_of_mem hk)⟩
   have hsat:Sat C (itSl γ (itPick (T++P) k.deps)++m) Lr a w:=by
    refine ⟨hs.defers,hs.size,fun t v ht=>?_,(hs.step.left.pulled hp).left,hs.ro⟩
    rcases lk_append ht with ⟨p,hp1,rfl,rfl⟩ | h1
    ·obtain ⟨x,hx,rfl⟩:=itSl_mem hp1
     obtain ⟨hxT,hxi⟩:=itPick_mem hx
     have h1:=waitsI_ready (hdeps k (hmemT k (List.mem_append_right _ hk)) x.i hxi) hkr
     rcases List.mem_append.1 (hperm.mem_iff.2 hxT) with h2 | h2
     ·exact hv x h2
     ·rw [(hrm x h2).2] at h1; cases h1
    ·exact hs.slots t v h1
   have hjs0:(setAll done (Dn.map (·.i))).getD js false=false:=by
    cases hb:(setAll done (Dn.map (·.i))).getD js false with
    | false=>rfl
    | true =>
     rw [← hd2,Array.getD_eq_getD_getElem?,setAll_get] at hjs
     rw [Array.getD_eq_getD_getElem?,setAll_get] at hb
     by_cases hin:js ∈ Dn.map (·.i)
     ·have hin2:js ∈ (T++P).map (·.i):=by
       obtain ⟨x,hx,rfl⟩:=List.mem_map.1 hin
       exact List.mem_map_of_mem (hmemT x (List.mem_append_left _ hx))
      rw [if_pos hin2] at hjs; rw [if_pos hin] at hb; rw [hb] at hjs; cases hjs
     ·rw [if_neg hin] at hb
      split at hjs
      ·cases hj:done[js]? with
       | none=>rw [hj] at hb; cases hb
       | some b=>rw [hj] at hjs; simp at hjs
      ·rw [hb] at hjs; cases hjs
   refine wpD_first ho hsel hQ (hwf k hkP) (n+r) (setAll done (Dn.map (·.i))) a w (fun j oj hoj hji hun hnw=>?_) hkr hjs0 (.inl ⟨(hg γ).wanted (m:=itSl γ (itPick (T++P) k.deps)++m) hsat.slots,fun w' hw'=>hlw γ a w' (hsat.mem hw')⟩) (hs.step.left.pulled hp).left ?_
   ·have hlt:j<ops.size:=(Array.getElem?_eq_some_iff.1 hoj).1
    rcases hfree k hkP j (List.mem_range.2 hlt) with (((h1 | ⟨x,hx,hxj⟩) | h1) | h1) | h1
    ·rw [hget] at hun
     split at hun
     ·rw [if_pos (hsz ▸ hlt)] at hun; cases hun
     ·rw [h1] at hun; cases hun
    ·have hxj:=Nat.eq_of_beq_eq_true hxj
     rw [hget,if_pos (hxj ▸ List.mem_map_of_mem (hTd x hx)),if_pos (hsz ▸ hlt)] at hun; cases hun
    ·exact absurd (Nat.eq_of_beq_eq_true h1) hji
    ·simp only [waitsI,hoj,Array.any_eq_true',Bool.and_eq_true] at h1
     obtain ⟨e,he1,he2,he3⟩:=h1
     exact absurd (Nat.eq_of_beq_eq_true he3) (hnw e he1 he2)
    ·rw [ho,hoj] at h1; exact h1
   ·rw [setAll_push,hd]
    have hE:itEs (upd γ k.i 0) (k :: Dn)=itEs γ Dn:=by
     simp only [itEs,upd_same,he,List.nil_append]
     rw [itEs_upd fun x hx=>(hnot x hx).1]
    have hlen:(s++t').length=r:=by simp at hr ⊢; omega
    refine ih (s++t') hlen (k :: Dn) (upd γ k.i 0) (a.put (some k.d) v) w hperm2 ?_ ?_ ?_
    ·rw [hE]
     have h2:=hs.put (v:=v) hN hs.step
     refine ⟨h2.defers,h2.size,fun t u ht=>h2.slots t u ?_,h2.step,h2.ro⟩
     simp only [lk]
     cases hb:Nat.beq k.d t with
     | true=>have:=Nat.eq_of_beq_eq_true hb; subst this; rw [hm] at ht; cases ht
     | false=>exact ht
    ·intro x hx
     have hlt:k.d<a.tmps.size:=by rw [hs.size]; exact Nat.le_of_ble_eq_true hN
     rcases List.mem_cons.1 hx with rfl | hx
     ·simp [Act.put,hlt,hv']
     ·have hother:k.i ∉ x.deps:=fun hin=>by
       have h1:=hcl x hx k.i (hdeps x (hmemT x (List.mem_append_left _ hx)) k.i hin)
       rw [(hrm k hk).2] at h1; cases h1
      rw [upd_ne (hnot x hx).1,map_upd hother]
      have:=hv x hx
      simp [Act.put,Array.getElem?_setIfInBounds_ne (Ne.symm (hnot x hx).2),this]
    ·intro x hx z hz
     have h3:(setAll done (Dn.map (·.i))).getD z false=true:=by
      rcases List.mem_cons.1 hx with rfl | hx
      ·exact waitsI_ready hz hkr
      ·exact hcl x hx z hz
     rw [List.map_cons, ← setAll_push]
     by_cases hkz:k.i=z
     ·subst hkz
      rw [Array.getD_eq_getD_getElem?] at h3 ⊢
      by_cases hlt:k.i<(setAll done (Dn.map (·.i))).size
      ·rw [Array.getElem?_setIfInBounds_self_of_lt hlt]; rfl
      ·rw [Array.getElem?_eq_none (Nat.not_lt.1 hlt)] at h3; cases h3
     ·rw [Array.getD_eq_getD_getElem?,Array.getElem?_setIfInBounds_ne hkz, ← Array.getD_eq_getD_getElem?]; exact h3
  case pos =>
  obtain ⟨k0,hk0,hk0T⟩:=hTr
  have only : ∀ i ∈ Region.ready .any ops (setAll done (Dn.map (·.i))), ∃ k ∈ Rm,k.i=i:=fun i hi=>by
   obtain ⟨hun,o,ho,_⟩:=mem_ready.1 hi
   have hlt:i<ops.size:=(Array.getElem?_eq_some_iff.1 ho).1
   rw [hget] at hun
   rcases hoth i (List.mem_range.2 hlt) with (h1 | ⟨k,hk,hki⟩) | h1
   ·split at hun
    ·rw [if_pos (hsz ▸ hlt)] at hun; cases hun
    ·rw [h1] at hun; cases hun
   ·have hki:=Nat.eq_of_beq_eq_true hki
    rcases List.mem_append.1 (hperm.mem_iff.2 hk) with h2 | h2
    ·rw [if_pos (hki ▸ List.mem_map_of_mem h2),if_pos (hsz ▸ hlt)] at hun; cases hun
    ·exact ⟨k,h2,hki⟩
   ·have hT : ∀ (f a x:Nat),(∀ z,waitsI ops a z=true → (setAll done (Dn.map (·.i))).getD z false=true) → waitsT ops (T++P) f a x=true → (setAll done (Dn.map (·.i))).getD x false=true:=by
     intro f
     induction f with
     | zero=>intro a x ha hx; exact ha x hx
     | succ f ihf =>
      intro a x ha hx
      simp only [waitsT,Bool.or_eq_true,List.any_eq_true,Bool.and_eq_true] at hx
      rcases hx with hx | ⟨k,hk,hx1,hx2⟩
      ·exact ha x hx
      ·have hd:=ha _ hx1
       rcases List.mem_append.1 (hperm.mem_iff.2 hk) with h2 | h2
       ·exact ihf k.i x (hcl k h2) hx2
       ·rw [(hrm k h2).2] at hd; cases hd
    have:=hT 6 i k0.i (fun z hz=>waitsI_ready hz hi) (h1 k0 hk0T)
    rw [(hrm k0 hk0).2] at this; cases this
  refine ⟨fun h0=>?_,fun i hi=>?_⟩
  ·obtain ⟨k,_,hkr⟩:=ready1
   rw [h0] at hkr; cases hkr
  ·obtain ⟨k,hk,hki⟩:=only i hi
   subst hki
   obtain ⟨oi,ho,hg,hd,hN,hm,hlaw⟩:=laws k (hmemT k (List.mem_append_right _ hk))
   have hnot : ∀ x ∈ Dn,x.i ≠ k.i∧x.d ≠ k.d:=fun x hx=>by
    rw [List.map_append] at hni2 hnd2
    exact ⟨(List.nodup_append.1 hni2).2.2 _ (List.mem_map_of_mem hx) _ (List.mem_map_of_mem hk),(List.nodup_append.1 hnd2).2.2 _ (List.mem_map_of_mem hx) _ (List.mem_map_of_mem hk)⟩
   have doneIn : ∀ j,waitsI ops k.i j=true → ∀ x ∈ T++P,x.i=j → x ∈ Dn:=fun j hw x hx hxj=>by
    have h1:=waitsI_ready hw hi
    rcases List.mem_append.1 (hperm.mem_iff.2 hx) with h2 | h2
    ·exact h2
    ·rw [← hxj,(hrm x h2).2] at h1; cases h1
   obtain ⟨s,t',hst⟩:=List.append_of_mem hk
   subst hst
   have hperm2:((k :: Dn)++(s++t')).Perm (T++P):=by
    refine List.Perm.trans ?_ hperm
    simp only [List.cons_append, ← List.append_assoc]
    exact List.perm_middle.symm
   obtain ⟨R',hR'⟩ : ∃ R',(L++itEs γ Dn).Perm (itMem (T++P) γ k.mdep++(L++R')):=by
    cases hmd:k.mdep with
    | none=>exact ⟨itEs γ Dn,by simp only [itMem,List.nil_append]; exact List.Perm.refl _⟩
    | some j =>
     cases hf:itFind (T++P) j with
     | none=>exact ⟨itEs γ Dn,by simp only [itMem,hf,List.nil_append]; exact List.Perm.refl _⟩
     | some x =>
      have hw:waitsI ops k.i j=true:=by
       have:=hmdep k (hmemT k (List.mem_append_right _ hk))
       rw [hmd] at this; exact this
      have hx:=doneIn j hw x (itFind_spec hf).1 (itFind_spec hf).2
      obtain ⟨s2,t2,rfl⟩:=List.append_of_mem hx
      refine ⟨itEs γ (s2++t2),?_⟩
      simp only [itMem,hf]
      have h1:(itEs γ (s2++x :: t2)).Perm (x.es (γ x.i)++itEs γ (s2++t2)):=itEs_perm (List.perm_middle (a:=x))
      refine (h1.append_left L).trans ?_
      simp only [← List.append_assoc]
      exact List.Perm.append_right _ List.perm_append_comm
   have hsat:Sat C (itSl γ (itPick (T++P) k.deps)++m) (itMem (T++P) γ k.mdep++(L++R')) a w:=by
    refine ⟨hs.defers,hs.size,fun t v ht=>?_,hs.step.perm hR',hs.ro⟩
    rcases lk_append ht with ⟨p,hp1,rfl,rfl⟩ | h1
    ·obtain ⟨x,hx,rfl⟩:=itSl_mem hp1
     obtain ⟨hxT,hxi⟩:=itPick_mem hx
     exact hv x (doneIn x.i (hdeps k (hmemT k (List.mem_append_right _ hk)) x.i hxi) x hxT rfl)
    ·exact hs.slots t v h1
   unfold wpOp
   simp only [ho]
   rw [if_pos ((hg γ).wanted hsat.slots)]
   rw [setAll_push]
   refine .inl (hlaw γ R' a w hsat Q _ fun g w' hs'=>?_)
   have hmem2:(k.es g++(itMem (T++P) γ k.mdep++(L++R'))).Perm (L++(k.es g++itEs γ Dn)):=by
    refine (hR'.symm.append_left (k.es g)).trans ?_
    simp only [← List.append_assoc]
    exact List.Perm.append_right _ List.perm_append_comm
   have hstep:=hs'.perm hmem2
   refine ⟨fun _=>(hstep.left.pulled hp).left,?_⟩
   have hE:itEs (upd γ k.i g) (k :: Dn)=k.es g++itEs γ Dn:=by
    simp only [itEs,upd_same]
    rw [itEs_upd fun x hx=>(hnot x hx).1]
   have hlen:(s++t').length=r:=by simp at hr ⊢; omega
   have:=ih (s++t') hlen (k :: Dn) (upd γ k.i g) (a.put oi.dst (k.val (k.deps.map γ) g)) w' hperm2 ?_ ?_ ?_
   ·exact this
   ·rw [hE,hd]
    have h2:=hs.put (v:=k.val (k.deps.map γ) g) hN hstep
    refine ⟨h2.defers,h2.size,fun t v ht=>h2.slots t v ?_,h2.step,h2.ro⟩
    simp only [lk]
    cases hb:Nat.beq k.d t with
    | true=>have:=Nat.eq_of_beq_eq_true hb; subst this; rw [hm] at ht; cases ht
    | false=>exact ht
   ·intro x hx
    have hlt:k.d<a.tmps.size:=by rw [hs.size]; exact Nat.le_of_ble_eq_true hN
    rw [hd]
    rcases List.mem_cons.1 hx with rfl | hx
    ·have hself:x.i ∉ x.deps:=fun hin=>by
      have h1:=waitsI_ready (hdeps x (hmemT x (List.mem_append_right _ hk)) x.i hin) hi
      rw [(hrm x hk).2] at h1; cases h1
     rw [map_upd hself]
     simp [Act.put,hlt,upd_same]
    ·have hother:k.i ∉ x.deps:=fun hin=>by
      have h1:=hcl x hx k.i (hdeps x (hmemT x (List.mem_append_left _ hx)) k.i hin)
      rw [(hrm k hk).2] at h1; cases h1
     rw [upd_ne (hnot x hx).1,map_upd hother]
     have:=hv x hx
     simp [Act.put,Array.getElem?_setIfInBounds_ne (Ne.symm (hnot x hx).2),this]
   ·intro x hx z hz
    have h3:(setAll done (Dn.map (·.i))).getD z false=true:=by
     rcases List.mem_cons.1 hx with rfl | hx
     ·exact waitsI_ready hz hi
     ·exact hcl x hx z hz
    rw [List.map_cons, ← setAll_push]
    by_cases hkz:k.i=z
    ·subst hkz
     rw [Array.getD_eq_getD_getElem?] at h3 ⊢
     by_cases hlt:k.i<(setAll done (Dn.map (·.i))).size
     ·rw [Array.getElem?_setIfInBounds_self_of_lt hlt]; rfl
     ·rw [Array.getElem?_eq_none (Nat.not_lt.1 hlt)] at h3; cases h3
    ·rw [Array.getD_eq_getD_getElem?,Array.getElem?_setIfInBounds_ne hkz, ← Array.getD_eq_getD_getElem?]; exact h3
theorem TA_takeW {i d j dj:Nat} {want:Bool} {oi oj:Oper} {v:Value} {is:List Nat} (hi:ops[i]? = some oi) (hg:oi.guard=some (j,want)) (hj:ops[j]? = some oj) (hdj:oj.dst=some dj) (hb:lk m dj=some (.bool want))
  (hd:oi.dst=some d) (hN:Nat.blt d C.N=true) (hsel:Region.noSelect ops=true) (hQ:QP Q)
  (ht:Took ops js i done done'=true) (hp:pull is L=some (Lr,R)) (hv:OpV C oi m Lr v) (h:TA C ops Q js Lr n done' ((d,v) :: m) L):TA C ops Q js Lr (n+1) done m L:=fun a w hs=>by
 simp only [Took,Bool.and_eq_true,Bool.not_eq_true',beq_iff_eq,Array.toList_inj] at ht
 obtain ⟨h1,h2,h3,h4,h5⟩:=ht
 have hS0:Step C.w0 C.L0 w Lr:=(hs.step.pulled hp).left
 have hw:Region.wanted oi (yielded ops a.tmps)=true:=by
  have h1:=hs.slots dj _ hb
  simp [Region.wanted,hg,yielded,hj,hdj,h1]
 refine wpD_first hi hsel hQ h4 n done a w (Region.free_spec hi h1) (by simpa using h2) h3 (.inl ⟨hw,fun w' hw'=>hv a w' (hs.mem hw')⟩) hS0 ?_
 rw [h5]
 refine h _ _ ?_
 rw [hd]
 exact hs.put hN hs.step
theorem TA_takeS {i d j dj:Nat} {want b:Bool} {oi oj:Oper} {is:List Nat} (hi:ops[i]? = some oi) (hg:oi.guard=some (j,want)) (hj:ops[j]? = some oj) (hdj:oj.dst=some dj) (hb:lk m dj=some (.bool b)) (hne:(b == want)=false)
  (hd:oi.dst=some d) (hN:Nat.blt d C.N=true) (hsel:Region.noSelect ops=true) (hQ:QP Q)
  (ht:Took ops js i done done'=true) (hp:pull is L=some (Lr,R)) (h:TA C ops Q js Lr n done' ((d,undef) :: m) L):TA C ops Q js Lr (n+1) done m L:=fun a w hs=>by
 simp only [Took,Bool.and_eq_true,Bool.not_eq_true',beq_iff_eq,Array.toList_inj] at ht
 obtain ⟨h1,h2,h3,h4,h5⟩:=ht
 have hS0:Step C.w0 C.L0 w Lr:=(hs.step.pulled hp).left
 have hw:Region.wanted oi (yielded ops a.tmps)=false:=by
  have h1:=hs.slots dj _ hb
  simp only [Region.wanted,hg,yielded,hj,hdj,Option.bind_some,h1]
  cases b <;> cases want <;> simp_all
 refine wpD_first hi hsel hQ h4 n done a w (Region.free_spec hi h1) (by simpa using h2) h3 (.inr ⟨hw,rfl⟩) hS0 ?_
 rw [h5]
 refine h _ _ ?_
 rw [hd]
 exact hs.put hN hs.step
theorem TO_eW {i d j dj:Nat} {want:Bool} {oi oj:Oper} {Γ:Type} {val:Γ → Value} {mem:Γ → Mem} {is:List Nat} {R:Γ → Mem} (hi:ops[i]? = some oi) (hg:oi.guard=some (j,want)) (hd:oi.dst=some d) (hN:Nat.blt d C.N=true)
  (hj:ops[j]? = some oj) (hdj:oj.dst=some dj) (hb:lk m dj=some (.bool want))
  (hset:((done.setIfInBounds i true).toList == done'.toList)=true) (ho:OpE C oi m L val mem) (hk:done'.getD js false=false → ∀ g,pull is (mem g)=some (Lr,R g)) (h : ∀ g,TA C ops Q js Lr n done' ((d,val g) :: m) (mem g)) :
  TO C ops Q js Lr n done m L i:=fun a w hs=>by
 have hset':done.setIfInBounds i true=done':=Array.toList_inj.1 (eq_of_beq hset)
 have hw:Region.wanted oi (yielded ops a.tmps)=true:=by
  have h1:=hs.slots dj _ hb
  simp [Region.wanted,hg,yielded,hj,hdj,h1]
 unfold wpOp
 simp only [hi]
 rw [if_pos hw]
 rw [hset']
 refine .inl (ho a w hs Q _ fun g w' hs'=>⟨fun hj=>(hs'.pulled (hk hj g)).left,h g _ _ ?_⟩)
 rw [hd]; exact hs.put hN hs'
theorem TC_em {c:Code} (b:Bool) (ht:b=true → TC C c Q m L) (hf:b=false → TC C c Q m L):TC C c Q m L:=by
 cases b
 ·exact hf rfl
 ·exact ht rfl
end
end Go.Kx
end
