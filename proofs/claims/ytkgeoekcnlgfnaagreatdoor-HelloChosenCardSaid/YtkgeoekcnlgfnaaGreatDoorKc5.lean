/-
  Part 5 of the proof of what several laws share.
-/
import Derived.Test.YtkgeoekcnlgfnaaGreatDoorProg
import Derived.Test.YtkgeoekcnlgfnaaGreatDoorKc1
import Derived.Test.YtkgeoekcnlgfnaaGreatDoorKc2
import Derived.Test.YtkgeoekcnlgfnaaGreatDoorKc3
import Derived.Test.YtkgeoekcnlgfnaaGreatDoorKc4
set_option linter.unusedVariables false
set_option linter.unusedSimpArgs false
section
namespace Go.Proofs.TryzI
open Go Go.Kx
open Vector (replicate)
set_option maxRecDepth 20000
theorem inf3:Tryz.prog.info? 3=some Tryz.t3:=by kernel_rfl
theorem und3:(Tryz.prog.underlying 3).isSome=true:=by kernel_rfl
theorem zer3:zcells Tryz.t3=some (flat [(1,[vi 0])]):=by kernel_rfl
theorem inf4:Tryz.prog.info? 4=some Tryz.t4:=by kernel_rfl
theorem inf5:Tryz.prog.info? 5=some Tryz.t5:=by kernel_rfl
theorem und5:(Tryz.prog.underlying 5).isSome=true:=by kernel_rfl
theorem zer5:zcells Tryz.t5=some (flat [(1,[v8 0#8])]):=by kernel_rfl
theorem inf9:Tryz.prog.info? 9=some Tryz.t9:=by kernel_rfl
theorem zer9:zcells Tryz.t9=some (flat [(1,[vs ([]:Str)])]):=by kernel_rfl
theorem inf22:Tryz.prog.info? 22=some Tryz.t22:=by kernel_rfl
theorem inf23:Tryz.prog.info? 23=some Tryz.t23:=by kernel_rfl
theorem inf24:Tryz.prog.info? 24=some Tryz.t24:=by kernel_rfl
theorem inf26:Tryz.prog.info? 26=some Tryz.t26:=by kernel_rfl
theorem zer26:zcells Tryz.t26=some (flat [(1,[vb false]),(1,[sl none 0 0]),(1,[sl none 0 0]),(1,[sl none 0 0]),(1,[vs ([]:Str)]),(1,[sl none 0 0]),(1,[vs ([]:Str)]),(1,[vi 0]),(1,[vs ([]:Str)]),(1,[sl none 0 0]),(1,[vs ([]:Str)]),(1,[vi 0]),(1,[vi 0]),(1,[vi 0]),(1,[vi 0])]):=by kernel_rfl
theorem places26 (w:World):((#[Field.mk "Server" 4 0 false "" "" 0,Field.mk "Suites" 22 1 false "" "" 8,Field.mk "Groups" 22 2 false "" "" 32,Field.mk "Chain" 23 3 false "" "" 56,Field.mk "Key" 9 4 false "" "" 80,Field.mk "Roots" 23 5 false "" "" 96,Field.mk "Name" 9 6 false "" "" 120,Field.mk "Tickets" 3 7 false "" "" 136,Field.mk "Seal" 9 8 false "" "" 144,Field.mk "Psk" 24 9 false "" "" 160,Field.mk "Tape" 9 10 false "" "" 184,Field.mk "Clock" 3 11 false "" "" 200,Field.mk "Pad" 3 12 false "" "" 208,Field.mk "Limit" 3 13 false "" "" 216,Field.mk "Ring" 3 14 false "" "" 224]:Array Field).mapM (m:=Sem) fun f:Field=>do pure (f.offset, ← sizeOf f.type)).run Tryz.prog w = .ok ([(0,1),(1,1),(2,1),(3,1),(4,1),(5,1),(6,1),(7,1),(8,1),(9,1),(10,1),(11,1),(12,1),(13,1),(14,1)]:List (Nat × Nat)).toArray w:=by kernel_rfl
theorem inf27:Tryz.prog.info? 27=some Tryz.t27:=by kernel_rfl
theorem inf28:Tryz.prog.info? 28=some Tryz.t28:=by kernel_rfl
theorem inf30:Tryz.prog.info? 30=some Tryz.t30:=by kernel_rfl
theorem zer30:zcells Tryz.t30=some (flat [(1,[vi 0]),(1,[vs ([]:Str)]),(1,[vs ([]:Str)]),(1,[sl none 0 0]),(1,[vs ([]:Str)]),(1,[sl none 0 0]),(1,[sl none 0 0]),(1,[sl none 0 0]),(1,[sl none 0 0]),(1,[sl none 0 0]),(1,[sl none 0 0]),(1,[sl none 0 0]),(1,[vi 0]),(1,[sl none 0 0]),(1,[sl none 0 0]),(1,[vi 0]),(1,[vs ([]:Str)]),(1,[vi 0]),(1,[vi 0]),(1,[vs ([]:Str)]),(1,[vi 0])]):=by kernel_rfl
theorem places30 (w:World):((#[Field.mk "Kind" 3 0 false "" "" 0,Field.mk "Random" 9 1 false "" "" 8,Field.mk "Session" 9 2 false "" "" 24,Field.mk "Suites" 22 3 false "" "" 40,Field.mk "Name" 9 4 false "" "" 64,Field.mk "Versions" 22 5 false "" "" 80,Field.mk "Groups" 22 6 false "" "" 104,Field.mk "Schemes" 22 7 false "" "" 128,Field.mk "Modes" 22 8 false "" "" 152,Field.mk "Shares" 27 9 false "" "" 176,Field.mk "Identities" 28 10 false "" "" 200,Field.mk "Binders" 23 11 false "" "" 224,Field.mk "Psk" 3 12 false "" "" 248,Field.mk "Others" 22 13 false "" "" 256,Field.mk "Certs" 23 14 false "" "" 280,Field.mk "Scheme" 3 15 false "" "" 304,Field.mk "Data" 9 16 false "" "" 312,Field.mk "Life" 3 17 false "" "" 328,Field.mk "Add" 3 18 false "" "" 336,Field.mk "Nonce" 9 19 false "" "" 344,Field.mk "Update" 3 20 false "" "" 360]:Array Field).mapM (m:=Sem) fun f:Field=>do pure (f.offset, ← sizeOf f.type)).run Tryz.prog w = .ok ([(0,1),(1,1),(2,1),(3,1),(4,1),(5,1),(6,1),(7,1),(8,1),(9,1),(10,1),(11,1),(12,1),(13,1),(14,1),(15,1),(16,1),(17,1),(18,1),(19,1),(20,1)]:List (Nat × Nat)).toArray w:=by kernel_rfl
theorem inf34:Tryz.prog.info? 34=some Tryz.t34:=by kernel_rfl
theorem zer34:zcells Tryz.t34=some (flat [(1,[vi 0]),(1,[vi 0]),(1,[vs ([]:Str)]),(1,[vb false]),(1,[vb false]),(1,[vi 0])]):=by kernel_rfl
theorem places34 (w:World):((#[Field.mk "Suite" 3 0 false "" "" 0,Field.mk "Group" 3 1 false "" "" 8,Field.mk "Share" 9 2 false "" "" 16,Field.mk "Retry" 4 3 false "" "" 32,Field.mk "Psk" 4 4 false "" "" 33,Field.mk "Alert" 3 5 false "" "" 40]:Array Field).mapM (m:=Sem) fun f:Field=>do pure (f.offset, ← sizeOf f.type)).run Tryz.prog w = .ok ([(0,1),(1,1),(2,1),(3,1),(4,1),(5,1)]:List (Nat × Nat)).toArray w:=by kernel_rfl
theorem inf36:Tryz.prog.info? 36=some Tryz.t36:=by kernel_rfl
theorem zer36:zcells Tryz.t36=some (flat [(1,[vi 0])]):=by kernel_rfl
theorem inf50:Tryz.prog.info? 50=some Tryz.t50:=by kernel_rfl
theorem zer50:zcells Tryz.t50=some (flat [(1,[vi 0]),(1,[vs ([]:Str)])]):=by kernel_rfl
theorem places50 (w:World):((#[Field.mk "Group" 3 0 false "" "" 0,Field.mk "Key" 9 1 false "" "" 8]:Array Field).mapM (m:=Sem) fun f:Field=>do pure (f.offset, ← sizeOf f.type)).run Tryz.prog w = .ok ([(0,1),(1,1)]:List (Nat × Nat)).toArray w:=by kernel_rfl
theorem inf57:Tryz.prog.info? 57=some Tryz.t57:=by kernel_rfl
theorem zer57:zcells Tryz.t57=some (flat [(1,[vs ([]:Str)]),(1,[vs ([]:Str)]),(1,[vi 0]),(1,[vi 0]),(1,[vi 0]),(1,[vi 0])]):=by kernel_rfl
theorem places57 (w:World):((#[Field.mk "Ticket" 9 0 false "" "" 0,Field.mk "Secret" 9 1 false "" "" 16,Field.mk "Suite" 3 2 false "" "" 32,Field.mk "Add" 3 3 false "" "" 40,Field.mk "Got" 3 4 false "" "" 48,Field.mk "Life" 3 5 false "" "" 56]:Array Field).mapM (m:=Sem) fun f:Field=>do pure (f.offset, ← sizeOf f.type)).run Tryz.prog w = .ok ([(0,1),(1,1),(2,1),(3,1),(4,1),(5,1)]:List (Nat × Nat)).toArray w:=by kernel_rfl
theorem inf60:Tryz.prog.info? 60=some Tryz.t60:=by kernel_rfl
theorem zer60:zcells Tryz.t60=some (flat [(1,[vs ([]:Str)]),(1,[vi 0])]):=by kernel_rfl
theorem places60 (w:World):((#[Field.mk "Ticket" 9 0 false "" "" 0,Field.mk "Age" 3 1 false "" "" 16]:Array Field).mapM (m:=Sem) fun f:Field=>do pure (f.offset, ← sizeOf f.type)).run Tryz.prog w = .ok ([(0,1),(1,1)]:List (Nat × Nat)).toArray w:=by kernel_rfl
theorem inf66:Tryz.prog.info? 66=some Tryz.t66:=by kernel_rfl
theorem zer66:zcells Tryz.t66=some (flat [(1,[vi 0]),(1,[vs ([]:Str)]),(1,[vi 0]),(1,[vi 0])]):=by kernel_rfl
theorem places66 (w:World):((#[Field.mk "Suite" 3 0 false "" "" 0,Field.mk "Secret" 9 1 false "" "" 8,Field.mk "Made" 3 2 false "" "" 24,Field.mk "Add" 3 3 false "" "" 32]:Array Field).mapM (m:=Sem) fun f:Field=>do pure (f.offset, ← sizeOf f.type)).run Tryz.prog w = .ok ([(0,1),(1,1),(2,1),(3,1)]:List (Nat × Nat)).toArray w:=by kernel_rfl
theorem inf71:Tryz.prog.info? 71=some Tryz.t71:=by kernel_rfl
theorem inf72:Tryz.prog.info? 72=some Tryz.t72:=by kernel_rfl
theorem inf74:Tryz.prog.info? 74=some Tryz.t74:=by kernel_rfl
theorem zer74:zcells Tryz.t74=some (flat [(1,[Value.pointer none]),(1,[Value.pointer none]),(1,[vb false]),(1,[vi 0]),(1,[vi 0]),(1,[vi 0]),(1,[vs ([]:Str)]),(1,[vb false]),(1,[vb false]),(1,[vi 0])]):=by kernel_rfl
theorem places74 (w:World):((#[Field.mk "c" 71 0 false "" "halberd/hello" 0,Field.mk "m" 72 1 false "" "halberd/hello" 8,Field.mk "again" 4 2 false "" "halberd/hello" 16,Field.mk "group" 3 3 false "" "halberd/hello" 24,Field.mk "out" 34 4 false "" "halberd/hello" 32]:Array Field).mapM (m:=Sem) fun f:Field=>do pure (f.offset, ← sizeOf f.type)).run Tryz.prog w = .ok ([(0,1),(1,1),(2,1),(3,1),(4,6)]:List (Nat × Nat)).toArray w:=by kernel_rfl
theorem inf75:Tryz.prog.info? 75=some Tryz.t75:=by kernel_rfl
theorem zer75:zcells Tryz.t75=some [.nilFunc]:=by kernel_rfl
theorem inf115:Tryz.prog.info? 115=some Tryz.t115:=by kernel_rfl
theorem und115:(Tryz.prog.underlying 115).isSome=true:=by kernel_rfl
theorem inf117:Tryz.prog.info? 117=some Tryz.t117:=by kernel_rfl
theorem zer117:zcells Tryz.t117=some (flat [(4,e64 ((replicate 4 0#64).toList))]):=by kernel_rfl
theorem und140:(Tryz.prog.underlying 140).isSome=true:=by kernel_rfl
theorem inf147:Tryz.prog.info? 147=some Tryz.t147:=by kernel_rfl
theorem zer147:zcells Tryz.t147=some (flat [(4,e8 ((replicate 4 0#8).toList))]):=by kernel_rfl
theorem inf159:Tryz.prog.info? 159=some Tryz.t159:=by kernel_rfl
theorem zer159:zcells Tryz.t159=some (flat [(4,e64 ((replicate 4 0#64).toList)),(1,[v64 0#64]),(4,e64 ((replicate 4 0#64).toList)),(4,e64 ((replicate 4 0#64).toList))]):=by kernel_rfl
theorem places159 (w:World):((#[Field.mk "M" 117 0 false "" "" 0,Field.mk "inv" 115 4 false "" "halberd/num" 32,Field.mk "one" 117 5 false "" "halberd/num" 40,Field.mk "two" 117 9 false "" "halberd/num" 72]:Array Field).mapM (m:=Sem) fun f:Field=>do pure (f.offset, ← sizeOf f.type)).run Tryz.prog w = .ok ([(0,4),(4,1),(5,4),(9,4)]:List (Nat × Nat)).toArray w:=by kernel_rfl
theorem inf171:Tryz.prog.info? 171=some Tryz.t171:=by kernel_rfl
theorem zer171:zcells Tryz.t171=some (flat [(16,e8 ((replicate 16 0#8).toList))]):=by kernel_rfl
theorem inf179:Tryz.prog.info? 179=some Tryz.t179:=by kernel_rfl
theorem zer179:zcells Tryz.t179=some (flat [(1,[vi 0]),(1,[vE Er.nil])]):=by kernel_rfl
theorem places179 (w:World):((#[Field.mk "outer" 36 0 false "" "halberd/ticket" 0,Field.mk "inner" 153 1 false "" "halberd/ticket" 8]:Array Field).mapM (m:=Sem) fun f:Field=>do pure (f.offset, ← sizeOf f.type)).run Tryz.prog w = .ok ([(0,1),(1,1)]:List (Nat × Nat)).toArray w:=by kernel_rfl
theorem inf211:Tryz.prog.info? 211=some Tryz.t211:=by kernel_rfl
theorem inf216:Tryz.prog.info? 216=some Tryz.t216:=by kernel_rfl
theorem zer216:zcells Tryz.t216=some (flat [(1,[v64 0#64]),(1,[v64 0#64])]):=by kernel_rfl
theorem places216 (w:World):((#[Field.mk "high" 115 0 false "" "halberd/gcm" 0,Field.mk "low" 115 1 false "" "halberd/gcm" 8]:Array Field).mapM (m:=Sem) fun f:Field=>do pure (f.offset, ← sizeOf f.type)).run Tryz.prog w = .ok ([(0,1),(1,1)]:List (Nat × Nat)).toArray w:=by kernel_rfl
theorem inf219:Tryz.prog.info? 219=some Tryz.t219:=by kernel_rfl
theorem zer219:zcells Tryz.t219=some (flat [(1,[Value.pointer none]),(1,[v64 0#64]),(1,[v64 0#64])]):=by kernel_rfl
theorem places219 (w:World):((#[Field.mk "aes" 211 0 false "" "halberd/gcm" 0,Field.mk "h" 216 1 false "" "halberd/gcm" 8]:Array Field).mapM (m:=Sem) fun f:Field=>do pure (f.offset, ← sizeOf f.type)).run Tryz.prog w = .ok ([(0,1),(1,2)]:List (Nat × Nat)).toArray w:=by kernel_rfl
theorem inf224:Tryz.prog.info? 224=some Tryz.t224:=by kernel_rfl
theorem inf225:Tryz.prog.info? 225=some Tryz.t225:=by kernel_rfl
theorem inf227:Tryz.prog.info? 227=some Tryz.t227:=by kernel_rfl
theorem zer227:zcells Tryz.t227=some (flat [(32,eF (fun p:BitVec 64 × BitVec 64=>[v64 p.1,v64 p.2]) ((replicate 16 (0#64,0#64)).toList)),(16,e64 ((replicate 16 0#64).toList)),(1,[v64 0#64]),(1,[v64 0#64])]):=by kernel_rfl
theorem places227 (w:World):((#[Field.mk "table" 224 0 false "" "halberd/gcm" 0,Field.mk "folds" 225 32 false "" "halberd/gcm" 256,Field.mk "y" 216 48 false "" "halberd/gcm" 384]:Array Field).mapM (m:=Sem) fun f:Field=>do pure (f.offset, ← sizeOf f.type)).run Tryz.prog w = .ok ([(0,32),(32,16),(48,2)]:List (Nat × Nat)).toArray w:=by kernel_rfl
theorem inf243:Tryz.prog.info? 243=some Tryz.t243:=by kernel_rfl
theorem zer243:zcells Tryz.t243=some (flat [(256,e8 ((replicate 256 0#8).toList))]):=by kernel_rfl
theorem inf245:Tryz.prog.info? 245=some Tryz.t245:=by kernel_rfl
theorem inf247:Tryz.prog.info? 247=some Tryz.t247:=by kernel_rfl
theorem zer247:zcells Tryz.t247=some (flat [(256,e8 ((replicate 256 0#8).toList)),(1,[sl none 0 0])]):=by kernel_rfl
theorem places247 (w:World):((#[Field.mk "table" 243 0 false "" "halberd/aes" 0,Field.mk "keys" 245 256 false "" "halberd/aes" 256]:Array Field).mapM (m:=Sem) fun f:Field=>do pure (f.offset, ← sizeOf f.type)).run Tryz.prog w = .ok ([(0,256),(256,1)]:List (Nat × Nat)).toArray w:=by kernel_rfl
end Go.Proofs.TryzI
end

section
namespace Go.Kx
open Go
def iter {σ:Type} (step:Nat → σ → σ):Nat → σ → σ
 | 0,s=>s
 | n+1,s=>step n (iter step n s)
theorem loop_at {σ τ:Type} {body:σ → Option (σ ⊕ τ)} (f:Nat → σ) (n:Nat) (t:τ) (hstep : ∀ k,k<n → body (f k)=some (.inl (f (k+1)))) (hend:body (f n)=some (.inr t)) :
  ∀ (d m fuel:Nat),m+d=n → d<fuel → loop body fuel (f m)=some t
 | 0,m,0,_,h=>by omega
 | 0,m,fuel+1,hm,_=>by
  have:m=n:=by omega
  subst this
  simp only [loop,hend]
 | d+1,m,0,_,h=>by omega
 | d+1,m,fuel+1,hm,h=>by
  simp only [loop,hstep m (by omega)]
  exact loop_at f n t hstep hend d (m+1) fuel (by omega) (by omega)
theorem loop_iter {σ τ:Type} {body:σ → Option (σ ⊕ τ)} (f:Nat → σ) (n:Nat) (t:τ) (hn:n<1152921504606846976) (hstep : ∀ k,k<n → body (f k)=some (.inl (f (k+1)))) (hend:body (f n)=some (.inr t)):loop body BIG (f 0)=some t :=
 loop_at f n t hstep hend n 0 BIG (by omega) hn
theorem loop_count {σ τ:Type} {body:Int × σ → Option ((Int × σ) ⊕ τ)} (n:Nat) (step:Nat → σ → σ) (s0:σ) (t:τ) (I:Nat → σ → Prop) (hn:n<1152921504606846976) (h0:I 0 s0)
  (hstep : ∀ k s,k<n → I k s → body ((k:Int),s)=some (.inl (((k+1:Nat):Int),step k s))∧I (k+1) (step k s)) (hend : ∀ s,I n s → s=iter step n s0 → body ((n:Int),s)=some (.inr t)) :
  loop body BIG ((0:Int),s0)=some t:=by
 have hI : ∀ k,k≤n → I k (iter step k s0):=by
  intro k
  induction k with
  | zero=>intro _; exact h0
  | succ k ih=>intro hk; exact (hstep k _ (by omega) (ih (by omega))).2
 exact loop_iter (fun k=>((k:Int),iter step k s0)) n t hn (fun k hk=>(hstep k _ hk (hI k (by omega))).1) (hend _ (hI n (Nat.le_refl _)) rfl)
theorem w64_id {x:Int} (h0 : -9223372036854775808≤x) (h1:x<9223372036854775808):w64 x=x:=by
 unfold w64
 omega
theorem w64_nat {n:Nat} (h:n<9223372036854775808):w64 (n:Int)=n:=w64_id (by omega) (by omega)
theorem vg_eq' {α:Type} [Inhabited α] {n:Nat} {V:Vector α n} {k:Nat} (h:k<n):vg V k=V[k]:=by simp [vg,h]
theorem vg_vp {α:Type} [Inhabited α] {n:Nat} {V:Vector α n} {k j:Nat} {x:α} (h:k<n) (hj:j<n):vg (vp V k x) j=if k=j then x else vg V j:=by
 rw [vg_eq' hj,vg_eq' hj]
 simp [vp,Vector.getElem_setIfInBounds]
theorem vec_ext {α:Type} [Inhabited α] {n:Nat} {V W:Vector α n} (h : ∀ i,i<n → vg V i=vg W i):V=W:=by
 ext i hi
 have:=h i hi
 rwa [vg_eq' hi,vg_eq' hi] at this
theorem vg_ofFn {α:Type} [Inhabited α] {n:Nat} {f:Fin n → α} {i:Nat} (h:i<n):vg (Vector.ofFn f) i=f ⟨i,h⟩:=by
 rw [vg_eq' h]; simp
theorem ltt_i {α β:Type} {x:α} {f:α → β} {r:β} (h : ∀ v,v=x → f v=r):ltt x f=r:=h x rfl
theorem if_i {α:Type} {p:Prop} [Decidable p] {x y r:α} (hp:p) (h:x=r):(if p then x else y)=r:=by rwa [if_pos hp]
theorem if_n {α:Type} {p:Prop} [Decidable p] {x y r:α} (hp : ¬ p) (h:y=r):(if p then x else y)=r:=by rwa [if_neg hp]
theorem bind_i {α β:Type} {x:Option α} {f:α → Option β} {r:Option β} {v:α} (hx:x=some v) (h:f v=r):x.bind f=r:=by subst hx; exact h
theorem loop_fill {α τ:Type} [Inhabited α] {n:Nat} {body:Int × Vector α n → Option ((Int × Vector α n) ⊕ τ)} (v0:Vector α n) (g:Nat → α) (t:Vector α n → τ) (hn:n<1152921504606846976)
  (hstep : ∀ k v,k<n → (∀ j,k≤j → j<n → vg v j=vg v0 j) → body ((k:Int),v)=some (.inl (((k+1:Nat):Int),vp v k (g k))))
  (hend : ∀ v,body ((n:Int),v)=some (.inr (t v))):loop body BIG ((0:Int),v0)=some (t (Vector.ofFn fun i=>g i.val)):=by
 have key : ∀ k,k≤n → ∀ j,j<n → vg (iter (fun k v=>vp v k (g k)) k v0) j=if j<k then g j else vg v0 j:=by
  intro k
  induction k with
  | zero=>intro _ j hj; simp [iter]
  | succ k ih =>
   intro hk j hj
   show vg (vp _ k (g k)) j=_
   rw [vg_vp (by omega) hj,ih (by omega) j hj]
   by_cases h1:k=j
   ·subst h1; simp
   ·rw [if_neg h1]
    by_cases h2:j<k
    ·rw [if_pos h2,if_pos (by omega)]
    ·rw [if_neg h2,if_neg (by omega)]
 refine loop_count n (fun k v=>vp v k (g k)) v0 _ (fun k v => ∀ j,j<n → vg v j=if j<k then g j else vg v0 j) hn (fun j hj=>by simp) (fun k v hk hv=>⟨hstep k v hk (fun j h1 h2=>by rw [hv j h2,if_neg (by omega)]),fun j hj=>?_⟩) (fun v hv _=>?_)
 ·show vg (vp v k (g k)) j=_
  rw [vg_vp hk hj,hv j hj]
  by_cases h1:k=j
  ·subst h1; simp
  ·rw [if_neg h1]
   by_cases h2:j<k
   ·rw [if_pos h2,if_pos (by omega)]
   ·rw [if_neg h2,if_neg (by omega)]
 ·rw [hend v]
  have:v=Vector.ofFn fun i=>g i.val:=vec_ext fun i hi=>by rw [hv i hi,if_pos hi,vg_ofFn hi]
  rw [this]
end Go.Kx
end

section
namespace Go.Kx
open Go
theorem iter_add {σ:Type} (step:Nat → σ → σ) (m:Nat) (s:σ) : ∀ n,iter step (m+n) s=iter (fun k=>step (m+k)) n (iter step m s)
 | 0=>rfl
 | n+1=>by show step (m+n) (iter step (m+n) s)=_; rw [iter_add step m s n]; rfl
theorem iter_congr {σ:Type} {f g:Nat → σ → σ} {s:σ} : ∀ {n:Nat},(∀ k,k<n → ∀ s,f k s=g k s) → iter f n s=iter g n s
 | 0,_=>rfl
 | n+1,h=>by
  show f n (iter f n s)=g n (iter g n s)
  rw [iter_congr fun k hk=>h k (by omega),h n (by omega)]
theorem iter_ind {σ:Type} {step:Nat → σ → σ} {s0:σ} (I:Nat → σ → Prop) (n:Nat) (h0:I 0 s0) (hs : ∀ k s,k<n → I k s → I (k+1) (step k s)) : ∀ k,k≤n → I k (iter step k s0)
 | 0,_=>h0
 | k+1,h=>hs k _ (by omega) (iter_ind I n h0 hs k (by omega))
theorem loop_pl {S σ τ:Type} {body:S → Option (S ⊕ τ)} (mk:Nat → σ → S) (n:Nat) (step:Nat → σ → σ) (s0:σ) (t:τ) (hn:n<1152921504606846976)
  (hstep : ∀ k s,k<n → body (mk k s)=some (.inl (mk (k+1) (step k s)))) (hend:body (mk n (iter step n s0))=some (.inr t)) :
  loop body BIG (mk 0 s0)=some t :=
 loop_iter (fun k=>mk k (iter step k s0)) n t hn (fun k hk=>hstep k _ hk) hend
theorem loop_fn {S τ:Type} {body:S → Option (S ⊕ τ)} (f:Nat → S) (n:Nat) {s0:S} (t:τ) (hn:n<1152921504606846976) (h0:s0=f 0)
  (hstep : ∀ k,k<n → body (f k)=some (.inl (f (k+1)))) (hend:body (f n)=some (.inr t)):loop body BIG s0=some t:=by
 subst h0; exact loop_iter f n t hn hstep hend
theorem sub_all (s:Str):sub s 0 s.length=s:=by simp [sub]
theorem sub_getD (s:Str) (l h i:Nat) (hi:i<h - l):(sub s l h).getD i 0#8=s.getD (l+i) 0#8:=by
 simp only [sub,List.getD_eq_getElem?_getD,List.getElem?_take,List.getElem?_drop,if_pos hi]
theorem sub_sub (s:Str) (a b c d:Nat) (h:d≤b - a):sub (sub s a b) c d=sub s (a+c) (a+d):=by
 simp only [sub,List.drop_take,List.take_take,List.drop_drop]
 congr 1
 omega
theorem sub_app_l (s t:Str) (a b:Nat) (h:b≤s.length):sub (s++t) a b=sub s a b:=by
 simp only [sub]
 by_cases ha:a≤s.length
 ·rw [List.drop_append_of_le_length ha,List.take_append_of_le_length (by rw [List.length_drop]; omega)]
 ·rw [show b - a=0 by omega]; simp
theorem lg_getD {l:Str} {i:Nat}:lg l i=l.getD i 0#8:=rfl
theorem tmodN' (k m:Nat):((k:Int).tmod (m:Int))=((k % m:Nat):Int):=by
 rw [Int.tmod_eq_emod_of_nonneg (by omega)]; omega
theorem tdivN' (k m:Nat):((k:Int).tdiv (m:Int))=((k / m:Nat):Int):=by
 rw [Int.tdiv_eq_ediv_of_nonneg (by omega)]; omega
end Go.Kx
namespace Go.Kx
theorem w64_sub {a b:Nat} (h:b≤a) (ha:a<9223372036854775808):w64 ((a:Int) - (b:Int))=((a - b:Nat):Int):=by
 rw [w64_id (by omega) (by omega)]; omega
theorem w64_add {a b:Nat} (h:a+b<9223372036854775808):w64 ((a:Int)+(b:Int))=((a+b:Nat):Int):=by
 rw [w64_id (by omega) (by omega)]; omega
theorem w64_mul {a b:Nat} (h:a * b<9223372036854775808):w64 ((a:Int) * (b:Int))=((a * b:Nat):Int):=by
 rw [← Int.natCast_mul]; exact w64_nat h
theorem w64_div {a b:Nat} (h:a<9223372036854775808):w64 ((a:Int).tdiv (b:Int))=((a / b:Nat):Int):=by
 rw [tdivN']; exact w64_nat (by have:=Nat.div_le_self a b; omega)
end Go.Kx
namespace Go.Kx
theorem loop_ex {S τ:Type} {body:S → Option (S ⊕ τ)} (Q:Option τ → Prop) : ∀ (d fuel:Nat) (I:Nat → S → Prop) (s:S),I d s → d<fuel →
  (∀ k s,I (k+1) s → (∃ s',body s=some (.inl s')∧I k s') ∨ ∃ t,body s=some (.inr t)∧Q (some t)) → (∀ s,I 0 s → ∃ t,body s=some (.inr t)∧Q (some t)) → Q (loop body fuel s)
 | 0,0,_,_,_,h,_,_=>by omega
 | 0,fuel+1,I,s,hI,_,_,h0=>by
  obtain ⟨t,ht,hq⟩:=h0 s hI
  simp only [loop,ht]; exact hq
 | d+1,0,_,_,_,h,_,_=>by omega
 | d+1,fuel+1,I,s,hI,h,hs,h0=>by
  rcases hs d s hI with ⟨s',hb,hI'⟩ | ⟨t,ht,hq⟩
  ·simp only [loop,hb]
   exact loop_ex Q d fuel I s' hI' (by omega) hs h0
  ·simp only [loop,ht]; exact hq
end Go.Kx
end

section
namespace Go.Kx
open Go
theorem TL_join {C:Ctx} {ops:Array Oper} {Q:Exit → Act → World → Prop} {l:List Oper} {m:Sl} {L:Mem} {Γ:Type} (m':Γ → Sl) (L':Γ → Mem)
  (hr : ∀ g,TX C Q .normal (m' g) (L' g)) (h:(∀ g,TX C Q .normal (m' g) (L' g)) → TL C ops Q l m L):TL C ops Q l m L:=h hr
end Go.Kx
end
