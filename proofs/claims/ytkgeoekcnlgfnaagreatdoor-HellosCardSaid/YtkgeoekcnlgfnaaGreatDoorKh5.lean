/-
  Part 5 of the proof of what several laws share.
-/
import Derived.Test.YtkgeoekcnlgfnaaGreatDoorProg
import Derived.Test.YtkgeoekcnlgfnaaGreatDoorKh4
set_option linter.unusedVariables false
set_option linter.unusedSimpArgs false
section
namespace Go.Proofs.TryzI
open Go Go.Kx
open Vector (replicate)
set_option maxRecDepth 20000
theorem YM:Tryz.prog.info? 3=some Tryz.t3:=by kernel_rfl
theorem HY:(Tryz.prog.underlying 3).isSome=true:=by kernel_rfl
theorem LG:Wo Tryz.t3=some (flat [(1,[vi 0])]):=by kernel_rfl
theorem MS:Tryz.prog.info? 4=some Tryz.t4:=by kernel_rfl
theorem Yn:Tryz.prog.info? 5=some Tryz.t5:=by kernel_rfl
theorem zh:(Tryz.prog.underlying 5).isSome=true:=by kernel_rfl
theorem KR:Wo Tryz.t5=some (flat [(1,[v8 0#8])]):=by kernel_rfl
theorem Xe:Tryz.prog.info? 9=some Tryz.t9:=by kernel_rfl
theorem oI:Wo Tryz.t9=some (flat [(1,[vs ([]:Str)])]):=by kernel_rfl
theorem XO:Tryz.prog.info? 22=some Tryz.t22:=by kernel_rfl
theorem Xn:Tryz.prog.info? 23=some Tryz.t23:=by kernel_rfl
theorem R6:Tryz.prog.info? 24=some Tryz.t24:=by kernel_rfl
theorem We:Tryz.prog.info? 26=some Tryz.t26:=by kernel_rfl
theorem LM:Wo Tryz.t26=some (flat [(1,[vb false]),(1,[sl none 0 0]),(1,[sl none 0 0]),(1,[sl none 0 0]),(1,[vs ([]:Str)]),(1,[sl none 0 0]),(1,[vs ([]:Str)]),(1,[vi 0]),(1,[vs ([]:Str)]),(1,[sl none 0 0]),(1,[vs ([]:Str)]),(1,[vi 0]),(1,[vi 0]),(1,[vi 0]),(1,[vi 0])]):=by kernel_rfl
theorem De (w:World):((#[Field.mk "Server" 4 0 false "" "" 0,Field.mk "Suites" 22 1 false "" "" 8,Field.mk "Groups" 22 2 false "" "" 32,Field.mk "Chain" 23 3 false "" "" 56,Field.mk "Key" 9 4 false "" "" 80,Field.mk "Roots" 23 5 false "" "" 96,Field.mk "Name" 9 6 false "" "" 120,Field.mk "Tickets" 3 7 false "" "" 136,Field.mk "Seal" 9 8 false "" "" 144,Field.mk "Psk" 24 9 false "" "" 160,Field.mk "Tape" 9 10 false "" "" 184,Field.mk "Clock" 3 11 false "" "" 200,Field.mk "Pad" 3 12 false "" "" 208,Field.mk "Limit" 3 13 false "" "" 216,Field.mk "Ring" 3 14 false "" "" 224]:Array Field).mapM (m:=Sem) fun f:Field=>do pure (f.offset, ← sizeOf f.type)).run Tryz.prog w = .ok ([(0,1),(1,1),(2,1),(3,1),(4,1),(5,1),(6,1),(7,1),(8,1),(9,1),(10,1),(11,1),(12,1),(13,1),(14,1)]:List (Nat × Nat)).toArray w:=by kernel_rfl
theorem QR:Tryz.prog.info? 27=some Tryz.t27:=by kernel_rfl
theorem MX:Tryz.prog.info? 28=some Tryz.t28:=by kernel_rfl
theorem Xg:Tryz.prog.info? 30=some Tryz.t30:=by kernel_rfl
theorem Pw:Wo Tryz.t30=some (flat [(1,[vi 0]),(1,[vs ([]:Str)]),(1,[vs ([]:Str)]),(1,[sl none 0 0]),(1,[vs ([]:Str)]),(1,[sl none 0 0]),(1,[sl none 0 0]),(1,[sl none 0 0]),(1,[sl none 0 0]),(1,[sl none 0 0]),(1,[sl none 0 0]),(1,[sl none 0 0]),(1,[vi 0]),(1,[sl none 0 0]),(1,[sl none 0 0]),(1,[vi 0]),(1,[vs ([]:Str)]),(1,[vi 0]),(1,[vi 0]),(1,[vs ([]:Str)]),(1,[vi 0])]):=by kernel_rfl
theorem Gw (w:World):((#[Field.mk "Kind" 3 0 false "" "" 0,Field.mk "Random" 9 1 false "" "" 8,Field.mk "Session" 9 2 false "" "" 24,Field.mk "Suites" 22 3 false "" "" 40,Field.mk "Name" 9 4 false "" "" 64,Field.mk "Versions" 22 5 false "" "" 80,Field.mk "Groups" 22 6 false "" "" 104,Field.mk "Schemes" 22 7 false "" "" 128,Field.mk "Modes" 22 8 false "" "" 152,Field.mk "Shares" 27 9 false "" "" 176,Field.mk "Identities" 28 10 false "" "" 200,Field.mk "Binders" 23 11 false "" "" 224,Field.mk "Psk" 3 12 false "" "" 248,Field.mk "Others" 22 13 false "" "" 256,Field.mk "Certs" 23 14 false "" "" 280,Field.mk "Scheme" 3 15 false "" "" 304,Field.mk "Data" 9 16 false "" "" 312,Field.mk "Life" 3 17 false "" "" 328,Field.mk "Add" 3 18 false "" "" 336,Field.mk "Nonce" 9 19 false "" "" 344,Field.mk "Update" 3 20 false "" "" 360]:Array Field).mapM (m:=Sem) fun f:Field=>do pure (f.offset, ← sizeOf f.type)).run Tryz.prog w = .ok ([(0,1),(1,1),(2,1),(3,1),(4,1),(5,1),(6,1),(7,1),(8,1),(9,1),(10,1),(11,1),(12,1),(13,1),(14,1),(15,1),(16,1),(17,1),(18,1),(19,1),(20,1)]:List (Nat × Nat)).toArray w:=by kernel_rfl
theorem XE:Tryz.prog.info? 34=some Tryz.t34:=by kernel_rfl
theorem LZ:Wo Tryz.t34=some (flat [(1,[vi 0]),(1,[vi 0]),(1,[vs ([]:Str)]),(1,[vb false]),(1,[vb false]),(1,[vi 0])]):=by kernel_rfl
theorem Mr (w:World):((#[Field.mk "Suite" 3 0 false "" "" 0,Field.mk "Group" 3 1 false "" "" 8,Field.mk "Share" 9 2 false "" "" 16,Field.mk "Retry" 4 3 false "" "" 32,Field.mk "Psk" 4 4 false "" "" 33,Field.mk "Alert" 3 5 false "" "" 40]:Array Field).mapM (m:=Sem) fun f:Field=>do pure (f.offset, ← sizeOf f.type)).run Tryz.prog w = .ok ([(0,1),(1,1),(2,1),(3,1),(4,1),(5,1)]:List (Nat × Nat)).toArray w:=by kernel_rfl
theorem mg:Tryz.prog.info? 36=some Tryz.t36:=by kernel_rfl
theorem fG:Wo Tryz.t36=some (flat [(1,[vi 0])]):=by kernel_rfl
theorem Rv:Tryz.prog.info? 50=some Tryz.t50:=by kernel_rfl
theorem CG:Wo Tryz.t50=some (flat [(1,[vi 0]),(1,[vs ([]:Str)])]):=by kernel_rfl
theorem yB (w:World):((#[Field.mk "Group" 3 0 false "" "" 0,Field.mk "Key" 9 1 false "" "" 8]:Array Field).mapM (m:=Sem) fun f:Field=>do pure (f.offset, ← sizeOf f.type)).run Tryz.prog w = .ok ([(0,1),(1,1)]:List (Nat × Nat)).toArray w:=by kernel_rfl
theorem Ut:Tryz.prog.info? 57=some Tryz.t57:=by kernel_rfl
theorem Fx:Wo Tryz.t57=some (flat [(1,[vs ([]:Str)]),(1,[vs ([]:Str)]),(1,[vi 0]),(1,[vi 0]),(1,[vi 0]),(1,[vi 0])]):=by kernel_rfl
theorem En (w:World):((#[Field.mk "Ticket" 9 0 false "" "" 0,Field.mk "Secret" 9 1 false "" "" 16,Field.mk "Suite" 3 2 false "" "" 32,Field.mk "Add" 3 3 false "" "" 40,Field.mk "Got" 3 4 false "" "" 48,Field.mk "Life" 3 5 false "" "" 56]:Array Field).mapM (m:=Sem) fun f:Field=>do pure (f.offset, ← sizeOf f.type)).run Tryz.prog w = .ok ([(0,1),(1,1),(2,1),(3,1),(4,1),(5,1)]:List (Nat × Nat)).toArray w:=by kernel_rfl
theorem LH:Tryz.prog.info? 60=some Tryz.t60:=by kernel_rfl
theorem yX:Wo Tryz.t60=some (flat [(1,[vs ([]:Str)]),(1,[vi 0])]):=by kernel_rfl
theorem yx (w:World):((#[Field.mk "Ticket" 9 0 false "" "" 0,Field.mk "Age" 3 1 false "" "" 16]:Array Field).mapM (m:=Sem) fun f:Field=>do pure (f.offset, ← sizeOf f.type)).run Tryz.prog w = .ok ([(0,1),(1,1)]:List (Nat × Nat)).toArray w:=by kernel_rfl
theorem WC:Tryz.prog.info? 66=some Tryz.t66:=by kernel_rfl
theorem Ph:Wo Tryz.t66=some (flat [(1,[vi 0]),(1,[vs ([]:Str)]),(1,[vi 0]),(1,[vi 0])]):=by kernel_rfl
theorem Qy (w:World):((#[Field.mk "Suite" 3 0 false "" "" 0,Field.mk "Secret" 9 1 false "" "" 8,Field.mk "Made" 3 2 false "" "" 24,Field.mk "Add" 3 3 false "" "" 32]:Array Field).mapM (m:=Sem) fun f:Field=>do pure (f.offset, ← sizeOf f.type)).run Tryz.prog w = .ok ([(0,1),(1,1),(2,1),(3,1)]:List (Nat × Nat)).toArray w:=by kernel_rfl
theorem lY:Tryz.prog.info? 71=some Tryz.t71:=by kernel_rfl
theorem OB:Tryz.prog.info? 72=some Tryz.t72:=by kernel_rfl
theorem abO:Tryz.prog.info? 74=some Tryz.t74:=by kernel_rfl
theorem abR:Wo Tryz.t74=some (flat [(1,[Value.pointer none]),(1,[Value.pointer none]),(1,[vb false]),(1,[vi 0]),(1,[vi 0]),(1,[vi 0]),(1,[vs ([]:Str)]),(1,[vb false]),(1,[vb false]),(1,[vi 0])]):=by kernel_rfl
theorem lm (w:World):((#[Field.mk "c" 71 0 false "" "halberd/hello" 0,Field.mk "m" 72 1 false "" "halberd/hello" 8,Field.mk "again" 4 2 false "" "halberd/hello" 16,Field.mk "group" 3 3 false "" "halberd/hello" 24,Field.mk "out" 34 4 false "" "halberd/hello" 32]:Array Field).mapM (m:=Sem) fun f:Field=>do pure (f.offset, ← sizeOf f.type)).run Tryz.prog w = .ok ([(0,1),(1,1),(2,1),(3,1),(4,6)]:List (Nat × Nat)).toArray w:=by kernel_rfl
theorem uo:Tryz.prog.info? 75=some Tryz.t75:=by kernel_rfl
theorem aak:Wo Tryz.t75=some [.nilFunc]:=by kernel_rfl
theorem Yx:Tryz.prog.info? 115=some Tryz.t115:=by kernel_rfl
theorem Hu:(Tryz.prog.underlying 115).isSome=true:=by kernel_rfl
theorem YB:Tryz.prog.info? 117=some Tryz.t117:=by kernel_rfl
theorem Uj:Wo Tryz.t117=some (flat [(4,e64 ((replicate 4 0#64).toList))]):=by kernel_rfl
theorem Ud:Tryz.prog.info? 140=some Tryz.t140:=by kernel_rfl
theorem Lu:(Tryz.prog.underlying 140).isSome=true:=by kernel_rfl
theorem YQ:Tryz.prog.info? 142=some Tryz.t142:=by kernel_rfl
theorem TE:Wo Tryz.t142=some (flat [(8,e32 ((replicate 8 0#32).toList))]):=by kernel_rfl
theorem TM:Tryz.prog.info? 147=some Tryz.t147:=by kernel_rfl
theorem MH:Wo Tryz.t147=some (flat [(4,e8 ((replicate 4 0#8).toList))]):=by kernel_rfl
theorem aV:Tryz.prog.info? 159=some Tryz.t159:=by kernel_rfl
theorem bH:Wo Tryz.t159=some (flat [(4,e64 ((replicate 4 0#64).toList)),(1,[v64 0#64]),(4,e64 ((replicate 4 0#64).toList)),(4,e64 ((replicate 4 0#64).toList))]):=by kernel_rfl
theorem rF (w:World):((#[Field.mk "M" 117 0 false "" "" 0,Field.mk "inv" 115 4 false "" "halberd/num" 32,Field.mk "one" 117 5 false "" "halberd/num" 40,Field.mk "two" 117 9 false "" "halberd/num" 72]:Array Field).mapM (m:=Sem) fun f:Field=>do pure (f.offset, ← sizeOf f.type)).run Tryz.prog w = .ok ([(0,4),(4,1),(5,4),(9,4)]:List (Nat × Nat)).toArray w:=by kernel_rfl
theorem UW:Tryz.prog.info? 171=some Tryz.t171:=by kernel_rfl
theorem Pp:Wo Tryz.t171=some (flat [(16,e8 ((replicate 16 0#8).toList))]):=by kernel_rfl
theorem AP:Tryz.prog.info? 179=some Tryz.t179:=by kernel_rfl
theorem A_:Wo Tryz.t179=some (flat [(1,[vi 0]),(1,[vE Er.nil])]):=by kernel_rfl
theorem IP (w:World):((#[Field.mk "outer" 36 0 false "" "halberd/ticket" 0,Field.mk "inner" 153 1 false "" "halberd/ticket" 8]:Array Field).mapM (m:=Sem) fun f:Field=>do pure (f.offset, ← sizeOf f.type)).run Tryz.prog w = .ok ([(0,1),(1,1)]:List (Nat × Nat)).toArray w:=by kernel_rfl
theorem dQ:Tryz.prog.info? 188=some Tryz.t188:=by kernel_rfl
theorem aH:Wo Tryz.t188=some (flat [(10,e64 ((replicate 10 0#64).toList))]):=by kernel_rfl
theorem kN:Tryz.prog.info? 211=some Tryz.t211:=by kernel_rfl
theorem V3:Tryz.prog.info? 216=some Tryz.t216:=by kernel_rfl
theorem NK:Wo Tryz.t216=some (flat [(1,[v64 0#64]),(1,[v64 0#64])]):=by kernel_rfl
theorem IK (w:World):((#[Field.mk "high" 115 0 false "" "halberd/gcm" 0,Field.mk "low" 115 1 false "" "halberd/gcm" 8]:Array Field).mapM (m:=Sem) fun f:Field=>do pure (f.offset, ← sizeOf f.type)).run Tryz.prog w = .ok ([(0,1),(1,1)]:List (Nat × Nat)).toArray w:=by kernel_rfl
theorem dI:Tryz.prog.info? 219=some Tryz.t219:=by kernel_rfl
theorem aY:Wo Tryz.t219=some (flat [(1,[Value.pointer none]),(1,[v64 0#64]),(1,[v64 0#64])]):=by kernel_rfl
theorem pq (w:World):((#[Field.mk "aes" 211 0 false "" "halberd/gcm" 0,Field.mk "h" 216 1 false "" "halberd/gcm" 8]:Array Field).mapM (m:=Sem) fun f:Field=>do pure (f.offset, ← sizeOf f.type)).run Tryz.prog w = .ok ([(0,1),(1,2)]:List (Nat × Nat)).toArray w:=by kernel_rfl
theorem Gd:Tryz.prog.info? 224=some Tryz.t224:=by kernel_rfl
theorem lG:Tryz.prog.info? 225=some Tryz.t225:=by kernel_rfl
theorem aU:Tryz.prog.info? 227=some Tryz.t227:=by kernel_rfl
theorem ag:Wo Tryz.t227=some (flat [(32,eF (fun p:BitVec 64 × BitVec 64=>[v64 p.1,v64 p.2]) ((replicate 16 (0#64,0#64)).toList)),(16,e64 ((replicate 16 0#64).toList)),(1,[v64 0#64]),(1,[v64 0#64])]):=by kernel_rfl
theorem qL (w:World):((#[Field.mk "table" 224 0 false "" "halberd/gcm" 0,Field.mk "folds" 225 32 false "" "halberd/gcm" 256,Field.mk "y" 216 48 false "" "halberd/gcm" 384]:Array Field).mapM (m:=Sem) fun f:Field=>do pure (f.offset, ← sizeOf f.type)).run Tryz.prog w = .ok ([(0,32),(32,16),(48,2)]:List (Nat × Nat)).toArray w:=by kernel_rfl
theorem Nv:Tryz.prog.info? 243=some Tryz.t243:=by kernel_rfl
theorem wZ:Wo Tryz.t243=some (flat [(256,e8 ((replicate 256 0#8).toList))]):=by kernel_rfl
theorem Ii:Tryz.prog.info? 245=some Tryz.t245:=by kernel_rfl
theorem bG:Tryz.prog.info? 247=some Tryz.t247:=by kernel_rfl
theorem ai:Wo Tryz.t247=some (flat [(256,e8 ((replicate 256 0#8).toList)),(1,[sl none 0 0])]):=by kernel_rfl
theorem qo (w:World):((#[Field.mk "table" 243 0 false "" "halberd/aes" 0,Field.mk "keys" 245 256 false "" "halberd/aes" 256]:Array Field).mapM (m:=Sem) fun f:Field=>do pure (f.offset, ← sizeOf f.type)).run Tryz.prog w = .ok ([(0,256),(256,1)]:List (Nat × Nat)).toArray w:=by kernel_rfl
end Go.Proofs.TryzI
end

section
namespace Go.Kx
open Go
def iter {σ:Type} (step:Nat → σ → σ):Nat → σ → σ
 | 0,s=>s
 | n+1,s=>step n (iter step n s)
theorem rU {σ τ:Type} {body:σ → Option (σ ⊕ τ)} (f:Nat → σ) (n:Nat) (t:τ) (hstep : ∀ k,k<n → body (f k)=some (.inl (f (k+1)))) (hend:body (f n)=some (.inr t)) :
  ∀ (d m fuel:Nat),m+d=n → d<fuel → loop body fuel (f m)=some t
 | 0,m,0,_,h=>by omega
 | 0,m,fuel+1,hm,_=>by
  have:m=n:=by omega
  subst this
  simp only [loop,hend]
 | d+1,m,0,_,h=>by omega
 | d+1,m,fuel+1,hm,h=>by
  simp only [loop,hstep m (by omega)]
  exact rU f n t hstep hend d (m+1) fuel (by omega) (by omega)
theorem RY {σ τ:Type} {body:σ → Option (σ ⊕ τ)} (f:Nat → σ) (n:Nat) (t:τ) (hn:n<1152921504606846976) (hstep : ∀ k,k<n → body (f k)=some (.inl (f (k+1)))) (hend:body (f n)=some (.inr t)):loop body BIG (f 0)=some t :=
 rU f n t hstep hend n 0 BIG (by omega) hn
theorem Ho {σ τ:Type} {body:Int × σ → Option ((Int × σ) ⊕ τ)} (n:Nat) (step:Nat → σ → σ) (s0:σ) (t:τ) (I:Nat → σ → Prop) (hn:n<1152921504606846976) (h0:I 0 s0)
  (hstep : ∀ k s,k<n → I k s → body ((k:Int),s)=some (.inl (((k+1:Nat):Int),step k s))∧I (k+1) (step k s)) (hend : ∀ s,I n s → s=iter step n s0 → body ((n:Int),s)=some (.inr t)) :
  loop body BIG ((0:Int),s0)=some t:=by
 have hI : ∀ k,k≤n → I k (iter step k s0):=by
  intro k
  induction k with
  | zero=>intro _; exact h0
  | succ k ih=>intro hk; exact (hstep k _ (by omega) (ih (by omega))).2
 exact RY (fun k=>((k:Int),iter step k s0)) n t hn (fun k hk=>(hstep k _ hk (hI k (by omega))).1) (hend _ (hI n (Nat.le_refl _)) rfl)
theorem Yr {x:Int} (h0 : -9223372036854775808≤x) (h1:x<9223372036854775808):ZJ x=x:=by
 unfold ZJ
 omega
theorem Nq {n:Nat} (h:n<9223372036854775808):ZJ (n:Int)=n:=Yr (by omega) (by omega)
theorem MC {α:Type} [Inhabited α] {n:Nat} {V:Vector α n} {k:Nat} (h:k<n):vg V k=V[k]:=by simp [vg,h]
theorem Qr {α:Type} [Inhabited α] {n:Nat} {V:Vector α n} {k j:Nat} {x:α} (h:k<n) (hj:j<n):vg (vp V k x) j=if k=j then x else vg V j:=by
 rw [MC hj,MC hj]
 simp [vp,Vector.getElem_setIfInBounds]
theorem RA {α:Type} [Inhabited α] {n:Nat} {V W:Vector α n} (h : ∀ i,i<n → vg V i=vg W i):V=W:=by
 ext i hi
 have:=h i hi
 rwa [MC hi,MC hi] at this
theorem Tw {α:Type} [Inhabited α] {n:Nat} {f:Fin n → α} {i:Nat} (h:i<n):vg (Vector.ofFn f) i=f ⟨i,h⟩:=by
 rw [MC h]; simp
theorem Ze {α β:Type} {x:α} {f:α → β} {r:β} (h : ∀ v,v=x → f v=r):X5 x f=r:=h x rfl
theorem ZM {α:Type} {p:Prop} [Decidable p] {x y r:α} (hp:p) (h:x=r):(if p then x else y)=r:=by rwa [if_pos hp]
theorem Zi {α:Type} {p:Prop} [Decidable p] {x y r:α} (hp : ¬ p) (h:y=r):(if p then x else y)=r:=by rwa [if_neg hp]
theorem Z5 {α β:Type} {x:Option α} {f:α → Option β} {r:Option β} {v:α} (hx:x=some v) (h:f v=r):x.bind f=r:=by subst hx; exact h
theorem Q9 {α τ:Type} [Inhabited α] {n:Nat} {body:Int × Vector α n → Option ((Int × Vector α n) ⊕ τ)} (v0:Vector α n) (g:Nat → α) (t:Vector α n → τ) (hn:n<1152921504606846976)
  (hstep : ∀ k v,k<n → (∀ j,k≤j → j<n → vg v j=vg v0 j) → body ((k:Int),v)=some (.inl (((k+1:Nat):Int),vp v k (g k))))
  (hend : ∀ v,body ((n:Int),v)=some (.inr (t v))):loop body BIG ((0:Int),v0)=some (t (Vector.ofFn fun i=>g i.val)):=by
 have key : ∀ k,k≤n → ∀ j,j<n → vg (iter (fun k v=>vp v k (g k)) k v0) j=if j<k then g j else vg v0 j:=by
  intro k
  induction k with
  | zero=>intro _ j hj; simp [iter]
  | succ k ih =>
   intro hk j hj
   show vg (vp _ k (g k)) j=_
   rw [Qr (by omega) hj,ih (by omega) j hj]
   by_cases h1:k=j
   ·subst h1; simp
   ·rw [if_neg h1]
    by_cases h2:j<k
    ·rw [if_pos h2,if_pos (by omega)]
    ·rw [if_neg h2,if_neg (by omega)]
 refine Ho n (fun k v=>vp v k (g k)) v0 _ (fun k v => ∀ j,j<n → vg v j=if j<k then g j else vg v0 j) hn (fun j hj=>by simp) (fun k v hk hv=>⟨hstep k v hk (fun j h1 h2=>by rw [hv j h2,if_neg (by omega)]),fun j hj=>?_⟩) (fun v hv _=>?_)
 ·show vg (vp v k (g k)) j=_
  rw [Qr hk hj,hv j hj]
  by_cases h1:k=j
  ·subst h1; simp
  ·rw [if_neg h1]
   by_cases h2:j<k
   ·rw [if_pos h2,if_pos (by omega)]
   ·rw [if_neg h2,if_neg (by omega)]
 ·rw [hend v]
  have:v=Vector.ofFn fun i=>g i.val:=RA fun i hi=>by rw [hv i hi,if_pos hi,Tw hi]
  rw [this]
theorem yD {σ:Type} (step:Nat → σ → σ) (m:Nat) (s:σ) : ∀ n,iter step (m+n) s=iter (fun k=>step (m+k)) n (iter step m s)
 | 0=>rfl
 | n+1=>by show step (m+n) (iter step (m+n) s)=_; rw [yD step m s n]; rfl
theorem J4 {σ:Type} {f g:Nat → σ → σ} {s:σ} : ∀ {n:Nat},(∀ k,k<n → ∀ s,f k s=g k s) → iter f n s=iter g n s
 | 0,_=>rfl
 | n+1,h=>by
  show f n (iter f n s)=g n (iter g n s)
  rw [J4 fun k hk=>h k (by omega),h n (by omega)]
theorem MG {σ:Type} {step:Nat → σ → σ} {s0:σ} (I:Nat → σ → Prop) (n:Nat) (h0:I 0 s0) (hs : ∀ k s,k<n → I k s → I (k+1) (step k s)) : ∀ k,k≤n → I k (iter step k s0)
 | 0,_=>h0
 | k+1,h=>hs k _ (by omega) (MG I n h0 hs k (by omega))
theorem EM {S σ τ:Type} {body:S → Option (S ⊕ τ)} (mk:Nat → σ → S) (n:Nat) (step:Nat → σ → σ) (s0:σ) (t:τ) (I:Nat → σ → Prop) (hn:n<1152921504606846976) (h0:I 0 s0)
  (hstep : ∀ k s,k<n → I k s → body (mk k s)=some (.inl (mk (k+1) (step k s)))∧I (k+1) (step k s)) (hend : ∀ s,I n s → s=iter step n s0 → body (mk n s)=some (.inr t)) :
  loop body BIG (mk 0 s0)=some t:=by
 have hI : ∀ k,k≤n → I k (iter step k s0):=MG I n h0 fun k s hk hs=>(hstep k s hk hs).2
 exact RY (fun k=>mk k (iter step k s0)) n t hn (fun k hk=>(hstep k _ hk (hI k (by omega))).1) (hend _ (hI n (Nat.le_refl _)) rfl)
theorem gM {S σ τ:Type} {body:S → Option (S ⊕ τ)} (mk:Nat → σ → S) (n:Nat) (step:Nat → σ → σ) (s0:σ) (t:τ) (hn:n<1152921504606846976)
  (hstep : ∀ k s,k<n → body (mk k s)=some (.inl (mk (k+1) (step k s)))) (hend:body (mk n (iter step n s0))=some (.inr t)) :
  loop body BIG (mk 0 s0)=some t :=
 RY (fun k=>mk k (iter step k s0)) n t hn (fun k hk=>hstep k _ hk) hend
theorem Vw {S τ:Type} {body:S → Option (S ⊕ τ)} (f:Nat → S) (n:Nat) {s0:S} (t:τ) (hn:n<1152921504606846976) (h0:s0=f 0)
  (hstep : ∀ k,k<n → body (f k)=some (.inl (f (k+1)))) (hend:body (f n)=some (.inr t)):loop body BIG s0=some t:=by
 subst h0; exact RY f n t hn hstep hend
theorem AU (s:Str):sub s 0 s.length=s:=by simp [sub]
theorem G6 (s:Str) (l h i:Nat) (hi:i<h - l):(sub s l h).getD i 0#8=s.getD (l+i) 0#8:=by
 simp only [sub,List.getD_eq_getElem?_getD,List.getElem?_take,List.getElem?_drop,if_pos hi]
theorem iL (s:Str) (a b c d:Nat) (h:d≤b - a):sub (sub s a b) c d=sub s (a+c) (a+d):=by
 simp only [sub,List.drop_take,List.take_take,List.drop_drop]
 congr 1
 omega
theorem o8 (s t:Str) (a b:Nat) (h:b≤s.length):sub (s++t) a b=sub s a b:=by
 simp only [sub]
 by_cases ha:a≤s.length
 ·rw [List.drop_append_of_le_length ha,List.take_append_of_le_length (by rw [List.length_drop]; omega)]
 ·rw [show b - a=0 by omega]; simp
theorem jv {l:Str} {i:Nat}:lg l i=l.getD i 0#8:=rfl
theorem J6 (s:Str) (i:Nat):sg s (i:Int)=s.getD i 0#8:=rfl
theorem zV (k m:Nat):((k:Int).tmod (m:Int))=((k % m:Nat):Int):=by
 rw [Int.tmod_eq_emod_of_nonneg (by omega)]; omega
theorem aJ (k m:Nat):((k:Int).tdiv (m:Int))=((k / m:Nat):Int):=by
 rw [Int.tdiv_eq_ediv_of_nonneg (by omega)]; omega
end Go.Kx
namespace Go.Kx
theorem Bd {a b:Nat} (h:b≤a) (ha:a<9223372036854775808):ZJ ((a:Int) - (b:Int))=((a - b:Nat):Int):=by
 rw [Yr (by omega) (by omega)]; omega
theorem Vj {a b:Nat} (h:a+b<9223372036854775808):ZJ ((a:Int)+(b:Int))=((a+b:Nat):Int):=by
 rw [Yr (by omega) (by omega)]; omega
theorem GI {a b:Nat} (h:a * b<9223372036854775808):ZJ ((a:Int) * (b:Int))=((a * b:Nat):Int):=by
 rw [← Int.natCast_mul]; exact Nq h
theorem GA {a b:Nat} (h:a<9223372036854775808):ZJ ((a:Int).tdiv (b:Int))=((a / b:Nat):Int):=by
 rw [aJ]; exact Nq (by have:=Nat.div_le_self a b; omega)
end Go.Kx
namespace Go.Kx
theorem Aq {S τ:Type} {body:S → Option (S ⊕ τ)} (Q:Option τ → Prop) : ∀ (d fuel:Nat) (I:Nat → S → Prop) (s:S),I d s → d<fuel →
  (∀ k s,I (k+1) s → (∃ s',body s=some (.inl s')∧I k s') ∨ ∃ t,body s=some (.inr t)∧Q (some t)) → (∀ s,I 0 s → ∃ t,body s=some (.inr t)∧Q (some t)) → Q (loop body fuel s)
 | 0,0,_,_,_,h,_,_=>by omega
 | 0,fuel+1,I,s,hI,_,_,h0=>by
  obtain ⟨t,ht,hq⟩:=h0 s hI
  simp only [loop,ht]; exact hq
 | d+1,0,_,_,_,h,_,_=>by omega
 | d+1,fuel+1,I,s,hI,h,hs,h0=>by
  rcases hs d s hI with ⟨s',hb,hI'⟩ | ⟨t,ht,hq⟩
  ·simp only [loop,hb]
   exact Aq Q d fuel I s' hI' (by omega) hs h0
  ·simp only [loop,ht]; exact hq
open Go
theorem VH {C:Ctx} {ops:Array Oper} {Q:Exit → Act → World → Prop} {l:List Oper} {m:Sl} {L:Mem} {Γ:Type} (m':Γ → Sl) (L':Γ → Mem)
  (hr : ∀ g,TX C Q .normal (m' g) (L' g)) (h:(∀ g,TX C Q .normal (m' g) (L' g)) → TL C ops Q l m L):TL C ops Q l m L:=h hr
end Go.Kx
end
