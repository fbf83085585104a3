/-
  Part 2 of the proof of what several laws share.
-/
import Derived.Laws.BytesArg
import Derived.Laws.Append
import Derived.Laws.AppendOwn
import Derived.Test.YtkgeoekcnlgfnaaGreatDoorKh1
set_option linter.unusedVariables false
set_option linter.unusedSimpArgs false
section
namespace Go.Kx
open Go
section
variable {P:Program} {t:TypeId} {x y:Operand} (w:World)
theorem XI {op:BinOp} {vx vy v:Value} (h1:(eqGuard op t x y vx vy).run P w = .ok () w) (h2:(binOp op t vx vy).run P w = .ok v w):(TU op t x y vx vy).run P w = .ok v w:=by
 unfold TU
 rw [Sem.run_bind,h1]
 exact h2
theorem XY {op:BinOp} {k k':IntKind} {a b:Int}:(eqGuard op t x y (.int k a) (.int k' b)).run P w = .ok () w:=by
 cases op <;> simp [eqGuard]
theorem DT {op:BinOp} {a b:Bool}:(eqGuard op t x y (.bool a) (.bool b)).run P w = .ok () w:=by
 cases op <;> simp [eqGuard]
theorem Gn {op:BinOp} {a b:ByteArray}:(eqGuard op t x y (.string a) (.string b)).run P w = .ok () w:=by
 cases op <;> simp [eqGuard]
theorem xw (a:BitVec 8):IntKind.u8.wrap (a.toNat:Int)=a.toNat:=by
 have:=a.isLt
 simp only [IntKind.wrap,IntKind.bits,IntKind.signed,Bool.false_and,Bool.false_eq_true,if_false]
 omega
theorem vW (z:Int):IntKind.u8.wrap z=((BitVec.ofInt 8 z).toNat:Int):=by
 simp only [IntKind.wrap,IntKind.bits,IntKind.signed,Bool.false_and,Bool.false_eq_true,if_false,BitVec.toNat_ofInt]
 omega
theorem Ia (a:BitVec 8):BitVec.ofInt 8 (a.toNat:Int)=a:=by
 apply BitVec.eq_of_toNat_eq
 simp only [BitVec.toNat_ofInt]
 have:=a.isLt
 omega
theorem Sr (a b:BitVec 8):(TU .xor t x y (v8 a) (v8 b)).run P w = .ok (v8 (a ^^^ b)) w :=
 XI w (XY w) (by
  have h1:BitVec.ofInt (IntKind.bits .u8) (a.toNat:Int)=a:=Ia a
  have h2:BitVec.ofInt (IntKind.bits .u8) (b.toNat:Int)=b:=Ia b
  have h3:=xw (a ^^^ b)
  show Result.ok (Value.int .u8 (IntKind.u8.wrap (((BitVec.ofInt (IntKind.bits .u8) (a.toNat:Int)) ^^^ (BitVec.ofInt (IntKind.bits .u8) (b.toNat:Int)):BitVec (IntKind.bits .u8)).toNat:Int))) w=_
  rw [h1,h2]
  exact congrArg (fun z=>Result.ok (Value.int .u8 z) w) h3)
theorem abC (a b:BitVec 8):(TU .and t x y (v8 a) (v8 b)).run P w = .ok (v8 (a &&& b)) w :=
 XI w (XY w) (by
  have h1:BitVec.ofInt (IntKind.bits .u8) (a.toNat:Int)=a:=Ia a
  have h2:BitVec.ofInt (IntKind.bits .u8) (b.toNat:Int)=b:=Ia b
  have h3:=xw (a &&& b)
  show Result.ok (Value.int .u8 (IntKind.u8.wrap (((BitVec.ofInt (IntKind.bits .u8) (a.toNat:Int)) &&& (BitVec.ofInt (IntKind.bits .u8) (b.toNat:Int)):BitVec (IntKind.bits .u8)).toNat:Int))) w=_
  rw [h1,h2]
  exact congrArg (fun z=>Result.ok (Value.int .u8 z) w) h3)
theorem or8 (a b:BitVec 8):(TU .or t x y (v8 a) (v8 b)).run P w = .ok (v8 (a ||| b)) w :=
 XI w (XY w) (by
  have h1:BitVec.ofInt (IntKind.bits .u8) (a.toNat:Int)=a:=Ia a
  have h2:BitVec.ofInt (IntKind.bits .u8) (b.toNat:Int)=b:=Ia b
  have h3:=xw (a ||| b)
  show Result.ok (Value.int .u8 (IntKind.u8.wrap (((BitVec.ofInt (IntKind.bits .u8) (a.toNat:Int)) ||| (BitVec.ofInt (IntKind.bits .u8) (b.toNat:Int)):BitVec (IntKind.bits .u8)).toNat:Int))) w=_
  rw [h1,h2]
  exact congrArg (fun z=>Result.ok (Value.int .u8 z) w) h3)
theorem adP (a b:BitVec 8):(TU .eql t x y (v8 a) (v8 b)).run P w = .ok (vb (decide (a=b))) w :=
 XI w (XY w) (by
  have:((a.toNat:Int) == b.toNat)=decide (a=b):=by
   rw [Bool.eq_iff_iff]; simp [BitVec.toNat_inj,Int.ofNat_inj]
  simp [binOp,v8,vb,Op.intCmp,this])
theorem acE (a b:BitVec 8):(TU .gtr t x y (v8 a) (v8 b)).run P w = .ok (vb (decide (b.toNat<a.toNat))) w :=
 XI w (XY w) (by simp [binOp,v8,vb,Op.intCmp])
theorem aaG (a:BitVec 8):(Op.unary .neg (v8 a)).run P w = .ok (v8 (-a)) w:=by
 have:IntKind.u8.wrap (0 - (a.toNat:Int))=((-a).toNat:Int):=by rw [vW,Int.zero_sub,BitVec.ofInt_neg,Ia]
 simp only [Op.unary,v8,Op.intArith,this]
 simp
theorem xk (a:BitVec 8) (k:IntKind) (s:Int) (h:0≤s):(TU .shl t x y (v8 a) (.int k s)).run P w = .ok (v8 (a <<< s.toNat)) w :=
 XI w (XY w) (by
  have hs : ¬ s<0:=by omega
  have h2:IntKind.u8.wrap ((a.toNat:Int) * 2 ^ (min s.toNat 8))=((a <<< s.toNat).toNat:Int):=by
   rw [vW]
   congr 1
   rw [BitVec.toNat_ofInt,BitVec.toNat_shiftLeft,Nat.shiftLeft_eq]
   rcases Nat.le_total s.toNat 8 with h3 | h3
   ·rw [Nat.min_eq_left h3]
    have:((a.toNat:Int) * 2 ^ s.toNat)=((a.toNat * 2 ^ s.toNat:Nat):Int):=by simp
    rw [this]
    omega
   ·rw [Nat.min_eq_right h3]
    have e:2 ^ s.toNat=2 ^ 8 * 2 ^ (s.toNat - 8):=by rw [← Nat.pow_add]; congr 1; omega
    have h4:a.toNat * 2 ^ s.toNat % 2 ^ 8=0:=by
     rw [e, ← Nat.mul_assoc,Nat.mul_comm a.toNat,Nat.mul_assoc]; exact Nat.mul_mod_right _ _
    rw [h4]
    have h5:((a.toNat:Int) * 2 ^ 8) % ((2 ^ 8:Nat):Int)=0:=by simp
    rw [h5]; rfl
  simp only [binOp,v8,Op.shift,if_neg hs,IntKind.bits,h2]
  simp)
theorem bM (a:BitVec 8) (k:IntKind) (s:Int) (h:0≤s):(TU .shr t x y (v8 a) (.int k s)).run P w = .ok (v8 (a >>> s.toNat)) w :=
 XI w (XY w) (by
  have hs : ¬ s<0:=by omega
  have h2:(a.toNat:Int).fdiv (2 ^ (min s.toNat 8))=((a >>> s.toNat).toNat:Int):=by
   rw [BitVec.toNat_ushiftRight,Nat.shiftRight_eq_div_pow]
   have hc : ∀ k:Nat,((2:Int) ^ k)=((2 ^ k:Nat):Int):=fun k=>by simp
   rw [hc,Int.fdiv_eq_ediv_of_nonneg _ (Int.natCast_nonneg _), ← Int.natCast_ediv]
   congr 1
   rcases Nat.le_total s.toNat 8 with h3 | h3
   ·rw [Nat.min_eq_left h3]
   ·rw [Nat.min_eq_right h3]
    have hlt:=a.isLt
    rw [Nat.div_eq_of_lt hlt,Nat.div_eq_of_lt]
    exact Nat.lt_of_lt_of_le hlt (Nat.pow_le_pow_right (by omega) h3)
  simp only [binOp,v8,Op.shift,if_neg hs,IntKind.bits,h2]
  simp)
theorem F3 (s t':TypeId) (hd:P.underlying t'=some (.int .u8)) (hs':(P.underlying s).isSome=true) (k:IntKind) (z:Int):(convert s t' (.int k z)).run P w = .ok (v8 (BitVec.ofInt 8 z)) w:=by
 obtain ⟨d,hd'⟩:=Option.isSome_iff_exists.1 hs'
 simp [convert,Sem.run_bind,run_underlying hd',run_underlying hd,Conv.intToInt,vW,v8, -BitVec.toNat_ofInt]
theorem tZ (s t':TypeId) (hd:P.underlying t'=some (.int .u8)) (hs':(P.underlying s).isSome=true) (a:BitVec 32):(convert s t' (v32 a)).run P w = .ok (v8 (a.setWidth 8)) w:=by
 have h:=F3 (P:=P) w s t' hd hs' .u32 (a.toNat:Int)
 have e:BitVec.ofInt 8 (a.toNat:Int)=a.setWidth 8:=by apply BitVec.eq_of_toNat_eq; rw [BitVec.toNat_ofInt,BitVec.toNat_setWidth]; omega
 rw [e] at h
 exact h
theorem ES (s t':TypeId) (hd:P.underlying t'=some (.int .u8)) (hs':(P.underlying s).isSome=true) (a:BitVec 64):(convert s t' (v64 a)).run P w = .ok (v8 (a.setWidth 8)) w:=by
 have h:=F3 (P:=P) w s t' hd hs' .u64 (a.toNat:Int)
 have e:BitVec.ofInt 8 (a.toNat:Int)=a.setWidth 8:=by apply BitVec.eq_of_toNat_eq; rw [BitVec.toNat_ofInt,BitVec.toNat_setWidth]; omega
 rw [e] at h
 exact h
theorem uq (a:BitVec 32):IntKind.u32.wrap (a.toNat:Int)=a.toNat:=by
 have:=a.isLt
 simp only [IntKind.wrap,IntKind.bits,IntKind.signed,Bool.false_and,Bool.false_eq_true,if_false]
 omega
theorem Aa (z:Int):IntKind.u32.wrap z=((BitVec.ofInt 32 z).toNat:Int):=by
 simp only [IntKind.wrap,IntKind.bits,IntKind.signed,Bool.false_and,Bool.false_eq_true,if_false,BitVec.toNat_ofInt]
 omega
theorem ofInt32 (a:BitVec 32):BitVec.ofInt 32 (a.toNat:Int)=a:=by
 apply BitVec.eq_of_toNat_eq
 simp only [BitVec.toNat_ofInt]
 have:=a.isLt
 omega
theorem add32 (a b:BitVec 32):(TU .add t x y (v32 a) (v32 b)).run P w = .ok (v32 (a+b)) w :=
 XI w (XY w) (by
  have:IntKind.u32.wrap ((a.toNat:Int)+b.toNat)=((a+b).toNat:Int):=by rw [Aa,BitVec.ofInt_add,ofInt32,ofInt32]
  simp [binOp,v32,Op.intArith,this, -BitVec.toNat_add])
theorem aa8 (a b:BitVec 32):(TU .and t x y (v32 a) (v32 b)).run P w = .ok (v32 (a &&& b)) w :=
 XI w (XY w) (by
  have h1:BitVec.ofInt (IntKind.bits .u32) (a.toNat:Int)=a:=ofInt32 a
  have h2:BitVec.ofInt (IntKind.bits .u32) (b.toNat:Int)=b:=ofInt32 b
  have h3:=uq (a &&& b)
  show Result.ok (Value.int .u32 (IntKind.u32.wrap (((BitVec.ofInt (IntKind.bits .u32) (a.toNat:Int)) &&& (BitVec.ofInt (IntKind.bits .u32) (b.toNat:Int)):BitVec (IntKind.bits .u32)).toNat:Int))) w=_
  rw [h1,h2]
  exact congrArg (fun z=>Result.ok (Value.int .u32 z) w) h3)
theorem adE (a b:BitVec 32):(TU .or t x y (v32 a) (v32 b)).run P w = .ok (v32 (a ||| b)) w :=
 XI w (XY w) (by
  have h1:BitVec.ofInt (IntKind.bits .u32) (a.toNat:Int)=a:=ofInt32 a
  have h2:BitVec.ofInt (IntKind.bits .u32) (b.toNat:Int)=b:=ofInt32 b
  have h3:=uq (a ||| b)
  show Result.ok (Value.int .u32 (IntKind.u32.wrap (((BitVec.ofInt (IntKind.bits .u32) (a.toNat:Int)) ||| (BitVec.ofInt (IntKind.bits .u32) (b.toNat:Int)):BitVec (IntKind.bits .u32)).toNat:Int))) w=_
  rw [h1,h2]
  exact congrArg (fun z=>Result.ok (Value.int .u32 z) w) h3)
theorem aas (a b:BitVec 32):(TU .neq t x y (v32 a) (v32 b)).run P w = .ok (vb (decide (a ≠ b))) w :=
 XI w (XY w) (by
  have:((a.toNat:Int) != b.toNat)=decide (a ≠ b):=by
   rw [Bool.eq_iff_iff]; simp [BitVec.toNat_inj,Int.ofNat_inj]
  simp [binOp,v32,vb,Op.intCmp,this])
theorem abA (a b:BitVec 32):(TU .lss t x y (v32 a) (v32 b)).run P w = .ok (vb (decide (a.toNat<b.toNat))) w :=
 XI w (XY w) (by simp [binOp,v32,vb,Op.intCmp])
theorem ack (a:BitVec 32) (k:IntKind) (s:Int) (h:0≤s):(TU .shl t x y (v32 a) (.int k s)).run P w = .ok (v32 (a <<< s.toNat)) w :=
 XI w (XY w) (by
  have hs : ¬ s<0:=by omega
  have h2:IntKind.u32.wrap ((a.toNat:Int) * 2 ^ (min s.toNat 32))=((a <<< s.toNat).toNat:Int):=by
   rw [Aa]
   congr 1
   rw [BitVec.toNat_ofInt,BitVec.toNat_shiftLeft,Nat.shiftLeft_eq]
   rcases Nat.le_total s.toNat 32 with h3 | h3
   ·rw [Nat.min_eq_left h3]
    have:((a.toNat:Int) * 2 ^ s.toNat)=((a.toNat * 2 ^ s.toNat:Nat):Int):=by simp
    rw [this]
    omega
   ·rw [Nat.min_eq_right h3]
    have e:2 ^ s.toNat=2 ^ 32 * 2 ^ (s.toNat - 32):=by rw [← Nat.pow_add]; congr 1; omega
    have h4:a.toNat * 2 ^ s.toNat % 2 ^ 32=0:=by
     rw [e, ← Nat.mul_assoc,Nat.mul_comm a.toNat,Nat.mul_assoc]; exact Nat.mul_mod_right _ _
    rw [h4]
    have h5:((a.toNat:Int) * 2 ^ 32) % ((2 ^ 32:Nat):Int)=0:=by simp
    rw [h5]; rfl
  simp only [binOp,v32,Op.shift,if_neg hs,IntKind.bits,h2]
  simp)
theorem eD (a:BitVec 32) (k:IntKind) (s:Int) (h:0≤s):(TU .shr t x y (v32 a) (.int k s)).run P w = .ok (v32 (a >>> s.toNat)) w :=
 XI w (XY w) (by
  have hs : ¬ s<0:=by omega
  have h2:(a.toNat:Int).fdiv (2 ^ (min s.toNat 32))=((a >>> s.toNat).toNat:Int):=by
   rw [BitVec.toNat_ushiftRight,Nat.shiftRight_eq_div_pow]
   have hc : ∀ k:Nat,((2:Int) ^ k)=((2 ^ k:Nat):Int):=fun k=>by simp
   rw [hc,Int.fdiv_eq_ediv_of_nonneg _ (Int.natCast_nonneg _), ← Int.natCast_ediv]
   congr 1
   rcases Nat.le_total s.toNat 32 with h3 | h3
   ·rw [Nat.min_eq_left h3]
   ·rw [Nat.min_eq_right h3]
    have hlt:=a.isLt
    rw [Nat.div_eq_of_lt hlt,Nat.div_eq_of_lt]
    exact Nat.lt_of_lt_of_le hlt (Nat.pow_le_pow_right (by omega) h3)
  simp only [binOp,v32,Op.shift,if_neg hs,IntKind.bits,h2]
  simp)
theorem eO (s t':TypeId) (hd:P.underlying t'=some (.int .u32)) (hs':(P.underlying s).isSome=true) (k:IntKind) (z:Int):(convert s t' (.int k z)).run P w = .ok (v32 (BitVec.ofInt 32 z)) w:=by
 obtain ⟨d,hd'⟩:=Option.isSome_iff_exists.1 hs'
 simp [convert,Sem.run_bind,run_underlying hd',run_underlying hd,Conv.intToInt,Aa,v32, -BitVec.toNat_ofInt]
theorem jC (s t':TypeId) (hd:P.underlying t'=some (.int .u32)) (hs':(P.underlying s).isSome=true) (a:BitVec 8):(convert s t' (v8 a)).run P w = .ok (v32 (a.setWidth 32)) w:=by
 have h:=eO (P:=P) w s t' hd hs' .u8 (a.toNat:Int)
 have e:BitVec.ofInt 32 (a.toNat:Int)=a.setWidth 32:=by apply BitVec.eq_of_toNat_eq; rw [BitVec.toNat_ofInt,BitVec.toNat_setWidth]; omega
 rw [e] at h
 exact h
theorem Eo (s t':TypeId) (hd:P.underlying t'=some (.int .u32)) (hs':(P.underlying s).isSome=true) (a:BitVec 64):(convert s t' (v64 a)).run P w = .ok (v32 (a.setWidth 32)) w:=by
 have h:=eO (P:=P) w s t' hd hs' .u64 (a.toNat:Int)
 have e:BitVec.ofInt 32 (a.toNat:Int)=a.setWidth 32:=by apply BitVec.eq_of_toNat_eq; rw [BitVec.toNat_ofInt,BitVec.toNat_setWidth]; omega
 rw [e] at h
 exact h
theorem AA (a:BitVec 64):IntKind.u64.wrap (a.toNat:Int)=a.toNat:=by
 have:=a.isLt
 simp only [IntKind.wrap,IntKind.bits,IntKind.signed,Bool.false_and,Bool.false_eq_true,if_false]
 omega
theorem IL (z:Int):IntKind.u64.wrap z=((BitVec.ofInt 64 z).toNat:Int):=by
 simp only [IntKind.wrap,IntKind.bits,IntKind.signed,Bool.false_and,Bool.false_eq_true,if_false,BitVec.toNat_ofInt]
 omega
theorem PS (a:BitVec 64):BitVec.ofInt 64 (a.toNat:Int)=a:=by
 apply BitVec.eq_of_toNat_eq
 simp only [BitVec.toNat_ofInt]
 have:=a.isLt
 omega
theorem Iu (a b:BitVec 64):(TU .add t x y (v64 a) (v64 b)).run P w = .ok (v64 (a+b)) w :=
 XI w (XY w) (by
  have:IntKind.u64.wrap ((a.toNat:Int)+b.toNat)=((a+b).toNat:Int):=by rw [IL,BitVec.ofInt_add,PS,PS]
  simp [binOp,v64,Op.intArith,this, -BitVec.toNat_add])
theorem uL (a b:BitVec 64):(TU .sub t x y (v64 a) (v64 b)).run P w = .ok (v64 (a - b)) w :=
 XI w (XY w) (by
  have:IntKind.u64.wrap ((a.toNat:Int) - b.toNat)=((a - b).toNat:Int):=by
   rw [IL]
   have h:BitVec.ofInt 64 ((a.toNat:Int) - b.toNat)=a - b:=by
    rw [Int.sub_eq_add_neg,BitVec.ofInt_add,BitVec.ofInt_neg,PS,PS,BitVec.sub_eq_add_neg]
   rw [h]
  simp [binOp,v64,Op.intArith,this, -BitVec.toNat_sub])
theorem Fz (a b:BitVec 64):(TU .mul t x y (v64 a) (v64 b)).run P w = .ok (v64 (a * b)) w :=
 XI w (XY w) (by
  have:IntKind.u64.wrap ((a.toNat:Int) * b.toNat)=((a * b).toNat:Int):=by rw [IL,BitVec.ofInt_mul,PS,PS]
  simp [binOp,v64,Op.intArith,this, -BitVec.toNat_mul])
theorem K3 (a b:BitVec 64):(TU .xor t x y (v64 a) (v64 b)).run P w = .ok (v64 (a ^^^ b)) w :=
 XI w (XY w) (by
  have h1:BitVec.ofInt (IntKind.bits .u64) (a.toNat:Int)=a:=PS a
  have h2:BitVec.ofInt (IntKind.bits .u64) (b.toNat:Int)=b:=PS b
  have h3:=AA (a ^^^ b)
  show Result.ok (Value.int .u64 (IntKind.u64.wrap (((BitVec.ofInt (IntKind.bits .u64) (a.toNat:Int)) ^^^ (BitVec.ofInt (IntKind.bits .u64) (b.toNat:Int)):BitVec (IntKind.bits .u64)).toNat:Int))) w=_
  rw [h1,h2]
  exact congrArg (fun z=>Result.ok (Value.int .u64 z) w) h3)
theorem MZ (a b:BitVec 64):(TU .and t x y (v64 a) (v64 b)).run P w = .ok (v64 (a &&& b)) w :=
 XI w (XY w) (by
  have h1:BitVec.ofInt (IntKind.bits .u64) (a.toNat:Int)=a:=PS a
  have h2:BitVec.ofInt (IntKind.bits .u64) (b.toNat:Int)=b:=PS b
  have h3:=AA (a &&& b)
  show Result.ok (Value.int .u64 (IntKind.u64.wrap (((BitVec.ofInt (IntKind.bits .u64) (a.toNat:Int)) &&& (BitVec.ofInt (IntKind.bits .u64) (b.toNat:Int)):BitVec (IntKind.bits .u64)).toNat:Int))) w=_
  rw [h1,h2]
  exact congrArg (fun z=>Result.ok (Value.int .u64 z) w) h3)
theorem zg (a b:BitVec 64):(TU .or t x y (v64 a) (v64 b)).run P w = .ok (v64 (a ||| b)) w :=
 XI w (XY w) (by
  have h1:BitVec.ofInt (IntKind.bits .u64) (a.toNat:Int)=a:=PS a
  have h2:BitVec.ofInt (IntKind.bits .u64) (b.toNat:Int)=b:=PS b
  have h3:=AA (a ||| b)
  show Result.ok (Value.int .u64 (IntKind.u64.wrap (((BitVec.ofInt (IntKind.bits .u64) (a.toNat:Int)) ||| (BitVec.ofInt (IntKind.bits .u64) (b.toNat:Int)):BitVec (IntKind.bits .u64)).toNat:Int))) w=_
  rw [h1,h2]
  exact congrArg (fun z=>Result.ok (Value.int .u64 z) w) h3)
theorem Cx (a b:BitVec 64):(TU .eql t x y (v64 a) (v64 b)).run P w = .ok (vb (decide (a=b))) w :=
 XI w (XY w) (by
  have:((a.toNat:Int) == b.toNat)=decide (a=b):=by
   rw [Bool.eq_iff_iff]; simp [BitVec.toNat_inj,Int.ofNat_inj]
  simp [binOp,v64,vb,Op.intCmp,this])
theorem aaH (a b:BitVec 64):(TU .gtr t x y (v64 a) (v64 b)).run P w = .ok (vb (decide (b.toNat<a.toNat))) w :=
 XI w (XY w) (by simp [binOp,v64,vb,Op.intCmp])
theorem eZ (a:BitVec 64):(Op.unary .neg (v64 a)).run P w = .ok (v64 (-a)) w:=by
 have:IntKind.u64.wrap (0 - (a.toNat:Int))=((-a).toNat:Int):=by rw [IL,Int.zero_sub,BitVec.ofInt_neg,PS]
 simp only [Op.unary,v64,Op.intArith,this]
 simp
theorem Iw (a:BitVec 64) (k:IntKind) (s:Int) (h:0≤s):(TU .shl t x y (v64 a) (.int k s)).run P w = .ok (v64 (a <<< s.toNat)) w :=
 XI w (XY w) (by
  have hs : ¬ s<0:=by omega
  have h2:IntKind.u64.wrap ((a.toNat:Int) * 2 ^ (min s.toNat 64))=((a <<< s.toNat).toNat:Int):=by
   rw [IL]
   congr 1
   rw [BitVec.toNat_ofInt,BitVec.toNat_shiftLeft,Nat.shiftLeft_eq]
   rcases Nat.le_total s.toNat 64 with h3 | h3
   ·rw [Nat.min_eq_left h3]
    have:((a.toNat:Int) * 2 ^ s.toNat)=((a.toNat * 2 ^ s.toNat:Nat):Int):=by simp
    rw [this]
    omega
   ·rw [Nat.min_eq_right h3]
    have e:2 ^ s.toNat=2 ^ 64 * 2 ^ (s.toNat - 64):=by rw [← Nat.pow_add]; congr 1; omega
    have h4:a.toNat * 2 ^ s.toNat % 2 ^ 64=0:=by
     rw [e, ← Nat.mul_assoc,Nat.mul_comm a.toNat,Nat.mul_assoc]; exact Nat.mul_mod_right _ _
    rw [h4]
    have h5:((a.toNat:Int) * 2 ^ 64) % ((2 ^ 64:Nat):Int)=0:=by simp
    rw [h5]; rfl
  simp only [binOp,v64,Op.shift,if_neg hs,IntKind.bits,h2]
  simp)
theorem Pi (a:BitVec 64) (k:IntKind) (s:Int) (h:0≤s):(TU .shr t x y (v64 a) (.int k s)).run P w = .ok (v64 (a >>> s.toNat)) w :=
 XI w (XY w) (by
  have hs : ¬ s<0:=by omega
  have h2:(a.toNat:Int).fdiv (2 ^ (min s.toNat 64))=((a >>> s.toNat).toNat:Int):=by
   rw [BitVec.toNat_ushiftRight,Nat.shiftRight_eq_div_pow]
   have hc : ∀ k:Nat,((2:Int) ^ k)=((2 ^ k:Nat):Int):=fun k=>by simp
   rw [hc,Int.fdiv_eq_ediv_of_nonneg _ (Int.natCast_nonneg _), ← Int.natCast_ediv]
   congr 1
   rcases Nat.le_total s.toNat 64 with h3 | h3
   ·rw [Nat.min_eq_left h3]
   ·rw [Nat.min_eq_right h3]
    have hlt:=a.isLt
    rw [Nat.div_eq_of_lt hlt,Nat.div_eq_of_lt]
    exact Nat.lt_of_lt_of_le hlt (Nat.pow_le_pow_right (by omega) h3)
  simp only [binOp,v64,Op.shift,if_neg hs,IntKind.bits,h2]
  simp)
theorem Ct (s t':TypeId) (hd:P.underlying t'=some (.int .u64)) (hs':(P.underlying s).isSome=true) (k:IntKind) (z:Int):(convert s t' (.int k z)).run P w = .ok (v64 (BitVec.ofInt 64 z)) w:=by
 obtain ⟨d,hd'⟩:=Option.isSome_iff_exists.1 hs'
 simp [convert,Sem.run_bind,run_underlying hd',run_underlying hd,Conv.intToInt,IL,v64, -BitVec.toNat_ofInt]
theorem GV (s t':TypeId) (hd:P.underlying t'=some (.int .u64)) (hs':(P.underlying s).isSome=true) (a:BitVec 8):(convert s t' (v8 a)).run P w = .ok (v64 (a.setWidth 64)) w:=by
 have h:=Ct (P:=P) w s t' hd hs' .u8 (a.toNat:Int)
 have e:BitVec.ofInt 64 (a.toNat:Int)=a.setWidth 64:=by apply BitVec.eq_of_toNat_eq; rw [BitVec.toNat_ofInt,BitVec.toNat_setWidth]; omega
 rw [e] at h
 exact h
theorem M_ (s t':TypeId) (hd:P.underlying t'=some (.int .u64)) (hs':(P.underlying s).isSome=true) (a:BitVec 32):(convert s t' (v32 a)).run P w = .ok (v64 (a.setWidth 64)) w:=by
 have h:=Ct (P:=P) w s t' hd hs' .u32 (a.toNat:Int)
 have e:BitVec.ofInt 64 (a.toNat:Int)=a.setWidth 64:=by apply BitVec.eq_of_toNat_eq; rw [BitVec.toNat_ofInt,BitVec.toNat_setWidth]; omega
 rw [e] at h
 exact h
theorem Om (z:Int):IntKind.i64.wrap z=ZJ z:=IntKind.wrap_i64 z
theorem XN (a b:Int):(TU .add t x y (vi a) (vi b)).run P w = .ok (vi (ZJ (a+b))) w:=XI w (XY w) (by simp [binOp,vi,Op.intArith,Om])
theorem OX (a b:Int):(TU .sub t x y (vi a) (vi b)).run P w = .ok (vi (ZJ (a - b))) w:=XI w (XY w) (by simp [binOp,vi,Op.intArith,Om])
theorem Ma (a b:Int):(TU .mul t x y (vi a) (vi b)).run P w = .ok (vi (ZJ (a * b))) w:=XI w (XY w) (by simp [binOp,vi,Op.intArith,Om])
theorem Lh (a b:Int) (h:b ≠ 0):(TU .quo t x y (vi a) (vi b)).run P w = .ok (vi (ZJ (a.tdiv b))) w:=XI w (XY w) (by simp [binOp,vi,Op.intDiv,Om,h])
theorem Jg (a b:Int) (h:b ≠ 0):(TU .rem t x y (vi a) (vi b)).run P w = .ok (vi (a.tmod b)) w:=XI w (XY w) (by simp [binOp,vi,Op.intDiv,h])
theorem az (a b:Int):(TU .and t x y (vi a) (vi b)).run P w = .ok (vi (HZ (· &&& ·) a b)) w:=XI w (XY w) (congrArg (fun z=>Result.ok (Value.int .i64 z) w) (Om ((BitVec.ofInt 64 a &&& BitVec.ofInt 64 b:BitVec 64).toNat:Int)))
theorem orI (a b:Int):(TU .or t x y (vi a) (vi b)).run P w = .ok (vi (HZ (· ||| ·) a b)) w:=XI w (XY w) (congrArg (fun z=>Result.ok (Value.int .i64 z) w) (Om ((BitVec.ofInt 64 a ||| BitVec.ofInt 64 b:BitVec 64).toNat:Int)))
theorem abV (a b:Int):(TU .xor t x y (vi a) (vi b)).run P w = .ok (vi (HZ (· ^^^ ·) a b)) w:=XI w (XY w) (congrArg (fun z=>Result.ok (Value.int .i64 z) w) (Om ((BitVec.ofInt 64 a ^^^ BitVec.ofInt 64 b:BitVec 64).toNat:Int)))
theorem Xr (a b:Int):(TU .eql t x y (vi a) (vi b)).run P w = .ok (vb (decide (a=b))) w:=XI w (XY w) (by
 have:(a == b)=decide (a=b):=by rw [Bool.eq_iff_iff]; simp
 simp [binOp,vi,vb,Op.intCmp,this])
theorem SN (a b:Int):(TU .neq t x y (vi a) (vi b)).run P w = .ok (vb (decide (a ≠ b))) w:=XI w (XY w) (by
 have:(a != b)=decide (a ≠ b):=by rw [Bool.eq_iff_iff]; simp
 simp [binOp,vi,vb,Op.intCmp,this])
theorem WV (a b:Int):(TU .lss t x y (vi a) (vi b)).run P w = .ok (vb (decide (a<b))) w:=XI w (XY w) (by simp [binOp,vi,vb,Op.intCmp])
theorem RH (a b:Int):(TU .leq t x y (vi a) (vi b)).run P w = .ok (vb (decide (a≤b))) w:=XI w (XY w) (by simp [binOp,vi,vb,Op.intCmp])
theorem Sv (a b:Int):(TU .gtr t x y (vi a) (vi b)).run P w = .ok (vb (decide (b<a))) w:=XI w (XY w) (by simp [binOp,vi,vb,Op.intCmp])
theorem LD (a b:Int):(TU .geq t x y (vi a) (vi b)).run P w = .ok (vb (decide (b≤a))) w:=XI w (XY w) (by simp [binOp,vi,vb,Op.intCmp])
theorem abE (a:Int) (k:IntKind) (s:Int) (h:0≤s):(TU .shl t x y (vi a) (.int k s)).run P w = .ok (vi (EB a s)) w:=XI w (XY w) (by
 have hs : ¬ s<0:=by omega
 simp [binOp,vi,Op.shift,if_neg hs,IntKind.bits,Om,EB])
theorem yS (a:Int) (k:IntKind) (s:Int) (h:0≤s):(TU .shr t x y (vi a) (.int k s)).run P w = .ok (vi (VO a s)) w:=XI w (XY w) (by
 have hs : ¬ s<0:=by omega
 have h2:a.fdiv (2 ^ (min s.toNat 64))=a / 2 ^ (min s.toNat 64):=Int.fdiv_eq_ediv_of_nonneg _ (by have:(0:Int)<2 ^ (min s.toNat 64):=Int.pow_pos (by omega); omega)
 simp only [binOp,vi,Op.shift,if_neg hs,IntKind.bits,VO,h2]
 simp)
theorem adD (s t':TypeId) (hd:P.underlying t'=some (.int .i64)) (hs':(P.underlying s).isSome=true) (k:IntKind) (z:Int):(convert s t' (.int k z)).run P w = .ok (vi (ZJ z)) w:=by
 obtain ⟨d,hd'⟩:=Option.isSome_iff_exists.1 hs'
 simp [convert,Sem.run_bind,run_underlying hd',run_underlying hd,Conv.intToInt,Om,vi]
theorem nY (s t':TypeId) (hd:P.underlying t'=some (.int .i64)) (hs':(P.underlying s).isSome=true) (a:BitVec 8):(convert s t' (v8 a)).run P w = .ok (vi (a.toNat:Int)) w:=by
 have h:=adD (P:=P) w s t' hd hs' .u8 (a.toNat:Int)
 have hlt:=a.isLt
 have e:ZJ (a.toNat:Int)=a.toNat:=by unfold ZJ; omega
 rw [e] at h
 exact h
theorem eqB (d:Nat) (a b:Bool) (ht:P.underlying t=some .bool):(Op.equalIn (d+1) t (.bool a) (.bool b)).run P w = .ok (a == b) w:=by
 simp [Op.equalIn,Sem.run_bind,run_underlying ht]
theorem adY (a b:Bool) (ht:P.underlying t=some .bool):(TU .eql t x y (vb a) (vb b)).run P w = .ok (vb (a == b)) w:=XI w (DT w) (by
 have h:=eqB w 9999 a b ht
 show ((Op.equalIn (9999+1) t (.bool a) (.bool b)) >>= fun r=>pure (Value.bool r)).run P w=_
 rw [Sem.run_bind,h]; simp [vb])
theorem pR (a b:Bool) (ht:P.underlying t=some .bool):(TU .neq t x y (vb a) (vb b)).run P w = .ok (vb (!(a == b))) w:=XI w (DT w) (by
 have h:=eqB w 9999 a b ht
 show ((Op.equalIn (9999+1) t (.bool a) (.bool b)) >>= fun r=>pure (Value.bool (!r))).run P w=_
 rw [Sem.run_bind,h]; simp [vb])
theorem T_ (a:Bool):(Op.unary .not (vb a)).run P w = .ok (vb (!a)) w:=by simp [Op.unary,vb]
theorem G5 (a:Str):(bytes a).toList=a.map UInt8.ofBitVec:=by simp [bytes]
theorem bytes_append (a b:Str):bytes a++bytes b=bytes (a++b):=by
 apply ByteArray.ext
 simp [bytes,ByteArray.data_append]
theorem G9 (a b:Str) (h:a.length+b.length≤4611686018427387904):(TU .add t x y (vs a) (vs b)).run P w = .ok (vs (a++b)) w:=XI w (Gn w) (by
 have h1 : ¬ (((bytes a).size+(bytes b).size:Nat):Int) > IntKind.max .i64:=by
  rw [OQ,OQ]
  have:IntKind.max .i64=9223372036854775807:=by decide
  rw [this]
  omega
 simp only [binOp,vs,Op.stringOp,if_neg h1,bytes_append]
 simp)
theorem eqS (a b:Str):((bytes a).toList == (bytes b).toList)=decide (a=b):=by
 rw [Bool.eq_iff_iff,G5,G5]
 simp only [beq_iff_eq,decide_eq_true_eq]
 exact List.map_inj_right (fun p q h=>by cases h; rfl)
theorem L6 (a b:Str):(TU .eql t x y (vs a) (vs b)).run P w = .ok (vb (decide (a=b))) w:=XI w (Gn w) (by
 simp only [binOp,vs,Op.stringOp,eqS]
 simp [vb])
theorem KX (a b:Str):(TU .neq t x y (vs a) (vs b)).run P w = .ok (vb (decide (a ≠ b))) w:=XI w (Gn w) (by
 simp only [binOp,vs,Op.stringOp,eqS]
 simp [vb])
end
end Go.Kx
end

section
namespace Go.Kx
open Go
theorem Md {w0 w:World} {L0 L:Mem} (h:Step w0 L0 w L) (cs:Array Value) (t:TypeId) :
  Step w0 L0 { w with heap:=w.heap.push (.cells cs t) } (⟨some (w.heap.size,0),cs.toList⟩ :: L) :=
 Step.frame (A:=[]) h (Step.alloc w cs t (0,0) (.inr rfl))
theorem El {w0 w:World} {L0 L:Mem} (h:Step w0 L0 w L) (n:Nat):Step w0 L0 { w with drawn:=n } L :=
 Step.frame (A:=[]) (B:=[]) h (Step.draws w n)
section
variable {C:Ctx} {m:Sl} {L:Mem} {dst:Option Tmp} {ty:TypeId} {pos:String} {af:Array Edge} {gd:Option (Nat × Bool)}
theorem jU {e:TypeId} {inf:TypeInfo} {z:Value} {cs:List Value} (hi:C.P.info? e=some inf) (hz:inf.zero=some z) (hcs:z.cells.toList=cs) :
  OP C ⟨dst, .alloc e,ty,pos,af,gd⟩ m L (Γ:=Nat) (fun b=>ptr (some (b,0)) 0) (fun b=>⟨some (b,0),cs⟩ :: L):=fun a w hs Q K hK=>by
 subst hcs
 have hrun:(execOp a.eval ⟨dst, .alloc e,ty,pos,af,gd⟩).run C.P w = .ok (.value (ptr (some (w.heap.size,0)) 0)) { w with heap:=w.heap.push (.cells z.cells e) }:=by
  simp [execOp,Instr.alloc,zeroValue,typeInfo,hi,hz,Sem.run_bind,newVar,newRow,newObj,Sem.run,ptr,loc,bk,EY]
 unfold Oper.wp
 rw [hrun]
 exact hK _ _ (Md hs.step z.cells e)
theorem abF {x:Operand} {v:Value} {e:TypeId} {cs:List Value} (hx:ev m x=some v) (hcs:v.cells.toList=cs) :
  OP C ⟨dst, .box e x,ty,pos,af,gd⟩ m L (Γ:=Nat) (fun b=>ptr (some (b,0)) 0) (fun b=>⟨some (b,0),cs⟩ :: L):=fun a w hs Q K hK=>by
 subst hcs
 have hrun:(execOp a.eval ⟨dst, .box e x,ty,pos,af,gd⟩).run C.P w = .ok (.value (ptr (some (w.heap.size,0)) 0)) { w with heap:=w.heap.push (.cells v.cells e) }:=by
  simp [execOp,hs.slots.ev hx,Instr.box,Sem.run_bind,newVar,newRow,newObj,Sem.run,ptr,loc,bk,EY]
 unfold Oper.wp
 rw [hrun]
 exact hK _ _ (Md hs.step v.cells e)
theorem oP {s:Str} {k:Nat} (h:k<s.length):(bytes s)[k]? = some (UInt8.ofBitVec (s.getD k 0#8)):=by
 have h1:k<(bytes s).size:=by rw [OQ]; exact h
 rw [getElem?_pos (bytes s) k h1]
 congr 1
 show (bytes s).data[k]=_
 simp [bytes,h]
theorem U2 {x ix:Operand} {s:Str} {kd:IntKind} {i:Int} {t:TypeId} (hx:ev m x=some (vs s)) (hi:ev m ix=some (.int kd i))
  (hu:C.P.underlying t=some .string) (h0:0≤i) (h1:i<s.length):Ou C ⟨dst, .index t x ix,ty,pos,af,gd⟩ m L (v8 (sg s i)):=fun a w hs=>by
 have hlt:i.toNat<s.length:=by omega
 have hb:=oP hlt
 have e1:(execOp a.eval ⟨dst, .index t x ix,ty,pos,af,gd⟩)=(do pure (.value (← Instr.index t (vs s) (.int kd i)))):=by
  simp only [execOp,hs.slots.ev hx,hs.slots.ev hi]
 rw [e1]
 simp only [Instr.index,asIntOf,vs,Sem.run_bind,run_underlying hu,Sem.run_pure,Result.andThen_ok,if_pos h0,hb]
 simp [v8,sg]
def OZ (m:Sl) (o:Option Operand) (dflt v:Nat):Prop :=
 match o with
 | none=>v=dflt
 | some x => ∃ k i,ev m x=some (.int k i)∧0≤i∧i.toNat=v
theorem OZ.some' {x:Operand} {d:Nat} {k:IntKind} {i:Int} (hx:ev m x=some (.int k i)) (h0:0≤i):OZ m (some x) d i.toNat:=⟨k,i,hx,h0,rfl⟩
theorem OZ.none' {d:Nat}:OZ m none d d:=rfl
theorem run_sliceBound {P:Program} {w:World} {k:IntKind} {i:Int} {y:Nat} {code:BoundsCode} (h0:0≤i) (h1:i.toNat≤y) :
  (Instr.sliceBound (.int k i) y code).run P w = .ok i.toNat w:=by
 have:0≤i∧i≤y:=⟨h0,by omega⟩
 simp [Instr.sliceBound,asIntOf,this]
theorem Il {P:Program} {w:World} {a:Act} (hs:Jf m a) {isS:Bool} {len cap:Nat} {lo hi:Option Operand} {l h:Nat}
  (hlo:OZ m lo 0 l) (hhi:OZ m hi len h) (h1:l≤h) (h2:h≤cap) :
  (Instr.sliceBounds isS len cap (lo.map a.eval) (hi.map a.eval) none).run P w = .ok (l,h,cap) w:=by
 cases lo with
 | none =>
  have e1:l=0:=hlo
  subst e1
  cases hi with
  | none=>have e2:h=len:=hhi; subst e2; simp [Instr.sliceBounds,Sem.run_bind]
  | some y =>
   obtain ⟨k,i,hy,h0,rfl⟩:=hhi
   simp [Instr.sliceBounds,Sem.run_bind,hs.ev hy,run_sliceBound h0 h2]
 | some x =>
  obtain ⟨k,i,hx,h0,rfl⟩:=hlo
  cases hi with
  | none=>have e2:h=len:=hhi; subst e2; simp [Instr.sliceBounds,Sem.run_bind,hs.ev hx,run_sliceBound h0 h1]
  | some y =>
   obtain ⟨k',i',hy,h0',rfl⟩:=hhi
   simp [Instr.sliceBounds,Sem.run_bind,hs.ev hx,hs.ev hy,run_sliceBound h0' h2,run_sliceBound h0 h1]
theorem Io (s:Str) (l h:Nat):(bytes s).extract l h=bytes ((s.drop l).take (h - l)):=by
 apply ByteArray.ext
 apply Array.toList_inj.1
 simp [bytes,ByteArray.data_extract,List.extract_eq_drop_take',List.map_drop,List.map_take]
theorem Uq {x:Operand} {lo hi:Option Operand} {s:Str} {t:TypeId} {l h:Nat} (hx:ev m x=some (vs s)) (hu:C.P.underlying t=some .string)
  (hlo:OZ m lo 0 l) (hhi:OZ m hi s.length h) (h1:l≤h) (h2:h≤s.length) :
  Ou C ⟨dst, .slice t x lo hi none,ty,pos,af,gd⟩ m L (vs (sub s l h)):=fun a w hs=>by
 have hb:=Il (P:=C.P) (w:=w) (isS:=false) hs.slots hlo hhi h1 h2
 simp [execOp,hs.slots.ev hx,Instr.sliceAt,Instr.slice,Sem.run_bind,run_underlying hu,vs,OQ,hb,Io,sub]
def J9 (A:Y6) (c l s:Nat):Y6:=if c=l then A else sh A (l * s)
theorem Bg {x:Operand} {lo hi:Option Operand} {A:Y6} {n c:Nat} {t e:TypeId} {inf:TypeInfo} {s l h:Nat} (hx:ev m x=some (sl A n c)) (hu:C.P.underlying t=some (.slice e))
  (hi':C.P.info? e=some inf) (hsz:inf.size=s) (hlo:OZ m lo 0 l) (hhi:OZ m hi n h) (h1:l≤h) (h2:h≤c) :
  Ou C ⟨dst, .slice t x lo hi none,ty,pos,af,gd⟩ m L (sl (J9 A c l s) (h - l) (c - l)):=fun a w hs=>by
 have hb:=Il (P:=C.P) (w:=w) (isS:=true) hs.slots hlo hhi h1 h2
 have hA:(if c=l then (A.map fun p=>(⟨p.1,p.2,none⟩:Addr)) else (A.map fun p=>(⟨p.1,p.2,none⟩:Addr)).map (·.add (l * s)))=(J9 A c l s).map fun p=>⟨p.1,p.2,none⟩:=by
  unfold J9
  split
  ·rfl
  ·cases A with
   | none=>rfl
   | some p =>
    have := @Ob (some p) 0 (l * s)
    simpa [loc,bk,EY,sh] using this
 simp only [execOp,hs.slots.ev hx,Instr.sliceAt,Instr.slice,Sem.run_bind,run_underlying hu,sl,Result.andThen_ok,Option.map_none,hb,sizeOf,typeInfo,program,hi',Sem.run_pure]
 simp [hi',hsz, ← hA,Sem.run]
theorem Du {x:Operand} {lo hi:Option Operand} {A:Y6} {o n:Nat} {t e:TypeId} {inf:TypeInfo} {s l h:Nat} (hx:ev m x=some (ptr A o)) (hA:A ≠ none) (hu:C.P.underlying t=some (.array n e))
  (hi':C.P.info? e=some inf) (hsz:inf.size=s) (hlo:OZ m lo 0 l) (hhi:OZ m hi n h) (h1:l≤h) (h2:h≤n) :
  Ou C ⟨dst, .slice t x lo hi none,ty,pos,af,gd⟩ m L (sl (J9 (sh A o) n l s) (h - l) (n - l)):=fun a w hs=>by
 have hb:=Il (P:=C.P) (w:=w) (isS:=false) hs.slots hlo hhi h1 h2
 have hA':some (if n=l then loc A o else (loc A o).add (l * s))=(J9 (sh A o) n l s).map fun p=>(⟨p.1,p.2,none⟩:Addr):=by
  cases A with
  | none=>exact absurd rfl hA
  | some p =>
   unfold J9
   split
   ·simp [loc,bk,EY,sh]
   ·rw [Ob]; simp [loc,bk,EY,sh,Nat.add_assoc]
 simp only [execOp,hs.slots.ev hx,Instr.sliceAt,Sem.run_bind,run_underlying hu,ptr,Instr.sureAddr,Result.andThen_ok,Option.map_none,hb,sizeOf,typeInfo,program,hi',Sem.run_pure]
 simp [hi',hsz,sl, ← hA',Sem.run]
theorem Src.cut {A:Y6} {cs:List Value} {c l h s:Nat} (hsrc:Src C L ⟨A,cs⟩) (h1:l≤h) (h2:h≤c):Src C L ⟨J9 A c l s,(cs.drop (l * s)).take ((h - l) * s)⟩:=by
 unfold J9
 split
 ·have:h - l=0:=by omega
  rw [this,Nat.zero_mul,List.take_zero]
  exact fun w hs hr=>⟨fun _=>rfl,fun i v hv=>by simp at hv⟩
 ·exact hsrc.part _ _
theorem iJ {x y:Operand} {t e:TypeId} {inf:TypeInfo} {z:Value} {n c:Int} (hx:ev m x=some (vi n)) (hy:ev m y=some (vi c)) (hu:C.P.underlying t=some (.slice e))
  (hi:C.P.info? e=some inf) (hz:inf.zero=some z) (hone:z.cells = #[z]) (hsz:inf.size=1) (h0:0≤n) (h1:n≤c) (hb:inf.bytes * c.toNat≤281474976710656) (hc:c≤4611686018427387904) :
  OP C ⟨dst, .makeSlice t x y,ty,pos,af,gd⟩ m L (Γ:=Nat) (fun b=>sl (some (b,0)) n.toNat c.toNat) (fun b=>⟨some (b,0),List.replicate c.toNat z⟩ :: L):=fun a w hs Q K hK=>by
 have hw : ∀ q:Int,0≤q → q≤c → IntKind.i64.wrap q=q:=fun q g0 g1=>by rw [IntKind.wrap_i64]; omega
 have hbc : ¬ ((inf.bytes:Int) * c > 2 ^ 48):=by
  have:((inf.bytes * c.toNat:Nat):Int)=(inf.bytes:Int) * c:=by rw [Int.natCast_mul,Int.toNat_of_nonneg (by omega)]
  omega
 have hc0 : ¬ c<0:=by omega
 have uV : ¬ n<0:=by omega
 have hnc : ¬ n > c:=by omega
 have hcells:(Array.range c.toNat).map (fun i=>(#[z]:Array Value)[i % 1]!)=(List.replicate c.toNat z).toArray:=by
  apply Array.ext
  ·simp
  ·intro i h1 h2; simp [Nat.mod_one]
 have hrun:(execOp a.eval ⟨dst, .makeSlice t x y,ty,pos,af,gd⟩).run C.P w = .ok (.value (sl (some (w.heap.size,0)) n.toNat c.toNat)) { w with heap:=w.heap.push (.cells (List.replicate c.toNat z).toArray e) }:=by
  have hroom : ∀ q w',(askRoom q).run C.P w' = .ok () w':=fun q w'=>by unfold askRoom; split <;> simp [mark,Sem.run]
  simp only [execOp,hs.slots.ev hx,hs.slots.ev hy,Instr.makeSlice,Sem.run_bind,run_underlying hu,vi,asInt,asIntOf,Result.andThen_ok,Sem.run_pure,typeInfo,program,Sem.run,hi,
   hw c (by omega) (by omega),hw n h0 h1,hc0,uV,hnc,hbc,decide_false,Bool.or_false,Bool.false_eq_true,if_false,hroom,sizeOf,hsz,Nat.mul_one,zeroValue,hz,or_self,false_or]
  by_cases hcz:c.toNat=0
  ·simp [hcz,newRow,newObj,Sem.run,sl]
   congr 2
   exact Array.eq_empty_of_size_eq_zero (by simp)
  ·simp only [if_neg hcz,Result.andThen_ok,hone,Sem.run_bind,Sem.run_pure,Sem.run,hi,hz]
   have:(Array.range c.toNat).map (fun i=>(#[z]:Array Value)[i % (#[z]:Array Value).size]!)=(List.replicate c.toNat z).toArray:=hcells
   simp only [this]
   simp [newRow,newObj,Sem.run,sl]
 unfold Oper.wp
 rw [hrun]
 exact hK _ _ (Md hs.step (List.replicate c.toNat z).toArray e)
end
end Go.Kx
end

section
namespace Go.Kx
open Go
@[reducible] def e8 (l:List (BitVec 8)):List Value:=l.map v8
@[reducible] def e32 (l:List (BitVec 32)):List Value:=l.map v32
@[reducible] def e64 (l:List (BitVec 64)):List Value:=l.map v64
@[reducible] def eI (l:List Int):List Value:=l.map vi
@[reducible] def eS (l:List Str):List Value:=l.map vs
@[simp] theorem Cq (l):(e8 l).length=l.length:=List.length_map ..
@[simp] theorem dN (l):(e32 l).length=l.length:=List.length_map ..
@[simp] theorem bF (l):(e64 l).length=l.length:=List.length_map ..
@[simp] theorem aaf (l):(eI l).length=l.length:=List.length_map ..
@[simp] theorem aag (l):(eS l).length=l.length:=List.length_map ..
section
variable {C:Ctx} {m:Sl} {L:Mem} {dst:Option Tmp} {ty:TypeId} {pos:String} {af:Array Edge} {gd:Option (Nat × Bool)}
theorem run_make_room {P:Program} (q:Nat) (w':World):(askRoom q).run P w' = .ok () w':=by unfold askRoom; split <;> simp [mark,Sem.run]
theorem MR (zs:Array Value) (hz:zs.size ≠ 0) : ∀ n:Nat,((Array.range (n * zs.size)).map fun i=>zs[i % zs.size]!).toList=(List.replicate n zs.toList).flatten
 | 0=>by simp
 | n+1=>by
  have ih:=MR zs hz n
  rw [List.replicate_succ',List.flatten_append, ← ih]
  simp only [Array.toList_map,Array.toList_range,List.flatten_cons,List.flatten_nil,List.append_nil]
  rw [Nat.succ_mul,List.range_add,List.map_append]
  congr 1
  apply List.ext_getElem
  ·simp
  ·intro i h1 h2
   have hi:i<zs.size:=by simpa using h2
   simp [Nat.mul_comm n zs.size,Nat.mul_add_mod,Nat.mod_eq_of_lt hi,hi]
theorem jL {x y:Operand} {t e:TypeId} {inf:TypeInfo} {z:Value} {zs:List Value} {n c:Int} {s:Nat} (hx:ev m x=some (vi n)) (hy:ev m y=some (vi c)) (hu:C.P.underlying t=some (.slice e))
  (hi:C.P.info? e=some inf) (hz:inf.zero=some z) (hzs:z.cells.toList=zs) (hl:zs.length=s) (oC:s ≠ 0) (hsz:inf.size=s) (h0:0≤n) (h1:n≤c) (hb:inf.bytes * c.toNat≤281474976710656) (hc:c≤4611686018427387904) :
  OP C ⟨dst, .makeSlice t x y,ty,pos,af,gd⟩ m L (Γ:=Nat) (fun b=>sl (some (b,0)) n.toNat c.toNat) (fun b=>⟨some (b,0),(List.replicate c.toNat zs).flatten⟩ :: L):=fun a w hs Q K hK=>by
 have hw : ∀ q:Int,0≤q → q≤c → IntKind.i64.wrap q=q:=fun q g0 g1=>by rw [IntKind.wrap_i64]; omega
 have hbc : ¬ ((inf.bytes:Int) * c > 2 ^ 48):=by
  have:((inf.bytes * c.toNat:Nat):Int)=(inf.bytes:Int) * c:=by rw [Int.natCast_mul,Int.toNat_of_nonneg (by omega)]
  omega
 have hc0 : ¬ c<0:=by omega
 have uV : ¬ n<0:=by omega
 have hnc : ¬ n > c:=by omega
 have aac:z.cells.size=s:=by rw [← Array.length_toList,hzs,hl]
 have hcells:((Array.range (c.toNat * s)).map fun i=>z.cells[i % z.cells.size]!)=((List.replicate c.toNat zs).flatten).toArray:=by
  apply Array.toList_inj.1
  have:=MR z.cells (by omega) c.toNat
  rw [aac] at this ⊢
  rw [this,hzs]
 have hrun:(execOp a.eval ⟨dst, .makeSlice t x y,ty,pos,af,gd⟩).run C.P w = .ok (.value (sl (some (w.heap.size,0)) n.toNat c.toNat)) { w with heap:=w.heap.push (.cells ((List.replicate c.toNat zs).flatten).toArray e) }:=by
  simp only [execOp,hs.slots.ev hx,hs.slots.ev hy,Instr.makeSlice,Sem.run_bind,run_underlying hu,vi,asInt,asIntOf,Result.andThen_ok,Sem.run_pure,typeInfo,program,Sem.run,hi,
   hw c (by omega) (by omega),hw n h0 h1,hc0,uV,hnc,hbc,decide_false,Bool.or_false,Bool.false_eq_true,if_false,run_make_room,sizeOf,hsz,zeroValue,hz,or_self,false_or]
  by_cases hcz:c.toNat=0
  ·simp [hcz,newRow,newObj,Sem.run,sl]
   congr 2
   exact Array.eq_empty_of_size_eq_zero (by simp)
  ·have hne : ¬ c.toNat * s=0:=Nat.mul_ne_zero hcz oC
   simp only [if_neg hne,Result.andThen_ok,Sem.run_bind,Sem.run_pure,Sem.run,hi,hz]
   simp only [hcells]
   simp [newRow,newObj,Sem.run,sl]
 unfold Oper.wp
 rw [hrun]
 have:=Md hs.step ((List.replicate c.toNat zs).flatten).toArray e
 exact hK _ _ this
theorem wh (w:World) (cs:Array Value) (e:TypeId) (n:Nat) :
  (w.alloc (.cells cs e)).freeze ⟨w.heap.size,n,none⟩ 1 = { w with heap:=w.heap.push (.cells cs e (n,n+1)) }:=by
 have hm : ∀ (h:Array Obj) (o:Obj) (f:Obj → Obj),(h.push o).modify h.size f=h.push (f o):=fun h o f=>by
  apply Array.ext
  ·simp
  ·intro i h1 h2
   simp only [Array.getElem_modify,Array.getElem_push]
   by_cases hi:i<h.size
   ·simp [hi,Nat.ne_of_gt hi]
   ·have:i=h.size:=by simp at h1; omega
    simp [this]
 show (if (1:Nat)=0 then _ else ({ w with heap:=(w.heap.push (.cells cs e)).modify w.heap.size _ }:World))=_
 rw [if_neg (by omega),hm]
 simp
theorem Ay {P:Program} (w:World) (cs:Array Value) (e:TypeId) :
  (markStringish ⟨w.heap.size,0,none⟩).run P (w.alloc (.cells cs e)) = .ok () { w with heap:=w.heap.push (.cells cs e (cs.size,cs.size+1)) }:=by
 have hh:(w.alloc (.cells cs e)).heap[w.heap.size]? = some (.cells cs e):=heap_alloc_new w _
 have hs:(w.alloc (.cells cs e)).shape? w.heap.size=some (e,cs.size):=by unfold World.shape?; rw [hh]
 have h1:(shape w.heap.size).run P (w.alloc (.cells cs e)) = .ok (some (e,cs.size)) (w.alloc (.cells cs e)):=by
  show Result.ok ((w.alloc (.cells cs e)).shape? w.heap.size) _=_
  rw [hs]
 unfold markStringish
 rw [Sem.run_bind,h1]
 show Result.ok () ((w.alloc (.cells cs e)).freeze ⟨w.heap.size,cs.size,none⟩ 1)=_
 rw [wh]
theorem zt (l:List (BitVec 8)):strOfNums (l.map fun b=>(b.toNat:Int))=bytes l:=by
 apply ByteArray.ext
 apply Array.toList_inj.1
 simp only [strOfNums,bytes,List.map_map]
 refine List.map_congr_left fun b _=>?_
 show UInt8.ofNat b.toNat=UInt8.ofBitVec b
 exact UInt8.toNat_inj.1 (by simp [Nat.mod_eq_of_lt b.isLt])
theorem QY {x:Operand} {A:Y6} {n c:Nat} {l:List (BitVec 8)} {s t e:TypeId} (hx:ev m x=some (sl A n c)) (hs1:C.P.underlying s=some (.slice e)) (he:C.P.underlying e=some (.int .u8))
  (ht:C.P.underlying t=some .string) (hsrc:Src C L ⟨A,e8 l⟩) (hl:l.length=n) :
  Ou C ⟨dst, .convert s t x,ty,pos,af,gd⟩ m L (vs l):=fun a w hs=>by
 have hH:=hsrc w hs.step hs.ro
 have hr:(convert s t (sl A n c)).run C.P w = .ok (vs l) w:=by
  cases A with
  | none =>
   have:l=[]:=by have:=hH.1 rfl; simpa [e8] using this
   subst this
   exact run_convert_bytes_nil w s e hs1 he n c t ht
  | some p =>
   have h:=run_convert_bytes_arg w s e hs1 he p.1 p.2 n c (l.map fun b=>(b.toNat:Int)) (by simpa using hl) (fun i hi=>by
    have hi':i<l.length:=by omega
    have h1:=hH.2 i (v8 l[i]) (by simp [e8,hi'])
    have h2:((l.map fun b=>(b.toNat:Int)).getD i 0)=(l[i].toNat:Int):=by simp [hi']
    rw [h2]
    exact h1) t ht
   rw [zt] at h
   exact h
 simp [execOp,hs.slots.ev hx,Sem.run_bind,hr]
def Does (P:Program) (f:FuncId) (args:List Value) (Qf Ro:Mem) {Γ:Type} (val:Γ → Value) (mem:Γ → Mem):Prop :=
 ∀ w,NZ w Qf → (∀ e ∈ Ro,Has w e) → (∀ f ∈ Qf, ∀ e ∈ Ro,JX f e) → Calls P f args.toArray w fun e w' => ∃ g:Γ,e = .returned (val g)∧Step w Qf w' (mem g)
def QH (C:Ctx) (Qf R:Mem) (e:Ent):Prop := ∀ w,Step C.w0 C.L0 w (Qf++R) → gp C → Has w e ∧ ∀ f ∈ Qf,JX f e
theorem QH.nil {R:Mem} {e:Ent} (h:Src C R e):QH C [] R e:=fun w hs hr=>⟨h w hs hr,fun f hf=>by cases hf⟩
theorem QH.own {Qf R:Mem} {j:Nat} {e:Ent} (h:R[j]? = some e):QH C Qf R e:=fun w hs _ =>
 ⟨(hs.ok.1 e (List.mem_append_right _ (List.mem_of_getElem? h))).has,fun f hf=>hs.ok.disj hf (List.mem_of_getElem? h)⟩
theorem QH.ro {Qf R:Mem} {j:Nat} {e:Ent} (h:C.Ro[j]? = some e):QH C Qf R e:=fun w hs hr=>by
 have he:=List.mem_of_getElem? h
 have h0:=hr.1 e he
 refine ⟨h0.keep hs.chg (fun f hf=>hr.2 f hf e he),fun f hf i k hi hk heq=>?_⟩
 rcases hs.new _ (OD.2 (.inl ⟨f,hf,i,hi,rfl⟩)) with h1 | ⟨f2,hf2,i2,Ca,heq2⟩
 ·have:=block_lt (h0.2 k _ (List.getElem?_eq_getElem hk))
  rw [heq] at h1
  omega
 ·exact hr.2 f2 hf2 e he i2 k Ca hk (heq2.symm.trans heq)
theorem QH.part {Qf R:Mem} {A:Y6} {cs:List Value} (k n:Nat) (h:QH C Qf R ⟨A,cs⟩):QH C Qf R ⟨sh A k,(cs.drop k).take n⟩:=fun w hs hr=>by
 obtain ⟨⟨h1,h2⟩,h3⟩:=h w hs hr
 have key : ∀ i,i<((cs.drop k).take n).length → A ≠ none∧loc (sh A k) i=loc A (k+i)∧k+i<cs.length:=fun i hi=>by
  simp only [List.length_take,List.length_drop] at hi
  cases A with
  | none=>have:cs=[]:=h1 rfl; subst this; simp at hi
  | some p=>exact ⟨by simp,by simp [loc,sh,bk,EY,Nat.add_assoc],by omega⟩
 refine ⟨⟨fun hn=>?_,fun i v hv=>?_⟩,fun f hf i j hi hj=>?_⟩
 ·have:A=none:=by cases A <;> simp_all [sh]
  have h4:cs=[]:=h1 this
  simp [h4]
 ·have hi:=(List.getElem?_eq_some_iff.1 hv).1
  obtain ⟨_,e1,e2⟩:=key i hi
  rw [List.getElem?_take,List.getElem?_drop] at hv
  split at hv
  ·show w.cell? (loc (sh A k) i)=_
   rw [e1]; exact h2 _ v hv
  ·cases hv
 ·obtain ⟨_,e1,e2⟩:=key j hj
  show loc f.A i ≠ loc (sh A k) j
  rw [e1]; exact h3 f hf i (k+j) hi e2
theorem QH.cut {Qf R:Mem} {A:Y6} {cs:List Value} {c l h s:Nat} (hsrc:QH C Qf R ⟨A,cs⟩) (h1:l≤h) (h2:h≤c):QH C Qf R ⟨J9 A c l s,(cs.drop (l * s)).take ((h - l) * s)⟩:=by
 unfold J9
 split
 ·have:h - l=0:=by omega
  rw [this,Nat.zero_mul,List.take_zero]
  exact fun w hs hr=>⟨⟨fun _=>rfl,fun i v hv=>by simp at hv⟩,fun f hf i j hi hj=>by simp at hj⟩
 ·exact hsrc.part _ _
def MW (C:Ctx) (Qf R:Mem):Mem → Prop
 | []=>True
 | e :: r=>QH C Qf R e∧MW C Qf R r
theorem MW.all {Qf R:Mem} : ∀ {Ro:Mem},MW C Qf R Ro → ∀ e ∈ Ro,QH C Qf R e
 | [],_,e,he=>by cases he
 | x :: r,h,e,he=>by
  rcases List.mem_cons.1 he with rfl | h1
  ·exact h.1
  ·exact MW.all h.2 e h1
theorem Wq {xs:List Operand} {ats:Array TypeId} {f:FuncId} {vs:List Value} {Qf Ro R:Mem} {is:List Nat} {Γ:Type} {val:Γ → Value} {mem:Γ → Mem}
  (hxs:evs m xs=some vs) (hcall : ∀ args w,(callFunc f args).run C.P w = .ok (.enter f args) w) (hf:Does C.P f vs Qf Ro val mem) (hp:pull is L=some (Qf,R)) (hro:MW C Qf R Ro) :
  OP C ⟨dst, .call ⟨.value (.func f),xs.toArray,ats⟩,ty,pos,af,gd⟩ m L val (fun g=>mem g++R):=fun a w hs Q K hK=>by
 have h1:Step C.w0 C.L0 w (Qf++R):=hs.step.pulled hp
 have hrun:(execOp a.eval ⟨dst, .call ⟨.value (.func f),xs.toArray,ats⟩,ty,pos,af,gd⟩).run C.P w = .ok (.enter f vs.toArray) w:=by
  have hargs:xs.toArray.map a.eval=vs.toArray:=by simp [hs.slots.evs hxs]
  have hfv:a.eval (.func f) = .func (.func f) #[] #[]:=rfl
  simp only [execOp,resolve,hargs,hfv,Deferred.ofValue]
  simp [invoke,hcall]
 unfold Oper.wp
 rw [hrun,Oper.upon_enter]
 refine (hf w h1.ok.left (fun e he=>(hro.all e he w h1 hs.ro).1) (fun f hf e he=>(hro.all e he w h1 hs.ro).2 f hf)).mono ?_
 rintro e w' ⟨g,rfl,hg⟩
 exact hK g w' (h1.frame hg)
end
end Go.Kx
end
