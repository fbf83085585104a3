/-
  Part 1 of the proof of HelloOrder.
-/
import Derived.Test.YtkgeoekcnlgfnaaGreatDoorKh1
import Derived.Test.YtkgeoekcnlgfnaaGreatDoorKh2
import Derived.Test.YtkgeoekcnlgfnaaGreatDoorKh3
import Derived.Test.YtkgeoekcnlgfnaaGreatDoorKh4
import Derived.Test.YtkgeoekcnlgfnaaGreatDoorKh5
import Derived.Test.YtkgeoekcnlgfnaaGreatDoorKh6
import Derived.Test.YtkgeoekcnlgfnaaGreatDoorKh30
set_option linter.unusedVariables false
set_option linter.unusedSimpArgs false
section
namespace Go.Proofs
open Go Go.Kx
theorem iop_nat (f:BitVec 64 → BitVec 64 → BitVec 64) (a b:Int) (h:(f (BitVec.ofInt 64 a) (BitVec.ofInt 64 b)).toNat<9223372036854775808):iop f a b=((f (BitVec.ofInt 64 a) (BitVec.ofInt 64 b)).toNat:Int):=by
 unfold iop
 exact w64_nat h
theorem and_mask (x:Int) (n:Nat) (hn:n<63):iop (· &&& ·) x ((2 ^ n - 1:Nat):Int)=x % ((2 ^ n:Nat):Int):=by
 have hp:2 ^ n<2 ^ 63:=Nat.pow_lt_pow_right (by omega) (by omega)
 have hp0:0<2 ^ n:=Nat.two_pow_pos n
 have e:((BitVec.ofInt 64 x) &&& (BitVec.ofInt 64 ((2 ^ n - 1:Nat):Int))).toNat=(x % ((2 ^ n:Nat):Int)).toNat:=by
  have e1:(BitVec.ofInt 64 ((2 ^ n - 1:Nat):Int)).toNat=2 ^ n - 1:=by
   rw [BitVec.ofInt_natCast,BitVec.toNat_ofNat,Nat.mod_eq_of_lt (by omega)]
  rw [BitVec.toNat_and,e1,Nat.and_two_pow_sub_one_eq_mod,BitVec.toNat_ofInt]
  have h1:((x % ((2 ^ 64:Nat):Int)).toNat:Int)=x % ((2 ^ 64:Nat):Int):=Int.toNat_of_nonneg (Int.emod_nonneg _ (by decide))
  have h2:((x % ((2 ^ n:Nat):Int)).toNat:Int)=x % ((2 ^ n:Nat):Int):=Int.toNat_of_nonneg (Int.emod_nonneg _ (by omega))
  apply Int.ofNat.inj
  show (((x % ((2 ^ 64:Nat):Int)).toNat % 2 ^ n:Nat):Int)=_
  rw [Int.natCast_emod,h1]
  show x % ((2 ^ 64:Nat):Int) % ((2 ^ n:Nat):Int)=((x % ((2 ^ n:Nat):Int)).toNat:Int)
  rw [h2]
  refine Int.emod_emod_of_dvd x ?_
  rw [Int.natCast_dvd_natCast]
  exact Nat.pow_dvd_pow 2 (by omega)
 have hlt:(x % ((2 ^ n:Nat):Int)).toNat<2 ^ n:=by
  have:=Int.emod_lt_of_pos x (show (0:Int)<((2 ^ n:Nat):Int) by omega)
  omega
 have:=iop_nat (· &&& ·) x ((2 ^ n - 1:Nat):Int) (by show BitVec.toNat (_ &&& _)<_; rw [e]; omega)
 rw [this]
 show ((BitVec.toNat (_ &&& _):Nat):Int)=_
 rw [e]
 exact Int.toNat_of_nonneg (Int.emod_nonneg _ (by omega))
end Go.Proofs
end
