/- Plain facts: words of 32 bits as bit vectors. -/
import Derived.Test.YtkahmcdnnknhmaaMa
namespace Go.Proofs.Ytkahmcdnnknhmaa.Pure
open Go.RowKit Go.Proofs.Ytkahmcdnnknhmaa Go.Proofs.Ytkahmcdnnknhmaa.A Go.Proofs.Ytkahmcdnnknhmaa.Q Go.Proofs.YtkahmcdnnknhmaaW.PrintWords Go.Proofs.YtkahmcdnnknhmaaW.PrintLast Go.Proofs.YtkahmcdnnknhmaaW.PrintMore

abbrev bv (x : Int) : BitVec 32 := BitVec.ofInt 32 x
theorem wrap_bv (n : Int) : wrap32 n = (bv n).toInt := by
  rw [BitVec.toInt_ofInt, Int.bmod_def]; unfold wrap32
  simp only [Nat.reducePow]
  split <;> omega
theorem bv_wrap (n : Int) : bv (wrap32 n) = bv n := by rw [wrap_bv]; exact BitVec.ofInt_toInt
theorem bv_add (a b : Int) : bv (a + b) = bv a + bv b := BitVec.ofInt_add _ _
theorem bv_mul (a b : Int) : bv (a * b) = bv a * bv b := BitVec.ofInt_mul _ _
theorem bv_neg (a : Int) : bv (-a) = -(bv a) := BitVec.ofInt_neg
theorem bv_sub (a b : Int) : bv (a - b) = bv a - bv b := by rw [Int.sub_eq_add_neg, bv_add, bv_neg, BitVec.sub_eq_add_neg]
theorem bv_toInt (v : BitVec 32) : bv v.toInt = v := BitVec.ofInt_toInt
theorem wrap_nat (v : BitVec 32) : IntKind.i32.wrap (v.toNat : Int) = v.toInt := by
  rw [BitVec.toInt_eq_toNat_cond]
  have := v.isLt
  rw [IntKind.wrap_i32]
  simp only [Nat.reducePow]
  split <;> omega
theorem bits_and (a b : Int) : Go.bits .and .i32 a b = (bv a &&& bv b).toInt := wrap_nat _
theorem bits_or (a b : Int) : Go.bits .or .i32 a b = (bv a ||| bv b).toInt := wrap_nat _
theorem bits_xor (a b : Int) : Go.bits .xor .i32 a b = (bv a ^^^ bv b).toInt := wrap_nat _
theorem self_bv {a : Int} (ha : -2147483648 ≤ a ∧ a ≤ 2147483647) : (bv a).toInt = a := by
  rw [← wrap_bv]; unfold wrap32; omega
theorem bv_nat (a : Int) : ((bv a).toNat : Int) = a % 4294967296 := by
  rw [BitVec.toNat_ofInt]; simp only [Nat.reducePow]; omega
theorem shl_bv (a n : Int) (h0 : 0 ≤ n) (h1 : n < 32) : shl .i32 a n = (bv a <<< n.toNat).toInt := by
  unfold shl
  rw [show min n.toNat IntKind.i32.bits = n.toNat from by simp only [IntKind.bits]; omega]
  have e : bv (a * 2 ^ n.toNat) = bv a <<< n.toNat := by
    rw [bv_mul, BitVec.shiftLeft_eq_mul_twoPow]
    congr 1
    apply BitVec.eq_of_toNat_eq
    have hp : (2 : Nat) ^ n.toNat < 2 ^ 32 := Nat.pow_lt_pow_right (by decide) (by omega)
    have := bv_nat (2 ^ n.toNat)
    rw [BitVec.toNat_twoPow, Nat.mod_eq_of_lt hp]
    have h2 : ((2 ^ n.toNat : Nat) : Int) = (2 : Int) ^ n.toNat := Int.natCast_pow _ _
    have h3 : ((2 ^ n.toNat : Nat) : Int) < 4294967296 := Int.ofNat_lt.mpr hp
    have h4 := two_pow_pos n.toNat
    rw [h2] at h3
    rw [Int.emod_eq_of_lt (by omega) h3, ← h2] at this
    exact Int.ofNat.inj this
  rw [← e, ← wrap_bv, IntKind.wrap_i32]
  unfold wrap32; rfl
theorem shr_bv (a n : Int) (h0 : 0 ≤ n) (h1 : n < 32) : wrap32 (shr .u32 (a % 4294967296) n) = (bv a >>> n.toNat).toInt := by
  unfold shr
  rw [show min n.toNat IntKind.u32.bits = n.toNat from by simp only [IntKind.bits]; omega, wrap_bv]
  congr 1
  apply BitVec.eq_of_toNat_eq
  have e := bv_nat a
  have e2 := bv_nat (a % 4294967296 / 2 ^ n.toNat)
  rw [BitVec.toNat_ushiftRight, Nat.shiftRight_eq_div_pow]
  have hp := two_pow_pos n.toNat
  have hr := pow_range (a % 4294967296) n.toNat (by omega) (by omega)
  rw [Int.emod_eq_of_lt hr.1 hr.2, ← e] at e2
  have : (((bv a).toNat / 2 ^ n.toNat : Nat) : Int) = ((bv a).toNat : Int) / 2 ^ n.toNat := by
    rw [Int.natCast_ediv, Int.natCast_pow]; rfl
  rw [← e]; exact Int.ofNat.inj (e2.trans this.symm)
end Go.Proofs.Ytkahmcdnnknhmaa.Pure
