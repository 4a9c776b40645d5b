/- Not is Neg less 1; de Morgan's rules; Xor; shifts: for all words. The pure statement behind NumBits. -/
import Derived.Test.YtkahmcdnnknhmaaMb
import Derived.Test.YtkahmcdnnknhmaaQx5
namespace Go.Proofs.Ytkahmcdnnknhmaa.Pure
open Go.RowKit Go.Proofs.Ytkahmcdnnknhmaa Go.Proofs.Ytkahmcdnnknhmaa.A Go.Proofs.Ytkahmcdnnknhmaa.Q Go.Proofs.YtkahmcdnnknhmaaW.PrintWords Go.Proofs.YtkahmcdnnknhmaaW.PrintLast Go.Proofs.YtkahmcdnnknhmaaW.PrintMore

theorem one1 (a : Int) : drawloomlaw01_one.f 1 a = some (~~~(bv a)).toInt := by
  show some (Go.bits .xor .i32 (-1) a) = _
  rw [bits_xor, show bv (-1) = BitVec.allOnes 32 from by decide, BitVec.allOnes_xor]
theorem one0' (a : Int) : drawloomlaw01_one.f 0 a = some (wrap32 (-a)) := rfl
theorem xor_or_and (x y : BitVec 32) : x ^^^ y = (x ||| y) - (x &&& y) := by
  have h0 : (x ^^^ y) &&& (x &&& y) = 0#32 := by
    apply BitVec.eq_of_getLsbD_eq
    intro i hi
    simp only [BitVec.getLsbD_and, BitVec.getLsbD_xor, BitVec.getLsbD_zero]
    cases x.getLsbD i <;> cases y.getLsbD i <;> rfl
  have h1 : (x ^^^ y) ||| (x &&& y) = x ||| y := by
    apply BitVec.eq_of_getLsbD_eq
    intro i hi
    simp only [BitVec.getLsbD_and, BitVec.getLsbD_xor, BitVec.getLsbD_or]
    cases x.getLsbD i <;> cases y.getLsbD i <;> rfl
  rw [← h1, ← BitVec.add_eq_or_of_and_eq_zero _ _ h0, BitVec.add_sub_cancel]
theorem shl_shr (x : BitVec 32) (n : Nat) : (x <<< n) >>> n = x &&& (BitVec.allOnes 32 >>> n) := by
  apply BitVec.eq_of_getLsbD_eq
  intro i hi
  simp only [BitVec.getLsbD_ushiftRight, BitVec.getLsbD_shiftLeft, BitVec.getLsbD_and, BitVec.getLsbD_allOnes]
  by_cases h : n + i < 32
  · simp [h]
  · simp [h]

theorem NumBits : drawloomlaw01_NumBits.Pure := by
  intro a b ha hb
  have ha := wf32 ha
  have hb := wf32 hb
  refine ⟨6, ?_⟩
  unfold drawloomlaw01_NumBits.f
  simp only [one1, one0', do1, do5, do6, Option.bind_some]
  rw [if_pos (show (~~~(bv a)).toInt = wrap32 (wrap32 (-a) - 1) by
    rw [wrap_bv, bv_sub, bv_wrap, bv_neg, BitVec.neg_eq_not_add, show bv 1 = 1#32 from rfl, BitVec.add_sub_cancel])]
  rw [if_pos (show (~~~(bv (Go.bits .and .i32 a b))).toInt = Go.bits .or .i32 (~~~(bv a)).toInt (~~~(bv b)).toInt by
    rw [bits_and, bits_or, bv_toInt, bv_toInt, bv_toInt, BitVec.not_and])]
  rw [show ((~~~(bv (Go.bits .or .i32 a b))).toInt != Go.bits .and .i32 (~~~(bv a)).toInt (~~~(bv b)).toInt) = false from by
    rw [bits_or, bits_and, bv_toInt, bv_toInt, bv_toInt, BitVec.not_or]; simp]
  simp only [drawloomlaw01_NumBits.j0]
  rw [if_neg (by decide)]
  simp only [do7, do6, do5, do1, do8, do2, Option.bind_some]
  rw [if_pos (show Go.bits .xor .i32 a a = 0 by rw [bits_xor, BitVec.xor_self]; rfl)]
  rw [if_pos (show Go.bits .xor .i32 a b = wrap32 (Go.bits .or .i32 a b - Go.bits .and .i32 a b) by
    rw [wrap_bv, bits_xor, bits_or, bits_and, bv_sub, bv_toInt, bv_toInt, xor_or_and])]
  rw [show (shl .i32 a (1 % 32) != wrap32 (a * 2)) = false from by
    rw [show shl .i32 a (1 % 32) = wrap32 (a * 2) from by unfold shl; rw [IntKind.wrap_i32]; unfold wrap32; rfl]; simp]
  simp only [drawloomlaw01_NumBits.j1]
  rw [if_neg (by decide)]
  simp only [do8, do10, do5, do0, Option.bind_some]
  have hn0 : 0 ≤ b % 32 := by omega
  have hn1 : b % 32 < 32 := by omega
  rw [if_pos (show wrap32 (shr .u32 (shl .i32 a (b % 32) % 4294967296) (b % 32)) = Go.bits .and .i32 a (wrap32 (shr .u32 (-1 % 4294967296) (b % 32))) by
    rw [shr_bv _ _ hn0 hn1, shr_bv _ _ hn0 hn1, shl_bv _ _ hn0 hn1, bv_toInt, bits_and, bv_toInt, shl_shr, show bv (-1) = BitVec.allOnes 32 from by decide])]
  rw [if_pos (show shl .i32 a (wrap32 (b + 32) % 32) = shl .i32 a (b % 32) by rw [show wrap32 (b + 32) % 32 = b % 32 from by unfold wrap32; omega]), awake_true 2]
  rfl
end Go.Proofs.Ytkahmcdnnknhmaa.Pure
