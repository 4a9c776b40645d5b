/- Plain facts on the operators: what num.Binary answers, operator by operator; the examples hold. -/
import Derived.Test.YtkahmcdnnknhmaaQx1
namespace Go.Proofs.Ytkahmcdnnknhmaa.Pure
open Go.RowKit Go.Proofs.Ytkahmcdnnknhmaa Go.Proofs.Ytkahmcdnnknhmaa.A Go.Proofs.Ytkahmcdnnknhmaa.Q Go.Proofs.YtkahmcdnnknhmaaW.PrintWords Go.Proofs.YtkahmcdnnknhmaaW.PrintLast Go.Proofs.YtkahmcdnnknhmaaW.PrintMore

def tr (b : Bool) : Int := if b = true then 1 else 0
theorem truth_f (b : Bool) : num_truth.f b = some (tr b) := by cases b <;> rfl
theorem nb0 (a b : Int) : num_Binary.f 0 a b = some (wrap32 (a + b), true) := rfl
theorem nb1 (a b : Int) : num_Binary.f 1 a b = some (wrap32 (a - b), true) := rfl
theorem nb2' (a b : Int) : num_Binary.f 2 a b = (num_rules_3.f a b).map fun r => (r, true) := rfl
theorem nb2 (a b : Int) : num_Binary.f 2 a b = some (wrap32 (a * b), true) := rfl
theorem nb3' (a b : Int) : num_Binary.f 3 a b = (num_div.f a b).map fun r => (r, true) := rfl
theorem nb4' (a b : Int) : num_Binary.f 4 a b = (num_rem.f a b).map fun r => (r, true) := rfl
theorem nb5' (a b : Int) : num_Binary.f 5 a b = (num_rules_4.f a b).map fun r => (r, true) := rfl
theorem nb5 (a b : Int) : num_Binary.f 5 a b = some (Go.bits .and .i32 a b, true) := rfl
theorem nb6' (a b : Int) : num_Binary.f 6 a b = (num_rules_5.f a b).map fun r => (r, true) := rfl
theorem nb6 (a b : Int) : num_Binary.f 6 a b = some (Go.bits .or .i32 a b, true) := rfl
theorem nb7' (a b : Int) : num_Binary.f 7 a b = (num_rules_6.f a b).map fun r => (r, true) := rfl
theorem nb7 (a b : Int) : num_Binary.f 7 a b = some (Go.bits .xor .i32 a b, true) := rfl
theorem nb8' (a b : Int) : num_Binary.f 8 a b = (num_rules_7.f a b).map fun r => (r, true) := rfl
theorem nb9' (a b : Int) : num_Binary.f 9 a b = (num_rules_8.f a b).map fun r => (r, true) := rfl
theorem nb10' (a b : Int) : num_Binary.f 10 a b = (num_rules_9.f a b).map fun r => (r, true) := rfl
theorem nb11' (a b : Int) : num_Binary.f 11 a b = (num_rules_10.f a b).map fun r => (r, true) := rfl
theorem nb11 (a b : Int) : num_Binary.f 11 a b = some (tr (decide (a < b)), true) := by rw [nb11']; unfold num_rules_10.f; rw [truth_f]; rfl
theorem nb12' (a b : Int) : num_Binary.f 12 a b = (num_rules_11.f a b).map fun r => (r, true) := rfl
theorem nb12 (a b : Int) : num_Binary.f 12 a b = some (tr (decide (a ≤ b)), true) := by rw [nb12']; unfold num_rules_11.f; rw [truth_f]; rfl
theorem nb13' (a b : Int) : num_Binary.f 13 a b = (num_rules_12.f a b).map fun r => (r, true) := rfl
theorem nb13 (a b : Int) : num_Binary.f 13 a b = some (tr (a == b), true) := by rw [nb13']; unfold num_rules_12.f; rw [truth_f]; rfl
theorem nb14' (a b : Int) : num_Binary.f 14 a b = (num_rules_13.f a b).map fun r => (r, true) := rfl
theorem nb14 (a b : Int) : num_Binary.f 14 a b = some (tr (a != b), true) := by rw [nb14']; unfold num_rules_13.f; rw [truth_f]; rfl
theorem nb15' (a b : Int) : num_Binary.f 15 a b = (num_rules_14.f a b).map fun r => (r, true) := rfl
theorem nb15 (a b : Int) : num_Binary.f 15 a b = some (tr (decide (a % 4294967296 < b % 4294967296)), true) := by rw [nb15']; unfold num_rules_14.f; rw [truth_f]; rfl
theorem nb16' (a b : Int) : num_Binary.f 16 a b = (num_rules_15.f a b).map fun r => (r, true) := rfl
theorem nb16 (a b : Int) : num_Binary.f 16 a b = some (tr (a != 0 && b != 0), true) := by
  rw [nb16']; unfold num_rules_15.f; simp only [truth_f]
  by_cases h : a = 0
  · subst h; simp [tr]
  · simp [h, tr]
theorem nb17' (a b : Int) : num_Binary.f 17 a b = (num_rules_16.f a b).map fun r => (r, true) := rfl
theorem nb17 (a b : Int) : num_Binary.f 17 a b = some (tr (a != 0 || b != 0), true) := by
  rw [nb17']; unfold num_rules_16.f; simp only [truth_f]
  by_cases h : a = 0
  · subst h; simp [tr]
  · simp [h, tr]
theorem nb18' (a b : Int) : num_Binary.f 18 a b = (num_rules_17.f a b).map fun r => (r, true) := rfl
theorem nb18 (a b : Int) : num_Binary.f 18 a b = some (mn a b, true) := rfl
theorem nb19' (a b : Int) : num_Binary.f 19 a b = (num_rules_18.f a b).map fun r => (r, true) := rfl
theorem nb19 (a b : Int) : num_Binary.f 19 a b = some (mx a b, true) := rfl
theorem nb3 (a b : Int) : num_Binary.f 3 a b = some (if b = 0 then 0 else if b = -1 then wrap32 (-a) else wrap32 (Int.tdiv a b), true) := by
  rw [nb3']; unfold num_div.f; by_cases h : b = 0
  · simp [h]
  · by_cases h1 : b = -1 <;> simp [h, h1]
theorem nb4 (a b : Int) : num_Binary.f 4 a b = some (if b = 0 then 0 else if b = -1 then 0 else Int.tmod a b, true) := by
  rw [nb4']; unfold num_rem.f; by_cases h : b = 0
  · simp [h]
  · by_cases h1 : b = -1 <;> simp [h, h1]
theorem low5 (b : Int) : Go.bits .and .u32 (b % 4294967296) 31 = b % 32 := by
  have e : (BitVec.ofInt 32 (b % 4294967296)).toNat = (b % 4294967296).toNat := by rw [BitVec.toNat_ofInt]; simp
  show IntKind.u32.wrap (((BitVec.ofInt 32 (b % 4294967296)) &&& (BitVec.ofInt 32 31)).toNat : Int) = _
  rw [BitVec.toNat_and, e, show (BitVec.ofInt 32 31).toNat = 2 ^ 5 - 1 from rfl, Nat.and_two_pow_sub_one_eq_mod]
  simp only [IntKind.wrap, IntKind.signed, IntKind.bits]
  simp
  omega
theorem nb8 (a b : Int) : num_Binary.f 8 a b = some (shl .i32 a (b % 32), true) := by
  rw [nb8']; unfold num_rules_7.f; rw [low5, if_pos (by omega)]; rfl
theorem nb9 (a b : Int) : num_Binary.f 9 a b = some (shr .i32 a (b % 32), true) := by
  rw [nb9']; unfold num_rules_8.f; rw [low5, if_pos (by omega)]; rfl
theorem nb10 (a b : Int) : num_Binary.f 10 a b = some (wrap32 (shr .u32 (a % 4294967296) (b % 32)), true) := by
  rw [nb10']; unfold num_rules_9.f; rw [low5, if_pos (by omega)]; rfl
theorem do0 (a b : Int) : drawloomlaw01_do.f 0 a b = some (wrap32 (a + b)) := by unfold drawloomlaw01_do.f; rw [nb0]; rfl
theorem do1 (a b : Int) : drawloomlaw01_do.f 1 a b = some (wrap32 (a - b)) := by unfold drawloomlaw01_do.f; rw [nb1]; rfl
theorem do2 (a b : Int) : drawloomlaw01_do.f 2 a b = some (wrap32 (a * b)) := by unfold drawloomlaw01_do.f; rw [nb2]; rfl
theorem do3 (a b : Int) : drawloomlaw01_do.f 3 a b = some (if b = 0 then 0 else if b = -1 then wrap32 (-a) else wrap32 (Int.tdiv a b)) := by unfold drawloomlaw01_do.f; rw [nb3]; rfl
theorem do4 (a b : Int) : drawloomlaw01_do.f 4 a b = some (if b = 0 then 0 else if b = -1 then 0 else Int.tmod a b) := by unfold drawloomlaw01_do.f; rw [nb4]; rfl
theorem do5 (a b : Int) : drawloomlaw01_do.f 5 a b = some (Go.bits .and .i32 a b) := by unfold drawloomlaw01_do.f; rw [nb5]; rfl
theorem do6 (a b : Int) : drawloomlaw01_do.f 6 a b = some (Go.bits .or .i32 a b) := by unfold drawloomlaw01_do.f; rw [nb6]; rfl
theorem do7 (a b : Int) : drawloomlaw01_do.f 7 a b = some (Go.bits .xor .i32 a b) := by unfold drawloomlaw01_do.f; rw [nb7]; rfl
theorem do8 (a b : Int) : drawloomlaw01_do.f 8 a b = some (shl .i32 a (b % 32)) := by unfold drawloomlaw01_do.f; rw [nb8]; rfl
theorem do9 (a b : Int) : drawloomlaw01_do.f 9 a b = some (shr .i32 a (b % 32)) := by unfold drawloomlaw01_do.f; rw [nb9]; rfl
theorem do10 (a b : Int) : drawloomlaw01_do.f 10 a b = some (wrap32 (shr .u32 (a % 4294967296) (b % 32))) := by unfold drawloomlaw01_do.f; rw [nb10]; rfl
theorem do11 (a b : Int) : drawloomlaw01_do.f 11 a b = some (tr (decide (a < b))) := by unfold drawloomlaw01_do.f; rw [nb11]; rfl
theorem do12 (a b : Int) : drawloomlaw01_do.f 12 a b = some (tr (decide (a ≤ b))) := by unfold drawloomlaw01_do.f; rw [nb12]; rfl
theorem do13 (a b : Int) : drawloomlaw01_do.f 13 a b = some (tr (a == b)) := by unfold drawloomlaw01_do.f; rw [nb13]; rfl
theorem do14 (a b : Int) : drawloomlaw01_do.f 14 a b = some (tr (a != b)) := by unfold drawloomlaw01_do.f; rw [nb14]; rfl
theorem do15 (a b : Int) : drawloomlaw01_do.f 15 a b = some (tr (decide (a % 4294967296 < b % 4294967296))) := by unfold drawloomlaw01_do.f; rw [nb15]; rfl
theorem do16 (a b : Int) : drawloomlaw01_do.f 16 a b = some (tr (a != 0 && b != 0)) := by unfold drawloomlaw01_do.f; rw [nb16]; rfl
theorem do17 (a b : Int) : drawloomlaw01_do.f 17 a b = some (tr (a != 0 || b != 0)) := by unfold drawloomlaw01_do.f; rw [nb17]; rfl
theorem do18 (a b : Int) : drawloomlaw01_do.f 18 a b = some (mn a b) := by unfold drawloomlaw01_do.f; rw [nb18]; rfl
theorem do19 (a b : Int) : drawloomlaw01_do.f 19 a b = some (mx a b) := by unfold drawloomlaw01_do.f; rw [nb19]; rfl
theorem fold_nil (k : Nat) : num_Fold.f (k + 2) 18 [] = some (2147483647, true) := rfl
theorem awake_true (k : Nat) : drawloomlaw01_awake.f (k + 2) = some true := by
  unfold drawloomlaw01_awake.f
  rw [fold_nil, show num_Binary.f 3 (-7) 2 = some (-3, true) from by decide +kernel, show num_Binary.f 4 (-7) 2 = some (-1, true) from by decide +kernel, show num_Binary.f 9 (-8) 33 = some (-4, true) from by decide +kernel, show num_Binary.f 10 (-1) 28 = some (15, true) from by decide +kernel, show num_Binary.f 15 (-1) 1 = some (0, true) from by decide +kernel]
  rfl
theorem wf32 {a : Int} (h : (Lit.int .i32 a).wf = true) : -2147483648 ≤ a ∧ a ≤ 2147483647 := by
  simp only [Lit.wf, IntKind.min, IntKind.max, IntKind.signed, IntKind.bits, Bool.and_eq_true, decide_eq_true_eq, if_true] at h
  omega
end Go.Proofs.Ytkahmcdnnknhmaa.Pure
