/- Add and Mul are commutative and associative, Mul distributes over Add, and Sub is Add of the Neg, for all words. The pure statement behind NumRing. -/
import Derived.Test.YtkahmcdnnknhmaaMb
import Derived.Test.YtkahmcdnnknhmaaQx5
namespace Go.Proofs.Ytkahmcdnnknhmaa.Pure
open Go.RowKit Go.Proofs.Ytkahmcdnnknhmaa Go.Proofs.Ytkahmcdnnknhmaa.A Go.Proofs.Ytkahmcdnnknhmaa.Q Go.Proofs.YtkahmcdnnknhmaaW.PrintWords Go.Proofs.YtkahmcdnnknhmaaW.PrintLast Go.Proofs.YtkahmcdnnknhmaaW.PrintMore

theorem add_assoc32 (a b c : Int) : wrap32 (wrap32 (a + b) + c) = wrap32 (a + wrap32 (b + c)) := by unfold wrap32; omega
theorem mul_assoc32 (a b c : Int) : wrap32 (wrap32 (a * b) * c) = wrap32 (a * wrap32 (b * c)) := by
  rw [wrap_bv, wrap_bv (a * wrap32 (b * c)), bv_mul, bv_wrap, bv_mul, bv_mul, bv_wrap, bv_mul, BitVec.mul_assoc]
theorem dist32 (a b c : Int) : wrap32 (a * wrap32 (b + c)) = wrap32 (wrap32 (a * b) + wrap32 (a * c)) := by
  rw [wrap_bv, wrap_bv (wrap32 (a * b) + wrap32 (a * c)), bv_mul, bv_wrap, bv_add, bv_add, bv_wrap, bv_wrap, bv_mul, bv_mul, BitVec.mul_add]
theorem one0 (a : Int) : drawloomlaw01_one.f 0 a = some (wrap32 (-a)) := rfl

theorem ring_end (a b c : Int) (k : Nat) : drawloomlaw01_NumRing.l0 (k + 3) a b c [0, 2] 2 = some true := by
  rw [drawloomlaw01_NumRing.l0, if_neg (by decide)]
  simp only [do0, do1, do2, one0, Option.bind_some]
  rw [if_pos (dist32 a b c), if_pos (show wrap32 (a - b) = wrap32 (a + wrap32 (-b)) by unfold wrap32; omega), if_pos (show wrap32 (a + wrap32 (-a)) = 0 by unfold wrap32; omega), awake_true k]
  rfl

theorem NumRing : drawloomlaw01_NumRing.Pure := by
  intro a b c ha hb hc
  refine ⟨5, ?_⟩
  unfold drawloomlaw01_NumRing.f
  rw [drawloomlaw01_NumRing.l0, if_pos (by decide), if_pos (by decide), show rd [0, 2] 0 = 0 from rfl]
  simp only [do0, Option.bind_some]
  rw [if_pos (show wrap32 (a + b) = wrap32 (b + a) by rw [Int.add_comm]), if_pos (add_assoc32 a b c), show wrap64 (0 + 1) = 1 from by decide +kernel]
  rw [drawloomlaw01_NumRing.l0, if_pos (by decide), if_pos (by decide), show rd [0, 2] 1 = 2 from rfl]
  simp only [do2, Option.bind_some]
  rw [if_pos (show wrap32 (a * b) = wrap32 (b * a) by rw [Int.mul_comm]), if_pos (mul_assoc32 a b c), show wrap64 (1 + 1) = 2 from by decide +kernel]
  exact ring_end a b c 0
end Go.Proofs.Ytkahmcdnnknhmaa.Pure
