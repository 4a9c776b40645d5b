/- Unary and UnaryText return the documented results, for any number as an operator and all words. The pure statement behind NumUnary. -/
import Derived.Test.YtkahmcdnnknhmaaMb
import Derived.Test.YtkahmcdnnknhmaaQx6
namespace Go.Proofs.Ytkahmcdnnknhmaa.Pure
open Go.RowKit Go.Proofs.Ytkahmcdnnknhmaa Go.Proofs.Ytkahmcdnnknhmaa.A Go.Proofs.Ytkahmcdnnknhmaa.Q Go.Proofs.YtkahmcdnnknhmaaW.PrintWords Go.Proofs.YtkahmcdnnknhmaaW.PrintLast Go.Proofs.YtkahmcdnnknhmaaW.PrintMore

theorem unary_text (op : Int) : num_UnaryText.f op = drawloomref01_UnaryText.f op := by
  unfold num_UnaryText.f drawloomref01_UnaryText.f drawloomref01_IsUnary.f
  by_cases h : op < 0
  · rw [if_pos h, if_neg (by omega)]; rfl
  rw [if_neg h, if_pos (show op ≥ 0 by omega)]
  by_cases h2 : op ≥ 3
  · rw [if_pos h2, decide_eq_false (by omega)]; rfl
  rw [if_neg h2, decide_eq_true (by omega)]
  have hc : op = 0 ∨ op = 1 ∨ op = 2 := by omega
  rcases hc with rfl | rfl | rfl <;> rfl
theorem text_some (op : Int) : ∃ s, drawloomref01_UnaryText.f op = some s := by
  unfold drawloomref01_UnaryText.f drawloomref01_IsUnary.f
  by_cases h : op ≥ 0
  · rw [if_pos h]
    by_cases h2 : op < 3
    · rw [decide_eq_true h2]
      have hc : op = 0 ∨ op = 1 ∨ op = 2 := by omega
      rcases hc with rfl | rfl | rfl <;> exact ⟨_, rfl⟩
    · rw [decide_eq_false h2]; exact ⟨_, rfl⟩
  · rw [if_neg h]; exact ⟨_, rfl⟩
theorem unary_same (op a : Int) (ha : -2147483648 ≤ a ∧ a ≤ 2147483647) : num_Unary.f op a = drawloomref01_Unary.f op a ∧ ∃ r, num_Unary.f op a = some r := by
  have h64 : wrap64 a = a := by unfold wrap64; omega
  unfold num_Unary.f drawloomref01_Unary.f drawloomref01_Wrap.f
  rw [h64]
  by_cases h0 : op = 0
  · rw [if_pos h0, if_pos h0, show wrap64 (-a) = -a from by unfold wrap64; omega]; exact ⟨rfl, _, rfl⟩
  rw [if_neg h0, if_neg h0]
  by_cases h1 : op = 1
  · rw [if_pos h1, if_pos h1, show wrap64 (-1 - a) = -1 - a from by unfold wrap64; omega, show Go.bits .xor .i32 (-1) a = wrap32 (-1 - a) from by
      rw [bits_xor, show bv (-1) = BitVec.allOnes 32 from by decide, BitVec.allOnes_xor, wrap_bv, bv_sub, show bv (-1) = -1#32 from by decide, show -1#32 - bv a = ~~~(bv a) from by rw [BitVec.sub_eq_add_neg, BitVec.neg_eq_not_add (bv a), ← BitVec.add_assoc, BitVec.add_comm (-1#32), BitVec.add_assoc, show -1#32 + 1#32 = 0#32 from rfl, BitVec.add_zero]]]
    exact ⟨rfl, _, rfl⟩
  rw [if_neg h1, if_neg h1]
  by_cases h2 : op = 2
  · rw [if_pos h2, if_pos h2]; exact ⟨by cases (a == 0) <;> rfl, by rw [truth_f]; exact ⟨_, rfl⟩⟩
  rw [if_neg h2, if_neg h2]; exact ⟨rfl, _, rfl⟩

theorem NumUnary : drawloomlaw01_NumUnary.Pure := by
  intro op a hop ha
  obtain ⟨he, r, hr⟩ := unary_same op a (wf32 ha)
  obtain ⟨s, hs⟩ := text_some op
  refine ⟨2, ?_⟩
  unfold drawloomlaw01_NumUnary.f
  rw [← he, hr]; simp only [Option.bind_some, beq_self_eq_true, if_true]
  rw [unary_text, hs]; simp only [Option.bind_some, if_true]
  rw [awake_true 0]; rfl
end Go.Proofs.Ytkahmcdnnknhmaa.Pure
