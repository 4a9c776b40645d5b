/- Binary, Commutes and Text return the documented results, for any number as an operator and all words. The pure statement behind NumBinary. -/
import Derived.Test.YtkahmcdnnknhmaaMc
import Derived.Test.YtkahmcdnnknhmaaQx5
namespace Go.Proofs.Ytkahmcdnnknhmaa.Pure
open Go.RowKit Go.Proofs.Ytkahmcdnnknhmaa Go.Proofs.Ytkahmcdnnknhmaa.A Go.Proofs.Ytkahmcdnnknhmaa.Q Go.Proofs.YtkahmcdnnknhmaaW.PrintWords Go.Proofs.YtkahmcdnnknhmaaW.PrintLast Go.Proofs.YtkahmcdnnknhmaaW.PrintMore

theorem text_same (op : Int) : num_Text.f op = drawloomref01_Text.f op ∧ ∃ s, num_Text.f op = some s := by
  unfold num_Text.f drawloomref01_Text.f drawloomref01_IsBinary.f
  by_cases h : op < 0
  · rw [if_pos h, if_neg (by omega)]; exact ⟨rfl, _, rfl⟩
  rw [if_neg h, if_pos (show op ≥ 0 by omega)]
  by_cases h2 : op ≥ 20
  · rw [if_pos h2, decide_eq_false (by omega)]; exact ⟨rfl, _, rfl⟩
  rw [if_neg h2, decide_eq_true (by omega)]
  have hc : op = 0 ∨ op = 1 ∨ op = 2 ∨ op = 3 ∨ op = 4 ∨ op = 5 ∨ op = 6 ∨ op = 7 ∨ op = 8 ∨ op = 9 ∨ op = 10 ∨ op = 11 ∨ op = 12 ∨ op = 13 ∨ op = 14 ∨ op = 15 ∨ op = 16 ∨ op = 17 ∨ op = 18 ∨ op = 19 := by omega
  rcases hc with rfl | rfl | rfl | rfl | rfl | rfl | rfl | rfl | rfl | rfl | rfl | rfl | rfl | rfl | rfl | rfl | rfl | rfl | rfl | rfl <;> exact ⟨rfl, _, rfl⟩
theorem commutes_same (op : Int) : num_Commutes.f op = drawloomref01_Commutes.f op ∧ ∃ r, num_Commutes.f op = some r := by
  unfold num_Commutes.f drawloomref01_Commutes.f
  by_cases h : op < 0
  · rw [if_pos h, if_neg (by omega), if_neg (by omega), if_neg (by omega), if_neg (by omega), if_neg (by omega), if_neg (by omega), if_neg (by omega), if_neg (by omega), if_neg (by omega), if_neg (by omega), if_neg (by omega)]; exact ⟨rfl, _, rfl⟩
  rw [if_neg h]
  by_cases h2 : op ≥ 20
  · rw [if_pos h2, if_neg (by omega), if_neg (by omega), if_neg (by omega), if_neg (by omega), if_neg (by omega), if_neg (by omega), if_neg (by omega), if_neg (by omega), if_neg (by omega), if_neg (by omega), if_neg (by omega)]; exact ⟨rfl, _, rfl⟩
  rw [if_neg h2]
  have hc : op = 0 ∨ op = 1 ∨ op = 2 ∨ op = 3 ∨ op = 4 ∨ op = 5 ∨ op = 6 ∨ op = 7 ∨ op = 8 ∨ op = 9 ∨ op = 10 ∨ op = 11 ∨ op = 12 ∨ op = 13 ∨ op = 14 ∨ op = 15 ∨ op = 16 ∨ op = 17 ∨ op = 18 ∨ op = 19 := by omega
  rcases hc with rfl | rfl | rfl | rfl | rfl | rfl | rfl | rfl | rfl | rfl | rfl | rfl | rfl | rfl | rfl | rfl | rfl | rfl | rfl | rfl <;> exact ⟨rfl, _, rfl⟩

theorem NumBinary : drawloomlaw01_NumBinary.Pure := by
  intro op a b hop ha hb
  obtain ⟨he, r, hr⟩ := binary_same op a b 0 (wf32 ha) (wf32 hb)
  obtain ⟨hc, c, hc2⟩ := commutes_same op
  obtain ⟨ht, s, hs⟩ := text_same op
  refine ⟨2, ?_⟩
  unfold drawloomlaw01_NumBinary.f
  rw [he, hr]; simp only [Option.bind_some, beq_self_eq_true, if_true]
  rw [← hc, hc2]; simp only [Option.bind_some, beq_self_eq_true, if_true]
  rw [← ht, hs]; simp only [Option.bind_some, if_true]
  rw [awake_true 0]; rfl
end Go.Proofs.Ytkahmcdnnknhmaa.Pure
