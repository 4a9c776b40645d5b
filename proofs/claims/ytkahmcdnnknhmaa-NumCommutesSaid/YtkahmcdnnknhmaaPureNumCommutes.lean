/- Commutes holds exactly of operators whose operands may be exchanged. The pure statement behind NumCommutes. -/
import Derived.Test.YtkahmcdnnknhmaaMa
import Derived.Test.YtkahmcdnnknhmaaQx2
namespace Go.Proofs.Ytkahmcdnnknhmaa.Pure
open Go.RowKit Go.Proofs.Ytkahmcdnnknhmaa Go.Proofs.Ytkahmcdnnknhmaa.A Go.Proofs.Ytkahmcdnnknhmaa.Q Go.Proofs.YtkahmcdnnknhmaaW.PrintWords Go.Proofs.YtkahmcdnnknhmaaW.PrintLast Go.Proofs.YtkahmcdnnknhmaaW.PrintMore

theorem bits_comm (o : BinOp) (a b : Int) (h : o = .and ∨ o = .or ∨ o = .xor) : Go.bits o .i32 a b = Go.bits o .i32 b a := by
  rcases h with rfl | rfl | rfl
  · simp only [Go.bits, BitVec.and_comm]
  · simp only [Go.bits, BitVec.or_comm]
  · simp only [Go.bits, BitVec.xor_comm]
theorem mn_comm (a b : Int) : mn a b = mn b a := by unfold mn; split <;> split <;> omega
theorem mx_comm (a b : Int) : mx a b = mx b a := by unfold mx; split <;> split <;> omega

theorem yes_case (op a b v : Int) (h1 : num_Commutes.f op = some true) (h2 : drawloomref01_IsBinary.f op = some true) (h3 : drawloomlaw01_do.f op a b = some v) (h4 : drawloomlaw01_do.f op b a = some v) :
    drawloomlaw01_NumCommutes.f 4 op a b = some true := by
  unfold drawloomlaw01_NumCommutes.f
  rw [h1]; simp only [Option.bind_some, if_true]
  rw [h2]; simp only [Option.bind_some, if_true]
  rw [h3, h4]; simp only [Option.bind_some, if_true]
  rw [awake_true 2]; rfl
theorem no_case (op a b v w : Int) (h1 : num_Commutes.f op = some false) (h2 : drawloomref01_IsBinary.f op = some true) (h3 : drawloomlaw01_do.f op 1 2 = some v) (h4 : drawloomlaw01_do.f op 2 1 = some w) (hne : ¬ v = w) :
    drawloomlaw01_NumCommutes.f 4 op a b = some true := by
  unfold drawloomlaw01_NumCommutes.f
  rw [h1]; simp only [Option.bind_some]
  rw [if_neg (by decide), h2]; simp only [Option.bind_some, if_true]
  rw [h3, h4]; simp only [Option.bind_some]
  rw [if_neg hne, awake_true 2]; rfl
theorem no_case' (op a b u v w : Int) (h1 : num_Commutes.f op = some false) (h2 : drawloomref01_IsBinary.f op = some true) (h3 : drawloomlaw01_do.f op 1 2 = some u) (h4 : drawloomlaw01_do.f op 2 1 = some u) (h5 : drawloomlaw01_do.f op 3 5 = some v) (h6 : drawloomlaw01_do.f op 5 3 = some w) (hne : ¬ v = w) :
    drawloomlaw01_NumCommutes.f 4 op a b = some true := by
  unfold drawloomlaw01_NumCommutes.f
  rw [h1]; simp only [Option.bind_some]
  rw [if_neg (by decide), h2]; simp only [Option.bind_some, if_true]
  rw [h3, h4]; simp only [Option.bind_some, if_true]
  rw [h5, h6]; simp only [Option.bind_some]
  rw [if_neg hne, awake_true 2]; rfl
theorem off_case (op a b : Int) (h1 : num_Commutes.f op = some false) (h2 : drawloomref01_IsBinary.f op = some false) : drawloomlaw01_NumCommutes.f 4 op a b = some true := by
  unfold drawloomlaw01_NumCommutes.f
  rw [h1]; simp only [Option.bind_some]
  rw [if_neg (by decide), h2]; simp only [Option.bind_some]
  rw [if_neg (by decide), awake_true 2]; rfl

theorem NumCommutes : drawloomlaw01_NumCommutes.Pure := by
  intro op a b hop ha hb
  refine ⟨4, ?_⟩
  by_cases hl : op < 0
  · refine off_case _ _ _ ?_ ?_
    · unfold num_Commutes.f; rw [if_pos hl]
    · unfold drawloomref01_IsBinary.f; rw [if_neg (by omega)]
  by_cases hh : op ≥ 20
  · refine off_case _ _ _ ?_ ?_
    · unfold num_Commutes.f; rw [if_neg hl, if_pos hh]
    · unfold drawloomref01_IsBinary.f; rw [if_pos (by omega), decide_eq_false (by omega)]
  have hc : op = 0 ∨ op = 1 ∨ op = 2 ∨ op = 3 ∨ op = 4 ∨ op = 5 ∨ op = 6 ∨ op = 7 ∨ op = 8 ∨ op = 9 ∨ op = 10 ∨ op = 11 ∨ op = 12 ∨ op = 13 ∨ op = 14 ∨ op = 15 ∨ op = 16 ∨ op = 17 ∨ op = 18 ∨ op = 19 := by omega
  rcases hc with rfl | rfl | rfl | rfl | rfl | rfl | rfl | rfl | rfl | rfl | rfl | rfl | rfl | rfl | rfl | rfl | rfl | rfl | rfl | rfl
  · exact yes_case 0 _ _ _ rfl rfl (do0 _ _) (by rw [do0, Int.add_comm])
  · exact no_case 1 _ _ _ _ rfl rfl (do1 _ _) (do1 _ _) (by decide +kernel)
  · exact yes_case 2 _ _ _ rfl rfl (do2 _ _) (by rw [do2, Int.mul_comm])
  · exact no_case 3 _ _ _ _ rfl rfl (do3 _ _) (do3 _ _) (by decide +kernel)
  · exact no_case 4 _ _ _ _ rfl rfl (do4 _ _) (do4 _ _) (by decide +kernel)
  · exact yes_case 5 _ _ _ rfl rfl (do5 _ _) (by rw [do5, bits_comm _ _ _ (.inl rfl)])
  · exact yes_case 6 _ _ _ rfl rfl (do6 _ _) (by rw [do6, bits_comm _ _ _ (.inr (.inl rfl))])
  · exact yes_case 7 _ _ _ rfl rfl (do7 _ _) (by rw [do7, bits_comm _ _ _ (.inr (.inr rfl))])
  · exact no_case' 8 _ _ 4 _ _ rfl rfl (by rw [do8]; decide +kernel) (by rw [do8]; decide +kernel) (do8 _ _) (do8 _ _) (by decide +kernel)
  · exact no_case 9 _ _ _ _ rfl rfl (do9 _ _) (do9 _ _) (by decide +kernel)
  · exact no_case 10 _ _ _ _ rfl rfl (do10 _ _) (do10 _ _) (by decide +kernel)
  · exact no_case 11 _ _ _ _ rfl rfl (do11 _ _) (do11 _ _) (by decide +kernel)
  · exact no_case 12 _ _ _ _ rfl rfl (do12 _ _) (do12 _ _) (by decide +kernel)
  · exact yes_case 13 _ _ _ rfl rfl (do13 _ _) (by rw [do13, BEq.comm])
  · exact yes_case 14 _ _ _ rfl rfl (do14 _ _) (by rw [do14, bne_comm])
  · exact no_case 15 _ _ _ _ rfl rfl (do15 _ _) (do15 _ _) (by decide +kernel)
  · exact yes_case 16 _ _ _ rfl rfl (do16 _ _) (by rw [do16, Bool.and_comm])
  · exact yes_case 17 _ _ _ rfl rfl (do17 _ _) (by rw [do17, Bool.or_comm])
  · exact yes_case 18 _ _ _ rfl rfl (do18 _ _) (by rw [do18, mn_comm])
  · exact yes_case 19 _ _ _ rfl rfl (do19 _ _) (by rw [do19, mx_comm])
end Go.Proofs.Ytkahmcdnnknhmaa.Pure
