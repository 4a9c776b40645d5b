/- Exactly one of a < b, a = b and b < a holds; Le is Lt or Eq; Ne is not Eq; Min and Max are the two words in order; for all words. The pure statement behind NumOrder. -/
import Derived.Test.YtkahmcdnnknhmaaMa
import Derived.Test.YtkahmcdnnknhmaaQx2
namespace Go.Proofs.Ytkahmcdnnknhmaa.Pure
open Go.RowKit Go.Proofs.Ytkahmcdnnknhmaa Go.Proofs.Ytkahmcdnnknhmaa.A Go.Proofs.Ytkahmcdnnknhmaa.Q Go.Proofs.YtkahmcdnnknhmaaW.PrintWords Go.Proofs.YtkahmcdnnknhmaaW.PrintLast Go.Proofs.YtkahmcdnnknhmaaW.PrintMore

theorem NumOrder : drawloomlaw01_NumOrder.Pure := by
  intro a b ha hb
  refine ⟨6, ?_⟩
  have w1 : wrap32 1 = 1 := by decide +kernel
  have w0 : wrap32 0 = 0 := by decide +kernel
  unfold drawloomlaw01_NumOrder.f
  simp only [do11, do13, do12, do14, Option.bind_some]
  rcases Int.lt_trichotomy a b with h | h | h
  · have h1 : decide (a < b) = true := decide_eq_true h
    have h2 : (a == b) = false := beq_eq_false_iff_ne.mpr (by omega)
    have h3 : decide (b < a) = false := decide_eq_false (by omega)
    have h4 : decide (a ≤ b) = true := decide_eq_true (by omega)
    have h5 : (a != b) = true := bne_iff_ne.mpr (by omega)
    have m1 : mn a b = a := by unfold mn; rw [if_neg (by omega)]
    have m2 : mx a b = b := by unfold mx; rw [if_pos h]
    simp [h1, h2, h3, h4, h5, tr, w1, drawloomlaw01_NumOrder.j0, do18, do19, do16, do17, do12, m1, m2, awake_true 3]
    omega
  · subst h
    have m1 : mn a a = a := by unfold mn; simp
    have m2 : mx a a = a := by unfold mx; simp
    simp [tr, w1, w0, drawloomlaw01_NumOrder.j0, do18, do19, do16, do17, do12, m1, m2, awake_true 3]
  · have h1 : decide (a < b) = false := decide_eq_false (by omega)
    have h2 : (a == b) = false := beq_eq_false_iff_ne.mpr (by omega)
    have h3 : decide (b < a) = true := decide_eq_true h
    have h4 : decide (a ≤ b) = false := decide_eq_false (by omega)
    have h5 : (a != b) = true := bne_iff_ne.mpr (by omega)
    have m1 : mn a b = b := by unfold mn; rw [if_pos h]
    have m2 : mx a b = a := by unfold mx; rw [if_neg (by omega)]
    have h8 : ¬ b = a := by omega
    simp [h1, h2, h3, h4, h5, h8, tr, w1, w0, drawloomlaw01_NumOrder.j0, do18, do19, do16, do17, do12, m1, m2, awake_true 3]
    omega
end Go.Proofs.Ytkahmcdnnknhmaa.Pure
