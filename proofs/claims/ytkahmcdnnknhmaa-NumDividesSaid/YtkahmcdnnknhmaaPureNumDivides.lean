/- The quotient times the divisor, and the remainder added, are the dividend, for all words; the remainder has its sign or is 0, and is nearer to 0 than the divisor. The pure statement behind NumDivides. -/
import Derived.Test.YtkahmcdnnknhmaaMa
namespace Go.Proofs.Ytkahmcdnnknhmaa.Pure
open Go.RowKit Go.Proofs.Ytkahmcdnnknhmaa Go.Proofs.Ytkahmcdnnknhmaa.A Go.Proofs.Ytkahmcdnnknhmaa.Q Go.Proofs.YtkahmcdnnknhmaaW.PrintWords Go.Proofs.YtkahmcdnnknhmaaW.PrintLast Go.Proofs.YtkahmcdnnknhmaaW.PrintMore

theorem div_rem (a b : Int) (ha : -2147483648 ≤ a ∧ a ≤ 2147483647) (hb : -2147483648 ≤ b ∧ b ≤ 2147483647) (h0 : b ≠ 0) :
    ∃ q r : Int, (if b = 0 then 0 else if b = -1 then wrap32 (-a) else wrap32 (Int.tdiv a b)) = q ∧ (if b = 0 then 0 else if b = -1 then 0 else Int.tmod a b) = r ∧ wrap32 (wrap32 (q * b) + r) = a ∧ (r = 0 ∨ (decide (r < 0) == decide (a < 0)) = true) ∧
      (if r < 0 then -r else r) < (if b < 0 then -b else b) ∧ -2147483648 ≤ r ∧ r ≤ 2147483647 := by
  refine ⟨_, _, rfl, rfl, ?_⟩
  rw [if_neg h0, if_neg h0]
  by_cases h1 : b = -1
  · subst h1
    rw [if_pos rfl, if_pos rfl]
    refine ⟨?_, .inl rfl, by decide, by decide, by decide⟩
    unfold wrap32; omega
  · rw [if_neg h1, if_neg h1]
    have e := Int.mul_tdiv_add_tmod a b
    have hr : (Int.tmod a b).natAbs < b.natAbs := by rw [Int.natAbs_tmod]; exact Nat.mod_lt _ (by omega)
    have hq : (Int.tdiv a b).natAbs ≤ a.natAbs := by
      rw [Int.natAbs_tdiv]; exact Nat.div_le_self _ _
    have hw : wrap32 (Int.tdiv a b) = Int.tdiv a b := by
      by_cases hm : Int.tdiv a b = 2147483648
      · exfalso
        have h2 : (Int.tdiv a b).natAbs = a.natAbs / b.natAbs := Int.natAbs_tdiv a b
        have hb2 : 2 ≤ b.natAbs ∨ b = 1 := by omega
        rcases hb2 with hb2 | rfl
        · have : a.natAbs / b.natAbs ≤ a.natAbs / 2 := Nat.div_le_div_left hb2 (by decide)
          omega
        · rw [Int.tdiv_one] at hm; omega
      · unfold wrap32; omega
    rw [hw]
    have em : Int.tdiv a b * b = a - Int.tmod a b := by rw [Int.mul_comm]; omega
    rw [em]
    have hsgn : (0 ≤ a → 0 ≤ Int.tmod a b) ∧ (a ≤ 0 → Int.tmod a b ≤ 0) := ⟨fun h => Int.tmod_nonneg b h, fun h => by
      have := Int.tmod_nonneg b (show 0 ≤ -a by omega)
      rw [Int.neg_tmod] at this; omega⟩
    obtain ⟨r, hrr⟩ : ∃ r, r = Int.tmod a b := ⟨_, rfl⟩
    rw [← hrr] at hr hsgn ⊢
    have h3 : r.natAbs < b.natAbs := hr
    have hle : r.natAbs ≤ a.natAbs := by
      rw [hrr, Int.natAbs_tmod]; exact Nat.mod_le _ _
    refine ⟨by unfold wrap32; omega, ?_, by split <;> split <;> omega, by omega, by omega⟩
    by_cases hz : r = 0
    · exact .inl hz
    · refine .inr ?_
      by_cases hneg : a < 0
      · rw [decide_eq_true hneg, decide_eq_true (show r < 0 by omega)]; rfl
      · rw [decide_eq_false hneg, decide_eq_false (show ¬ r < 0 by omega)]; rfl

theorem NumDivides : drawloomlaw01_NumDivides.Pure := by
  intro a b ha hb
  have ha := wf32 ha
  have hb := wf32 hb
  refine ⟨6, ?_⟩
  have hb64 : wrap64 b = b := by unfold wrap64; omega
  unfold drawloomlaw01_NumDivides.f
  rw [do3, do4]; simp only [Option.bind_some]
  by_cases h0 : b = 0
  · simp only [if_pos h0, if_true]; rw [awake_true 4]; rfl
  · obtain ⟨q, r, hq, hr, he, hs, hl, hr0, hr1⟩ := div_rem a b ha hb h0
    rw [hq, hr, if_neg h0, hb64]
    have hr64 : wrap64 r = r := by unfold wrap64; omega
    have key : ∀ y, (if r < 0 then -r else r) < y → drawloomlaw01_NumDivides.j0 6 a b q r r y = some true := by
      intro y hy
      simp only [drawloomlaw01_NumDivides.j0, do2, do0, Option.bind_some]
      by_cases hr2 : r < 0
      · rw [if_pos hr2] at hy ⊢
        have hneg : wrap64 (-r) = -r := by unfold wrap64; omega
        rw [if_pos he, hneg, if_pos hy, awake_true 3]
        rcases hs with h | h
        · rw [if_pos h]; rfl
        · rw [if_pos h]; split <;> rfl
      · rw [if_neg hr2] at hy ⊢
        rw [if_pos he, if_pos hy, awake_true 3]
        rcases hs with h | h
        · rw [if_pos h]; rfl
        · rw [if_pos h]; split <;> rfl
    rw [hr64]
    by_cases hbn : b < 0
    · rw [if_pos hbn] at hl ⊢
      rw [show wrap64 (-b) = -b from by unfold wrap64; omega]
      exact key _ hl
    · rw [if_neg hbn] at hl ⊢
      exact key _ hl
end Go.Proofs.Ytkahmcdnnknhmaa.Pure
