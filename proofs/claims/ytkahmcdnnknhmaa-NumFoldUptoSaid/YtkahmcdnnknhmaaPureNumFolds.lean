/- Folds, Neutral and Fold return the documented results, for any number as an operator and all lists of words. The pure statement behind NumFolds. -/
import Derived.Test.YtkahmcdnnknhmaaMc
import Derived.Test.YtkahmcdnnknhmaaQx4
namespace Go.Proofs.Ytkahmcdnnknhmaa.Pure
open Go.RowKit Go.Proofs.Ytkahmcdnnknhmaa Go.Proofs.Ytkahmcdnnknhmaa.A Go.Proofs.Ytkahmcdnnknhmaa.Q Go.Proofs.YtkahmcdnnknhmaaW.PrintWords Go.Proofs.YtkahmcdnnknhmaaW.PrintLast Go.Proofs.YtkahmcdnnknhmaaW.PrintMore

/-- What a fold begins with. -/
def neut (op : Int) : Int × Bool := if op = 0 ∨ op = 6 ∨ op = 7 then (0, true) else if op = 18 then (2147483647, true) else if op = 19 then (-2147483648, true) else if op = 5 then (-1, true) else (0, false)
theorem neutral_f (op : Int) (k : Nat) : num_Neutral.f (k + 1) op = some (neut op) := by
  unfold num_Neutral.f neut
  by_cases h0 : op = 0
  · subst h0; rfl
  by_cases h6 : op = 6
  · subst h6; rfl
  by_cases h7 : op = 7
  · subst h7; rfl
  rw [if_neg h0, if_neg h6, if_neg (by omega), beq_eq_false_iff_ne.mpr h7, num_Neutral.j0, if_neg (by decide)]
  split
  · rfl
  · split
    · rfl
    · split <;> rfl
theorem neutral_r (op : Int) (k : Nat) : drawloomref01_Neutral.f (k + 1) op = some (neut op) := by
  unfold drawloomref01_Neutral.f neut
  by_cases h0 : op = 0
  · subst h0; rfl
  by_cases h6 : op = 6
  · subst h6; rfl
  by_cases h7 : op = 7
  · subst h7; rfl
  rw [if_neg h0, if_neg h6, if_neg (by omega), beq_eq_false_iff_ne.mpr h7, drawloomref01_Neutral.j0, if_neg (by decide)]
  split
  · rfl
  · split
    · rfl
    · split <;> rfl
theorem neut_wf (op : Int) : -2147483648 ≤ (neut op).1 ∧ (neut op).1 ≤ 2147483647 := by
  unfold neut; split
  · decide
  · split
    · decide
    · split
      · decide
      · split <;> decide
theorem neut_op (op : Int) (h : (neut op).2 = true) : op = 0 ∨ op = 5 ∨ op = 6 ∨ op = 7 ∨ op = 18 ∨ op = 19 := by
  unfold neut at h
  by_cases h1 : op = 0 ∨ op = 6 ∨ op = 7
  · omega
  rw [if_neg h1] at h
  by_cases h2 : op = 18
  · omega
  rw [if_neg h2] at h
  by_cases h3 : op = 19
  · omega
  rw [if_neg h3] at h
  by_cases h4 : op = 5
  · omega
  rw [if_neg h4] at h
  exact absurd h (by decide)
theorem wrap32_range (n : Int) : -2147483648 ≤ wrap32 n ∧ wrap32 n ≤ 2147483647 := by unfold wrap32; omega
/-- An operator that folds answers a word. -/
theorem bin_word (op a b : Int) (h : op = 0 ∨ op = 5 ∨ op = 6 ∨ op = 7 ∨ op = 18 ∨ op = 19) (ha : -2147483648 ≤ a ∧ a ≤ 2147483647) (hb : -2147483648 ≤ b ∧ b ≤ 2147483647) :
    ∃ r, num_Binary.f op a b = some (r, true) ∧ -2147483648 ≤ r ∧ r ≤ 2147483647 := by
  rcases h with rfl | rfl | rfl | rfl | rfl | rfl
  · exact ⟨_, nb0 a b, wrap32_range _⟩
  · exact ⟨_, nb5 a b, by rw [bits_and, ← bv_toInt (bv a &&& bv b), ← wrap_bv]; exact wrap32_range _⟩
  · exact ⟨_, nb6 a b, by rw [bits_or, ← bv_toInt (bv a ||| bv b), ← wrap_bv]; exact wrap32_range _⟩
  · exact ⟨_, nb7 a b, by rw [bits_xor, ← bv_toInt (bv a ^^^ bv b), ← wrap_bv]; exact wrap32_range _⟩
  · exact ⟨_, nb18 a b, by unfold mn; split <;> omega⟩
  · exact ⟨_, nb19 a b, by unfold mx; split <;> omega⟩
theorem rd_mem (l : List Int) (i : Int) (h0 : 0 ≤ i) (h1 : i < (l.length : Int)) : rd l i ∈ l := by
  unfold rd
  rw [List.getD_eq_getElem?_getD, List.getElem?_eq_getElem (by omega)]
  exact List.getElem_mem _
theorem wrap_next {i : Int} {n : Nat} (h0 : 0 ≤ i) (h : i < (n : Int)) (hn : n ≤ 140737488351232) : wrap64 (i + 1) = i + 1 := by unfold wrap64; omega
/-- Both folds, from an index on. -/
theorem fold_loop (op : Int) (hop : op = 0 ∨ op = 5 ∨ op = 6 ∨ op = 7 ∨ op = 18 ∨ op = 19) (l : List Int) (hw : ∀ x ∈ l, -2147483648 ≤ x ∧ x ≤ 2147483647) (hl : l.length ≤ 140737488351232) (d : Nat) :
    ∀ (i a : Int), 0 ≤ i → i + d = l.length → (-2147483648 ≤ a ∧ a ≤ 2147483647) →
    ∃ r, (∀ k, num_Fold.l0 (k + d + 1) op a l (l.length : Int) i = some (r, true)) ∧ (∀ k, drawloomref01_Fold.l0 (k + d + 3) op l a i = some (r, true)) ∧ -2147483648 ≤ r ∧ r ≤ 2147483647 := by
  induction d with
  | zero =>
    intro i a h0 h1 ha
    refine ⟨a, fun k => ?_, fun k => ?_, ha⟩
    · rw [num_Fold.l0, if_neg (by omega)]
    · rw [drawloomref01_Fold.l0, if_neg (by omega)]
  | succ d ih =>
    intro i a h0 h1 ha
    have hx := hw _ (rd_mem l i h0 (by omega))
    obtain ⟨q, hq, hqr⟩ := bin_word op a (rd l i) hop ha hx
    obtain ⟨r, hr1, hr2, hr3⟩ := ih (i + 1) q (by omega) (by omega) hqr
    refine ⟨r, fun k => ?_, fun k => ?_, hr3⟩
    · rw [show k + (d + 1) + 1 = (k + d + 1) + 1 from by omega, num_Fold.l0, if_pos (by omega), if_pos h0, if_pos (by omega), hq]
      simp only [Option.bind_some]
      rw [wrap_next h0 (n := l.length) (by omega) hl]; exact hr1 k
    · rw [show k + (d + 1) + 3 = (k + d + 3) + 1 from by omega, drawloomref01_Fold.l0, if_pos (by omega), if_pos h0, show k + d + 3 = (k + d + 1) + 2 from by omega, (binary_same op a (rd l i) (k + d + 1) ha hx).1, hq]
      simp only [Option.bind_some]
      rw [wrap_next h0 (n := l.length) (by omega) hl]; exact hr2 k

/-- The fold of a list, as both functions tell it. -/
theorem fold_both (op : Int) (l : List Int) (hw : ∀ x ∈ l, -2147483648 ≤ x ∧ x ≤ 2147483647) (hl : l.length ≤ 140737488351232) :
    ∃ r, ∀ k, num_Fold.f (k + l.length + 3) op l = some r ∧ drawloomref01_Fold.f (k + l.length + 3) op l = some r := by
  unfold num_Fold.f drawloomref01_Fold.f
  by_cases hb : (neut op).2 = true
  · obtain ⟨r, h1, h2, _⟩ := fold_loop op (neut_op op hb) l hw hl l.length 0 (neut op).1 (by omega) (by omega) (neut_wf op)
    refine ⟨(r, true), fun k => ?_⟩
    rw [show k + l.length + 3 = (k + l.length + 2) + 1 from rfl, neutral_f, neutral_r]
    simp only [Option.bind_some]
    rw [if_pos hb, if_pos hb]
    refine ⟨?_, h2 k⟩
    have := h1 (k + 2)
    rwa [show k + 2 + l.length + 1 = k + l.length + 2 + 1 from by omega] at this
  · refine ⟨(0, false), fun k => ?_⟩
    rw [show k + l.length + 3 = (k + l.length + 2) + 1 from rfl, neutral_f, neutral_r]
    simp only [Option.bind_some]
    rw [if_neg hb, if_neg hb]
    exact ⟨rfl, rfl⟩

theorem NumFolds : drawloomlaw01_NumFolds.Pure := by
  intro op l hop hm hl hw
  obtain ⟨r, hr⟩ := fold_both op l (fun x hx => wf32 (hw x hx)) (by omega)
  refine ⟨0 + l.length + 3, ?_⟩
  unfold drawloomlaw01_NumFolds.f num_Folds.f drawloomref01_Folds.f
  rw [(hr 0).1, (hr 0).2, show 0 + l.length + 3 = (l.length + 2) + 1 from by omega, neutral_f, neutral_r]
  simp only [Option.bind_some, beq_self_eq_true, if_true]
  rw [show l.length + 2 + 1 = (l.length + 1) + 2 from rfl, awake_true]; rfl
end Go.Proofs.Ytkahmcdnnknhmaa.Pure
