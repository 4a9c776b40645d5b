/- What the reference's word, both and shift come to. -/
import Derived.Test.YtkahmcdnnknhmaaHc
namespace Go.Proofs.Ytkahmcdnnknhmaa
open Go.RowKit Go.Proofs.YtkahmcdnnknhmaaW.PrintWords Go.Proofs.YtkahmcdnnknhmaaW.PrintLast Go.Proofs.YtkahmcdnnknhmaaW.PrintMore Go.Proofs.Ytkahmcdnnknhmaa.A

/-- The number with these bits, the first k. -/
def wsum (l : List Bool) : Nat → Int
  | 0 => 0
  | k + 1 => wsum l k + if l.getD k false = true then 2 ^ k else 0
theorem wsum_range (l : List Bool) (k : Nat) : 0 ≤ wsum l k ∧ wsum l k < 2 ^ k := by
  induction k with
  | zero => simp [wsum]
  | succ k ih =>
    have hp := two_pow_pos k
    simp only [wsum, Int.pow_succ]
    split <;> omega
theorem pow_le32 (k : Nat) (h : k < 32) : (2 : Int) ^ k * 2 ≤ 4294967296 := by
  have h1 : 2 ^ (k + 1) ≤ 2 ^ 32 := Nat.pow_le_pow_right (by decide) h
  have h2 : ((2 ^ (k + 1) : Nat) : Int) ≤ ((2 ^ 32 : Nat) : Int) := by exact_mod_cast h1
  rw [Int.natCast_pow, Int.pow_succ] at h2
  have : ((2 ^ 32 : Nat) : Int) = 4294967296 := by decide
  rw [this] at h2
  exact h2

set_option maxHeartbeats 1000000 in
theorem word_any (l : List Bool) (hl : l.length = 32) (w : World) : Calls Try.prog 61 #[.agg (bA l)] w fun e w' => e = .returned (.int .i32 (wrap32 (wsum l 32))) ∧ Below w.heap.size w w' := by
  have hbx : (w.alloc (.cells (bA l) 52)).heap[w.heap.size]? = some (.cells (bA l) 52 (0, 0)) := heap_alloc_new _ _
  have HBX := Aside0.mk hbx
  clear hbx
  have hb := Aside0.mk (below_alloc (Below.refl w.heap.size w) (.cells (bA l) 52))
  go_enter Try.func61, Try.ntmps61
  go_wp2
  obtain ⟨W, hW⟩ : ∃ W : World, W = w.alloc (.cells (bA l) 52) := ⟨_, rfl⟩
  rw [← hW] at HBX hb ⊢
  clear hW
  go_loop [3, 4, 5] (fun n u i => ∃ k : Nat, k ≤ 32 ∧ i = .int .i64 k ∧ n = .int .u32 (wsum l k) ∧ u = .int .u32 (2 ^ k % 4294967296)) (fun _ _ i => 32 - (intOf i).toNat)
  case atStart => exact ⟨0, by omega, rfl, rfl, rfl⟩
  case round =>
    obtain ⟨k, hk, rfl, rfl, rfl⟩ := hrel
    by_cases hlt : k < 32
    · have hkl : k < l.length := by omega
      have hc : W.cell? ⟨w.heap.size, k, none⟩ = some (.bool l[k]) := by
        rw [blk_cell HBX.out k, bA_get, List.getElem?_eq_getElem hkl]; rfl
      obtain ⟨p, hp, hp1, hp2⟩ : ∃ p : Int, p = 2 ^ k ∧ 0 < p ∧ p * 2 ≤ 4294967296 := ⟨_, rfl, two_pow_pos k, pow_le32 k hlt⟩
      have hpm : (2 : Int) ^ k % 4294967296 = p := by rw [← hp]; omega
      obtain ⟨q, hq, hq1, hq2⟩ : ∃ q : Int, q = wsum l k ∧ 0 ≤ q ∧ q < p := ⟨_, rfl, (wsum_range l k).1, by rw [hp]; exact (wsum_range l k).2⟩
      have hnext : wsum l (k + 1) = q + if l[k] = true then p else 0 := by
        rw [wsum, hq, hp]; congr 2; simp [List.getD_eq_getElem?_getD, List.getElem?_eq_getElem hkl]
      have hpn : (2 : Int) ^ (k + 1) % 4294967296 = p * 2 % 4294967296 := by rw [Int.pow_succ, hp]
      rw [hpm, ← hq]
      have HN := Aside0.mk hnext
      have HP := Aside0.mk hpn
      clear hnext hpn hpm hq hp
      cases hb0 : l[k] with
      | true =>
        rw [hb0] at hc HN
        clear hb0
        go_wp2
        go_round
        case rel => exact ⟨k + 1, by omega, by go_num, by rw [HN.out]; rfl, by rw [HP.out]⟩
        case measure => simp [intOf]; omega
      | false =>
        rw [hb0] at hc HN
        clear hb0
        go_wp2
        go_round
        case rel => exact ⟨k + 1, by omega, by go_num, by rw [HN.out]; simp, by rw [HP.out]⟩
        case measure => simp [intOf]; omega
    · obtain rfl : k = 32 := by omega
      have hd : decide (((32 : Nat) : Int) < 32) = false := rfl
      go_wp2
      go_ret
      exact ⟨rfl, hb.out⟩
end Go.Proofs.Ytkahmcdnnknhmaa
