/- What the reference's bits, word, both and shift come to. -/
import Derived.Test.YtkahmcdnnknhmaaAx1
import Derived.Laws.CopyOwn
namespace Go.Proofs.Ytkahmcdnnknhmaa
open Go.RowKit Go.Proofs.YtkahmcdnnknhmaaW.PrintWords Go.Proofs.YtkahmcdnnknhmaaW.PrintLast Go.Proofs.YtkahmcdnnknhmaaW.PrintMore Go.Proofs.Ytkahmcdnnknhmaa.A

/-- The cells of an array of bools. -/
def bA (l : List Bool) : Array Value := (l.map Value.bool).toArray
theorem bA_size (l : List Bool) : (bA l).size = l.length := by simp [bA]
theorem bA_get (l : List Bool) (k : Nat) : (bA l)[k]? = (l[k]?).map Value.bool := by simp [bA]
theorem bA_set (l : List Bool) (k : Nat) (b : Bool) : (bA l).setIfInBounds k (.bool b) = bA (l.set k b) := by simp [bA, List.map_set]
theorem bA_one (l : List Bool) : (bA l).all (·.oneCell') = true := by
  simp [bA, Value.oneCell']
def zL : List Bool := List.replicate 32 false
theorem zL_eq : bA zL = #[Value.bool false, Value.bool false, Value.bool false, Value.bool false, Value.bool false, Value.bool false, Value.bool false, Value.bool false, Value.bool false, Value.bool false, Value.bool false, Value.bool false, Value.bool false, Value.bool false, Value.bool false, Value.bool false, Value.bool false, Value.bool false, Value.bool false, Value.bool false, Value.bool false, Value.bool false, Value.bool false, Value.bool false, Value.bool false, Value.bool false, Value.bool false, Value.bool false, Value.bool false, Value.bool false, Value.bool false, Value.bool false] := rfl

/-- The first k bits of u, and then false. -/
def bitL (u : Int) (k : Nat) : List Bool := (List.range 32).map fun i => decide (i < k) && (u / 2 ^ i % 2 == 1)
theorem bitL_length (u : Int) (k : Nat) : (bitL u k).length = 32 := by simp [bitL]
theorem bitL_zero (u : Int) : bitL u 0 = zL := by
  apply List.ext_getElem
  · simp [bitL, zL]
  · intro i h1 h2
    rw [show zL[i] = false from List.getElem_replicate ..]; simp [bitL]
theorem bitL_step (u : Int) (k : Nat) : (bitL u k).set k (u / 2 ^ k % 2 == 1) = bitL u (k + 1) := by
  apply List.ext_getElem
  · simp [bitL]
  · intro i h1 h2
    rw [List.getElem_set]
    by_cases e : k = i
    · subst e; simp [bitL]
    · rw [if_neg e]; simp only [bitL, List.getElem_map, List.getElem_range]
      by_cases hik : i < k
      · simp [hik, show i < k + 1 by omega]
      · simp [hik, show ¬ i < k + 1 by omega]
theorem two_pow_pos (k : Nat) : (0 : Int) < 2 ^ k := Int.pow_pos (by decide)
theorem pow_next (u : Int) (k : Nat) : u / 2 ^ k / 2 = u / 2 ^ (k + 1) := by
  rw [Int.pow_succ, Int.ediv_ediv_of_nonneg (Int.le_of_lt (two_pow_pos k))]
theorem pow_range (u : Int) (k : Nat) (h0 : 0 ≤ u) (h1 : u < 4294967296) : 0 ≤ u / 2 ^ k ∧ u / 2 ^ k < 4294967296 := by
  have hp := two_pow_pos k
  refine ⟨Int.ediv_nonneg h0 (by omega), ?_⟩
  have := Int.ediv_le_self (2 ^ k) h0
  omega

theorem info52 : (Try.prog.info? 52).map (·.size) = some 32 := by kernel_rfl
set_option maxHeartbeats 1000000 in
theorem bits_any (a : Int) (w : World) : Calls Try.prog 60 #[.int .i32 a] w fun e w' => e = .returned (.agg (bA (bitL (a % 4294967296) 32))) ∧ Below w.heap.size w w' := by
  obtain ⟨u, hu, h0, h1⟩ : ∃ u : Int, u = a % 4294967296 ∧ 0 ≤ u ∧ u < 4294967296 := ⟨_, rfl, by omega, by omega⟩
  have HU := Aside0.mk hu
  rw [← hu]
  clear hu
  go_enter Try.func60, Try.ntmps60
  go_wp2
  rw [← HU.out]
  go_loopw [4, 5] (fun n i wr => ∃ k : Nat, k ≤ 32 ∧ i = .int .i64 k ∧ n = .int .u32 (u / 2 ^ k) ∧ Aside0 (wr.heap[w.heap.size]? = some (.cells (bA zL) 52 (0, 0))) ∧ Aside0 (wr.heap[w.heap.size + 1]? = some (.cells (bA (bitL u k)) 52 (0, 0))) ∧ Aside0 (Below w.heap.size w wr)) (fun _ i _ => 32 - (intOf i).toNat)
  case atStart =>
    refine ⟨0, by omega, rfl, by simp, ⟨?_⟩, ⟨?_⟩, ⟨below_alloc (below_alloc (Below.refl _ _) _) _⟩⟩
    · rw [zL_eq]; exact heap_alloc2_old _ _ _
    · rw [bitL_zero, zL_eq]; exact heap_alloc2_new _ _ _
  case round =>
    obtain ⟨k, hk, rfl, rfl, hA, hB, hl⟩ := hrel
    obtain ⟨p, hp, hp0, hp1⟩ : ∃ p : Int, p = u / 2 ^ k ∧ 0 ≤ p ∧ p < 4294967296 := ⟨_, rfl, (pow_range u k h0 h1).1, (pow_range u k h0 h1).2⟩
    have HP := Aside0.mk hp
    rw [← hp]
    clear hp
    by_cases hlt : k < 32
    · have hc : wr.cell? ⟨w.heap.size + 1, k, none⟩ = some (.bool ((bitL u k)[k]'(by rw [bitL_length]; exact hlt))) := by
        rw [blk_cell hB.out k, bA_get, List.getElem?_eq_getElem (by rw [bitL_length]; exact hlt)]; rfl
      have hf := blk_frozen hB.out k
      go_wp2
      go_roundw
      case rel =>
        refine ⟨k + 1, by omega, by go_num, by rw [HP.out, pow_next], ⟨blk_far hA.out (by simp) _⟩, ⟨?_⟩, ⟨hl.out.setCell (by simp) _⟩⟩
        rw [blk_set hB.out k, bA_set]
        rw [HP.out, bitL_step]
      case measure => simp [intOf]; omega
    · obtain rfl : k = 32 := by omega
      have hd : decide (((32 : Nat) : Int) < 32) = false := rfl
      go_wp2_with (first | (with_reducible refine wpList_load_row rfl 52 _ rfl (w.heap.size + 1) rfl 52 _ _ _ hB.out Try.underlying52 rfl (by rw [info52, bA_size, bitL_length]) ?_) | (refine wpList_store_row rfl 52 (.tmp 2) (.tmp 19) rfl w.heap.size (bA (bitL u 32)) rfl rfl 52 (bA zL) hA.out (by rw [info52, bA_size, bitL_length]) (by rw [bA_size, bA_size, bitL_length]; rfl) (bA_one _) ?_))
      refine bodyPost_ret (v := .agg (bA (bitL u 32))) (results_cell_row rfl _ _ w.heap.size 52 _ (0, 0) _ rfl (setRow_heap _ _ _ _ _ _ hA.out) Try.underlying52 rfl (by rw [info52, bA_size, bitL_length])) rfl ⟨rfl, ?_⟩
      exact below_setRow hl.out (Nat.le_refl _) _
end Go.Proofs.Ytkahmcdnnknhmaa
