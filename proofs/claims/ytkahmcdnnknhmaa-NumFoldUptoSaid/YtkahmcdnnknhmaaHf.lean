/- What the reference's shift comes to. -/
import Derived.Test.YtkahmcdnnknhmaaHe
namespace Go.Proofs.Ytkahmcdnnknhmaa
open Go.RowKit Go.Proofs.YtkahmcdnnknhmaaW.PrintWords Go.Proofs.YtkahmcdnnknhmaaW.PrintLast Go.Proofs.YtkahmcdnnknhmaaW.PrintMore Go.Proofs.Ytkahmcdnnknhmaa.A

def shiftF (op : Int) (n : Nat) (x : List Bool) (i : Nat) : Bool :=
  if op = 8 then (if n ≤ i then x.getD (i - n) false else false) else if i + n < 32 then x.getD (i + n) false else if op = 9 then x.getD 31 false else false
theorem fL_same (f : Nat → Bool) (k : Nat) (h : f k = false) : fL f (k + 1) = fL f k := by
  apply List.ext_getElem
  · simp [fL]
  · intro i h1 h2
    simp only [fL, List.getElem_map, List.getElem_range]
    by_cases e : i = k
    · subst e; simp [h]
    · by_cases hik : i < k
      · simp [hik, show i < k + 1 by omega]
      · simp [hik, show ¬ i < k + 1 by omega]
theorem info52' : (Try.prog.info? 52).map (·.size) = some 32 := info52

set_option maxHeartbeats 1000000 in
theorem shift_any (op a b : Int) (w : World) : Calls Try.prog 36 #[.int .i64 op, .int .i32 a, .int .i32 b] w fun e w' =>
    e = .returned (.int .i32 (wrap32 (wsum (fL (shiftF op (b % 32).toNat (bitL (a % 4294967296) 32)) 32) 32))) ∧ Below w.heap.size w w' := by
  obtain ⟨X, hX, hXl⟩ : ∃ X, X = bitL (a % 4294967296) 32 ∧ X.length = 32 := ⟨_, rfl, bitL_length _ _⟩
  obtain ⟨n, hn, hn1⟩ : ∃ n : Nat, b % 32 = (n : Int) ∧ n < 32 := ⟨(b % 32).toNat, by omega, by omega⟩
  rw [← hX, hn, Int.toNat_natCast]
  have HX := Aside0.mk hX
  have HN := Aside0.mk hn
  have HXl := Aside0.mk hXl
  clear hX hXl hn
  go_enter Try.func36, Try.ntmps36
  go_wp2_with fail
  refine (bits_any _ _).mono ?_
  rintro e w1 ⟨rfl, hb1⟩
  have HB2 := Aside0.mk hb1
  clear hb1
  rw [← HX.out]
  go_wp2_with ((with_reducible refine gate_store (t := 52) (p := 8) rfl ?_); refine wpList_store_row rfl 52 (.tmp 8) (.tmp 16) rfl w1.heap.size (bA X) rfl rfl 52 _ (Go.heap_alloc_new _ _) (by rw [info52, bA_size, HXl.out]) (by rw [bA_size, HXl.out]; rfl) (bA_one _) ?_)
  rw [HN.out]
  refine gen_world (P := fun W => W.heap[w1.heap.size]? = some (.cells (bA X) 52 (0, 0)) ∧ W.heap[w1.heap.size + 1]? = some (.cells (bA zL) 52 (0, 0)) ∧ Below w.heap.size w W) ?_ ?_
  · refine ⟨?_, ?_, ?_⟩
    · exact blk_alloc (setRow_heap _ _ _ _ _ _ (Go.heap_alloc_new _ _)) _
    · rw [zL_eq]; exact new_at _ (by simp)
    · exact below_alloc (below_setRow (below_alloc HB2.out _) HB2.out.size _) _
  rintro W ⟨hX, hO, hB⟩
  have hX := Aside0.mk hX
  have hO := Aside0.mk hO
  have hB := Aside0.mk hB
  obtain ⟨B, hBs, hBw⟩ : ∃ B, B = w1.heap.size ∧ w.heap.size ≤ B := ⟨_, rfl, HB2.out.size⟩
  rw [← hBs] at hX hO ⊢
  clear hBs
  go_loopw [10] (fun i wr => ∃ k : Nat, k ≤ 32 ∧ i = .int .i64 k ∧ Aside0 (wr.heap[B]? = some (.cells (bA X) 52 (0, 0))) ∧ Aside0 (wr.heap[B + 1]? = some (.cells (bA (fL (shiftF op n X) k)) 52 (0, 0))) ∧ Aside0 (Below w.heap.size w wr)) (fun i _ => 32 - (intOf i).toNat)
  case atStart => exact ⟨0, by omega, rfl, hX, ⟨by rw [fL_zero]; exact hO.out⟩, hB⟩
  case round =>
    obtain ⟨k, hk, rfl, hX, hO, hB⟩ := hrel
    by_cases hlt : k < 32
    · have co := row_cell hO.out (fL_length _ _) hlt
      have hf := blk_frozen hO.out k
      have hstep : ∀ b : Bool, b = shiftF op n X k → (wr.setCell ⟨B + 1, k, none⟩ (.bool b)).heap[B + 1]? = some (.cells (bA (fL (shiftF op n X) (k + 1))) 52 (0, 0)) := fun b hb => by
        rw [blk_set hO.out k, bA_set, hb, fL_step]
      have hsame : false = shiftF op n X k → wr.heap[B + 1]? = some (.cells (bA (fL (shiftF op n X) (k + 1))) 52 (0, 0)) := fun hb => by
        rw [fL_same _ _ hb.symm]; exact hO.out
      have HS := Aside0.mk hstep
      have HT := Aside0.mk hsame
      clear hstep hsame
      by_cases h8 : op = 8
      · subst h8
        by_cases hnk : n ≤ k
        · have cx := row_cell hX.out HXl.out (show k - n < 32 by omega)
          obtain ⟨j, hj, hj1, hj2⟩ : ∃ j : Nat, (k : Int) - (n : Int) = (j : Int) ∧ k - n = j ∧ j < 32 := ⟨k - n, by omega, rfl, by omega⟩
          rw [hj1] at cx
          have HJ1 := Aside0.mk hj1
          clear hj1
          have ht : decide ((n : Int) ≤ (k : Int)) = true := decide_eq_true (by omega)
          go_wp2
          go_roundw
          case rel => exact ⟨k + 1, by omega, by go_num, ⟨blk_far hX.out (by simp) _⟩, ⟨HS.out _ (by unfold shiftF; rw [if_pos rfl, if_pos hnk, HJ1.out]; first | rfl | simp)⟩, ⟨hB.out.setCell (by simp; omega) _⟩⟩
          case measure => simp [intOf]; omega
        · have ht : decide ((n : Int) ≤ (k : Int)) = false := decide_eq_false (by omega)
          go_wp2
          go_roundw
          case rel => exact ⟨k + 1, by omega, by go_num, hX, ⟨HT.out (by unfold shiftF; rw [if_pos rfl, if_neg hnk])⟩, hB⟩
          case measure => simp [intOf]; omega
      · have e8 : (op == 8) = false := beq_eq_false_iff_ne.mpr h8
        have n8 : (op != 8) = true := bne_iff_ne.mpr h8
        have H8 := Aside0.mk h8
        clear h8
        by_cases hs : k + n < 32
        · have cx := row_cell hX.out HXl.out hs
          go_wp2
          go_roundw
          case rel => exact ⟨k + 1, by omega, by go_num, ⟨blk_far hX.out (by simp) _⟩, ⟨HS.out _ (by unfold shiftF; rw [if_neg H8.out, if_pos hs]; first | rfl | simp)⟩, ⟨hB.out.setCell (by simp; omega) _⟩⟩
          case measure => simp [intOf]; omega
        · have ht : decide ((k : Int) + (n : Int) < 32) = false := decide_eq_false (by omega)
          by_cases h9 : op = 9
          · subst h9
            have cx := row_cell hX.out HXl.out (show 31 < 32 by omega)
            go_wp2
            go_roundw
            case rel => exact ⟨k + 1, by omega, by go_num, ⟨blk_far hX.out (by simp) _⟩, ⟨HS.out _ (by unfold shiftF; rw [if_neg H8.out, if_neg hs, if_pos rfl]; first | rfl | simp)⟩, ⟨hB.out.setCell (by simp; omega) _⟩⟩
            case measure => simp [intOf]; omega
          · have e9 : (op == 9) = false := beq_eq_false_iff_ne.mpr h9
            have H9 := Aside0.mk h9
            clear h9
            go_wp2
            go_roundw
            case rel => exact ⟨k + 1, by omega, by go_num, hX, ⟨HT.out (by unfold shiftF; rw [if_neg H8.out, if_neg hs, if_neg H9.out])⟩, hB⟩
            case measure => simp [intOf]; omega
    · obtain rfl : k = 32 := by omega
      have hd : decide (((32 : Nat) : Int) < 32) = false := rfl
      go_wp2_with (first | ((with_reducible refine gate_dst (N := 59) rfl ?_); refine wpList_load_row rfl 52 _ rfl (B + 1) rfl 52 _ _ _ hO.out Try.underlying52 rfl (by rw [info52, bA_size, fL_length]) ?_) | (go_at_call 61; refine (word_any _ (fL_length _ _) _).mono ?_; rintro e w3 ⟨rfl, hb3⟩; have HB3 := Aside0.mk (below_then hB.out hB.out.size hb3); clear hb3))
      go_ret
      exact ⟨rfl, HB3.out⟩
end Go.Proofs.Ytkahmcdnnknhmaa
