/- What the reference's both and shift come to. -/
import Derived.Test.YtkahmcdnnknhmaaHd
namespace Go.Proofs.Ytkahmcdnnknhmaa
open Go.RowKit Go.Proofs.YtkahmcdnnknhmaaW.PrintWords Go.Proofs.YtkahmcdnnknhmaaW.PrintLast Go.Proofs.YtkahmcdnnknhmaaW.PrintMore Go.Proofs.Ytkahmcdnnknhmaa.A

/-- The first k of the values of f. -/
def fL (f : Nat → Bool) (k : Nat) : List Bool := (List.range 32).map fun i => decide (i < k) && f i
theorem fL_length (f : Nat → Bool) (k : Nat) : (fL f k).length = 32 := by simp [fL]
theorem fL_zero (f : Nat → Bool) : fL f 0 = zL := by
  apply List.ext_getElem
  · simp [fL, zL]
  · intro i h1 h2
    rw [show zL[i] = false from List.getElem_replicate ..]; simp [fL]
theorem fL_step (f : Nat → Bool) (k : Nat) : (fL f k).set k (f k) = fL f (k + 1) := by
  apply List.ext_getElem
  · simp [fL]
  · intro i h1 h2
    rw [List.getElem_set]
    by_cases e : k = i
    · subst e; simp [fL]
    · rw [if_neg e]; simp only [fL, List.getElem_map, List.getElem_range]
      by_cases hik : i < k
      · simp [hik, show i < k + 1 by omega]
      · simp [hik, show ¬ i < k + 1 by omega]

def combB (op : Int) (p q : Bool) : Bool := if op = 5 then p && q else if op = 6 then p || q else p != q
def combF (op : Int) (x y : List Bool) (i : Nat) : Bool := combB op (x.getD i false) (y.getD i false)

theorem row_cell {w : World} {g k : Nat} {l : List Bool} (h : w.heap[g]? = some (.cells (bA l) 52 (0, 0))) (hl : l.length = 32) (hk : k < 32) : w.cell? ⟨g, k, none⟩ = some (.bool (l.getD k false)) := by
  rw [blk_cell h k, bA_get, List.getElem?_eq_getElem (by omega)]
  simp [List.getD_eq_getElem?_getD, List.getElem?_eq_getElem (show k < l.length by omega)]

theorem new_at {w : World} {g : Nat} (o : Obj) (hg : g = w.heap.size) : (w.alloc o).heap[g]? = some o := by
  subst hg; exact Go.heap_alloc_new _ _
theorem gen_world {P : World → Prop} {G : World → Prop} {W : World} (h : P W) (k : ∀ W, P W → G W) : G W := k W h

set_option maxHeartbeats 1000000 in
theorem both_any (op a b : Int) (w : World) : Calls Try.prog 35 #[.int .i64 op, .int .i32 a, .int .i32 b] w fun e w' =>
    e = .returned (.int .i32 (wrap32 (wsum (fL (combF op (bitL (a % 4294967296) 32) (bitL (b % 4294967296) 32)) 32) 32))) ∧ Below w.heap.size w w' := by
  obtain ⟨X, hX, hXl⟩ : ∃ X, X = bitL (a % 4294967296) 32 ∧ X.length = 32 := ⟨_, rfl, bitL_length _ _⟩
  obtain ⟨Y, hY, hYl⟩ : ∃ Y, Y = bitL (b % 4294967296) 32 ∧ Y.length = 32 := ⟨_, rfl, bitL_length _ _⟩
  rw [← hX, ← hY]
  have HX := Aside0.mk hX
  have HY := Aside0.mk hY
  have HXl := Aside0.mk hXl
  have HYl := Aside0.mk hYl
  clear hX hY hXl hYl
  go_enter Try.func35, Try.ntmps35
  go_wp2_with fail
  refine (bits_any _ _).mono ?_
  rintro e w1 ⟨rfl, hb1⟩
  have HB1 := Aside0.mk hb1
  clear hb1
  go_wp2_with fail
  refine (bits_any _ _).mono ?_
  rintro e w2 ⟨rfl, hb2⟩
  have HB2 := Aside0.mk (below_then HB1.out HB1.out.size hb2)
  clear hb2 HB1
  rw [← HX.out, ← HY.out]
  go_wp2_with (first | ((with_reducible refine gate_store (t := 52) (p := 7) rfl ?_); refine wpList_store_row rfl 52 (.tmp 7) (.tmp 12) rfl w2.heap.size (bA X) rfl rfl 52 _ (heap_alloc2_old _ _ _) (by rw [info52, bA_size, HXl.out]) (by rw [bA_size, HXl.out]; rfl) (bA_one _) ?_) | ((with_reducible refine gate_store (t := 52) (p := 8) rfl ?_); refine wpList_store_row rfl 52 (.tmp 8) (.tmp 14) rfl (w2.heap.size + 1) (bA Y) rfl rfl 52 _ ((setRow_other _ _ _ _ (by omega)).trans (heap_alloc2_new _ _ _)) (by rw [info52, bA_size, HYl.out]) (by rw [bA_size, HYl.out]; rfl) (bA_one _) ?_))
  refine gen_world (P := fun W => W.heap[w2.heap.size]? = some (.cells (bA X) 52 (0, 0)) ∧ W.heap[w2.heap.size + 1]? = some (.cells (bA Y) 52 (0, 0)) ∧ W.heap[w2.heap.size + 1 + 1]? = some (.cells (bA zL) 52 (0, 0)) ∧ Below w.heap.size w W) ?_ ?_
  · refine ⟨?_, ?_, ?_, ?_⟩
    · exact blk_alloc ((setRow_other _ _ _ _ (by omega)).trans (setRow_heap _ _ _ _ _ _ (heap_alloc2_old _ _ _))) _
    · exact blk_alloc (setRow_heap _ _ _ _ _ _ ((setRow_other _ _ _ _ (by omega)).trans (heap_alloc2_new _ _ _))) _
    · rw [zL_eq]; exact new_at _ (by simp)
    · exact below_alloc (below_setRow (below_setRow (below_alloc (below_alloc HB2.out _) _) HB2.out.size _) (by have := HB2.out.size; omega) _) _
  rintro W ⟨hX, hY, hO, hB⟩
  have hX := Aside0.mk hX
  have hY := Aside0.mk hY
  have hO := Aside0.mk hO
  have hB := Aside0.mk hB
  obtain ⟨B, hBs, hBw⟩ : ∃ B, B = w2.heap.size ∧ w.heap.size ≤ B := ⟨_, rfl, HB2.out.size⟩
  rw [← hBs] at hX hY hO ⊢
  clear hBs
  go_loopw [10] (fun i wr => ∃ k : Nat, k ≤ 32 ∧ i = .int .i64 k ∧ Aside0 (wr.heap[B]? = some (.cells (bA X) 52 (0, 0))) ∧ Aside0 (wr.heap[B + 1]? = some (.cells (bA Y) 52 (0, 0))) ∧ Aside0 (wr.heap[B + 1 + 1]? = some (.cells (bA (fL (combF op X Y) k)) 52 (0, 0))) ∧ Aside0 (Below w.heap.size w wr)) (fun i _ => 32 - (intOf i).toNat)
  case atStart => exact ⟨0, by omega, rfl, hX, hY, ⟨by rw [fL_zero]; exact hO.out⟩, hB⟩
  case round =>
    obtain ⟨k, hk, rfl, hX, hY, hO, hB⟩ := hrel
    by_cases hlt : k < 32
    · have cx := row_cell hX.out HXl.out hlt
      have cy := row_cell hY.out HYl.out hlt
      have co := row_cell hO.out (fL_length _ _) hlt
      have hf := blk_frozen hO.out k
      have hstep : ∀ b : Bool, b = combF op X Y k → (wr.setCell ⟨B + 1 + 1, k, none⟩ (.bool b)).heap[B + 1 + 1]? = some (.cells (bA (fL (combF op X Y) (k + 1))) 52 (0, 0)) := fun b hb => by
        rw [blk_set hO.out k, bA_set, hb, fL_step]
      have HS := Aside0.mk hstep
      clear hstep
      by_cases h5 : op = 5
      · subst h5
        cases hx : X.getD k false with
        | true =>
          have HXK := Aside0.mk hx
          rw [hx] at cx
          clear hx
          go_wp2
          go_roundw
          case rel => exact ⟨k + 1, by omega, by go_num, ⟨blk_far hX.out (by simp; omega) _⟩, ⟨blk_far hY.out (by simp) _⟩, ⟨HS.out _ (by unfold combF combB; rw [HXK.out]; simp)⟩, ⟨hB.out.setCell (by simp; omega) _⟩⟩
          case measure => simp [intOf]; omega
        | false =>
          have HXK := Aside0.mk hx
          rw [hx] at cx
          clear hx
          go_wp2
          go_roundw
          case rel => exact ⟨k + 1, by omega, by go_num, ⟨blk_far hX.out (by simp; omega) _⟩, ⟨blk_far hY.out (by simp) _⟩, ⟨HS.out _ (by unfold combF combB; rw [HXK.out]; simp)⟩, ⟨hB.out.setCell (by simp; omega) _⟩⟩
          case measure => simp [intOf]; omega
      · have e5 : (op == 5) = false := beq_eq_false_iff_ne.mpr h5
        by_cases h6 : op = 6
        · subst h6
          clear h5
          cases hx : X.getD k false with
          | true =>
            have HXK := Aside0.mk hx
            rw [hx] at cx
            clear hx
            go_wp2
            go_roundw
            case rel => exact ⟨k + 1, by omega, by go_num, ⟨blk_far hX.out (by simp; omega) _⟩, ⟨blk_far hY.out (by simp) _⟩, ⟨HS.out _ (by unfold combF combB; rw [HXK.out]; simp)⟩, ⟨hB.out.setCell (by simp; omega) _⟩⟩
            case measure => simp [intOf]; omega
          | false =>
            have HXK := Aside0.mk hx
            rw [hx] at cx
            clear hx
            go_wp2
            go_roundw
            case rel => exact ⟨k + 1, by omega, by go_num, ⟨blk_far hX.out (by simp; omega) _⟩, ⟨blk_far hY.out (by simp) _⟩, ⟨HS.out _ (by unfold combF combB; rw [HXK.out]; simp)⟩, ⟨hB.out.setCell (by simp; omega) _⟩⟩
            case measure => simp [intOf]; omega
        · have e6 : (op == 6) = false := beq_eq_false_iff_ne.mpr h6
          have H5 := Aside0.mk h5
          have H6 := Aside0.mk h6
          clear h5 h6
          obtain ⟨bx, hbx⟩ : ∃ bx, bx = X.getD k false := ⟨_, rfl⟩
          obtain ⟨by_, hby⟩ : ∃ by_, by_ = Y.getD k false := ⟨_, rfl⟩
          rw [← hbx] at cx
          rw [← hby] at cy
          have HBX := Aside0.mk hbx
          have HBY := Aside0.mk hby
          clear hbx hby
          go_wp2
          go_region
          all_goals go_wp2
          all_goals
            go_roundw
            case rel => exact ⟨k + 1, by omega, by go_num, ⟨blk_far hX.out (by simp; omega) _⟩, ⟨blk_far hY.out (by simp) _⟩, ⟨HS.out _ (by unfold combF combB; rw [HBX.out, HBY.out, if_neg H5.out, if_neg H6.out]; rfl)⟩, ⟨(hB.out.setCell (by simp; omega) _).drew⟩⟩
            case measure => simp [intOf]; omega
    · obtain rfl : k = 32 := by omega
      have hd : decide (((32 : Nat) : Int) < 32) = false := rfl
      go_wp2_with (first | ((with_reducible refine gate_dst (N := 53) rfl ?_); refine wpList_load_row rfl 52 _ rfl (B + 1 + 1) rfl 52 _ _ _ hO.out Try.underlying52 rfl (by rw [info52, bA_size, fL_length]) ?_) | (go_at_call 61; refine (word_any _ (fL_length _ _) _).mono ?_; rintro e w3 ⟨rfl, hb3⟩; have HB3 := Aside0.mk (below_then hB.out hB.out.size hb3); clear hb3))
      go_ret
      exact ⟨rfl, HB3.out⟩
end Go.Proofs.Ytkahmcdnnknhmaa
