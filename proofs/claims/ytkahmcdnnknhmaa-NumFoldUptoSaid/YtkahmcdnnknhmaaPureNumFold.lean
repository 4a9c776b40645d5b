/- Operators that fold are commutative and associative with their neutral word; the fold of two lists, one after the other, is the operator of both folds, and that of the list in reverse is the same: for any operator, and lists of together at most 1048576 words. The pure statement behind NumFold. -/
import Derived.Test.YtkahmcdnnknhmaaPureNumFolds
namespace Go.Proofs.Ytkahmcdnnknhmaa.Pure
open Go.RowKit Go.Proofs.Ytkahmcdnnknhmaa Go.Proofs.Ytkahmcdnnknhmaa.A Go.Proofs.Ytkahmcdnnknhmaa.Q Go.Proofs.YtkahmcdnnknhmaaW.PrintWords Go.Proofs.YtkahmcdnnknhmaaW.PrintLast Go.Proofs.YtkahmcdnnknhmaaW.PrintMore

abbrev In32 (a : Int) : Prop := -2147483648 ≤ a ∧ a ≤ 2147483647
abbrev FoldOp (op : Int) : Prop := op = 0 ∨ op = 5 ∨ op = 6 ∨ op = 7 ∨ op = 18 ∨ op = 19
/-- What an operator answers. -/
def G (op a b : Int) : Int := ((num_Binary.f op a b).getD (0, false)).1
theorem G_eq (op a b : Int) (h : FoldOp op) (ha : In32 a) (hb : In32 b) : num_Binary.f op a b = some (G op a b, true) ∧ In32 (G op a b) := by
  obtain ⟨r, hr, h1, h2⟩ := bin_word op a b h ha hb
  unfold G; rw [hr]; exact ⟨rfl, h1, h2⟩
theorem G_do (op a b : Int) (h : FoldOp op) (ha : In32 a) (hb : In32 b) : drawloomlaw01_do.f op a b = some (G op a b) := by
  unfold drawloomlaw01_do.f; rw [(G_eq op a b h ha hb).1]; rfl
theorem G0 (a b : Int) : G 0 a b = wrap32 (a + b) := rfl
theorem G5 (a b : Int) : G 5 a b = (bv a &&& bv b).toInt := by unfold G; rw [nb5, bits_and]; rfl
theorem G6 (a b : Int) : G 6 a b = (bv a ||| bv b).toInt := by unfold G; rw [nb6, bits_or]; rfl
theorem G7 (a b : Int) : G 7 a b = (bv a ^^^ bv b).toInt := by unfold G; rw [nb7, bits_xor]; rfl
theorem G18 (a b : Int) : G 18 a b = mn a b := rfl
theorem G19 (a b : Int) : G 19 a b = mx a b := rfl
theorem G_comm (op a b : Int) (h : FoldOp op) : G op a b = G op b a := by
  rcases h with rfl | rfl | rfl | rfl | rfl | rfl
  · rw [G0, G0, Int.add_comm]
  · rw [G5, G5, BitVec.and_comm]
  · rw [G6, G6, BitVec.or_comm]
  · rw [G7, G7, BitVec.xor_comm]
  · rw [G18, G18]; unfold mn; split <;> split <;> omega
  · rw [G19, G19]; unfold mx; split <;> split <;> omega
theorem G_assoc (op a b c : Int) (h : FoldOp op) : G op (G op a b) c = G op a (G op b c) := by
  rcases h with rfl | rfl | rfl | rfl | rfl | rfl
  · rw [G0, G0, G0, G0]; unfold wrap32; omega
  · rw [G5, G5, G5, G5, bv_toInt, bv_toInt, BitVec.and_assoc]
  · rw [G6, G6, G6, G6, bv_toInt, bv_toInt, BitVec.or_assoc]
  · rw [G7, G7, G7, G7, bv_toInt, bv_toInt, BitVec.xor_assoc]
  · rw [G18, G18, G18, G18]; unfold mn; split <;> split <;> (try split) <;> (try split) <;> omega
  · rw [G19, G19, G19, G19]; unfold mx; split <;> split <;> (try split) <;> (try split) <;> omega
theorem neut_true (op : Int) (h : FoldOp op) : (neut op).2 = true := by rcases h with rfl | rfl | rfl | rfl | rfl | rfl <;> rfl
theorem G_neut (op a : Int) (h : FoldOp op) (ha : In32 a) : G op (neut op).1 a = a := by
  rcases h with rfl | rfl | rfl | rfl | rfl | rfl
  · show wrap32 (0 + a) = a; unfold wrap32; omega
  · rw [G5, show bv (neut 5).1 = BitVec.allOnes 32 from by decide, BitVec.allOnes_and, self_bv ha]
  · rw [G6, show bv (neut 6).1 = 0#32 from by decide, BitVec.zero_or, self_bv ha]
  · rw [G7, show bv (neut 7).1 = 0#32 from by decide, BitVec.zero_xor, self_bv ha]
  · show mn 2147483647 a = a; unfold mn; split <;> omega
  · show mx (-2147483648) a = a; unfold mx; split <;> omega
theorem foldl_in (op : Int) (h : FoldOp op) (l : List Int) : ∀ a, In32 a → (∀ x ∈ l, In32 x) → In32 (l.foldl (G op) a) := by
  induction l with
  | nil => intro a ha _; exact ha
  | cons x l ih =>
    intro a ha hw
    exact ih _ (G_eq op a x h ha (hw x (by simp))).2 (fun y hy => hw y (by simp [hy]))
theorem foldl_from (op : Int) (h : FoldOp op) (l : List Int) : ∀ a, In32 a → (∀ x ∈ l, In32 x) → l.foldl (G op) a = G op a (l.foldl (G op) (neut op).1) := by
  induction l with
  | nil => intro a ha _; rw [List.foldl_nil, List.foldl_nil, G_comm _ _ _ h, G_neut _ _ h ha]
  | cons x l ih =>
    intro a ha hw
    have hx : In32 x := hw x (by simp)
    rw [List.foldl_cons, List.foldl_cons, ih _ (G_eq op a x h ha hx).2 (fun y hy => hw y (by simp [hy])), G_neut _ _ h hx, ih x hx (fun y hy => hw y (by simp [hy])), G_assoc _ _ _ _ h]
theorem foldl_append (op : Int) (h : FoldOp op) (l m : List Int) (hl : ∀ x ∈ l, In32 x) (hm : ∀ x ∈ m, In32 x) :
    (l ++ m).foldl (G op) (neut op).1 = G op (l.foldl (G op) (neut op).1) (m.foldl (G op) (neut op).1) := by
  rw [List.foldl_append, foldl_from op h m _ (foldl_in op h l _ (neut_wf op) hl) hm]
theorem foldl_reverse (op : Int) (h : FoldOp op) (l : List Int) (hl : ∀ x ∈ l, In32 x) : l.reverse.foldl (G op) (neut op).1 = l.foldl (G op) (neut op).1 := by
  induction l with
  | nil => rfl
  | cons x l ih =>
    have hx : In32 x := hl x (by simp)
    have hl' : ∀ y ∈ l, In32 y := fun y hy => hl y (by simp [hy])
    rw [List.reverse_cons, List.foldl_append, ih hl', List.foldl_cons, List.foldl_nil, List.foldl_cons, G_neut _ _ h hx, foldl_from op h l x hx hl', G_comm _ _ _ h]

theorem fold_step (op : Int) (hop : FoldOp op) (l : List Int) (hw : ∀ x ∈ l, In32 x) (hl : l.length ≤ 140737488351232) (i k : Nat) (a : Int) (hi : i < l.length) (ha : In32 a) :
    num_Fold.l0 (k + 1) op a l (l.length : Int) (i : Int) = num_Fold.l0 k op (G op a l[i]) l (l.length : Int) ((i + 1 : Nat) : Int) := by
  have e : rd l (i : Int) = l[i] := by
    unfold rd; rw [Int.toNat_natCast, List.getD_eq_getElem?_getD, List.getElem?_eq_getElem hi, Option.getD_some]
  have hx : In32 l[i] := hw _ (List.getElem_mem _)
  have hg := (G_eq op a l[i] hop ha hx).1
  have hn : wrap64 ((i : Int) + 1) = ((i + 1 : Nat) : Int) := by
    rw [wrap_next (i := (i : Int)) (n := l.length) (by omega) (by omega) hl]; omega
  rw [num_Fold.l0, if_pos (by omega), if_pos (by omega), if_pos (by omega), e, hg, Option.bind_some, hn]
theorem fold_from (op : Int) (hop : FoldOp op) (l : List Int) (hw : ∀ x ∈ l, In32 x) (hl : l.length ≤ 140737488351232) (d : Nat) :
    ∀ (i : Nat) (a : Int), i + d = l.length → In32 a → ∀ k, num_Fold.l0 (k + d + 1) op a l (l.length : Int) (i : Int) = some ((l.drop i).foldl (G op) a, true) := by
  induction d with
  | zero =>
    intro i a h1 ha k
    rw [num_Fold.l0, if_neg (by omega), List.drop_of_length_le (by omega), List.foldl_nil]
  | succ d ih =>
    intro i a h1 ha k
    have hi : i < l.length := by omega
    have hx : In32 l[i] := hw _ (List.getElem_mem _)
    rw [fold_step op hop l hw hl i _ a hi ha, List.drop_eq_getElem_cons hi, List.foldl_cons]
    exact ih (i + 1) _ (by omega) (G_eq op a l[i] hop ha hx).2 k
theorem fold_is (op : Int) (hop : FoldOp op) (l : List Int) (hw : ∀ x ∈ l, In32 x) (hl : l.length ≤ 140737488351232) (k : Nat) (hk : l.length + 1 ≤ k) :
    num_Fold.f k op l = some (l.foldl (G op) (neut op).1, true) := by
  obtain ⟨j, rfl⟩ : ∃ j, k = j + l.length + 1 := ⟨k - l.length - 1, by omega⟩
  unfold num_Fold.f
  rw [neutral_f]; simp only [Option.bind_some]
  rw [if_pos (neut_true op hop)]
  exact fold_from op hop l hw hl l.length 0 _ (by omega) (neut_wf op) j

theorem back_loop (op : Int) (hop : FoldOp op) (l1 l2 all : List Int) (h1 : ∀ x ∈ l1, In32 x) (h2 : ∀ x ∈ l2, In32 x) (hall : all = l1 ++ l2) (hb : all.length ≤ 2097152) (i : Nat) :
    ∀ (back : List Int) (k : Nat), i ≤ all.length → back = (all.drop i).reverse → all.length + i + 4 ≤ k → drawloomlaw01_NumFold.l0 k op l1 l2 all back ((i : Int) - 1) = some true := by
  have hw : ∀ x ∈ all, In32 x := fun x hx => by
    rw [hall] at hx
    rcases List.mem_append.1 hx with h | h
    · exact h1 x h
    · exact h2 x h
  have hlen : all.length = l1.length + l2.length := by rw [hall, List.length_append]
  induction i with
  | zero =>
    intro back k _ hbk hk
    obtain ⟨k, rfl⟩ : ∃ m, k = m + 3 := ⟨k - 3, by omega⟩
    rw [drawloomlaw01_NumFold.l0, if_neg (by omega)]
    rw [List.drop_zero] at hbk
    have hbw : ∀ x ∈ back, In32 x := fun x hx => hw x (by rw [hbk] at hx; simpa using hx)
    have hbl : back.length = all.length := by rw [hbk, List.length_reverse]
    rw [fold_is op hop l1 h1 (by omega) _ (by omega), fold_is op hop l2 h2 (by omega) _ (by omega), fold_is op hop all hw (by omega) _ (by omega), fold_is op hop back hbw (by omega) _ (by omega)]
    simp only [Option.bind_some]
    rw [G_do op _ _ hop (foldl_in op hop l1 _ (neut_wf op) h1) (foldl_in op hop l2 _ (neut_wf op) h2)]
    simp only [Option.bind_some]
    rw [if_pos (by rw [hall, foldl_append op hop l1 l2 h1 h2]), if_pos (by rw [hbk, foldl_reverse op hop all hw])]
    have hc : num_Commutes.f op = some true := by rcases hop with rfl | rfl | rfl | rfl | rfl | rfl <;> rfl
    rw [hc]; simp only [Option.bind_some, if_true]
    rw [awake_true]; rfl
  | succ i ih =>
    intro back k hi hbk hk
    obtain ⟨k, rfl⟩ : ∃ m, k = m + 1 := ⟨k - 1, by omega⟩
    have hlt : i < all.length := by omega
    have hbl : back.length ≤ all.length := by rw [hbk, List.length_reverse, List.length_drop]; omega
    have e : rd all (((i + 1 : Nat) : Int) - 1) = all[i] := by
      unfold rd; rw [show (((i + 1 : Nat) : Int) - 1).toNat = i from by omega, List.getD_eq_getElem?_getD, List.getElem?_eq_getElem hlt]; rfl
    rw [drawloomlaw01_NumFold.l0, if_pos (by omega), if_pos (by omega), if_pos (by omega), if_pos (by omega), e]
    rw [show wrap64 ((((i + 1 : Nat) : Int) - 1) - 1) = (i : Int) - 1 from by unfold wrap64; omega]
    exact ih _ k (by omega) (by rw [hbk, List.drop_eq_getElem_cons hlt, List.reverse_cons]) (by omega)

/-- The pure statement, for lists of together at most 1048576 words. -/
def NumFoldUpto : Prop := ∀ (a0 : Int) (l1 : List Int) (l2 : List Int) (a3 : Int) (a4 : Int) (a5 : Int), (Lit.int .i64 a0).wf = true → l1.length + l2.length ≤ 1048576 → (∀ x ∈ l1, (Lit.int .i32 x).wf = true) → (∀ x ∈ l2, (Lit.int .i32 x).wf = true) → (Lit.int .i32 a3).wf = true → (Lit.int .i32 a4).wf = true → (Lit.int .i32 a5).wf = true → ∃ k, drawloomlaw01_NumFold.f k a0 l1 l2 a3 a4 a5 = some true

theorem NumFold : NumFoldUpto := by
  intro op l1 l2 x y z hop hlen hw1 hw2 hx hy hz
  have hw1 : ∀ x ∈ l1, In32 x := fun x h => wf32 (hw1 x h)
  have hw2 : ∀ x ∈ l2, In32 x := fun x h => wf32 (hw2 x h)
  have hx : In32 x := wf32 hx
  have hy : In32 y := wf32 hy
  have hz : In32 z := wf32 hz
  refine ⟨5000000, ?_⟩
  unfold drawloomlaw01_NumFold.f drawloomref01_Folds.f num_Folds.f
  rw [show (5000000 : Nat) = 4999999 + 1 from rfl, neutral_r, neutral_f]
  simp only [Option.bind_some]
  by_cases hb : (neut op).2 = true
  · have h := neut_op op hb
    rw [if_pos hb, if_pos hb]
    have e1 : G op (neut op).1 x = x := G_neut op x h hx
    have e2 : G op x (neut op).1 = x := by rw [G_comm _ _ _ h, e1]
    have hxy := (G_eq op x y h hx hy).2
    have hyz := (G_eq op y z h hy hz).2
    simp only [G_do op _ _ h (neut_wf op) hx, G_do op _ _ h hx (neut_wf op), G_do op _ _ h hx hy, G_do op _ _ h hy hx, G_do op _ _ h hxy hz, G_do op _ _ h hy hz, G_do op _ _ h hx hyz, Option.bind_some]
    rw [if_pos e1, if_pos e2, if_pos (G_comm op x y h), show (G op (G op x y) z != G op x (G op y z)) = false from by rw [G_assoc _ _ _ _ h]; simp]
    rw [drawloomlaw01_NumFold.j0, if_neg (by decide)]
    simp only [Option.bind_some, List.nil_append, List.length_nil]
    rw [if_pos (by omega), if_pos (by omega)]
    have hl : (l1 ++ l2).length = l1.length + l2.length := List.length_append
    rw [show wrap64 (((l1 ++ l2).length : Int) - 1) = ((l1 ++ l2).length : Int) - 1 from by unfold wrap64; omega]
    exact back_loop op h l1 l2 (l1 ++ l2) hw1 hw2 rfl (by omega) (l1 ++ l2).length [] 4999999 (Nat.le_refl _) (by simp) (by omega)
  · rw [if_neg hb]
    unfold num_Fold.f
    rw [neutral_f]; simp only [Option.bind_some]
    rw [if_neg hb]
    simp only [Option.bind_some]
    rw [if_neg (by decide), if_neg hb, show 4999999 + 1 = 4999998 + 2 from rfl, awake_true]; rfl
end Go.Proofs.Ytkahmcdnnknhmaa.Pure
