/- num.Binary and the reference's Binary answer alike, for any number as an operator and all words. -/
import Derived.Test.YtkahmcdnnknhmaaMb
import Derived.Test.YtkahmcdnnknhmaaQx3
namespace Go.Proofs.Ytkahmcdnnknhmaa.Pure
open Go.RowKit Go.Proofs.Ytkahmcdnnknhmaa Go.Proofs.Ytkahmcdnnknhmaa.A Go.Proofs.Ytkahmcdnnknhmaa.Q Go.Proofs.YtkahmcdnnknhmaaW.PrintWords Go.Proofs.YtkahmcdnnknhmaaW.PrintLast Go.Proofs.YtkahmcdnnknhmaaW.PrintMore

theorem fL_getD (f : Nat → Bool) (i : Nat) (hi : i < 32) : (fL f 32).getD i false = f i := by
  rw [List.getD_eq_getElem?_getD, List.getElem?_eq_getElem (by rw [fL_length]; exact hi)]
  simp [fL, hi]
theorem bit_at (v : BitVec 32) (k : Nat) : v.getLsbD k = decide (v.toNat / 2 ^ k % 2 = 1) := by
  rw [BitVec.getLsbD, Nat.testBit_eq_decide_div_mod_eq]
theorem wsum_bv (v : BitVec 32) (k : Nat) (hk : k ≤ 32) : wsum (fL v.getLsbD 32) k = ((v.toNat % 2 ^ k : Nat) : Int) := by
  induction k with
  | zero => simp [wsum, Nat.mod_one]
  | succ k ih =>
    rw [wsum, ih (by omega), fL_getD _ _ (by omega), bit_at, Nat.mod_pow_succ]
    have h2 : ((2 ^ k : Nat) : Int) = (2 : Int) ^ k := Int.natCast_pow _ _
    rw [Int.natCast_add, Int.natCast_mul, h2]
    rcases Nat.mod_two_eq_zero_or_one (v.toNat / 2 ^ k) with h | h
    · rw [h]; simp
    · rw [h]; simp
theorem wsum_all (v : BitVec 32) : wrap32 (wsum (fL v.getLsbD 32) 32) = v.toInt := by
  rw [wsum_bv v 32 (Nat.le_refl _), Nat.mod_eq_of_lt v.isLt, wrap_bv]
  show (BitVec.ofInt 32 (v.toNat : Int)).toInt = _
  rw [BitVec.ofInt_natCast, BitVec.ofNat_toNat, BitVec.setWidth_eq]
theorem fL_congr (f g : Nat → Bool) (h : ∀ i, i < 32 → f i = g i) : fL f 32 = fL g 32 := by
  apply List.map_congr_left
  intro i hi
  rw [List.mem_range] at hi
  rw [h i hi]
theorem bitL_get (a : Int) (i : Nat) (hi : i < 32) : (bitL (a % 4294967296) 32).getD i false = (bv a).getLsbD i := by
  rw [List.getD_eq_getElem?_getD, List.getElem?_eq_getElem (by rw [bitL_length]; exact hi), bit_at]
  simp only [bitL, List.getElem_map, List.getElem_range, Option.getD_some, hi, decide_true, Bool.true_and]
  rw [← bv_nat a, Bool.eq_iff_iff, beq_iff_eq, decide_eq_true_eq]
  have : (((bv a).toNat / 2 ^ i % 2 : Nat) : Int) = ((bv a).toNat : Int) / 2 ^ i % 2 := by
    rw [Int.natCast_emod, Int.natCast_ediv, Int.natCast_pow]; rfl
  omega
theorem both_bv (op a b : Int) (v : BitVec 32) (h : ∀ i, i < 32 → combB op ((bv a).getLsbD i) ((bv b).getLsbD i) = v.getLsbD i) : drawloomref01_both.f op a b = some v.toInt := by
  unfold drawloomref01_both.f
  rw [fL_congr _ v.getLsbD (fun i hi => by unfold combF; rw [bitL_get _ _ hi, bitL_get _ _ hi, h i hi]), wsum_all]
theorem shift_bv (op a b : Int) (v : BitVec 32) (h : ∀ i, i < 32 → shiftF op (b % 32).toNat (bitL (a % 4294967296) 32) i = v.getLsbD i) : drawloomref01_shift.f op a b = some v.toInt := by
  unfold drawloomref01_shift.f
  rw [fL_congr _ v.getLsbD h, wsum_all]
theorem truth_ref (b : Bool) : drawloomref01_truth.f b = some (tr b) := by cases b <;> rfl
theorem divide_ref (a b : Int) (ha : -2147483648 ≤ a ∧ a ≤ 2147483647) (hb : -2147483648 ≤ b ∧ b ≤ 2147483647) :
    drawloomref01_divide.f a b = some (if b = 0 then 0 else if b = -1 then wrap32 (-a) else wrap32 (Int.tdiv a b), if b = 0 then 0 else if b = -1 then 0 else Int.tmod a b) := by
  unfold drawloomref01_divide.f drawloomref01_Wrap.f
  have ea : wrap64 a = a := by unfold wrap64; omega
  have eb : wrap64 b = b := by unfold wrap64; omega
  by_cases h0 : b = 0
  · simp [h0]
  rw [if_neg h0, if_neg h0, if_neg h0, ea, eb, if_neg h0]
  simp only [Option.bind_some, Option.some.injEq, Prod.mk.injEq]
  by_cases h1 : b = -1
  · subst h1
    rw [if_pos rfl, if_pos rfl, show Int.tdiv a (-1) = -a from by rw [Int.tdiv_neg, Int.tdiv_one]]
    refine ⟨?_, ?_⟩ <;> (unfold wrap32 wrap64; omega)
  rw [if_neg h1, if_neg h1]
  have e := Int.mul_tdiv_add_tmod a b
  have hq : (Int.tdiv a b).natAbs ≤ a.natAbs := by rw [Int.natAbs_tdiv]; exact Nat.div_le_self _ _
  have hr : (Int.tmod a b).natAbs ≤ a.natAbs := by rw [Int.natAbs_tmod]; exact Nat.mod_le _ _
  have e1 : wrap64 (Int.tdiv a b) = Int.tdiv a b := by unfold wrap64; omega
  rw [e1, show Int.tdiv a b * b = a - Int.tmod a b from by rw [Int.mul_comm]; omega]
  refine ⟨rfl, ?_⟩
  obtain ⟨r, hr0⟩ : ∃ r, r = Int.tmod a b := ⟨_, rfl⟩
  rw [← hr0] at hr ⊢
  have hr1 : -2147483648 ≤ r ∧ r ≤ 2147483648 := by omega
  have hr2 : r ≠ 2147483648 := by
    intro h
    have h3 : r.natAbs < b.natAbs := by rw [hr0, Int.natAbs_tmod]; exact Nat.mod_lt _ (by omega)
    omega
  rw [show wrap64 (a - r) = a - r from by unfold wrap64; omega, show a - (a - r) = r from by omega]
  unfold wrap32 wrap64; omega

theorem same_low (op a b : Int) (k : Nat) (h : op < 0 ∨ op ≥ 20) : ∀ x, (drawloomref01_divide.f a b = some x) → drawloomref01_Binary.f (k + 2) op a b = some (0, false) := by
  intro x hx
  unfold drawloomref01_Binary.f
  rw [hx]; simp only [Option.bind_some, drawloomref01_Binary.j0, drawloomref01_Binary.j1]
  have e5 : (op == 7) = false := beq_eq_false_iff_ne.mpr (by omega)
  have e8 : (op == 10) = false := beq_eq_false_iff_ne.mpr (by omega)
  rw [if_neg (by omega), if_neg (by omega), if_neg (by omega), if_neg (by omega), if_neg (by omega), if_neg (by omega), if_neg (by omega), e5, if_neg (by decide), if_neg (by omega), if_neg (by omega), e8, if_neg (by decide),
    if_neg (by omega), if_neg (by omega), if_neg (by omega), if_neg (by omega), if_neg (by omega), if_neg (by omega), if_neg (by omega), if_neg (by omega), if_neg (by omega)]

theorem sshift_bit (v : BitVec 32) (n i : Nat) (hi : i < 32) : (v.sshiftRight n).getLsbD i = if i + n < 32 then v.getLsbD (i + n) else v.getLsbD 31 := by
  rw [BitVec.getLsbD_sshiftRight]
  simp only [show ¬ 32 ≤ i by omega, decide_false, Bool.not_false, Bool.true_and]
  rw [Nat.add_comm n i, BitVec.msb_eq_getLsbD_last]
theorem shr_i32 (a n : Int) (ha : -2147483648 ≤ a ∧ a ≤ 2147483647) (h0 : 0 ≤ n) (h1 : n < 32) : shr .i32 a n = ((bv a).sshiftRight n.toNat).toInt := by
  unfold shr
  rw [show min n.toNat IntKind.i32.bits = n.toNat from by simp only [IntKind.bits]; omega, BitVec.toInt_sshiftRight, self_bv ha, Int.shiftRight_eq_div_pow, Int.natCast_pow]
  rfl

theorem binary_same (op a b : Int) (k : Nat) (ha : -2147483648 ≤ a ∧ a ≤ 2147483647) (hb : -2147483648 ≤ b ∧ b ≤ 2147483647) :
    drawloomref01_Binary.f (k + 2) op a b = num_Binary.f op a b ∧ ∃ r, num_Binary.f op a b = some r := by
  have hd := divide_ref a b ha hb
  by_cases hl : op < 0 ∨ op ≥ 20
  · have e : num_Binary.f op a b = some (0, false) := by
      unfold num_Binary.f
      rcases hl with h | h
      · rw [if_pos h]
      · rw [if_neg (by omega), if_pos h]
    rw [e]; exact ⟨same_low op a b k hl _ hd, _, rfl⟩
  have hn0 : 0 ≤ b % 32 := by omega
  have hn1 : b % 32 < 32 := by omega
  have ea : wrap64 a = a := by unfold wrap64; omega
  have eb : wrap64 b = b := by unfold wrap64; omega
  have hc : op = 0 ∨ op = 1 ∨ op = 2 ∨ op = 3 ∨ op = 4 ∨ op = 5 ∨ op = 6 ∨ op = 7 ∨ op = 8 ∨ op = 9 ∨ op = 10 ∨ op = 11 ∨ op = 12 ∨ op = 13 ∨ op = 14 ∨ op = 15 ∨ op = 16 ∨ op = 17 ∨ op = 18 ∨ op = 19 := by omega
  unfold drawloomref01_Binary.f
  rw [hd]; simp only [Option.bind_some, ea, eb]
  rcases hc with rfl | rfl | rfl | rfl | rfl | rfl | rfl | rfl | rfl | rfl | rfl | rfl | rfl | rfl | rfl | rfl | rfl | rfl | rfl | rfl
  · rw [nb0]; refine ⟨?_, _, rfl⟩
    show (drawloomref01_Wrap.f (wrap64 (a + b))).bind (fun t => some (t, true)) = _
    unfold drawloomref01_Wrap.f; rw [show wrap64 (a + b) = a + b from by unfold wrap64; omega]; rfl
  · rw [nb1]; refine ⟨?_, _, rfl⟩
    show (drawloomref01_Wrap.f (wrap64 (a - b))).bind (fun t => some (t, true)) = _
    unfold drawloomref01_Wrap.f; rw [show wrap64 (a - b) = a - b from by unfold wrap64; omega]; rfl
  · rw [nb2]; refine ⟨?_, _, rfl⟩
    show (drawloomref01_Wrap.f (wrap64 (a * b))).bind (fun t => some (t, true)) = _
    unfold drawloomref01_Wrap.f
    rw [show wrap32 (wrap64 (a * b)) = wrap32 (a * b) from by unfold wrap32 wrap64; omega]; rfl
  · rw [nb3]; exact ⟨rfl, _, rfl⟩
  · rw [nb4]; exact ⟨rfl, _, rfl⟩
  · rw [nb5]; refine ⟨?_, _, rfl⟩
    show (drawloomref01_both.f 5 a b).bind (fun t => some (t, true)) = _
    rw [both_bv 5 a b (bv a &&& bv b) (fun i _ => by rw [BitVec.getLsbD_and]; rfl), bits_and]; rfl
  · rw [nb6]; refine ⟨?_, _, rfl⟩
    show (drawloomref01_both.f 6 a b).bind (fun t => some (t, true)) = _
    rw [both_bv 6 a b (bv a ||| bv b) (fun i _ => by rw [BitVec.getLsbD_or]; rfl), bits_or]; rfl
  · rw [nb7]; refine ⟨?_, _, rfl⟩
    show (drawloomref01_both.f 7 a b).bind (fun t => some (t, true)) = _
    rw [both_bv 7 a b (bv a ^^^ bv b) (fun i _ => by rw [BitVec.getLsbD_xor]; cases (bv a).getLsbD i <;> cases (bv b).getLsbD i <;> rfl), bits_xor]; rfl
  · rw [nb8]; refine ⟨?_, _, rfl⟩
    show (drawloomref01_shift.f 8 a b).bind (fun t => some (t, true)) = _
    rw [shl_bv _ _ hn0 hn1, shift_bv 8 a b (bv a <<< (b % 32).toNat) (fun i hi => by
      unfold shiftF; rw [if_pos rfl, BitVec.getLsbD_shiftLeft]
      by_cases h : (b % 32).toNat ≤ i
      · rw [if_pos h, bitL_get _ _ (by omega)]; simp [hi, show ¬ i < (b % 32).toNat by omega]
      · rw [if_neg h]; simp [show i < (b % 32).toNat by omega])]; rfl
  · rw [nb9]; refine ⟨?_, _, rfl⟩
    show (drawloomref01_shift.f 9 a b).bind (fun t => some (t, true)) = _
    rw [shr_i32 _ _ ha hn0 hn1, shift_bv 9 a b ((bv a).sshiftRight (b % 32).toNat) (fun i hi => by
      unfold shiftF; rw [if_neg (by decide), sshift_bit _ _ _ hi]
      by_cases h : i + (b % 32).toNat < 32
      · rw [if_pos h, if_pos h, bitL_get _ _ h]
      · rw [if_neg h, if_neg h, if_pos rfl, bitL_get _ _ (by omega)])]; rfl
  · rw [nb10]; refine ⟨?_, _, rfl⟩
    show (drawloomref01_shift.f 10 a b).bind (fun t => some (t, true)) = _
    rw [shr_bv _ _ hn0 hn1, shift_bv 10 a b (bv a >>> (b % 32).toNat) (fun i hi => by
      unfold shiftF; rw [if_neg (by decide), BitVec.getLsbD_ushiftRight, Nat.add_comm]
      by_cases h : (b % 32).toNat + i < 32
      · rw [if_pos h, bitL_get _ _ h]
      · rw [if_neg h, if_neg (by decide), BitVec.getLsbD_of_ge _ _ (by omega)])]; rfl
  · rw [nb11]; refine ⟨?_, _, rfl⟩
    show (drawloomref01_truth.f (decide (a < b))).bind (fun t => some (t, true)) = _
    rw [truth_ref]; rfl
  · rw [nb12]; refine ⟨?_, _, rfl⟩
    show (drawloomref01_truth.f (decide (a ≤ b))).bind (fun t => some (t, true)) = _
    rw [truth_ref]; rfl
  · rw [nb13]; refine ⟨?_, _, rfl⟩
    show (drawloomref01_truth.f (a == b)).bind (fun t => some (t, true)) = _
    rw [truth_ref]; rfl
  · rw [nb14]; refine ⟨?_, _, rfl⟩
    show (drawloomref01_truth.f (a != b)).bind (fun t => some (t, true)) = _
    rw [truth_ref]; rfl
  · rw [nb15]; refine ⟨?_, _, rfl⟩
    show (drawloomref01_truth.f (decide (a % 4294967296 < b % 4294967296))).bind (fun t => some (t, true)) = _
    rw [truth_ref]; rfl
  · rw [nb16]; refine ⟨?_, _, rfl⟩
    show (if a = 0 then (drawloomref01_truth.f false).bind _ else (drawloomref01_truth.f (b != 0)).bind _) = _
    by_cases h : a = 0
    · rw [if_pos h, truth_ref]; subst h; rfl
    · rw [if_neg h, truth_ref, show (a != 0) = true from bne_iff_ne.mpr h]; rfl
  · rw [nb17]; refine ⟨?_, _, rfl⟩
    show (if a = 0 then (drawloomref01_truth.f (b != 0)).bind _ else (drawloomref01_truth.f true).bind _) = _
    by_cases h : a = 0
    · rw [if_pos h, truth_ref]; subst h; rfl
    · rw [if_neg h, truth_ref, show (a != 0) = true from bne_iff_ne.mpr h]; rfl
  · rw [nb18]; exact ⟨rfl, _, rfl⟩
  · rw [nb19]; exact ⟨rfl, _, rfl⟩
end Go.Proofs.Ytkahmcdnnknhmaa.Pure
