/- Texts of this claim, cut down to what its theorem uses and laid end to end (wip/shake.py). -/
import Derived.Test.YtefhpdcafdhcaaaDoorKA3
set_option maxHeartbeats 16000000
set_option maxRecDepth 100000
set_option exponentiation.threshold 3000
section
namespace Go.Proofs.YtefhpdcafdhcaaaDoor.S
open Go Go.RowKit Go.Proofs.YtefhpdcafdhcaaaDoorW.PrintWords Go.Proofs.YtefhpdcafdhcaaaDoorW.PrintLast Go.Proofs.YtefhpdcafdhcaaaDoorW.PrintMore Go.Proofs.YtefhpdcafdhcaaaDoor Go.Proofs.YtefhpdcafdhcaaaDoor.A FlowM
attribute [local go_sem] max2_int max_two
theorem wrap_u64_small (n : Nat) (h : n < 18446744073709551616) : IntKind.u64.wrap (n : Int) = (n : Int) := by
 simp [IntKind.wrap, IntKind.signed, IntKind.bits]
 omega
theorem wrap64_id {n : Int} (b : -9223372036854775808 ≤ n) (h1 : n < 9223372036854775808) : wrap64 n = n := by unfold wrap64; omega
theorem wrap_shl {b : Nat} (hb : b < 64) : IntKind.u64.wrap (2 ^ min b 64) = ((1 <<< b : Nat) : Int) := by
 rw [Nat.min_eq_left (by omega), Nat.one_shiftLeft, show (2 : Int) ^ b = ((2 ^ b : Nat) : Int) by simp]
 have : 2 ^ b < 2 ^ 64 := Nat.pow_lt_pow_right (by omega) hb
 exact wrap_u64_small _ (by omega)
theorem word_high (s j : Nat) {b : Nat} (hb : ¬ b < 64) : (word s j).testBit b = false := Nat.testBit_lt_two_pow (Nat.lt_of_lt_of_le (word_lt s j) (Nat.pow_le_pow_right (by omega) (by omega)))
theorem word_put_ne {s r k : Nat} (h : k ≠ r / 64) : word (put s r) k = word s k := by rw [word_put, if_neg (Ne.symm h)]
theorem word_take_ne {s r k : Nat} (h : k ≠ r / 64) : word (take s r) k = word s k := by
 refine Nat.eq_of_testBit_eq fun b => ?_
 by_cases hb : b < 64
 ·rw [word_bit _ _ _ hb, word_bit _ _ _ hb, take_bit, decide_eq_false (by omega)]; simp
 ·rw [word_high _ _ hb, word_high _ _ hb]
theorem put_word (s r : Nat) : bits .or .u64 (word s (r / 64) : Int) ((1 <<< (r % 64) : Nat) : Int) = ((word (put s r) (r / 64) : Nat) : Int) := by
 have h1 : (1 : Nat) <<< (r % 64) < 2 ^ 64 := by rw [Nat.one_shiftLeft]; exact Nat.pow_lt_pow_right (by omega) (Nat.mod_lt _ (by omega))
 have b := word_lt s (r / 64); rw [bits_or_u64_nat _ _ (by omega) (by omega), word_put, if_pos rfl]
theorem take_word (s r : Nat) : bits .andNot .u64 (word s (r / 64) : Int) ((1 <<< (r % 64) : Nat) : Int) = ((word (take s r) (r / 64) : Nat) : Int) := by
 have h1 : (1 : Nat) <<< (r % 64) < 2 ^ 64 := by rw [Nat.one_shiftLeft]; exact Nat.pow_lt_pow_right (by omega) (Nat.mod_lt _ (by omega))
 have y := word_lt s (r / 64); have l : (BitVec.ofInt 64 (word s (r / 64) : Int)).toNat = word s (r / 64) := by rw [BitVec.ofInt_natCast, BitVec.toNat_ofNat]; exact Nat.mod_eq_of_lt (by omega)
 have p : (BitVec.ofInt 64 ((1 <<< (r % 64) : Nat) : Int)).toNat = 1 <<< (r % 64) := by rw [BitVec.ofInt_natCast, BitVec.toNat_ofNat]; exact Nat.mod_eq_of_lt (by omega)
 show IntKind.u64.wrap ((BitVec.ofInt 64 (word s (r / 64) : Int) &&& ~~~ BitVec.ofInt 64 ((1 <<< (r % 64) : Nat) : Int)).toNat : Int) = _
 have q : (BitVec.ofInt 64 (word s (r / 64) : Int) &&& ~~~ BitVec.ofInt 64 ((1 <<< (r % 64) : Nat) : Int)).toNat = word (take s r) (r / 64) := by {
 rw [BitVec.toNat_and, BitVec.toNat_not, l, p]; refine Nat.eq_of_testBit_eq fun b => ?_
 rw [Nat.testBit_and, show 2 ^ 64 - 1 - 1 <<< (r % 64) = 2 ^ 64 - (1 <<< (r % 64) + 1) by omega, Nat.testBit_two_pow_sub_succ h1]
 by_cases hb : b < 64
 {
 rw [word_bit _ _ _ hb, word_bit _ _ _ hb, take_bit, bit_one]; have : decide (r % 64 = b) = decide (r = 64 * (r / 64) + b) := decide_eq_decide.2 (by omega)
 rw [this]; simp [hb]}
 ·rw [word_high _ _ hb, word_high _ _ hb]; simp}
 rw [q]; exact wrap_u64_small _ (word_lt _ _)
def wput.T0 : Bool × List (List Nat × List Nat) := (true, [([], []), ([], []), ([1], [1]), ([0], [0]), ([3, 2], [2, 3]), ([4], [4]), ([], []), ([6], [6]), ([7], [7]), ([8], [8]), ([5, 9], [5, 9]), ([0], [0]), ([11, 2, 0, 1, 2, 3, 4, 5, 6, 7, 8, 9, 10], [2, 11]), ([12, 10, 0, 1, 2, 3, 4, 5, 6, 7, 8, 9, 10], [10, 12])])
def wput.B0 : List Nat := [0, 0, 2, 1, 15, 31, 0, 64, 192, 448, 1023, 1, 4095, 8191]
theorem wput.tab0 : rtab .any (opsOf Tryd.f36 0) = wput.T0 := by kernel_rfl
theorem wput.bits0 : waitsOk wput.T0.2 wput.B0 = true := by kernel_rfl
abbrev wput.b0_0 : Array Bool := #[Z,Z,Z,Z,Z,Z,Z,Z,Z,Z,Z,Z,Z,Z]
abbrev wput.b0_14 : Array Bool := #[Y,Y,Y,Y,Y,Y,Y,Y,Y,Y,Y,Y,Y,Y]
theorem put_calls (w : World) (g i r : Nat) (l : List Nat) (hs : SetsAt w g l) (hi : i < l.length) (hr : r < 2048) :
  Calls Tryd.prog 36 #[.pointer (some ⟨g, 32 * i, none⟩), .int .i64 (r : Int)] w fun e w' => e = .returned (.tuple #[]) ∧ w.grownBy w' (some g) ∧ SetsAt w' g (l.set i (put (l.getD i 0) r)) := by
 have HS := a_ hs; have HI := a_ hi; have HR := a_ hr; obtain ⟨q, hq⟩ : ∃ q, q = r / 64 := ⟨_, rfl⟩; have C : Aside0 (IntKind.i64.wrap ((r : Int) / 64) = (q : Int)) := ⟨by rw [hq, show ((r : Int) / 64) = ((r / 64 : Nat) : Int) by omega]; rw [i64_w, wrap64_id (by omega) (by omega)]⟩
 obtain ⟨b, hb⟩ : ∃ b, b = r % 64 := ⟨_, rfl⟩; have D : Aside0 (IntKind.u64.wrap (r : Int) = (r : Int)) := ⟨wrap_u64_small _ (by omega)⟩
 have E : Aside0 ((r : Int).tmod 64 = (b : Int)) := ⟨by rw [hb, Int.tmod_eq_emod_of_nonneg (by omega)]; omega⟩
 obtain ⟨m, hm⟩ : ∃ m, m = 1 <<< b := ⟨_, rfl⟩; have F : Aside0 (IntKind.u64.wrap (2 ^ min b 64) = (m : Int)) := ⟨by rw [hm]; exact wrap_shl (by omega)⟩
 have HM := a_ hm; obtain ⟨x, hx⟩ : ∃ x, x = word (l.getD i 0) q := ⟨_, rfl⟩; obtain ⟨y, hy⟩ : ∃ y, y = word (put (l.getD i 0) r) q := ⟨_, rfl⟩; have G : Aside0 (bits .or .u64 (x : Int) (m : Int) = (y : Int)) := ⟨by rw [hx, hm, hy, hb, hq]; exact put_word _ _⟩
 have HY := a_ hy; have I := a_ hb; have J : ((q : Int) < 32) = True := eq_true (by omega)
 have HC : Aside0 (w.cell? ⟨g, 32 * i + q, none⟩ = some (.int .u64 (x : Int))) := ⟨by rw [hx]; exact hs.cell hi (by omega)⟩
 have HQ := a_ hq; clear hs hi hr hq hb hm hx hy; go_enter Tryd.func36, Tryd.ntmps36
 go_upto_region 0 with (fail)
 refine start_ (n := 14) (S := fun W' => W'.cell? ⟨g, 32 * i + q, none⟩ = some (.int .u64 (x : Int))) (ds := [13]) wput.b0_0 (by kernel_rfl) rfl rfl HC.out (fun z => ?_)
 refine with_tabW wput.tab0 wput.bits0 (fun p B => ?_)
 refine qv_ 0 p ?_
 refine qv_ 1 p ?_
 refine qv_ (v := .int .i64 (q : Int)) 2 p ?_ (hy := by intro w'; go_simp; first | done | rw [C.out])
 refine qv_ 3 p ?_
 refine qv_ 4 p ?_
 refine qv_ 6 p ?_
 refine qv_ (v := .int .u64 (r : Int)) 7 p ?_ (hy := by intro w'; go_simp; first | done | rw [D.out])
 refine qv_ (v := .int .u64 (b : Int)) 8 p ?_ (hy := by intro w'; go_simp; first | done | rw [E.out])
 refine qv_ (v := .int .u64 (m : Int)) 9 p ?_ (hy := by intro w'; go_simp; first | done | rw [F.out])
 refine qv_ 11 p ?_
 refine qt_ 5 p B z ?_
 refine qv_ (v := .int .u64 (y : Int)) 10 p ?_ (hy := by intro w'; go_simp; first | done | rw [G.out])
 refine qv_ 12 p ?_
 refine last_ (i := 13) (N := none) wput.b0_14 rfl rfl (one_of p.out (by kernel_rfl)) (by decide) (fun K hK => ?_)
 refine skip_ (w1 := ?_) (by rfl) rfl ?_ ?_
 rotate_left
 ·have := HS.out.frozen (32 * i + q)
  go_simp
  first | done | rfl
 refine hK.out _ _ ?_
 clear hK K; refine done_ (done_of p.out (by kernel_rfl)) ?_
 refine bodyPost_end (results_none rfl _ _ _) rfl ?_
 refine ⟨rfl, grown_drew (grown_set w g (32 * i + q) _), ?_⟩
 have h_ := HS.out.set (j := q) (s := put (l.getD i 0) r) HI.out (by have := HR.out; have := HQ.out; omega) (fun k _ hk => word_put_ne (by rw [← HQ.out]; exact hk))
 unfold cw at h_
 rw [← HY.out] at h_; exact h_
def wtake.T0 : Bool × List (List Nat × List Nat) := (true, [([], []), ([], []), ([1], [1]), ([0], [0]), ([3, 2], [2, 3]), ([4], [4]), ([], []), ([6], [6]), ([7], [7]), ([8], [8]), ([5, 9], [5, 9]), ([0], [0]), ([11, 2, 0, 1, 2, 3, 4, 5, 6, 7, 8, 9, 10], [2, 11]), ([12, 10, 0, 1, 2, 3, 4, 5, 6, 7, 8, 9, 10], [10, 12])])
def wtake.B0 : List Nat := [0, 0, 2, 1, 15, 31, 0, 64, 192, 448, 1023, 1, 4095, 8191]
theorem wtake.tab0 : rtab .any (opsOf Tryd.f70 0) = wtake.T0 := by kernel_rfl
theorem wtake.bits0 : waitsOk wtake.T0.2 wtake.B0 = true := by kernel_rfl
abbrev wtake.b0_0 : Array Bool := #[Z,Z,Z,Z,Z,Z,Z,Z,Z,Z,Z,Z,Z,Z]
abbrev wtake.b0_14 : Array Bool := #[Y,Y,Y,Y,Y,Y,Y,Y,Y,Y,Y,Y,Y,Y]
theorem take_calls (w : World) (g i r : Nat) (l : List Nat) (hs : SetsAt w g l) (hi : i < l.length) (hr : r < 2048) :
  Calls Tryd.prog 70 #[.pointer (some ⟨g, 32 * i, none⟩), .int .i64 (r : Int)] w fun e w' => e = .returned (.tuple #[]) ∧ w.grownBy w' (some g) ∧ SetsAt w' g (l.set i (take (l.getD i 0) r)) := by
 have HS := a_ hs; have HI := a_ hi; have HR := a_ hr; obtain ⟨q, hq⟩ : ∃ q, q = r / 64 := ⟨_, rfl⟩; have C : Aside0 (IntKind.i64.wrap ((r : Int) / 64) = (q : Int)) := ⟨by rw [hq, show ((r : Int) / 64) = ((r / 64 : Nat) : Int) by omega]; rw [i64_w, wrap64_id (by omega) (by omega)]⟩
 obtain ⟨b, hb⟩ : ∃ b, b = r % 64 := ⟨_, rfl⟩; have D : Aside0 (IntKind.u64.wrap (r : Int) = (r : Int)) := ⟨wrap_u64_small _ (by omega)⟩
 have E : Aside0 ((r : Int).tmod 64 = (b : Int)) := ⟨by rw [hb, Int.tmod_eq_emod_of_nonneg (by omega)]; omega⟩
 obtain ⟨m, hm⟩ : ∃ m, m = 1 <<< b := ⟨_, rfl⟩; have F : Aside0 (IntKind.u64.wrap (2 ^ min b 64) = (m : Int)) := ⟨by rw [hm]; exact wrap_shl (by omega)⟩
 have HM := a_ hm; obtain ⟨x, hx⟩ : ∃ x, x = word (l.getD i 0) q := ⟨_, rfl⟩; obtain ⟨y, hy⟩ : ∃ y, y = word (take (l.getD i 0) r) q := ⟨_, rfl⟩; have G : Aside0 (bits .andNot .u64 (x : Int) (m : Int) = (y : Int)) := ⟨by rw [hx, hm, hy, hb, hq]; exact take_word _ _⟩
 have HY := a_ hy; have I := a_ hb; have J : ((q : Int) < 32) = True := eq_true (by omega)
 have HC : Aside0 (w.cell? ⟨g, 32 * i + q, none⟩ = some (.int .u64 (x : Int))) := ⟨by rw [hx]; exact hs.cell hi (by omega)⟩
 have HQ := a_ hq; clear hs hi hr hq hb hm hx hy; go_enter Tryd.func70, Tryd.ntmps70
 go_upto_region 0 with (fail)
 refine start_ (n := 14) (S := fun W' => W'.cell? ⟨g, 32 * i + q, none⟩ = some (.int .u64 (x : Int))) (ds := [13]) wtake.b0_0 (by kernel_rfl) rfl rfl HC.out (fun z => ?_)
 refine with_tabW wtake.tab0 wtake.bits0 (fun p B => ?_)
 refine qv_ 0 p ?_
 refine qv_ 1 p ?_
 refine qv_ (v := .int .i64 (q : Int)) 2 p ?_ (hy := by intro w'; go_simp; first | done | rw [C.out])
 refine qv_ 3 p ?_
 refine qv_ 4 p ?_
 refine qv_ 6 p ?_
 refine qv_ (v := .int .u64 (r : Int)) 7 p ?_ (hy := by intro w'; go_simp; first | done | rw [D.out])
 refine qv_ (v := .int .u64 (b : Int)) 8 p ?_ (hy := by intro w'; go_simp; first | done | rw [E.out])
 refine qv_ (v := .int .u64 (m : Int)) 9 p ?_ (hy := by intro w'; go_simp; first | done | rw [F.out])
 refine qv_ 11 p ?_
 refine qt_ 5 p B z ?_
 refine qv_ (v := .int .u64 (y : Int)) 10 p ?_ (hy := by intro w'; go_simp; first | done | rw [G.out])
 refine qv_ 12 p ?_
 refine last_ (i := 13) (N := none) wtake.b0_14 rfl rfl (one_of p.out (by kernel_rfl)) (by decide) (fun K hK => ?_)
 refine skip_ (w1 := ?_) (by rfl) rfl ?_ ?_
 rotate_left
 ·have := HS.out.frozen (32 * i + q)
  go_simp
  first | done | rfl
 refine hK.out _ _ ?_
 clear hK K; refine done_ (done_of p.out (by kernel_rfl)) ?_
 refine bodyPost_end (results_none rfl _ _ _) rfl ?_
 refine ⟨rfl, grown_drew (grown_set w g (32 * i + q) _), ?_⟩
 have h_ := HS.out.set (j := q) (s := take (l.getD i 0) r) HI.out (by have := HR.out; have := HQ.out; omega) (fun k _ hk => word_take_ne (by rw [← HQ.out]; exact hk))
 unfold cw at h_
 rw [← HY.out] at h_; exact h_
theorem has_word (s r : Nat) : (bits .and .u64 ((word s (r / 64) : Int) / 2 ^ min (r % 64) 64) 1 == 1) = s.testBit r := by
 have hb : r % 64 < 64 := Nat.mod_lt _ (by omega)
 have b : ((word s (r / 64) : Nat) : Int) / 2 ^ min (r % 64) 64 = ((word s (r / 64) / 2 ^ (r % 64) : Nat) : Int) := by rw [Nat.min_eq_left (by omega), show (2 : Int) ^ (r % 64) = ((2 ^ (r % 64) : Nat) : Int) by simp]; rfl
 have h1 := word_lt s (r / 64); have p : word s (r / 64) / 2 ^ (r % 64) ≤ word s (r / 64) := Nat.div_le_self _ _
 rw [b, show (1 : Int) = ((1 : Nat) : Int) from rfl, bits_and_u64_nat _ _ (by omega) (by omega), Nat.and_one_is_mod]
 have l : s.testBit r = (word s (r / 64)).testBit (r % 64) := by rw [word_bit _ _ _ hb]; congr 1; omega
 rw [l, Nat.testBit_eq_decide_div_mod_eq]; by_cases h : word s (r / 64) / 2 ^ (r % 64) % 2 = 1
 ·rw [h]; rfl
 {
 rw [decide_eq_false h]; simp only [beq_eq_false_iff_ne]
 omega}
theorem has_calls (w : World) (g i r : Nat) (l : List Nat) (hs : SetsAt w g l) (hi : i < l.length) (hr : r < 2048) :
  Calls Tryd.prog 34 #[.pointer (some ⟨g, 32 * i, none⟩), .int .i64 (r : Int)] w fun e w' => e = .returned (.bool ((l.getD i 0).testBit r)) ∧ Below w.heap.size w w' := by
 obtain ⟨q, hq⟩ : ∃ q, q = r / 64 := ⟨_, rfl⟩; have y : IntKind.i64.wrap ((r : Int) / 64) = (q : Int) := by rw [hq, show ((r : Int) / 64) = ((r / 64 : Nat) : Int) by omega]; rw [i64_w, wrap64_id (by omega) (by omega)]
 obtain ⟨b, hb⟩ : ∃ b, b = r % 64 := ⟨_, rfl⟩; have z : IntKind.u64.wrap (r : Int) = (r : Int) := wrap_u64_small _ (by omega)
 have B : (r : Int).tmod 64 = (b : Int) := by rw [hb, Int.tmod_eq_emod_of_nonneg (by omega)]; omega
 have C : ((q : Int) < 32) = True := eq_true (by omega)
 obtain ⟨x, hx⟩ : ∃ x, x = word (l.getD i 0) q := ⟨_, rfl⟩; have hc : w.cell? ⟨g, 32 * i + q, none⟩ = some (.int .u64 (x : Int)) := by rw [hx]; exact hs.cell hi (by omega)
 have HX := a_ hx; have HQ := a_ hq; have p := a_ hb; obtain ⟨R, hR⟩ : ∃ R, R = (l.getD i 0).testBit r := ⟨_, rfl⟩; rw [← hR]; have HR := a_ hR; clear hs hi hr hq hb hx hR; go_enter Tryd.func34, Tryd.ntmps34
 go_wp2
 have e_ : (bits BinOp.and IntKind.u64 ((x : Int) / 2 ^ min b 64) 1 == 1) = R := by rw [HX.out, HQ.out, p.out, HR.out]; exact has_word _ _
 rw [e_]; go_ret
 exact ⟨rfl, Below.refl _ _⟩
theorem hasC (w : World) (g i : Nat) (x : Int) (l : List Nat) (b : Bool) (hs : SetsAt w g l) (hi : i < l.length) (p : 0 ≤ x) (h1 : x < 2048) (hb : (l.getD i 0).testBit x.toNat = b) :
  Calls Tryd.prog 34 #[.pointer (some ⟨g, 32 * i, none⟩), .int .i64 x] w fun e w' => e = .returned (.bool b) ∧ Below w.heap.size w w' := by
 obtain ⟨r, rfl⟩ := Int.eq_ofNat_of_zero_le p; rw [← hb, Int.toNat_natCast]; exact has_calls w g i r l hs hi (by omega)
theorem putC (w : World) (g i : Nat) (x : Int) (l : List Nat) (hs : SetsAt w g l) (hi : i < l.length) (b : 0 ≤ x) (h1 : x < 2048) :
  Calls Tryd.prog 36 #[.pointer (some ⟨g, 32 * i, none⟩), .int .i64 x] w fun e w' => e = .returned (.tuple #[]) ∧ w.grownBy w' (some g) ∧ SetsAt w' g (l.set i (put (l.getD i 0) x.toNat)) := by
 obtain ⟨r, rfl⟩ := Int.eq_ofNat_of_zero_le b; rw [Int.toNat_natCast]; exact put_calls w g i r l hs hi (by omega)
theorem takeC {w : World} (g i : Nat) (x : Int) (l : List Nat) (hs : SetsAt w g l) (hi : i < l.length) (b : 0 ≤ x) (h1 : x < 2048) :
  Calls Tryd.prog 70 #[.pointer (some ⟨g, 32 * i, none⟩), .int .i64 x] w fun e w' => e = .returned (.tuple #[]) ∧ w.grownBy w' (some g) ∧ SetsAt w' g (l.set i (take (l.getD i 0) x.toNat)) := by
 obtain ⟨r, rfl⟩ := Int.eq_ofNat_of_zero_le b; rw [Int.toNat_natCast]; exact take_calls w g i r l hs hi (by omega)
def regsL (s n : Nat) : List Int := (listOf s n).map Int.ofNat
theorem regsL_zero (s : Nat) : regsL s 0 = [] := rfl
theorem regsL_succ (s n : Nat) : regsL s (n + 1) = if s.testBit n then regsL s n ++ [(n : Int)] else regsL s n := by
 unfold regsL listOf
 rw [List.range_succ, List.filter_append]; by_cases h : s.testBit n = true
 ·rw [if_pos h, List.filter_cons_of_pos h, List.filter_nil, List.map_append]; rfl
 ·rw [if_neg h, List.filter_cons_of_neg h, List.filter_nil, List.append_nil]
theorem regsL_len (s n : Nat) : (regsL s n).length ≤ n := by
 unfold regsL listOf
 rw [List.length_map]; exact Nat.le_trans (List.length_filter_le _ _) (by rw [List.length_range]; exact Nat.le_refl _)
theorem listC (w : World) (g i n : Nat) (l : List Nat) (s : Nat) (hs : SetsAt w g l) (hi : i < l.length) (hn : n ≤ 2048) (hse : l.getD i 0 = s) :
  Calls Tryd.prog 31 #[.pointer (some ⟨g, 32 * i, none⟩), .int .i64 (n : Int)] w fun e w' => ∃ v : Value, e = .returned v ∧ Kd.R (Kd.int .i64) 3 w' w.heap.size (fun _ => True) v (regsL s n) ∧ Below w.heap.size w w' := by
 have HS := a_ hs; have HI := a_ hi; have HN := a_ hn; have HSE := a_ hse; obtain ⟨nI, hnI⟩ : ∃ nI : Int, nI = (n : Int) := ⟨_, rfl⟩; rw [← hnI]; have HNI := a_ hnI; clear hs hi hn hse hnI; go_enter Tryd.func31, Tryd.ntmps31
 go_wp2
 go_loopg [5, 8] n (fun gk G I wx => ∃ x : Int, I = .int .i64 x ∧ Aside0 (∃ j : Nat, x = (j : Int) ∧ j + gk = n ∧ Kd.R (Kd.int .i64) 3 wx w.heap.size (fun _ => True) G (regsL s j)) ∧ Aside0 (Below w.heap.size w wx))
 case atStart => exact ⟨0, rfl, ⟨0, rfl, by omega, by rw [regsL_zero]; exact Kd.R_nil _ _ _ _ _⟩, ⟨Below.refl _ _⟩⟩
 case round => (
 obtain ⟨x, rfl, ⟨j, hx, hj, hR⟩, y⟩ := hrel; have HX := a_ hx; have HJ := a_ hj; have HR := a_ hR; cases gk with
 | zero => (
 have J : decide (x < nI) = false := decide_eq_false (by have := HNI.out; omega)
 clear hx hj hR; go_wp2
 go_ret
 exact ⟨_, rfl, by have := HJ.out; rw [show n = j by omega]; exact HR.out, y.out⟩)
 | succ gO => (
 have J : decide (x < nI) = true := decide_eq_true (by have := HNI.out; omega)
 have hw : wrap64 (x + 1) = x + 1 := wrap64_id (by omega) (by have := HN.out; omega)
 have B : 0 ≤ x := by omega
 have h1 : x < 2048 := by have := HN.out; omega
 have hxj : x.toNat = j := by omega
 have E := a_ B; have F := a_ h1; have HXJ := a_ hxj; by_cases ht : s.testBit j = true
 {
 have HT := a_ ht; clear hx hj hR B h1 hxj ht; go_wp2_with (first | (go_at_call 34; (with_reducible refine (hasC _ g i x l true (HS.out.below y.out HS.out.lt) HI.out E.out F.out (by rw [HSE.out, HXJ.out]; exact HT.out)).mono ?_); rintro e L ⟨rfl, p⟩; have q := a_ (below_then y.out y.out.size p); have z := a_ (Kd.R_below HR.out p); clear p) | ((with_reducible refine gate_builtin (b := .append) (xs := #[.tmp 14, .tmp 16]) rfl ?_); at_builtin; refine Kd.R_append (Kd.int .i64) (w0 := w) w.heap.size rfl (.tmp 14) (.tmp 16) 27 3 (.int .i64 0) 8 rfl Tryd.underlying27 info3 rfl (by decide) (by omega) _ (regsL s j) x [.int .i64 x] (fun _ => True) (fun _ => False) rfl rfl ?aP (fun _ hk => hk.elim) ?aF ?aO ?aB ?aS ?aL ?_; (case aP => exact rfl); (case aF => exact fun _ _ => trivial); (case aO => exact (q_R z.out)); (case aB => exact (q_w q.out)); (case aS => exact (below_size (q_w q.out))); (case aL => have := regsL_len s j; have := HN.out; have := HJ.out; omega); intro M N ho hb hg hat; have C := a_ ho; have D := a_ hb; clear ho hb hg hat))
 go_roundg gO
 case measure => omega
 case rel => exact ⟨x + 1, by go_num, ⟨j + 1, by have := HX.out; omega, by have := HJ.out; omega, by rw [regsL_succ, if_pos HT.out, ← HX.out]; exact C.out⟩, ⟨D.out⟩⟩}
 {
 have HT := a_ ht; clear hx hj hR B h1 hxj ht; go_wp2_with (first | (go_at_call 34; (with_reducible refine (hasC _ g i x l false (HS.out.below y.out HS.out.lt) HI.out E.out F.out (by rw [HSE.out, HXJ.out]; exact Bool.eq_false_iff.2 HT.out)).mono ?_); rintro e L ⟨rfl, p⟩; have q := a_ (below_then y.out y.out.size p); have z := a_ (Kd.R_below HR.out p); clear p))
 go_roundg gO
 case measure => omega
 case rel => exact ⟨x + 1, by go_num, ⟨j + 1, by have := HX.out; omega, by have := HJ.out; omega, by rw [regsL_succ, if_neg HT.out]; exact z.out⟩, ⟨q.out⟩⟩}))
theorem R_sets {α : Type} {d : Kd α} {e : TypeId} {W w1 : World} {base : Nat} {ok : Nat → Prop} {u : Value} {xs : List α} {g : Nat} {l : List Nat} (h : d.R e W base ok u xs) (hs : SetsAt W g l) (ht : ∀ q, q ∈ e :: d.E → q ≠ 59) (hg : W.grownBy w1 (some g)) : d.R e w1 base ok u xs :=
 Kd.R_over' (v := .slice (some ⟨g, 0, none⟩) 0 0) h (fun k hk => by obtain rfl := q_so hk; exact ⟨_, hs⟩) ht hg
theorem S_sets {α : Type} {d : Kd α} {e : TypeId} {W w1 : World} {base : Nat} {ok : Nat → Prop} {u : Value} {xs : List α} {g : Nat} {l : List Nat} (h : Kd.S d e W base ok u xs) (hs : SetsAt W g l) (ht : ∀ q, q ∈ e :: d.E → q ≠ 59) (hg : W.grownBy w1 (some g)) : Kd.S d e w1 base ok u xs := by
 obtain ⟨f, h⟩ := h; exact ⟨f, R_sets h hs ht hg⟩
theorem below_grown {w0 w w1 : World} {g : Nat} (h : Below w0.heap.size w0 w) (hg : w.grownBy w1 (some g)) (hlt : w0.heap.size ≤ g) : Below w0.heap.size w0 w1 := h.grown hg h.size (fun k hk => by obtain rfl := q_so hk; exact hlt)
theorem grown_then {w0 w w1 : World} {row : Option Nat} (h : w0.grownBy w row) (hg : w.grownBy w1 row) : w0.grownBy w1 row := ⟨hg.os.trans h.os, hg.tape.trans h.tape, hg.output.trans h.output, Nat.le_trans h.size hg.size, fun k hk hne => (hg.block k (Nat.lt_of_lt_of_le hk h.size) hne).trans (h.block k hk hne)⟩
theorem grown_of {w0 w : World} {row : Option Nat} (h : Below w0.heap.size w0 w) : w0.grownBy w row := ⟨h.os, h.tape, h.output, h.size, fun k hk _ => h.block k hk⟩
theorem defines_f (y : S71) : alloc_defines.f y.f0 y.f1 y.f2 y.f3 y.f4 y.f5 y.f6 = some (defs y) := by
 unfold alloc_defines.f defs
 by_cases h1 : y.f0 = 7
 ·rw [if_pos h1, h1]; rfl
 ·rw [if_neg h1]; by_cases b : y.f0 = 8
  ·rw [if_pos b, b]; rfl
  ·rw [if_neg b, beq_eq_false_iff_ne.2 h1, beq_eq_false_iff_ne.2 b]; rfl
theorem uses_f (y : S71) : alloc_uses.f 1 y.f0 y.f1 y.f2 y.f3 y.f4 y.f5 y.f6 = some (useList y) := by
 unfold alloc_uses.f useList alloc_uses.j0
 by_cases h1 : y.f0 = 1
 ·simp [h1]
 by_cases b : y.f0 = 2
 ·simp [b]
 by_cases l : y.f0 = 6
 ·simp [l]
 by_cases p : y.f0 = 10
 ·simp [p]
 by_cases q : y.f0 = 3
 ·simp [q]
 by_cases h6 : y.f0 = 7
 ·simp [h6]
 by_cases z : y.f0 = 8
 ·simp [z]
 simp [h1, b, l, p, q, h6, z]
theorem definesC {w : World} (y : S71) (p : Option Addr) (q : Nat) (b : Bool) (h6 : Kd.C (Kd.int .i64) w p y.f6.length y.f6) (l : y.f6.length ≤ q) (hb : defs y = b) :
  Calls Tryd.prog 52 #[.agg #[.int .i64 y.f0, .int .i64 y.f1, .int .i64 y.f2, .int .i64 y.f3, .int .i64 y.f4, .int .i32 y.f5, .slice p y.f6.length q]] w fun e w' => e = .returned (.bool b) ∧ Below w.heap.size w w' := alloc_defines.calls b w h6 l (by rw [← hb]; exact defines_f y)
theorem usesC {w : World} (y : S71) (l : Option Addr) (p : Nat) (h6 : Kd.C (Kd.int .i64) w l y.f6.length y.f6) (b : y.f6.length ≤ p) :
  Calls Tryd.prog 54 #[.agg #[.int .i64 y.f0, .int .i64 y.f1, .int .i64 y.f2, .int .i64 y.f3, .int .i64 y.f4, .int .i32 y.f5, .slice l y.f6.length p]] w fun e w' => ∃ v : Value, e = .returned v ∧ Kd.R (Kd.int .i64) 3 w' w.heap.size (fun _ => True) v (useList y) ∧ Below w.heap.size w w' := alloc_uses.calls 1 _ _ _ _ _ _ _ _ _ _ w h6 b (uses_f y)
def Good (y : S71) : Prop := (defs y = true → 0 ≤ y.f2 ∧ y.f2 < 2048) ∧ ∀ r ∈ useList y, 0 ≤ r ∧ r < 2048
def putsI (s : Nat) (l : List Int) : Nat := l.foldl (fun s r => put s r.toNat) s
theorem back_eq (s : Nat) (y : S71) : back s y = putsI (if defs y then take s y.f2.toNat else s) (useList y) := rfl
theorem set_same {l : List Nat} {i : Nat} (hi : i < l.length) : l.set i (l.getD i 0) = l := by
 rw [List.getD_eq_getElem?_getD, List.getElem?_eq_getElem hi]; simp
theorem set_set {l : List Nat} {i a b : Nat} : (l.set i a).set i b = l.set i b := by rw [List.set_set]
theorem putsI_take (s : Nat) {us : List Int} {j : Nat} (hj : j < us.length) : putsI s (us.take (j + 1)) = put (putsI s (us.take j)) us[j].toNat := by
 unfold putsI
 rw [List.take_succ_eq_append_getElem hj, List.foldl_append]; rfl
theorem backC (w : World) (g i : Nat) (l : List Nat) (y : S71) (X : Option Addr) (c6 : Nat) (hs : SetsAt w g l) (hi : i < l.length) (h6 : ∀ w', w.grownBy w' (some g) → Kd.C (Kd.int .i64) w' X y.f6.length y.f6) (a1 : y.f6.length ≤ c6) (hy : Good y) :
  Calls Tryd.prog 53 #[.pointer (some ⟨g, 32 * i, none⟩), .agg #[.int .i64 y.f0, .int .i64 y.f1, .int .i64 y.f2, .int .i64 y.f3, .int .i64 y.f4, .int .i32 y.f5, .slice X y.f6.length c6]] w fun e w' => e = .returned (.tuple #[]) ∧ w.grownBy w' (some g) ∧ SetsAt w' g (l.set i (back (l.getD i 0) y)) := by
 have c0 := Tryd.underlying71; obtain ⟨a2, a3⟩ := hy; have HS := a_ hs; have HI := a_ hi; have H6 := a_ h6; have J := a_ a1; have a4 := a_ a2; have a5 := a_ a3; have HGL := a_ hs.lt; obtain ⟨us, hus⟩ : ∃ us, us = useList y := ⟨_, rfl⟩; have HUS := a_ hus; clear hs hi h6 a1 a2 a3 hus; cases hd : defs y with
 | true => (
 have HD := a_ hd; clear hd; go_enter Tryd.func53, Tryd.ntmps53
 go_wp2_with (first | (go_at_call 52; (with_reducible refine (definesC y X c6 true (H6.out _ (grown_of (below_alloc (Below.refl _ _) _))) J.out HD.out).mono ?_); rintro e w2 ⟨rfl, p⟩; have q := a_ (below_then (below_alloc (Below.refl _ _) _) (below_alloc (Below.refl _ _) _).size p); have L := a_ (blk_below (heap_alloc_new w _) p); clear p; obtain ⟨a6, a7, a8, a9, b0, b1, b2⟩ := q_c7 L.out) | (go_at_call 70; (with_reducible refine (takeC g i y.f2 l (HS.out.below q.out HGL.out) HI.out (a4.out HD.out).1 (a4.out HD.out).2).mono ?_); rintro e w3 ⟨rfl, M, b3⟩; have b4 := a_ (grown_then (grown_of q.out) M); have b5 := a_ b3; have b7 := a_ (blk_grown L.out M (fun e => absurd (q_so e) (Nat.ne_of_gt HGL.out))); clear M b3; obtain ⟨c3, c4, c8, c9, d0, d1, d2⟩ := q_c7 b7.out) | (go_at_call 54; (with_reducible refine (usesC y X c6 (H6.out _ b4.out) J.out).mono ?_); rintro e w4 ⟨v4, rfl, b, z⟩; obtain ⟨Av, cv, rfl⟩ := Kd.R_slice b; rw [← HUS.out] at b; have D := a_ b; have E := a_ (grown_then b4.out (grown_of z)); have F := a_ (SetsAt.below b5.out z b5.out.lt); (try rw [← HUS.out]); clear z b))
 have G : Aside0 (SetsAt w4 g (l.set i (putsI (take (l.getD i 0) y.f2.toNat) (us.take 0)))) := ⟨by exact F.out⟩
 go_loopg [15] us.length (fun gk N wx => ∃ x : Int, N = .int .i64 x ∧ Aside0 (∃ j : Nat, x = (j : Int) ∧ j + gk = us.length ∧ SetsAt wx g (l.set i (putsI (take (l.getD i 0) y.f2.toNat) (us.take j)))) ∧ Aside0 (w.grownBy wx (some g)) ∧ Aside0 (Kd.R (Kd.int .i64) 3 wx _ (fun _ => True) (.slice Av us.length cv) us))
 case atStart => exact ⟨0, rfl, ⟨0, rfl, by omega, G.out⟩, ⟨E.out⟩, ⟨D.out⟩⟩
 case round => (
 clear D E F G; obtain ⟨x, rfl, ⟨j, hx, hj, hS⟩, HG, HR⟩ := hrel; have HX := a_ hx; have HJ := a_ hj; have HSx := a_ hS; cases gk with
 | zero => (
 have c1 : decide (x < (us.length : Int)) = false := decide_eq_false (by omega)
 have c1b : decide (((us.length : Nat) : Int) ≤ x) = true := decide_eq_true (by omega)
 clear hx hj hS; go_wp2
 refine bodyPost_end (results_none rfl _ _ _) rfl ?_
 refine ⟨rfl, HG.out, ?_⟩
 have h_ := HSx.out; have hj_ := HJ.out; rw [show j = us.length by omega, List.take_length] at h_
 rw [back_eq, ← HUS.out, HD.out]; exact h_)
 | succ gO => (
 have c1 : decide (x < (us.length : Int)) = true := decide_eq_true (by omega)
 have hjl : j < us.length := by omega
 have O : 0 ≤ x := by omega
 have S : x < (us.length : Int) := by omega
 obtain ⟨ad, e, hcu⟩ := Kd.at_int (Kd.R_reads' HR.out).2.2 x O S; cases e; obtain ⟨u, hu⟩ : ∃ u, u = rd us x := ⟨_, rfl⟩; rw [← hu] at hcu; have huj : u = us[j] := by rw [hu, hx]; simp [rd, hjl]
 have hur := a5.out u (by rw [← HUS.out, huj]; exact List.getElem_mem _)
 have HU := a_ hur; have HUJ : Aside0 (putsI (take (l.getD i 0) y.f2.toNat) (us.take (j + 1)) = put (putsI (take (l.getD i 0) y.f2.toNat) (us.take j)) u.toNat) := ⟨by rw [putsI_take _ hjl, huj]⟩
 have hlen : us.length ≤ 2 := by rw [HUS.out]; unfold useList; split <;> (try split) <;> simp
 have hw : wrap64 (x + 1) = x + 1 := wrap64_id (by omega) (by omega)
 replace O := eq_true O; replace S := eq_true S; clear hx hj hS hu huj hur hjl hlen; go_wp2_with (first | (go_at_call 36; (with_reducible refine (putC _ g i u _ HSx.out (by rw [List.length_set]; exact HI.out) HU.out.1 HU.out.2).mono ?_); rintro e w5 ⟨rfl, B, I⟩; have T := a_ (grown_then HG.out B); have U := a_ I; have V := a_ (R_sets HR.out HSx.out (by decide) B); clear B I))
 go_roundg gO
 case measure => omega
 case rel => exact ⟨x + 1, by go_num, ⟨j + 1, by have := HX.out; omega, by have := HJ.out; omega, by have h_ := U.out; rw [set_set, getD_set HI.out, if_pos rfl, ← HUJ.out] at h_; exact h_⟩, ⟨T.out⟩, ⟨V.out⟩⟩)))
 | false => (
 have HD := a_ hd; clear hd; go_enter Tryd.func53, Tryd.ntmps53
 go_wp2_with (first | (go_at_call 52; (with_reducible refine (definesC y X c6 false (H6.out _ (grown_of (below_alloc (Below.refl _ _) _))) J.out HD.out).mono ?_); rintro e w2 ⟨rfl, p⟩; have q := a_ (below_then (below_alloc (Below.refl _ _) _) (below_alloc (Below.refl _ _) _).size p); have L := a_ (blk_below (heap_alloc_new w _) p); clear p; obtain ⟨a6, a7, a8, a9, b0, b1, b2⟩ := q_c7 L.out) | (go_at_call 54; (with_reducible refine (usesC y X c6 (H6.out _ (grown_of q.out)) J.out).mono ?_); rintro e w4 ⟨v4, rfl, b, z⟩; obtain ⟨Av, cv, rfl⟩ := Kd.R_slice b; rw [← HUS.out] at b; have D := a_ b; have E := a_ (grown_then (grown_of (row := some g) q.out) (grown_of z)); have F := a_ (SetsAt.below (HS.out.below q.out HGL.out) z (HS.out.below q.out HGL.out).lt); (try rw [← HUS.out]); clear z b))
 have G : Aside0 (SetsAt w4 g (l.set i (putsI (l.getD i 0) (us.take 0)))) := ⟨by have h_ := F.out; rw [show l = l.set i (l.getD i 0) from (set_same HI.out).symm] at h_; exact h_⟩
 go_loopg [15] us.length (fun gk N wx => ∃ x : Int, N = .int .i64 x ∧ Aside0 (∃ j : Nat, x = (j : Int) ∧ j + gk = us.length ∧ SetsAt wx g (l.set i (putsI (l.getD i 0) (us.take j)))) ∧ Aside0 (w.grownBy wx (some g)) ∧ Aside0 (Kd.R (Kd.int .i64) 3 wx _ (fun _ => True) (.slice Av us.length cv) us))
 case atStart => exact ⟨0, rfl, ⟨0, rfl, by omega, G.out⟩, ⟨E.out⟩, ⟨D.out⟩⟩
 case round => (
 clear D E F G; obtain ⟨x, rfl, ⟨j, hx, hj, hS⟩, HG, HR⟩ := hrel; have HX := a_ hx; have HJ := a_ hj; have HSx := a_ hS; cases gk with
 | zero => (
 have c1 : decide (x < (us.length : Int)) = false := decide_eq_false (by omega)
 have c1b : decide (((us.length : Nat) : Int) ≤ x) = true := decide_eq_true (by omega)
 clear hx hj hS; go_wp2
 refine bodyPost_end (results_none rfl _ _ _) rfl ?_
 refine ⟨rfl, HG.out, ?_⟩
 have h_ := HSx.out; have hj_ := HJ.out; rw [show j = us.length by omega, List.take_length] at h_
 rw [back_eq, ← HUS.out, HD.out]; exact h_)
 | succ gO => (
 have c1 : decide (x < (us.length : Int)) = true := decide_eq_true (by omega)
 have hjl : j < us.length := by omega
 have O : 0 ≤ x := by omega
 have S : x < (us.length : Int) := by omega
 obtain ⟨ad, e, hcu⟩ := Kd.at_int (Kd.R_reads' HR.out).2.2 x O S; cases e; obtain ⟨u, hu⟩ : ∃ u, u = rd us x := ⟨_, rfl⟩; rw [← hu] at hcu; have huj : u = us[j] := by rw [hu, hx]; simp [rd, hjl]
 have hur := a5.out u (by rw [← HUS.out, huj]; exact List.getElem_mem _)
 have HU := a_ hur; have HUJ : Aside0 (putsI (l.getD i 0) (us.take (j + 1)) = put (putsI (l.getD i 0) (us.take j)) u.toNat) := ⟨by rw [putsI_take _ hjl, huj]⟩
 have hlen : us.length ≤ 2 := by rw [HUS.out]; unfold useList; split <;> (try split) <;> simp
 have hw : wrap64 (x + 1) = x + 1 := wrap64_id (by omega) (by omega)
 replace O := eq_true O; replace S := eq_true S; clear hx hj hS hu huj hur hjl hlen; go_wp2_with (first | (go_at_call 36; (with_reducible refine (putC _ g i u _ HSx.out (by rw [List.length_set]; exact HI.out) HU.out.1 HU.out.2).mono ?_); rintro e w5 ⟨rfl, B, I⟩; have T := a_ (grown_then HG.out B); have U := a_ I; have V := a_ (R_sets HR.out HSx.out (by decide) B); clear B I))
 go_roundg gO
 case measure => omega
 case rel => exact ⟨x + 1, by go_num, ⟨j + 1, by have := HX.out; omega, by have := HJ.out; omega, by have h_ := U.out; rw [set_set, getD_set HI.out, if_pos rfl, ← HUJ.out] at h_; exact h_⟩, ⟨T.out⟩, ⟨V.out⟩⟩)))
end Go.Proofs.YtefhpdcafdhcaaaDoor.S
end
section
namespace Go.Proofs.YtefhpdcafdhcaaaDoor.S
open Go Go.RowKit Go.Proofs Go.Proofs.YtefhpdcafdhcaaaDoorW.PrintWords Go.Proofs.YtefhpdcafdhcaaaDoorW.PrintLast Go.Proofs.YtefhpdcafdhcaaaDoorW.PrintMore Go.Proofs.YtefhpdcafdhcaaaDoor Go.Proofs.YtefhpdcafdhcaaaDoor.A FlowM
attribute [local go_sem] max2_int max_two
def setV (s : Nat) : Value := .agg (cellsL [s]).toArray
theorem info59s : (Tryd.prog.info? 59).map (·.size) = some 32 := by kernel_rfl
theorem size59 (s : Nat) : (Tryd.prog.info? 59).map (·.size) = some (cellsL [s]).length := by
 rw [cellsL_len]; exact info59s
section
variable {ops : Array Oper} {o : Oper} {rest : List Oper} {a : Act} {Q : Exit → Act → World → Prop}
theorem load_event {W : World} {g i off : Nat} {l : List Nat} {x : Operand} {s : Nat} (hgd : o.guard = none) (ho : o.op = .load 59 x) (hx : a.eval x = .pointer (some ⟨g, off, none⟩)) (he : off = 32 * i) (hS : SetsAt W g l) (hi : i < l.length) (hs : l.getD i 0 = s)
  (h : wpList Tryd.prog ops Q rest (a.put o.dst (setV s)) W) : wpList Tryd.prog ops Q (o :: rest) a W := by
 subst he hs; exact wpList_load_mid hgd 59 x ho g (32 * i) hx (cellsL [l.getD i 0]) (.array 32 57) (hS.range hi) Tryd.underlying59 rfl (size59 _) h
theorem grown_row (w : World) (g : Nat) (cs : Array Value) : w.grownBy (w.setRow g cs) (some g) := ⟨rfl, rfl, rfl, by simp [World.setRow], fun k _ hne => setRow_other w g k cs (fun e => hne (by rw [e]))⟩
theorem run_put {W : World} {g i : Nat} {l : List Nat} (s : Nat) (hS : SetsAt W g l) (hi : i < l.length) :
  ∃ p, (Instr.storeAt 59 (.pointer (some ⟨g, 32 * i, none⟩)) (setV s)).run Tryd.prog W = .ok () p ∧ W.grownBy p (some g) ∧ SetsAt p g (l.set i s) := by
 have b : (cellsL [s]).length = 32 := by rw [cellsL_len]; rfl
 have h1 := run_storeCells_at (P := Tryd.prog) g (32 * i) 59 (cellsL [s]) 0 (cellsL l).toArray W hS (by rw [b]; simp only [List.size_toArray, cellsL_len]; omega) (cellsL_one _)
 rw [Nat.add_zero, b, show ((cellsL l).toArray).toList = cellsL l from rfl, cellsL_put hi] at h1; refine ⟨_, ?_, grown_row W g _, setRow_heap W g _ _ 59 (0, 0) hS⟩
 have hsz := info59s; cases hq : Tryd.prog.info? 59 with
 | none => simp [hq] at hsz
 | some f => (
 have hs : f.size = 32 := by simpa [hq] using hsz
 have : (storeVar 59 ⟨g, 32 * i, none⟩ (setV s)).run Tryd.prog W = .ok () (W.setRow g (cellsL (l.set i s)).toArray) := by simp [storeVar, sizeOf, typeInfo, hq, setV, Value.cells, hs, b, h1]
 simp only [Instr.storeAt, Instr.sureAddr, Sem.run_bind, Sem.run_pure, Result.andThen_ok, this])
theorem put_event {W : World} {g i off : Nat} {l : List Nat} {x y : Operand} {s : Nat} (hgd : o.guard = none) (hN : o.dst = none) (ho : o.op = .store 59 x y) (hx : a.eval x = .pointer (some ⟨g, off, none⟩)) (he : off = 32 * i) (hy : a.eval y = setV s) (hS : SetsAt W g l) (hi : i < l.length)
  (h : ∀ b, W.grownBy b (some g) → SetsAt b g (l.set i s) → wpList Tryd.prog ops Q rest a b) : wpList Tryd.prog ops Q (o :: rest) a W := by
 subst he; obtain ⟨b, hr, hg, hs⟩ := run_put s hS hi; refine wpList_plain hgd fun K hK => ?_
 have hrun : (execOp a.eval o).run Tryd.prog W = .ok .skip b := by
  unfold execOp
  simp only [ho, hx, hy, Sem.run_bind, hr, Result.andThen_ok]
  rfl
 unfold Oper.wp
 rw [hrun]; show K (a.put o.dst undef) b
 rw [hN]; exact hK _ _ (h b hg hs)
end
theorem zero_cells : (Array.replicate 32 (.int .u64 0 : Value)) = (cellsL [0]).toArray := by kernel_rfl
end Go.Proofs.YtefhpdcafdhcaaaDoor.S
end
section
namespace Go.Proofs.YtefhpdcafdhcaaaDoor.S
open Go Go.RowKit Go.Proofs Go.Proofs.YtefhpdcafdhcaaaDoorW.PrintWords Go.Proofs.YtefhpdcafdhcaaaDoorW.PrintLast Go.Proofs.YtefhpdcafdhcaaaDoorW.PrintMore Go.Proofs.YtefhpdcafdhcaaaDoor Go.Proofs.YtefhpdcafdhcaaaDoor.A FlowM
attribute [local go_sem] max2_int max_two
theorem cell_old {w0 w : World} {p : Addr} {v : Value} (hc : w0.cell? p = some v) (hb : Below w0.heap.size w0 w) : w.cell? p = some v := q_kc hb hc
def mixw (o s i : Nat) : Nat := o ||| (s % 2 ^ (64 * i))
theorem mixw_zero (o s : Nat) : mixw o s 0 = o := by simp [mixw, Nat.mod_one]
theorem mixw_full {o s : Nat} (h : s < 2 ^ (64 * 32)) : mixw o s 32 = o ||| s := by unfold mixw; rw [Nat.mod_eq_of_lt h]
theorem mixw_bit (o s i k : Nat) : (mixw o s i).testBit k = (o.testBit k || (decide (k < 64 * i) && s.testBit k)) := by unfold mixw; rw [Nat.testBit_or, Nat.testBit_mod_two_pow]
theorem word_mix_at (o s i : Nat) : word (mixw o s (i + 1)) i = word (mixw o s i) i ||| word s i := by
 refine Nat.eq_of_testBit_eq fun b => ?_
 rw [Nat.testBit_or]; by_cases hb : b < 64
 ·rw [word_bit _ _ _ hb, word_bit _ _ _ hb, word_bit _ _ _ hb, mixw_bit, mixw_bit, decide_eq_true (show 64 * i + b < 64 * (i + 1) by omega), decide_eq_false (show ¬ 64 * i + b < 64 * i by omega)]; simp
 ·rw [word_high _ _ hb, word_high _ _ hb, word_high _ _ hb]; rfl
theorem word_mix_ne {o s i k : Nat} (h : k ≠ i) : word (mixw o s (i + 1)) k = word (mixw o s i) k := by
 refine Nat.eq_of_testBit_eq fun b => ?_
 by_cases hb : b < 64
 ·rw [word_bit _ _ _ hb, word_bit _ _ _ hb, mixw_bit, mixw_bit, decide_eq_decide.2 (show 64 * k + b < 64 * (i + 1) ↔ 64 * k + b < 64 * i by omega)]
 ·rw [word_high _ _ hb, word_high _ _ hb]
theorem SetsAt.far {w : World} {g : Nat} {l : List Nat} (h : SetsAt w g l) {p : Addr} (hp : g ≠ p.block) (u : Value) : SetsAt (w.setCell p u) g l := blk_far h hp u
theorem SetsAt.set1 {w : World} {g s : Nat} (h : SetsAt w g [s]) {j t : Nat} (hj : j < 32) (hw : ∀ k, k ≠ j → word t k = word s k) : SetsAt (w.setCell ⟨g, j, none⟩ (cw t j)) g [t] := by
 have := h.set (i := 0) (j := j) (s := t) (by simp) hj (fun k _ hk => hw k hk)
 rwa [Nat.mul_zero, Nat.zero_add] at this
theorem SetsAt.cell1 {w : World} {g s : Nat} (h : SetsAt w g [s]) {j : Nat} (hj : j < 32) : w.cell? ⟨g, j, none⟩ = some (.int .u64 ((word s j : Nat) : Int)) := by
 have := h.cell (i := 0) (j := j) (by simp) hj
 rwa [Nat.mul_zero, Nat.zero_add] at this
theorem run_index (W : World) (s j : Nat) (x : Int) (hx : x = (j : Int)) (hj : j < 32) : (Instr.index 59 (setV s) (.int .i64 x)).run Tryd.prog W = .ok (.int .u64 ((word s j : Nat) : Int)) W := by
 subst hx; have h1 : (cellsL [s])[j]? = some (.int .u64 ((word s j : Nat) : Int)) := by {
 have := cellsL_get [s] (i := 0) (j := j) (by simp) hj
 rw [Nat.mul_zero, Nat.zero_add] at this; rw [this]; rfl}
 have b : (Tryd.prog.info? 57).map (·.size) = some 1 := by kernel_rfl
 cases hq : Tryd.prog.info? 57 with
 | none => simp [hq] at b
 | some f => (
 have hs : f.size = 1 := by simpa [hq] using b
 simp only [Instr.index, setV, asIntOf, Sem.run_bind, Sem.run_pure, Result.andThen_ok, run_underlying Tryd.underlying59]
 have c : (0 ≤ (j : Int) ∧ (j : Int) < ((32 : Nat) : Int)) := by omega
 simp only [c, if_true, and_self, sizeOf, typeInfo, Sem.run_bind]
 simp [hq, hs, part, isAgg, Sem.run_bind, run_underlying Tryd.underlying57, h1])
section
variable {ops : Array Oper} {o : Oper} {rest : List Oper} {a : Act} {Q : Exit → Act → World → Prop}
theorem index_event {W : World} {x y : Operand} {s j : Nat} {k : Int} (hgd : o.guard = none) (ho : o.op = .index 59 x y) (hx : a.eval x = setV s) (hy : a.eval y = .int .i64 k) (hk : k = (j : Int)) (hj : j < 32)
  (h : wpList Tryd.prog ops Q rest (a.put o.dst (.int .u64 ((word s j : Nat) : Int))) W) : wpList Tryd.prog ops Q (o :: rest) a W := by
 refine Kd.event_run hgd ?_ h
 unfold execOp
 simp only [ho, hx, hy, Sem.run_bind, run_index W s j k hk hj, Result.andThen_ok]
 rfl
end
theorem after_take {nx : List Int} {I : List Nat} {j : Nat} (hj : j < nx.length) : after (nx.take (j + 1)) I = after (nx.take j) I ||| I.getD nx[j].toNat 0 := by
 unfold after
 rw [List.take_succ_eq_append_getElem hj, List.foldl_append]; rfl
theorem afterC (w : World) (nx : List Int) (An : Option Addr) (cn : Nat) (gi : Nat) (I : List Nat) (cI : Nat) (hn : Kd.C (Kd.int .i64) w An nx.length nx) (hI : SetsAt w gi I) (hb : ∀ s ∈ I, s < 2 ^ (64 * 32)) (hm : ∀ m ∈ nx, 0 ≤ m ∧ m < (I.length : Int)) (hl : nx.length ≤ 1000000) :
  Calls Tryd.prog 39 #[.slice An nx.length cn, .slice (some ⟨gi, 0, none⟩) I.length cI] w fun e w' => e = .returned (setV (after nx I)) ∧ Below w.heap.size w w' := by
 have HN := a_ hn; have HI := a_ hI; have HBD := a_ hb; have HM := a_ hm; have HL := a_ hl; have HGL := a_ hI.lt; clear hn hI hb hm hl; go_enter Tryd.func39, Tryd.ntmps39
 go_wp2_with (first | ((with_reducible refine gd_ 4 rfl ?_); refine box_event ?hg (N := 4) ?hd (cs := (cellsL [0]).toArray) (t := 59) ?hr ?_; (case hd => rfl); (case hg => rfl); (case hr => rw [← zero_cells]; first | (go_simp; done) | (go_simp; rfl)); intro D U w4 E V; have b : Aside0 (SetsAt w4 D [0]) := ⟨E⟩; have a6 : Aside0 (w.heap.size ≤ D) := ⟨by rw [U]; exact Nat.le_refl _⟩; have q := a_ V; have F := a_ (blk_lt E); clear U E V) | ((with_reducible refine gd_ 5 rfl ?_); refine box_event ?hg (N := 5) ?hd (cs := (cellsL [0]).toArray) (t := 59) ?hr ?_; (case hd => rfl); (case hg => rfl); (case hr => rw [← zero_cells]; first | (go_simp; done) | (go_simp; rfl)); intro T G w5 X J; have a1 : Aside0 (SetsAt w5 T [0]) := ⟨X⟩; have a7 : Aside0 (w.heap.size ≤ T) := ⟨by rw [G]; exact q.out.size⟩; have HNE : Aside0 (D < T) := ⟨by rw [G]; exact F.out⟩; have a2 := a_ (below_then q.out q.out.size J); have y := a_ (b.out.below J F.out); clear G X J))
 go_loopg [12] nx.length (fun gk a8 wx => ∃ x : Int, a8 = .int .i64 x ∧ Aside0 (∃ j : Nat, x = (j : Int) ∧ j + gk = nx.length ∧ SetsAt wx T [after (nx.take j) I]) ∧ Aside0 (Below w.heap.size w wx) ∧ Aside0 (SetsAt wx D [0]))
 case atStart => exact ⟨0, rfl, ⟨0, rfl, by omega, a1.out⟩, ⟨a2.out⟩, ⟨y.out⟩⟩
 case round => (
 clear a1 a2 y b q F; obtain ⟨x, rfl, ⟨j, hx, hj, hS⟩, B, b⟩ := hrel; have HX := a_ hx; have HJ := a_ hj; have HS := a_ hS; cases gk with
 | zero => (
 have c1 : decide (x < (nx.length : Int)) = false := decide_eq_false (by omega)
 have c1b : decide (((nx.length : Nat) : Int) ≤ x) = true := decide_eq_true (by omega)
 clear hx hj hS; go_wp2_with (first | ((with_reducible refine gd_ 32 rfl ?_); refine load_event (g := T) (i := 0) (off := 0) (l := [after (nx.take j) I]) (s := after (nx.take j) I) rfl rfl ?hx rfl HS.out (by simp) rfl ?_; (case hx => first | rfl | (go_simp; done) | (go_simp; rfl))) | ((with_reducible refine gate_store (t := 59) (p := 4) rfl ?_); refine put_event (g := D) (i := 0) (off := 0) (l := [0]) (s := after (nx.take j) I) rfl rfl rfl ?hx rfl ?hy b.out (by simp) ?_; (case hx => first | rfl | (go_simp; done) | (go_simp; rfl)); (case hy => first | rfl | (go_simp; done) | (go_simp; rfl)); intro w6 a3 a4; have a9 := a_ a4; have b1 := a_ (below_grown B.out a3 a6.out); clear a3 a4))
 (try simp only [Exit.inBlock, Exit.then])
 refine bodyPost_ret (results_cell_row rfl _ _ D 59 (cellsL [after (nx.take j) I]).toArray (0, 0) (.array 32 57) rfl a9.out Tryd.underlying59 rfl (size59 _)) rfl ?_
 refine ⟨?_, b1.out⟩
 have hj_ := HJ.out; rw [show j = nx.length by omega, List.take_length]
 rfl)
 | succ gO => (
 have c1 : decide (x < (nx.length : Int)) = true := decide_eq_true (by omega)
 have hjl : j < nx.length := by omega
 have p0 : 0 ≤ x := by omega
 have q0 : x < (nx.length : Int) := by omega
 obtain ⟨ad, e, hcu⟩ := Kd.at_int HN.out x p0 q0; cases e; replace hcu := cell_old hcu B.out; obtain ⟨u, hu⟩ : ∃ u, u = rd nx x := ⟨_, rfl⟩; rw [← hu] at hcu; have huj : u = nx[j] := by rw [hu, hx]; simp [rd, hjl]
 have hur := HM.out u (by rw [huj]; exact List.getElem_mem _)
 obtain ⟨L, a5⟩ := hur; obtain ⟨s, hs⟩ : ∃ s, s = I.getD u.toNat 0 := ⟨_, rfl⟩; have hul : u.toNat < I.length := by omega
 have hsb : s < 2 ^ (64 * 32) := by rw [hs, List.getD_eq_getElem?_getD, List.getElem?_eq_getElem hul]; exact HBD.out _ (List.getElem_mem _)
 have HSE := a_ hs; have HSB := a_ hsb; have HUL := a_ hul; have HNX : Aside0 (after (nx.take (j + 1)) I = after (nx.take j) I ||| s) := ⟨by rw [after_take hjl, hs, huj]⟩
 obtain ⟨o, ho⟩ : ∃ o, o = after (nx.take j) I := ⟨_, rfl⟩; rw [← ho] at HS HNX
 have hw : wrap64 (x + 1) = x + 1 := wrap64_id (by omega) (by have := HL.out; omega)
 have HW := a_ hw; replace p0 := eq_true p0; replace q0 := eq_true q0; have c2 := eq_true L; have c3 := eq_true a5; have c4 : decide (0 ≤ u) = true := decide_eq_true L
 clear hx hj hS hu huj hjl hs hsb hul L a5 ho hw; go_wp2_with (first | ((with_reducible refine gd_ 19 rfl ?_); refine load_event (g := gi) (i := u.toNat) (off := u.toNat * 32) (l := I) (s := s) rfl rfl ?hx (Nat.mul_comm _ _) (HI.out.below B.out HGL.out) HUL.out HSE.out.symm ?_; (case hx => first | rfl | (go_simp; done) | (go_simp; rfl))))
 go_loopg [20] 32 (fun gk b4 wy => ∃ z : Int, b4 = .int .i64 z ∧ Aside0 (∃ i : Nat, z = (i : Int) ∧ i + gk = 32 ∧ SetsAt wy T [mixw o s i]) ∧ Aside0 (Below w.heap.size w wy) ∧ Aside0 (SetsAt wy D [0]))
 case atStart => exact ⟨0, rfl, ⟨0, rfl, by omega, by rw [mixw_zero]; exact HS.out⟩, ⟨B.out⟩, ⟨b.out⟩⟩
 case round => (
 clear HS B b; obtain ⟨z, rfl, ⟨i, hz, hi, hSy⟩, B, b⟩ := hrel; have HZ := a_ hz; have HIj := a_ hi; have HSy := a_ hSy; cases gk with
 | zero => (
 have d1 : decide (z < 32) = false := decide_eq_false (by omega)
 have d1b : decide (32 ≤ z) = true := decide_eq_true (by omega)
 have hw := HW.out; clear hz hi hSy; go_wp2
 go_roundg gO
 case measure => omega
 case rel => exact ⟨x + 1, by go_num, ⟨j + 1, by have := HX.out; omega, by have := HJ.out; omega, by rw [HNX.out, ← mixw_full HSB.out]; have h_ := HSy.out; have d0 := HIj.out; rwa [show i = 32 by omega] at h_⟩, ⟨B.out⟩, ⟨b.out⟩⟩)
 | succ gI => (
 have d1 : decide (z < 32) = true := decide_eq_true (by omega)
 have hil : i < 32 := by omega
 have z0 := eq_true (show 0 ≤ z by omega)
 have z1 := eq_true (show z < 32 by omega)
 have hzi : z.toNat = i := by omega
 have d2 : wrap64 (z + 1) = z + 1 := wrap64_id (by omega) (by omega)
 obtain ⟨a0, M⟩ : ∃ a0, a0 = word (mixw o s i) i := ⟨_, rfl⟩; obtain ⟨b0, O⟩ : ∃ b0, b0 = word s i := ⟨_, rfl⟩; obtain ⟨n0, R⟩ : ∃ n0, n0 = word (mixw o s (i + 1)) i := ⟨_, rfl⟩; have hbits : bits .or .u64 (a0 : Int) (b0 : Int) = (n0 : Int) := by rw [M, O, R, word_mix_at]; exact bits_or_u64_nat _ _ (word_lt _ _) (word_lt _ _)
 have hcz := hSy.cell1 hil; have hfz := hSy.frozen i; rw [← M] at hcz; have b8 := a_ O; have b9 := a_ R; have HIL := a_ hil; clear hz hi hSy hil M O R; go_wp2_with (first | ((with_reducible refine gd_ 23 rfl ?_); refine index_event (s := s) (j := i) rfl rfl ?hx ?hy HZ.out HIL.out ?_; (case hx => first | rfl | (go_simp; done) | (go_simp; rfl)); (case hy => first | rfl | (go_simp; done) | (go_simp; rfl)); rw [← b8.out]))
 go_roundg gI
 case measure => omega
 case rel => exact ⟨z + 1, by go_num, ⟨i + 1, by have := HZ.out; omega, by have := HIj.out; omega, by have h_ := HSy.out.set1 (t := mixw o s (i + 1)) HIL.out (fun k hk => word_mix_ne hk); unfold cw at h_; rw [← b9.out] at h_; exact h_⟩, ⟨B.out.setCell a7.out _⟩, ⟨Go.Proofs.YtefhpdcafdhcaaaDoor.S.SetsAt.far b.out (Nat.ne_of_lt HNE.out) _⟩⟩))))
end Go.Proofs.YtefhpdcafdhcaaaDoor.S
end
section
namespace Go.Proofs.YtefhpdcafdhcaaaDoor.S
open Go Go.RowKit Go.Proofs Go.Proofs.YtefhpdcafdhcaaaDoorW.PrintWords Go.Proofs.YtefhpdcafdhcaaaDoorW.PrintLast Go.Proofs.YtefhpdcafdhcaaaDoorW.PrintMore Go.Proofs.YtefhpdcafdhcaaaDoor Go.Proofs.YtefhpdcafdhcaaaDoor.A FlowM
attribute [local go_sem] max2_int max_two
theorem run_part (W : World) (s j : Nat) (hj : j < 32) : (part 57 (cellsL [s]).toArray j).run Tryd.prog W = .ok (.int .u64 ((word s j : Nat) : Int)) W := by
 have h1 : (cellsL [s])[j]? = some (.int .u64 ((word s j : Nat) : Int)) := by
  have := cellsL_get [s] (i := 0) (j := j) (by simp) hj
  rw [Nat.mul_zero, Nat.zero_add] at this; rw [this]; rfl
 simp [part, isAgg, Sem.run_bind, run_underlying Tryd.underlying57, h1]
theorem run_same (W : World) (d s t : Nat) : (Op.equalIn (d + 2) 59 (setV s) (setV t)).run Tryd.prog W = .ok ((List.range 32).all fun j => word s j == word t j) W := by
 have l : (Tryd.prog.info? 57).map (·.size) = some 1 := by kernel_rfl
 cases hq : Tryd.prog.info? 57 with
 | none => simp [hq] at l
 | some f => (
 have hs : f.size = 1 := by simpa [hq] using l
 rw [show d + 2 = (d + 1) + 1 from rfl, Op.equalIn]; simp only [setV, Sem.run_bind, run_underlying Tryd.underlying59, Result.andThen_ok, sizeOf, typeInfo]
 simp [hq, hs]
 have key : ∀ n a, a + n ≤ 32 → (forIn (m := Sem) (List.range' a n) ((none, ()) : Option Bool × Unit) fun i _ => do
     let x ← part 57 (cellsL [s]).toArray i
     let y ← part 57 (cellsL [t]).toArray i
     let b ← Op.equalIn (d + 1) 57 x y
     if b = false then pure (ForInStep.done (some false, ())) else pure (ForInStep.yield (none, ()))).run Tryd.prog W = .ok (if (List.range' a n).all (fun j => word s j == word t j) then (none, ()) else (some false, ())) W := by
  intro n
  induction n with
  | zero => intro a _; simp
  | succ n ih =>
   intro a ha
   rw [List.range'_succ, List.forIn_cons]; simp only [Sem.run_bind, run_part W s a (by omega), run_part W t a (by omega), Result.andThen_ok, run_equalIn_int W d 57 .u64 .u64 _ _ Tryd.underlying57]
   by_cases he : word s a = word t a
   ·have p : (((word s a : Nat) : Int) == ((word t a : Nat) : Int)) = true := beq_iff_eq.2 (by omega)
    simp only [p, Bool.true_eq_false, if_false, Sem.run_pure, Result.andThen_ok]
    rw [ih (a + 1) (by omega), List.all_cons, beq_iff_eq.2 he, Bool.true_and]
   ·have p : (((word s a : Nat) : Int) == ((word t a : Nat) : Int)) = false := beq_eq_false_iff_ne.2 (by omega)
    simp only [p, if_true, Sem.run_pure, Result.andThen_ok]
    rw [List.all_cons, beq_eq_false_iff_ne.2 he, Bool.false_and, if_neg (by simp)]
 rw [key 32 0 (by omega), List.range_eq_range']
 cases h : (List.range' 0 32).all (fun j => word s j == word t j) <;> simp)
theorem same_iff {s t : Nat} (hs : s < 2 ^ (64 * 32)) (ht : t < 2 ^ (64 * 32)) : ((List.range 32).all fun j => word s j == word t j) = decide (s = t) := by
 by_cases h : s = t
 ·subst h; rw [decide_eq_true rfl]; simp
 {
 rw [decide_eq_false h]; refine Bool.eq_false_iff.2 fun hall => h ?_
 refine word_ext (m := 32) hs ht fun j hj => ?_
 have := List.all_eq_true.1 hall j (List.mem_range.2 hj)
 simpa using this}
theorem run_neq {o : Oper} {a : Act} {x y : Operand} {s t : Nat} (ho : o.op = .binOp .neq 59 x y 59) (hx : a.eval x = setV s) (hy : a.eval y = setV t) (hs : s < 2 ^ (64 * 32)) (ht : t < 2 ^ (64 * 32)) (W : World) :
  (execOp a.eval o).run Tryd.prog W = .ok (.value (.bool (!decide (s = t)))) W := by
 have h1 := run_same W 9998 s t; rw [same_iff hs ht] at h1; have b : (Op.equal 59 (setV s) (setV t)).run Tryd.prog W = .ok (decide (s = t)) W := h1
 unfold execOp
 simp only [ho, hx, hy, Sem.run_bind]
 unfold setV at b ⊢
 rw [run_eqGuard_agg W .neq 59 x y _ _ (by kernel_rfl)]
 simp only [Result.andThen_ok, binOp, Sem.run_bind, b, Sem.run_pure]
end Go.Proofs.YtefhpdcafdhcaaaDoor.S
end
section
namespace Go.Proofs.YtefhpdcafdhcaaaDoor.S
open Go Go.RowKit Go.Proofs Go.Proofs.YtefhpdcafdhcaaaDoorW.PrintWords Go.Proofs.YtefhpdcafdhcaaaDoorW.PrintLast Go.Proofs.YtefhpdcafdhcaaaDoorW.PrintMore Go.Proofs.YtefhpdcafdhcaaaDoor Go.Proofs.YtefhpdcafdhcaaaDoor.A FlowM
attribute [local go_sem] max2_int max_two
theorem made_zero (n : Nat) : madeCells (Array.replicate 32 (.int .u64 0 : Value)) (n * 32) = (cellsL (List.replicate n 0)).toArray := by
 apply Array.ext_getElem?
 intro k
 rw [show (cellsL (List.replicate n 0)).toArray[k]? = (cellsL (List.replicate n 0))[k]? from List.getElem?_toArray ..]
 by_cases hk : k < n * 32
 {
 have e : k = 32 * (k / 32) + k % 32 := by omega
 have hl : k / 32 < (List.replicate n 0).length := by rw [List.length_replicate]; omega
 have b : (List.replicate n 0).getD (k / 32) 0 = 0 := by rw [List.getD_eq_getElem?_getD, List.getElem?_eq_getElem hl, List.getElem_replicate]; rfl
 have h1 : (cellsL (List.replicate n 0))[k]? = some (cw 0 (k % 32)) := by {
 have := cellsL_get (List.replicate n 0) hl (show k % 32 < 32 by omega)
 rw [b, ← e] at this; exact this}
 rw [h1]; have l : k % 32 < (Array.replicate 32 (.int .u64 0 : Value)).size := by simp; omega
 simp only [madeCells, Array.getElem?_map, Array.getElem?_range, Array.size_replicate]
 rw [if_pos hk]; simp only [Option.map_some]
 rw [getElem!_pos _ _ (by simp; omega)]
 simp [cw, word]}
 {
 rw [List.getElem?_eq_none (by rw [cellsL_len, List.length_replicate]; omega)]
 rw [Array.getElem?_eq_none (by rw [size_madeCells]; omega)]}
theorem info59 : (Tryd.prog.info? 59).map (fun i => (i.zero, i.size, i.bytes)) = some (some (.agg (Array.replicate 32 (.int .u64 0))), 32, 256) := by kernel_rfl
theorem run_make59 (W : World) (n : Nat) (hn : n ≤ 1000000) : (Instr.makeSlice 55 (.int .i64 (n : Int)) (.int .i64 (n : Int))).run Tryd.prog W = .ok (.slice (some ⟨W.heap.size, 0, none⟩) n n) (W.alloc (.cells (cellsL (List.replicate n 0)).toArray 59)) := by
 obtain ⟨q, hi, hzz⟩ := Option.map_eq_some_iff.1 info59; simp only [Prod.mk.injEq] at hzz
 obtain ⟨b, l, p⟩ := hzz; have hr := run_make (P := Tryd.prog) W 55 59 q _ Tryd.underlying55 hi b .i64 .i64 (n : Int) (n : Int) (by omega) (by omega) (by rw [p]; omega) (by omega)
 simp only [Int.toNat_natCast] at hr
 rw [l] at hr; rw [hr]; have : (Value.agg (Array.replicate 32 (.int .u64 0))).cells = Array.replicate 32 (.int .u64 0 : Value) := rfl
 rw [this, made_zero]
section
variable {ops : Array Oper} {o : Oper} {rest : List Oper} {a : Act} {Q : Exit → Act → World → Prop}
theorem make_event {W : World} {x y : Operand} {k : Int} {n : Nat} (hgd : o.guard = none) (ho : o.op = .makeSlice 55 x y) (hx : a.eval x = .int .i64 k) (hy : a.eval y = .int .i64 k) (hk : k = (n : Int)) (hn : n ≤ 1000000)
  (h : ∀ g b, W.heap.size ≤ g → SetsAt b g (List.replicate n 0) → Below W.heap.size W b → wpList Tryd.prog ops Q rest (a.put o.dst (.slice (some ⟨g, 0, none⟩) n n)) b) : wpList Tryd.prog ops Q (o :: rest) a W := by
 subst hk; refine Kd.event_run hgd ?_ (h W.heap.size _ (Nat.le_refl _) (heap_alloc_new W _) (below_alloc (Below.refl _ _) _))
 unfold execOp
 simp only [ho, hx, hy, Sem.run_bind, run_make59 W n hn, Result.andThen_ok]
 rfl
theorem run_load59 {W : World} {g i off : Nat} {l : List Nat} {x : Operand} {s : Nat} (ho : o.op = .load 59 x) (hx : a.eval x = .pointer (some ⟨g, off, none⟩)) (he : off = 32 * i) (hS : SetsAt W g l) (hi : i < l.length) (hs : l.getD i 0 = s) :
  (execOp a.eval o).run Tryd.prog W = .ok (.value (setV s)) W := by
 subst he hs; unfold execOp
 simp only [ho, hx, Sem.run_bind, run_loadAt_mid W g (32 * i) 59 (cellsL [l.getD i 0]) (.array 32 57) (hS.range hi) Tryd.underlying59 rfl (size59 _), Result.andThen_ok]
 rfl
end
end Go.Proofs.YtefhpdcafdhcaaaDoor.S
end
section
namespace Go.Proofs.YtefhpdcafdhcaaaDoor.S
open Go Go.RowKit Go.Proofs Go.Proofs.YtefhpdcafdhcaaaDoorW.PrintWords Go.Proofs.YtefhpdcafdhcaaaDoorW.PrintLast Go.Proofs.YtefhpdcafdhcaaaDoorW.PrintMore Go.Proofs.YtefhpdcafdhcaaaDoor Go.Proofs.YtefhpdcafdhcaaaDoor.A FlowM
theorem below_setg {B : Nat} {w W : World} {g j : Nat} {v : Value} (h : Below B w W) (hg : B ≤ g) : Below B w (W.setCell ⟨g, j, none⟩ v) := h.setCell hg _
theorem grown_below {w0 w w1 : World} {row : Option Nat} (h : w0.grownBy w row) (hb : Below w.heap.size w w1) : w0.grownBy w1 row := grown_then h (grown_of hb)
theorem fine_good {m : Nat} (hm : m ≤ 2048) {y : S71} (h : Fine m y) : Good y := by
 refine ⟨fun hd => ?_, fun r hr => ?_⟩
 ·have := h.2.2.1 (by rw [← defs_hasD h]; exact hd); omega
 ·have := useList_fine h r hr; omega
theorem next_len (n : S69) : (next n).length ≤ 2 := by unfold next; split <;> (try split) <;> simp
theorem rd_L2_map (l : List S69) (j : Nat) (hj : j < l.length) : rd_L2 (l.map next) (j : Int) = next l[j] := by simp [rd_L2, hj]
theorem getD_bound {J : List Nat} {B : Nat} (h : ∀ s ∈ J, s < B) (b : 0 < B) (i : Nat) : J.getD i 0 < B := by
 rw [List.getD_eq_getElem?_getD]; rcases Nat.lt_or_ge i J.length with hi | hi
 ·rw [List.getElem?_eq_getElem hi]; exact h _ (List.getElem_mem hi)
 ·rw [List.getElem?_eq_none hi]; exact b
theorem getD_atR (l : List Nat) {i : Nat} (h : i < l.length) : l.getD i 0 = l[i] := by rw [List.getD_eq_getElem?_getD, List.getElem?_eq_getElem h]; rfl
theorem afterC2 {w : World} (nx : List Int) (An : Option Addr) (cn : Nat) (gi : Nat) (I : List Nat) (n cI : Nat) (hIn : I.length = n) (hn : Kd.C (Kd.int .i64) w An nx.length nx) (hI : SetsAt w gi I) (hb : ∀ s ∈ I, s < 2 ^ (64 * 32)) (hm : ∀ m ∈ nx, 0 ≤ m ∧ m < (n : Int)) (hl : nx.length ≤ 1000000) :
  Calls Tryd.prog 39 #[.slice An nx.length cn, .slice (some ⟨gi, 0, none⟩) n cI] w fun e w' => e = .returned (setV (after nx I)) ∧ Below w.heap.size w w' := by
 subst hIn; exact afterC w nx An cn gi I cI hn hI hb hm hl
theorem putC1 (w : World) (g : Nat) (x : Int) (s : Nat) (hs : SetsAt w g [s]) (b : 0 ≤ x) (h1 : x < 2048) :
  Calls Tryd.prog 36 #[.pointer (some ⟨g, 0, none⟩), .int .i64 x] w fun e w' => e = .returned (.tuple #[]) ∧ w.grownBy w' (some g) ∧ SetsAt w' g [put s x.toNat] := putC w g 0 x [s] hs (by simp) b h1
theorem backC1 (w : World) (g : Nat) (s : Nat) (y : S71) (b : Option Addr) (l : Nat) (hs : SetsAt w g [s]) (h6 : ∀ w', w.grownBy w' (some g) → Kd.C (Kd.int .i64) w' b y.f6.length y.f6) (p : y.f6.length ≤ l) (hy : Good y) :
  Calls Tryd.prog 53 #[.pointer (some ⟨g, 0, none⟩), .agg #[.int .i64 y.f0, .int .i64 y.f1, .int .i64 y.f2, .int .i64 y.f3, .int .i64 y.f4, .int .i32 y.f5, .slice b y.f6.length l]] w fun e w' => e = .returned (.tuple #[]) ∧ w.grownBy w' (some g) ∧ SetsAt w' g [back s y] := backC w g 0 [s] y b l hs (by simp) h6 p hy
theorem listC1 (w : World) (g n : Nat) (s : Nat) (hs : SetsAt w g [s]) (hn : n ≤ 2048) :
  Calls Tryd.prog 31 #[.pointer (some ⟨g, 0, none⟩), .int .i64 (n : Int)] w fun e w' => ∃ v : Value, e = .returned v ∧ Kd.R (Kd.int .i64) 3 w' w.heap.size (fun _ => True) v (regsL s n) ∧ Below w.heap.size w w' := listC w g 0 n [s] s hs (by simp) hn rfl
theorem hasC1 (w : World) (g : Nat) (x : Int) (s : Nat) (b : Bool) (hs : SetsAt w g [s]) (l : 0 ≤ x) (h1 : x < 2048) (hb : s.testBit x.toNat = b) :
  Calls Tryd.prog 34 #[.pointer (some ⟨g, 0, none⟩), .int .i64 x] w fun e w' => e = .returned (.bool b) ∧ Below w.heap.size w w' := hasC w g 0 x [s] b hs (by simp) l h1 hb
end Go.Proofs.YtefhpdcafdhcaaaDoor.S
end
section
namespace Go.Proofs.YtefhpdcafdhcaaaDoor.S
open Go Go.RowKit Go.Proofs Go.Proofs.YtefhpdcafdhcaaaDoorW.PrintWords Go.Proofs.YtefhpdcafdhcaaaDoorW.PrintLast Go.Proofs.YtefhpdcafdhcaaaDoorW.PrintMore Go.Proofs.YtefhpdcafdhcaaaDoor Go.Proofs.YtefhpdcafdhcaaaDoor.A Go.Proofs.YtefhpdcafdhcaaaDoor.B Go.Proofs.YtefhpdcafdhcaaaDoor.V FlowM
attribute [local go_sem] max2_int max_two
def lv.T17 : Bool × List (List Nat × List Nat) := (true, [([], []), ([], []), ([], []), ([1, 2], [1, 2]), ([3], [3]), ([0, 4], [0, 4])])
def lv.B17 : List Nat := [0, 0, 0, 6, 14, 31]
theorem lv.tab17 : rtab .any (opsOf Tryd.f38 17) = lv.T17 := by kernel_rfl
theorem lv.bits17 : waitsOk lv.T17.2 lv.B17 = true := by kernel_rfl
theorem liveC (k : Nat) (d2 : ByteArray) (d3 : Option Addr) (d4 : Nat) (a0 : List S83) (d5 : Option Addr) (d6 : Nat) (a1 : List S85) (d7 : Int) (d8 : Option Addr) (d9 : Nat) (b : List S69) (w : World) (K : Nat) (R : List Nat)
  (e0 : Kd.C k83 w d3 a0.length a0) (e1 : a0.length ≤ d4) (e2 : Kd.C k85 w d5 a1.length a1) (e3 : a1.length ≤ d6) (e4 : Kd.C k69 w d8 b.length b) (e5 : b.length ≤ d9)
  (h : flow_Successors.f k d2 a0 a1 d7 b = some (b.map next, 0)) (hT : Tab w) (m : Nat) (hm : m ≤ 2048) (hF : FineG m b) (hlen : b.length ≤ 1000000) (hlens : ∀ n ∈ b, n.f0.length ≤ 1000000) (hK : liveF b K (List.replicate b.length 0) = some R) :
  Calls Tryd.prog 38 #[.agg #[.string d2, .slice d3 a0.length d4, .slice d5 a1.length d6, .int .i64 d7, .slice d8 b.length d9]] w fun e w' => ∃ (g c : Nat) (v2 : Value), e = .returned (.tuple #[.slice (some ⟨g, 0, none⟩) b.length c, v2]) ∧ w.heap.size ≤ g ∧ SetsAt w' g R ∧ Kd.S (Kd.slice 3 (Kd.int .i64)) 27 w' w.heap.size (fun _ => True) v2 (b.map next) ∧ Below w.heap.size w w' := by
 obtain ⟨nx, hnx⟩ : ∃ nx, nx = b.map next := ⟨_, rfl⟩; rw [← hnx] at h ⊢
 have HNX := a_ hnx; have HNL : Aside0 (nx.length = b.length) := ⟨by rw [hnx, List.length_map]⟩
 have t8 := Tryd.underlying26; have t9 := Tryd.underlying69; have v0 := Tryd.underlying71; have HT := a_ hT; have s4 := a_ e0; have s5 := a_ e2; have o0 := a_ e4; have s6 := a_ e1; have s7 := a_ e3; have s8 := a_ e5; have HSU := a_ h; have HMM := a_ hm; have HF := a_ hF; have HLEN := a_ hlen; have HLENS := a_ hlens; have HK := a_ hK; clear hnx e0 e2 e4 e1 e3 e5 h hT hm hF hlen hlens hK; go_enter Tryd.func38, Tryd.ntmps38
 go_wp2_with (first | ((with_reducible refine gd_ 1 rfl ?_); refine q_box 1 26 #[.string d2, .slice d3 a0.length d4, .slice d5 a1.length d6, .int .i64 d7, .slice d8 b.length d9] ?_; intro g1 o1 w1 X o2; have o3 := a_ X; have b4 := a_ o2; have x3 : Aside0 (w.heap.size ≤ g1) := ⟨by rw [o1]; exact Nat.le_refl _⟩; clear o1 X o2; obtain ⟨v1, v3, v4, v6, v9⟩ := q_c5 o3.out) | (go_at_call 24; (with_reducible refine (flow_Successors.calls ⟨Kd.C_below s4.out b4.out, s6.out, Kd.C_below s5.out b4.out, s7.out, Kd.C_below o0.out b4.out, s8.out⟩ HSU.out (HT.out.below b4.out)).mono ?_); rintro e w5 ⟨v5, rfl, k0, k1⟩; obtain ⟨A5, c5, rfl⟩ := Kd.S_slice k0; have k2 := a_ (blk_below o3.out k1); have k3 := a_ (below_then b4.out b4.out.size k1); have s9 := a_ (Kd.S_lower k0 b4.out.size); clear k0 k1; obtain ⟨w2, w3, w4, w7, w8⟩ := q_c5 k2.out) | ((with_reducible refine gd_ 20 rfl ?_); refine make_event (n := b.length) rfl rfl ?hx ?hy rfl HLEN.out ?_; (case hx => first | rfl | (go_simp; done) | (go_simp; rfl)); (case hy => first | rfl | (go_simp; done) | (go_simp; rfl)); intro gI w6 hgI o4 i4; have k4 := a_ o4; have HGI : Aside0 (w.heap.size ≤ gI) := ⟨Nat.le_trans k3.out.size hgI⟩; have HNE : Aside0 (g1 ≠ gI) := ⟨fun e => by have := blk_lt k2.out; omega⟩; have o5 := a_ (blk_below k2.out i4); have o6 := a_ (below_then k3.out k3.out.size i4); have o7 := a_ (Kd.S_below s9.out i4); clear hgI o4 i4))
 go_loopg [7] K (fun gk v7 wx => ∃ c : Bool, v7 = .bool c ∧ Aside0 (∃ I, (c = true → liveF b gk I = some R) ∧ (c = false → I = R) ∧ SetsAt wx gI I ∧ I.length = b.length ∧ ∀ s ∈ I, s < 2 ^ m) ∧ Aside0 (w6.grownBy wx (some gI)))
 case atStart => exact ⟨true, rfl, ⟨List.replicate b.length 0, fun _ => HK.out, fun h => (by cases h), k4.out, List.length_replicate, (fun s hs => (by rw [(List.mem_replicate.1 hs).2]; exact Nat.two_pow_pos m))⟩, ⟨⟨rfl, rfl, rfl, Nat.le_refl _, fun _ _ _ => rfl⟩⟩⟩
 case round => (
 clear HK; obtain ⟨c, rfl, ⟨I, k5, k6, hSI, hIL, hIB⟩, HG⟩ := hrel; have HBx := a_ (below_grown o6.out HG.out HGI.out); have BKx := a_ (blk_grown o5.out HG.out (fun e => HNE.out (q_so e)))
 cases c with
 | false => (
 have t1 : Aside0 (SetsAt wr gI R) := ⟨by have := k6 rfl; rwa [this] at hSI⟩
 have t2 := a_ (S_sets o7.out k4.out (by decide) HG.out)
 clear k5 k6 hSI hIL hIB; go_wp2
 (try simp only [Exit.inBlock, Exit.then])
 refine bodyPost_ret (results_tmp2 rfl _ _ _) rfl ?_
 exact ⟨gI, _, _, rfl, HGI.out, t1.out, t2.out, HBx.out⟩)
 | true => (
 have i5 := k5 rfl; clear k5 k6; cases gk with
 | zero => cases i5
 | succ gO => (
 rw [liveF] at i5; have HV := a_ i5; have HSI := a_ hSI; have HIL := a_ hIL; have HIB := a_ hIB; clear i5 hSI hIL hIB; obtain ⟨i6, i7, i8, i9, j3⟩ := q_c5 BKx.out; have hw : wrap64 ((b.length : Int) - 1) = (b.length : Int) - 1 := wrap64_id (by omega) (by have := HLEN.out; omega)
 go_wp2
 go_loopg [7, 8] b.length (fun gk v7 v8 wy => ∃ (c : Bool) (x : Int), v7 = .bool c ∧ v8 = .int .i64 x ∧ Aside0 (∃ J, x = (gk : Int) - 1 ∧ gk ≤ b.length ∧ sweep b b.length I false = sweep b gk J c ∧ SetsAt wy gI J ∧ J.length = b.length ∧ ∀ s ∈ J, s < 2 ^ m) ∧ Aside0 (w6.grownBy wy (some gI)))
 case atStart => exact ⟨false, (b.length : Int) - 1, rfl, by rw [hw], ⟨I, rfl, Nat.le_refl _, rfl, HSI.out, HIL.out, HIB.out⟩, ⟨HG.out⟩⟩
 case round => (
 clear i6 i7 i8 i9 j3 hw HSI HIL HIB HG HBx BKx; obtain ⟨c, x, rfl, rfl, ⟨J, hx, hgk, hsw, hSJ, hJL, hJB⟩, HG⟩ := hrel; have HBx := a_ (below_grown o6.out HG.out HGI.out); have BKx := a_ (blk_grown o5.out HG.out (fun e => HNE.out (q_so e)))
 have hOx := S_sets o7.out k4.out (by decide) HG.out
 have HOx := a_ hOx; have HX := a_ hx; have HSW := a_ hsw; have HSJ := a_ hSJ; have HJL := a_ hJL; have HJB := a_ hJB; cases gk with
 | zero => (
 have c1 : decide (0 ≤ x) = false := decide_eq_false (by omega)
 clear hx hgk hsw hSJ hJL hJB hOx; go_wp2
 go_roundg gO
 case measure => omega
 case rel => (
 have hv := HV.out; rw [HSW.out, sweep] at hv; refine ⟨c, rfl, ⟨J, fun hc => ?_, fun hc => ?_, HSJ.out, HJL.out, HJB.out⟩, ⟨HG.out⟩⟩
 ·subst hc; rwa [if_pos rfl] at hv
 ·subst hc; rw [if_neg (by simp)] at hv; exact q_so hv))
 | succ gN => (
 have c1 : decide (0 ≤ x) = true := decide_eq_true (by omega)
 have hxn : x = (gN : Int) := by omega
 have hNl : gN < b.length := hgk
 have p0 : 0 ≤ x := by omega
 have qN : x < (b.length : Int) := by omega
 have qX : x < (nx.length : Int) := by have := HNL.out; omega
 obtain ⟨adN, A0, c0, e, k7, k8, k9, l4, l5, j5, hCI⟩ := at_T69 o0.out x p0 qN; cases e; obtain ⟨adX, AR, cR, e, hrow, hlrow, hCR⟩ := at_L2 (Kd.S_reads' hOx).2.2 x p0 qX; cases e; obtain ⟨z, hnd⟩ : ∃ z, z = rd_T69 b x := ⟨_, rfl⟩; rw [← hnd] at k7 k8 k9 l4 l5 j5 hCI
 have hndl : z = b[gN] := by rw [hnd, hxn]; simp [rd_T69, hNl]
 have hrl : rd_L2 nx x = next z := by rw [HNX.out, hxn, rd_L2_map _ _ hNl, hndl]
 obtain ⟨row, hrowe⟩ : ∃ row, row = next z := ⟨_, rfl⟩; rw [hrl, ← hrowe] at hrow hlrow hCR
 have HROW := a_ hrowe; have HCI := a_ hCI; have HCR := a_ hCR; have HND : Aside0 (z = b.getD gN nd0) := ⟨by rw [hndl, getD_at _ hNl]⟩
 have E := a_ hNl; have hndF : FineNd m b.length z := HF.out z (by rw [hndl]; exact List.getElem_mem _)
 have HNF := a_ hndF; have HNLEN : Aside0 (z.f0.length ≤ 1000000) := ⟨HLENS.out z (by rw [hndl]; exact List.getElem_mem _)⟩
 replace k7 := cell_old k7 HBx.out; replace k8 := cell_old k8 HBx.out; replace k9 := cell_old k9 HBx.out; replace l4 := cell_old l4 HBx.out; replace l5 := cell_old l5 HBx.out; obtain ⟨i6, i7, i8, i9, j3⟩ := q_c5 BKx.out; have hjr := HJB.out; replace p0 := eq_true p0; replace qN := eq_true qN; replace qX := eq_true qX; have o9 := hJL.symm; clear hx hgk hsw hSJ hJL hJB hOx hnd hndl hrl hrowe hCI hCR hNl hndF hxn hjr j5 hlrow o9; have j6 := HSJ.out.lt; have d0 := a_ j6; clear j6; by_cases hE : z.f1 = 1
 case pos => (
 have c2 : (z.f1 == 1) = true := beq_iff_eq.mpr hE
 have j7 : Aside0 (0 ≤ z.f2 ∧ z.f2 < 2048) := ⟨by have x5 := HNF.out.2.1 hE; have x6 := HMM.out; omega⟩
 have l6 := a_ hE; clear hE; go_wp2_with (first | ((with_reducible refine gd_ 9 rfl ?_); refine q_box 9 69 #[.slice none 0 0, .int .i64 0, .int .i64 0, .int .i64 0, .int .i64 0] ?_; intro G e6 w9 e7 b5; have e8 := a_ e7; have a2 := a_ b5; have a3 : Aside0 (wr.heap.size ≤ G) := ⟨by rw [e6]; exact Nat.le_refl _⟩; have p1 : G ≠ g1 := (by have := blk_lt BKx.out; omega); have p2 : g1 ≠ G := (by omega); have hra : (adX.add x.toNat).block < wr.heap.size := World.block_lt_of_cell? wr _ hrow; rw [add_block] at hra; have hrd : adX.block ≠ G := (by omega); have B : G ≠ adX.block := (by omega); have p3 : (⟨G, 0, none⟩ : Addr) ≠ adX.add x.toNat := (fun e_ => B ((congrArg Addr.block e_).trans (add_block _ _))); have p4 : (⟨G, 1, none⟩ : Addr) ≠ adX.add x.toNat := (fun e_ => B ((congrArg Addr.block e_).trans (add_block _ _))); have p5 : (⟨G, 2, none⟩ : Addr) ≠ adX.add x.toNat := (fun e_ => B ((congrArg Addr.block e_).trans (add_block _ _))); have p6 : (⟨G, 3, none⟩ : Addr) ≠ adX.add x.toNat := (fun e_ => B ((congrArg Addr.block e_).trans (add_block _ _))); have p7 : (⟨G, 4, none⟩ : Addr) ≠ adX.add x.toNat := (fun e_ => B ((congrArg Addr.block e_).trans (add_block _ _))); have l7 := cell_old hrow b5; clear e6 e7 b5; clear hra; obtain ⟨p8, p9, q1, q2, q3, q4, q5, q6, q7, q8⟩ := q_cf5 e8.out) | (go_at_call 39; (with_reducible refine (afterC2 row AR cR gI J b.length _ HJL.out ?hn ?hI ?hb ?hm ?hl).mono ?_); (case hn => exact Kd.C_below HCR.out (by (repeat (with_reducible refine below_setg ?_ a3.out)); exact a2.out)); (case hI => exact SetsAt.below HSJ.out (by (repeat (with_reducible refine below_setg ?_ a3.out)); exact a2.out) d0.out); (case hb => exact fun s hs => q_pw (HJB.out s hs) HMM.out); (case hm => exact fun q hq => by have := HNF.out.2.2 q (by rw [← HROW.out]; exact hq); exact this); (case hl => rw [HROW.out]; exact Nat.le_trans (next_len _) (by omega)); rintro e l8 ⟨rfl, L⟩; have M : Aside0 (Below wr.heap.size wr l8) := ⟨below_then (by (repeat (with_reducible refine below_setg ?_ a3.out)); exact a2.out) (Below.size (by (repeat (with_reducible refine below_setg ?_ a3.out)); exact a2.out)) L⟩; have a4 := a_ (blk_below (g := G) (o := .cells #[.slice A0 z.f0.length c0, .int .i64 z.f1, .int .i64 z.f2, .int .i64 z.f3, .int .i64 z.f4] 69 (0, 0)) (q_p e8.out) L); clear L) | ((with_reducible refine gd_ 10 rfl ?_); refine box_event ?hg (N := 10) ?hd (cs := (cellsL [0]).toArray) (t := 59) ?hr ?_; (case hd => rfl); (case hg => rfl); (case hr => rw [← zero_cells]; first | (go_simp; done) | (go_simp; rfl)); intro gA hgA l9 a5 O; have e9 : Aside0 (SetsAt l9 gA [0]) := ⟨a5⟩; have HGA : Aside0 (wr.heap.size ≤ gA) := ⟨by rw [hgA]; exact M.out.size⟩; have HNA : Aside0 (G ≠ gA) := ⟨by have := blk_lt a4.out; omega⟩; have f5 := a_ (below_then M.out M.out.size O); have f6 := a_ (blk_below a4.out O); clear hgA a5 O) | ((with_reducible refine gate_store (t := 59) (p := 10) rfl ?_); refine put_event (g := gA) (i := 0) (off := 0) (l := [0]) (s := after row J) rfl rfl rfl ?hx rfl ?hy e9.out (by simp) ?_; (case hx => first | rfl | (go_simp; done) | (go_simp; rfl)); (case hy => first | rfl | (go_simp; done) | (go_simp; rfl)); intro n0 T a6; have f7 := a_ a6; have f8 := a_ (below_grown f5.out T HGA.out); have a7 := a_ (blk_grown f6.out T (fun e => HNA.out (q_so e))); clear T a6; obtain ⟨f9, g0, g2, g3, g4⟩ := q_c5 a7.out) | (go_at_call 36; (with_reducible refine (putC1 _ gA z.f2 (after row J) f7.out j7.out.1 j7.out.2).mono ?_); rintro e q9 ⟨rfl, g5, j8⟩; have r0 := a_ j8; have r1 := a_ (below_grown f8.out g5 HGA.out); have j9 := a_ (blk_grown a7.out g5 (fun e => HNA.out (q_so e))); clear g5 j8; obtain ⟨r2, r3, r4, r5, r6⟩ := q_c5 j9.out))
 obtain ⟨s1, b6⟩ : ∃ s1, s1 = atEnd z (after row J) := ⟨_, rfl⟩; have n1 : Aside0 (SetsAt q9 gA [s1]) := ⟨by rw [b6, atEnd, if_pos l6.out]; exact r0.out⟩
 have HSE := a_ b6; clear b6; have g6 : wrap64 ((z.f0.length : Int) - 1) = (z.f0.length : Int) - 1 := wrap64_id (by omega) (by have := HNLEN.out; omega)
 go_loopg [11] z.f0.length (fun gz n2 wz => ∃ y : Int, n2 = .int .i64 y ∧ Aside0 (y = (gz : Int) - 1 ∧ gz ≤ z.f0.length ∧ SetsAt wz gA [(z.f0.drop gz).foldr (fun x s => back s x) s1]) ∧ Aside0 (q9.grownBy wz (some gA)))
 case atStart => exact ⟨(z.f0.length : Int) - 1, by rw [g6], ⟨rfl, Nat.le_refl _, by rw [List.drop_length]; exact n1.out⟩, ⟨⟨rfl, rfl, rfl, Nat.le_refl _, fun _ _ _ => rfl⟩⟩⟩
 case round => (
 clear g6 r2 r3 r4 r5 r6 f9 g0 g2 g3 g4; obtain ⟨y, rfl, ⟨hy, hgz, hSz⟩, HGz⟩ := hrel; have HBz := a_ (below_grown r1.out HGz.out HGA.out); have BKz := a_ (blk_grown j9.out HGz.out (fun e => HNA.out (q_so e)))
 have HSz := a_ hSz; have HY := a_ hy; cases gk with
 | zero => (
 have c1 : decide (0 ≤ y) = false := decide_eq_false (by omega)
 have hnow : (z.f0.drop 0).foldr (fun x s => back s x) s1 = transfer z row J := by rw [HSE.out, List.drop_zero, transfer]; rfl
 rw [hnow] at hSz; obtain ⟨now, hnw⟩ : ∃ now, now = transfer z row J := ⟨_, rfl⟩; rw [← hnw] at hSz; have HNOW := a_ hnw; have HSN := a_ hSz; clear hy hgz hSz hnow hnw HSz; have HJz : Aside0 (SetsAt wr gI J) := ⟨(HSJ.out.below HBz.out d0.out)⟩
 have n3 : Aside0 (now < 2 ^ (64 * 32)) := ⟨Nat.lt_of_lt_of_le (by rw [HNOW.out]; exact transfer_lt HNF.out row HJB.out) (Nat.pow_le_pow_right (by decide) HMM.out)⟩
 have n4 : Aside0 (J.getD gN 0 < 2 ^ (64 * 32)) := ⟨getD_bound (fun s hs => q_pw (HJB.out s hs) HMM.out) (Nat.two_pow_pos _) gN⟩
 have HXT : Aside0 (x.toNat * 32 = 32 * gN) := ⟨by have := HX.out; omega⟩
 have a9 : Aside0 (gN < J.length) := ⟨by rw [HJL.out]; exact E.out⟩
 obtain ⟨bq, hbq⟩ : ∃ bq : Bool, bq = !decide (now = J.getD gN 0) := ⟨_, rfl⟩; have HBQ := a_ hbq; clear hbq; go_upto_region 17 with (fail)
 refine q_s 6 (S := fun W' => SetsAt W' gA [now] ∧ SetsAt W' gI J) ⟨HSN.out.drew, HJz.out.drew⟩ (fun F => ?_)
 refine with_tabW lv.tab17 lv.bits17 (fun D g7 => ?_)
 refine qv_ 1 D ?_
 refine qv_ 2 D ?_
 refine qv_ 3 D ?_
 refine qt_ (v := setV now) 0 D g7 F ?_ (hy := by intro w' s0; exact run_load59 (i := 0) rfl rfl rfl s0.1 (by simp) rfl)
 refine qt_ (v := setV (J.getD gN 0)) 4 D g7 F ?_ (hy := by intro w' s0; exact run_load59 (i := gN) rfl rfl HXT.out s0.2 a9.out rfl)
 refine qv_ (v := .bool bq) 5 D ?_ (hy := by intro w'; rw [HBQ.out]; exact run_neq rfl rfl rfl n3.out n4.out w')
 refine done_ (done_of D.out (by kernel_rfl)) ?_
 clear D g7 F; have hsw := HSW.out; rw [sweep, ← HND.out, ← HROW.out, ← HNOW.out] at hsw; have hq := HBQ.out; cases bq with
 | false => (
 have hne : now = J.getD gN 0 := by simpa using hq
 rw [if_pos hne] at hsw; have U := a_ hsw; clear hsw hne hq; go_wp2
 go_roundg gN
 case measure => omega
 case rel => exact ⟨c, wrap64 (x - 1), rfl, rfl, ⟨J, by rw [HX.out, wrap64_id (by omega) (by have := E.out; have := HLEN.out; omega)]; omega, Nat.le_of_lt E.out, U.out, HJz.out.drew, HJL.out, HJB.out⟩, ⟨grown_drew (grown_below HG.out HBz.out)⟩⟩)
 | true => (
 have hne : ¬ now = J.getD gN 0 := by simpa using hq
 rw [if_neg hne] at hsw; have U := a_ hsw; clear hsw hne hq; go_wp2_with (first | ((with_reducible refine gd_ 69 rfl ?_); refine load_event (g := gA) (i := 0) (off := 0) (l := [now]) (s := now) rfl rfl ?hx rfl HSN.out.drew (by simp) rfl ?_; (case hx => first | rfl | (go_simp; done) | (go_simp; rfl))) | ((with_reducible refine gate_store (t := 59) (p := 70) rfl ?_); refine put_event (g := gI) (i := gN) (off := x.toNat * 32) (l := J) (s := now) rfl rfl rfl ?hx HXT.out ?hy HJz.out.drew a9.out ?_; (case hx => first | rfl | (go_simp; done) | (go_simp; rfl)); (case hy => first | rfl | (go_simp; done) | (go_simp; rfl)); intro t3 b0 b1; have g8 := a_ b1; have i0 := a_ (grown_then (grown_drew (grown_below HG.out HBz.out)) b0); clear b0 b1))
 go_roundg gN
 case measure => omega
 case rel => exact ⟨true, wrap64 (x - 1), rfl, rfl, ⟨J.set gN now, by rw [HX.out, wrap64_id (by omega) (by have := E.out; have := HLEN.out; omega)]; omega, Nat.le_of_lt E.out, U.out, g8.out, by rw [List.length_set]; exact HJL.out, fun s hs => (by rcases List.mem_or_eq_of_mem_set hs with h_ | h_; exact HJB.out s h_; rw [h_, HNOW.out]; exact transfer_lt HNF.out row HJB.out)⟩, ⟨i0.out⟩⟩))
 | succ gO => (
 have c1 : decide (0 ≤ y) = true := decide_eq_true (by omega)
 have hyn : y = (gO : Int) := by omega
 have hOl : gO < z.f0.length := hgz
 have p0 : 0 ≤ y := by omega
 have q0 : y < (z.f0.length : Int) := by omega
 obtain ⟨adI, A6, c6, e, b7, X, b8, b9, c3, c4, c8, V, c9⟩ := at_T71 HCI.out y p0 q0; cases e; obtain ⟨p, hp⟩ : ∃ p, p = rd_T71 z.f0 y := ⟨_, rfl⟩; rw [← hp] at b7 X b8 b9 c3 c4 c8 V c9
 have hpl : p = z.f0[gO] := by rw [hp, hyn]; simp [rd_T71, hOl]
 have HDR : Aside0 ((z.f0.drop gO).foldr (fun x s => back s x) s1 = back ((z.f0.drop (gO + 1)).foldr (fun x s => back s x) s1) p) := ⟨by rw [List.drop_eq_getElem_cons hOl, List.foldr_cons, ← hpl]⟩
 have HGD : Aside0 (Good p) := ⟨fine_good HMM.out (HNF.out.1 p (by rw [hpl]; exact List.getElem_mem _))⟩
 have n7 := a_ c9; have n8 := a_ V; have HBw := a_ (below_then HBx.out HBx.out.size HBz.out); replace b7 := cell_old b7 HBw.out; replace X := cell_old X HBw.out; replace b8 := cell_old b8 HBw.out; replace b9 := cell_old b9 HBw.out; replace c3 := cell_old c3 HBw.out; replace c4 := cell_old c4 HBw.out; replace c8 := cell_old c8 HBw.out; replace p0 := eq_true p0; replace q0 := eq_true q0; obtain ⟨r7, r8, r9, s2, s3⟩ := q_c5 BKz.out; obtain ⟨sO, hsO⟩ : ∃ sO, sO = (z.f0.drop (gO + 1)).foldr (fun x s => back s x) s1 := ⟨_, rfl⟩
 rw [← hsO] at hSz HDR
 have HSO := a_ hSz; have HHO := a_ hgz; clear hy hgz hSz hyn hp hpl c9 V hOl hsO HSz; go_wp2_with (first | (go_at_call 53; (with_reducible refine (backC1 _ gA sO p A6 c6 HSO.out ?h6 n8.out HGD.out).mono ?_); (case h6 => exact fun w' hg => Kd.C_below n7.out (below_then HBx.out HBx.out.size (below_grown HBz.out hg HGA.out))); rintro e t6 ⟨rfl, b2, b3⟩; have i1 := a_ b3; have i2 := a_ (grown_then HGz.out b2); clear b2 b3))
 go_roundg gO
 case measure => omega
 case rel => exact ⟨wrap64 (y - 1), rfl, ⟨by rw [HY.out, wrap64_id (by omega) (by have := HNLEN.out; have := HHO.out; omega)]; omega, Nat.le_of_lt HHO.out, by rw [HDR.out]; exact i1.out⟩, ⟨i2.out⟩⟩)))
 case neg => (
 have c2 : (z.f1 == 1) = false := beq_eq_false_iff_ne.mpr hE
 have l6 := a_ hE; clear hE; go_wp2_with (first | ((with_reducible refine gd_ 9 rfl ?_); refine q_box 9 69 #[.slice none 0 0, .int .i64 0, .int .i64 0, .int .i64 0, .int .i64 0] ?_; intro G e6 w9 e7 b5; have e8 := a_ e7; have a2 := a_ b5; have a3 : Aside0 (wr.heap.size ≤ G) := ⟨by rw [e6]; exact Nat.le_refl _⟩; have p1 : G ≠ g1 := (by have := blk_lt BKx.out; omega); have p2 : g1 ≠ G := (by omega); have hra : (adX.add x.toNat).block < wr.heap.size := World.block_lt_of_cell? wr _ hrow; rw [add_block] at hra; have hrd : adX.block ≠ G := (by omega); have B : G ≠ adX.block := (by omega); have p3 : (⟨G, 0, none⟩ : Addr) ≠ adX.add x.toNat := (fun e_ => B ((congrArg Addr.block e_).trans (add_block _ _))); have p4 : (⟨G, 1, none⟩ : Addr) ≠ adX.add x.toNat := (fun e_ => B ((congrArg Addr.block e_).trans (add_block _ _))); have p5 : (⟨G, 2, none⟩ : Addr) ≠ adX.add x.toNat := (fun e_ => B ((congrArg Addr.block e_).trans (add_block _ _))); have p6 : (⟨G, 3, none⟩ : Addr) ≠ adX.add x.toNat := (fun e_ => B ((congrArg Addr.block e_).trans (add_block _ _))); have p7 : (⟨G, 4, none⟩ : Addr) ≠ adX.add x.toNat := (fun e_ => B ((congrArg Addr.block e_).trans (add_block _ _))); have l7 := cell_old hrow b5; clear e6 e7 b5; clear hra; obtain ⟨p8, p9, q1, q2, q3, q4, q5, q6, q7, q8⟩ := q_cf5 e8.out) | (go_at_call 39; (with_reducible refine (afterC2 row AR cR gI J b.length _ HJL.out ?hn ?hI ?hb ?hm ?hl).mono ?_); (case hn => exact Kd.C_below HCR.out (by (repeat (with_reducible refine below_setg ?_ a3.out)); exact a2.out)); (case hI => exact SetsAt.below HSJ.out (by (repeat (with_reducible refine below_setg ?_ a3.out)); exact a2.out) d0.out); (case hb => exact fun s hs => q_pw (HJB.out s hs) HMM.out); (case hm => exact fun q hq => by have := HNF.out.2.2 q (by rw [← HROW.out]; exact hq); exact this); (case hl => rw [HROW.out]; exact Nat.le_trans (next_len _) (by omega)); rintro e l8 ⟨rfl, L⟩; have M : Aside0 (Below wr.heap.size wr l8) := ⟨below_then (by (repeat (with_reducible refine below_setg ?_ a3.out)); exact a2.out) (Below.size (by (repeat (with_reducible refine below_setg ?_ a3.out)); exact a2.out)) L⟩; have a4 := a_ (blk_below (g := G) (o := .cells #[.slice A0 z.f0.length c0, .int .i64 z.f1, .int .i64 z.f2, .int .i64 z.f3, .int .i64 z.f4] 69 (0, 0)) (q_p e8.out) L); clear L) | ((with_reducible refine gd_ 10 rfl ?_); refine box_event ?hg (N := 10) ?hd (cs := (cellsL [0]).toArray) (t := 59) ?hr ?_; (case hd => rfl); (case hg => rfl); (case hr => rw [← zero_cells]; first | (go_simp; done) | (go_simp; rfl)); intro gA hgA l9 a5 O; have e9 : Aside0 (SetsAt l9 gA [0]) := ⟨a5⟩; have HGA : Aside0 (wr.heap.size ≤ gA) := ⟨by rw [hgA]; exact M.out.size⟩; have HNA : Aside0 (G ≠ gA) := ⟨by have := blk_lt a4.out; omega⟩; have f5 := a_ (below_then M.out M.out.size O); have f6 := a_ (blk_below a4.out O); clear hgA a5 O) | ((with_reducible refine gate_store (t := 59) (p := 10) rfl ?_); refine put_event (g := gA) (i := 0) (off := 0) (l := [0]) (s := after row J) rfl rfl rfl ?hx rfl ?hy e9.out (by simp) ?_; (case hx => first | rfl | (go_simp; done) | (go_simp; rfl)); (case hy => first | rfl | (go_simp; done) | (go_simp; rfl)); intro n0 T a6; have f7 := a_ a6; have f8 := a_ (below_grown f5.out T HGA.out); have a7 := a_ (blk_grown f6.out T (fun e => HNA.out (q_so e))); clear T a6; obtain ⟨f9, g0, g2, g3, g4⟩ := q_c5 a7.out))
 obtain ⟨s1, b6⟩ : ∃ s1, s1 = atEnd z (after row J) := ⟨_, rfl⟩; have n1 : Aside0 (SetsAt n0 gA [s1]) := ⟨by rw [b6, atEnd, if_neg l6.out]; exact f7.out⟩
 have HSE := a_ b6; clear b6; have g6 : wrap64 ((z.f0.length : Int) - 1) = (z.f0.length : Int) - 1 := wrap64_id (by omega) (by have := HNLEN.out; omega)
 go_loopg [11] z.f0.length (fun gz n2 wz => ∃ y : Int, n2 = .int .i64 y ∧ Aside0 (y = (gz : Int) - 1 ∧ gz ≤ z.f0.length ∧ SetsAt wz gA [(z.f0.drop gz).foldr (fun x s => back s x) s1]) ∧ Aside0 (n0.grownBy wz (some gA)))
 case atStart => exact ⟨(z.f0.length : Int) - 1, by rw [g6], ⟨rfl, Nat.le_refl _, by rw [List.drop_length]; exact n1.out⟩, ⟨⟨rfl, rfl, rfl, Nat.le_refl _, fun _ _ _ => rfl⟩⟩⟩
 case round => (
 clear g6 f9 g0 g2 g3 g4; obtain ⟨y, rfl, ⟨hy, hgz, hSz⟩, HGz⟩ := hrel; have HBz := a_ (below_grown f8.out HGz.out HGA.out); have BKz := a_ (blk_grown a7.out HGz.out (fun e => HNA.out (q_so e)))
 have HSz := a_ hSz; have HY := a_ hy; cases gk with
 | zero => (
 have c1 : decide (0 ≤ y) = false := decide_eq_false (by omega)
 have hnow : (z.f0.drop 0).foldr (fun x s => back s x) s1 = transfer z row J := by rw [HSE.out, List.drop_zero, transfer]; rfl
 rw [hnow] at hSz; obtain ⟨now, hnw⟩ : ∃ now, now = transfer z row J := ⟨_, rfl⟩; rw [← hnw] at hSz; have HNOW := a_ hnw; have HSN := a_ hSz; clear hy hgz hSz hnow hnw HSz; have HJz : Aside0 (SetsAt wr gI J) := ⟨(HSJ.out.below HBz.out d0.out)⟩
 have n3 : Aside0 (now < 2 ^ (64 * 32)) := ⟨Nat.lt_of_lt_of_le (by rw [HNOW.out]; exact transfer_lt HNF.out row HJB.out) (Nat.pow_le_pow_right (by decide) HMM.out)⟩
 have n4 : Aside0 (J.getD gN 0 < 2 ^ (64 * 32)) := ⟨getD_bound (fun s hs => q_pw (HJB.out s hs) HMM.out) (Nat.two_pow_pos _) gN⟩
 have HXT : Aside0 (x.toNat * 32 = 32 * gN) := ⟨by have := HX.out; omega⟩
 have a9 : Aside0 (gN < J.length) := ⟨by rw [HJL.out]; exact E.out⟩
 obtain ⟨bq, hbq⟩ : ∃ bq : Bool, bq = !decide (now = J.getD gN 0) := ⟨_, rfl⟩; have HBQ := a_ hbq; clear hbq; go_upto_region 17 with (fail)
 refine q_s 6 (S := fun W' => SetsAt W' gA [now] ∧ SetsAt W' gI J) ⟨HSN.out.drew, HJz.out.drew⟩ (fun F => ?_)
 refine with_tabW lv.tab17 lv.bits17 (fun D i3 => ?_)
 refine qv_ 1 D ?_
 refine qv_ 2 D ?_
 refine qv_ 3 D ?_
 refine qt_ (v := setV now) 0 D i3 F ?_ (hy := by intro w' s0; exact run_load59 (i := 0) rfl rfl rfl s0.1 (by simp) rfl)
 refine qt_ (v := setV (J.getD gN 0)) 4 D i3 F ?_ (hy := by intro w' s0; exact run_load59 (i := gN) rfl rfl HXT.out s0.2 a9.out rfl)
 refine qv_ (v := .bool bq) 5 D ?_ (hy := by intro w'; rw [HBQ.out]; exact run_neq rfl rfl rfl n3.out n4.out w')
 refine done_ (done_of D.out (by kernel_rfl)) ?_
 clear D i3 F; have hsw := HSW.out; rw [sweep, ← HND.out, ← HROW.out, ← HNOW.out] at hsw; have hq := HBQ.out; cases bq with
 | false => (
 have hne : now = J.getD gN 0 := by simpa using hq
 rw [if_pos hne] at hsw; have U := a_ hsw; clear hsw hne hq; go_wp2
 go_roundg gN
 case measure => omega
 case rel => exact ⟨c, wrap64 (x - 1), rfl, rfl, ⟨J, by rw [HX.out, wrap64_id (by omega) (by have := E.out; have := HLEN.out; omega)]; omega, Nat.le_of_lt E.out, U.out, HJz.out.drew, HJL.out, HJB.out⟩, ⟨grown_drew (grown_below HG.out HBz.out)⟩⟩)
 | true => (
 have hne : ¬ now = J.getD gN 0 := by simpa using hq
 rw [if_neg hne] at hsw; have U := a_ hsw; clear hsw hne hq; go_wp2_with (first | ((with_reducible refine gd_ 69 rfl ?_); refine load_event (g := gA) (i := 0) (off := 0) (l := [now]) (s := now) rfl rfl ?hx rfl HSN.out.drew (by simp) rfl ?_; (case hx => first | rfl | (go_simp; done) | (go_simp; rfl))) | ((with_reducible refine gate_store (t := 59) (p := 70) rfl ?_); refine put_event (g := gI) (i := gN) (off := x.toNat * 32) (l := J) (s := now) rfl rfl rfl ?hx HXT.out ?hy HJz.out.drew a9.out ?_; (case hx => first | rfl | (go_simp; done) | (go_simp; rfl)); (case hy => first | rfl | (go_simp; done) | (go_simp; rfl)); intro t3 b0 b1; have g8 := a_ b1; have i0 := a_ (grown_then (grown_drew (grown_below HG.out HBz.out)) b0); clear b0 b1))
 go_roundg gN
 case measure => omega
 case rel => exact ⟨true, wrap64 (x - 1), rfl, rfl, ⟨J.set gN now, by rw [HX.out, wrap64_id (by omega) (by have := E.out; have := HLEN.out; omega)]; omega, Nat.le_of_lt E.out, U.out, g8.out, by rw [List.length_set]; exact HJL.out, fun s hs => (by rcases List.mem_or_eq_of_mem_set hs with h_ | h_; exact HJB.out s h_; rw [h_, HNOW.out]; exact transfer_lt HNF.out row HJB.out)⟩, ⟨i0.out⟩⟩))
 | succ gO => (
 have c1 : decide (0 ≤ y) = true := decide_eq_true (by omega)
 have hyn : y = (gO : Int) := by omega
 have hOl : gO < z.f0.length := hgz
 have p0 : 0 ≤ y := by omega
 have q0 : y < (z.f0.length : Int) := by omega
 obtain ⟨adI, A6, c6, e, b7, X, b8, b9, c3, c4, c8, V, c9⟩ := at_T71 HCI.out y p0 q0; cases e; obtain ⟨p, hp⟩ : ∃ p, p = rd_T71 z.f0 y := ⟨_, rfl⟩; rw [← hp] at b7 X b8 b9 c3 c4 c8 V c9
 have hpl : p = z.f0[gO] := by rw [hp, hyn]; simp [rd_T71, hOl]
 have HDR : Aside0 ((z.f0.drop gO).foldr (fun x s => back s x) s1 = back ((z.f0.drop (gO + 1)).foldr (fun x s => back s x) s1) p) := ⟨by rw [List.drop_eq_getElem_cons hOl, List.foldr_cons, ← hpl]⟩
 have HGD : Aside0 (Good p) := ⟨fine_good HMM.out (HNF.out.1 p (by rw [hpl]; exact List.getElem_mem _))⟩
 have n7 := a_ c9; have n8 := a_ V; have HBw := a_ (below_then HBx.out HBx.out.size HBz.out); replace b7 := cell_old b7 HBw.out; replace X := cell_old X HBw.out; replace b8 := cell_old b8 HBw.out; replace b9 := cell_old b9 HBw.out; replace c3 := cell_old c3 HBw.out; replace c4 := cell_old c4 HBw.out; replace c8 := cell_old c8 HBw.out; replace p0 := eq_true p0; replace q0 := eq_true q0; obtain ⟨r7, r8, r9, s2, s3⟩ := q_c5 BKz.out; obtain ⟨sO, hsO⟩ : ∃ sO, sO = (z.f0.drop (gO + 1)).foldr (fun x s => back s x) s1 := ⟨_, rfl⟩
 rw [← hsO] at hSz HDR
 have HSO := a_ hSz; have HHO := a_ hgz; clear hy hgz hSz hyn hp hpl c9 V hOl hsO HSz; go_wp2_with (first | (go_at_call 53; (with_reducible refine (backC1 _ gA sO p A6 c6 HSO.out ?h6 n8.out HGD.out).mono ?_); (case h6 => exact fun w' hg => Kd.C_below n7.out (below_then HBx.out HBx.out.size (below_grown HBz.out hg HGA.out))); rintro e t6 ⟨rfl, b2, b3⟩; have i1 := a_ b3; have i2 := a_ (grown_then HGz.out b2); clear b2 b3))
 go_roundg gO
 case measure => omega
 case rel => exact ⟨wrap64 (y - 1), rfl, ⟨by rw [HY.out, wrap64_id (by omega) (by have := HNLEN.out; have := HHO.out; omega)]; omega, Nat.le_of_lt HHO.out, by rw [HDR.out]; exact i1.out⟩, ⟨i2.out⟩⟩))))))))
end Go.Proofs.YtefhpdcafdhcaaaDoor.S
end
section
namespace Go.Proofs.YtefhpdcafdhcaaaDoor.S
open Go Go.RowKit Go.Proofs Go.Proofs.YtefhpdcafdhcaaaDoorW.PrintWords Go.Proofs.YtefhpdcafdhcaaaDoorW.PrintLast Go.Proofs.YtefhpdcafdhcaaaDoorW.PrintMore Go.Proofs.YtefhpdcafdhcaaaDoor Go.Proofs.YtefhpdcafdhcaaaDoor.A FlowM
attribute [local go_sem] max2_int max_two
set_option linter.unusedVariables false
set_option linter.unusedSimpArgs false
theorem listC2 {w : World} (g off i n : Nat) (l : List Nat) (s : Nat) (he : off = 32 * i) (hs : SetsAt w g l) (hi : i < l.length) (hn : n ≤ 2048) (hse : l.getD i 0 = s) :
  Calls Tryd.prog 31 #[.pointer (some ⟨g, off, none⟩), .int .i64 (n : Int)] w fun e w' => ∃ v : Value, e = .returned v ∧ Kd.R (Kd.int .i64) 3 w' w.heap.size (fun _ => True) v (regsL s n) ∧ Below w.heap.size w w' := by
 subst he; exact listC w g i n l s hs hi hn hse
abbrev LiveCall (w : World) (v : Value) (n : Nat) (R : List Nat) (nx : List (List Int)) : Prop := ∀ w0, Below w.heap.size w w0 → Calls Tryd.prog 38 #[v] w0 fun e w' => ∃ (g c : Nat) (b : Value), e = .returned (.tuple #[.slice (some ⟨g, 0, none⟩) n c, b]) ∧ w0.heap.size ≤ g ∧ SetsAt w' g R ∧ Kd.S (Kd.slice 3 (Kd.int .i64)) 27 w' w0.heap.size (fun _ => True) b nx ∧ Below w0.heap.size w0 w'
abbrev FitsCall (w : World) (v : Value) (b : Int) : Prop := ∀ w0, Below w.heap.size w w0 → Calls Tryd.prog 29 #[v] w0 fun e w' => e = .returned (.int .i64 b) ∧ Below w0.heap.size w0 w'
theorem clashesE (w : World) (nm : ByteArray) (E : Option Addr) (F b : Nat) (G : Option Addr) (I l : Nat) (rg : Int) (J : Option Addr) (L p : Nat) (z : Int) (M : z ≠ 0) (hF : FitsCall w (.agg #[.string nm, .slice E F b, .slice G I l, .int .i64 (rg : Int), .slice J L p]) z) :
  Calls Tryd.prog 18 #[(.agg #[.string nm, .slice E F b, .slice G I l, .int .i64 (rg : Int), .slice J L p])] w fun e w' => e = .returned (.tuple #[.slice none 0 0, .int .i64 z]) ∧ Below w.heap.size w w' := by
 have HFI := a_ hF; clear hF; have S := Tryd.underlying26; have c0 : (z != 0) = true := bne_iff_ne.mpr M
 have c0b : decide (z = 0) = false := decide_eq_false M
 clear M; go_enter Tryd.func18, Tryd.ntmps18
 go_wp2_with (first | ((with_reducible refine gd_ 1 rfl ?_); refine q_box 1 26 #[.string nm, .slice E F b, .slice G I l, .int .i64 (rg : Int), .slice J L p] ?_; intro g1 N w1 B C; have D := a_ B; have q := a_ C; clear N B C; obtain ⟨T, U, V, X, a0⟩ := q_c5 D.out) | (go_at_call 29; (with_reducible refine (HFI.out _ q.out).mono ?_); rintro e w2 ⟨rfl, y⟩; have O := a_ (blk_below D.out y); have R := a_ (below_then q.out q.out.size y); clear y; obtain ⟨a1, a2, a3, a4, a5⟩ := q_c5 O.out))
 (try simp only [Exit.inBlock, Exit.then])
 refine bodyPost_ret (results_tmp2 rfl _ _ _) rfl ?_
 exact ⟨rfl, R.out⟩
theorem rightE (w : World) (nm : ByteArray) (E : Option Addr) (F b : Nat) (G : Option Addr) (I l : Nat) (rg : Int) (J : Option Addr) (L p : Nat) (AP : Option Addr) (nP cP : Nat) (kk : Int) (z : Int) (M : z ≠ 0) (hF : FitsCall w (.agg #[.string nm, .slice E F b, .slice G I l, .int .i64 (rg : Int), .slice J L p]) z) :
  Calls Tryd.prog 9 #[(.agg #[.string nm, .slice E F b, .slice G I l, .int .i64 (rg : Int), .slice J L p]), .slice AP nP cP, .int .i64 kk] w fun e w' => e = .returned (.tuple #[.bool false, .int .i64 z]) ∧ Below w.heap.size w w' := by
 have HFI := a_ hF; clear hF; have S := Tryd.underlying26; have c0 : (z != 0) = true := bne_iff_ne.mpr M
 have c0b : decide (z = 0) = false := decide_eq_false M
 clear M; go_enter Tryd.func9, Tryd.ntmps9
 go_wp2_with (first | ((with_reducible refine gd_ 3 rfl ?_); refine q_box 3 26 #[.string nm, .slice E F b, .slice G I l, .int .i64 (rg : Int), .slice J L p] ?_; intro g1 N w1 B C; have D := a_ B; have q := a_ C; clear N B C; obtain ⟨T, U, V, X, a0⟩ := q_c5 D.out) | (go_at_call 29; (with_reducible refine (HFI.out _ q.out).mono ?_); rintro e w2 ⟨rfl, y⟩; have O := a_ (blk_below D.out y); have R := a_ (below_then q.out q.out.size y); clear y; obtain ⟨a1, a2, a3, a4, a5⟩ := q_c5 O.out))
 (try simp only [Exit.inBlock, Exit.then])
 refine bodyPost_ret (results_tmp2 rfl _ _ _) rfl ?_
 exact ⟨rfl, R.out⟩
theorem assignE (w : World) (nm : ByteArray) (E : Option Addr) (F b : Nat) (G : Option Addr) (I l : Nat) (rg : Int) (J : Option Addr) (L p : Nat) (kk : Int) (z : Int) (M : z ≠ 0) (hF : FitsCall w (.agg #[.string nm, .slice E F b, .slice G I l, .int .i64 (rg : Int), .slice J L p]) z) :
  Calls Tryd.prog 12 #[(.agg #[.string nm, .slice E F b, .slice G I l, .int .i64 (rg : Int), .slice J L p]), .int .i64 kk] w fun e w' => e = .returned (.tuple #[.slice none 0 0, .int .i64 z]) ∧ Below w.heap.size w w' := by
 have HFI := a_ hF; clear hF; have S := Tryd.underlying26; have c0 : (z != 0) = true := bne_iff_ne.mpr M
 have c0b : decide (z = 0) = false := decide_eq_false M
 clear M; go_enter Tryd.func12, Tryd.ntmps12
 go_wp2_with (first | ((with_reducible refine gd_ 2 rfl ?_); refine q_box 2 26 #[.string nm, .slice E F b, .slice G I l, .int .i64 (rg : Int), .slice J L p] ?_; intro g1 N w1 B C; have D := a_ B; have q := a_ C; clear N B C; obtain ⟨T, U, V, X, a0⟩ := q_c5 D.out) | (go_at_call 29; (with_reducible refine (HFI.out _ q.out).mono ?_); rintro e w2 ⟨rfl, y⟩; have O := a_ (blk_below D.out y); have R := a_ (below_then q.out q.out.size y); clear y; obtain ⟨a1, a2, a3, a4, a5⟩ := q_c5 O.out))
 (try simp only [Exit.inBlock, Exit.then])
 refine bodyPost_ret (results_tmp2 rfl _ _ _) rfl ?_
 exact ⟨rfl, R.out⟩
theorem putC2 {w : World} (g off i : Nat) (x : Int) (l : List Nat) (he : off = 32 * i) (hs : SetsAt w g l) (hi : i < l.length) (b : 0 ≤ x) (h1 : x < 2048) :
  Calls Tryd.prog 36 #[.pointer (some ⟨g, off, none⟩), .int .i64 x] w fun e w' => e = .returned (.tuple #[]) ∧ w.grownBy w' (some g) ∧ SetsAt w' g (l.set i (put (l.getD i 0) x.toNat)) := by
 subst he; exact putC w g i x l hs hi b h1
theorem meet1_take (r : Nat) (C : List Nat) {L : List Nat} {j : Nat} (hj : j < L.length) : (L.take (j + 1)).foldl (meet1 r) C = meet1 r ((L.take j).foldl (meet1 r) C) L[j] := by
 rw [List.take_add_one, List.foldl_append, List.getElem?_eq_getElem hj]; rfl
theorem meets1_len (r : Nat) : ∀ (L : List Nat) (C : List Nat), (L.foldl (meet1 r) C).length = C.length
 | [], _ => rfl
 | q :: L, C => by rw [List.foldl_cons, meets1_len r L, meet1_len]
theorem apart59 {w : World} {g g' : Nat} {cs : Array Value} {t : TypeId} {p : Nat × Nat} {l : List Nat} (h : w.heap[g]? = some (.cells cs t p)) (hs : SetsAt w g' l) (ht : t ≠ 59) : g ≠ g' := by
 rintro rfl
 have := h.symm.trans hs
 simp only [Option.some.injEq, Obj.cells.injEq] at this
 exact ht this.2.1
theorem meetC {w : World} (nm : ByteArray) (A1 : Option Addr) (n1 a2 : Nat) (A2 : Option Addr) (n2 a3 : Nat) (rg : Nat) (A4 : Option Addr) (n4 a4 : Nat) (r : Int) (rn s : Nat) (g1 gB gC cO : Nat) (C : List Nat) (hr : r = (rn : Int)) (hrn : rn < rg) (hrg : rg ≤ 2048) (hCl : C.length = rg)
  (B : w.heap[g1]? = some (.cells #[.string nm, .slice A1 n1 a2, .slice A2 n2 a3, .int .i64 (rg : Int), .slice A4 n4 a4] 26 (0, 0))) (hBO : w.heap[gB]? = some (.cells #[.slice (some ⟨gC, 0, none⟩) rg cO] 55 (0, 0))) (hSC : SetsAt w gC C) :
  Calls Tryd.prog 51 #[.int .i64 r, setV s, .pointer (some ⟨g1, 0, none⟩), .pointer (some ⟨gB, 0, none⟩)] w fun e w' => e = .returned (.tuple #[]) ∧ w.grownBy w' (some gC) ∧ SetsAt w' gC (meet rg C rn s) := by
 have d7 : Aside0 (g1 ≠ gC) := ⟨apart59 B hSC (by decide)⟩
 have HNO : Aside0 (gB ≠ gC) := ⟨apart59 hBO hSC (by decide)⟩
 obtain ⟨L, hL⟩ : ∃ L, L = listOf s rg := ⟨_, rfl⟩; obtain ⟨us, hus⟩ : ∃ us, us = regsL s rg := ⟨_, rfl⟩; have HUS : Aside0 (us = L.map Int.ofNat) := ⟨by rw [hus, hL]; rfl⟩
 have HUSE := a_ hus; have HLE := a_ hL; have HLL : Aside0 (us.length = L.length) := ⟨by rw [HUS.out, List.length_map]⟩
 have HUN : Aside0 (us.length ≤ rg) := ⟨by rw [hus]; exact regsL_len s rg⟩
 have HRG := a_ hrg; have HRN := a_ hr; have HRR := a_ hrn; have HCL := a_ hCl; have a6 := a_ B; have HBO := a_ hBO; have HSC := a_ hSC; have F : Aside0 (0 ≤ r) := ⟨by omega⟩
 have a7 : Aside0 (r < 2048) := ⟨by omega⟩
 clear hL hus hr hrn hrg hCl B hBO hSC; have c4 := Tryd.underlying26; go_enter Tryd.func51, Tryd.ntmps51
 go_wp2_with (first | ((with_reducible refine gd_ 5 rfl ?_); refine box_event ?hg (N := 5) ?hd (cs := (cellsL [s]).toArray) (t := 59) ?hr ?_; (case hd => rfl); (case hg => rfl); (case hr => first | (go_simp; done) | (go_simp; rfl)); intro gA hgA w1 hxA hbA; have HSA := a_ (show SetsAt w1 gA [s] from hxA); have HBA := a_ hbA; have G := a_ (blk_below a6.out hbA); have BKO := a_ (blk_below HBO.out hbA); have y := a_ (HSC.out.below hbA HSC.out.lt); clear hgA hxA hbA; obtain ⟨I, J, M, O, S⟩ := q_c5 G.out) | (go_at_call 31; (with_reducible refine (listC1 _ gA rg s HSA.out HRG.out).mono ?_); rintro e w2 ⟨v2, rfl, D, b⟩; obtain ⟨Av, cv, rfl⟩ := Kd.R_slice D; have E := a_ D; have d8 := a_ (blk_below G.out b); have T := a_ (blk_below BKO.out b); have U := a_ (y.out.below b y.out.lt); have a8 := a_ (below_then HBA.out HBA.out.size b); clear D b))
 (try rw [← HUSE.out])
 have E : Aside0 (Kd.R (Kd.int .i64) 3 w2 w1.heap.size (fun _ => True) (.slice Av us.length cv) us) := ⟨by have h_ := E.out; rw [← HUSE.out] at h_; exact h_⟩
 go_loopg [12] us.length (fun gk a9 wx => ∃ x : Int, a9 = .int .i64 x ∧ Aside0 (∃ j : Nat, x = (j : Int) ∧ j + gk = us.length ∧ SetsAt wx gC ((L.take j).foldl (meet1 rn) C)) ∧ Aside0 (w2.grownBy wx (some gC)) ∧ Aside0 (Kd.R (Kd.int .i64) 3 wx w1.heap.size (fun _ => True) (.slice Av us.length cv) us))
 case atStart => exact ⟨0, rfl, ⟨0, rfl, by omega, U.out⟩, ⟨⟨rfl, rfl, rfl, Nat.le_refl _, fun _ _ _ => rfl⟩⟩, E⟩
 case round => (
 clear I J M O S; obtain ⟨x, rfl, ⟨j, hx, hj, hS⟩, HG, HR⟩ := hrel; have HX := a_ hx; have HJ := a_ hj; have BKOx := a_ (blk_grown T.out HG.out (fun e => HNO.out (q_so e)))
 have c8 := q_c1 BKOx.out; cases gk with
 | zero => (
 have c1 : decide (x < (us.length : Int)) = false := decide_eq_false (by omega)
 have HS := a_ hS; clear hx hj hS; go_wp2
 (try simp only [Exit.inBlock, Exit.then])
 refine bodyPost_end (results_none rfl _ _ _) rfl ?_
 refine ⟨rfl, grown_then (grown_of a8.out) HG.out, ?_⟩
 have h_ := HS.out; rw [List.take_of_length_le (by have := HJ.out; have := HLL.out; omega), HLE.out] at h_
 exact h_)
 | succ gO => (
 have c1 : decide (x < (us.length : Int)) = true := decide_eq_true (by omega)
 have hjl : j < us.length := by omega
 have hjL : j < L.length := by have := HLL.out; omega
 have p0 : 0 ≤ x := by omega
 have q0 : x < (us.length : Int) := by omega
 obtain ⟨ad, e, hcu⟩ := Kd.at_int (Kd.R_reads' HR.out).2.2 x p0 q0; cases e; obtain ⟨u, hu⟩ : ∃ u, u = rd us x := ⟨_, rfl⟩; rw [← hu] at hcu; obtain ⟨q, hq⟩ : ∃ q, q = L[j] := ⟨_, rfl⟩; have hmem := mem_listOf.1 (show q ∈ listOf s rg by rw [← HLE.out, hq]; exact List.getElem_mem _)
 have huq : u = (q : Int) := by rw [hu, hx, hq]; simp [rd, HUS.out, hjL]
 have HUQ := a_ huq; have V : Aside0 (0 ≤ u) := ⟨by omega⟩
 have b2 : Aside0 (u < 2048) := ⟨by have := HRG.out; omega⟩
 obtain ⟨Cx, hCx⟩ : ∃ Cx, Cx = (L.take j).foldl (meet1 rn) C := ⟨_, rfl⟩; have HCN : Aside0 ((L.take (j + 1)).foldl (meet1 rn) C = meet1 rn Cx q) := ⟨by rw [meet1_take _ _ hjL, hCx, hq]⟩
 have hlx : Cx.length = C.length := by rw [hCx]; exact meets1_len _ _ _
 have b3 : Aside0 (rn < Cx.length) := ⟨by rw [hlx, HCL.out]; exact HRR.out⟩
 have b4 : Aside0 (q < Cx.length) := ⟨by rw [hlx, HCL.out]; exact hmem.1⟩
 rw [← hCx] at hS; have HSx := a_ hS; have hw : wrap64 (x + 1) = x + 1 := wrap64_id (by omega) (by have := HUN.out; have := HRG.out; omega)
 have hrC : r < (rg : Int) := by have := HRR.out; have := HRN.out; omega
 have huC : u < (rg : Int) := by omega
 have r0 : (0 ≤ r) = True := eq_true F.out
 have u0 : (0 ≤ u) = True := eq_true V.out
 replace hrC := eq_true hrC; replace huC := eq_true huC; replace p0 := eq_true p0; replace q0 := eq_true q0; by_cases hne : u = r
 case pos => (
 have c2 : (u != r) = false := bne_eq_false_iff_eq.mpr hne
 have HE : Aside0 (meet1 rn Cx q = Cx) := ⟨by unfold meet1; rw [if_pos (by have := HRN.out; omega)]⟩
 clear hx hj hS hu hq huq hmem hCx hlx hjl hjL hne; go_wp2
 go_roundg gO
 case measure => omega
 case rel => exact ⟨x + 1, by go_num, ⟨j + 1, by rw [HX.out]; rfl, by have := HJ.out; omega, by rw [HCN.out, HE.out]; exact HSx.out⟩, ⟨HG.out⟩, ⟨HR.out⟩⟩)
 case neg => (
 have c2 : (u != r) = true := bne_iff_ne.mpr hne
 have HE : Aside0 (meet1 rn Cx q = (Cx.set rn (put (Cx.getD rn 0) q)).set q (put ((Cx.set rn (put (Cx.getD rn 0) q)).getD q 0) rn)) := ⟨by unfold meet1; rw [if_neg (by have := HRN.out; omega)]⟩
 have b5 : Aside0 (u.toNat = q) := ⟨by omega⟩
 have b6 : Aside0 (r.toNat = rn) := ⟨by have := HRN.out; omega⟩
 clear hx hj hS hu hq huq hmem hCx hlx hjl hjL hne; go_wp2_with (first | (go_at_call 36; (with_reducible refine (putC2 gC _ rn u Cx (by rw [HRN.out]; simp; omega) HSx.out b3.out V.out b2.out).mono ?_); rintro e w5 ⟨rfl, l, X⟩; have b7 := a_ (grown_then HG.out l); have a0 := a_ X; have b8 := a_ (R_sets HR.out HSx.out (by decide) l); have z := a_ (blk_grown BKOx.out l (fun e => HNO.out (q_so e))); clear l X; have c9 := q_c1 z.out) | (go_at_call 36; (with_reducible refine (putC2 gC _ q r _ (by rw [HUQ.out]; simp; omega) a0.out (by rw [List.length_set]; exact b4.out) F.out a7.out).mono ?_); rintro e w6 ⟨rfl, p, a1⟩; have b9 := a_ (grown_then b7.out p); have c0 := a_ a1; have c3 := a_ (R_sets b8.out a0.out (by decide) p); have d0 := a_ (blk_grown z.out p (fun e => HNO.out (q_so e))); clear p a1))
 go_roundg gO
 case measure => omega
 case rel => exact ⟨x + 1, by go_num, ⟨j + 1, by rw [HX.out]; rfl, by have := HJ.out; omega, by have h_ := c0.out; rw [b5.out, b6.out] at h_; rw [HCN.out, HE.out]; exact h_⟩, ⟨b9.out⟩, ⟨c3.out⟩⟩)))
theorem clashNd_cons (regs : Nat) (C : List Nat) (s : Nat) (x : Ins) (l : List Ins) : clashNd regs C s (x :: l) = (if defs x then meet regs (clashNd regs C s l).1 x.f2.toNat (clashNd regs C s l).2 else (clashNd regs C s l).1, back (clashNd regs C s l).2 x) := rfl
theorem clashNd_len (regs : Nat) (C : List Nat) (s : Nat) : ∀ l, (clashNd regs C s l).1.length = C.length
 | [] => rfl
 | x :: l => by {
 rw [clashNd_cons]; show (if defs x then _ else _ : List Nat).length = _
 split
 ·rw [meet_len, clashNd_len regs C s l]
 ·exact clashNd_len regs C s l}
theorem nodes_take (regs : Nat) (R : List Nat) (C : List Nat) {N : List Nd} {j : Nat} (hj : j < N.length) : (N.take (j + 1)).foldl (clashN regs R) C = clashN regs R ((N.take j).foldl (clashN regs R) C) N[j] := by
 rw [List.take_add_one, List.foldl_append, List.getElem?_eq_getElem hj]; rfl
theorem meets_take (regs s : Nat) (C : List Nat) {L : List Nat} {j : Nat} (hj : j < L.length) : (L.take (j + 1)).foldl (fun C r => meet regs C r s) C = meet regs ((L.take j).foldl (fun C r => meet regs C r s) C) L[j] s := by
 rw [List.take_add_one, List.foldl_append, List.getElem?_eq_getElem hj]; rfl
def cl.T18 : Bool × List (List Nat × List Nat) := (true, [([], []), ([0], [0]), ([], []), ([2], [2]), ([1, 3], [1, 3]), ([4], [4]), ([], [])])
def cl.B18 : List Nat := [0, 1, 0, 4, 15, 31, 0]
theorem cl.tab18 : rtab .any (opsOf Tryd.f30 18) = cl.T18 := by kernel_rfl
theorem cl.bits18 : waitsOk cl.T18.2 cl.B18 = true := by kernel_rfl
theorem clashesC (w : World) (nm : ByteArray) (A1 : Option Addr) (n1 b7 : Nat) (A2 : Option Addr) (n2 b8 : Nat) (rg : Nat) (A4 : Option Addr) (b9 : Nat) (N : List S69) (R : List Nat) (nx : List (List Int)) (n9 : nx = N.map next) (C7 : Kd.C k69 w A4 N.length N) (hL : LiveCall w (.agg #[.string nm, .slice A1 n1 b7, .slice A2 n2 b8, .int .i64 (rg : Int), .slice A4 N.length b9]) R.length R nx) (hrg : rg ≤ 2048) (C8 : 0 < N.length) (hN : N.length ≤ 1000000) (hNs : ∀ n ∈ N, n.f0.length ≤ 1000000) (hF : FineG rg N) (hRl : R.length = N.length) (hRb : ∀ s ∈ R, s < 2 ^ (64 * 32)) :
  Calls Tryd.prog 30 #[(.agg #[.string nm, .slice A1 n1 b7, .slice A2 n2 b8, .int .i64 (rg : Int), .slice A4 N.length b9])] w fun e w' => ∃ (g c : Nat), e = .returned (.slice (some ⟨g, 0, none⟩) rg c) ∧ w.heap.size ≤ g ∧ SetsAt w' g (clashF rg N R) ∧ Below w.heap.size w w' := by
 have HNX := a_ n9; have HLI := a_ hL; have H9 := a_ C7; have HRG := a_ hrg; have I0 := a_ C8; have HN := a_ hN; have HNS := a_ hNs; have HF := a_ hF; have HRL := a_ hRl; have HRB := a_ hRb; have HNL : Aside0 (nx.length = N.length) := ⟨by rw [n9, List.length_map]⟩
 clear n9 hL C7 hrg C8 hN hNs hF hRl hRb; have K3 := Tryd.underlying26; have K4 := Tryd.underlying69; have K5 := Tryd.underlying71; have hmf : ∀ (fn : Fn) (first cap : Array Value) (w : World), (Instr.makeFunc fn first cap).run Tryd.prog w = .ok (.func fn first cap) w := fun _ _ _ _ => rfl
 go_enter Tryd.func30, Tryd.ntmps30
 go_wp2_with (first | ((with_reducible refine gd_ 1 rfl ?_); refine q_box 1 26 #[.string nm, .slice A1 n1 b7, .slice A2 n2 b8, .int .i64 (rg : Int), .slice A4 N.length b9] ?_; intro g1 I1 w1 b5 C9; have D0 := a_ b5; have z9 := a_ C9; clear I1 b5 C9; obtain ⟨D1, D2, D3, D4, D5⟩ := q_c5 D0.out) | ((with_reducible refine gd_ 16 rfl ?_); refine make_event (n := rg) rfl rfl ?hx ?hy rfl (Nat.le_trans HRG.out (by decide)) ?_; (case hx => first | rfl | (go_simp; done) | (go_simp; rfl)); (case hy => first | rfl | (go_simp; done) | (go_simp; rfl)); intro gC w2 hgC D6 A5; have A7 := a_ D6; have LC : Aside0 (w.heap.size ≤ gC) := ⟨Nat.le_trans z9.out.size hgC⟩; have D7 := a_ (blk_below D0.out A5); have A8 := a_ (below_then z9.out z9.out.size A5); clear hgC D6 A5) | ((with_reducible refine gd_ 3 rfl ?_); refine q_box 3 55 #[.slice none 0 0] ?_; intro gB hgB w3 b6 l9; have A9 := a_ b6; have LB : Aside0 (w.heap.size ≤ gB) := ⟨by rw [hgB]; exact A8.out.size⟩; have NCB : Aside0 (gC ≠ gB) := ⟨by have := A7.out.lt; omega⟩; have N1B : Aside0 (g1 ≠ gB) := ⟨by have := blk_lt D7.out; omega⟩; have I2 := a_ (A7.out.below l9 A7.out.lt); have n0 := a_ (blk_below D7.out l9); have y3 := a_ (below_then A8.out A8.out.size l9); clear hgB b6 l9; have hfB := blk_frozen A9.out 0; have D8 : w3.cell? ⟨gB, 0, none⟩ = some (.slice none 0 0) := q_b A9.out 0; have D9 : w3.cell? ⟨g1, 0, none⟩ = some (.string nm) := q_b n0.out 0; have E0 : w3.cell? ⟨g1, 1, none⟩ = some (.slice A1 n1 b7) := q_b n0.out 1; have E1 : w3.cell? ⟨g1, 2, none⟩ = some (.slice A2 n2 b8) := q_b n0.out 2; have E2 : w3.cell? ⟨g1, 3, none⟩ = some (.int .i64 (rg : Int)) := q_b n0.out 3; have E3 : w3.cell? ⟨g1, 4, none⟩ = some (.slice A4 N.length b9) := q_b n0.out 4; have l9 := N1B.out; have hb3b := N1B.out.symm) | (go_at_call 38; (with_reducible refine (HLI.out _ (below_setg y3.out LB.out)).mono ?_); rintro e w4 ⟨gI, cI, v3, rfl, hgI, hSI, B2, o0⟩; obtain ⟨A3, c3, rfl⟩ := Kd.S_slice B2; have I3 := a_ hSI; have I4 := a_ (Kd.S_lower B2 (Below.size (below_setg y3.out LB.out))); have HC3s := a_ (I2.out.far (p := ⟨gB, 0, none⟩) NCB.out (.slice (some ⟨gC, 0, none⟩) rg rg)); have NIC : Aside0 (gI ≠ gC) := ⟨by have := HC3s.out.lt; omega⟩; have I5 := a_ (HC3s.out.below o0 HC3s.out.lt); have B14 := a_ (blk_below (blk_far (p := ⟨gB, 0, none⟩) n0.out N1B.out (.slice (some ⟨gC, 0, none⟩) rg rg)) o0); have I6 := a_ (blk_below (g := gB) (o := .cells #[.slice (some ⟨gC, 0, none⟩) rg rg] 55 (0, 0)) (blk_put (cs := #[.slice none 0 0]) A9.out 0 _ rfl) o0); have I7 := a_ (below_then (below_setg y3.out LB.out) (Below.size (below_setg y3.out LB.out)) o0); clear hgI hSI B2 o0; obtain ⟨E4, E5, E6, E7, E8⟩ := q_c5 B14.out))
 go_loopg [26] N.length (fun gk I8 wx => ∃ x : Int, I8 = .int .i64 x ∧ Aside0 (∃ j : Nat, x = (j : Int) ∧ j + gk = N.length ∧ SetsAt wx gC ((N.take j).foldl (clashN rg R) (List.replicate rg 0))) ∧ Aside0 (SetsAt wx gI R) ∧ Aside0 (Kd.S (Kd.slice 3 (Kd.int .i64)) 27 wx w.heap.size (fun _ => True) (.slice A3 nx.length c3) nx) ∧ Aside0 (wx.heap[g1]? = some (.cells #[.string nm, .slice A1 n1 b7, .slice A2 n2 b8, .int .i64 (rg : Int), .slice A4 N.length b9] 26 (0, 0))) ∧ Aside0 (wx.heap[gB]? = some (.cells #[.slice (some ⟨gC, 0, none⟩) rg rg] 55 (0, 0))) ∧ Aside0 (Below w.heap.size w wx))
 case atStart => exact ⟨0, rfl, ⟨0, rfl, by omega, I5.out⟩, I3, I4, B14, I6, I7⟩
 case round => (
 clear D1 D2 D3 D4 D5 D9 E0 E1 E2 E3 E4 E5 E6 E7 E8 hfB l9 hb3b D8; obtain ⟨x, rfl, ⟨j, hx, hj, hS⟩, HIx, HVx, B1x, BBx, HWx⟩ := hrel; have HX := a_ hx; have HJ := a_ hj; obtain ⟨l4, l5, l6, g6, l7⟩ := q_c5 B1x.out; have hcB : wr.cell? ⟨gB, 0, none⟩ = some (.slice (some ⟨gC, 0, none⟩) rg rg) := q_b BBx.out 0
 cases gk with
 | zero => (
 have c1 : decide (x < (N.length : Int)) = false := decide_eq_false (by omega)
 have HCx : Aside0 (SetsAt wr gC (N.foldl (clashN rg R) (List.replicate rg 0))) := ⟨by rw [List.take_of_length_le (by omega)] at hS; exact hS⟩
 clear hx hj hS; obtain ⟨s0, B3⟩ : ∃ s0, s0 = R.getD 0 0 := ⟨_, rfl⟩; have E9 := a_ B3; obtain ⟨L, hL⟩ : ∃ L, L = listOf s0 rg := ⟨_, rfl⟩; obtain ⟨us, hus⟩ : ∃ us, us = regsL s0 rg := ⟨_, rfl⟩; have HUS : Aside0 (us = L.map Int.ofNat) := ⟨by rw [hus, hL]; rfl⟩
 have HUSE := a_ hus; have HLE := a_ hL; have HLL : Aside0 (us.length = L.length) := ⟨by rw [HUS.out, List.length_map]⟩
 have HUN : Aside0 (us.length ≤ rg) := ⟨by rw [hus]; exact regsL_len s0 rg⟩
 obtain ⟨C0, y4⟩ : ∃ C0, C0 = N.foldl (clashN rg R) (List.replicate rg 0) := ⟨_, rfl⟩; have HC0L : Aside0 (C0.length = rg) := ⟨by rw [y4, clashNs_len, List.length_replicate]⟩
 have HCF : Aside0 (clashF rg N R = L.foldl (fun C r => meet rg C r s0) C0) := ⟨by rw [y4, hL, B3]; rfl⟩
 have HCx : Aside0 (SetsAt wr gC C0) := ⟨by rw [y4]; exact HCx.out⟩
 have y5 : Aside0 (0 < R.length) := ⟨by have := I0.out; have := HRL.out; omega⟩
 have r0 : (0 < R.length) = True := eq_true y5.out
 have r1 : ((0 : Int) < (R.length : Int)) = True := eq_true (by have := y5.out; omega)
 clear B3 hL hus y4; go_upto_region 18 with (fail)
 refine q_s 7 (S := fun W' => W'.cell? ⟨g1, 3, none⟩ = some (.int .i64 (rg : Int))) g6 (fun j3 => ?_)
 refine with_tabW cl.tab18 cl.bits18 (fun e6 F0 => ?_)
 refine qv_ 0 e6 ?_
 refine qv_ 1 e6 ?_
 refine qv_ 2 e6 ?_
 refine qv_ 6 e6 ?_
 refine qt_ 3 e6 F0 j3 ?_
 refine q_o 4 e6 (fun K hK => ?_)
 refine goes_ Tryd.func31 (by kernel_rfl) rfl #[.pointer (some ⟨gI, 0, none⟩), .int .i64 (rg : Int)] (by rfl) rfl rfl (by (try simp only [List.map_toArray, List.map_cons, List.map_nil]); first | done | rfl | (simp; done)) ?_
 refine (listC2 gI 0 0 rg R s0 rfl HIx.out.drew y5.out HRG.out E9.out.symm).mono ?_
 rintro e w7 ⟨v7, rfl, y6, j5⟩
 refine ⟨_, rfl, ?_⟩
 rw [← HUSE.out] at y6; have I9 := a_ (HIx.out.drew.below j5 HIx.out.drew.lt); have J0 := a_ (HCx.out.drew.below j5 HCx.out.drew.lt); have B17 := a_ (blk_below (blk_drew B1x.out) j5); have J1 := a_ (blk_below (blk_drew BBx.out) j5); have J2 := a_ (below_step (below_drew1 HWx.out) j5); have J3 := a_ (Kd.S_below (Kd.S_drew HVx.out) j5); obtain ⟨Av, cv, rfl⟩ := Kd.R_slice y6; have J4 := a_ y6; clear y6 j5; refine q_nk hK.out (q_b B17.out 3) (fun j3 => ?_)
 clear hK K
 refine qv_ 5 e6 ?_
 refine done_ (done_of e6.out (by kernel_rfl)) ?_
 clear e6 F0 j3 l4 l5 l6 g6 l7 hcB c1; go_wp2
 go_loopg [76] us.length (fun gk J5 wx => ∃ y : Int, J5 = .int .i64 y ∧ Aside0 (∃ j : Nat, y = (j : Int) ∧ j + gk = us.length ∧ SetsAt wx gC ((L.take j).foldl (fun C r => meet rg C r s0) C0)) ∧ Aside0 (Kd.R (Kd.int .i64) 3 wx wr.drew.heap.size (fun _ => True) (.slice Av us.length cv) us) ∧ Aside0 (SetsAt wx gI R) ∧ Aside0 (Kd.S (Kd.slice 3 (Kd.int .i64)) 27 wx w.heap.size (fun _ => True) (.slice A3 nx.length c3) nx) ∧ Aside0 (wx.heap[g1]? = some (.cells #[.string nm, .slice A1 n1 b7, .slice A2 n2 b8, .int .i64 (rg : Int), .slice A4 N.length b9] 26 (0, 0))) ∧ Aside0 (wx.heap[gB]? = some (.cells #[.slice (some ⟨gC, 0, none⟩) rg rg] 55 (0, 0))) ∧ Aside0 (Below w.heap.size w wx))
 case atStart => exact ⟨0, rfl, ⟨0, rfl, by omega, J0.out⟩, J4, I9, J3, B17, J1, J2⟩
 case round => (
 obtain ⟨y, rfl, ⟨i, hy, hi, hS⟩, HR, HIy, HVy, B1y, BBy, HWy⟩ := hrel; have HY := a_ hy; have HI := a_ hi; have hcB : wr.cell? ⟨gB, 0, none⟩ = some (.slice (some ⟨gC, 0, none⟩) rg rg) := q_b BBy.out 0
 cases gk with
 | zero => (
 have c1 : decide (y < (us.length : Int)) = false := decide_eq_false (by omega)
 have HS := a_ hS; clear hy hi hS; go_wp2
 (try simp only [Exit.inBlock, Exit.then])
 refine bodyPost_ret (results_tmp rfl _ _ _) rfl ?_
 first | refine ⟨gC, ⟨rg, rfl⟩, LC.out, ?_, HWy.out⟩ | refine ⟨gC, rg, rfl, LC.out, ?_, HWy.out⟩
 have h_ := HS.out; rw [List.take_of_length_le (by have := HI.out; have := HLL.out; omega)] at h_
 rw [HCF.out]; exact h_)
 | succ gQ => (
 have c1 : decide (y < (us.length : Int)) = true := decide_eq_true (by omega)
 have hjl : i < us.length := by omega
 have hjL : i < L.length := by have := HLL.out; omega
 have p0 : 0 ≤ y := by omega
 have q0 : y < (us.length : Int) := by omega
 obtain ⟨ad, e, hcu⟩ := Kd.at_int (Kd.R_reads' HR.out).2.2 y p0 q0; cases e; obtain ⟨u, hu⟩ : ∃ u, u = rd us y := ⟨_, rfl⟩; rw [← hu] at hcu; obtain ⟨q, hq⟩ : ∃ q, q = L[i] := ⟨_, rfl⟩; have hmem := mem_listOf.1 (show q ∈ listOf s0 rg by rw [← HLE.out, hq]; exact List.getElem_mem _)
 have huq : u = (q : Int) := by rw [hu, hy, hq]; simp [rd, HUS.out, hjL]
 have HUQ := a_ huq; have HQL := a_ hmem.1; obtain ⟨Cx, hCx⟩ : ∃ Cx, Cx = (L.take i).foldl (fun C r => meet rg C r s0) C0 := ⟨_, rfl⟩
 have HCN : Aside0 ((L.take (i + 1)).foldl (fun C r => meet rg C r s0) C0 = meet rg Cx q s0) := ⟨by rw [meets_take _ _ _ hjL, hCx, hq]⟩
 have HLX : Aside0 (Cx.length = rg) := ⟨by rw [hCx, meets_len]; exact HC0L.out⟩
 rw [← hCx] at hS; have HCy := a_ hS; have hw : wrap64 (y + 1) = y + 1 := wrap64_id (by omega) (by have := HUN.out; have := HRG.out; omega)
 replace p0 := eq_true p0; replace q0 := eq_true q0; clear hy hi hS hu hq huq hmem hCx hjl hjL; go_wp2_with (first | ((with_reducible refine gd_ 84 rfl ?_); refine load_event (g := gI) (i := 0) (off := 0) (l := R) (s := s0) rfl rfl ?hx rfl HIy.out y5.out E9.out.symm ?_; (case hx => first | rfl | (go_simp; done) | (go_simp; rfl))) | (go_at_call 51; (with_reducible refine (meetC nm A1 n1 b7 A2 n2 b8 rg A4 N.length b9 u q s0 g1 gB gC rg Cx HUQ.out HQL.out HRG.out HLX.out B1y.out BBy.out HCy.out).mono ?_); rintro e w8 ⟨rfl, b2, F1⟩; have J6 := a_ F1; have J7 := a_ (R_sets HR.out HCy.out (by decide) b2); have J8 := a_ (HIy.out.grown b2 (fun e => NIC.out (q_so e))); have J9 := a_ (S_sets HVy.out HCy.out (by decide) b2); have B18 := a_ (blk_grown B1y.out b2 (fun e => apart59 B1y.out HCy.out (by decide) (q_so e))); have K0 := a_ (blk_grown BBy.out b2 (fun e => apart59 BBy.out HCy.out (by decide) (q_so e))); have K1 := a_ (below_grown HWy.out b2 LC.out); clear b2 F1))
 go_roundg gQ
 case measure => omega
 case rel => exact ⟨y + 1, by go_num, ⟨i + 1, by rw [HY.out]; rfl, by have := HI.out; omega, by rw [HCN.out]; exact J6.out⟩, J7, J8, J9, B18, K0, K1⟩)))
 | succ gO => (
 have c1 : decide (x < (N.length : Int)) = true := decide_eq_true (by omega)
 have hjl : j < N.length := by omega
 have p0 : 0 ≤ x := by omega
 have qN : x < (N.length : Int) := by omega
 have qX : x < (nx.length : Int) := by have := HNL.out; omega
 obtain ⟨adN, A0, c0, e, o2, o3, o4, o5, o6, z0, hCI⟩ := at_T69 H9.out x p0 qN; cases e; obtain ⟨adX, AR, cR, e, hrow, hlrow, hCR⟩ := at_L2 (Kd.S_reads' HVx.out).2.2 x p0 qX; cases e; obtain ⟨D, hnd⟩ : ∃ D, D = rd_T69 N x := ⟨_, rfl⟩; rw [← hnd] at o2 o3 o4 o5 o6 z0 hCI
 have hndl : D = N[j] := by rw [hnd, hx]; simp [rd_T69, hjl]
 have hrl : rd_L2 nx x = next D := by rw [HNX.out, hx, rd_L2_map _ _ hjl, hndl]
 obtain ⟨row, hrowe⟩ : ∃ row, row = next D := ⟨_, rfl⟩; rw [hrl, ← hrowe] at hrow hlrow hCR
 have HROW := a_ hrowe; have HCI := a_ hCI; have HCR := a_ hCR; have hndF : FineNd rg N.length D := HF.out D (by rw [hndl]; exact List.getElem_mem _)
 have HNF := a_ hndF; have HNLEN : Aside0 (D.f0.length ≤ 1000000) := ⟨HNS.out D (by rw [hndl]; exact List.getElem_mem _)⟩
 have HRQ : Aside0 (∀ q ∈ row, 0 ≤ q ∧ q < (R.length : Int)) := ⟨fun q hq => by rw [HRL.out]; exact hndF.2.2 q (by rw [← hrowe]; exact hq)⟩
 have HRN : Aside0 (row.length ≤ 1000000) := ⟨by rw [hrowe]; exact Nat.le_trans (next_len _) (by omega)⟩
 obtain ⟨Cx, hCx⟩ : ∃ Cx, Cx = (N.take j).foldl (clashN rg R) (List.replicate rg 0) := ⟨_, rfl⟩; have HCX : Aside0 (Cx.length = rg) := ⟨by rw [hCx, clashNs_len, List.length_replicate]⟩
 have HNXT : Aside0 ((N.take (j + 1)).foldl (clashN rg R) (List.replicate rg 0) = (clashNd rg Cx (atEnd D (after (next D) R)) D.f0).1) := ⟨by rw [nodes_take _ _ _ hjl, ← hCx, ← hndl]; rfl⟩
 rw [← hCx] at hS; have HCx := a_ hS; have hw : wrap64 (x + 1) = x + 1 := wrap64_id (by omega) (by have := HN.out; omega)
 replace o2 := cell_old o2 HWx.out; replace o3 := cell_old o3 HWx.out; replace o4 := cell_old o4 HWx.out; replace o5 := cell_old o5 HWx.out; replace o6 := cell_old o6 HWx.out; replace p0 := eq_true p0; replace qN := eq_true qN; replace qX := eq_true qX; obtain ⟨l4, l5, l6, g6, l7⟩ := q_c5 B1x.out; clear hx hj hS hnd hndl hrl hrowe hCI hCR hjl hndF z0 hlrow hCx; by_cases hE : D.f1 = 1
 case pos => (
 have c2 : (D.f1 == 1) = true := beq_iff_eq.mpr hE
 have z1 : Aside0 (0 ≤ D.f2 ∧ D.f2 < 2048) := ⟨by have K7 := HNF.out.2.1 hE; have K8 := HRG.out; omega⟩
 have o7 := a_ hE; clear hE; go_wp2_with (first | ((with_reducible refine gd_ 8 rfl ?_); refine q_box 8 69 #[.slice none 0 0, .int .i64 0, .int .i64 0, .int .i64 0, .int .i64 0] ?_; intro g8 b2 w9 o8 j6; have o9 := a_ o8; have e7 := a_ j6; have e8 : Aside0 (wr.heap.size ≤ g8) := ⟨by rw [b2]; exact Nat.le_refl _⟩; have p1 : g8 ≠ g1 := (by have := blk_lt B1x.out; omega); have p2 : g1 ≠ g8 := (by omega); have hra : (adX.add x.toNat).block < wr.heap.size := World.block_lt_of_cell? wr _ hrow; rw [add_block] at hra; have hrd : adX.block ≠ g8 := (by omega); have U : g8 ≠ adX.block := (by omega); have p3 : (⟨g8, 0, none⟩ : Addr) ≠ adX.add x.toNat := (fun e_ => U ((congrArg Addr.block e_).trans (add_block _ _))); have p4 : (⟨g8, 1, none⟩ : Addr) ≠ adX.add x.toNat := (fun e_ => U ((congrArg Addr.block e_).trans (add_block _ _))); have p5 : (⟨g8, 2, none⟩ : Addr) ≠ adX.add x.toNat := (fun e_ => U ((congrArg Addr.block e_).trans (add_block _ _))); have p6 : (⟨g8, 3, none⟩ : Addr) ≠ adX.add x.toNat := (fun e_ => U ((congrArg Addr.block e_).trans (add_block _ _))); have p7 : (⟨g8, 4, none⟩ : Addr) ≠ adX.add x.toNat := (fun e_ => U ((congrArg Addr.block e_).trans (add_block _ _))); have j7 := cell_old hrow j6; clear b2 o8 j6; clear hra; obtain ⟨p8, p9, q1, q2, q3, q4, q5, q6, q7, q8⟩ := q_cf5 o9.out) | (go_at_call 39; (with_reducible refine (afterC _ row AR cR gI R _ ?hn ?hI HRB.out HRQ.out HRN.out).mono ?_); (case hn => exact Kd.C_below HCR.out (by (repeat (with_reducible refine below_setg ?_ e8.out)); exact e7.out)); (case hI => exact HIx.out.below (by (repeat (with_reducible refine below_setg ?_ e8.out)); exact e7.out) HIx.out.lt); rintro e B6 ⟨rfl, c4⟩; have g7 : Below wr.heap.size wr B6 := below_then (by (repeat (with_reducible refine below_setg ?_ e8.out)); exact e7.out) (Below.size (by (repeat (with_reducible refine below_setg ?_ e8.out)); exact e7.out)) c4; have V := a_ g7; have c8 := a_ (HIx.out.below V.out HIx.out.lt); have q9 := a_ (Kd.S_below HVx.out V.out); have r2 := a_ (blk_below B1x.out V.out); have r3 := a_ (blk_below BBx.out V.out); have c9 := a_ (below_then HWx.out HWx.out.size V.out); have d0 := a_ (HCx.out.below V.out HCx.out.lt); have r4 := a_ (blk_below (g := g8) (o := .cells #[.slice A0 D.f0.length c0, .int .i64 D.f1, .int .i64 D.f2, .int .i64 D.f3, .int .i64 D.f4] 69 (0, 0)) (q_p o9.out) c4); clear g7 c4) | ((with_reducible refine gd_ 9 rfl ?_); refine box_event ?hg (N := 9) ?hd (cs := (cellsL [0]).toArray) (t := 59) ?hr ?_; (case hd => rfl); (case hg => rfl); (case hr => rw [← zero_cells]; first | (go_simp; done) | (go_simp; rfl)); intro gA hgA B7 hSA hbA; have a2 := a_ (show SetsAt B7 gA [0] from hSA); have LA : Aside0 (w.heap.size ≤ gA) := ⟨by rw [hgA]; exact c9.out.size⟩; have NIA : Aside0 (gI ≠ gA) := ⟨by have := c8.out.lt; omega⟩; have NCA : Aside0 (gC ≠ gA) := ⟨by have := d0.out.lt; omega⟩; have r5 := a_ (c8.out.below hbA c8.out.lt); have r6 := a_ (Kd.S_below q9.out hbA); have g9 := a_ (blk_below r2.out hbA); have i0 := a_ (blk_below r3.out hbA); have r7 := a_ (below_then c9.out c9.out.size hbA); have i1 := a_ (blk_below r4.out hbA); have r8 := a_ (d0.out.below hbA d0.out.lt); clear hgA hSA hbA) | ((with_reducible refine gate_store (t := 59) (p := 9) rfl ?_); refine put_event (g := gA) (i := 0) (off := 0) (l := [0]) (s := after row R) rfl rfl rfl ?hx rfl ?hy a2.out (by simp) ?_; (case hx => first | rfl | (go_simp; done) | (go_simp; rfl)); (case hy => first | rfl | (go_simp; done) | (go_simp; rfl)); intro C1 hgP hsP; have a3 := a_ (show SetsAt C1 gA [after row R] from hsP); have i2 := a_ (r5.out.grown hgP (fun e => NIA.out (q_so e))); have i3 := a_ (S_sets r6.out a2.out (by decide) hgP); have e4 := a_ (blk_grown g9.out hgP (fun e => apart59 g9.out a2.out (by decide) (q_so e))); have e5 := a_ (blk_grown i0.out hgP (fun e => apart59 i0.out a2.out (by decide) (q_so e))); have i4 := a_ (below_grown r7.out hgP LA.out); have b3 := a_ (blk_grown i1.out hgP (fun e => apart59 i1.out a2.out (by decide) (q_so e))); have i5 := a_ (r8.out.grown hgP (fun e => NCA.out (q_so e))); clear hgP hsP; obtain ⟨r9, s2, s3, s4, s5⟩ := q_c5 b3.out) | (go_at_call 36; (with_reducible refine (putC1 _ gA D.f2 (after row R) a3.out z1.out.1 z1.out.2).mono ?_); rintro e L0 ⟨rfl, b4, z2⟩; have F2 := a_ z2; have F3 := a_ (i2.out.grown b4 (fun e => NIA.out (q_so e))); have F4 := a_ (S_sets i3.out a3.out (by decide) b4); have F5 := a_ (blk_grown e4.out b4 (fun e => apart59 e4.out a3.out (by decide) (q_so e))); have F6 := a_ (blk_grown e5.out b4 (fun e => apart59 e5.out a3.out (by decide) (q_so e))); have F7 := a_ (below_grown i4.out b4 LA.out); have z3 := a_ (blk_grown b3.out b4 (fun e => apart59 b3.out a3.out (by decide) (q_so e))); have F8 := a_ (i5.out.grown b4 (fun e => NCA.out (q_so e))); clear b4 z2; obtain ⟨z4, z5, z6, z7, z8⟩ := q_c5 z3.out))
 have a3 := F2; have i5 := F8; have b3 := z3; have i2 := F3; have i3 := F4; have e4 := F5; have e5 := F6; have i4 := F7; obtain ⟨s1, j8⟩ : ∃ s1, s1 = atEnd D (after row R) := ⟨_, rfl⟩; have C2 := a_ (show SetsAt _ gA [s1] from by rw [j8, atEnd]; first | (rw [if_pos o7.out]; exact a3.out) | (rw [if_neg o7.out]; exact a3.out))
 have HSE := a_ j8; clear j8 c2; clear p8 p9 q1 q2 q3 q4 q5 q6 q7 q8 p1 p2 hrd U p3 p4 p5 p6 p7 j7 l4 l5 l6 g6 l7 hcB o2 o3 o4 o5 o6 hrow qN qX p0; have s6 : wrap64 ((D.f0.length : Int) - 1) = (D.f0.length : Int) - 1 := wrap64_id (by omega) (by have := HNLEN.out; omega)
 go_loopg [10] D.f0.length (fun gz C3 wz => ∃ y : Int, C3 = .int .i64 y ∧ Aside0 (y = (gz : Int) - 1 ∧ gz ≤ D.f0.length ∧ SetsAt wz gC (clashNd rg Cx s1 (D.f0.drop gz)).1 ∧ SetsAt wz gA [(clashNd rg Cx s1 (D.f0.drop gz)).2]) ∧ Aside0 (wz.heap[g8]? = some (.cells #[.slice A0 D.f0.length c0, .int .i64 D.f1, .int .i64 D.f2, .int .i64 D.f3, .int .i64 D.f4] 69 (0, 0))) ∧ Aside0 (SetsAt wz gI R) ∧ Aside0 (Kd.S (Kd.slice 3 (Kd.int .i64)) 27 wz w.heap.size (fun _ => True) (.slice (some adX) nx.length c3) nx) ∧ Aside0 (wz.heap[g1]? = some (.cells #[.string nm, .slice A1 n1 b7, .slice A2 n2 b8, .int .i64 (rg : Int), .slice (some adN) N.length b9] 26 (0, 0))) ∧ Aside0 (wz.heap[gB]? = some (.cells #[.slice (some ⟨gC, 0, none⟩) rg rg] 55 (0, 0))) ∧ Aside0 (Below w.heap.size w wz))
 case atStart => exact ⟨(D.f0.length : Int) - 1, by rw [s6], ⟨rfl, Nat.le_refl _, by rw [List.drop_length]; exact i5.out, by rw [List.drop_length]; exact C2.out⟩, b3, i2, i3, e4, e5, i4⟩
 case round => (
 clear s6 r9 s2 s3 s4 s5; (try clear z4 z5 z6 z7 z8)
 obtain ⟨y, rfl, ⟨hy, hgz, hCz, hAz⟩, B8y, HIy, HVy, B1y, BBy, HWy⟩ := hrel; have HY := a_ hy; cases gk with
 | zero => (
 have c1 : decide (0 ≤ y) = false := decide_eq_false (by omega)
 have HCy := a_ hCz; clear hy hgz hCz hAz; go_wp2
 go_roundg gO
 case measure => omega
 case rel => exact ⟨x + 1, by go_num, ⟨j + 1, by rw [HX.out]; rfl, by have := HJ.out; omega, by have h_ := HCy.out; rw [List.drop_zero, HSE.out, HROW.out] at h_; rw [HNXT.out]; exact h_⟩, HIy, HVy, B1y, BBy, HWy⟩)
 | succ gQ => (
 have c1 : decide (0 ≤ y) = true := decide_eq_true (by omega)
 have hyn : y = (gQ : Int) := by omega
 have hOl : gQ < D.f0.length := hgz
 have p0 : 0 ≤ y := by omega
 have q0 : y < (D.f0.length : Int) := by omega
 obtain ⟨adI, A6, c6, e, e9, b5, f7, b6, f8, f9, g0, d1, j9⟩ := at_T71 HCI.out y p0 q0; cases e; obtain ⟨p, hp⟩ : ∃ p, p = rd_T71 D.f0 y := ⟨_, rfl⟩; rw [← hp] at e9 b5 f7 b6 f8 f9 g0 d1 j9
 have hpl : p = D.f0[gQ] := by rw [hp, hyn]; simp [rd_T71, hOl]
 have hfp := HNF.out.1 p (by rw [hpl]; exact List.getElem_mem _)
 have HGD : Aside0 (Good p) := ⟨fine_good HRG.out hfp⟩
 have g2 := a_ j9; have g3 := a_ d1; have k0 := a_ e9; have k1 := a_ b5; have k2 := a_ f7; have k3 := a_ b6; have k4 := a_ f8; have k5 := a_ f9; have k6 := a_ g0; obtain ⟨Cz, hCze⟩ : ∃ Cz, Cz = (clashNd rg Cx s1 (D.f0.drop (gQ + 1))).1 := ⟨_, rfl⟩; obtain ⟨sz, hsze⟩ : ∃ sz, sz = (clashNd rg Cx s1 (D.f0.drop (gQ + 1))).2 := ⟨_, rfl⟩; have HST : Aside0 (clashNd rg Cx s1 (D.f0.drop gQ) = (if defs p then meet rg Cz p.f2.toNat sz else Cz, back sz p)) := ⟨by rw [List.drop_eq_getElem_cons hOl, clashNd_cons, ← hpl, hCze, hsze]⟩
 have HCZ : Aside0 (Cz.length = rg) := ⟨by rw [hCze, clashNd_len]; exact HCX.out⟩
 rw [← hCze] at hCz; rw [← hsze] at hAz; have HCy := a_ hCz; have HAy := a_ hAz; have HHO := a_ hgz; have HDF : Aside0 (defs p = true → p.f2 = ((p.f2.toNat : Nat) : Int) ∧ p.f2.toNat < rg) := ⟨fun hd => by have := hfp.2.2.1 (by rw [← defs_hasD hfp]; exact hd); omega⟩
 replace e9 := cell_old e9 HWy.out; replace b5 := cell_old b5 HWy.out; replace f7 := cell_old f7 HWy.out; replace b6 := cell_old b6 HWy.out; replace f8 := cell_old f8 HWy.out; replace f9 := cell_old f9 HWy.out; replace g0 := cell_old g0 HWy.out; replace p0 := eq_true p0; replace q0 := eq_true q0; obtain ⟨F9, G0, G1, G2, G3⟩ := q_c5 B8y.out; obtain ⟨d, hd⟩ : ∃ d, defs p = d := ⟨_, rfl⟩; have HD := a_ hd; clear hy hgz hCz hAz hyn hOl hp hpl j9 d1 hCze hsze hfp hd hw; cases d with
 | false => (
 go_wp2_with (first | ((with_reducible refine gd_ 11 rfl ?_); refine q_box 11 71 #[.int .i64 0, .int .i64 0, .int .i64 0, .int .i64 0, .int .i64 0, .int .i32 0, .slice none 0 0] ?_; intro a1 a4 C4 a5 a6; have a7 := a_ a5; have I := a_ a6; have J : Aside0 (wr.heap.size ≤ a1) := ⟨by rw [a4]; exact Nat.le_refl _⟩; have k7 : a1 ≠ g8 := (by have := blk_lt B8y.out; omega); have k8 : g8 ≠ a1 := (by omega); clear a4 a5 a6; obtain ⟨s7, s8, s9, t0, t1, t2, t3, t4, t5, t6, t7, t8, t9, v0⟩ := q_cf7 a7.out) | (go_at_call 52; (with_reducible refine (definesC p A6 c6 false ?h6 g3.out HD.out).mono ?_); (case h6 => exact Kd.C_below g2.out (below_then HWy.out HWy.out.size (by (repeat (with_reducible refine below_setg ?_ J.out)); exact I.out))); rintro e k9 ⟨rfl, M⟩; have a8 : Below wr.heap.size wr k9 := below_then (by (repeat (with_reducible refine below_setg ?_ J.out)); exact I.out) (Below.size (by (repeat (with_reducible refine below_setg ?_ J.out)); exact I.out)) M; have z := a_ a8; have d2 := a_ (HIy.out.below z.out HIy.out.lt); have d3 := a_ (Kd.S_below HVy.out z.out); have X := a_ (blk_below B1y.out z.out); have a0 := a_ (blk_below BBy.out z.out); have b := a_ (below_then HWy.out HWy.out.size z.out); have O := a_ (blk_below B8y.out z.out); have T := a_ (HCy.out.below z.out HCy.out.lt); have F := a_ (HAy.out.below z.out HAy.out.lt); have d4 := a_ (blk_below (g := a1) (o := .cells #[.int .i64 p.f0, .int .i64 p.f1, .int .i64 p.f2, .int .i64 p.f3, .int .i64 p.f4, .int .i32 p.f5, .slice A6 p.f6.length c6] 71 (0, 0)) (q_p a7.out) M); clear a8 M; obtain ⟨v1, v2, v4, v5, v6, v8, v9⟩ := q_c7 d4.out; obtain ⟨w5, w6, x0, x1, x2⟩ := q_c5 O.out; have x3 := cell_old k0.out b.out; have x4 := cell_old k1.out b.out; have x5 := cell_old k2.out b.out; have x6 := cell_old k3.out b.out; have x7 := cell_old k4.out b.out; have x8 := cell_old k5.out b.out; have x9 := cell_old k6.out b.out) | (go_at_call 53; (with_reducible refine (backC1 _ gA sz p A6 c6 F.out ?h6 g3.out HGD.out).mono ?_); (case h6 => exact fun w' hg => Kd.C_below g2.out (below_grown b.out hg LA.out)); rintro e C5 ⟨rfl, B, a9⟩; have d5 := a_ a9; have d6 := a_ (d2.out.grown B (fun e => NIA.out (q_so e))); have d7 := a_ (S_sets d3.out F.out (by decide) B); have d8 := a_ (blk_grown X.out B (fun e => apart59 X.out F.out (by decide) (q_so e))); have d9 := a_ (blk_grown a0.out B (fun e => apart59 a0.out F.out (by decide) (q_so e))); have e0 := a_ (below_grown b.out B LA.out); have e1 := a_ (blk_grown O.out B (fun e => apart59 O.out F.out (by decide) (q_so e))); have e2 := a_ (T.out.grown B (fun e => NCA.out (q_so e))); clear B a9))
 go_roundg gQ
 case measure => omega
 case rel => exact ⟨wrap64 (y - 1), rfl, ⟨by rw [HY.out, wrap64_id (by omega) (by have := HNLEN.out; have := HHO.out; omega)]; omega, Nat.le_of_lt HHO.out, by rw [HST.out, HD.out]; exact e2.out, by rw [HST.out]; exact d5.out⟩, e1, d6, d7, d8, d9, e0⟩)
 | true => (
 have HDN := a_ (HDF.out HD.out); go_wp2_with (first | ((with_reducible refine gd_ 11 rfl ?_); refine q_box 11 71 #[.int .i64 0, .int .i64 0, .int .i64 0, .int .i64 0, .int .i64 0, .int .i32 0, .slice none 0 0] ?_; intro a1 a4 C4 a5 a6; have a7 := a_ a5; have I := a_ a6; have J : Aside0 (wr.heap.size ≤ a1) := ⟨by rw [a4]; exact Nat.le_refl _⟩; have k7 : a1 ≠ g8 := (by have := blk_lt B8y.out; omega); have k8 : g8 ≠ a1 := (by omega); clear a4 a5 a6; obtain ⟨s7, s8, s9, t0, t1, t2, t3, t4, t5, t6, t7, t8, t9, v0⟩ := q_cf7 a7.out) | (go_at_call 52; (with_reducible refine (definesC p A6 c6 true ?h6 g3.out HD.out).mono ?_); (case h6 => exact Kd.C_below g2.out (below_then HWy.out HWy.out.size (by (repeat (with_reducible refine below_setg ?_ J.out)); exact I.out))); rintro e k9 ⟨rfl, M⟩; have a8 : Below wr.heap.size wr k9 := below_then (by (repeat (with_reducible refine below_setg ?_ J.out)); exact I.out) (Below.size (by (repeat (with_reducible refine below_setg ?_ J.out)); exact I.out)) M; have z := a_ a8; have d2 := a_ (HIy.out.below z.out HIy.out.lt); have d3 := a_ (Kd.S_below HVy.out z.out); have X := a_ (blk_below B1y.out z.out); have a0 := a_ (blk_below BBy.out z.out); have b := a_ (below_then HWy.out HWy.out.size z.out); have O := a_ (blk_below B8y.out z.out); have T := a_ (HCy.out.below z.out HCy.out.lt); have F := a_ (HAy.out.below z.out HAy.out.lt); have d4 := a_ (blk_below (g := a1) (o := .cells #[.int .i64 p.f0, .int .i64 p.f1, .int .i64 p.f2, .int .i64 p.f3, .int .i64 p.f4, .int .i32 p.f5, .slice A6 p.f6.length c6] 71 (0, 0)) (q_p a7.out) M); clear a8 M; obtain ⟨v1, v2, v4, v5, v6, v8, v9⟩ := q_c7 d4.out; obtain ⟨w5, w6, x0, x1, x2⟩ := q_c5 O.out; have x3 := cell_old k0.out b.out; have x4 := cell_old k1.out b.out; have x5 := cell_old k2.out b.out; have x6 := cell_old k3.out b.out; have x7 := cell_old k4.out b.out; have x8 := cell_old k5.out b.out; have x9 := cell_old k6.out b.out) | ((with_reducible refine gd_ 61 rfl ?_); refine load_event (g := gA) (i := 0) (off := 0) (l := [sz]) (s := sz) rfl rfl ?hx rfl F.out (by simp) rfl ?_; (case hx => first | rfl | (go_simp; done) | (go_simp; rfl))) | (go_at_call 51; (with_reducible refine (meetC nm A1 n1 b7 A2 n2 b8 rg (some adN) N.length b9 p.f2 p.f2.toNat sz g1 gB gC rg Cz HDN.out.1 HDN.out.2 HRG.out HCZ.out X.out a0.out T.out).mono ?_); rintro e K2 ⟨rfl, G, i7⟩; have y0 := a_ i7; have y1 := a_ (d2.out.grown G (fun e => NIC.out (q_so e))); have y2 := a_ (S_sets d3.out T.out (by decide) G); have i8 := a_ (blk_grown X.out G (fun e => apart59 X.out T.out (by decide) (q_so e))); have i9 := a_ (blk_grown a0.out G (fun e => apart59 a0.out T.out (by decide) (q_so e))); have E := a_ (below_grown b.out G LC.out); have e3 := a_ (blk_grown O.out G (fun e => apart59 O.out T.out (by decide) (q_so e))); have b0 := a_ (F.out.grown G (fun e => NCA.out.symm (q_so e))); clear G i7; obtain ⟨G4, G5, G6, G7, G8⟩ := q_c5 e3.out; have G9 := cell_old k0.out E.out; have H0 := cell_old k1.out E.out; have H1 := cell_old k2.out E.out; have H2 := cell_old k3.out E.out; have H3 := cell_old k4.out E.out; have H4 := cell_old k5.out E.out; have H5 := cell_old k6.out E.out) | (go_at_call 53; (with_reducible refine (backC1 _ gA sz p A6 c6 b0.out ?h6 g3.out HGD.out).mono ?_); (case h6 => exact fun w' hg => Kd.C_below g2.out (below_grown E.out hg LA.out)); rintro e C5 ⟨rfl, B, a9⟩; have d5 := a_ a9; have d6 := a_ (y1.out.grown B (fun e => NIA.out (q_so e))); have d7 := a_ (S_sets y2.out b0.out (by decide) B); have d8 := a_ (blk_grown i8.out B (fun e => apart59 i8.out b0.out (by decide) (q_so e))); have d9 := a_ (blk_grown i9.out B (fun e => apart59 i9.out b0.out (by decide) (q_so e))); have e0 := a_ (below_grown E.out B LA.out); have e1 := a_ (blk_grown e3.out B (fun e => apart59 e3.out b0.out (by decide) (q_so e))); have e2 := a_ (y0.out.grown B (fun e => NCA.out (q_so e))); clear B a9))
 go_roundg gQ
 case measure => omega
 case rel => exact ⟨wrap64 (y - 1), rfl, ⟨by rw [HY.out, wrap64_id (by omega) (by have := HNLEN.out; have := HHO.out; omega)]; omega, Nat.le_of_lt HHO.out, by rw [HST.out, HD.out]; exact e2.out, by rw [HST.out]; exact d5.out⟩, e1, d6, d7, d8, d9, e0⟩))))
 case neg => (
 have c2 : (D.f1 == 1) = false := beq_eq_false_iff_ne.mpr hE
 have o7 := a_ hE; clear hE; go_wp2_with (first | ((with_reducible refine gd_ 8 rfl ?_); refine q_box 8 69 #[.slice none 0 0, .int .i64 0, .int .i64 0, .int .i64 0, .int .i64 0] ?_; intro g8 b2 w9 o8 j6; have o9 := a_ o8; have e7 := a_ j6; have e8 : Aside0 (wr.heap.size ≤ g8) := ⟨by rw [b2]; exact Nat.le_refl _⟩; have p1 : g8 ≠ g1 := (by have := blk_lt B1x.out; omega); have p2 : g1 ≠ g8 := (by omega); have hra : (adX.add x.toNat).block < wr.heap.size := World.block_lt_of_cell? wr _ hrow; rw [add_block] at hra; have hrd : adX.block ≠ g8 := (by omega); have U : g8 ≠ adX.block := (by omega); have p3 : (⟨g8, 0, none⟩ : Addr) ≠ adX.add x.toNat := (fun e_ => U ((congrArg Addr.block e_).trans (add_block _ _))); have p4 : (⟨g8, 1, none⟩ : Addr) ≠ adX.add x.toNat := (fun e_ => U ((congrArg Addr.block e_).trans (add_block _ _))); have p5 : (⟨g8, 2, none⟩ : Addr) ≠ adX.add x.toNat := (fun e_ => U ((congrArg Addr.block e_).trans (add_block _ _))); have p6 : (⟨g8, 3, none⟩ : Addr) ≠ adX.add x.toNat := (fun e_ => U ((congrArg Addr.block e_).trans (add_block _ _))); have p7 : (⟨g8, 4, none⟩ : Addr) ≠ adX.add x.toNat := (fun e_ => U ((congrArg Addr.block e_).trans (add_block _ _))); have j7 := cell_old hrow j6; clear b2 o8 j6; clear hra; obtain ⟨p8, p9, q1, q2, q3, q4, q5, q6, q7, q8⟩ := q_cf5 o9.out) | (go_at_call 39; (with_reducible refine (afterC _ row AR cR gI R _ ?hn ?hI HRB.out HRQ.out HRN.out).mono ?_); (case hn => exact Kd.C_below HCR.out (by (repeat (with_reducible refine below_setg ?_ e8.out)); exact e7.out)); (case hI => exact HIx.out.below (by (repeat (with_reducible refine below_setg ?_ e8.out)); exact e7.out) HIx.out.lt); rintro e B6 ⟨rfl, c4⟩; have g7 : Below wr.heap.size wr B6 := below_then (by (repeat (with_reducible refine below_setg ?_ e8.out)); exact e7.out) (Below.size (by (repeat (with_reducible refine below_setg ?_ e8.out)); exact e7.out)) c4; have V := a_ g7; have c8 := a_ (HIx.out.below V.out HIx.out.lt); have q9 := a_ (Kd.S_below HVx.out V.out); have r2 := a_ (blk_below B1x.out V.out); have r3 := a_ (blk_below BBx.out V.out); have c9 := a_ (below_then HWx.out HWx.out.size V.out); have d0 := a_ (HCx.out.below V.out HCx.out.lt); have r4 := a_ (blk_below (g := g8) (o := .cells #[.slice A0 D.f0.length c0, .int .i64 D.f1, .int .i64 D.f2, .int .i64 D.f3, .int .i64 D.f4] 69 (0, 0)) (q_p o9.out) c4); clear g7 c4) | ((with_reducible refine gd_ 9 rfl ?_); refine box_event ?hg (N := 9) ?hd (cs := (cellsL [0]).toArray) (t := 59) ?hr ?_; (case hd => rfl); (case hg => rfl); (case hr => rw [← zero_cells]; first | (go_simp; done) | (go_simp; rfl)); intro gA hgA B7 hSA hbA; have a2 := a_ (show SetsAt B7 gA [0] from hSA); have LA : Aside0 (w.heap.size ≤ gA) := ⟨by rw [hgA]; exact c9.out.size⟩; have NIA : Aside0 (gI ≠ gA) := ⟨by have := c8.out.lt; omega⟩; have NCA : Aside0 (gC ≠ gA) := ⟨by have := d0.out.lt; omega⟩; have r5 := a_ (c8.out.below hbA c8.out.lt); have r6 := a_ (Kd.S_below q9.out hbA); have g9 := a_ (blk_below r2.out hbA); have i0 := a_ (blk_below r3.out hbA); have r7 := a_ (below_then c9.out c9.out.size hbA); have i1 := a_ (blk_below r4.out hbA); have r8 := a_ (d0.out.below hbA d0.out.lt); clear hgA hSA hbA) | ((with_reducible refine gate_store (t := 59) (p := 9) rfl ?_); refine put_event (g := gA) (i := 0) (off := 0) (l := [0]) (s := after row R) rfl rfl rfl ?hx rfl ?hy a2.out (by simp) ?_; (case hx => first | rfl | (go_simp; done) | (go_simp; rfl)); (case hy => first | rfl | (go_simp; done) | (go_simp; rfl)); intro C1 hgP hsP; have a3 := a_ (show SetsAt C1 gA [after row R] from hsP); have i2 := a_ (r5.out.grown hgP (fun e => NIA.out (q_so e))); have i3 := a_ (S_sets r6.out a2.out (by decide) hgP); have e4 := a_ (blk_grown g9.out hgP (fun e => apart59 g9.out a2.out (by decide) (q_so e))); have e5 := a_ (blk_grown i0.out hgP (fun e => apart59 i0.out a2.out (by decide) (q_so e))); have i4 := a_ (below_grown r7.out hgP LA.out); have b3 := a_ (blk_grown i1.out hgP (fun e => apart59 i1.out a2.out (by decide) (q_so e))); have i5 := a_ (r8.out.grown hgP (fun e => NCA.out (q_so e))); clear hgP hsP; obtain ⟨r9, s2, s3, s4, s5⟩ := q_c5 b3.out))
 obtain ⟨s1, j8⟩ : ∃ s1, s1 = atEnd D (after row R) := ⟨_, rfl⟩; have C2 := a_ (show SetsAt _ gA [s1] from by rw [j8, atEnd]; first | (rw [if_pos o7.out]; exact a3.out) | (rw [if_neg o7.out]; exact a3.out))
 have HSE := a_ j8; clear j8 c2; clear p8 p9 q1 q2 q3 q4 q5 q6 q7 q8 p1 p2 hrd U p3 p4 p5 p6 p7 j7 l4 l5 l6 g6 l7 hcB o2 o3 o4 o5 o6 hrow qN qX p0; have s6 : wrap64 ((D.f0.length : Int) - 1) = (D.f0.length : Int) - 1 := wrap64_id (by omega) (by have := HNLEN.out; omega)
 go_loopg [10] D.f0.length (fun gz C3 wz => ∃ y : Int, C3 = .int .i64 y ∧ Aside0 (y = (gz : Int) - 1 ∧ gz ≤ D.f0.length ∧ SetsAt wz gC (clashNd rg Cx s1 (D.f0.drop gz)).1 ∧ SetsAt wz gA [(clashNd rg Cx s1 (D.f0.drop gz)).2]) ∧ Aside0 (wz.heap[g8]? = some (.cells #[.slice A0 D.f0.length c0, .int .i64 D.f1, .int .i64 D.f2, .int .i64 D.f3, .int .i64 D.f4] 69 (0, 0))) ∧ Aside0 (SetsAt wz gI R) ∧ Aside0 (Kd.S (Kd.slice 3 (Kd.int .i64)) 27 wz w.heap.size (fun _ => True) (.slice (some adX) nx.length c3) nx) ∧ Aside0 (wz.heap[g1]? = some (.cells #[.string nm, .slice A1 n1 b7, .slice A2 n2 b8, .int .i64 (rg : Int), .slice (some adN) N.length b9] 26 (0, 0))) ∧ Aside0 (wz.heap[gB]? = some (.cells #[.slice (some ⟨gC, 0, none⟩) rg rg] 55 (0, 0))) ∧ Aside0 (Below w.heap.size w wz))
 case atStart => exact ⟨(D.f0.length : Int) - 1, by rw [s6], ⟨rfl, Nat.le_refl _, by rw [List.drop_length]; exact i5.out, by rw [List.drop_length]; exact C2.out⟩, b3, i2, i3, e4, e5, i4⟩
 case round => (
 clear s6 r9 s2 s3 s4 s5; (try clear z4 z5 z6 z7 z8)
 obtain ⟨y, rfl, ⟨hy, hgz, hCz, hAz⟩, B8y, HIy, HVy, B1y, BBy, HWy⟩ := hrel; have HY := a_ hy; cases gk with
 | zero => (
 have c1 : decide (0 ≤ y) = false := decide_eq_false (by omega)
 have HCy := a_ hCz; clear hy hgz hCz hAz; go_wp2
 go_roundg gO
 case measure => omega
 case rel => exact ⟨x + 1, by go_num, ⟨j + 1, by rw [HX.out]; rfl, by have := HJ.out; omega, by have h_ := HCy.out; rw [List.drop_zero, HSE.out, HROW.out] at h_; rw [HNXT.out]; exact h_⟩, HIy, HVy, B1y, BBy, HWy⟩)
 | succ gQ => (
 have c1 : decide (0 ≤ y) = true := decide_eq_true (by omega)
 have hyn : y = (gQ : Int) := by omega
 have hOl : gQ < D.f0.length := hgz
 have p0 : 0 ≤ y := by omega
 have q0 : y < (D.f0.length : Int) := by omega
 obtain ⟨adI, A6, c6, e, e9, b5, f7, b6, f8, f9, g0, d1, j9⟩ := at_T71 HCI.out y p0 q0; cases e; obtain ⟨p, hp⟩ : ∃ p, p = rd_T71 D.f0 y := ⟨_, rfl⟩; rw [← hp] at e9 b5 f7 b6 f8 f9 g0 d1 j9
 have hpl : p = D.f0[gQ] := by rw [hp, hyn]; simp [rd_T71, hOl]
 have hfp := HNF.out.1 p (by rw [hpl]; exact List.getElem_mem _)
 have HGD : Aside0 (Good p) := ⟨fine_good HRG.out hfp⟩
 have g2 := a_ j9; have g3 := a_ d1; have k0 := a_ e9; have k1 := a_ b5; have k2 := a_ f7; have k3 := a_ b6; have k4 := a_ f8; have k5 := a_ f9; have k6 := a_ g0; obtain ⟨Cz, hCze⟩ : ∃ Cz, Cz = (clashNd rg Cx s1 (D.f0.drop (gQ + 1))).1 := ⟨_, rfl⟩; obtain ⟨sz, hsze⟩ : ∃ sz, sz = (clashNd rg Cx s1 (D.f0.drop (gQ + 1))).2 := ⟨_, rfl⟩; have HST : Aside0 (clashNd rg Cx s1 (D.f0.drop gQ) = (if defs p then meet rg Cz p.f2.toNat sz else Cz, back sz p)) := ⟨by rw [List.drop_eq_getElem_cons hOl, clashNd_cons, ← hpl, hCze, hsze]⟩
 have HCZ : Aside0 (Cz.length = rg) := ⟨by rw [hCze, clashNd_len]; exact HCX.out⟩
 rw [← hCze] at hCz; rw [← hsze] at hAz; have HCy := a_ hCz; have HAy := a_ hAz; have HHO := a_ hgz; have HDF : Aside0 (defs p = true → p.f2 = ((p.f2.toNat : Nat) : Int) ∧ p.f2.toNat < rg) := ⟨fun hd => by have := hfp.2.2.1 (by rw [← defs_hasD hfp]; exact hd); omega⟩
 replace e9 := cell_old e9 HWy.out; replace b5 := cell_old b5 HWy.out; replace f7 := cell_old f7 HWy.out; replace b6 := cell_old b6 HWy.out; replace f8 := cell_old f8 HWy.out; replace f9 := cell_old f9 HWy.out; replace g0 := cell_old g0 HWy.out; replace p0 := eq_true p0; replace q0 := eq_true q0; obtain ⟨F9, G0, G1, G2, G3⟩ := q_c5 B8y.out; obtain ⟨d, hd⟩ : ∃ d, defs p = d := ⟨_, rfl⟩; have HD := a_ hd; clear hy hgz hCz hAz hyn hOl hp hpl j9 d1 hCze hsze hfp hd hw; cases d with
 | false => (
 go_wp2_with (first | ((with_reducible refine gd_ 11 rfl ?_); refine q_box 11 71 #[.int .i64 0, .int .i64 0, .int .i64 0, .int .i64 0, .int .i64 0, .int .i32 0, .slice none 0 0] ?_; intro a1 a4 C4 a5 a6; have a7 := a_ a5; have I := a_ a6; have J : Aside0 (wr.heap.size ≤ a1) := ⟨by rw [a4]; exact Nat.le_refl _⟩; have k7 : a1 ≠ g8 := (by have := blk_lt B8y.out; omega); have k8 : g8 ≠ a1 := (by omega); clear a4 a5 a6; obtain ⟨s7, s8, s9, t0, t1, t2, t3, t4, t5, t6, t7, t8, t9, v0⟩ := q_cf7 a7.out) | (go_at_call 52; (with_reducible refine (definesC p A6 c6 false ?h6 g3.out HD.out).mono ?_); (case h6 => exact Kd.C_below g2.out (below_then HWy.out HWy.out.size (by (repeat (with_reducible refine below_setg ?_ J.out)); exact I.out))); rintro e k9 ⟨rfl, M⟩; have a8 : Below wr.heap.size wr k9 := below_then (by (repeat (with_reducible refine below_setg ?_ J.out)); exact I.out) (Below.size (by (repeat (with_reducible refine below_setg ?_ J.out)); exact I.out)) M; have z := a_ a8; have d2 := a_ (HIy.out.below z.out HIy.out.lt); have d3 := a_ (Kd.S_below HVy.out z.out); have X := a_ (blk_below B1y.out z.out); have a0 := a_ (blk_below BBy.out z.out); have b := a_ (below_then HWy.out HWy.out.size z.out); have O := a_ (blk_below B8y.out z.out); have T := a_ (HCy.out.below z.out HCy.out.lt); have F := a_ (HAy.out.below z.out HAy.out.lt); have d4 := a_ (blk_below (g := a1) (o := .cells #[.int .i64 p.f0, .int .i64 p.f1, .int .i64 p.f2, .int .i64 p.f3, .int .i64 p.f4, .int .i32 p.f5, .slice A6 p.f6.length c6] 71 (0, 0)) (q_p a7.out) M); clear a8 M; obtain ⟨v1, v2, v4, v5, v6, v8, v9⟩ := q_c7 d4.out; obtain ⟨w5, w6, x0, x1, x2⟩ := q_c5 O.out; have x3 := cell_old k0.out b.out; have x4 := cell_old k1.out b.out; have x5 := cell_old k2.out b.out; have x6 := cell_old k3.out b.out; have x7 := cell_old k4.out b.out; have x8 := cell_old k5.out b.out; have x9 := cell_old k6.out b.out) | (go_at_call 53; (with_reducible refine (backC1 _ gA sz p A6 c6 F.out ?h6 g3.out HGD.out).mono ?_); (case h6 => exact fun w' hg => Kd.C_below g2.out (below_grown b.out hg LA.out)); rintro e C5 ⟨rfl, B, a9⟩; have d5 := a_ a9; have d6 := a_ (d2.out.grown B (fun e => NIA.out (q_so e))); have d7 := a_ (S_sets d3.out F.out (by decide) B); have d8 := a_ (blk_grown X.out B (fun e => apart59 X.out F.out (by decide) (q_so e))); have d9 := a_ (blk_grown a0.out B (fun e => apart59 a0.out F.out (by decide) (q_so e))); have e0 := a_ (below_grown b.out B LA.out); have e1 := a_ (blk_grown O.out B (fun e => apart59 O.out F.out (by decide) (q_so e))); have e2 := a_ (T.out.grown B (fun e => NCA.out (q_so e))); clear B a9))
 go_roundg gQ
 case measure => omega
 case rel => exact ⟨wrap64 (y - 1), rfl, ⟨by rw [HY.out, wrap64_id (by omega) (by have := HNLEN.out; have := HHO.out; omega)]; omega, Nat.le_of_lt HHO.out, by rw [HST.out, HD.out]; exact e2.out, by rw [HST.out]; exact d5.out⟩, e1, d6, d7, d8, d9, e0⟩)
 | true => (
 have HDN := a_ (HDF.out HD.out); go_wp2_with (first | ((with_reducible refine gd_ 11 rfl ?_); refine q_box 11 71 #[.int .i64 0, .int .i64 0, .int .i64 0, .int .i64 0, .int .i64 0, .int .i32 0, .slice none 0 0] ?_; intro a1 a4 C4 a5 a6; have a7 := a_ a5; have I := a_ a6; have J : Aside0 (wr.heap.size ≤ a1) := ⟨by rw [a4]; exact Nat.le_refl _⟩; have k7 : a1 ≠ g8 := (by have := blk_lt B8y.out; omega); have k8 : g8 ≠ a1 := (by omega); clear a4 a5 a6; obtain ⟨s7, s8, s9, t0, t1, t2, t3, t4, t5, t6, t7, t8, t9, v0⟩ := q_cf7 a7.out) | (go_at_call 52; (with_reducible refine (definesC p A6 c6 true ?h6 g3.out HD.out).mono ?_); (case h6 => exact Kd.C_below g2.out (below_then HWy.out HWy.out.size (by (repeat (with_reducible refine below_setg ?_ J.out)); exact I.out))); rintro e k9 ⟨rfl, M⟩; have a8 : Below wr.heap.size wr k9 := below_then (by (repeat (with_reducible refine below_setg ?_ J.out)); exact I.out) (Below.size (by (repeat (with_reducible refine below_setg ?_ J.out)); exact I.out)) M; have z := a_ a8; have d2 := a_ (HIy.out.below z.out HIy.out.lt); have d3 := a_ (Kd.S_below HVy.out z.out); have X := a_ (blk_below B1y.out z.out); have a0 := a_ (blk_below BBy.out z.out); have b := a_ (below_then HWy.out HWy.out.size z.out); have O := a_ (blk_below B8y.out z.out); have T := a_ (HCy.out.below z.out HCy.out.lt); have F := a_ (HAy.out.below z.out HAy.out.lt); have d4 := a_ (blk_below (g := a1) (o := .cells #[.int .i64 p.f0, .int .i64 p.f1, .int .i64 p.f2, .int .i64 p.f3, .int .i64 p.f4, .int .i32 p.f5, .slice A6 p.f6.length c6] 71 (0, 0)) (q_p a7.out) M); clear a8 M; obtain ⟨v1, v2, v4, v5, v6, v8, v9⟩ := q_c7 d4.out; obtain ⟨w5, w6, x0, x1, x2⟩ := q_c5 O.out; have x3 := cell_old k0.out b.out; have x4 := cell_old k1.out b.out; have x5 := cell_old k2.out b.out; have x6 := cell_old k3.out b.out; have x7 := cell_old k4.out b.out; have x8 := cell_old k5.out b.out; have x9 := cell_old k6.out b.out) | ((with_reducible refine gd_ 61 rfl ?_); refine load_event (g := gA) (i := 0) (off := 0) (l := [sz]) (s := sz) rfl rfl ?hx rfl F.out (by simp) rfl ?_; (case hx => first | rfl | (go_simp; done) | (go_simp; rfl))) | (go_at_call 51; (with_reducible refine (meetC nm A1 n1 b7 A2 n2 b8 rg (some adN) N.length b9 p.f2 p.f2.toNat sz g1 gB gC rg Cz HDN.out.1 HDN.out.2 HRG.out HCZ.out X.out a0.out T.out).mono ?_); rintro e K2 ⟨rfl, G, i7⟩; have y0 := a_ i7; have y1 := a_ (d2.out.grown G (fun e => NIC.out (q_so e))); have y2 := a_ (S_sets d3.out T.out (by decide) G); have i8 := a_ (blk_grown X.out G (fun e => apart59 X.out T.out (by decide) (q_so e))); have i9 := a_ (blk_grown a0.out G (fun e => apart59 a0.out T.out (by decide) (q_so e))); have E := a_ (below_grown b.out G LC.out); have e3 := a_ (blk_grown O.out G (fun e => apart59 O.out T.out (by decide) (q_so e))); have b0 := a_ (F.out.grown G (fun e => NCA.out.symm (q_so e))); clear G i7; obtain ⟨G4, G5, G6, G7, G8⟩ := q_c5 e3.out; have G9 := cell_old k0.out E.out; have H0 := cell_old k1.out E.out; have H1 := cell_old k2.out E.out; have H2 := cell_old k3.out E.out; have H3 := cell_old k4.out E.out; have H4 := cell_old k5.out E.out; have H5 := cell_old k6.out E.out) | (go_at_call 53; (with_reducible refine (backC1 _ gA sz p A6 c6 b0.out ?h6 g3.out HGD.out).mono ?_); (case h6 => exact fun w' hg => Kd.C_below g2.out (below_grown E.out hg LA.out)); rintro e C5 ⟨rfl, B, a9⟩; have d5 := a_ a9; have d6 := a_ (y1.out.grown B (fun e => NIA.out (q_so e))); have d7 := a_ (S_sets y2.out b0.out (by decide) B); have d8 := a_ (blk_grown i8.out B (fun e => apart59 i8.out b0.out (by decide) (q_so e))); have d9 := a_ (blk_grown i9.out B (fun e => apart59 i9.out b0.out (by decide) (q_so e))); have e0 := a_ (below_grown E.out B LA.out); have e1 := a_ (blk_grown e3.out B (fun e => apart59 e3.out b0.out (by decide) (q_so e))); have e2 := a_ (y0.out.grown B (fun e => NCA.out (q_so e))); clear B a9))
 go_roundg gQ
 case measure => omega
 case rel => exact ⟨wrap64 (y - 1), rfl, ⟨by rw [HY.out, wrap64_id (by omega) (by have := HNLEN.out; have := HHO.out; omega)]; omega, Nat.le_of_lt HHO.out, by rw [HST.out, HD.out]; exact e2.out, by rw [HST.out]; exact d5.out⟩, e1, d6, d7, d8, d9, e0⟩))))))
def k54 : Kd (Int × Int) := Kd.pair (Kd.int .i64) (Kd.int .i64)
theorem k54_mkM (w : World) (base : Nat) (ok : Nat → Prop) (a b : Int) : k54.M w base ok (a, b) [.int .i64 a, .int .i64 b] := ⟨[.int .i64 a], [.int .i64 b], rfl, rfl, rfl⟩
theorem k54_open {w : World} {x : Int × Int} {cs : List Value} (h : k54.K w x cs) : cs = [.int .i64 x.1, .int .i64 x.2] := by
 obtain ⟨_, _, rfl, rfl, rfl⟩ := h; rfl
theorem info54 : (Tryd.prog.info? 54).map (fun i => (i.zero, i.size, i.bytes)) = some (some (.agg #[.int .i64 0, .int .i64 0]), k54.sz, 16) := by kernel_rfl
abbrev ClashCall (w : World) (v : Value) (rg : Nat) (C : List Nat) : Prop := ∀ w0, Below w.heap.size w w0 → Calls Tryd.prog 30 #[v] w0 fun e w' => ∃ (g c : Nat), e = .returned (.slice (some ⟨g, 0, none⟩) rg c) ∧ w0.heap.size ≤ g ∧ SetsAt w' g C ∧ Below w0.heap.size w0 w'
def rowP (r : Nat) (L : List Nat) : List (Int × Int) := (L.filter fun q => decide (r < q)).map fun (q : Nat) => ((r : Int), (q : Int))
def pairsOf (C : List Nat) (rg n : Nat) : List (Int × Int) := (List.range n).flatMap fun r => rowP r (listOf (C.getD r 0) rg)
theorem rowP_take (r : Nat) {L : List Nat} {i : Nat} (h : i < L.length) : rowP r (L.take (i + 1)) = if r < L[i] then rowP r (L.take i) ++ [((r : Int), (L[i] : Int))] else rowP r (L.take i) := by
 unfold rowP
 rw [List.take_add_one, List.getElem?_eq_getElem h, Option.toList_some, List.filter_append, List.map_append]; by_cases hr : r < L[i]
 ·rw [if_pos hr, List.filter_cons_of_pos (by simpa using hr)]; rfl
 ·rw [if_neg hr, List.filter_cons_of_neg (by simpa using hr)]; simp
theorem pairsOf_succ (C : List Nat) (rg n : Nat) : pairsOf C rg (n + 1) = pairsOf C rg n ++ rowP n (listOf (C.getD n 0) rg) := by
 unfold pairsOf
 rw [List.range_succ, List.flatMap_append, List.flatMap_cons, List.flatMap_nil, List.append_nil]
theorem rowP_len (r : Nat) (L : List Nat) : (rowP r L).length ≤ L.length := by
 unfold rowP
 rw [List.length_map]; exact List.length_filter_le _ _
theorem listOf_len (s n : Nat) : (listOf s n).length ≤ n := by
 have := regsL_len s n
 unfold regsL at this
 rwa [List.length_map] at this
theorem pairsOf_len (C : List Nat) (rg : Nat) : ∀ n, (pairsOf C rg n).length ≤ n * rg
 | 0 => Nat.zero_le _
 | n + 1 => by rw [pairsOf_succ, List.length_append, Nat.succ_mul]; have h1 := pairsOf_len C rg n; have b := rowP_len n (listOf (C.getD n 0) rg); have l := listOf_len (C.getD n 0) rg; omega
def cs.T9 : Bool × List (List Nat × List Nat) := (true, [([], []), ([], []), ([0, 1], [0, 1]), ([], []), ([3], [3]), ([2, 4], [2, 4]), ([5], [5]), ([], [])])
def cs.B9 : List Nat := [0, 0, 3, 0, 8, 31, 63, 0]
theorem cs.tab9 : rtab .any (opsOf Tryd.f18 9) = cs.T9 := by kernel_rfl
theorem cs.bits9 : waitsOk cs.T9.2 cs.B9 = true := by kernel_rfl
theorem clashesC2 (w : World) (nm : ByteArray) (X : Option Addr) (n1 z : Nat) (A2 : Option Addr) (n2 B : Nat) (rg : Nat) (A4 : Option Addr) (n4 D : Nat) (C : List Nat) (hF : FitsCall w (.agg #[.string nm, .slice X n1 z, .slice A2 n2 B, .int .i64 (rg : Int), .slice A4 n4 D]) 0) (hL : ClashCall w (.agg #[.string nm, .slice X n1 z, .slice A2 n2 B, .int .i64 (rg : Int), .slice A4 n4 D]) rg C) (hrg : rg ≤ 2048) (hCl : C.length = rg) :
  Calls Tryd.prog 18 #[(.agg #[.string nm, .slice X n1 z, .slice A2 n2 B, .int .i64 (rg : Int), .slice A4 n4 D])] w fun e w' => ∃ v : Value, e = .returned (.tuple #[v, .int .i64 0]) ∧ Kd.R k54 54 w' w.heap.size (fun _ => True) v (pairsOf C rg rg) ∧ Below w.heap.size w w' := by
 have HFI := a_ hF; have HCA := a_ hL; have HRG := a_ hrg; have HCL := a_ hCl; clear hF hL hrg hCl; have f5 := Tryd.underlying26; go_enter Tryd.func18, Tryd.ntmps18
 go_wp2_with (first | ((with_reducible refine gd_ 1 rfl ?_); refine q_box 1 26 #[.string nm, .slice X n1 z, .slice A2 n2 B, .int .i64 (rg : Int), .slice A4 n4 D] ?_; intro g1 e0 w1 a5 a6; have a7 := a_ a5; have M := a_ a6; clear e0 a5 a6; obtain ⟨a8, a9, b0, b1, b2⟩ := q_c5 a7.out) | (go_at_call 29; (with_reducible refine (HFI.out _ M.out).mono ?_); rintro e w2 ⟨rfl, N⟩; have b3 := a_ (blk_below a7.out N); have O := a_ (below_then M.out M.out.size N); clear N; obtain ⟨b4, b5, b6, b7, b8⟩ := q_c5 b3.out) | (go_at_call 30; (with_reducible refine (HCA.out _ O.out).mono ?_); rintro e I ⟨gC, cC, rfl, hgC, hSC, T⟩; have HSC := a_ hSC; have b9 := a_ (blk_below b3.out T); have U := a_ (below_then O.out O.out.size T); clear hgC hSC T; obtain ⟨c0, c3, c4, c6, c8⟩ := q_c5 b9.out))
 go_loopg [5, 19] rg (fun gk v5 e2 wx => ∃ x : Int, e2 = .int .i64 x ∧ Aside0 (∃ j : Nat, x = (j : Int) ∧ j + gk = rg ∧ Kd.R k54 54 wx I.heap.size (fun _ => True) v5 (pairsOf C rg j)) ∧ Aside0 (SetsAt wx gC C) ∧ Aside0 (wx.heap[g1]? = some (.cells #[.string nm, .slice X n1 z, .slice A2 n2 B, .int .i64 (rg : Int), .slice A4 n4 D] 26 (0, 0))) ∧ Aside0 (Below I.heap.size I wx))
 case atStart => exact ⟨0, rfl, ⟨0, rfl, by omega, Kd.R_nil _ _ _ _ _⟩, HSC, b9, ⟨Below.refl _ _⟩⟩
 case round => (
 clear a8 a9 b0 b1 b2 b4 b5 b6 b7 b8 c0 c3 c4 c6 c8; obtain ⟨x, rfl, ⟨j, hx, hj, hO⟩, HSx, BKx, V⟩ := hrel; have HX := a_ hx; have HJ := a_ hj; obtain ⟨c9, d0, d1, J, d2⟩ := q_c5 BKx.out; cases gk with
 | zero => (
 have c1 : decide (x < (rg : Int)) = false := decide_eq_false (by omega)
 have HO := a_ hO; clear hx hj hO; go_wp2
 (try simp only [Exit.inBlock, Exit.then])
 refine bodyPost_ret (results_tmp2 rfl _ _ _) rfl ?_
 refine ⟨_, rfl, ?_, below_then U.out U.out.size V.out⟩
 have h_ := Kd.R_lower HO.out U.out.size; rwa [show j = rg by have := HJ.out; omega] at h_)
 | succ gO => (
 have c1 : decide (x < (rg : Int)) = true := decide_eq_true (by omega)
 have p0 : (0 ≤ x) = True := eq_true (by omega)
 have q0 : (x < (rg : Int)) = True := eq_true (by omega)
 have HJR : Aside0 (j < C.length) := ⟨by have := HCL.out; omega⟩
 have hw : wrap64 (x + 1) = x + 1 := wrap64_id (by omega) (by have := HRG.out; omega)
 obtain ⟨s, hs⟩ : ∃ s, s = C.getD j 0 := ⟨_, rfl⟩; have HSE := a_ hs; have HXT : Aside0 (x.toNat * 32 = 32 * j) := ⟨by omega⟩
 obtain ⟨L, hL⟩ : ∃ L, L = listOf s rg := ⟨_, rfl⟩; obtain ⟨us, hus⟩ : ∃ us, us = regsL s rg := ⟨_, rfl⟩; have HUS : Aside0 (us = L.map Int.ofNat) := ⟨by rw [hus, hL]; rfl⟩
 have HUSE := a_ hus; have HLL : Aside0 (us.length = L.length) := ⟨by rw [HUS.out, List.length_map]⟩
 have HUN : Aside0 (us.length ≤ rg) := ⟨by rw [hus]; exact regsL_len s rg⟩
 obtain ⟨P, hP⟩ : ∃ P, P = pairsOf C rg j := ⟨_, rfl⟩; have HPL : Aside0 (P.length ≤ 2048 * 2048) := ⟨by rw [hP]; exact Nat.le_trans (pairsOf_len C rg j) (Nat.mul_le_mul (by have := HRG.out; have := HJ.out; omega) HRG.out)⟩
 have HPN : Aside0 (pairsOf C rg (j + 1) = P ++ rowP j L) := ⟨by rw [pairsOf_succ, hP, hL, hs]⟩
 rw [← hP] at hO; have HO := a_ hO; clear hx hj hO hs hL hus hP; go_upto_region 9 with (fail)
 refine q_s 8 (S := fun W' => W'.cell? ⟨g1, 3, none⟩ = some (.int .i64 (rg : Int))) J (fun p => ?_)
 refine with_tabW cs.tab9 cs.bits9 (fun l d3 => ?_)
 refine qv_ 0 l ?_
 refine qv_ 1 l ?_
 refine qv_ 2 l ?_
 refine qv_ 3 l ?_
 refine qv_ 7 l ?_
 refine qt_ 4 l d3 p ?_
 refine q_o 5 l (fun K hK => ?_)
 refine goes_ Tryd.func31 (by kernel_rfl) rfl #[.pointer (some ⟨gC, x.toNat * 32, none⟩), .int .i64 (rg : Int)] (by rfl) rfl rfl (by (try simp only [List.map_toArray, List.map_cons, List.map_nil]); first | done | rfl | (simp; done)) ?_
 refine (listC2 gC _ j rg C s HXT.out HSx.out.drew HJR.out HRG.out HSE.out.symm).mono ?_
 rintro e w7 ⟨v7, rfl, F, E⟩
 refine ⟨_, rfl, ?_⟩
 rw [← HUSE.out] at F; have e3 := a_ (HSx.out.drew.below E HSx.out.drew.lt); have d4 := a_ (blk_below (blk_drew BKx.out) E); have e4 := a_ (below_step (below_drew1 V.out) E); have e5 := a_ (Kd.R_below (Kd.R_drew HO.out) E); obtain ⟨Av, cv, rfl⟩ := Kd.R_slice F; have e6 := a_ F; clear F E; refine q_nk hK.out (q_b d4.out 3) (fun p => ?_)
 clear hK K
 refine qv_ 6 l ?_
 refine done_ (done_of l.out (by kernel_rfl)) ?_
 clear l d3 p c9 d0 d1 J d2 c1; go_wp2
 go_loopg [5, 29] us.length (fun gk v5 e7 wx => ∃ y : Int, e7 = .int .i64 y ∧ Aside0 (∃ i : Nat, y = (i : Int) ∧ i + gk = us.length ∧ Kd.R k54 54 wx I.heap.size (fun _ => True) v5 (P ++ rowP j (L.take i))) ∧ Aside0 (SetsAt wx gC C) ∧ Aside0 (wx.heap[g1]? = some (.cells #[.string nm, .slice X n1 z, .slice A2 n2 B, .int .i64 (rg : Int), .slice A4 n4 D] 26 (0, 0))) ∧ Aside0 (Below I.heap.size I wx) ∧ Aside0 (Kd.R (Kd.int .i64) 3 wx wr.drew.heap.size (fun _ => True) (.slice Av us.length cv) us))
 case atStart => exact ⟨0, rfl, ⟨0, rfl, by omega, by rw [show rowP j (L.take 0) = [] from rfl, List.append_nil]; exact e5.out⟩, e3, d4, e4, e6⟩
 case round => (
 obtain ⟨y, rfl, ⟨i, hy, hi, hO⟩, HSx, BKx, V, HR⟩ := hrel; have HY := a_ hy; have HI := a_ hi; have HO := a_ hO; cases gk with
 | zero => (
 have c1 : decide (y < (us.length : Int)) = false := decide_eq_false (by omega)
 clear hy hi hO; go_wp2
 go_roundg gO
 case measure => omega
 case rel => exact ⟨x + 1, by go_num, ⟨j + 1, by rw [HX.out]; rfl, by have := HJ.out; omega, by have h_ := HO.out; rw [List.take_of_length_le (by have := HI.out; have := HLL.out; omega)] at h_; rw [HPN.out]; exact h_⟩, HSx, BKx, V⟩)
 | succ gQ => (
 have c1 : decide (y < (us.length : Int)) = true := decide_eq_true (by omega)
 have hjl : i < us.length := by omega
 have hjL : i < L.length := by have := HLL.out; omega
 have p1 : 0 ≤ y := by omega
 have q1 : y < (us.length : Int) := by omega
 obtain ⟨ad, e, hcu⟩ := Kd.at_int (Kd.R_reads' HR.out).2.2 y p1 q1; cases e; obtain ⟨u, hu⟩ : ∃ u, u = rd us y := ⟨_, rfl⟩; rw [← hu] at hcu; obtain ⟨q, hq⟩ : ∃ q, q = L[i] := ⟨_, rfl⟩; have huq : u = (q : Int) := by rw [hu, hy, hq]; simp [rd, HUS.out, hjL]
 have hRT := rowP_take j hjL; rw [← hq] at hRT; obtain ⟨xs, hxs⟩ : ∃ xs, xs = P ++ rowP j (L.take i) := ⟨_, rfl⟩; have HLM : Aside0 ((xs.length + 1) * 16 ≤ 140737488355328) := ⟨by
  have h1 := rowP_len j (L.take i); rw [List.length_take] at h1; rw [hxs, List.length_append]; have := HPL.out; have := HUN.out; have := HRG.out; have := HLL.out; omega⟩
 rw [← hxs] at hO; have HO := a_ hO; have hwy : wrap64 (y + 1) = y + 1 := wrap64_id (by omega) (by have := HUN.out; have := HRG.out; omega)
 have hxn : x = (j : Int) := HX.out
 replace p1 := eq_true p1; replace q1 := eq_true q1; by_cases hlt : j < q
 case pos => (
 have c2 : decide (x < u) = true := decide_eq_true (by omega)
 rw [if_pos hlt] at hRT; have HRT : Aside0 (P ++ rowP j (L.take (i + 1)) = xs ++ [(x, u)]) := ⟨by rw [hRT, hxs, List.append_assoc, hxn, huq]⟩
 clear hy hi hO hu hq huq hjl hjL hRT hxs hlt hxn; go_wp2_with (first | ((with_reducible refine gate_builtin (b := .append) (xs := #[.tmp 36, .tmp 40]) rfl ?_); at_builtin; refine Kd.R_append k54 (w0 := I) I.heap.size rfl (.tmp 36) (.tmp 40) 45 54 (.agg #[.int .i64 0, .int .i64 0]) 16 rfl Tryd.underlying45 info54 rfl (by decide) (by omega) u5 xs (x, u) [.int .i64 x, .int .i64 u] (fun _ => True) (fun _ => False) rfl rfl (k54_mkM _ _ _ _ _) (fun _ h => h.elim) (fun _ _ => trivial) HO.out V.out V.out.size HLM.out ?_; intro v8 w8 d5 d6 G d7; have f0 := a_ d5; have f1 := a_ d6; have f2 := a_ (Kd.R_over' (v := u5) HR.out (Kd.R_typed HO.out) (by decide) G); have f3 := a_ (blk_grown HSx.out G (Kd.R_ne HO.out HSx.out (by decide))); have f4 := a_ (blk_grown BKx.out G (Kd.R_ne HO.out BKx.out (by decide))); clear d5 d6 G d7))
 go_roundg gQ
 case measure => omega
 case rel => exact ⟨y + 1, by go_num, ⟨i + 1, by rw [HY.out]; rfl, by have := HI.out; omega, by rw [HRT.out]; exact f0.out⟩, f3, f4, f1, f2⟩)
 case neg => (
 have c2 : decide (x < u) = false := decide_eq_false (by omega)
 rw [if_neg hlt] at hRT; have HRT : Aside0 (P ++ rowP j (L.take (i + 1)) = xs) := ⟨by rw [hRT, hxs]⟩
 clear hy hi hO hu hq huq hjl hjL hRT hxs hlt hxn; go_wp2
 go_roundg gQ
 case measure => omega
 case rel => exact ⟨y + 1, by go_num, ⟨i + 1, by rw [HY.out]; rfl, by have := HI.out; omega, by rw [HRT.out]; exact HO.out⟩, HSx, BKx, V, HR⟩)))))
def okP (kk p : Int) : Bool := decide (p < kk) && decide (-64 ≤ p)
def rightB (l : List Int) (kk : Int) (C : List Nat) (rg : Nat) : Bool := l.all (okP kk) && (List.range rg).all fun r => (listOf (C.getD r 0) rg).all fun q => !(l.getD r 0 == l.getD q 0)
theorem all_take_succ {α : Type} {f : α → Bool} {l : List α} {j : Nat} {z : α} (hj : j < l.length) (h : (l.take j).all f = true) (b : f (l.getD j z) = true) : (l.take (j + 1)).all f = true := by
 rw [List.getD_eq_getElem?_getD, List.getElem?_eq_getElem hj, Option.getD_some] at b; rw [List.take_add_one, List.getElem?_eq_getElem hj, Option.toList_some, List.all_append, h]; simpa using b
theorem all_false {α : Type} {f : α → Bool} {l : List α} {j : Nat} {z : α} (hj : j < l.length) (b : f (l.getD j z) = false) : l.all f = false := by
 rw [List.getD_eq_getElem?_getD, List.getElem?_eq_getElem hj, Option.getD_some] at b; cases h : l.all f with
 | false => rfl
 | true => rw [List.all_eq_true.1 h _ (List.getElem_mem hj)] at b; cases b
theorem range_all_succ {f : Nat → Bool} {j : Nat} (h : (List.range j).all f = true) (b : f j = true) : (List.range (j + 1)).all f = true := by
 rw [List.range_succ, List.all_append, h]; simpa using b
theorem range_all_false {f : Nat → Bool} {j n : Nat} (hj : j < n) (b : f j = false) : (List.range n).all f = false := by
 cases h : (List.range n).all f with
 | false => rfl
 | true => rw [List.all_eq_true.1 h _ (List.mem_range.2 hj)] at b; cases b
theorem rightA (w : World) (nm : ByteArray) (X : Option Addr) (n1 D : Nat) (A2 : Option Addr) (n2 E : Nat) (rg : Int) (A4 : Option Addr) (n4 F : Nat) (AP : Option Addr) (cP : Nat) (l : List Int) (kk : Int) (hF : FitsCall w (.agg #[.string nm, .slice X n1 D, .slice A2 n2 E, .int .i64 (rg : Int), .slice A4 n4 F]) 0) (hbad : (l.length : Int) ≠ rg ∨ kk < 1 ∨ 13 < kk) :
  Calls Tryd.prog 9 #[(.agg #[.string nm, .slice X n1 D, .slice A2 n2 E, .int .i64 (rg : Int), .slice A4 n4 F]), (.slice AP l.length cP), .int .i64 kk] w fun e w' => e = .returned (.tuple #[.bool false, .int .i64 6]) ∧ Below w.heap.size w w' := by
 have HFI := a_ hF; have HBD := a_ hbad; clear hF hbad; have a6 := Tryd.underlying26; go_enter Tryd.func9, Tryd.ntmps9
 by_cases h1 : (l.length : Int) = rg
 case neg => (
 have c1 : ((l.length : Int) != (rg : Int)) = true := bne_iff_ne.mpr h1
 clear h1; go_wp2_with (first | ((with_reducible refine gd_ 3 rfl ?_); refine q_box 3 26 #[.string nm, .slice X n1 D, .slice A2 n2 E, .int .i64 (rg : Int), .slice A4 n4 F] ?_; intro g1 G w1 q y; have z := a_ q; have b := a_ y; clear G q y; obtain ⟨L, M, N, B, O⟩ := q_c5 z.out) | (go_at_call 29; (with_reducible refine (HFI.out _ b.out).mono ?_); rintro e w2 ⟨rfl, p⟩; have I := a_ (blk_below z.out p); have J := a_ (below_then b.out b.out.size p); clear p; obtain ⟨R, S, T, C, U⟩ := q_c5 I.out))
 (try simp only [Exit.inBlock, Exit.then])
 refine bodyPost_ret (results_tmp2 rfl _ _ _) rfl ?_
 exact ⟨rfl, J.out⟩)
 case pos => (
 have c1 : ((l.length : Int) != (rg : Int)) = false := bne_eq_false_iff_eq.mpr h1
 have H1 := a_ h1; clear h1; by_cases h2 : kk < 1
 focus (
 have c2 : decide (kk < 1) = true := decide_eq_true h2
 clear h2; go_wp2_with (first | ((with_reducible refine gd_ 3 rfl ?_); refine q_box 3 26 #[.string nm, .slice X n1 D, .slice A2 n2 E, .int .i64 (rg : Int), .slice A4 n4 F] ?_; intro g1 G w1 q y; have z := a_ q; have b := a_ y; clear G q y; obtain ⟨L, M, N, B, O⟩ := q_c5 z.out) | (go_at_call 29; (with_reducible refine (HFI.out _ b.out).mono ?_); rintro e w2 ⟨rfl, p⟩; have I := a_ (blk_below z.out p); have J := a_ (below_then b.out b.out.size p); clear p; obtain ⟨R, S, T, C, U⟩ := q_c5 I.out)))
 rotate_left
 focus (
 have V : 13 < kk := by have := HBD.out; have := H1.out; omega
 have c2 : decide (kk < 1) = false := decide_eq_false h2
 have a9 : decide (13 < kk) = true := decide_eq_true V
 clear h2 V; go_wp2_with (first | ((with_reducible refine gd_ 3 rfl ?_); refine q_box 3 26 #[.string nm, .slice X n1 D, .slice A2 n2 E, .int .i64 (rg : Int), .slice A4 n4 F] ?_; intro g1 G w1 q y; have z := a_ q; have b := a_ y; clear G q y; obtain ⟨L, M, N, B, O⟩ := q_c5 z.out) | (go_at_call 29; (with_reducible refine (HFI.out _ b.out).mono ?_); rintro e w2 ⟨rfl, p⟩; have I := a_ (blk_below z.out p); have J := a_ (below_then b.out b.out.size p); clear p; obtain ⟨R, S, T, C, U⟩ := q_c5 I.out)))
 all_goals (
 (try simp only [Exit.inBlock, Exit.then])
 refine bodyPost_ret (results_tmp2 rfl _ _ _) rfl ?_
 exact ⟨rfl, J.out⟩))
def rl.T16 : Bool × List (List Nat × List Nat) := (true, [([], []), ([], []), ([0, 1], [0, 1]), ([], []), ([3], [3]), ([2, 4], [2, 4]), ([5], [5]), ([], [])])
def rl.B16 : List Nat := [0, 0, 3, 0, 8, 31, 63, 0]
theorem rl.tab16 : rtab .any (opsOf Tryd.f9 16) = rl.T16 := by kernel_rfl
theorem rl.bits16 : waitsOk rl.T16.2 rl.B16 = true := by kernel_rfl
def rq.T19 : Bool × List (List Nat × List Nat) := (true, [([], []), ([], []), ([0, 1], [0, 1]), ([2], [2]), ([], []), ([], []), ([4, 5], [4, 5]), ([6], [6]), ([3, 7], [3, 7])])
def rq.B19 : List Nat := [0, 0, 3, 7, 0, 0, 48, 112, 255]
theorem rq.tab19 : rtab .any (opsOf Tryd.f9 19) = rq.T19 := by kernel_rfl
theorem rq.bits19 : waitsOk rq.T19.2 rq.B19 = true := by kernel_rfl
theorem rightC (w : World) (nm : ByteArray) (A1 : Option Addr) (n1 M : Nat) (A2 : Option Addr) (n2 N : Nat) (rg : Nat) (A4 : Option Addr) (n4 O : Nat) (AP : Option Addr) (cP : Nat) (l : List Int) (kk : Int) (C : List Nat) (hF : FitsCall w (.agg #[.string nm, .slice A1 n1 M, .slice A2 n2 N, .int .i64 (rg : Int), .slice A4 n4 O]) 0) (hL : ClashCall w (.agg #[.string nm, .slice A1 n1 M, .slice A2 n2 N, .int .i64 (rg : Int), .slice A4 n4 O]) rg C) (hP : Kd.C (Kd.int .i64) w AP l.length l) (hlr : l.length = rg) (a5 : 1 ≤ kk) (a6 : kk ≤ 13) (hrg : rg ≤ 2048) (hCl : C.length = rg) :
  Calls Tryd.prog 9 #[(.agg #[.string nm, .slice A1 n1 M, .slice A2 n2 N, .int .i64 (rg : Int), .slice A4 n4 O]), (.slice AP l.length cP), .int .i64 kk] w fun e w' => e = .returned (.tuple #[.bool (rightB l kk C rg), .int .i64 0]) ∧ Below w.heap.size w w' := by
 obtain ⟨b, hb⟩ : ∃ b, b = rightB l kk C rg := ⟨_, rfl⟩; rw [← hb]; have HBV := a_ hb; have HFI := a_ hF; have HCA := a_ hL; have HP := a_ hP; have HLR := a_ hlr; have HRG := a_ hrg; have HCL := a_ hCl; have HK := a_ (And.intro a5 a6); have R : ((l.length : Int) != (rg : Int)) = false := bne_eq_false_iff_eq.mpr (by omega)
 have c2 : decide (kk < 1) = false := decide_eq_false (by omega)
 have c3 : decide (13 < kk) = false := decide_eq_false (by omega)
 clear hb hF hL hP hlr a5 a6 hrg hCl; have f5 := Tryd.underlying26; go_enter Tryd.func9, Tryd.ntmps9
 go_wp2_with (first | ((with_reducible refine gd_ 3 rfl ?_); refine q_box 3 26 #[.string nm, .slice A1 n1 M, .slice A2 n2 N, .int .i64 (rg : Int), .slice A4 n4 O] ?_; intro g1 e7 w1 a7 a8; have a9 := a_ a7; have X := a_ a8; clear e7 a7 a8; obtain ⟨b0, b1, b2, b3, b4⟩ := q_c5 a9.out) | (go_at_call 29; (with_reducible refine (HFI.out _ X.out).mono ?_); rintro e w2 ⟨rfl, a0⟩; have b5 := a_ (blk_below a9.out a0); have b6 := a_ (below_then X.out X.out.size a0); clear a0; obtain ⟨b7, b8, b9, c0, c4⟩ := q_c5 b5.out))
 clear R c2 c3; go_loopg [35] l.length (fun gk e8 wx => ∃ x : Int, e8 = .int .i64 x ∧ Aside0 (∃ j : Nat, x = (j : Int) ∧ j + gk = l.length ∧ (l.take j).all (okP kk) = true) ∧ Aside0 (Below w2.heap.size w2 wx))
 case atStart => exact ⟨0, rfl, ⟨0, rfl, by omega, rfl⟩, ⟨Below.refl _ _⟩⟩
 case round => (
 clear b0 b1 b2 b3 b4 b7 b8 b9 c0 c4; obtain ⟨x, rfl, ⟨j, hx, hj, hO⟩, V⟩ := hrel; have BKx := a_ (blk_below b5.out V.out); have HBx := a_ (below_then b6.out b6.out.size V.out); have HX := a_ hx; have HJ := a_ hj; cases gk with
 | succ gO => (
 have R : decide (x < (l.length : Int)) = true := decide_eq_true (by omega)
 have hjl : j < l.length := by omega
 have p0 : 0 ≤ x := by omega
 have q0 : x < (l.length : Int) := by omega
 obtain ⟨ad, e, hcu⟩ := Kd.at_int HP.out x p0 q0; cases e; obtain ⟨u, hu⟩ : ∃ u, u = rd l x := ⟨_, rfl⟩; rw [← hu] at hcu; replace hcu := cell_old hcu HBx.out; have huq : u = l.getD j 0 := by rw [hu, hx]; rfl
 have hw : wrap64 (x + 1) = x + 1 := wrap64_id (by omega) (by have := HLR.out; have := HRG.out; omega)
 have HO := a_ hO; have HUQ := a_ huq; have HJL := a_ hjl; replace p0 := eq_true p0; replace q0 := eq_true q0; clear hx hj hO hu huq hjl; by_cases h1 : kk ≤ u
 case pos => (
 have c2 : decide (kk ≤ u) = true := decide_eq_true h1
 have hbf : b = false := by rw [HBV.out, rightB, all_false HJL.out (by rw [← HUQ.out, okP, decide_eq_false (by omega), Bool.false_and]), Bool.false_and]
 have HBF := a_ hbf; clear h1 hbf; go_wp2
 (try simp only [Exit.inBlock, Exit.then])
 refine bodyPost_ret (results_tmp2 rfl _ _ _) rfl ?_
 rw [HBF.out]; exact ⟨rfl, HBx.out⟩)
 case neg => (
 have c2 : decide (kk ≤ u) = false := decide_eq_false h1
 by_cases h2 : u < -64
 case pos => (
 have c3 : decide (u < -64) = true := decide_eq_true h2
 have hbf : b = false := by rw [HBV.out, rightB, all_false HJL.out (by rw [← HUQ.out, okP, decide_eq_false (show ¬ (-64 ≤ u) by omega), Bool.and_false]), Bool.false_and]
 have HBF := a_ hbf; clear h1 h2 hbf; go_wp2
 (try simp only [Exit.inBlock, Exit.then])
 refine bodyPost_ret (results_tmp2 rfl _ _ _) rfl ?_
 rw [HBF.out]; exact ⟨rfl, HBx.out⟩)
 case neg => (
 have c3 : decide (u < -64) = false := decide_eq_false h2
 have HOK : Aside0 ((l.take (j + 1)).all (okP kk) = true) := ⟨all_take_succ HJL.out HO.out (by rw [← HUQ.out, okP, decide_eq_true (by omega), decide_eq_true (show -64 ≤ u by omega)]; rfl)⟩
 clear h1 h2; go_wp2
 go_roundg gO
 case measure => omega
 case rel => exact ⟨x + 1, by go_num, ⟨j + 1, by rw [HX.out]; rfl, by have := HJ.out; omega, HOK.out⟩, ⟨V.out⟩⟩)))
 | zero => (
 have R : decide (x < (l.length : Int)) = false := decide_eq_false (by omega)
 have HALL : Aside0 (l.all (okP kk) = true) := ⟨by rw [List.take_of_length_le (by omega)] at hO; exact hO⟩
 obtain ⟨F, G, I, D, J⟩ := q_c5 BKx.out; clear hx hj hO; go_wp2_with (first | (go_at_call 30; (with_reducible refine (HCA.out _ HBx.out).mono ?_); rintro e w3 ⟨gC, cC, rfl, hgC, hSC, a1⟩; have HSC := a_ hSC; have c6 := a_ (blk_below BKx.out a1); have T := a_ (below_then HBx.out HBx.out.size a1); clear hgC hSC a1; obtain ⟨c8, c9, d0, d1, d2⟩ := q_c5 c6.out))
 clear R; go_loopg [51] rg (fun gk e9 wx => ∃ x : Int, e9 = .int .i64 x ∧ Aside0 (∃ j : Nat, x = (j : Int) ∧ j + gk = rg ∧ ((List.range j).all fun r => (listOf (C.getD r 0) rg).all fun q => !(l.getD r 0 == l.getD q 0)) = true) ∧ Aside0 (Below w3.heap.size w3 wx))
 case atStart => exact ⟨0, rfl, ⟨0, rfl, by omega, rfl⟩, ⟨Below.refl _ _⟩⟩
 case round => (
 clear F G I D J c8 c9 d0 d1 d2; obtain ⟨x, rfl, ⟨j, hx, hj, hO⟩, V⟩ := hrel; have BKx := a_ (blk_below c6.out V.out); have HSx := a_ (HSC.out.below V.out HSC.out.lt); have HBx := a_ (below_then T.out T.out.size V.out); have HX := a_ hx; have HJ := a_ hj; have HO := a_ hO; obtain ⟨F, G, I, D, J⟩ := q_c5 BKx.out; cases gk with
 | zero => (
 have R : decide (x < (rg : Int)) = false := decide_eq_false (by omega)
 have HBF : Aside0 (b = true) := ⟨by rw [HBV.out, rightB, HALL.out, Bool.true_and, ← HO.out, show j = rg by omega]⟩
 clear hx hj hO; go_wp2
 (try simp only [Exit.inBlock, Exit.then])
 refine bodyPost_ret (results_tmp2 rfl _ _ _) rfl ?_
 rw [HBF.out]; exact ⟨rfl, HBx.out⟩)
 | succ gO => (
 have R : decide (x < (rg : Int)) = true := decide_eq_true (by omega)
 have p0 : (0 ≤ x) = True := eq_true (by omega)
 have q0 : (x < (rg : Int)) = True := eq_true (by omega)
 have HJR : Aside0 (j < C.length) := ⟨by have := HCL.out; omega⟩
 have hw : wrap64 (x + 1) = x + 1 := wrap64_id (by omega) (by have := HRG.out; omega)
 obtain ⟨s, hs⟩ : ∃ s, s = C.getD j 0 := ⟨_, rfl⟩; have HSE := a_ hs; have HXT : Aside0 (x.toNat * 32 = 32 * j) := ⟨by omega⟩
 obtain ⟨L, hL⟩ : ∃ L, L = listOf s rg := ⟨_, rfl⟩; obtain ⟨us, hus⟩ : ∃ us, us = regsL s rg := ⟨_, rfl⟩; have HUS : Aside0 (us = L.map Int.ofNat) := ⟨by rw [hus, hL]; rfl⟩
 have HUSE := a_ hus; have HLE := a_ hL; have HLL : Aside0 (us.length = L.length) := ⟨by rw [HUS.out, List.length_map]⟩
 have HUN : Aside0 (us.length ≤ rg) := ⟨by rw [hus]; exact regsL_len s rg⟩
 clear hx hj hO hs hL hus; go_upto_region 16 with (fail)
 refine q_s 8 (S := fun W' => W'.cell? ⟨g1, 3, none⟩ = some (.int .i64 (rg : Int))) D (fun B => ?_)
 refine with_tabW rl.tab16 rl.bits16 (fun p E => ?_)
 refine qv_ 0 p ?_
 refine qv_ 1 p ?_
 refine qv_ 2 p ?_
 refine qv_ 3 p ?_
 refine qv_ 7 p ?_
 refine qt_ 4 p E B ?_
 refine q_o 5 p (fun K hK => ?_)
 refine goes_ Tryd.func31 (by kernel_rfl) rfl #[.pointer (some ⟨gC, x.toNat * 32, none⟩), .int .i64 (rg : Int)] (by rfl) rfl rfl (by (try simp only [List.map_toArray, List.map_cons, List.map_nil]); first | done | rfl | (simp; done)) ?_
 refine (listC2 gC _ j rg C s HXT.out HSx.out.drew HJR.out HRG.out HSE.out.symm).mono ?_
 rintro e w7 ⟨v7, rfl, U, a2⟩
 refine ⟨_, rfl, ?_⟩
 rw [← HUSE.out] at U; have f0 := a_ (blk_below (blk_drew BKx.out) a2); have d3 := a_ (below_step (below_drew1 V.out) a2); obtain ⟨Av, cv, rfl⟩ := Kd.R_slice U; have f1 := a_ U; clear U a2; refine q_nk hK.out (q_b f0.out 3) (fun B => ?_)
 clear hK K
 refine qv_ 6 p ?_
 refine done_ (done_of p.out (by kernel_rfl)) ?_
 clear p E B F G I D J R; go_wp2
 go_loopg [61] us.length (fun gk f2 wx => ∃ y : Int, f2 = .int .i64 y ∧ Aside0 (∃ i : Nat, y = (i : Int) ∧ i + gk = us.length ∧ ((L.take i).all fun q => !(l.getD j 0 == l.getD q 0)) = true) ∧ Aside0 (Below w7.heap.size w7 wx))
 case atStart => exact ⟨0, rfl, ⟨0, rfl, by omega, rfl⟩, ⟨Below.refl _ _⟩⟩
 case round => (
 obtain ⟨y, rfl, ⟨i, hy, hi, hO⟩, HBy⟩ := hrel; have HBz := a_ (below_then d3.out d3.out.size HBy.out); have HBzz := a_ (below_then T.out T.out.size HBz.out); have HR := a_ (Kd.R_below f1.out HBy.out); have HY := a_ hy; have HI := a_ hi; have d4 := a_ hO; cases gk with
 | zero => (
 have R : decide (y < (us.length : Int)) = false := decide_eq_false (by omega)
 have HN : Aside0 (((List.range (j + 1)).all fun r => (listOf (C.getD r 0) rg).all fun q => !(l.getD r 0 == l.getD q 0)) = true) := ⟨range_all_succ HO.out (by
  have h_ := d4.out; rw [List.take_of_length_le (by have := HLL.out; omega), HLE.out, HSE.out] at h_
  exact h_)⟩
 clear hy hi hO; go_wp2
 go_roundg gO
 case measure => omega
 case rel => exact ⟨x + 1, by go_num, ⟨j + 1, by rw [HX.out]; rfl, by have := HJ.out; omega, HN.out⟩, HBz⟩)
 | succ gQ => (
 have R : decide (y < (us.length : Int)) = true := decide_eq_true (by omega)
 have hjl : i < us.length := by omega
 have hjL : i < L.length := by have := HLL.out; omega
 have p1 : 0 ≤ y := by omega
 have q1 : y < (us.length : Int) := by omega
 obtain ⟨ad, e, hcu⟩ := Kd.at_int (Kd.R_reads' HR.out).2.2 y p1 q1; cases e; obtain ⟨u, hu⟩ : ∃ u, u = rd us y := ⟨_, rfl⟩; rw [← hu] at hcu; obtain ⟨q, hq⟩ : ∃ q, q = L[i] := ⟨_, rfl⟩; have huq : u = (q : Int) := by rw [hu, hy, hq]; simp [rd, HUS.out, hjL]
 have hmem := mem_listOf.1 (show q ∈ listOf s rg by rw [← HLE.out, hq]; exact List.getElem_mem _)
 have hwy : wrap64 (y + 1) = y + 1 := wrap64_id (by omega) (by have := HUN.out; have := HRG.out; omega)
 have hxl : x < (l.length : Int) := by have := HLR.out; have := HX.out; have := HJ.out; omega
 have a3 : 0 ≤ x := by have := HX.out; omega
 have hul : u < (l.length : Int) := by have := HLR.out; omega
 have a4 : 0 ≤ u := by omega
 obtain ⟨adp, e, hca⟩ := Kd.at_int HP.out x a3 hxl; obtain ⟨f9, e2, hcb⟩ := Kd.at_int HP.out u a4 hul; cases e; cases e2; obtain ⟨a, ha⟩ : ∃ a, a = rd l x := ⟨_, rfl⟩; obtain ⟨d, hd⟩ : ∃ d, d = rd l u := ⟨_, rfl⟩; rw [← ha] at hca; rw [← hd] at hcb; replace hca := cell_old hca HBzz.out; replace hcb := cell_old hcb HBzz.out; have HA : Aside0 (a = l.getD j 0) := ⟨by rw [ha, rd, HX.out]; rfl⟩
 have HD : Aside0 (d = l.getD q 0) := ⟨by rw [hd, rd, huq]; rfl⟩
 have HQE : Aside0 (q = L.getD i 0) := ⟨by rw [hq, getD_atR _ hjL]⟩
 have d5 := a_ hjL; have g3 : (0 ≤ u) = True := eq_true a4
 have uxl : (u < (l.length : Int)) = True := eq_true hul
 have g4 : (0 ≤ x) = True := eq_true a3
 have xxl : (x < (l.length : Int)) = True := eq_true hxl
 replace p1 := eq_true p1; replace q1 := eq_true q1; clear hy hi hO hu hq huq hjl hjL hmem a3 a4 hxl hul ha hd; go_upto_region 19 with (fail)
 refine q_s 9 (S := fun W' => W'.cell? (adp.add x.toNat) = some (.int .i64 a) ∧ W'.cell? (adp.add u.toNat) = some (.int .i64 d)) ⟨hca, hcb⟩ (fun B => ?_)
 refine with_tabW rq.tab19 rq.bits19 (fun p E => ?_)
 refine qv_ 0 p ?_
 refine qv_ 1 p ?_
 refine qv_ 2 p ?_
 refine qv_ 4 p ?_
 refine qv_ 5 p ?_
 refine qv_ 6 p ?_
 refine qt_ 3 p E B ?_
 refine qt_ 7 p E B ?_
 refine qv_ 8 p ?_
 refine done_ (done_of p.out (by kernel_rfl)) ?_
 clear p E B; by_cases had : a = d
 case pos => (
 have c2 : (a == d) = true := beq_iff_eq.mpr had
 have HBF : Aside0 (b = false) := ⟨by
  have h1 : ((listOf (C.getD j 0) rg).all fun q => !(l.getD j 0 == l.getD q 0)) = false := by
   rw [← HSE.out, ← HLE.out]; refine all_false (z := 0) d5.out ?_
   rw [← HQE.out, ← HA.out, ← HD.out, c2]; rfl
  rw [HBV.out, rightB, range_all_false (j := j) (n := rg) (by have := HJ.out; omega) h1, Bool.and_false]⟩
 clear had; go_wp2
 (try simp only [Exit.inBlock, Exit.then])
 refine bodyPost_ret (results_tmp2 rfl _ _ _) rfl ?_
 rw [HBF.out]; exact ⟨rfl, below_drew1 HBzz.out⟩)
 case neg => (
 have c2 : (a == d) = false := beq_eq_false_iff_ne.mpr had
 have HN : Aside0 (((L.take (i + 1)).all fun q => !(l.getD j 0 == l.getD q 0)) = true) := ⟨all_take_succ (z := 0) d5.out d4.out (by rw [← HQE.out, ← HA.out, ← HD.out, c2]; rfl)⟩
 clear had; go_wp2
 go_roundg gQ
 case measure => omega
 case rel => exact ⟨y + 1, by go_num, ⟨i + 1, by rw [HY.out]; rfl, by have := HI.out; omega, HN.out⟩, ⟨below_drew1 HBy.out⟩⟩)))))))
def occI (s : Nat) (x : S71) : Nat := putsI (if defs x then put s x.f2.toNat else s) (useList x)
def occN (s : Nat) (n : S69) : Nat := if n.f1 = 1 then put (n.f0.foldl occI s) n.f2.toNat else n.f0.foldl occI s
def occF (N : List S69) : Nat := N.foldl occN 0
theorem foldl_take {α β : Type} (f : β → α → β) (b : β) {l : List α} {j : Nat} (hj : j < l.length) : (l.take (j + 1)).foldl f b = f ((l.take j).foldl f b) l[j] := by
 rw [List.take_add_one, List.foldl_append, List.getElem?_eq_getElem hj]; rfl
theorem occurC (w : World) (nm : ByteArray) (A1 : Option Addr) (n1 l6 : Nat) (A2 : Option Addr) (n2 l7 : Nat) (rg : Nat) (A4 : Option Addr) (l8 : Nat) (N : List S69) (m0 : Nat) (l9 : Kd.C k69 w A4 N.length N) (n0 : m0 ≤ 2048) (hN : N.length ≤ 1000000) (hNs : ∀ n ∈ N, n.f0.length ≤ 1000000) (hF : FineG m0 N) :
  Calls Tryd.prog 33 #[(.agg #[.string nm, .slice A1 n1 l6, .slice A2 n2 l7, .int .i64 (rg : Int), .slice A4 N.length l8])] w fun e w' => e = .returned (setV (occF N)) ∧ Below w.heap.size w w' := by
 obtain ⟨sx, hsx⟩ : ∃ sx, sx = occF N := ⟨_, rfl⟩; rw [← hsx]; have HOC := a_ hsx; have r1 := a_ l9; have n3 := a_ n0; have HN := a_ hN; have HNS := a_ hNs; have HF := a_ hF; clear l9 n0 hN hNs hF hsx; have t9 := Tryd.underlying26; have v0 := Tryd.underlying69; have v1 := Tryd.underlying71; go_enter Tryd.func33, Tryd.ntmps33
 go_wp2_with (first | ((with_reducible refine gd_ 1 rfl ?_); refine q_box 1 26 #[.string nm, .slice A1 n1 l6, .slice A2 n2 l7, .int .i64 (rg : Int), .slice A4 N.length l8] ?_; intro g1 r2 w1 F n4; have n5 := a_ F; have j6 := a_ n4; clear r2 F n4; obtain ⟨i5, i6, i7, i8, i9⟩ := q_c5 n5.out) | ((with_reducible refine gd_ 2 rfl ?_); refine box_event ?hg (N := 2) ?hd (cs := (cellsL [0]).toArray) (t := 59) ?hr ?_; (case hd => rfl); (case hg => rfl); (case hr => rw [← zero_cells]; first | (go_simp; done) | (go_simp; rfl)); intro U n6 w2 hSA hbA; have j7 := a_ (show SetsAt w2 U [0] from hSA); have j8 := a_ (below_then j6.out j6.out.size hbA); have r3 := a_ (blk_below n5.out hbA); have r4 : Aside0 (U = w1.heap.size) := ⟨n6⟩; clear n6 hSA hbA) | ((with_reducible refine gd_ 3 rfl ?_); refine box_event ?hg (N := 3) ?hd (cs := (cellsL [0]).toArray) (t := 59) ?hr ?_; (case hd => rfl); (case hg => rfl); (case hr => rw [← zero_cells]; first | (go_simp; done) | (go_simp; rfl)); intro J n7 w3 hSA hbA; have r5 := a_ (show SetsAt w3 J [0] from hSA); have L3 : Aside0 (w.heap.size ≤ J) := ⟨by rw [n7]; exact j8.out.size⟩; have g0 : Aside0 (U ≠ J) := ⟨by have := j7.out.lt; omega⟩; have r6 := a_ (j7.out.below hbA j7.out.lt); have r7 := a_ (below_then j8.out j8.out.size hbA); have r8 := a_ (blk_below r3.out hbA); clear n7 hSA hbA; obtain ⟨i5, i6, i7, i8, i9⟩ := q_c5 r8.out))
 have L2 : Aside0 (w.heap.size ≤ U) := ⟨by have r9 := j6.out.size; have s1 := r4.out; omega⟩
 go_loopg [13] N.length (fun gk s2 wx => ∃ x : Int, s2 = .int .i64 x ∧ Aside0 (∃ j : Nat, x = (j : Int) ∧ j + gk = N.length ∧ SetsAt wx J [(N.take j).foldl occN 0]) ∧ Aside0 (SetsAt wx U [0]) ∧ Aside0 (Below w.heap.size w wx))
 case atStart => exact ⟨0, rfl, ⟨0, rfl, by omega, r5.out⟩, r6, r7⟩
 case round => (
 clear i5 i6 i7 i8 i9; obtain ⟨x, rfl, ⟨j, hx, hj, hS⟩, HTx, HWx⟩ := hrel; have HX := a_ hx; have HJ := a_ hj; cases gk with
 | zero => (
 have c1 : decide (x < (N.length : Int)) = false := decide_eq_false (by omega)
 have HSx : Aside0 (SetsAt wr J [sx]) := ⟨by rw [List.take_of_length_le (by omega)] at hS; rw [HOC.out]; exact hS⟩
 clear hx hj hS; go_wp2_with (first | ((with_reducible refine gd_ 47 rfl ?_); refine load_event (g := J) (i := 0) (off := 0) (l := [sx]) (s := sx) rfl rfl ?hx rfl HSx.out (by simp) rfl ?_; (case hx => first | rfl | (go_simp; done) | (go_simp; rfl))) | ((with_reducible refine gate_store (t := 59) (p := 2) rfl ?_); refine put_event (g := U) (i := 0) (off := 0) (l := [0]) (s := sx) rfl rfl rfl ?hx rfl ?hy HTx.out (by simp) ?_; (case hx => first | rfl | (go_simp; done) | (go_simp; rfl)); (case hy => first | rfl | (go_simp; done) | (go_simp; rfl)); intro s3 hgP hsP; have n8 := a_ (show SetsAt s3 U [sx] from hsP); have n9 := a_ (below_grown HWx.out hgP L2.out); clear hgP hsP))
 (try simp only [Exit.inBlock, Exit.then])
 refine bodyPost_ret (results_cell_row rfl _ _ U 59 (cellsL [sx]).toArray (0, 0) (.array 32 57) rfl n8.out Tryd.underlying59 rfl (size59 _)) rfl ?_
 exact ⟨rfl, n9.out⟩)
 | succ gO => (
 have c1 : decide (x < (N.length : Int)) = true := decide_eq_true (by omega)
 have hjl : j < N.length := by omega
 have p0 : 0 ≤ x := by omega
 have qN : x < (N.length : Int) := by omega
 obtain ⟨adN, A0, c0, e, g4, g6, g8, g9, i0, j3, hCI⟩ := at_T69 r1.out x p0 qN; cases e; obtain ⟨b, hnd⟩ : ∃ b, b = rd_T69 N x := ⟨_, rfl⟩; rw [← hnd] at g4 g6 g8 g9 i0 j3 hCI
 have hndl : b = N[j] := by rw [hnd, hx]; simp [rd_T69, hjl]
 have HCI := a_ hCI; have hndF : FineNd m0 N.length b := HF.out b (by rw [hndl]; exact List.getElem_mem _)
 have HNF := a_ hndF; have HNLEN : Aside0 (b.f0.length ≤ 1000000) := ⟨HNS.out b (by rw [hndl]; exact List.getElem_mem _)⟩
 have o0 : Aside0 (b.f1 = 1 → 0 ≤ b.f2 ∧ b.f2 < 2048) := ⟨fun hE => by have r9 := hndF.2.1 hE; have s1 := n3.out; omega⟩
 obtain ⟨s0, k0⟩ : ∃ s0, s0 = (N.take j).foldl occN 0 := ⟨_, rfl⟩; have HNXT : Aside0 ((N.take (j + 1)).foldl occN 0 = occN s0 b) := ⟨by rw [foldl_take _ _ hjl, k0, hndl]⟩
 rw [← k0] at hS; have HSx := a_ hS; have hw : wrap64 (x + 1) = x + 1 := wrap64_id (by omega) (by have := HN.out; omega)
 replace g4 := cell_old g4 HWx.out; replace g6 := cell_old g6 HWx.out; replace g8 := cell_old g8 HWx.out; replace g9 := cell_old g9 HWx.out; replace i0 := cell_old i0 HWx.out; replace p0 := eq_true p0; replace qN := eq_true qN; clear hx hj hS hnd hndl hCI hjl hndF j3 k0; go_wp2_with (first | ((with_reducible refine gd_ 5 rfl ?_); refine q_box 5 69 #[.slice none 0 0, .int .i64 0, .int .i64 0, .int .i64 0, .int .i64 0] ?_; intro L o1 w5 G o2; have o3 := a_ G; have s4 := a_ o2; have s5 : Aside0 (wr.heap.size ≤ L) := ⟨by rw [o1]; exact Nat.le_refl _⟩; clear o1 G o2; obtain ⟨o4, o5, o6, o7, o8, o9, p2, p3, p4, p5⟩ := q_cf5 o3.out))
 have k1 : Aside0 (Below wr.heap.size wr (((((w5.setCell ⟨L, 0, none⟩ (.slice A0 b.f0.length c0)).setCell ⟨L, 1, none⟩ (.int .i64 b.f1)).setCell ⟨L, 2, none⟩ (.int .i64 b.f2)).setCell ⟨L, 3, none⟩ (.int .i64 b.f3)).setCell ⟨L, 4, none⟩ (.int .i64 b.f4))) := ⟨(by (repeat (with_reducible refine below_setg ?_ s5.out)); exact s4.out)⟩
 have s6 : Aside0 (((((((w5.setCell ⟨L, 0, none⟩ (.slice A0 b.f0.length c0)).setCell ⟨L, 1, none⟩ (.int .i64 b.f1)).setCell ⟨L, 2, none⟩ (.int .i64 b.f2)).setCell ⟨L, 3, none⟩ (.int .i64 b.f3)).setCell ⟨L, 4, none⟩ (.int .i64 b.f4))).heap[L]? = some (.cells #[.slice A0 b.f0.length c0, .int .i64 b.f1, .int .i64 b.f2, .int .i64 b.f3, .int .i64 b.f4] 69 (0, 0))) := ⟨q_p o3.out⟩
 have s7 := a_ (HTx.out.below k1.out HTx.out.lt); have s8 := a_ (HSx.out.below k1.out HSx.out.lt); have s9 := a_ (below_then HWx.out HWx.out.size k1.out); clear o4 o5 o6 o7 o8 o9 p2 p3 p4 p5 g4 g6 g8 g9 i0 qN p0 c1; go_loopg [20] b.f0.length (fun gz t0 wz => ∃ y : Int, t0 = .int .i64 y ∧ Aside0 (∃ i : Nat, y = (i : Int) ∧ i + gz = b.f0.length ∧ SetsAt wz J [(b.f0.take i).foldl occI s0]) ∧ Aside0 (SetsAt wz U [0]) ∧ Aside0 (wz.heap[L]? = some (.cells #[.slice A0 b.f0.length c0, .int .i64 b.f1, .int .i64 b.f2, .int .i64 b.f3, .int .i64 b.f4] 69 (0, 0))) ∧ Aside0 (Below w.heap.size w wz))
 case atStart => exact ⟨0, rfl, ⟨0, rfl, by omega, s8.out⟩, s7, s6, s9⟩
 case round => (
 obtain ⟨y, rfl, ⟨i, hy, hi, hS⟩, HTy, B5y, HWy⟩ := hrel; have HY := a_ hy; have HI := a_ hi; cases gk with
 | zero => (
 have c1 : decide (y < (b.f0.length : Int)) = false := decide_eq_false (by omega)
 obtain ⟨sy, hsy⟩ : ∃ sy, sy = b.f0.foldl occI s0 := ⟨_, rfl⟩; have HSYE := a_ hsy; have HSy : Aside0 (SetsAt wr J [sy]) := ⟨by rw [List.take_of_length_le (by omega)] at hS; rw [hsy]; exact hS⟩
 clear hy hi hS hsy; obtain ⟨v3, v4, v5, v6, v7⟩ := q_c5 B5y.out; by_cases hE : b.f1 = 1
 case pos => (
 have c2 : (b.f1 == 1) = true := beq_iff_eq.mpr hE
 have HNE := a_ (o0.out hE); have k2 := a_ hE; clear hE; go_wp2_with (first | (go_at_call 36; (with_reducible refine (putC1 _ J b.f2 sy HSy.out HNE.out.1 HNE.out.2).mono ?_); rintro e x6 ⟨rfl, V, j5⟩; have p6 := a_ j5; have p7 := a_ (HTy.out.grown V (fun e => g0.out (q_so e))); have p8 := a_ (below_grown HWy.out V L3.out); clear V j5))
 go_roundg gO
 case measure => omega
 case rel => exact ⟨x + 1, by go_num, ⟨j + 1, by rw [HX.out]; rfl, by have := HJ.out; omega, by rw [HNXT.out, occN, if_pos k2.out, ← HSYE.out]; exact p6.out⟩, p7, p8⟩)
 case neg => (
 have c2 : (b.f1 == 1) = false := beq_eq_false_iff_ne.mpr hE
 have k2 := a_ hE; clear hE; go_wp2
 go_roundg gO
 case measure => omega
 case rel => exact ⟨x + 1, by go_num, ⟨j + 1, by rw [HX.out]; rfl, by have := HJ.out; omega, by rw [HNXT.out, occN, if_neg k2.out, ← HSYE.out]; exact HSy.out⟩, HTy, HWy⟩))
 | succ gQ => (
 have c1 : decide (y < (b.f0.length : Int)) = true := decide_eq_true (by omega)
 have hOl : i < b.f0.length := by omega
 have p0 : 0 ≤ y := by omega
 have q0 : y < (b.f0.length : Int) := by omega
 obtain ⟨adI, A6, c6, e, X, F, a0, a1, a2, G, a3, a4, k3⟩ := at_T71 HCI.out y p0 q0; cases e; obtain ⟨p, hp⟩ : ∃ p, p = rd_T71 b.f0 y := ⟨_, rfl⟩; rw [← hp] at X F a0 a1 a2 G a3 a4 k3
 have hpl : p = b.f0[i] := by rw [hp, hy]; simp [rd_T71, hOl]
 have hfp := HNF.out.1 p (by rw [hpl]; exact List.getElem_mem _)
 have HGD : Aside0 (Good p) := ⟨fine_good n3.out hfp⟩
 have i1 := a_ k3; have i2 := a_ a4; obtain ⟨sy, hsy⟩ : ∃ sy, sy = (b.f0.take i).foldl occI s0 := ⟨_, rfl⟩; have HST : Aside0 ((b.f0.take (i + 1)).foldl occI s0 = occI sy p) := ⟨by rw [foldl_take _ _ hOl, hsy, hpl]⟩
 rw [← hsy] at hS; have HSy := a_ hS; obtain ⟨us, hus⟩ : ∃ us, us = useList p := ⟨_, rfl⟩; have HUE := a_ hus; have HUL : Aside0 (us.length ≤ 2) := ⟨by rw [hus]; unfold useList; split <;> (try split) <;> simp⟩
 have hwy : wrap64 (y + 1) = y + 1 := wrap64_id (by omega) (by have := HNLEN.out; omega)
 replace X := cell_old X HWy.out; replace F := cell_old F HWy.out; replace a0 := cell_old a0 HWy.out; replace a1 := cell_old a1 HWy.out; replace a2 := cell_old a2 HWy.out; replace G := cell_old G HWy.out; replace a3 := cell_old a3 HWy.out; replace p0 := eq_true p0; replace q0 := eq_true q0; obtain ⟨d, hd⟩ : ∃ d, defs p = d := ⟨_, rfl⟩; have HD := a_ hd; clear hy hi hS hOl hp hpl k3 a4 hfp hd hsy hus; cases d with
 | false => (
 go_wp2_with (first | ((with_reducible refine gd_ 7 rfl ?_); refine q_box 7 71 #[.int .i64 0, .int .i64 0, .int .i64 0, .int .i64 0, .int .i64 0, .int .i32 0, .slice none 0 0] ?_; intro g7 a5 w7 a6 a7; have a8 := a_ a6; have M := a_ a7; have O : Aside0 (wr.heap.size ≤ g7) := ⟨by rw [a5]; exact Nat.le_refl _⟩; clear a5 a6 a7; obtain ⟨a9, b0, b1, b2, b3, b4, b5, b6, b7, b8, b9, c3, c4, c8⟩ := q_cf7 a8.out) | (go_at_call 52; (with_reducible refine (definesC p A6 c6 false ?h6 i2.out HD.out).mono ?_); (case h6 => exact Kd.C_below i1.out (below_then HWy.out HWy.out.size (by (repeat (with_reducible refine below_setg ?_ O.out)); exact M.out))); rintro e w8 ⟨rfl, S⟩; have c9 : Below wr.heap.size wr w8 := below_then (by (repeat (with_reducible refine below_setg ?_ O.out)); exact M.out) (Below.size (by (repeat (with_reducible refine below_setg ?_ O.out)); exact M.out)) S; have E := a_ c9; have i3 := a_ (HTy.out.below E.out HTy.out.lt); have T := a_ (HSy.out.below E.out HSy.out.lt); have d0 := a_ (below_then HWy.out HWy.out.size E.out); have i4 := a_ (blk_below B5y.out E.out); have d1 := a_ (blk_below (g := g7) (o := .cells #[.int .i64 p.f0, .int .i64 p.f1, .int .i64 p.f2, .int .i64 p.f3, .int .i64 p.f4, .int .i32 p.f5, .slice A6 p.f6.length c6] 71 (0, 0)) (q_p a8.out) S); clear c9 S; obtain ⟨d2, d3, d4, d5, d6, d7, d8⟩ := q_c7 d1.out) | (go_at_call 54; (with_reducible refine (usesC p A6 c6 (Kd.C_below i1.out d0.out) i2.out).mono ?_); rintro e k4 ⟨t1, rfl, D, q⟩; obtain ⟨Av, cv, rfl⟩ := Kd.R_slice D; rw [← HUE.out] at D; have d9 := a_ D; have e0 := a_ (i3.out.below q i3.out.lt); have e1 := a_ (T.out.below q T.out.lt); have e2 := a_ (below_then d0.out d0.out.size q); have e3 := a_ (blk_below i4.out q); (try rw [← HUE.out]); clear q D))
 clear a9 b0 b1 b2 b3 b4 b5 b6 b7 b8 b9 c3 c4 c8 d2 d3 d4 d5 d6 d7 d8 X F a0 a1 a2 G a3 p0 q0 c1; have e4 : Aside0 (SetsAt k4 J [sy]) := e1
 go_loopg [32] us.length (fun gz k5 wz => ∃ z : Int, k5 = .int .i64 z ∧ Aside0 (∃ m : Nat, z = (m : Int) ∧ m + gz = us.length ∧ SetsAt wz J [putsI (sy) (us.take m)]) ∧ Aside0 (SetsAt wz U [0]) ∧ Aside0 (wz.heap[L]? = some (.cells #[.slice (some adI) b.f0.length c0, .int .i64 b.f1, .int .i64 b.f2, .int .i64 b.f3, .int .i64 b.f4] 69 (0, 0))) ∧ Aside0 (Below w.heap.size w wz) ∧ Aside0 (Kd.R (Kd.int .i64) 3 wz w8.heap.size (fun _ => True) (.slice Av us.length cv) us))
 case atStart => exact ⟨0, rfl, ⟨0, rfl, by omega, e4.out⟩, e0, e3, e2, d9⟩
 case round => (
 obtain ⟨z, rfl, ⟨m, hz, hm, hS⟩, HTx, B5x, HWx, HRx⟩ := hrel; have HZ := a_ hz; have HM := a_ hm; cases gk with
 | zero => (
 have c1 : decide (z < (us.length : Int)) = false := decide_eq_false (by omega)
 rw [List.take_of_length_le (by omega)] at hS
 have HSx := a_ hS; clear hz hm hS; go_wp2
 go_roundg gQ
 case measure => omega
 case rel => exact ⟨y + 1, by go_num, ⟨i + 1, by rw [HY.out]; rfl, by have := HI.out; omega, by rw [HST.out, occI, HD.out, ← HUE.out]; exact HSx.out⟩, HTx, B5x, HWx⟩)
 | succ gT => (
 have c1 : decide (z < (us.length : Int)) = true := decide_eq_true (by omega)
 have hml : m < us.length := by omega
 have p1 : 0 ≤ z := by omega
 have q1 : z < (us.length : Int) := by omega
 obtain ⟨adu, e, hcu⟩ := Kd.at_int (Kd.R_reads' HRx.out).2.2 z p1 q1; cases e; obtain ⟨u, hu⟩ : ∃ u, u = rd us z := ⟨_, rfl⟩; rw [← hu] at hcu; have huj : u = us[m] := by rw [hu, hz]; simp [rd, hml]
 have HU : Aside0 (0 ≤ u ∧ u < 2048) := ⟨HGD.out.2 u (by rw [← HUE.out, huj]; exact List.getElem_mem _)⟩
 obtain ⟨sx, hsx⟩ : ∃ sx, sx = putsI (sy) (us.take m) := ⟨_, rfl⟩; have HUJ : Aside0 (putsI (sy) (us.take (m + 1)) = put sx u.toNat) := ⟨by rw [putsI_take _ hml, huj, hsx]⟩
 rw [← hsx] at hS; have HSx := a_ hS; have hwz : wrap64 (z + 1) = z + 1 := wrap64_id (by omega) (by have := HUL.out; omega)
 replace p1 := eq_true p1; replace q1 := eq_true q1; clear hz hm hS hu huj hml hsx; go_wp2_with (first | (go_at_call 36; (with_reducible refine (putC1 _ J u sx HSx.out HU.out.1 HU.out.2).mono ?_); rintro e t2 ⟨rfl, B, I⟩; have e5 := a_ I; have e6 := a_ (HTx.out.grown B (fun e => g0.out (q_so e))); have e7 := a_ (below_grown HWx.out B L3.out); have e8 := a_ (blk_grown B5x.out B (fun e => apart59 B5x.out HSx.out (by decide) (q_so e))); have e9 := a_ (R_sets HRx.out HSx.out (by decide) B); clear B I))
 go_roundg gT
 case measure => omega
 case rel => exact ⟨z + 1, by go_num, ⟨m + 1, by rw [HZ.out]; rfl, by have := HM.out; omega, by rw [HUJ.out]; exact e5.out⟩, e6, e8, e7, e9⟩)))
 | true => (
 have HDN := a_ (HGD.out.1 HD.out); go_wp2_with (first | ((with_reducible refine gd_ 7 rfl ?_); refine q_box 7 71 #[.int .i64 0, .int .i64 0, .int .i64 0, .int .i64 0, .int .i64 0, .int .i32 0, .slice none 0 0] ?_; intro g7 a5 w7 a6 a7; have a8 := a_ a6; have M := a_ a7; have O : Aside0 (wr.heap.size ≤ g7) := ⟨by rw [a5]; exact Nat.le_refl _⟩; clear a5 a6 a7; obtain ⟨a9, b0, b1, b2, b3, b4, b5, b6, b7, b8, b9, c3, c4, c8⟩ := q_cf7 a8.out) | (go_at_call 52; (with_reducible refine (definesC p A6 c6 true ?h6 i2.out HD.out).mono ?_); (case h6 => exact Kd.C_below i1.out (below_then HWy.out HWy.out.size (by (repeat (with_reducible refine below_setg ?_ O.out)); exact M.out))); rintro e w8 ⟨rfl, S⟩; have c9 : Below wr.heap.size wr w8 := below_then (by (repeat (with_reducible refine below_setg ?_ O.out)); exact M.out) (Below.size (by (repeat (with_reducible refine below_setg ?_ O.out)); exact M.out)) S; have E := a_ c9; have i3 := a_ (HTy.out.below E.out HTy.out.lt); have T := a_ (HSy.out.below E.out HSy.out.lt); have d0 := a_ (below_then HWy.out HWy.out.size E.out); have i4 := a_ (blk_below B5y.out E.out); have d1 := a_ (blk_below (g := g7) (o := .cells #[.int .i64 p.f0, .int .i64 p.f1, .int .i64 p.f2, .int .i64 p.f3, .int .i64 p.f4, .int .i32 p.f5, .slice A6 p.f6.length c6] 71 (0, 0)) (q_p a8.out) S); clear c9 S; obtain ⟨d2, d3, d4, d5, d6, d7, d8⟩ := q_c7 d1.out) | (go_at_call 36; (with_reducible refine (putC1 _ J p.f2 sy T.out HDN.out.1 HDN.out.2).mono ?_); rintro e w9 ⟨rfl, f7, q3⟩; have q4 := a_ q3; have q5 := a_ (i3.out.grown f7 (fun e => g0.out (q_so e))); have k8 := a_ (below_grown d0.out f7 L3.out); have t3 := a_ (blk_grown i4.out f7 (fun e => apart59 i4.out T.out (by decide) (q_so e))); have t4 := a_ (blk_grown d1.out f7 (fun e => apart59 d1.out T.out (by decide) (q_so e))); clear f7 q3; obtain ⟨v8, v9, w4, w6, x0, x1, x2⟩ := q_c7 t4.out) | (go_at_call 54; (with_reducible refine (usesC p A6 c6 (Kd.C_below i1.out k8.out) i2.out).mono ?_); rintro e k4 ⟨t1, rfl, D, q⟩; obtain ⟨Av, cv, rfl⟩ := Kd.R_slice D; rw [← HUE.out] at D; have d9 := a_ D; have e0 := a_ (q5.out.below q q5.out.lt); have e1 := a_ (q4.out.below q q4.out.lt); have e2 := a_ (below_then k8.out k8.out.size q); have e3 := a_ (blk_below t3.out q); (try rw [← HUE.out]); clear q D))
 clear a9 b0 b1 b2 b3 b4 b5 b6 b7 b8 b9 c3 c4 c8 d2 d3 d4 d5 d6 d7 d8 X F a0 a1 a2 G a3 p0 q0 c1; have e4 : Aside0 (SetsAt k4 J [put sy p.f2.toNat]) := e1
 go_loopg [32] us.length (fun gz k5 wz => ∃ z : Int, k5 = .int .i64 z ∧ Aside0 (∃ m : Nat, z = (m : Int) ∧ m + gz = us.length ∧ SetsAt wz J [putsI (put sy p.f2.toNat) (us.take m)]) ∧ Aside0 (SetsAt wz U [0]) ∧ Aside0 (wz.heap[L]? = some (.cells #[.slice (some adI) b.f0.length c0, .int .i64 b.f1, .int .i64 b.f2, .int .i64 b.f3, .int .i64 b.f4] 69 (0, 0))) ∧ Aside0 (Below w.heap.size w wz) ∧ Aside0 (Kd.R (Kd.int .i64) 3 wz w9.heap.size (fun _ => True) (.slice Av us.length cv) us))
 case atStart => exact ⟨0, rfl, ⟨0, rfl, by omega, e4.out⟩, e0, e3, e2, d9⟩
 case round => (
 obtain ⟨z, rfl, ⟨m, hz, hm, hS⟩, HTx, B5x, HWx, HRx⟩ := hrel; have HZ := a_ hz; have HM := a_ hm; cases gk with
 | zero => (
 have c1 : decide (z < (us.length : Int)) = false := decide_eq_false (by omega)
 rw [List.take_of_length_le (by omega)] at hS
 have HSx := a_ hS; clear hz hm hS; go_wp2
 go_roundg gQ
 case measure => omega
 case rel => exact ⟨y + 1, by go_num, ⟨i + 1, by rw [HY.out]; rfl, by have := HI.out; omega, by rw [HST.out, occI, HD.out, ← HUE.out]; exact HSx.out⟩, HTx, B5x, HWx⟩)
 | succ gT => (
 have c1 : decide (z < (us.length : Int)) = true := decide_eq_true (by omega)
 have hml : m < us.length := by omega
 have p1 : 0 ≤ z := by omega
 have q1 : z < (us.length : Int) := by omega
 obtain ⟨adu, e, hcu⟩ := Kd.at_int (Kd.R_reads' HRx.out).2.2 z p1 q1; cases e; obtain ⟨u, hu⟩ : ∃ u, u = rd us z := ⟨_, rfl⟩; rw [← hu] at hcu; have huj : u = us[m] := by rw [hu, hz]; simp [rd, hml]
 have HU : Aside0 (0 ≤ u ∧ u < 2048) := ⟨HGD.out.2 u (by rw [← HUE.out, huj]; exact List.getElem_mem _)⟩
 obtain ⟨sx, hsx⟩ : ∃ sx, sx = putsI (put sy p.f2.toNat) (us.take m) := ⟨_, rfl⟩; have HUJ : Aside0 (putsI (put sy p.f2.toNat) (us.take (m + 1)) = put sx u.toNat) := ⟨by rw [putsI_take _ hml, huj, hsx]⟩
 rw [← hsx] at hS; have HSx := a_ hS; have hwz : wrap64 (z + 1) = z + 1 := wrap64_id (by omega) (by have := HUL.out; omega)
 replace p1 := eq_true p1; replace q1 := eq_true q1; clear hz hm hS hu huj hml hsx; go_wp2_with (first | (go_at_call 36; (with_reducible refine (putC1 _ J u sx HSx.out HU.out.1 HU.out.2).mono ?_); rintro e t2 ⟨rfl, B, I⟩; have e5 := a_ I; have e6 := a_ (HTx.out.grown B (fun e => g0.out (q_so e))); have e7 := a_ (below_grown HWx.out B L3.out); have e8 := a_ (blk_grown B5x.out B (fun e => apart59 B5x.out HSx.out (by decide) (q_so e))); have e9 := a_ (R_sets HRx.out HSx.out (by decide) B); clear B I))
 go_roundg gT
 case measure => omega
 case rel => exact ⟨z + 1, by go_num, ⟨m + 1, by rw [HZ.out]; rfl, by have := HM.out; omega, by rw [HUJ.out]; exact e5.out⟩, e6, e8, e7, e9⟩)))))))
abbrev OccurCall (w : World) (v : Value) (oc : Nat) : Prop := ∀ w0, Below w.heap.size w w0 → Calls Tryd.prog 33 #[v] w0 fun e w' => e = .returned (setV oc) ∧ Below w0.heap.size w0 w'
def AssignPost (w : World) (RES : Option (List Int)) (e : Ending) (w' : World) : Prop :=
 match RES with
 | some R => ∃ v : Value, e = .returned (.tuple #[v, .int .i64 0]) ∧ Kd.R (Kd.int .i64) 3 w' w.heap.size (fun _ => True) v R ∧ Below w.heap.size w w'
 | none => e = .returned (.tuple #[.slice none 0 0, .int .i64 5]) ∧ Below w.heap.size w w'
def Anv (k rg : Nat) (out : List Int) (g : Nat) : Prop := ∀ q, g.testBit q = true → q < rg ∧ idx k (out.getD q 0) < k + 64
theorem Anv.nil (k rg : Nat) (out : List Int) : Anv k rg out 0 := fun q hq => by simp at hq
theorem Anv.step {k rg g r t : Nat} {out : List Int} (hk : 1 ≤ k) (h : Anv k rg out g) (hr : r < rg) (hl : out.length = rg) (ht : t < k + 64) : Anv k rg (out.set r (placeOf k t)) (put g r) := by
 intro q hq
 rw [getD_seti (by omega)]
 rw [put_bit, Bool.or_eq_true, decide_eq_true_eq] at hq; by_cases e : r = q
 ·rw [if_pos e, idx_placeOf hk]; exact ⟨by omega, ht⟩
 ·rw [if_neg e]; exact h q (hq.resolve_right e)
def usedL (k g : Nat) (out : List Int) (L : List Nat) (u : List Bool) : List Bool := L.foldl (fun u q => if g.testBit q then u.set (idx k (out.getD q 0)) true else u) u
theorem usedL_len (k g : Nat) (out : List Int) : ∀ (L : List Nat) (u : List Bool), (usedL k g out L u).length = u.length
 | [], _ => rfl
 | q :: L, u => by {
 show (usedL k g out L (if g.testBit q then u.set (idx k (out.getD q 0)) true else u)).length = _
 rw [usedL_len k g out L]; split
 ·rw [List.length_set]
 ·rfl}
theorem getD_setb {l : List Bool} {i j : Nat} {v : Bool} (hi : i < l.length) : (l.set i v).getD j false = if i = j then v else l.getD j false := by
 rw [List.getD_eq_getElem?_getD, List.getD_eq_getElem?_getD, List.getElem?_set]; split
 ·rename_i h
  subst h; first | rfl | (rw [if_pos hi]; rfl)
 ·rfl
theorem usedL_get (k g : Nat) (out : List Int) (t : Nat) : ∀ (L : List Nat) (u : List Bool), (∀ q ∈ L, g.testBit q = true → idx k (out.getD q 0) < u.length) → (usedL k g out L u).getD t false = (u.getD t false || L.any fun q => g.testBit q && idx k (out.getD q 0) == t)
 | [], u, _ => by simp [usedL]
 | q :: L, u, h => by {
 show (usedL k g out L (if g.testBit q then u.set (idx k (out.getD q 0)) true else u)).getD t false = _
 rw [usedL_get k g out t L _ (fun p hp hg => by
  have := h p (List.mem_cons_of_mem _ hp) hg
  split
  ·rw [List.length_set]; exact this
  ·exact this), List.any_cons]
 by_cases hq : g.testBit q = true
 {
 rw [if_pos hq, getD_setb (h q List.mem_cons_self hq), hq, Bool.true_and]; by_cases e : idx k (out.getD q 0) = t
 ·rw [if_pos e, show (idx k (out.getD q 0) == t) = true from beq_iff_eq.mpr e, Bool.true_or, Bool.or_true]
 ·rw [if_neg e, show (idx k (out.getD q 0) == t) = false from beq_eq_false_iff_ne.mpr e, Bool.false_or]}
 ·rw [if_neg hq, Bool.eq_false_iff.2 hq]; simp}
theorem usedL_take (k g : Nat) (out : List Int) (u : List Bool) {L : List Nat} {j : Nat} (hj : j < L.length) : usedL k g out (L.take (j + 1)) u = if g.testBit L[j] then (usedL k g out (L.take j) u).set (idx k (out.getD L[j] 0)) true else usedL k g out (L.take j) u := by
 unfold usedL
 rw [List.take_add_one, List.foldl_append, List.getElem?_eq_getElem hj]; rfl
theorem free_congr {U V : Nat → Bool} : ∀ (n t : Nat), (∀ s, t ≤ s → s < t + n → U s = V s) → free U n t = free V n t
 | 0, _, _ => rfl
 | n + 1, t, h => by rw [free, free, h t (Nat.le_refl _) (by omega), free_congr n (t + 1) (fun s h1 b => h s (by omega) (by omega))]
def UsedAt (w : World) (g : Nat) (u : List Bool) : Prop := w.heap[g]? = some (.cells (u.map Value.bool).toArray 63 (0, 0))
theorem UsedAt.cell {w : World} {g : Nat} {u : List Bool} (h : UsedAt w g u) {i : Nat} (hi : i < u.length) : w.cell? ⟨g, i, none⟩ = some (.bool (u.getD i false)) := by
 rw [blk_cell h, List.getElem?_toArray, List.getElem?_map, List.getD_eq_getElem?_getD, List.getElem?_eq_getElem hi]; rfl
theorem UsedAt.frozen {w : World} {g : Nat} {u : List Bool} (h : UsedAt w g u) (i : Nat) : w.frozen? ⟨g, i, none⟩ = false := blk_frozen h i
theorem UsedAt.set {w : World} {g : Nat} {u : List Bool} (h : UsedAt w g u) (i : Nat) : UsedAt (w.setCell ⟨g, i, none⟩ (.bool true)) g (u.set i true) := by
 unfold UsedAt at h ⊢
 refine (blk_put h i (.bool true) rfl).trans ?_
 rw [List.setIfInBounds_toArray, List.map_set]
theorem index_f {k it : Nat} {p : Int} (b : 1 ≤ k) (l : k ≤ 13) (hit : it = idx k p) (hb : it < k + 64) : alloc_index.f p (k : Int) = some (it : Int) := by
 unfold idx at hit
 unfold alloc_index.f
 by_cases h : p < 0
 {
 rw [if_pos h] at hit ⊢
 rw [wrap64_id (n := (k : Int) - 1) (by omega) (by omega), wrap64_id (by omega) (by omega)]
 congr 1
 omega}
 {
 rw [if_neg h] at hit ⊢
 congr 1
 omega}
theorem used0 : (Array.replicate 77 (.bool false : Value)) = ((List.replicate 77 false).map Value.bool).toArray := by kernel_rfl
theorem used0L : ∀ t, (List.replicate 77 false).getD t false = false := fun t => by
 rw [List.getD_eq_getElem?_getD, List.getElem?_replicate]; split <;> rfl
theorem assignA (w : World) (nm : ByteArray) (V : Option Addr) (X z : Nat) (A2 : Option Addr) (n2 B : Nat) (rg : Int) (A4 : Option Addr) (n4 C : Nat) (kk : Int) (hF : FitsCall w (.agg #[.string nm, .slice V X z, .slice A2 n2 B, .int .i64 (rg : Int), .slice A4 n4 C]) 0) (hbad : kk < 1 ∨ 13 < kk) :
  Calls Tryd.prog 12 #[(.agg #[.string nm, .slice V X z, .slice A2 n2 B, .int .i64 (rg : Int), .slice A4 n4 C]), .int .i64 kk] w fun e w' => e = .returned (.tuple #[.slice none 0 0, .int .i64 6]) ∧ Below w.heap.size w w' := by
 have HFI := a_ hF; have HBD := a_ hbad; clear hF hbad; have a5 := Tryd.underlying26; go_enter Tryd.func12, Tryd.ntmps12
 by_cases h2 : kk < 1
 focus (
 have c2 : decide (kk < 1) = true := decide_eq_true h2
 clear h2; go_wp2_with (first | ((with_reducible refine gd_ 2 rfl ?_); refine q_box 2 26 #[.string nm, .slice V X z, .slice A2 n2 B, .int .i64 (rg : Int), .slice A4 n4 C] ?_; intro g1 G w1 p q; have y := a_ p; have b := a_ q; clear G p q; obtain ⟨J, L, M, D, N⟩ := q_c5 y.out) | (go_at_call 29; (with_reducible refine (HFI.out _ b.out).mono ?_); rintro e w2 ⟨rfl, l⟩; have I := a_ (blk_below y.out l); have O := a_ (below_then b.out b.out.size l); clear l; obtain ⟨R, S, T, E, U⟩ := q_c5 I.out)))
 rotate_left
 focus (
 have F : 13 < kk := by have := HBD.out; omega
 have c2 : decide (kk < 1) = false := decide_eq_false h2
 have a6 : decide (13 < kk) = true := decide_eq_true F
 clear h2 F; go_wp2_with (first | ((with_reducible refine gd_ 2 rfl ?_); refine q_box 2 26 #[.string nm, .slice V X z, .slice A2 n2 B, .int .i64 (rg : Int), .slice A4 n4 C] ?_; intro g1 G w1 p q; have y := a_ p; have b := a_ q; clear G p q; obtain ⟨J, L, M, D, N⟩ := q_c5 y.out) | (go_at_call 29; (with_reducible refine (HFI.out _ b.out).mono ?_); rintro e w2 ⟨rfl, l⟩; have I := a_ (blk_below y.out l); have O := a_ (below_then b.out b.out.size l); clear l; obtain ⟨R, S, T, E, U⟩ := q_c5 I.out)))
 all_goals (
 (try simp only [Exit.inBlock, Exit.then])
 refine bodyPost_ret (results_tmp2 rfl _ _ _) rfl ?_
 exact ⟨rfl, O.out⟩)
def as_.T14 : Bool × List (List Nat × List Nat) := (true, [([], []), ([], []), ([0, 1], [0, 1]), ([], []), ([3], [3]), ([2, 4], [2, 4]), ([5], [5]), ([], [])])
def as_.B14 : List Nat := [0, 0, 3, 0, 8, 31, 63, 0]
theorem as_.tab14 : rtab .any (opsOf Tryd.f12 14) = as_.T14 := by kernel_rfl
theorem as_.bits14 : waitsOk as_.T14.2 as_.B14 = true := by kernel_rfl
theorem assignC (w : World) (nm : ByteArray) (A1 : Option Addr) (n1 a8 : Nat) (A2 : Option Addr) (n2 a9 : Nat) (rg : Nat) (A4 : Option Addr) (n4 b0 : Nat) (k : Nat) (C : List Nat) (oc : Nat) (RES : Option (List Int)) (hF : FitsCall w (.agg #[.string nm, .slice A1 n1 a8, .slice A2 n2 a9, .int .i64 (rg : Int), .slice A4 n4 b0]) 0) (hL : ClashCall w (.agg #[.string nm, .slice A1 n1 a8, .slice A2 n2 a9, .int .i64 (rg : Int), .slice A4 n4 b0]) rg C) (hOC : OccurCall w (.agg #[.string nm, .slice A1 n1 a8, .slice A2 n2 a9, .int .i64 (rg : Int), .slice A4 n4 b0]) oc) (g7 : 1 ≤ k) (g9 : k ≤ 13) (hrg : rg ≤ 2048) (hCl : C.length = rg) (hres : assignF k rg C (listOf oc rg) (List.replicate rg 0) 0 = RES) :
  Calls Tryd.prog 12 #[(.agg #[.string nm, .slice A1 n1 a8, .slice A2 n2 a9, .int .i64 (rg : Int), .slice A4 n4 b0]), .int .i64 (k : Int)] w fun e w' => AssignPost w RES e w' := by
 have HFI := a_ hF; have HCA := a_ hL; have HOC := a_ hOC; have HRG := a_ hrg; have HCL := a_ hCl; have HRES := a_ hres; have HK := a_ (And.intro g7 g9); have c2 : decide ((k : Int) < 1) = false := decide_eq_false (by omega)
 have c3 : decide (13 < (k : Int)) = false := decide_eq_false (by omega)
 have c2n : decide (k < 1) = false := decide_eq_false (by omega)
 have c3n : decide (13 < k) = false := decide_eq_false (by omega)
 obtain ⟨L, hL⟩ : ∃ L, L = listOf oc rg := ⟨_, rfl⟩; obtain ⟨us, hus⟩ : ∃ us, us = regsL oc rg := ⟨_, rfl⟩; have HUS : Aside0 (us = L.map Int.ofNat) := ⟨by rw [hus, hL]; rfl⟩
 have HUSE := a_ hus; have HLE := a_ hL; have HLL : Aside0 (us.length = L.length) := ⟨by rw [HUS.out, List.length_map]⟩
 have HUN : Aside0 (us.length ≤ rg) := ⟨by rw [hus]; exact regsL_len oc rg⟩
 clear hF hL hOC g7 g9 hrg hCl hres hus; have x9 := Tryd.underlying26; go_enter Tryd.func12, Tryd.ntmps12
 go_wp2_with (first | ((with_reducible refine gd_ 2 rfl ?_); refine q_box 2 26 #[.string nm, .slice A1 n1 a8, .slice A2 n2 a9, .int .i64 (rg : Int), .slice A4 n4 b0] ?_; intro g1 s6 w1 i0 i1; have i2 := a_ i0; have e6 := a_ i1; clear s6 i0 i1; obtain ⟨i3, i4, i5, i6, i7⟩ := q_c5 i2.out) | (go_at_call 29; (with_reducible refine (HFI.out _ e6.out).mono ?_); rintro e w2 ⟨rfl, e7⟩; have i8 := a_ (blk_below i2.out e7); have e8 := a_ (below_then e6.out e6.out.size e7); clear e7; obtain ⟨i9, j3, j5, j6, j7⟩ := q_c5 i8.out) | ((with_reducible refine gd_ 30 rfl ?_); refine Kd.R_make (Kd.int .i64) _ 3 rfl (N := 30) rfl 27 _ _ rfl (rg : Int) rfl rfl Tryd.underlying27 (.int .i64 0) 8 info3 rfl (by decide) (by omega) 0 (ok := fun _ => True) (okp := fun _ => True) rfl (fun _ hk => hk) trivial (Int.natCast_nonneg _) (by have := HRG.out; simp; omega) (Below.refl _ _) (Nat.le_refl _) ?_; intro vO w3 j8 e9 j9 k0; clear j9 k0; have s7 := a_ (Kd.R_lower j8 e8.out.size); have k1 := a_ (blk_below i8.out e9); have f0 := a_ (below_then e8.out e8.out.size e9); clear j8 e9; obtain ⟨k2, k3, k4, k5, k6⟩ := q_c5 k1.out) | ((with_reducible refine gd_ 8 rfl ?_); refine box_event ?hg (N := 8) ?hd (cs := (cellsL [0]).toArray) (t := 59) ?hr ?_; (case hd => rfl); (case hg => rfl); (case hr => rw [← zero_cells]; first | (go_simp; done) | (go_simp; rfl)); intro g8 k7 w4 hSA hbA; have f1 := a_ (show SetsAt w4 g8 [0] from hSA); have L8 : Aside0 (w.heap.size ≤ g8) := ⟨by rw [k7]; exact f0.out.size⟩; have s8 := a_ (Kd.R_below s7.out hbA); have k8 := a_ (blk_below k1.out hbA); have d2 := a_ (below_then f0.out f0.out.size hbA); clear k7 hSA hbA; obtain ⟨k9, l4, l5, l6, l7⟩ := q_c5 k8.out) | (go_at_call 30; (with_reducible refine (HCA.out _ d2.out).mono ?_); rintro e w5 ⟨gC, cC, rfl, hgC, hSC, b4⟩; have d6 := a_ hSC; have LC : Aside0 (w.heap.size ≤ gC) := ⟨Nat.le_trans d2.out.size hgC⟩; have N8C : Aside0 (g8 ≠ gC) := ⟨by have := f1.out.lt; omega⟩; have l8 := a_ (f1.out.below b4 f1.out.lt); have s9 := a_ (Kd.R_below s8.out b4); have l9 := a_ (blk_below k8.out b4); have f2 := a_ (below_then d2.out d2.out.size b4); clear hgC hSC b4; obtain ⟨n0, n3, n5, n6, n7⟩ := q_c5 l9.out) | (go_at_call 33; (with_reducible refine (HOC.out _ f2.out).mono ?_); rintro e w6 ⟨rfl, b1⟩; have b5 := a_ (d6.out.below b1 d6.out.lt); have f3 := a_ (l8.out.below b1 l8.out.lt); have t2 := a_ (Kd.R_below s9.out b1); have t3 := a_ (blk_below l9.out b1); have f4 := a_ (below_then f2.out f2.out.size b1); clear b1) | ((with_reducible refine gd_ 10 rfl ?_); refine box_event ?hg (N := 10) ?hd (cs := (cellsL [0]).toArray) (t := 59) ?hr ?_; (case hd => rfl); (case hg => rfl); (case hr => rw [← zero_cells]; first | (go_simp; done) | (go_simp; rfl)); intro T d7 w7 hSA hbA; have f5 := a_ (show SetsAt w7 T [0] from hSA); have t4 : Aside0 (w.heap.size ≤ T) := ⟨by rw [d7]; exact f4.out.size⟩; have n8 : Aside0 (g8 ≠ T) := ⟨by have := f3.out.lt; omega⟩; have n9 : Aside0 (gC ≠ T) := ⟨by have := b5.out.lt; omega⟩; have o0 := a_ (b5.out.below hbA b5.out.lt); have t5 := a_ (f3.out.below hbA f3.out.lt); have t6 := a_ (Kd.R_below t2.out hbA); have o1 := a_ (blk_below t3.out hbA); have t7 := a_ (below_then f4.out f4.out.size hbA); clear d7 hSA hbA) | ((with_reducible refine gate_store (t := 59) (p := 10) rfl ?_); refine put_event (g := T) (i := 0) (off := 0) (l := [0]) (s := oc) rfl rfl rfl ?hx rfl ?hy f5.out (by simp) ?_; (case hx => first | rfl | (go_simp; done) | (go_simp; rfl)); (case hy => first | rfl | (go_simp; done) | (go_simp; rfl)); intro w8 hgP hsP; have t8 := a_ (show SetsAt w8 T [oc] from hsP); have d8 := a_ (o0.out.grown hgP (fun e => n9.out (q_so e))); have o2 := a_ (t5.out.grown hgP (fun e => n8.out (q_so e))); have o3 := a_ (R_sets t6.out f5.out (by decide) hgP); have o4 := a_ (blk_grown o1.out hgP (fun e => apart59 o1.out f5.out (by decide) (q_so e))); have o5 := a_ (below_grown t7.out hgP t4.out); clear hgP hsP; obtain ⟨o6, o7, o8, o9, p2⟩ := q_c5 o4.out) | (go_at_call 31; (with_reducible refine (listC1 _ T rg oc t8.out HRG.out).mono ?_); rintro e w9 ⟨v9, rfl, d3, b2⟩; obtain ⟨Av, cv, rfl⟩ := Kd.R_slice d3; rw [← HUSE.out] at d3; have t9 := a_ (Kd.R_newR d3 o3.out); have p3 := a_ (d8.out.below b2 d8.out.lt); have v0 := a_ (o2.out.below b2 o2.out.lt); have v1 := a_ (Kd.R_below o3.out b2); have v2 := a_ (blk_below o4.out b2); have v3 := a_ (below_then o5.out o5.out.size b2); (try rw [← HUSE.out]); clear d3 b2))
 clear c2 c3 c2n c3n i3 i4 i5 i6 i7 i9 j3 j5 j6 j7 k2 k3 k4 k5 k6 k9 l4 l5 l6 l7 n0 n3 n5 n6 n7 o6 o7 o8 o9 p2; go_loopg [39] us.length (fun gk v4 wx => ∃ x : Int, v4 = .int .i64 x ∧ Aside0 (∃ (j : Nat) (out : List Int) (g : Nat), x = (j : Int) ∧ j + gk = us.length ∧ assignF k rg C (L.drop j) out g = RES ∧ out.length = rg ∧ Anv k rg out g ∧ Kd.R (Kd.int .i64) 3 wx w.heap.size (fun _ => True) vO out ∧ SetsAt wx g8 [g]) ∧ Aside0 (SetsAt wx gC C) ∧ Aside0 (wx.heap[g1]? = some (.cells #[.string nm, .slice A1 n1 a8, .slice A2 n2 a9, .int .i64 (rg : Int), .slice A4 n4 b0] 26 (0, 0))) ∧ Aside0 (Kd.R (Kd.int .i64) 3 wx w8.heap.size (fun k_ => True ∧ some k_ ≠ vO.ownBlock) (.slice Av us.length cv) us) ∧ Aside0 (Below w.heap.size w wx))
 case atStart => exact ⟨0, rfl, ⟨0, List.replicate rg 0, 0, rfl, by omega, by rw [List.drop_zero, HLE.out]; exact HRES.out, List.length_replicate, Anv.nil _ _ _, by have h_ := v1.out; rwa [Int.toNat_natCast] at h_, v0.out⟩, p3, v2, t9, v3⟩
 case round => (
 obtain ⟨x, rfl, ⟨j, out, g, hx, hj, hA, hOL, hAN, hO, hG⟩, HSCx, BKx, HRx, HBx⟩ := hrel; have HX := a_ hx; have HJ := a_ hj; have HA := a_ hA; have HOL := a_ hOL; have HAN := a_ hAN; have HOx := a_ hO; have HGx := a_ hG; cases gk with
 | zero => (
 have c1 : decide (x < (us.length : Int)) = false := decide_eq_false (by omega)
 have hRS : RES = some out := by rw [← hA, List.drop_of_length_le (by have := HLL.out; omega)]; rfl
 have HRS := a_ hRS; clear hx hj hA hOL hAN hO hG hRS; go_wp2
 (try simp only [Exit.inBlock, Exit.then])
 refine bodyPost_ret (results_tmp2 rfl _ _ _) rfl ?_
 rw [HRS.out]; exact ⟨_, rfl, HOx.out, HBx.out⟩)
 | succ gO => (
 have c1 : decide (x < (us.length : Int)) = true := decide_eq_true (by omega)
 have hjl : j < us.length := by omega
 have hjL : j < L.length := by have := HLL.out; omega
 have p0 : 0 ≤ x := by omega
 have q0 : x < (us.length : Int) := by omega
 obtain ⟨ad, e, hcu⟩ := Kd.at_int (Kd.R_reads' HRx.out).2.2 x p0 q0; cases e; obtain ⟨r, hr⟩ : ∃ r, r = rd us x := ⟨_, rfl⟩; rw [← hr] at hcu; obtain ⟨rn, hrn⟩ : ∃ rn, rn = L[j] := ⟨_, rfl⟩; have hrr : r = (rn : Int) := by rw [hr, hx, hrn]; simp [rd, HUS.out, hjL]
 have hmem := mem_listOf.1 (show rn ∈ listOf oc rg by rw [← HLE.out, hrn]; exact List.getElem_mem _)
 have HRN := a_ hrr; have HRR := a_ hmem.1; have RR : Aside0 (0 ≤ r ∧ r < 2048) := ⟨by have := HRG.out; omega⟩
 have hdr : L.drop j = rn :: L.drop (j + 1) := by rw [hrn]; exact List.drop_eq_getElem_cons hjL
 rw [hdr, assignF] at hA; have p4 := a_ hA; obtain ⟨go, cO, eO, hgo, p5, p6⟩ := Kd.R_form hO (by omega)
 cases eO; have GO := a_ hgo; obtain ⟨s, hs⟩ : ∃ s, s = C.getD rn 0 := ⟨_, rfl⟩; have HSE := a_ hs; have HXT : Aside0 (r.toNat * 32 = 32 * rn) := ⟨by omega⟩
 have HJR : Aside0 (rn < C.length) := ⟨by rw [HCL.out]; exact hmem.1⟩
 obtain ⟨M, hM⟩ : ∃ M, M = listOf s rg := ⟨_, rfl⟩; obtain ⟨B, a1⟩ : ∃ B, B = regsL s rg := ⟨_, rfl⟩; have HVS : Aside0 (B = M.map Int.ofNat) := ⟨by rw [a1, hM]; rfl⟩
 have HVSE := a_ a1; have HME := a_ hM; have HVL : Aside0 (B.length = M.length) := ⟨by rw [HVS.out, List.length_map]⟩
 have HVN : Aside0 (B.length ≤ rg) := ⟨by rw [a1]; exact regsL_len s rg⟩
 have hwx : wrap64 (x + 1) = x + 1 := wrap64_id (by omega) (by have := HUN.out; have := HRG.out; omega)
 have y8 : (0 ≤ r) = True := eq_true RR.out.1
 have rrg : (r < (rg : Int)) = True := eq_true (by omega)
 have rro : (r < (out.length : Int)) = True := eq_true (by omega)
 replace p0 := eq_true p0; replace q0 := eq_true q0; obtain ⟨p7, p8, p9, q2, q3⟩ := q_c5 BKx.out; clear hx hj hA hOL hAN hO hG hjl hr hrn hrr hmem hdr hgo p5 p6 hs hM a1; go_wp2_with (first | ((with_reducible refine gd_ 13 rfl ?_); refine box_event ?hg (N := 13) ?hd (cs := ((List.replicate 77 false).map Value.bool).toArray) (t := 63) ?hr ?_; (case hd => rfl); (case hg => rfl); (case hr => rw [← used0]; first | (go_simp; done) | (go_simp; rfl)); intro U d9 f6 e0 b6; have q4 := a_ (show UsedAt f6 U (List.replicate 77 false) from e0); have e1 := a_ b6; have q5 : Aside0 (wr.heap.size ≤ U) := ⟨by rw [d9]; exact Nat.le_refl _⟩; have e2 := a_ (blk_below BKx.out b6); clear d9 e0 b6; obtain ⟨q6, q7, q8, e3, q9⟩ := q_c5 e2.out))
 go_upto_region 14 with (fail)
 refine q_s 8 (S := fun W' => W'.cell? ⟨g1, 3, none⟩ = some (.int .i64 (rg : Int))) e3 (fun V => ?_)
 refine with_tabW as_.tab14 as_.bits14 (fun G r0 => ?_)
 refine qv_ 0 G ?_
 refine qv_ 1 G ?_
 refine qv_ 2 G ?_
 refine qv_ 3 G ?_
 refine qv_ 7 G ?_
 refine qt_ 4 G r0 V ?_
 refine q_o 5 G (fun K hK => ?_)
 refine goes_ Tryd.func31 (by kernel_rfl) rfl #[.pointer (some ⟨gC, r.toNat * 32, none⟩), .int .i64 (rg : Int)] (by rfl) rfl rfl (by (try simp only [List.map_toArray, List.map_cons, List.map_nil]); first | done | rfl | (simp; done)) ?_
 refine (listC2 gC _ rn rg C s HXT.out (HSCx.out.below e1.out HSCx.out.lt).drew HJR.out HRG.out HSE.out.symm).mono ?_
 rintro e v7 ⟨y9, rfl, d4, a2⟩
 refine ⟨_, rfl, ?_⟩
 rw [← HVSE.out] at d4; have r1 := a_ (below_step (below_drew1 e1.out) a2); have r2 := a_ (blk_below (blk_drew e2.out) a2); have r3 : Aside0 (UsedAt v7 U (List.replicate 77 false)) := ⟨blk_below (blk_drew q4.out) a2⟩
 obtain ⟨Aw, cw, rfl⟩ := Kd.R_slice d4; have r4 := a_ d4; clear d4 a2; refine q_nk hK.out (q_b r2.out 3) (fun V => ?_)
 clear hK K
 refine qv_ 6 G ?_
 refine done_ (done_of G.out (by kernel_rfl)) ?_
 clear G r0 V p7 p8 p9 q2 q3 q6 q7 q8 e3 q9 c1 hcu; obtain ⟨wO, hwO⟩ : ∃ wO, wO = wr := ⟨_, rfl⟩; subst hwO; go_wp2
 go_loopg [50] B.length (fun gz v8 wz => ∃ y : Int, v8 = .int .i64 y ∧ Aside0 (∃ i : Nat, y = (i : Int) ∧ i + gz = B.length ∧ UsedAt wz U (usedL k g out (M.take i) (List.replicate 77 false))) ∧ Aside0 (Below wO.heap.size wO wz) ∧ Aside0 (Kd.R (Kd.int .i64) 3 wz f6.drew.heap.size (fun _ => True) (.slice Aw B.length cw) B))
 case atStart => exact ⟨0, rfl, ⟨0, rfl, by omega, r3.out⟩, r1, r4⟩
 case round => (
 obtain ⟨y, rfl, ⟨i, hy, hi, hU⟩, HQz, HRz⟩ := hrel; have HY := a_ hy; have HI := a_ hi; have HUz := a_ hU; cases gk with
 | succ gQ => (
 have c1 : decide (y < (B.length : Int)) = true := decide_eq_true (by omega)
 have hil : i < B.length := by omega
 have hiM : i < M.length := by have := HVL.out; omega
 have p1 : 0 ≤ y := by omega
 have q1 : y < (B.length : Int) := by omega
 obtain ⟨adu, e, hcu⟩ := Kd.at_int (Kd.R_reads' HRz.out).2.2 y p1 q1; cases e; obtain ⟨u, hu⟩ : ∃ u, u = rd B y := ⟨_, rfl⟩; rw [← hu] at hcu; obtain ⟨q, hq⟩ : ∃ q, q = M[i] := ⟨_, rfl⟩; have huq : u = (q : Int) := by rw [hu, hy, hq]; simp [rd, HVS.out, hiM]
 have hmem := mem_listOf.1 (show q ∈ listOf s rg by rw [← HME.out, hq]; exact List.getElem_mem _)
 have HU : Aside0 (0 ≤ u ∧ u < 2048) := ⟨by have := HRG.out; omega⟩
 obtain ⟨ul, hul⟩ : ∃ ul, ul = usedL k g out (M.take i) (List.replicate 77 false) := ⟨_, rfl⟩; have HULL : Aside0 (ul.length = 77) := ⟨by rw [hul, usedL_len, List.length_replicate]⟩
 have HUT := usedL_take k g out (List.replicate 77 false) hiM; rw [← hq, ← hul] at HUT; rw [← hul] at hU; have HUz := a_ hU; obtain ⟨hb_, hhb⟩ : ∃ hb_, g.testBit q = hb_ := ⟨_, rfl⟩; have HHB : Aside0 (g.testBit u.toNat = hb_) := ⟨by rw [huq, Int.toNat_natCast]; exact hhb⟩
 have HGz := a_ (HGx.out.below HQz.out HGx.out.lt); have hwy : wrap64 (y + 1) = y + 1 := wrap64_id (by omega) (by have := HVN.out; have := HRG.out; omega)
 have HOz := a_ (Kd.R_below HOx.out HQz.out); have d5 : 0 ≤ u := by omega
 have uuo : u < (out.length : Int) := by have := HOL.out; omega
 replace p1 := eq_true p1; replace q1 := eq_true q1; cases hb_ with
 | false => (
 rw [if_neg (by rw [hhb]; simp)] at HUT
 have HUT := a_ HUT; clear hy hi hU hil hiM hu hq huq hmem hul hhb d5 uuo; go_wp2_with (first | (go_at_call 34; (with_reducible refine (hasC1 _ g8 u g false HGz.out HU.out.1 HU.out.2 HHB.out).mono ?_); rintro e x2 ⟨rfl, D⟩; have a3 := a_ (below_then HQz.out HQz.out.size D); have X := a_ (blk_below HUz.out D); have b7 := a_ (Kd.R_below HRz.out D); clear D ))
 go_roundg gQ
 case measure => omega
 case rel => exact ⟨y + 1, by go_num, ⟨i + 1, by rw [HY.out]; rfl, by have := HI.out; omega, by rw [HUT.out]; exact X.out⟩, a3, b7⟩)
 | true => (
 rw [if_pos hhb] at HUT; obtain ⟨it, hit⟩ : ∃ it, it = idx k (out.getD q 0) := ⟨_, rfl⟩; rw [← hit] at HUT; obtain ⟨pq, hpq⟩ : ∃ pq, pq = out.getD q 0 := ⟨_, rfl⟩; rw [← hpq] at hit; have hib := (HAN.out q hhb).2; rw [← hpq, ← hit] at hib; have HIT : Aside0 (alloc_index.f pq (k : Int) = some (it : Int)) := ⟨index_f HK.out.1 HK.out.2 hit hib⟩
 have HITL : Aside0 (it < ul.length) := ⟨by rw [HULL.out]; have := HK.out; omega⟩
 have z0 : (0 ≤ (it : Int)) = True := eq_true (by omega)
 have z1 : ((it : Int) < 77) = True := eq_true (by have := HK.out; omega)
 have it1n : (it < 77) = True := eq_true (by have := HK.out; omega)
 have hco := (Kd.R_celln 0 HOz.out u d5 uuo).1; have HPQ : Aside0 (rdOf 0 out u = pq) := ⟨by rw [hpq, huq]; simp [rdOf]⟩
 rw [HPQ.out] at hco; have HUT := a_ HUT; replace d5 := eq_true d5; replace uuo := eq_true uuo; clear hy hi hU hil hiM hu hq huq hmem hul hhb hit hpq hib; go_wp2_with (first | (go_at_call 34; (with_reducible refine (hasC1 _ g8 u g true HGz.out HU.out.1 HU.out.2 HHB.out).mono ?_); rintro e x2 ⟨rfl, D⟩; have a3 := a_ (below_then HQz.out HQz.out.size D); have X := a_ (blk_below HUz.out D); have b7 := a_ (Kd.R_below HRz.out D); have x3 := cell_old hco D; clear D) | (go_at_call 35; (with_reducible refine (alloc_index.calls HIT.out).mono ?_); rintro e x4 ⟨rfl, e4⟩; have a4 := Drawn0.below e4; have r5 := a_ (below_then a3.out a3.out.size a4); have a5 := a_ (blk_below X.out a4); have r6 := a_ (Kd.R_below b7.out a4); clear a4 e4; have y3 := UsedAt.cell (u := ul) a5.out HITL.out; have y4 := UsedAt.frozen (u := ul) a5.out it) | ((with_reducible refine gate_store (t := 4) (p := 62) rfl ?_); refine store_event (t := 4) (p := 62) (v := .const (.bool true)) (w1 := (x4.setCell ⟨U, it, none⟩ (.bool true))) ?hg ?ho ?hn ?hr ?_; (case ho => rfl); (case hg => rfl); (case hn => rfl); (case hr => first | (go_simp; done) | (go_simp; rfl)); intro f7 a6; have r7 : Aside0 (Below wO.heap.size wO f7) := ⟨by rw [a6]; exact below_setg r5.out q5.out⟩; have r8 : Aside0 (UsedAt f7 U (ul.set it true)) := ⟨by rw [a6]; exact UsedAt.set a5.out it⟩; have r9 : Aside0 (Kd.R (Kd.int .i64) 3 f7 f6.drew.heap.size (fun _ => True) (.slice (some adu) B.length cw) B) := ⟨by rw [a6]; exact Kd.R_over' (v := .slice (some ⟨U, 0, none⟩) 0 0) r6.out (fun k_ hk_ => by obtain rfl := q_so hk_; exact ⟨_, a5.out⟩) (by decide) (grown_set _ _ _ _)⟩; clear a6))
 go_roundg gQ
 case measure => omega
 case rel => exact ⟨y + 1, by go_num, ⟨i + 1, by rw [HY.out]; rfl, by have := HI.out; omega, by rw [HUT.out]; exact r8.out⟩, r7, r9⟩))
 | zero => (
 have c1 : decide (y < (B.length : Int)) = false := decide_eq_false (by omega)
 obtain ⟨ul, hul⟩ : ∃ ul, ul = usedL k g out M (List.replicate 77 false) := ⟨_, rfl⟩; have HULL : Aside0 (ul.length = 77) := ⟨by rw [hul, usedL_len, List.length_replicate]⟩
 rw [List.take_of_length_le (by have := HVL.out; omega), ← hul] at hU
 have HUF : Aside0 (free (usedBy k rg C out g rn) (k + 64) 0 = free (fun t => ul.getD t false) (k + 64) 0) := ⟨free_congr _ _ (fun t _ _ => by
  rw [hul, usedL_get _ _ _ _ _ _ (fun q _ hg => by rw [List.length_replicate]; have := (HAN.out q hg).2; have := HK.out; omega), used0L, Bool.false_or, usedBy, HME.out, HSE.out])⟩
 have HUz := a_ hU; clear hy hi hU hul; obtain ⟨wP, hwP⟩ : ∃ wP, wP = wr := ⟨_, rfl⟩; subst hwP; go_wp2
 have z2 : wrap64 ((k : Int) + 64) = (k : Int) + 64 := wrap64_id (by omega) (by have := HK.out; omega)
 go_loopg [16] (k + 64) (fun gz x5 wz => ∃ t : Int, x5 = .int .i64 t ∧ Aside0 (∃ m : Nat, t = (m : Int) ∧ m + gz = k + 64 ∧ free (usedBy k rg C out g rn) (k + 64) 0 = free (fun t => ul.getD t false) gz m) ∧ Aside0 (Below wP.heap.size wP wz))
 case atStart => exact ⟨0, rfl, ⟨0, rfl, by omega, HUF.out⟩, ⟨Below.refl _ _⟩⟩
 case round => (
 obtain ⟨t, rfl, ⟨m, ht, hm, hf⟩, HP⟩ := hrel; have HTM := a_ ht; have HM := a_ hm; have HQw := a_ (below_then HQz.out HQz.out.size HP.out); have HSCz := a_ (HSCx.out.below HQw.out HSCx.out.lt); have BKz := a_ (blk_below BKx.out HQw.out); have HRRz := a_ (Kd.R_below HRx.out HQw.out); have HBz := a_ (below_then HBx.out HBx.out.size HQw.out); have HGz := a_ (HGx.out.below HQw.out HGx.out.lt); have HOz := a_ (Kd.R_below HOx.out HQw.out); cases gk with
 | zero => (
 have c1 : decide (t < (k : Int) + 64) = false := decide_eq_false (by omega)
 have c5 : (t == (k : Int) + 64) = true := beq_iff_eq.mpr (by omega)
 have HRS : Aside0 (RES = none) := ⟨by rw [← p4.out, hf, free, if_pos (by omega)]⟩
 clear ht hm hf; go_wp2
 (try simp only [Exit.inBlock, Exit.then])
 refine bodyPost_ret (results_tmp2 rfl _ _ _) rfl ?_
 rw [HRS.out]; exact ⟨rfl, HBz.out⟩)
 | succ gT => (
 have c1 : decide (t < (k : Int) + 64) = true := decide_eq_true (by omega)
 have hmk : m < k + 64 := by omega
 have t0 : (0 ≤ t) = True := eq_true (by omega)
 have t1 : (t < 77) = True := eq_true (by have := HK.out; omega)
 have hcell := UsedAt.cell (u := ul) (blk_below HUz.out HP.out) (i := m) (by rw [HULL.out]; have := HK.out; omega)
 obtain ⟨ub, hub⟩ : ∃ ub, ub = ul.getD m false := ⟨_, rfl⟩; rw [← hub, show m = t.toNat by omega] at hcell
 rw [show free (fun t => ul.getD t false) (gT + 1) m = if ub = true then free (fun t => ul.getD t false) gT (m + 1) else m from by rw [hub]; rfl] at hf
 cases ub with
 | true => (
 rw [if_pos rfl] at hf; have HFR := a_ hf; have hwt : wrap64 (t + 1) = t + 1 := wrap64_id (by omega) (by have := HK.out; omega)
 clear ht hm hf hub hmk; go_wp2
 go_roundg gT
 case measure => omega
 case rel => exact ⟨t + 1, by go_num, ⟨m + 1, by rw [HTM.out]; rfl, by have := HM.out; omega, HFR.out⟩, HP⟩)
 | false => (
 rw [if_neg (by simp)] at hf
 have hA := p4.out; rw [hf, if_neg (by omega)] at hA
 have s0 := a_ hA; have HMK := a_ hmk; have c5 : (t == (k : Int) + 64) = false := beq_eq_false_iff_ne.mpr (by omega)
 have hcr := (Kd.R_celln 0 HOz.out r RR.out.1 (by have := HOL.out; have := HRR.out; have := HRN.out; omega)).1
 have hfr := (Kd.R_celln 0 HOz.out r RR.out.1 (by have := HOL.out; have := HRR.out; have := HRN.out; omega)).2
 have HRT : Aside0 (r.toNat = rn) := ⟨by have := HRN.out; omega⟩
 have ROL : Aside0 (r < (out.length : Int)) := ⟨by have := HOL.out; have := HRR.out; have := HRN.out; omega⟩
 by_cases hge : (k : Int) ≤ t
 case pos => (
 have c6 : decide ((k : Int) ≤ t) = true := decide_eq_true hge
 obtain ⟨pl, hpl⟩ : ∃ pl, pl = (k : Int) - 1 - t := ⟨_, rfl⟩; have HPL : Aside0 (placeOf k m = pl) := ⟨by rw [placeOf, if_neg (by omega), hpl]; omega⟩
 have x6 : Aside0 (wrap64 ((k : Int) - 1) = (k : Int) - 1) := ⟨wrap64_id (by omega) (by have := HK.out; omega)⟩
 have x7 : Aside0 (wrap64 ((k : Int) - 1 - t) = pl) := ⟨by rw [hpl]; exact wrap64_id (by have := HK.out; omega) (by have := HK.out; omega)⟩
 have z4 := x6.out; have z5 := x7.out; clear ht hm hf hub hmk hA hge hpl; go_wp2_with (first | ((with_reducible refine gate_store (t := 3) (p := 82) rfl ?_); refine store_event (t := 3) (p := 82) (v := .tmp 81) (w1 := (wr.setCell ⟨go, r.toNat, none⟩ (.int .i64 t))) ?hg ?ho ?hn ?hr ?_; (case ho => rfl); (case hg => rfl); (case hn => rfl); (case hr => first | (go_simp; done) | (go_simp; rfl)); intro E hw_; have hg_ : wr.grownBy E (some go) := (by rw [hw_]; exact (Kd.R_putg HOz.out r t).2); have z := a_ (show Kd.R (Kd.int .i64) 3 E w.heap.size (fun _ => True) (.slice (some ⟨go, 0, none⟩) out.length cO) (out.set r.toNat t) from (by rw [hw_]; exact (Kd.R_putg HOz.out r t).1)); have F : Aside0 (SetsAt E g8 [g]) := ⟨blk_grown HGz.out hg_ (Kd.R_ne HOz.out HGz.out (by decide))⟩; have I : Aside0 (SetsAt E gC C) := ⟨blk_grown HSCz.out hg_ (Kd.R_ne HOz.out HSCz.out (by decide))⟩; have J := a_ (blk_grown BKz.out hg_ (Kd.R_ne HOz.out BKz.out (by decide))); have b8 := a_ (Kd.R_grown HRRz.out hg_ (fun _ h_ => h_.2)); have b9 : Aside0 (Below w.heap.size w E) := ⟨by rw [hw_]; exact below_set HBz.out GO.out⟩; clear hg_ hw_; have s1 := (Kd.R_celln 0 z.out r RR.out.1 ROL.out).1; have s2 := (Kd.R_celln 0 z.out r RR.out.1 ROL.out).2) | ((with_reducible refine gate_store (t := 3) (p := 92) rfl ?_); refine store_event (t := 3) (p := 92) (v := .tmp 91) (w1 := (E.setCell ⟨go, r.toNat, none⟩ (.int .i64 pl))) ?hg ?ho ?hn ?hr ?_; (case ho => rfl); (case hg => rfl); (case hn => rfl); (case hr => first | (go_simp; done) | (go_simp; rfl)); intro c0 hw_; have hg_ : E.grownBy c0 (some go) := (by rw [hw_]; exact (Kd.R_putg z.out r pl).2); have s3 := a_ (show Kd.R (Kd.int .i64) 3 c0 w.heap.size (fun _ => True) (.slice (some ⟨go, 0, none⟩) out.length cO) ((out.set r.toNat t).set r.toNat pl) from (by rw [hw_]; exact (Kd.R_putg z.out r pl).1)); have a7 : Aside0 (SetsAt c0 g8 [g]) := ⟨blk_grown F.out hg_ (Kd.R_ne z.out F.out (by decide))⟩; have f8 : Aside0 (SetsAt c0 gC C) := ⟨blk_grown I.out hg_ (Kd.R_ne z.out I.out (by decide))⟩; have e5 := a_ (blk_grown J.out hg_ (Kd.R_ne z.out J.out (by decide))); have s4 := a_ (Kd.R_grown b8.out hg_ (fun _ h_ => h_.2)); have s5 : Aside0 (Below w.heap.size w c0) := ⟨by rw [hw_]; exact below_set b9.out GO.out⟩; clear hg_ hw_) | (go_at_call 36; (with_reducible refine (putC1 _ g8 r g a7.out RR.out.1 RR.out.2).mono ?_); rintro e x8 ⟨rfl, b, O⟩; have c4 := a_ O; have c8 := a_ (R_sets s3.out a7.out (by decide) b); have a0 := a_ (f8.out.grown b (fun e => N8C.out (q_so e).symm)); have c9 := a_ (blk_grown e5.out b (fun e => apart59 e5.out a7.out (by decide) (q_so e))); have d0 := a_ (R_sets s4.out a7.out (by decide) b); have d1 := a_ (below_grown s5.out b L8.out); clear b O))
 go_roundg gO
 case measure => omega
 case rel => exact ⟨x + 1, by go_num, ⟨j + 1, out.set rn (placeOf k m), put g rn, by rw [HX.out]; rfl, by have := HJ.out; omega, s0.out, by rw [List.length_set]; exact HOL.out, Anv.step HK.out.1 HAN.out HRR.out HOL.out HMK.out, by have h_ := c8.out; rw [List.set_set, HRT.out, ← HPL.out] at h_; exact h_, by have h_ := c4.out; rw [HRT.out] at h_; exact h_⟩, a0, c9, d0, d1⟩)
 case neg => (
 have c6 : decide ((k : Int) ≤ t) = false := decide_eq_false hge
 have HPL : Aside0 (placeOf k m = t) := ⟨by rw [placeOf, if_pos (by omega)]; omega⟩
 clear ht hm hf hub hmk hA hge; go_wp2_with (first | ((with_reducible refine gate_store (t := 3) (p := 82) rfl ?_); refine store_event (t := 3) (p := 82) (v := .tmp 81) (w1 := (wr.setCell ⟨go, r.toNat, none⟩ (.int .i64 t))) ?hg ?ho ?hn ?hr ?_; (case ho => rfl); (case hg => rfl); (case hn => rfl); (case hr => first | (go_simp; done) | (go_simp; rfl)); intro E hw_; have hg_ : wr.grownBy E (some go) := (by rw [hw_]; exact (Kd.R_putg HOz.out r t).2); have z := a_ (show Kd.R (Kd.int .i64) 3 E w.heap.size (fun _ => True) (.slice (some ⟨go, 0, none⟩) out.length cO) (out.set r.toNat t) from (by rw [hw_]; exact (Kd.R_putg HOz.out r t).1)); have F : Aside0 (SetsAt E g8 [g]) := ⟨blk_grown HGz.out hg_ (Kd.R_ne HOz.out HGz.out (by decide))⟩; have I : Aside0 (SetsAt E gC C) := ⟨blk_grown HSCz.out hg_ (Kd.R_ne HOz.out HSCz.out (by decide))⟩; have J := a_ (blk_grown BKz.out hg_ (Kd.R_ne HOz.out BKz.out (by decide))); have b8 := a_ (Kd.R_grown HRRz.out hg_ (fun _ h_ => h_.2)); have b9 : Aside0 (Below w.heap.size w E) := ⟨by rw [hw_]; exact below_set HBz.out GO.out⟩; clear hg_ hw_; have s1 := (Kd.R_celln 0 z.out r RR.out.1 ROL.out).1; have s2 := (Kd.R_celln 0 z.out r RR.out.1 ROL.out).2) | (go_at_call 36; (with_reducible refine (putC1 _ g8 r g F.out RR.out.1 RR.out.2).mono ?_); rintro e x8 ⟨rfl, b, O⟩; have c4 := a_ O; have c8 := a_ (R_sets z.out F.out (by decide) b); have a0 := a_ (I.out.grown b (fun e => N8C.out (q_so e).symm)); have c9 := a_ (blk_grown J.out b (fun e => apart59 J.out F.out (by decide) (q_so e))); have d0 := a_ (R_sets b8.out F.out (by decide) b); have d1 := a_ (below_grown b9.out b L8.out); clear b O))
 go_roundg gO
 case measure => omega
 case rel => exact ⟨x + 1, by go_num, ⟨j + 1, out.set rn (placeOf k m), put g rn, by rw [HX.out]; rfl, by have := HJ.out; omega, s0.out, by rw [List.length_set]; exact HOL.out, Anv.step HK.out.1 HAN.out HRR.out HOL.out HMK.out, by have h_ := c8.out; rw [HRT.out, ← HPL.out] at h_; exact h_, by have h_ := c4.out; rw [HRT.out] at h_; exact h_⟩, a0, c9, d0, d1⟩))))))))
end Go.Proofs.YtefhpdcafdhcaaaDoor.S
end
section
namespace Go.Proofs.YtefhpdcafdhcaaaDoor.S
open Go Go.RowKit Go.Proofs Go.Proofs.YtefhpdcafdhcaaaDoorW.PrintWords Go.Proofs.YtefhpdcafdhcaaaDoorW.PrintLast Go.Proofs.YtefhpdcafdhcaaaDoorW.PrintMore Go.Proofs.YtefhpdcafdhcaaaDoor Go.Proofs.YtefhpdcafdhcaaaDoor.A Go.Proofs.YtefhpdcafdhcaaaDoor.V FlowM
attribute [local go_sem] max2_int max_two
set_option linter.unusedVariables false
set_option linter.unusedSimpArgs false
def allocOK (rg : Int) (N : List S69) : Prop := (0 ≤ rg ∧ rg ≤ 2000) ∧ (0 < N.length ∧ N.length ≤ 1000000) ∧ (∀ n ∈ N, n.f0.length ≤ 1000000) ∧ FineG rg.toNat N
instance (m : Nat) (x : S71) : Decidable (Fine m x) := by unfold Fine; infer_instance
instance (m n : Nat) (x : S69) : Decidable (FineNd m n x) := by unfold FineNd; infer_instance
instance (rg : Int) (N : List S69) : Decidable (allocOK rg N) := by unfold allocOK FineG; infer_instance
def liveR (k : Nat) (a0_0 : ByteArray) (l0_1 : List (S83)) (l0_2 : List (S85)) (a0_3 : Int) (l0_4 : List (S69)) : Option (List Nat) := if allocOK a0_3 l0_4 then (flow_Successors.f k a0_0 l0_1 l0_2 a0_3 l0_4).bind fun p => if p = (l0_4.map next, 0) then liveF l0_4 k (List.replicate l0_4.length 0) else none else none
theorem sweep_len (N : List S69) : ∀ (i : Nat) (I : List Nat) (c : Bool), (sweep N i I c).1.length = I.length
 | 0, _, _ => rfl
 | i + 1, I, c => by
  rw [sweep]; split
  ·exact sweep_len N i I c
  ·rw [sweep_len N i, List.length_set]
theorem liveF_len {N : List S69} : ∀ {k : Nat} {I R : List Nat}, liveF N k I = some R → R.length = I.length
 | 0, _, _, h => by cases h
 | k + 1, I, R, h => by
  rw [liveF] at h; split at h
  ·rw [liveF_len h, sweep_len]
  ·rw [← q_so h, sweep_len]
theorem sweep_lt {m : Nat} {N : List S69} (hF : FineG m N) : ∀ (i : Nat) (I : List Nat) (c : Bool), i ≤ N.length → (∀ s ∈ I, s < 2 ^ m) → ∀ s ∈ (sweep N i I c).1, s < 2 ^ m
 | 0, _, _, _, h => h
 | i + 1, I, c, hi, h => by {
 rw [sweep]; split
 ·exact sweep_lt hF i I c (by omega) h
 {
 refine sweep_lt hF i _ true (by omega) fun s hs => ?_
 rcases List.mem_or_eq_of_mem_set hs with h1 | h1
 ·exact h s h1
 ·rw [h1]; exact transfer_lt (FineG.at hF (by omega)) _ h}}
theorem liveF_lt {m : Nat} {N : List S69} (hF : FineG m N) : ∀ {k : Nat} {I R : List Nat}, (∀ s ∈ I, s < 2 ^ m) → liveF N k I = some R → ∀ s ∈ R, s < 2 ^ m
 | 0, _, _, _, h => by cases h
 | k + 1, I, R, hI, h => by
  rw [liveF] at h; split at h
  ·exact liveF_lt hF (sweep_lt hF _ _ _ (Nat.le_refl _) hI) h
  ·rw [← q_so h]; exact sweep_lt hF _ _ _ (Nat.le_refl _) hI
structure LiveG (k : Nat) (a0_0 : ByteArray) (l0_1 : List (S83)) (l0_2 : List (S85)) (a0_3 : Int) (l0_4 : List (S69)) (R : List Nat) : Prop where
 r0 : 0 ≤ a0_3
 r1 : a0_3 ≤ 2000
 n0 : 0 < l0_4.length
 n1 : l0_4.length ≤ 1000000
 ns : ∀ n ∈ l0_4, n.f0.length ≤ 1000000
 fine : FineG a0_3.toNat l0_4
 succ : flow_Successors.f k a0_0 l0_1 l0_2 a0_3 l0_4 = some (l0_4.map next, 0)
 live : liveF l0_4 k (List.replicate l0_4.length 0) = some R
theorem LiveG.of {k : Nat} {a0_0 : ByteArray} {l0_1 : List (S83)} {l0_2 : List (S85)} {a0_3 : Int} {l0_4 : List (S69)} {R : List Nat} (h : liveR k a0_0 l0_1 l0_2 a0_3 l0_4 = some R) : LiveG k a0_0 l0_1 l0_2 a0_3 l0_4 R := by
 unfold liveR at h
 split at h
 {
 rename_i hk
 obtain ⟨p, hp, h⟩ := Option.bind_eq_some_iff.1 h; split at h
 {
 rename_i he
 obtain ⟨⟨h1, b⟩, ⟨l, q⟩, y, h6⟩ := hk; exact ⟨h1, b, l, q, y, h6, by rw [hp, he], h⟩}
 ·cases h}
 ·cases h
section
variable {k : Nat} {a0_0 : ByteArray} {l0_1 : List (S83)} {l0_2 : List (S85)} {a0_3 : Int} {l0_4 : List (S69)} {R : List Nat}
theorem LiveG.len (h : LiveG k a0_0 l0_1 l0_2 a0_3 l0_4 R) : R.length = l0_4.length := by rw [liveF_len h.live, List.length_replicate]
theorem LiveG.lt (h : LiveG k a0_0 l0_1 l0_2 a0_3 l0_4 R) : ∀ s ∈ R, s < 2 ^ (64 * 32) := fun s hs => q_pw (liveF_lt h.fine (fun s hs => by rw [(List.mem_replicate.1 hs).2]; exact Nat.two_pow_pos _) h.live s hs) (by have := h.r0; have := h.r1; omega)
variable {A0_1 : Option Addr} {c0_1 : Nat} {A0_2 : Option Addr} {c0_2 : Nat} {A0_4 : Option Addr} {c0_4 : Nat} {w : World}
theorem live_call (b : Kd.C k83 w A0_1 l0_1.length l0_1) (l : l0_1.length ≤ c0_1) (p : Kd.C k85 w A0_2 l0_2.length l0_2) (q : l0_2.length ≤ c0_2) (y : Kd.C k69 w A0_4 l0_4.length l0_4) (z : l0_4.length ≤ c0_4) (hT : Tab w) (h : LiveG k a0_0 l0_1 l0_2 a0_3 l0_4 R) : LiveCall w (.agg #[.string a0_0, .slice A0_1 l0_1.length c0_1, .slice A0_2 l0_2.length c0_2, .int .i64 (a0_3.toNat : Int), .slice A0_4 l0_4.length c0_4]) R.length R (l0_4.map FlowM.next) := by
 intro w0 hb
 rw [h.len, show ((a0_3.toNat : Nat) : Int) = a0_3 from Int.toNat_of_nonneg h.r0]; refine (liveC k a0_0 A0_1 c0_1 l0_1 A0_2 c0_2 l0_2 a0_3 A0_4 c0_4 l0_4 w0 k R (Kd.C_below b hb) l (Kd.C_below p hb) q (Kd.C_below y hb) z h.succ (hT.below hb) a0_3.toNat (by have := h.r0; have := h.r1; omega) h.fine h.n1 h.ns h.live).mono ?_
 rintro e w' ⟨g, c, B, h1, D, E, F, G⟩
 exact ⟨g, c, B, h1, D, E, F, G⟩
theorem fits_call (b : Kd.C k83 w A0_1 l0_1.length l0_1) (l : l0_1.length ≤ c0_1) (p : Kd.C k85 w A0_2 l0_2.length l0_2) (q : l0_2.length ≤ c0_2) (y : Kd.C k69 w A0_4 l0_4.length l0_4) (z : l0_4.length ≤ c0_4) (hT : Tab w) {B : Int} (D : 0 ≤ a0_3) (h : alloc_fits.f k a0_0 l0_1 l0_2 a0_3 l0_4 = some B) : FitsCall w (.agg #[.string a0_0, .slice A0_1 l0_1.length c0_1, .slice A0_2 l0_2.length c0_2, .int .i64 (a0_3.toNat : Int), .slice A0_4 l0_4.length c0_4]) B := by
 intro w0 hb
 rw [show ((a0_3.toNat : Nat) : Int) = a0_3 from Int.toNat_of_nonneg D]; exact alloc_fits.calls k a0_0 A0_1 c0_1 l0_1 A0_2 c0_2 l0_2 a0_3 A0_4 c0_4 l0_4 B w0 ⟨Kd.C_below b hb, l, Kd.C_below p hb, q, Kd.C_below y hb, z⟩ h (hT.below hb)
theorem fits_callI (b : Kd.C k83 w A0_1 l0_1.length l0_1) (l : l0_1.length ≤ c0_1) (p : Kd.C k85 w A0_2 l0_2.length l0_2) (q : l0_2.length ≤ c0_2) (y : Kd.C k69 w A0_4 l0_4.length l0_4) (z : l0_4.length ≤ c0_4) (hT : Tab w) {B : Int} (h : alloc_fits.f k a0_0 l0_1 l0_2 a0_3 l0_4 = some B) : FitsCall w (.agg #[.string a0_0, .slice A0_1 l0_1.length c0_1, .slice A0_2 l0_2.length c0_2, .int .i64 a0_3, .slice A0_4 l0_4.length c0_4]) B := by
 intro w0 hb
 exact alloc_fits.calls k a0_0 A0_1 c0_1 l0_1 A0_2 c0_2 l0_2 a0_3 A0_4 c0_4 l0_4 B w0 ⟨Kd.C_below b hb, l, Kd.C_below p hb, q, Kd.C_below y hb, z⟩ h (hT.below hb)
theorem clash_call (l : Kd.C k83 w A0_1 l0_1.length l0_1) (p : l0_1.length ≤ c0_1) (q : Kd.C k85 w A0_2 l0_2.length l0_2) (y : l0_2.length ≤ c0_2) (b : Kd.C k69 w A0_4 l0_4.length l0_4) (z : l0_4.length ≤ c0_4) (hT : Tab w) (h : LiveG k a0_0 l0_1 l0_2 a0_3 l0_4 R) : ClashCall w (.agg #[.string a0_0, .slice A0_1 l0_1.length c0_1, .slice A0_2 l0_2.length c0_2, .int .i64 (a0_3.toNat : Int), .slice A0_4 l0_4.length c0_4]) a0_3.toNat (clashF a0_3.toNat l0_4 R) := by
 intro w0 hb
 exact clashesC w0 a0_0 A0_1 l0_1.length c0_1 A0_2 l0_2.length c0_2 a0_3.toNat A0_4 c0_4 l0_4 R (l0_4.map FlowM.next) rfl (Kd.C_below b hb) (live_call (Kd.C_below l hb) p (Kd.C_below q hb) y (Kd.C_below b hb) z (hT.below hb) h) (by have := h.r0; have := h.r1; omega) h.n0 h.n1 h.ns h.fine h.len h.lt
theorem occur_call (l : Kd.C k83 w A0_1 l0_1.length l0_1) (p : l0_1.length ≤ c0_1) (q : Kd.C k85 w A0_2 l0_2.length l0_2) (y : l0_2.length ≤ c0_2) (b : Kd.C k69 w A0_4 l0_4.length l0_4) (z : l0_4.length ≤ c0_4) (h : LiveG k a0_0 l0_1 l0_2 a0_3 l0_4 R) : OccurCall w (.agg #[.string a0_0, .slice A0_1 l0_1.length c0_1, .slice A0_2 l0_2.length c0_2, .int .i64 (a0_3.toNat : Int), .slice A0_4 l0_4.length c0_4]) (occF l0_4) := by
 intro w0 hb
 exact occurC w0 a0_0 A0_1 l0_1.length c0_1 A0_2 l0_2.length c0_2 a0_3.toNat A0_4 c0_4 l0_4 a0_3.toNat (Kd.C_below b hb) (by have := h.r0; have := h.r1; omega) h.n1 h.ns h.fine
end
def alloc_Clashes.f (k : Nat) (a0_0 : ByteArray) (l0_1 : List (S83)) (l0_2 : List (S85)) (a0_3 : Int) (l0_4 : List (S69)) : Option (List (Int × Int) × Int) := (alloc_fits.f k a0_0 l0_1 l0_2 a0_3 l0_4).bind fun e => if e = 0 then (liveR k a0_0 l0_1 l0_2 a0_3 l0_4).bind fun R => some (pairsOf (clashF a0_3.toNat l0_4 R) a0_3.toNat a0_3.toNat, 0) else some (([] : List (Int × Int)), e)
theorem alloc_Clashes.calls (k : Nat) (a0_0 : ByteArray) (A0_1 : Option Addr) (c0_1 : Nat) (l0_1 : List (S83)) (A0_2 : Option Addr) (c0_2 : Nat) (l0_2 : List (S85)) (a0_3 : Int) (A0_4 : Option Addr) (c0_4 : Nat) (l0_4 : List (S69)) (E : List (Int × Int)) (F : Int) (w : World) (b : Kd.C k83 w A0_1 l0_1.length l0_1) (l : l0_1.length ≤ c0_1) (p : Kd.C k85 w A0_2 l0_2.length l0_2) (q : l0_2.length ≤ c0_2) (y : Kd.C k69 w A0_4 l0_4.length l0_4) (z : l0_4.length ≤ c0_4) (h : alloc_Clashes.f k a0_0 l0_1 l0_2 a0_3 l0_4 = some (E, F)) (hT : Tab w) :
  Calls Tryd.prog 18 #[.agg #[.string a0_0, .slice A0_1 l0_1.length c0_1, .slice A0_2 l0_2.length c0_2, .int .i64 a0_3, .slice A0_4 l0_4.length c0_4]] w fun e w' => ∃ B : Value, e = .returned (.tuple #[B, .int .i64 F]) ∧ Kd.R k54 54 w' w.heap.size (fun _ => True) B E ∧ Below w.heap.size w w' := by
 unfold alloc_Clashes.f at h
 obtain ⟨G, he, h⟩ := Option.bind_eq_some_iff.1 h; by_cases D : G = 0
 ·rw [if_pos D] at h; subst D; obtain ⟨R, hR, h⟩ := Option.bind_eq_some_iff.1 h; have g := LiveG.of hR; have I := g.r0; have J := g.r1; obtain ⟨rfl, rfl⟩ := Prod.mk.inj (q_so h); have hfc := fits_call b l p q y z hT I he; have := clashesC2 w a0_0 A0_1 l0_1.length c0_1 A0_2 l0_2.length c0_2 a0_3.toNat A0_4 l0_4.length c0_4 (clashF a0_3.toNat l0_4 R) hfc (clash_call b l p q y z hT g) (by omega) (clashF_len _ _ _)
  rw [show ((a0_3.toNat : Nat) : Int) = a0_3 from Int.toNat_of_nonneg I] at this; exact this
 ·rw [if_neg D] at h; obtain ⟨rfl, rfl⟩ := Prod.mk.inj (q_so h); have := clashesE w a0_0 A0_1 l0_1.length c0_1 A0_2 l0_2.length c0_2 a0_3 A0_4 l0_4.length c0_4 G D (fits_callI b l p q y z hT he)
  refine this.mono ?_
  rintro e w' ⟨rfl, hb⟩
  exact ⟨_, rfl, Kd.R_nil _ _ _ _ _, hb⟩
def alloc_Right.f (k : Nat) (a0_0 : ByteArray) (l0_1 : List (S83)) (l0_2 : List (S85)) (a0_3 : Int) (l0_4 : List (S69)) (l1 : List Int) (b : Int) : Option (Bool × Int) := (alloc_fits.f k a0_0 l0_1 l0_2 a0_3 l0_4).bind fun e => if e = 0 then (if (l1.length : Int) ≠ a0_3 ∨ b < 1 ∨ 13 < b then some (false, 6) else (liveR k a0_0 l0_1 l0_2 a0_3 l0_4).bind fun R => some (rightB l1 b (clashF a0_3.toNat l0_4 R) a0_3.toNat, 0)) else some (false, e)
theorem alloc_Right.calls (k : Nat) (a0_0 : ByteArray) (A0_1 : Option Addr) (c0_1 : Nat) (l0_1 : List (S83)) (A0_2 : Option Addr) (c0_2 : Nat) (l0_2 : List (S85)) (a0_3 : Int) (A0_4 : Option Addr) (c0_4 : Nat) (l0_4 : List (S69)) (D : Option Addr) (E : Nat) (l1 : List Int) (B : Int) (I : Bool) (J : Int) (w : World) (b : Kd.C k83 w A0_1 l0_1.length l0_1) (l : l0_1.length ≤ c0_1) (p : Kd.C k85 w A0_2 l0_2.length l0_2) (q : l0_2.length ≤ c0_2) (y : Kd.C k69 w A0_4 l0_4.length l0_4) (z : l0_4.length ≤ c0_4) (G : Kd.C (Kd.int .i64) w D l1.length l1) (N : l1.length ≤ E) (h : alloc_Right.f k a0_0 l0_1 l0_2 a0_3 l0_4 l1 B = some (I, J)) (hT : Tab w) :
  Calls Tryd.prog 9 #[.agg #[.string a0_0, .slice A0_1 l0_1.length c0_1, .slice A0_2 l0_2.length c0_2, .int .i64 a0_3, .slice A0_4 l0_4.length c0_4], .slice D l1.length E, .int .i64 B] w fun e w' => e = .returned (.tuple #[.bool I, .int .i64 J]) ∧ Below w.heap.size w w' := by
 unfold alloc_Right.f at h
 obtain ⟨L, he, h⟩ := Option.bind_eq_some_iff.1 h; by_cases F : L = 0
 ·rw [if_pos F] at h; subst F; by_cases hb : (l1.length : Int) ≠ a0_3 ∨ B < 1 ∨ 13 < B
  ·rw [if_pos hb] at h; obtain ⟨rfl, rfl⟩ := Prod.mk.inj (q_so h); have := rightA w a0_0 A0_1 l0_1.length c0_1 A0_2 l0_2.length c0_2 a0_3 A0_4 l0_4.length c0_4 D E l1 B (fits_callI b l p q y z hT he) hb
   exact this
  ·rw [if_neg hb] at h; obtain ⟨R, hR, h⟩ := Option.bind_eq_some_iff.1 h; have g := LiveG.of hR; have M := g.r0; have O := g.r1; obtain ⟨rfl, rfl⟩ := Prod.mk.inj (q_so h); have := rightC w a0_0 A0_1 l0_1.length c0_1 A0_2 l0_2.length c0_2 a0_3.toNat A0_4 l0_4.length c0_4 D E l1 B (clashF a0_3.toNat l0_4 R) (fits_call b l p q y z hT M he) (clash_call b l p q y z hT g) G (by omega) (by omega) (by omega) (by omega) (clashF_len _ _ _)
   rw [show ((a0_3.toNat : Nat) : Int) = a0_3 from Int.toNat_of_nonneg M] at this; exact this
 ·rw [if_neg F] at h; obtain ⟨rfl, rfl⟩ := Prod.mk.inj (q_so h); have := rightE w a0_0 A0_1 l0_1.length c0_1 A0_2 l0_2.length c0_2 a0_3 A0_4 l0_4.length c0_4 D l1.length E B L F (fits_callI b l p q y z hT he)
  exact this
def asgR (b : Int) (a0_3 : Int) (l0_4 : List (S69)) (R : List Nat) : List Int × Int := match assignF b.toNat a0_3.toNat (clashF a0_3.toNat l0_4 R) (listOf (occF l0_4) a0_3.toNat) (List.replicate a0_3.toNat 0) 0 with | some r => (r, 0) | none => ([], 5)
def alloc_Assign.f (k : Nat) (a0_0 : ByteArray) (l0_1 : List (S83)) (l0_2 : List (S85)) (a0_3 : Int) (l0_4 : List (S69)) (b : Int) : Option (List Int × Int) := (alloc_fits.f k a0_0 l0_1 l0_2 a0_3 l0_4).bind fun e => if e = 0 then (if b < 1 ∨ 13 < b then some ([], 6) else (liveR k a0_0 l0_1 l0_2 a0_3 l0_4).bind fun R => some (asgR b a0_3 l0_4 R)) else some (([] : List Int), e)
theorem alloc_Assign.calls (k : Nat) (a0_0 : ByteArray) (A0_1 : Option Addr) (c0_1 : Nat) (l0_1 : List (S83)) (A0_2 : Option Addr) (c0_2 : Nat) (l0_2 : List (S85)) (a0_3 : Int) (A0_4 : Option Addr) (c0_4 : Nat) (l0_4 : List (S69)) (B : Int) (F : List Int) (G : Int) (w : World) (b : Kd.C k83 w A0_1 l0_1.length l0_1) (l : l0_1.length ≤ c0_1) (p : Kd.C k85 w A0_2 l0_2.length l0_2) (q : l0_2.length ≤ c0_2) (y : Kd.C k69 w A0_4 l0_4.length l0_4) (z : l0_4.length ≤ c0_4) (h : alloc_Assign.f k a0_0 l0_1 l0_2 a0_3 l0_4 B = some (F, G)) (hT : Tab w) :
  Calls Tryd.prog 12 #[.agg #[.string a0_0, .slice A0_1 l0_1.length c0_1, .slice A0_2 l0_2.length c0_2, .int .i64 a0_3, .slice A0_4 l0_4.length c0_4], .int .i64 B] w fun e w' => ∃ D : Value, e = .returned (.tuple #[D, .int .i64 G]) ∧ Kd.R (Kd.int .i64) 3 w' w.heap.size (fun _ => True) D F ∧ Below w.heap.size w w' := by
 unfold alloc_Assign.f at h
 obtain ⟨I, he, h⟩ := Option.bind_eq_some_iff.1 h; by_cases E : I = 0
 {
 rw [if_pos E] at h; subst E; by_cases hb : B < 1 ∨ 13 < B
 {
 rw [if_pos hb] at h; obtain ⟨rfl, rfl⟩ := Prod.mk.inj (q_so h); have := assignA w a0_0 A0_1 l0_1.length c0_1 A0_2 l0_2.length c0_2 a0_3 A0_4 l0_4.length c0_4 B (fits_callI b l p q y z hT he) hb
 refine this.mono ?_
 rintro e w' ⟨rfl, hb⟩
 exact ⟨_, rfl, Kd.R_nil _ _ _ _ _, hb⟩}
 {
 rw [if_neg hb] at h; obtain ⟨R, hR, h⟩ := Option.bind_eq_some_iff.1 h; have g := LiveG.of hR; have J := g.r0; have L := g.r1; have h := q_so h; have := assignC w a0_0 A0_1 l0_1.length c0_1 A0_2 l0_2.length c0_2 a0_3.toNat A0_4 l0_4.length c0_4 B.toNat (clashF a0_3.toNat l0_4 R) (occF l0_4) _ (fits_call b l p q y z hT J he) (clash_call b l p q y z hT g) (occur_call b l p q y z g) (by omega) (by omega) (by omega) (clashF_len _ _ _) rfl
 rw [show ((a0_3.toNat : Nat) : Int) = a0_3 from Int.toNat_of_nonneg J, show ((B.toNat : Nat) : Int) = B from Int.toNat_of_nonneg (by omega)] at this
 refine this.mono ?_
 intro e w' hp
 unfold asgR at h
 unfold AssignPost at hp
 split at hp
 {
 rename_i r hr
 rw [hr] at h; obtain ⟨rfl, rfl⟩ := Prod.mk.inj h; exact hp}
 {
 rename_i hr
 rw [hr] at h; obtain ⟨rfl, rfl⟩ := Prod.mk.inj h; obtain ⟨rfl, hb⟩ := hp; exact ⟨_, rfl, Kd.R_nil _ _ _ _ _, hb⟩}}}
 {
 rw [if_neg E] at h; obtain ⟨rfl, rfl⟩ := Prod.mk.inj (q_so h); have := assignE w a0_0 A0_1 l0_1.length c0_1 A0_2 l0_2.length c0_2 a0_3 A0_4 l0_4.length c0_4 B I E (fits_callI b l p q y z hT he)
 refine this.mono ?_
 rintro e w' ⟨rfl, hb⟩
 exact ⟨_, rfl, Kd.R_nil _ _ _ _ _, hb⟩}
end Go.Proofs.YtefhpdcafdhcaaaDoor.S
end
section
namespace Go.Proofs.YtefhpdcafdhcaaaDoor.M
open Go Go.RowKit Go.Proofs.YtefhpdcafdhcaaaDoorW.PrintWords Go.Proofs.YtefhpdcafdhcaaaDoorW.PrintLast Go.Proofs.YtefhpdcafdhcaaaDoorW.PrintMore Go.Proofs.YtefhpdcafdhcaaaDoor Go.Proofs.YtefhpdcafdhcaaaDoor.A Go.Proofs.YtefhpdcafdhcaaaDoor.B Go.Proofs.YtefhpdcafdhcaaaDoor.N Go.Proofs.YtefhpdcafdhcaaaDoor.V
open FlowM (next hasD hasA hasB Fine FineNd FineG Live liveF)
open Go.Proofs.YtefhpdcafdhcaaaDoor.S (liveR allocOK)
section
variable (nm : ByteArray) {ps : List S83} {ar : List S85} (rg : Int) {N : List S69}
def phiN (l : List S71) : Nat := l.countP fun y => y.f0 == 11
def phiG (l : List S69) : Nat := (l.map fun n => phiN n.f0).sum
theorem phi0_ev (hN : N.length ≤ 400) (hl : ∀ n ∈ N, n.f0.length ≤ 400) : ∀ (rest : List S69) (i : Nat), N.drop i = rest → ∀ c : Nat, c + 400 * rest.length < 900000 → ∃ r, Evt (fun k => r6_Phis.l0 k (c : Int) (i : Int) nm ps ar rg N) r ∧ r = ((c + phiG rest : Nat) : Int)
 | [], i, hd, c, hc => by {
 have := drop_nil_ge hd
 refine ⟨(c : Int), ?_, by simp [phiG]⟩
 refine Evt.succ ?_
 simp only [r6_Phis.l0]
 exact Evt.neg (by omega) (Evt.const _)}
 | n :: rest, i, hd, c, hc => by {
 obtain ⟨hr, hi, b⟩ := rd69_drop hd; have hm : n ∈ N := by rw [← List.take_append_drop i N, hd]; simp
 have hln := hl n hm; simp only [List.length_cons] at hc
 refine ⟨_, ?_, rfl⟩
 refine Evt.succ ?_
 simp only [r6_Phis.l0]
 refine Evt.pos (by omega) ?_
 have key : ∀ (xs : List S71) (q : Nat), n.f0.drop q = xs → ∀ c : Nat, c + xs.length + 400 * rest.length < 900000 → Evt (fun k => r6_Phis.l1 k (c : Int) (i : Int) (q : Int) nm ps ar rg N) ((c + phiN xs + phiG rest : Nat) : Int) := by {
 intro xs
 induction xs with
 | nil => (
 intro q hd c hc
 have := drop_nil_ge hd
 obtain ⟨r, h1, p⟩ := phi0_ev hN hl rest (i + 1) b c (by simpa using hc)
 refine Evt.succ ?_
 simp only [r6_Phis.l1]
 refine Evt.pos (by omega) (Evt.pos (by omega) ?_)
 rw [hr, wrap_succ i (by omega)]
 refine Evt.neg (by omega) ?_
 rw [show c + phiN [] + phiG rest = c + phiG rest by simp [phiN], ← p]
 exact h1)
 | cons y xs ih => (
 intro q hd c hc
 obtain ⟨hry, hq, b⟩ := rd71_drop hd; simp only [List.length_cons] at hc
 refine Evt.succ ?_
 simp only [r6_Phis.l1]
 refine Evt.pos (by omega) (Evt.pos (by omega) ?_)
 rw [hr]; refine Evt.pos (by omega) (Evt.pos (by omega) ?_)
 rw [hry, wrap_succ q (by omega), wrap_succ c (by omega)]
 by_cases l : y.f0 = 11
 {
 have := ih (q + 1) b (c + 1) (by omega)
 rw [show c + phiN (y :: xs) + phiG rest = c + 1 + phiN xs + phiG rest by simp [phiN, l]; omega]
 exact Evt.pos l this}
 {
 have := ih (q + 1) b c (by omega)
 rw [show c + phiN (y :: xs) + phiG rest = c + phiN xs + phiG rest by simp [phiN, l]]
 exact Evt.neg l this})}
 have := key n.f0 0 rfl c (by omega)
 rw [show c + phiG (n :: rest) = c + phiN n.f0 + phiG rest by simp [phiG]; omega]
 exact this}
theorem sum_mem_le : ∀ {l : List Nat} {x : Nat}, x ∈ l → x ≤ l.sum
 | y :: l, x, h => by
  rw [List.sum_cons]; rcases List.mem_cons.1 h with rfl | h
  ·omega
  ·have := sum_mem_le h; omega
theorem phiG_pos {N : List S69} : 0 < phiG N ↔ ∃ n ∈ N, ∃ y ∈ n.f0, y.f0 = 11 := by
 unfold phiG
 constructor
 {
 intro h
 apply Classical.byContradiction
 intro hn
 have : (N.map fun n => phiN n.f0).sum = 0 := by {
 rw [List.sum_eq_zero_iff_forall_eq_nat]; intro x hx
 obtain ⟨n, l, rfl⟩ := List.mem_map.1 hx; exact List.countP_eq_zero.2 fun y hy b => hn ⟨n, l, y, hy, beq_iff_eq.1 b⟩}
 omega}
 {
 rintro ⟨n, hn, y, hy, b⟩
 have h1 : 0 < phiN n.f0 := List.countP_pos_iff.2 ⟨y, hy, beq_iff_eq.2 b⟩
 have p : phiN n.f0 ≤ (N.map fun n => phiN n.f0).sum := sum_mem_le (List.mem_map_of_mem hn)
 omega}
def phiFirst (n : S69) : Bool := match n.f0 with
 | [] => false
 | y :: _ => y.f0 == 11
theorem fits0_ev (hN : N.length ≤ 400) : ∀ (rest : List S69) (i : Nat), N.drop i = rest → Evt (fun k => alloc_fits.l0 k N (N.length : Int) (i : Int)) (if rest.any phiFirst = true then 6 else 0)
 | [], i, hd => by {
 have := drop_nil_ge hd
 refine Evt.succ ?_
 simp only [alloc_fits.l0]
 exact Evt.neg (by omega) (Evt.const _)}
 | n :: rest, i, hd => by {
 obtain ⟨hr, hi, l⟩ := rd69_drop hd; have ih := fits0_ev hN rest (i + 1) l; refine Evt.succ ?_
 simp only [alloc_fits.l0]
 refine Evt.pos (by omega) (Evt.pos (by omega) (Evt.pos (by omega) ?_))
 rw [hr, wrap_succ i (by omega), List.any_cons]
 cases hf : n.f0 with
 | nil => (
 rw [show phiFirst n = false by unfold phiFirst; rw [hf], Bool.false_or]
 exact Evt.neg (by simp) ih)
 | cons y ys => (
 rw [show phiFirst n = (y.f0 == 11) by unfold phiFirst; rw [hf]]
 refine Evt.pos (by simp only [List.length_cons]; omega) (Evt.pos (by simp only [List.length_cons]; omega) ?_)
 rw [show rd_T71 (y :: ys) 0 = y from rfl]; by_cases b : y.f0 = 11
 ·rw [beq_iff_eq.2 b, Bool.true_or, if_pos rfl]; exact Evt.pos b (Evt.const _)
 ·rw [beq_eq_false_iff_ne.2 b, Bool.false_or]; exact Evt.neg b ih)}
theorem err_ev (hs : Small nm ps ar N) (hI : Ints N) : ∃ e : Int, Evt (fun k => r11_Error.f k nm ps ar rg N) e ∧ Evt (fun k => alloc_fits.f k nm ps ar rg N) e ∧ (e = 0 → VF nm ps ar rg N ∧ Evt (fun k => flow_Valid.f k nm ps ar rg N) true ∧ ∀ n ∈ N, ∀ y ∈ n.f0, y.f0 ≠ 11) := by
 obtain ⟨b, hR, hF, hV⟩ := valid_ev nm rg hs hI; have hsum := hs.sum; cases b with
 | false => (
 refine ⟨1, ?_, ?_, fun h => by cases h⟩
 {
 unfold r11_Error.f
 exact Evt.bind hR (Evt.neg (by simp) (Evt.const _))}
 {
 unfold alloc_fits.f
 exact Evt.bind hF (Evt.neg (by simp) (Evt.const _))})
 | true => (
 have v := hV rfl; have hl : ∀ n ∈ N, n.f0.length ≤ 400 := fun n hn => by {
 have : n.f0.length + wArgs n.f0 ≤ wNds N := sum_mem_le (List.mem_map_of_mem hn)
 omega}
 obtain ⟨r, h1, q⟩ := phi0_ev nm rg (ps := ps) (ar := ar) (by omega) hl N 0 rfl 0 (by omega)
 have hany : (N.any phiFirst = true) ↔ 0 < phiG N := by {
 rw [phiG_pos, List.any_eq_true]; constructor
 {
 rintro ⟨n, hn, hp⟩
 unfold phiFirst at hp
 split at hp
 ·cases hp
 ·rename_i y ys hf; exact ⟨n, hn, y, by rw [hf]; exact List.mem_cons_self, beq_iff_eq.1 hp⟩}
 {
 rintro ⟨n, hn, y, hy, p⟩
 obtain ⟨x, l, hf, hx⟩ := v.first n hn ⟨y, hy, p⟩
 exact ⟨n, hn, by unfold phiFirst; rw [hf]; exact beq_iff_eq.2 hx⟩}}
 have hfit := fits0_ev (N := N) (by omega) N 0 rfl
 refine ⟨if N.any phiFirst = true then 6 else 0, ?_, ?_, fun h => ⟨v, hF, fun n hn y hy p => ?_⟩⟩
 {
 unfold r11_Error.f
 refine Evt.bind hR (Evt.pos rfl ?_)
 unfold r6_Phis.f
 refine Evt.bind h1 ?_
 rw [q]; by_cases hp : N.any phiFirst = true
 ·rw [if_pos hp]; exact Evt.pos (by have := hany.1 hp; omega) (Evt.const _)
 ·rw [if_neg hp]; exact Evt.neg (by have z : ¬ 0 < phiG N := fun h => hp (hany.2 h); omega) (Evt.const _)}
 {
 unfold alloc_fits.f
 exact Evt.bind hF (Evt.pos rfl hfit)}
 {
 have : N.any phiFirst = true := hany.2 (phiG_pos.2 ⟨n, hn, y, hy, p⟩)
 rw [if_pos this] at h; cases h})
theorem succ0_ev (hN : N.length ≤ 400) : ∀ (rest : List S69) (i : Nat), N.drop i = rest → ∀ out : List (List Int), out.length = i → Evt (fun k => flow_Successors.l0 k out N (N.length : Int) (i : Int)) (out ++ rest.map next, 0)
 | [], i, hd, out, _ => by {
 have := drop_nil_ge hd
 refine Evt.succ ?_
 simp only [flow_Successors.l0]
 refine Evt.neg (by omega) ?_
 rw [List.map_nil, List.append_nil]; exact Evt.const _}
 | n :: rest, i, hd, out, ho => by {
 obtain ⟨hr, hi, b⟩ := rd69_drop hd; refine Evt.succ ?_
 simp only [flow_Successors.l0]
 refine Evt.pos (by omega) (Evt.pos (by omega) (Evt.pos (by omega) ?_))
 rw [hr, fnext_r, wrap_succ i (by omega)]
 simp only [Option.bind_some]
 refine Evt.pos (by omega) ?_
 have := succ0_ev hN rest (i + 1) b (out ++ [next n]) (by simp; omega)
 rw [List.append_assoc] at this; exact this}
theorem succ_ev (hN : N.length ≤ 400) (hV : Evt (fun k => flow_Valid.f k nm ps ar rg N) true) : Evt (fun k => flow_Successors.f k nm ps ar rg N) (N.map next, 0) := by
 unfold flow_Successors.f
 refine Evt.bind hV (Evt.pos rfl ?_)
 exact succ0_ev hN N 0 rfl [] rfl
theorem live_ev (hs : Small nm ps ar N) (v : VF nm ps ar rg N) (hV : Evt (fun k => flow_Valid.f k nm ps ar rg N) true) : ∃ R, Evt (fun k => liveR k nm ps ar rg N) R ∧ R.length = N.length ∧ (∀ s ∈ R, s < 2 ^ rg.toNat) ∧ ∀ i, i < N.length → ∀ r : Nat, ((R.getD i 0).testBit r = true ↔ Live N (r : Int) i) := by
 have hsum := hs.sum; obtain ⟨K, R, h1, p, q, y⟩ := FlowM.liveF_live v.fine; refine ⟨R, ?_, p, q, y⟩
 have hl : ∀ n ∈ N, n.f0.length ≤ 1000000 := fun n hn => by
  have : n.f0.length + wArgs n.f0 ≤ wNds N := sum_mem_le (List.mem_map_of_mem hn)
  omega
 have hv := v.r0; have b := v.r1; have l := v.n0; unfold liveR
 refine Evt.pos ⟨⟨hv, b⟩, ⟨l, by omega⟩, hl, v.fine⟩ (Evt.bind (succ_ev nm rg (by omega) hV) (Evt.pos rfl ?_))
 exact Evt.of_mono (f := fun k => liveF N k (List.replicate N.length 0)) (fun k r h => FlowM.liveF_mono h) h1
end
end Go.Proofs.YtefhpdcafdhcaaaDoor.M
end
section
namespace Go.Proofs.YtefhpdcafdhcaaaDoor.S
open Go Go.RowKit Go.Proofs Go.Proofs.YtefhpdcafdhcaaaDoorW.PrintWords Go.Proofs.YtefhpdcafdhcaaaDoorW.PrintLast Go.Proofs.YtefhpdcafdhcaaaDoorW.PrintMore Go.Proofs.YtefhpdcafdhcaaaDoor Go.Proofs.YtefhpdcafdhcaaaDoor.A Go.Proofs.YtefhpdcafdhcaaaDoor.V Go.Proofs.YtefhpdcafdhcaaaDoor.B FlowM
attribute [local go_sem] max2_int max_two
set_option linter.unusedVariables false
set_option linter.unusedSimpArgs false
def rd_P (xs : List (Int × Int)) (i : Int) : Int × Int := xs.getD i.toNat (0, 0)
theorem at_P54 {w : World} {A : Option Addr} {n : Nat} {xs : List (Int × Int)} (h : Kd.C k54 w A n xs) (i : Int) (z : 0 ≤ i) (h1 : i < n) : ∃ ad , A = some ad ∧ w.cell? (ad.add (i.toNat * 2)) = some (.int .i64 (rd_P xs i).1) ∧ w.cell? ⟨(ad.add (i.toNat * 2)).block, (ad.add (i.toNat * 2)).off + 1, none⟩ = some (.int .i64 (rd_P xs i).2) := by
 obtain ⟨ad, c, e, _, hK, b⟩ := Kd.C_get h ((0, 0) : Int × Int) i z h1; have hc : ∀ j u, c[j]? = some u → w.cell? (ad.add (i.toNat * 2 + j)) = some u := b
 obtain rfl := k54_open hK; exact ⟨ad, e, hc 0 _ rfl, by rw [← add_field _ _ 1 (by omega)]; exact hc 1 _ rfl⟩
theorem b_P54 {w W : World} {A : Option Addr} {n : Nat} {xs : List (Int × Int)} (h : Kd.C k54 w A n xs) (hB : Below w.heap.size w W) (i : Int) (p : 0 ≤ i := by exact q_d) (q : i < n := by exact q_d) : ∃ ad, A = some ad ∧ W.cell? (ad.add (i.toNat * 2)) = some (.int .i64 (rd_P xs i).1) ∧ W.cell? ⟨(ad.add (i.toNat * 2)).block, (ad.add (i.toNat * 2)).off + 1, none⟩ = some (.int .i64 (rd_P xs i).2) ∧ (0 ≤ i) = True ∧ (i < n) = True := by
 obtain ⟨ad, e_, l, y⟩ := at_P54 h i p q; exact ⟨ad, e_, q_kc hB l, q_kc hB y, eq_true p, eq_true q⟩
def pairV (p : Int × Int) : Value := .agg #[.int .i64 p.1, .int .i64 p.2]
theorem run_equalIn_u (W : World) (d : Nat) (a b : Int) : (Op.equalIn (d + 1) 3 (.int .i64 a) (.int .i64 b)).run Tryd.prog W = .ok (a == b) W := run_equalIn_int W d 3 .i64 .i64 _ _ Tryd.underlying3
theorem run_partP (W : World) (p : Int × Int) : (part 3 #[.int .i64 p.1, .int .i64 p.2] 0).run Tryd.prog W = .ok (.int .i64 p.1) W ∧ (part 3 #[.int .i64 p.1, .int .i64 p.2] 1).run Tryd.prog W = .ok (.int .i64 p.2) W := by
 constructor <;> simp [part, isAgg, Sem.run_bind, run_underlying Tryd.underlying3]
theorem run_sameP (W : World) (d : Nat) (p q : Int × Int) : (Op.equalIn (d + 2) 54 (pairV p) (pairV q)).run Tryd.prog W = .ok (decide (p = q)) W := by
 have z : (Tryd.prog.info? 3).map (·.size) = some 1 := by kernel_rfl
 cases hq : Tryd.prog.info? 3 with
 | none => simp [hq] at z
 | some f => (
 have hs : f.size = 1 := by simpa [hq] using z
 rw [show d + 2 = (d + 1) + 1 from rfl, Op.equalIn]; simp only [pairV, Sem.run_bind, run_underlying Tryd.underlying54, Result.andThen_ok, sizeOf, typeInfo]
 simp [hq, hs]
 rw [show List.range' 0 2 = [0, 1] from rfl, List.forIn_cons]
 simp only [Sem.run_bind, (run_partP W p).1, (run_partP W q).1, Result.andThen_ok, run_equalIn_u]
 by_cases h1 : p.1 = q.1
 {
 have l : (p.1 == q.1) = true := beq_iff_eq.2 h1
 simp only [l, Bool.true_eq_false, if_false, Sem.run_pure, Result.andThen_ok]
 rw [List.forIn_cons]; simp only [Sem.run_bind, (run_partP W p).2, (run_partP W q).2, Result.andThen_ok, run_equalIn_u]
 by_cases b : p.2 = q.2
 {
 have y : (p.2 == q.2) = true := beq_iff_eq.2 b
 simp only [y, Bool.true_eq_false, if_false, Sem.run_pure, Result.andThen_ok, List.forIn_nil]
 rw [decide_eq_true (show p = q from Prod.ext h1 b)]}
 {
 have y : (p.2 == q.2) = false := beq_eq_false_iff_ne.2 b
 simp only [y, if_true, Sem.run_pure, Result.andThen_ok]
 rw [decide_eq_false (fun e => b (by rw [e]))]}}
 {
 have l : (p.1 == q.1) = false := beq_eq_false_iff_ne.2 h1
 simp only [l, if_true, Sem.run_pure, Result.andThen_ok]
 rw [decide_eq_false (fun e => h1 (by rw [e]))]})
theorem run_eqP {o : Oper} {a : Act} {x y : Operand} {p q : Int × Int} (ho : o.op = .binOp .eql 54 x y 54) (hx : a.eval x = pairV p) (hy : a.eval y = pairV q) (W : World) :
  (execOp a.eval o).run Tryd.prog W = .ok (.value (.bool (decide (p = q)))) W := by
 have b : (Op.equal 54 (pairV p) (pairV q)).run Tryd.prog W = .ok (decide (p = q)) W := run_sameP W 9998 p q
 unfold execOp
 simp only [ho, hx, hy, Sem.run_bind]
 unfold pairV at b ⊢
 rw [run_eqGuard_agg W .eql 54 x y _ _ (by kernel_rfl)]
 simp only [Result.andThen_ok, binOp, Sem.run_bind, b, Sem.run_pure]
theorem run_loadP {W : World} {o : Oper} {a : Act} {x : Operand} {ad : Addr} {p : Int × Int} (hp : ad.spot = none) (ho : o.op = .load 54 x) (hx : a.eval x = .pointer (some ad)) (h1 : W.cell? ad = some (.int .i64 p.1)) (l : W.cell? ⟨ad.block, ad.off + 1, none⟩ = some (.int .i64 p.2)) :
  (execOp a.eval o).run Tryd.prog W = .ok (.value (pairV p)) W := by
 have hsz : (Tryd.prog.info? 54).map (·.size) = some 2 := by kernel_rfl
 obtain ⟨b, off, sp⟩ := ad; obtain rfl : sp = none := hp; have hr : W.rangeAt b off [.int .i64 p.1, .int .i64 p.2] := by {
 intro j v hv
 match j, hv with
 | 0, hv => cases hv; exact h1
 | 1, hv => cases hv; exact l}
 unfold execOp
 simp only [ho, hx, Sem.run_bind, run_loadAt_mid W b off 54 [.int .i64 p.1, .int .i64 p.2] (.array 2 3) hr Tryd.underlying54 rfl hsz, Result.andThen_ok]
 rfl
def sN : List S69 := [(⟨([(⟨0, 0, 0, 0, 0, 1, ([] : List Int)⟩ : S71), (⟨0, 0, 1, 0, 0, 2, ([] : List Int)⟩ : S71), (⟨3, 0, 2, 0, 1, 0, ([] : List Int)⟩ : S71), (⟨7, 0, 0, 2, 2, 0, ([] : List Int)⟩ : S71)] : List (S71)), 2, 0, 0, 0⟩ : S69)]
def sP : List S83 := [(⟨(⟨#[97]⟩ : ByteArray), true⟩ : S83)]
def sK : ByteArray := ⟨#[107]⟩
def sA : List S85 := []
def sQ1 : List Int := [0, 1, 0]
def sQ2 : List Int := [0, 0, 0]
theorem aw1 : alloc_Clashes.f 20 sK sP sA 3 sN = some ([(0, 1)], 0) := by decide +kernel
theorem aw2 : alloc_Assign.f 20 sK sP sA 3 sN 2 = some ([0, 1, 0], 0) := by decide +kernel
theorem aw3 : alloc_Right.f 20 sK sP sA 3 sN sQ1 2 = some (true, 0) := by decide +kernel
theorem aw4 : alloc_Right.f 20 sK sP sA 3 sN sQ2 2 = some (false, 0) := by decide +kernel
theorem sumsC {w : World} : Calls Tryd.prog 28 #[] w fun e w' => ∃ (b : Option Addr) (l : Nat) (p : Option Addr) (c2 : Nat) (q : Option Addr) (y : Nat), e = .returned (.agg #[.string sK, .slice b sP.length l, .slice p sA.length c2, .int .i64 3, .slice q sN.length y]) ∧ (Kd.C k83 w' b sP.length sP ∧ sP.length ≤ l) ∧ (Kd.C k85 w' p sA.length sA ∧ sA.length ≤ c2) ∧ (Kd.C k69 w' q sN.length sN ∧ sN.length ≤ y) ∧ Below w.heap.size w w' := by
 refine (l11_sums.calls sK sP sA 3 sN w rfl).mono ?_
 rintro e w' ⟨D, E, F, rfl, h1, z, B, hb⟩
 obtain ⟨b, l, rfl⟩ := Kd.R_slice h1; obtain ⟨p, c2, rfl⟩ := Kd.R_slice z; obtain ⟨q, y, rfl⟩ := Kd.N_slice B; exact ⟨b, l, p, c2, q, y, rfl, ⟨(Kd.R_reads' h1).2.2, (Kd.R_reads' h1).2.1⟩, ⟨(Kd.R_reads' z).2.2, (Kd.R_reads' z).2.1⟩, ⟨(Kd.N_reads' B).2.2, (Kd.N_reads' B).2.1⟩, hb⟩
def aw.T5 : Bool × List (List Nat × List Nat) := (true, [([], []), ([0], [0]), ([1], [1]), ([2], [2]), ([3, 2], [2, 3]), ([2, 4], [2, 4]), ([5, 2], [5]), ([6], [6]), ([7, 6], [6, 7]), ([6, 8], [6, 8]), ([9, 6], [9]), ([10], [10]), ([11, 10], [10, 11]), ([10, 12], [10, 12]), ([13, 10], [13]), ([14], [14]), ([15, 14], [14, 15]), ([16, 14], [14, 16]), ([14, 17], [14, 17]), ([18, 14], [18]), ([19], [19]), ([20, 19], [19, 20]), ([21, 19], [19, 21]), ([19], [19]), ([22, 23, 19], [19, 22, 23]), ([19, 24], [19, 24]), ([25, 19], [25]), ([26], [26]), ([27, 26], [26, 27]), ([28, 26], [26, 28]), ([26, 29], [26, 29]), ([30, 26], [30]), ([31], [31]), ([32, 31], [31, 32]), ([33, 31], [31, 33]), ([31], [31]), ([35, 31], [31, 35]), ([36, 31], [31, 36]), ([34, 37, 31], [31, 34, 37]), ([31, 38], [31, 38]), ([39, 31], [39]), ([40], [40]), ([40, 41], [40, 41]), ([42, 40], [42]), ([43], [43]), ([44, 43], [43, 44]), ([43, 45], [43, 45]), ([46, 43, 0, 1, 2, 3, 4, 5, 6, 7, 8, 9, 10, 11, 12, 13, 14, 15, 16, 17, 18, 19, 20, 21, 22, 23, 24, 25, 26, 27, 28, 29, 30, 31, 32, 33, 34, 35, 36, 37, 38, 39, 40, 41, 42, 43, 44, 45, 46], [46])])
def aw.B5 : List Nat := [0, 1, 3, 7, 15, 31, 63, 127, 255, 511, 1023, 2047, 4095, 8191, 16383, 32767, 65535, 131071, 262143, 524287, 1048575, 2097151, 4194303, 1048575, 16777215, 33554431, 67108863, 134217727, 268435455, 536870911, 1073741823, 2147483647, 4294967295, 8589934591, 17179869183, 4294967295, 38654705663, 107374182399, 274877906943, 549755813887, 1099511627775, 2199023255551, 4398046511103, 8796093022207, 17592186044415, 35184372088831, 70368744177663, 140737488355327]
theorem aw.tab5 : rtab .any (opsOf Tryd.f8 5) = aw.T5 := by kernel_rfl
theorem aw.bits5 : waitsOk aw.T5.2 aw.B5 = true := by kernel_rfl
theorem awakeC (w : World) (hT : Tab w) : Calls Tryd.prog 8 #[] w fun e w' => e = .returned (.bool true) ∧ Below w.heap.size w w' := by
 have HT := a_ hT; clear hT; have l := a_ (Below.refl w.heap.size w); go_enter Tryd.func8, Tryd.ntmps8
 go_wp2_with (first | (go_at_call 28; (with_reducible refine (sumsC).mono ?_); rintro e wS ⟨F, G, I, c2, J, L, rfl, h1, E, V, hb⟩; have B := a_ h1; have C := a_ E; have D := a_ V; replace l := a_ (below_then l.out l.out.size hb); (try (replace HL := a_ (Kd.R_below HL.out hb))); (try (replace HP := a_ (Kd.R_below HP.out hb))); clear h1 E V hb) | (go_at_call 18; (with_reducible refine (alloc_Clashes.calls 20 sK F G sP I c2 sA 3 J L sN [(0, 1)] 0 _ B.out.1 B.out.2 C.out.1 C.out.2 D.out.1 D.out.2 aw1 (HT.out.below l.out)).mono ?_); rintro e wC ⟨v0, rfl, hl, hb⟩; obtain ⟨gl, cl, rfl, _, _, _⟩ := Kd.R_form hl (by decide); have HL := a_ hl; replace l := a_ (below_then l.out l.out.size hb); clear hl hb) | (go_at_call 12; (with_reducible refine (alloc_Assign.calls 20 sK F G sP I c2 sA 3 J L sN 2 [0, 1, 0] 0 _ B.out.1 B.out.2 C.out.1 C.out.2 D.out.1 D.out.2 aw2 (HT.out.below l.out)).mono ?_); rintro e wC ⟨v0, rfl, hl, hb⟩; obtain ⟨gp, cp, rfl, _, _, _⟩ := Kd.R_form hl (by decide); have HP := a_ hl; replace l := a_ (below_then l.out l.out.size hb); (try (replace HL := a_ (Kd.R_below HL.out hb))); clear hl hb) | (go_at_call 9; (with_reducible refine (alloc_Right.calls 20 sK F G sP I c2 sA 3 J L sN (some ⟨gr, 0, none⟩) cr sQ1 2 true 0 _ (Kd.C_below B.out.1 HBL.out) B.out.2 (Kd.C_below C.out.1 HBL.out) C.out.2 (Kd.C_below D.out.1 HBL.out) D.out.2 HX.out HXC.out aw3 (HT.out.below l.out)).mono ?_); rintro e wC ⟨rfl, hb⟩; replace l := a_ (below_then l.out l.out.size hb); (try (replace HL := a_ (Kd.R_below HL.out hb))); (try (replace HP := a_ (Kd.R_below HP.out hb))); clear hb) | ((with_reducible refine gd_ 21 rfl ?_); refine Kd.R_lit (Kd.int .i64) _ 3 ?hg (N := 21) ?hd (xs := (sQ1 : List Int)) (inner := [.int .i64 0, .int .i64 1, .int .i64 0]) (ok := fun _ => True) (okp := fun _ => True) ?hr ?hp (fun _ hk => hk) trivial (Below.refl _ _) (Nat.le_refl _) (by decide) ?_; (case hd => rfl); (case hg => rfl); (case hr => first | (go_simp; done) | (go_simp; rfl)); (case hp => exact (Reps.one (show Kd.M (Kd.int .i64) _ _ _ 0 [.int .i64 0] from rfl) (Reps.one (show Kd.M (Kd.int .i64) _ _ _ 1 [.int .i64 1] from rfl) (Reps.one (show Kd.M (Kd.int .i64) _ _ _ 0 [.int .i64 0] from rfl) (Reps.none _ _))))); intro v1 wL hl hb _ _; obtain ⟨gr, cr, rfl, _, _, _⟩ := Kd.R_form hl (by decide); have HX := a_ ((Kd.R_reads' hl).2.2); have HXC := a_ ((Kd.R_reads' hl).2.1); have HBL := a_ hb; replace l := a_ (below_then l.out l.out.size hb); (try (replace HL := a_ (Kd.R_below HL.out hb))); (try (replace HP := a_ (Kd.R_below HP.out hb))); clear hl hb) | (go_at_call 9; (with_reducible refine (alloc_Right.calls 20 sK F G sP I c2 sA 3 J L sN (some ⟨gr, 0, none⟩) cr sQ2 2 false 0 _ (Kd.C_below B.out.1 HBL.out) B.out.2 (Kd.C_below C.out.1 HBL.out) C.out.2 (Kd.C_below D.out.1 HBL.out) D.out.2 HX.out HXC.out aw4 (HT.out.below l.out)).mono ?_); rintro e wC ⟨rfl, hb⟩; replace l := a_ (below_then l.out l.out.size hb); (try (replace HL := a_ (Kd.R_below HL.out hb))); (try (replace HP := a_ (Kd.R_below HP.out hb))); clear hb) | ((with_reducible refine gd_ 27 rfl ?_); refine Kd.R_lit (Kd.int .i64) _ 3 ?hg (N := 27) ?hd (xs := (sQ2 : List Int)) (inner := [.int .i64 0, .int .i64 0, .int .i64 0]) (ok := fun _ => True) (okp := fun _ => True) ?hr ?hp (fun _ hk => hk) trivial (Below.refl _ _) (Nat.le_refl _) (by decide) ?_; (case hd => rfl); (case hg => rfl); (case hr => first | (go_simp; done) | (go_simp; rfl)); (case hp => exact (Reps.one (show Kd.M (Kd.int .i64) _ _ _ 0 [.int .i64 0] from rfl) (Reps.one (show Kd.M (Kd.int .i64) _ _ _ 0 [.int .i64 0] from rfl) (Reps.one (show Kd.M (Kd.int .i64) _ _ _ 0 [.int .i64 0] from rfl) (Reps.none _ _))))); intro v1 wL hl hb _ _; obtain ⟨gr, cr, rfl, _, _, _⟩ := Kd.R_form hl (by decide); have HX := a_ ((Kd.R_reads' hl).2.2); have HXC := a_ ((Kd.R_reads' hl).2.1); have HBL := a_ hb; replace l := a_ (below_then l.out l.out.size hb); (try (replace HL := a_ (Kd.R_below HL.out hb))); (try (replace HP := a_ (Kd.R_below HP.out hb))); clear hl hb))
 obtain ⟨ad, e, h1, E⟩ := at_P54 (Kd.R_reads' HL.out).2.2 0 (by decide) (by decide)
 cases e; have O := h1; have R := E; have T := (Kd.R_celln 0 HP.out 0 (by decide) (by decide)).1
 have U := (Kd.R_celln 0 HP.out 1 (by decide) (by decide)).1
 clear h1 E; go_upto_region 5 with (fail)
 refine q_s 48 (S := fun W' => cg2 W' gl (.int .i64 0) (.int .i64 1) (cg2_ W' gp (.int .i64 0) (.int .i64 1))) ⟨O, R, T, U⟩ (fun y => ?_)
 refine with_tabW aw.tab5 aw.bits5 (fun b z => ?_)
 refine qv_ 0 b ?_
 refine qv_ 1 b ?_
 refine qv_ 2 b ?_
 refine qv_ 3 b ?_
 refine qv_ 4 b ?_
 refine qv_ 5 b ?_
 refine qv_ 6 b ?_
 refine qv_ 7 b ?_
 refine qv_ 8 b ?_
 refine qv_ 9 b ?_
 refine qv_ 10 b ?_
 refine qv_ 11 b ?_
 refine qv_ 12 b ?_
 refine qv_ 13 b ?_
 refine qv_ 14 b ?_
 refine qv_ 15 b ?_
 refine qv_ 16 b ?_
 refine qv_ 17 b ?_
 refine qv_ 18 b ?_
 refine qv_ 19 b ?_
 refine qv_ 20 b ?_
 refine qv_ 21 b ?_
 refine qv_ (v := pairV (0, 1)) 23 b ?_ (hy := by intro w'; go_simp; first | done | rfl)
 refine qt_ (v := pairV (0, 1)) 22 b z y ?_ (hy := by intro w' X; exact run_loadP rfl rfl rfl X.1 X.2.1)
 refine qv_ (v := .bool true) 24 b ?_ (hy := by intro w'; exact (run_eqP (p := (0, 1)) (q := (0, 1)) rfl rfl rfl w').trans rfl)
 refine qv_ 25 b ?_
 refine qv_ 26 b ?_
 refine qv_ 27 b ?_
 refine qv_ 28 b ?_
 refine qv_ 29 b ?_
 refine qv_ 30 b ?_
 refine qv_ 31 b ?_
 refine qv_ 32 b ?_
 refine qv_ 33 b ?_
 refine qv_ 35 b ?_
 refine qv_ 36 b ?_
 refine qt_ 34 b z y ?_
 refine qt_ 37 b z y ?_
 refine qv_ 38 b ?_
 refine qv_ 39 b ?_
 refine qv_ 40 b ?_
 refine qv_ 41 b ?_
 refine qv_ 42 b ?_
 refine qv_ 43 b ?_
 refine qv_ 44 b ?_
 refine qv_ 45 b ?_
 refine qv_ 46 b ?_
 refine qv_ 47 b ?_
 refine done_ (done_of b.out (by kernel_rfl)) ?_
 clear b z y; go_wp2
 (try simp only [Exit.inBlock, Exit.then])
 refine bodyPost_ret (results_tmp rfl _ _ _) rfl ?_
 exact ⟨rfl, below_drew1 l.out⟩
end Go.Proofs.YtefhpdcafdhcaaaDoor.S
end
section
namespace Go.Proofs.YtefhpdcafdhcaaaDoor.S
open Go Go.RowKit Go.Proofs Go.Proofs.YtefhpdcafdhcaaaDoorW.PrintWords Go.Proofs.YtefhpdcafdhcaaaDoorW.PrintLast Go.Proofs.YtefhpdcafdhcaaaDoorW.PrintMore Go.Proofs.YtefhpdcafdhcaaaDoor Go.Proofs.YtefhpdcafdhcaaaDoor.A FlowM
def l11_awake.f : Option Bool := some true
theorem l11_awake.calls {r : Bool} {w : World} (h : l11_awake.f = some r) (hT : Tab w) : Calls Tryd.prog 8 #[] w fun e w' => e = .returned (.bool r) ∧ Below w.heap.size w w' := by
 obtain rfl := q_so h; exact awakeC w hT
end Go.Proofs.YtefhpdcafdhcaaaDoor.S
end
