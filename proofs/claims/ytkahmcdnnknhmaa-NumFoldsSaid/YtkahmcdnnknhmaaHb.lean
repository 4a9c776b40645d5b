/- What num.Binary, num.Commutes, num.Text and num.UnaryText come to: a case for each operator. -/
import Derived.Test.YtkahmcdnnknhmaaHa
namespace Go.Proofs.Ytkahmcdnnknhmaa
open Go.RowKit Go.Proofs.YtkahmcdnnknhmaaW.PrintWords Go.Proofs.YtkahmcdnnknhmaaW.PrintLast Go.Proofs.YtkahmcdnnknhmaaW.PrintMore Go.Proofs.Ytkahmcdnnknhmaa.A

theorem rule_cell (w : World) (i : Nat) (v : Value) (h : ruleRow[i]? = some v) : (w.alloc (.cells ruleRow 42)).cell? ⟨w.heap.size, i, none⟩ = some v := by
  rw [World.cell?_alloc_at _ _ _ _ rfl]; exact h
theorem below_rule (w : World) : Below w.heap.size w (w.alloc (.cells ruleRow 42)) := below_alloc (Below.refl _ _) _

def num_Binary.f (op a b : Int) : Option (Int × Bool) := if op < 0 then some (0, false) else if op ≥ 20 then some (0, false) else if op = 0 then some (wrap32 (a + b), true) else if op = 1 then some (wrap32 (a - b), true)
  else if op = 2 then (num_rules_3.f a b).map fun r => (r, true)
  else if op = 3 then (num_div.f a b).map fun r => (r, true)
  else if op = 4 then (num_rem.f a b).map fun r => (r, true)
  else if op = 5 then (num_rules_4.f a b).map fun r => (r, true)
  else if op = 6 then (num_rules_5.f a b).map fun r => (r, true)
  else if op = 7 then (num_rules_6.f a b).map fun r => (r, true)
  else if op = 8 then (num_rules_7.f a b).map fun r => (r, true)
  else if op = 9 then (num_rules_8.f a b).map fun r => (r, true)
  else if op = 10 then (num_rules_9.f a b).map fun r => (r, true)
  else if op = 11 then (num_rules_10.f a b).map fun r => (r, true)
  else if op = 12 then (num_rules_11.f a b).map fun r => (r, true)
  else if op = 13 then (num_rules_12.f a b).map fun r => (r, true)
  else if op = 14 then (num_rules_13.f a b).map fun r => (r, true)
  else if op = 15 then (num_rules_14.f a b).map fun r => (r, true)
  else if op = 16 then (num_rules_15.f a b).map fun r => (r, true)
  else if op = 17 then (num_rules_16.f a b).map fun r => (r, true)
  else if op = 18 then (num_rules_17.f a b).map fun r => (r, true)
  else if op = 19 then (num_rules_18.f a b).map fun r => (r, true)
  else none
def num_Commutes.f (op : Int) : Option Bool := if op < 0 then some false else if op ≥ 20 then some false
  else if op = 0 then some true
  else if op = 1 then some false
  else if op = 2 then some true
  else if op = 3 then some false
  else if op = 4 then some false
  else if op = 5 then some true
  else if op = 6 then some true
  else if op = 7 then some true
  else if op = 8 then some false
  else if op = 9 then some false
  else if op = 10 then some false
  else if op = 11 then some false
  else if op = 12 then some false
  else if op = 13 then some true
  else if op = 14 then some true
  else if op = 15 then some false
  else if op = 16 then some true
  else if op = 17 then some true
  else if op = 18 then some true
  else if op = 19 then some true
  else none
def num_Text.f (op : Int) : Option ByteArray := if op < 0 then some (⟨#[]⟩ : ByteArray) else if op ≥ 20 then some (⟨#[]⟩ : ByteArray)
  else if op = 0 then some (⟨#[43]⟩ : ByteArray)
  else if op = 1 then some (⟨#[45]⟩ : ByteArray)
  else if op = 2 then some (⟨#[42]⟩ : ByteArray)
  else if op = 3 then some (⟨#[47]⟩ : ByteArray)
  else if op = 4 then some (⟨#[37]⟩ : ByteArray)
  else if op = 5 then some (⟨#[38]⟩ : ByteArray)
  else if op = 6 then some (⟨#[124]⟩ : ByteArray)
  else if op = 7 then some (⟨#[94]⟩ : ByteArray)
  else if op = 8 then some (⟨#[60, 60]⟩ : ByteArray)
  else if op = 9 then some (⟨#[62, 62]⟩ : ByteArray)
  else if op = 10 then some (⟨#[62, 62, 62]⟩ : ByteArray)
  else if op = 11 then some (⟨#[60]⟩ : ByteArray)
  else if op = 12 then some (⟨#[60, 61]⟩ : ByteArray)
  else if op = 13 then some (⟨#[61, 61]⟩ : ByteArray)
  else if op = 14 then some (⟨#[33, 61]⟩ : ByteArray)
  else if op = 15 then some (⟨#[60, 58]⟩ : ByteArray)
  else if op = 16 then some (⟨#[38, 38]⟩ : ByteArray)
  else if op = 17 then some (⟨#[124, 124]⟩ : ByteArray)
  else if op = 18 then some (⟨#[109, 105, 110]⟩ : ByteArray)
  else if op = 19 then some (⟨#[109, 97, 120]⟩ : ByteArray)
  else none
def num_UnaryText.f (op : Int) : Option ByteArray := if op < 0 then some (⟨#[]⟩ : ByteArray) else if op ≥ 3 then some (⟨#[]⟩ : ByteArray)
  else if op = 0 then some (⟨#[45]⟩ : ByteArray)
  else if op = 1 then some (⟨#[126]⟩ : ByteArray)
  else if op = 2 then some (⟨#[33]⟩ : ByteArray)
  else none

set_option maxHeartbeats 1000000 in
theorem bin2 (a b r : Int) (w : World) (h : num_rules_3.f a b = some r) : Calls Try.prog 22 #[.int .i64 2, .int .i32 a, .int .i32 b] w fun e w' => e = .returned (.tuple #[.int .i32 r, .bool true]) ∧ Below w.heap.size w w' := by
  have hc := rule_cell w 7 (fnv 42) rfl
  have hh := Aside0.mk h
  clear h
  have hb := Aside0.mk (below_rule w)
  go_enter Try.func22, Try.ntmps22
  go_wp2_with (go_at_call 32; refine (rules_any _).mono ?_; rintro e w' ⟨rfl, rfl⟩)
  refine (num_rules_3.calls _ _ r _ hh.out).mono ?_
  rintro e w' ⟨rfl, ⟨nd, rfl⟩⟩
  go_wp2
  go_ret2
  exact ⟨rfl, pw_below_drewN hb.out nd⟩

set_option maxHeartbeats 1000000 in
theorem bin3 (a b r : Int) (w : World) (h : num_div.f a b = some r) : Calls Try.prog 22 #[.int .i64 3, .int .i32 a, .int .i32 b] w fun e w' => e = .returned (.tuple #[.int .i32 r, .bool true]) ∧ Below w.heap.size w w' := by
  have hc := rule_cell w 10 (fnv 43) rfl
  have hh := Aside0.mk h
  clear h
  have hb := Aside0.mk (below_rule w)
  go_enter Try.func22, Try.ntmps22
  go_wp2_with (go_at_call 32; refine (rules_any _).mono ?_; rintro e w' ⟨rfl, rfl⟩)
  refine (num_div.calls _ _ r _ hh.out).mono ?_
  rintro e w' ⟨rfl, ⟨nd, rfl⟩⟩
  go_wp2
  go_ret2
  exact ⟨rfl, pw_below_drewN hb.out nd⟩

set_option maxHeartbeats 1000000 in
theorem bin4 (a b r : Int) (w : World) (h : num_rem.f a b = some r) : Calls Try.prog 22 #[.int .i64 4, .int .i32 a, .int .i32 b] w fun e w' => e = .returned (.tuple #[.int .i32 r, .bool true]) ∧ Below w.heap.size w w' := by
  have hc := rule_cell w 13 (fnv 44) rfl
  have hh := Aside0.mk h
  clear h
  have hb := Aside0.mk (below_rule w)
  go_enter Try.func22, Try.ntmps22
  go_wp2_with (go_at_call 32; refine (rules_any _).mono ?_; rintro e w' ⟨rfl, rfl⟩)
  refine (num_rem.calls _ _ r _ hh.out).mono ?_
  rintro e w' ⟨rfl, ⟨nd, rfl⟩⟩
  go_wp2
  go_ret2
  exact ⟨rfl, pw_below_drewN hb.out nd⟩

set_option maxHeartbeats 1000000 in
theorem bin5 (a b r : Int) (w : World) (h : num_rules_4.f a b = some r) : Calls Try.prog 22 #[.int .i64 5, .int .i32 a, .int .i32 b] w fun e w' => e = .returned (.tuple #[.int .i32 r, .bool true]) ∧ Below w.heap.size w w' := by
  have hc := rule_cell w 16 (fnv 45) rfl
  have hh := Aside0.mk h
  clear h
  have hb := Aside0.mk (below_rule w)
  go_enter Try.func22, Try.ntmps22
  go_wp2_with (go_at_call 32; refine (rules_any _).mono ?_; rintro e w' ⟨rfl, rfl⟩)
  refine (num_rules_4.calls _ _ r _ hh.out).mono ?_
  rintro e w' ⟨rfl, ⟨nd, rfl⟩⟩
  go_wp2
  go_ret2
  exact ⟨rfl, pw_below_drewN hb.out nd⟩

set_option maxHeartbeats 1000000 in
theorem bin6 (a b r : Int) (w : World) (h : num_rules_5.f a b = some r) : Calls Try.prog 22 #[.int .i64 6, .int .i32 a, .int .i32 b] w fun e w' => e = .returned (.tuple #[.int .i32 r, .bool true]) ∧ Below w.heap.size w w' := by
  have hc := rule_cell w 19 (fnv 46) rfl
  have hh := Aside0.mk h
  clear h
  have hb := Aside0.mk (below_rule w)
  go_enter Try.func22, Try.ntmps22
  go_wp2_with (go_at_call 32; refine (rules_any _).mono ?_; rintro e w' ⟨rfl, rfl⟩)
  refine (num_rules_5.calls _ _ r _ hh.out).mono ?_
  rintro e w' ⟨rfl, ⟨nd, rfl⟩⟩
  go_wp2
  go_ret2
  exact ⟨rfl, pw_below_drewN hb.out nd⟩

set_option maxHeartbeats 1000000 in
theorem bin7 (a b r : Int) (w : World) (h : num_rules_6.f a b = some r) : Calls Try.prog 22 #[.int .i64 7, .int .i32 a, .int .i32 b] w fun e w' => e = .returned (.tuple #[.int .i32 r, .bool true]) ∧ Below w.heap.size w w' := by
  have hc := rule_cell w 22 (fnv 47) rfl
  have hh := Aside0.mk h
  clear h
  have hb := Aside0.mk (below_rule w)
  go_enter Try.func22, Try.ntmps22
  go_wp2_with (go_at_call 32; refine (rules_any _).mono ?_; rintro e w' ⟨rfl, rfl⟩)
  refine (num_rules_6.calls _ _ r _ hh.out).mono ?_
  rintro e w' ⟨rfl, ⟨nd, rfl⟩⟩
  go_wp2
  go_ret2
  exact ⟨rfl, pw_below_drewN hb.out nd⟩

set_option maxHeartbeats 1000000 in
theorem bin8 (a b r : Int) (w : World) (h : num_rules_7.f a b = some r) : Calls Try.prog 22 #[.int .i64 8, .int .i32 a, .int .i32 b] w fun e w' => e = .returned (.tuple #[.int .i32 r, .bool true]) ∧ Below w.heap.size w w' := by
  have hc := rule_cell w 25 (fnv 48) rfl
  have hh := Aside0.mk h
  clear h
  have hb := Aside0.mk (below_rule w)
  go_enter Try.func22, Try.ntmps22
  go_wp2_with (go_at_call 32; refine (rules_any _).mono ?_; rintro e w' ⟨rfl, rfl⟩)
  refine (num_rules_7.calls _ _ r _ hh.out).mono ?_
  rintro e w' ⟨rfl, ⟨nd, rfl⟩⟩
  go_wp2
  go_ret2
  exact ⟨rfl, pw_below_drewN hb.out nd⟩

set_option maxHeartbeats 1000000 in
theorem bin9 (a b r : Int) (w : World) (h : num_rules_8.f a b = some r) : Calls Try.prog 22 #[.int .i64 9, .int .i32 a, .int .i32 b] w fun e w' => e = .returned (.tuple #[.int .i32 r, .bool true]) ∧ Below w.heap.size w w' := by
  have hc := rule_cell w 28 (fnv 49) rfl
  have hh := Aside0.mk h
  clear h
  have hb := Aside0.mk (below_rule w)
  go_enter Try.func22, Try.ntmps22
  go_wp2_with (go_at_call 32; refine (rules_any _).mono ?_; rintro e w' ⟨rfl, rfl⟩)
  refine (num_rules_8.calls _ _ r _ hh.out).mono ?_
  rintro e w' ⟨rfl, ⟨nd, rfl⟩⟩
  go_wp2
  go_ret2
  exact ⟨rfl, pw_below_drewN hb.out nd⟩

set_option maxHeartbeats 1000000 in
theorem bin10 (a b r : Int) (w : World) (h : num_rules_9.f a b = some r) : Calls Try.prog 22 #[.int .i64 10, .int .i32 a, .int .i32 b] w fun e w' => e = .returned (.tuple #[.int .i32 r, .bool true]) ∧ Below w.heap.size w w' := by
  have hc := rule_cell w 31 (fnv 50) rfl
  have hh := Aside0.mk h
  clear h
  have hb := Aside0.mk (below_rule w)
  go_enter Try.func22, Try.ntmps22
  go_wp2_with (go_at_call 32; refine (rules_any _).mono ?_; rintro e w' ⟨rfl, rfl⟩)
  refine (num_rules_9.calls _ _ r _ hh.out).mono ?_
  rintro e w' ⟨rfl, ⟨nd, rfl⟩⟩
  go_wp2
  go_ret2
  exact ⟨rfl, pw_below_drewN hb.out nd⟩

set_option maxHeartbeats 1000000 in
theorem bin11 (a b r : Int) (w : World) (h : num_rules_10.f a b = some r) : Calls Try.prog 22 #[.int .i64 11, .int .i32 a, .int .i32 b] w fun e w' => e = .returned (.tuple #[.int .i32 r, .bool true]) ∧ Below w.heap.size w w' := by
  have hc := rule_cell w 34 (fnv 51) rfl
  have hh := Aside0.mk h
  clear h
  have hb := Aside0.mk (below_rule w)
  go_enter Try.func22, Try.ntmps22
  go_wp2_with (go_at_call 32; refine (rules_any _).mono ?_; rintro e w' ⟨rfl, rfl⟩)
  refine (num_rules_10.calls _ _ r _ hh.out).mono ?_
  rintro e w' ⟨rfl, ⟨nd, rfl⟩⟩
  go_wp2
  go_ret2
  exact ⟨rfl, pw_below_drewN hb.out nd⟩

set_option maxHeartbeats 1000000 in
theorem bin12 (a b r : Int) (w : World) (h : num_rules_11.f a b = some r) : Calls Try.prog 22 #[.int .i64 12, .int .i32 a, .int .i32 b] w fun e w' => e = .returned (.tuple #[.int .i32 r, .bool true]) ∧ Below w.heap.size w w' := by
  have hc := rule_cell w 37 (fnv 52) rfl
  have hh := Aside0.mk h
  clear h
  have hb := Aside0.mk (below_rule w)
  go_enter Try.func22, Try.ntmps22
  go_wp2_with (go_at_call 32; refine (rules_any _).mono ?_; rintro e w' ⟨rfl, rfl⟩)
  refine (num_rules_11.calls _ _ r _ hh.out).mono ?_
  rintro e w' ⟨rfl, ⟨nd, rfl⟩⟩
  go_wp2
  go_ret2
  exact ⟨rfl, pw_below_drewN hb.out nd⟩

set_option maxHeartbeats 1000000 in
theorem bin13 (a b r : Int) (w : World) (h : num_rules_12.f a b = some r) : Calls Try.prog 22 #[.int .i64 13, .int .i32 a, .int .i32 b] w fun e w' => e = .returned (.tuple #[.int .i32 r, .bool true]) ∧ Below w.heap.size w w' := by
  have hc := rule_cell w 40 (fnv 53) rfl
  have hh := Aside0.mk h
  clear h
  have hb := Aside0.mk (below_rule w)
  go_enter Try.func22, Try.ntmps22
  go_wp2_with (go_at_call 32; refine (rules_any _).mono ?_; rintro e w' ⟨rfl, rfl⟩)
  refine (num_rules_12.calls _ _ r _ hh.out).mono ?_
  rintro e w' ⟨rfl, ⟨nd, rfl⟩⟩
  go_wp2
  go_ret2
  exact ⟨rfl, pw_below_drewN hb.out nd⟩

set_option maxHeartbeats 1000000 in
theorem bin14 (a b r : Int) (w : World) (h : num_rules_13.f a b = some r) : Calls Try.prog 22 #[.int .i64 14, .int .i32 a, .int .i32 b] w fun e w' => e = .returned (.tuple #[.int .i32 r, .bool true]) ∧ Below w.heap.size w w' := by
  have hc := rule_cell w 43 (fnv 54) rfl
  have hh := Aside0.mk h
  clear h
  have hb := Aside0.mk (below_rule w)
  go_enter Try.func22, Try.ntmps22
  go_wp2_with (go_at_call 32; refine (rules_any _).mono ?_; rintro e w' ⟨rfl, rfl⟩)
  refine (num_rules_13.calls _ _ r _ hh.out).mono ?_
  rintro e w' ⟨rfl, ⟨nd, rfl⟩⟩
  go_wp2
  go_ret2
  exact ⟨rfl, pw_below_drewN hb.out nd⟩

set_option maxHeartbeats 1000000 in
theorem bin15 (a b r : Int) (w : World) (h : num_rules_14.f a b = some r) : Calls Try.prog 22 #[.int .i64 15, .int .i32 a, .int .i32 b] w fun e w' => e = .returned (.tuple #[.int .i32 r, .bool true]) ∧ Below w.heap.size w w' := by
  have hc := rule_cell w 46 (fnv 55) rfl
  have hh := Aside0.mk h
  clear h
  have hb := Aside0.mk (below_rule w)
  go_enter Try.func22, Try.ntmps22
  go_wp2_with (go_at_call 32; refine (rules_any _).mono ?_; rintro e w' ⟨rfl, rfl⟩)
  refine (num_rules_14.calls _ _ r _ hh.out).mono ?_
  rintro e w' ⟨rfl, ⟨nd, rfl⟩⟩
  go_wp2
  go_ret2
  exact ⟨rfl, pw_below_drewN hb.out nd⟩

set_option maxHeartbeats 1000000 in
theorem bin16 (a b r : Int) (w : World) (h : num_rules_15.f a b = some r) : Calls Try.prog 22 #[.int .i64 16, .int .i32 a, .int .i32 b] w fun e w' => e = .returned (.tuple #[.int .i32 r, .bool true]) ∧ Below w.heap.size w w' := by
  have hc := rule_cell w 49 (fnv 56) rfl
  have hh := Aside0.mk h
  clear h
  have hb := Aside0.mk (below_rule w)
  go_enter Try.func22, Try.ntmps22
  go_wp2_with (go_at_call 32; refine (rules_any _).mono ?_; rintro e w' ⟨rfl, rfl⟩)
  refine (num_rules_15.calls _ _ r _ hh.out).mono ?_
  rintro e w' ⟨rfl, ⟨nd, rfl⟩⟩
  go_wp2
  go_ret2
  exact ⟨rfl, pw_below_drewN hb.out nd⟩

set_option maxHeartbeats 1000000 in
theorem bin17 (a b r : Int) (w : World) (h : num_rules_16.f a b = some r) : Calls Try.prog 22 #[.int .i64 17, .int .i32 a, .int .i32 b] w fun e w' => e = .returned (.tuple #[.int .i32 r, .bool true]) ∧ Below w.heap.size w w' := by
  have hc := rule_cell w 52 (fnv 57) rfl
  have hh := Aside0.mk h
  clear h
  have hb := Aside0.mk (below_rule w)
  go_enter Try.func22, Try.ntmps22
  go_wp2_with (go_at_call 32; refine (rules_any _).mono ?_; rintro e w' ⟨rfl, rfl⟩)
  refine (num_rules_16.calls _ _ r _ hh.out).mono ?_
  rintro e w' ⟨rfl, ⟨nd, rfl⟩⟩
  go_wp2
  go_ret2
  exact ⟨rfl, pw_below_drewN hb.out nd⟩

set_option maxHeartbeats 1000000 in
theorem bin18 (a b r : Int) (w : World) (h : num_rules_17.f a b = some r) : Calls Try.prog 22 #[.int .i64 18, .int .i32 a, .int .i32 b] w fun e w' => e = .returned (.tuple #[.int .i32 r, .bool true]) ∧ Below w.heap.size w w' := by
  have hc := rule_cell w 55 (fnv 58) rfl
  have hh := Aside0.mk h
  clear h
  have hb := Aside0.mk (below_rule w)
  go_enter Try.func22, Try.ntmps22
  go_wp2_with (go_at_call 32; refine (rules_any _).mono ?_; rintro e w' ⟨rfl, rfl⟩)
  refine (num_rules_17.calls _ _ r _ hh.out).mono ?_
  rintro e w' ⟨rfl, hl⟩
  have hk := Aside0.mk hl
  clear hl
  go_wp2
  go_ret2
  exact ⟨rfl, below_then hb.out hb.out.size hk.out⟩

set_option maxHeartbeats 1000000 in
theorem bin19 (a b r : Int) (w : World) (h : num_rules_18.f a b = some r) : Calls Try.prog 22 #[.int .i64 19, .int .i32 a, .int .i32 b] w fun e w' => e = .returned (.tuple #[.int .i32 r, .bool true]) ∧ Below w.heap.size w w' := by
  have hc := rule_cell w 58 (fnv 59) rfl
  have hh := Aside0.mk h
  clear h
  have hb := Aside0.mk (below_rule w)
  go_enter Try.func22, Try.ntmps22
  go_wp2_with (go_at_call 32; refine (rules_any _).mono ?_; rintro e w' ⟨rfl, rfl⟩)
  refine (num_rules_18.calls _ _ r _ hh.out).mono ?_
  rintro e w' ⟨rfl, hl⟩
  have hk := Aside0.mk hl
  clear hl
  go_wp2
  go_ret2
  exact ⟨rfl, below_then hb.out hb.out.size hk.out⟩

theorem bin0 (a b : Int) (w : World) : Calls Try.prog 22 #[.int .i64 0, .int .i32 a, .int .i32 b] w fun e w' => e = .returned (.tuple #[.int .i32 (wrap32 (a + b)), .bool true]) ∧ Below w.heap.size w w' := by
  go_enter Try.func22, Try.ntmps22
  go_wp2
  go_ret2
  exact ⟨rfl, Below.refl _ _⟩

theorem bin1 (a b : Int) (w : World) : Calls Try.prog 22 #[.int .i64 1, .int .i32 a, .int .i32 b] w fun e w' => e = .returned (.tuple #[.int .i32 (wrap32 (a - b)), .bool true]) ∧ Below w.heap.size w w' := by
  go_enter Try.func22, Try.ntmps22
  go_wp2
  go_ret2
  exact ⟨rfl, Below.refl _ _⟩

theorem bin_low (op a b : Int) (w : World) (h : op < 0) : Calls Try.prog 22 #[.int .i64 op, .int .i32 a, .int .i32 b] w fun e w' => e = .returned (.tuple #[.int .i32 0, .bool false]) ∧ Below w.heap.size w w' := by
  have h1 : decide (op < 0) = true := decide_eq_true h
  go_enter Try.func22, Try.ntmps22
  go_wp2
  go_ret2
  exact ⟨rfl, Below.refl _ _⟩
theorem bin_high (op a b : Int) (w : World) (h : op ≥ 20) : Calls Try.prog 22 #[.int .i64 op, .int .i32 a, .int .i32 b] w fun e w' => e = .returned (.tuple #[.int .i32 0, .bool false]) ∧ Below w.heap.size w w' := by
  have h1 : decide (op < 0) = false := decide_eq_false (by omega)
  have h2 : decide (20 ≤ op) = true := decide_eq_true h
  go_enter Try.func22, Try.ntmps22
  go_wp2
  go_ret2
  exact ⟨rfl, Below.refl _ _⟩

theorem num_Binary.calls (op a b r1 : Int) (r2 : Bool) (w : World) (h : num_Binary.f op a b = some (r1, r2)) : Calls Try.prog 22 #[.int .i64 op, .int .i32 a, .int .i32 b] w fun e w' => e = .returned (.tuple #[.int .i32 r1, .bool r2]) ∧ Below w.heap.size w w' := by
  unfold num_Binary.f at h
  by_cases c : op < 0
  · rw [if_pos c] at h; simp only [Option.some.injEq, Prod.mk.injEq] at h; obtain ⟨rfl, rfl⟩ := h; exact bin_low _ _ _ _ c
  rw [if_neg c] at h
  by_cases c : op ≥ 20
  · rw [if_pos c] at h; simp only [Option.some.injEq, Prod.mk.injEq] at h; obtain ⟨rfl, rfl⟩ := h; exact bin_high _ _ _ _ c
  rw [if_neg c] at h
  by_cases c : op = 0
  · rw [if_pos c] at h; simp only [Option.some.injEq, Prod.mk.injEq] at h; obtain ⟨rfl, rfl⟩ := h; subst c; exact bin0 _ _ _
  rw [if_neg c] at h
  by_cases c : op = 1
  · rw [if_pos c] at h; simp only [Option.some.injEq, Prod.mk.injEq] at h; obtain ⟨rfl, rfl⟩ := h; subst c; exact bin1 _ _ _
  rw [if_neg c] at h
  by_cases c : op = 2
  · rw [if_pos c] at h; obtain ⟨x, hx, he⟩ := Option.map_eq_some_iff.1 h; simp only [Prod.mk.injEq] at he; obtain ⟨rfl, rfl⟩ := he; subst c; exact bin2 _ _ _ _ hx
  rw [if_neg c] at h
  by_cases c : op = 3
  · rw [if_pos c] at h; obtain ⟨x, hx, he⟩ := Option.map_eq_some_iff.1 h; simp only [Prod.mk.injEq] at he; obtain ⟨rfl, rfl⟩ := he; subst c; exact bin3 _ _ _ _ hx
  rw [if_neg c] at h
  by_cases c : op = 4
  · rw [if_pos c] at h; obtain ⟨x, hx, he⟩ := Option.map_eq_some_iff.1 h; simp only [Prod.mk.injEq] at he; obtain ⟨rfl, rfl⟩ := he; subst c; exact bin4 _ _ _ _ hx
  rw [if_neg c] at h
  by_cases c : op = 5
  · rw [if_pos c] at h; obtain ⟨x, hx, he⟩ := Option.map_eq_some_iff.1 h; simp only [Prod.mk.injEq] at he; obtain ⟨rfl, rfl⟩ := he; subst c; exact bin5 _ _ _ _ hx
  rw [if_neg c] at h
  by_cases c : op = 6
  · rw [if_pos c] at h; obtain ⟨x, hx, he⟩ := Option.map_eq_some_iff.1 h; simp only [Prod.mk.injEq] at he; obtain ⟨rfl, rfl⟩ := he; subst c; exact bin6 _ _ _ _ hx
  rw [if_neg c] at h
  by_cases c : op = 7
  · rw [if_pos c] at h; obtain ⟨x, hx, he⟩ := Option.map_eq_some_iff.1 h; simp only [Prod.mk.injEq] at he; obtain ⟨rfl, rfl⟩ := he; subst c; exact bin7 _ _ _ _ hx
  rw [if_neg c] at h
  by_cases c : op = 8
  · rw [if_pos c] at h; obtain ⟨x, hx, he⟩ := Option.map_eq_some_iff.1 h; simp only [Prod.mk.injEq] at he; obtain ⟨rfl, rfl⟩ := he; subst c; exact bin8 _ _ _ _ hx
  rw [if_neg c] at h
  by_cases c : op = 9
  · rw [if_pos c] at h; obtain ⟨x, hx, he⟩ := Option.map_eq_some_iff.1 h; simp only [Prod.mk.injEq] at he; obtain ⟨rfl, rfl⟩ := he; subst c; exact bin9 _ _ _ _ hx
  rw [if_neg c] at h
  by_cases c : op = 10
  · rw [if_pos c] at h; obtain ⟨x, hx, he⟩ := Option.map_eq_some_iff.1 h; simp only [Prod.mk.injEq] at he; obtain ⟨rfl, rfl⟩ := he; subst c; exact bin10 _ _ _ _ hx
  rw [if_neg c] at h
  by_cases c : op = 11
  · rw [if_pos c] at h; obtain ⟨x, hx, he⟩ := Option.map_eq_some_iff.1 h; simp only [Prod.mk.injEq] at he; obtain ⟨rfl, rfl⟩ := he; subst c; exact bin11 _ _ _ _ hx
  rw [if_neg c] at h
  by_cases c : op = 12
  · rw [if_pos c] at h; obtain ⟨x, hx, he⟩ := Option.map_eq_some_iff.1 h; simp only [Prod.mk.injEq] at he; obtain ⟨rfl, rfl⟩ := he; subst c; exact bin12 _ _ _ _ hx
  rw [if_neg c] at h
  by_cases c : op = 13
  · rw [if_pos c] at h; obtain ⟨x, hx, he⟩ := Option.map_eq_some_iff.1 h; simp only [Prod.mk.injEq] at he; obtain ⟨rfl, rfl⟩ := he; subst c; exact bin13 _ _ _ _ hx
  rw [if_neg c] at h
  by_cases c : op = 14
  · rw [if_pos c] at h; obtain ⟨x, hx, he⟩ := Option.map_eq_some_iff.1 h; simp only [Prod.mk.injEq] at he; obtain ⟨rfl, rfl⟩ := he; subst c; exact bin14 _ _ _ _ hx
  rw [if_neg c] at h
  by_cases c : op = 15
  · rw [if_pos c] at h; obtain ⟨x, hx, he⟩ := Option.map_eq_some_iff.1 h; simp only [Prod.mk.injEq] at he; obtain ⟨rfl, rfl⟩ := he; subst c; exact bin15 _ _ _ _ hx
  rw [if_neg c] at h
  by_cases c : op = 16
  · rw [if_pos c] at h; obtain ⟨x, hx, he⟩ := Option.map_eq_some_iff.1 h; simp only [Prod.mk.injEq] at he; obtain ⟨rfl, rfl⟩ := he; subst c; exact bin16 _ _ _ _ hx
  rw [if_neg c] at h
  by_cases c : op = 17
  · rw [if_pos c] at h; obtain ⟨x, hx, he⟩ := Option.map_eq_some_iff.1 h; simp only [Prod.mk.injEq] at he; obtain ⟨rfl, rfl⟩ := he; subst c; exact bin17 _ _ _ _ hx
  rw [if_neg c] at h
  by_cases c : op = 18
  · rw [if_pos c] at h; obtain ⟨x, hx, he⟩ := Option.map_eq_some_iff.1 h; simp only [Prod.mk.injEq] at he; obtain ⟨rfl, rfl⟩ := he; subst c; exact bin18 _ _ _ _ hx
  rw [if_neg c] at h
  by_cases c : op = 19
  · rw [if_pos c] at h; obtain ⟨x, hx, he⟩ := Option.map_eq_some_iff.1 h; simp only [Prod.mk.injEq] at he; obtain ⟨rfl, rfl⟩ := he; subst c; exact bin19 _ _ _ _ hx
  rw [if_neg c] at h
  exact absurd h (by simp)

set_option maxHeartbeats 1000000 in
theorem num_Commutes_0 (w : World) : Calls Try.prog 14 #[.int .i64 0] w fun e w' => e = .returned (.bool true) ∧ Below w.heap.size w w' := by
  have hc := rule_cell w 2 (.int .i64 1) rfl
  have hb := Aside0.mk (below_rule w)
  go_enter Try.func14, Try.ntmps14
  go_wp2_with (go_at_call 32; refine (rules_any _).mono ?_; rintro e w' ⟨rfl, rfl⟩)
  go_ret
  exact ⟨rfl, hb.out⟩
set_option maxHeartbeats 1000000 in
theorem num_Commutes_1 (w : World) : Calls Try.prog 14 #[.int .i64 1] w fun e w' => e = .returned (.bool false) ∧ Below w.heap.size w w' := by
  have hc := rule_cell w 5 (.int .i64 0) rfl
  have hb := Aside0.mk (below_rule w)
  go_enter Try.func14, Try.ntmps14
  go_wp2_with (go_at_call 32; refine (rules_any _).mono ?_; rintro e w' ⟨rfl, rfl⟩)
  go_ret
  exact ⟨rfl, hb.out⟩
set_option maxHeartbeats 1000000 in
theorem num_Commutes_2 (w : World) : Calls Try.prog 14 #[.int .i64 2] w fun e w' => e = .returned (.bool true) ∧ Below w.heap.size w w' := by
  have hc := rule_cell w 8 (.int .i64 1) rfl
  have hb := Aside0.mk (below_rule w)
  go_enter Try.func14, Try.ntmps14
  go_wp2_with (go_at_call 32; refine (rules_any _).mono ?_; rintro e w' ⟨rfl, rfl⟩)
  go_ret
  exact ⟨rfl, hb.out⟩
set_option maxHeartbeats 1000000 in
theorem num_Commutes_3 (w : World) : Calls Try.prog 14 #[.int .i64 3] w fun e w' => e = .returned (.bool false) ∧ Below w.heap.size w w' := by
  have hc := rule_cell w 11 (.int .i64 0) rfl
  have hb := Aside0.mk (below_rule w)
  go_enter Try.func14, Try.ntmps14
  go_wp2_with (go_at_call 32; refine (rules_any _).mono ?_; rintro e w' ⟨rfl, rfl⟩)
  go_ret
  exact ⟨rfl, hb.out⟩
set_option maxHeartbeats 1000000 in
theorem num_Commutes_4 (w : World) : Calls Try.prog 14 #[.int .i64 4] w fun e w' => e = .returned (.bool false) ∧ Below w.heap.size w w' := by
  have hc := rule_cell w 14 (.int .i64 0) rfl
  have hb := Aside0.mk (below_rule w)
  go_enter Try.func14, Try.ntmps14
  go_wp2_with (go_at_call 32; refine (rules_any _).mono ?_; rintro e w' ⟨rfl, rfl⟩)
  go_ret
  exact ⟨rfl, hb.out⟩
set_option maxHeartbeats 1000000 in
theorem num_Commutes_5 (w : World) : Calls Try.prog 14 #[.int .i64 5] w fun e w' => e = .returned (.bool true) ∧ Below w.heap.size w w' := by
  have hc := rule_cell w 17 (.int .i64 1) rfl
  have hb := Aside0.mk (below_rule w)
  go_enter Try.func14, Try.ntmps14
  go_wp2_with (go_at_call 32; refine (rules_any _).mono ?_; rintro e w' ⟨rfl, rfl⟩)
  go_ret
  exact ⟨rfl, hb.out⟩
set_option maxHeartbeats 1000000 in
theorem num_Commutes_6 (w : World) : Calls Try.prog 14 #[.int .i64 6] w fun e w' => e = .returned (.bool true) ∧ Below w.heap.size w w' := by
  have hc := rule_cell w 20 (.int .i64 1) rfl
  have hb := Aside0.mk (below_rule w)
  go_enter Try.func14, Try.ntmps14
  go_wp2_with (go_at_call 32; refine (rules_any _).mono ?_; rintro e w' ⟨rfl, rfl⟩)
  go_ret
  exact ⟨rfl, hb.out⟩
set_option maxHeartbeats 1000000 in
theorem num_Commutes_7 (w : World) : Calls Try.prog 14 #[.int .i64 7] w fun e w' => e = .returned (.bool true) ∧ Below w.heap.size w w' := by
  have hc := rule_cell w 23 (.int .i64 1) rfl
  have hb := Aside0.mk (below_rule w)
  go_enter Try.func14, Try.ntmps14
  go_wp2_with (go_at_call 32; refine (rules_any _).mono ?_; rintro e w' ⟨rfl, rfl⟩)
  go_ret
  exact ⟨rfl, hb.out⟩
set_option maxHeartbeats 1000000 in
theorem num_Commutes_8 (w : World) : Calls Try.prog 14 #[.int .i64 8] w fun e w' => e = .returned (.bool false) ∧ Below w.heap.size w w' := by
  have hc := rule_cell w 26 (.int .i64 0) rfl
  have hb := Aside0.mk (below_rule w)
  go_enter Try.func14, Try.ntmps14
  go_wp2_with (go_at_call 32; refine (rules_any _).mono ?_; rintro e w' ⟨rfl, rfl⟩)
  go_ret
  exact ⟨rfl, hb.out⟩
set_option maxHeartbeats 1000000 in
theorem num_Commutes_9 (w : World) : Calls Try.prog 14 #[.int .i64 9] w fun e w' => e = .returned (.bool false) ∧ Below w.heap.size w w' := by
  have hc := rule_cell w 29 (.int .i64 0) rfl
  have hb := Aside0.mk (below_rule w)
  go_enter Try.func14, Try.ntmps14
  go_wp2_with (go_at_call 32; refine (rules_any _).mono ?_; rintro e w' ⟨rfl, rfl⟩)
  go_ret
  exact ⟨rfl, hb.out⟩
set_option maxHeartbeats 1000000 in
theorem num_Commutes_10 (w : World) : Calls Try.prog 14 #[.int .i64 10] w fun e w' => e = .returned (.bool false) ∧ Below w.heap.size w w' := by
  have hc := rule_cell w 32 (.int .i64 0) rfl
  have hb := Aside0.mk (below_rule w)
  go_enter Try.func14, Try.ntmps14
  go_wp2_with (go_at_call 32; refine (rules_any _).mono ?_; rintro e w' ⟨rfl, rfl⟩)
  go_ret
  exact ⟨rfl, hb.out⟩
set_option maxHeartbeats 1000000 in
theorem num_Commutes_11 (w : World) : Calls Try.prog 14 #[.int .i64 11] w fun e w' => e = .returned (.bool false) ∧ Below w.heap.size w w' := by
  have hc := rule_cell w 35 (.int .i64 0) rfl
  have hb := Aside0.mk (below_rule w)
  go_enter Try.func14, Try.ntmps14
  go_wp2_with (go_at_call 32; refine (rules_any _).mono ?_; rintro e w' ⟨rfl, rfl⟩)
  go_ret
  exact ⟨rfl, hb.out⟩
set_option maxHeartbeats 1000000 in
theorem num_Commutes_12 (w : World) : Calls Try.prog 14 #[.int .i64 12] w fun e w' => e = .returned (.bool false) ∧ Below w.heap.size w w' := by
  have hc := rule_cell w 38 (.int .i64 0) rfl
  have hb := Aside0.mk (below_rule w)
  go_enter Try.func14, Try.ntmps14
  go_wp2_with (go_at_call 32; refine (rules_any _).mono ?_; rintro e w' ⟨rfl, rfl⟩)
  go_ret
  exact ⟨rfl, hb.out⟩
set_option maxHeartbeats 1000000 in
theorem num_Commutes_13 (w : World) : Calls Try.prog 14 #[.int .i64 13] w fun e w' => e = .returned (.bool true) ∧ Below w.heap.size w w' := by
  have hc := rule_cell w 41 (.int .i64 1) rfl
  have hb := Aside0.mk (below_rule w)
  go_enter Try.func14, Try.ntmps14
  go_wp2_with (go_at_call 32; refine (rules_any _).mono ?_; rintro e w' ⟨rfl, rfl⟩)
  go_ret
  exact ⟨rfl, hb.out⟩
set_option maxHeartbeats 1000000 in
theorem num_Commutes_14 (w : World) : Calls Try.prog 14 #[.int .i64 14] w fun e w' => e = .returned (.bool true) ∧ Below w.heap.size w w' := by
  have hc := rule_cell w 44 (.int .i64 1) rfl
  have hb := Aside0.mk (below_rule w)
  go_enter Try.func14, Try.ntmps14
  go_wp2_with (go_at_call 32; refine (rules_any _).mono ?_; rintro e w' ⟨rfl, rfl⟩)
  go_ret
  exact ⟨rfl, hb.out⟩
set_option maxHeartbeats 1000000 in
theorem num_Commutes_15 (w : World) : Calls Try.prog 14 #[.int .i64 15] w fun e w' => e = .returned (.bool false) ∧ Below w.heap.size w w' := by
  have hc := rule_cell w 47 (.int .i64 0) rfl
  have hb := Aside0.mk (below_rule w)
  go_enter Try.func14, Try.ntmps14
  go_wp2_with (go_at_call 32; refine (rules_any _).mono ?_; rintro e w' ⟨rfl, rfl⟩)
  go_ret
  exact ⟨rfl, hb.out⟩
set_option maxHeartbeats 1000000 in
theorem num_Commutes_16 (w : World) : Calls Try.prog 14 #[.int .i64 16] w fun e w' => e = .returned (.bool true) ∧ Below w.heap.size w w' := by
  have hc := rule_cell w 50 (.int .i64 1) rfl
  have hb := Aside0.mk (below_rule w)
  go_enter Try.func14, Try.ntmps14
  go_wp2_with (go_at_call 32; refine (rules_any _).mono ?_; rintro e w' ⟨rfl, rfl⟩)
  go_ret
  exact ⟨rfl, hb.out⟩
set_option maxHeartbeats 1000000 in
theorem num_Commutes_17 (w : World) : Calls Try.prog 14 #[.int .i64 17] w fun e w' => e = .returned (.bool true) ∧ Below w.heap.size w w' := by
  have hc := rule_cell w 53 (.int .i64 1) rfl
  have hb := Aside0.mk (below_rule w)
  go_enter Try.func14, Try.ntmps14
  go_wp2_with (go_at_call 32; refine (rules_any _).mono ?_; rintro e w' ⟨rfl, rfl⟩)
  go_ret
  exact ⟨rfl, hb.out⟩
set_option maxHeartbeats 1000000 in
theorem num_Commutes_18 (w : World) : Calls Try.prog 14 #[.int .i64 18] w fun e w' => e = .returned (.bool true) ∧ Below w.heap.size w w' := by
  have hc := rule_cell w 56 (.int .i64 1) rfl
  have hb := Aside0.mk (below_rule w)
  go_enter Try.func14, Try.ntmps14
  go_wp2_with (go_at_call 32; refine (rules_any _).mono ?_; rintro e w' ⟨rfl, rfl⟩)
  go_ret
  exact ⟨rfl, hb.out⟩
set_option maxHeartbeats 1000000 in
theorem num_Commutes_19 (w : World) : Calls Try.prog 14 #[.int .i64 19] w fun e w' => e = .returned (.bool true) ∧ Below w.heap.size w w' := by
  have hc := rule_cell w 59 (.int .i64 1) rfl
  have hb := Aside0.mk (below_rule w)
  go_enter Try.func14, Try.ntmps14
  go_wp2_with (go_at_call 32; refine (rules_any _).mono ?_; rintro e w' ⟨rfl, rfl⟩)
  go_ret
  exact ⟨rfl, hb.out⟩
theorem num_Commutes_low (op : Int) (w : World) (h : op < 0) : Calls Try.prog 14 #[.int .i64 op] w fun e w' => e = .returned (.bool false) ∧ Below w.heap.size w w' := by
  have h1 : decide (0 ≤ op) = false := decide_eq_false (by omega)
  go_enter Try.func14, Try.ntmps14
  go_wp2
  go_ret
  exact ⟨rfl, Below.refl _ _⟩
theorem num_Commutes_high (op : Int) (w : World) (h : op ≥ 20) : Calls Try.prog 14 #[.int .i64 op] w fun e w' => e = .returned (.bool false) ∧ Below w.heap.size w w' := by
  have h1 : decide (0 ≤ op) = true := decide_eq_true (by omega)
  have h2 : decide (op < 20) = false := decide_eq_false (by omega)
  go_enter Try.func14, Try.ntmps14
  go_wp2
  go_ret
  exact ⟨rfl, Below.refl _ _⟩
theorem num_Commutes.calls (op : Int) (r : Bool) (w : World) (h : num_Commutes.f op = some r) : Calls Try.prog 14 #[.int .i64 op] w fun e w' => e = .returned (.bool r) ∧ Below w.heap.size w w' := by
  unfold num_Commutes.f at h
  by_cases c : op < 0
  · rw [if_pos c] at h; obtain rfl := Option.some.inj h; exact num_Commutes_low _ _ c
  rw [if_neg c] at h
  by_cases c : op ≥ 20
  · rw [if_pos c] at h; obtain rfl := Option.some.inj h; exact num_Commutes_high _ _ c
  rw [if_neg c] at h
  by_cases c : op = 0
  · rw [if_pos c] at h; obtain rfl := Option.some.inj h; subst c; exact num_Commutes_0 _
  rw [if_neg c] at h
  by_cases c : op = 1
  · rw [if_pos c] at h; obtain rfl := Option.some.inj h; subst c; exact num_Commutes_1 _
  rw [if_neg c] at h
  by_cases c : op = 2
  · rw [if_pos c] at h; obtain rfl := Option.some.inj h; subst c; exact num_Commutes_2 _
  rw [if_neg c] at h
  by_cases c : op = 3
  · rw [if_pos c] at h; obtain rfl := Option.some.inj h; subst c; exact num_Commutes_3 _
  rw [if_neg c] at h
  by_cases c : op = 4
  · rw [if_pos c] at h; obtain rfl := Option.some.inj h; subst c; exact num_Commutes_4 _
  rw [if_neg c] at h
  by_cases c : op = 5
  · rw [if_pos c] at h; obtain rfl := Option.some.inj h; subst c; exact num_Commutes_5 _
  rw [if_neg c] at h
  by_cases c : op = 6
  · rw [if_pos c] at h; obtain rfl := Option.some.inj h; subst c; exact num_Commutes_6 _
  rw [if_neg c] at h
  by_cases c : op = 7
  · rw [if_pos c] at h; obtain rfl := Option.some.inj h; subst c; exact num_Commutes_7 _
  rw [if_neg c] at h
  by_cases c : op = 8
  · rw [if_pos c] at h; obtain rfl := Option.some.inj h; subst c; exact num_Commutes_8 _
  rw [if_neg c] at h
  by_cases c : op = 9
  · rw [if_pos c] at h; obtain rfl := Option.some.inj h; subst c; exact num_Commutes_9 _
  rw [if_neg c] at h
  by_cases c : op = 10
  · rw [if_pos c] at h; obtain rfl := Option.some.inj h; subst c; exact num_Commutes_10 _
  rw [if_neg c] at h
  by_cases c : op = 11
  · rw [if_pos c] at h; obtain rfl := Option.some.inj h; subst c; exact num_Commutes_11 _
  rw [if_neg c] at h
  by_cases c : op = 12
  · rw [if_pos c] at h; obtain rfl := Option.some.inj h; subst c; exact num_Commutes_12 _
  rw [if_neg c] at h
  by_cases c : op = 13
  · rw [if_pos c] at h; obtain rfl := Option.some.inj h; subst c; exact num_Commutes_13 _
  rw [if_neg c] at h
  by_cases c : op = 14
  · rw [if_pos c] at h; obtain rfl := Option.some.inj h; subst c; exact num_Commutes_14 _
  rw [if_neg c] at h
  by_cases c : op = 15
  · rw [if_pos c] at h; obtain rfl := Option.some.inj h; subst c; exact num_Commutes_15 _
  rw [if_neg c] at h
  by_cases c : op = 16
  · rw [if_pos c] at h; obtain rfl := Option.some.inj h; subst c; exact num_Commutes_16 _
  rw [if_neg c] at h
  by_cases c : op = 17
  · rw [if_pos c] at h; obtain rfl := Option.some.inj h; subst c; exact num_Commutes_17 _
  rw [if_neg c] at h
  by_cases c : op = 18
  · rw [if_pos c] at h; obtain rfl := Option.some.inj h; subst c; exact num_Commutes_18 _
  rw [if_neg c] at h
  by_cases c : op = 19
  · rw [if_pos c] at h; obtain rfl := Option.some.inj h; subst c; exact num_Commutes_19 _
  rw [if_neg c] at h
  exact absurd h (by simp)

set_option maxHeartbeats 1000000 in
theorem num_Text_0 (w : World) : Calls Try.prog 25 #[.int .i64 0] w fun e w' => e = .returned (.string (⟨#[43]⟩ : ByteArray)) ∧ Below w.heap.size w w' := by
  have hc := rule_cell w 0 (.string (⟨#[43]⟩ : ByteArray)) rfl
  have hb := Aside0.mk (below_rule w)
  go_enter Try.func25, Try.ntmps25
  go_wp2_with (go_at_call 32; refine (rules_any _).mono ?_; rintro e w' ⟨rfl, rfl⟩)
  go_ret
  exact ⟨rfl, hb.out⟩
set_option maxHeartbeats 1000000 in
theorem num_Text_1 (w : World) : Calls Try.prog 25 #[.int .i64 1] w fun e w' => e = .returned (.string (⟨#[45]⟩ : ByteArray)) ∧ Below w.heap.size w w' := by
  have hc := rule_cell w 3 (.string (⟨#[45]⟩ : ByteArray)) rfl
  have hb := Aside0.mk (below_rule w)
  go_enter Try.func25, Try.ntmps25
  go_wp2_with (go_at_call 32; refine (rules_any _).mono ?_; rintro e w' ⟨rfl, rfl⟩)
  go_ret
  exact ⟨rfl, hb.out⟩
set_option maxHeartbeats 1000000 in
theorem num_Text_2 (w : World) : Calls Try.prog 25 #[.int .i64 2] w fun e w' => e = .returned (.string (⟨#[42]⟩ : ByteArray)) ∧ Below w.heap.size w w' := by
  have hc := rule_cell w 6 (.string (⟨#[42]⟩ : ByteArray)) rfl
  have hb := Aside0.mk (below_rule w)
  go_enter Try.func25, Try.ntmps25
  go_wp2_with (go_at_call 32; refine (rules_any _).mono ?_; rintro e w' ⟨rfl, rfl⟩)
  go_ret
  exact ⟨rfl, hb.out⟩
set_option maxHeartbeats 1000000 in
theorem num_Text_3 (w : World) : Calls Try.prog 25 #[.int .i64 3] w fun e w' => e = .returned (.string (⟨#[47]⟩ : ByteArray)) ∧ Below w.heap.size w w' := by
  have hc := rule_cell w 9 (.string (⟨#[47]⟩ : ByteArray)) rfl
  have hb := Aside0.mk (below_rule w)
  go_enter Try.func25, Try.ntmps25
  go_wp2_with (go_at_call 32; refine (rules_any _).mono ?_; rintro e w' ⟨rfl, rfl⟩)
  go_ret
  exact ⟨rfl, hb.out⟩
set_option maxHeartbeats 1000000 in
theorem num_Text_4 (w : World) : Calls Try.prog 25 #[.int .i64 4] w fun e w' => e = .returned (.string (⟨#[37]⟩ : ByteArray)) ∧ Below w.heap.size w w' := by
  have hc := rule_cell w 12 (.string (⟨#[37]⟩ : ByteArray)) rfl
  have hb := Aside0.mk (below_rule w)
  go_enter Try.func25, Try.ntmps25
  go_wp2_with (go_at_call 32; refine (rules_any _).mono ?_; rintro e w' ⟨rfl, rfl⟩)
  go_ret
  exact ⟨rfl, hb.out⟩
set_option maxHeartbeats 1000000 in
theorem num_Text_5 (w : World) : Calls Try.prog 25 #[.int .i64 5] w fun e w' => e = .returned (.string (⟨#[38]⟩ : ByteArray)) ∧ Below w.heap.size w w' := by
  have hc := rule_cell w 15 (.string (⟨#[38]⟩ : ByteArray)) rfl
  have hb := Aside0.mk (below_rule w)
  go_enter Try.func25, Try.ntmps25
  go_wp2_with (go_at_call 32; refine (rules_any _).mono ?_; rintro e w' ⟨rfl, rfl⟩)
  go_ret
  exact ⟨rfl, hb.out⟩
set_option maxHeartbeats 1000000 in
theorem num_Text_6 (w : World) : Calls Try.prog 25 #[.int .i64 6] w fun e w' => e = .returned (.string (⟨#[124]⟩ : ByteArray)) ∧ Below w.heap.size w w' := by
  have hc := rule_cell w 18 (.string (⟨#[124]⟩ : ByteArray)) rfl
  have hb := Aside0.mk (below_rule w)
  go_enter Try.func25, Try.ntmps25
  go_wp2_with (go_at_call 32; refine (rules_any _).mono ?_; rintro e w' ⟨rfl, rfl⟩)
  go_ret
  exact ⟨rfl, hb.out⟩
set_option maxHeartbeats 1000000 in
theorem num_Text_7 (w : World) : Calls Try.prog 25 #[.int .i64 7] w fun e w' => e = .returned (.string (⟨#[94]⟩ : ByteArray)) ∧ Below w.heap.size w w' := by
  have hc := rule_cell w 21 (.string (⟨#[94]⟩ : ByteArray)) rfl
  have hb := Aside0.mk (below_rule w)
  go_enter Try.func25, Try.ntmps25
  go_wp2_with (go_at_call 32; refine (rules_any _).mono ?_; rintro e w' ⟨rfl, rfl⟩)
  go_ret
  exact ⟨rfl, hb.out⟩
set_option maxHeartbeats 1000000 in
theorem num_Text_8 (w : World) : Calls Try.prog 25 #[.int .i64 8] w fun e w' => e = .returned (.string (⟨#[60, 60]⟩ : ByteArray)) ∧ Below w.heap.size w w' := by
  have hc := rule_cell w 24 (.string (⟨#[60, 60]⟩ : ByteArray)) rfl
  have hb := Aside0.mk (below_rule w)
  go_enter Try.func25, Try.ntmps25
  go_wp2_with (go_at_call 32; refine (rules_any _).mono ?_; rintro e w' ⟨rfl, rfl⟩)
  go_ret
  exact ⟨rfl, hb.out⟩
set_option maxHeartbeats 1000000 in
theorem num_Text_9 (w : World) : Calls Try.prog 25 #[.int .i64 9] w fun e w' => e = .returned (.string (⟨#[62, 62]⟩ : ByteArray)) ∧ Below w.heap.size w w' := by
  have hc := rule_cell w 27 (.string (⟨#[62, 62]⟩ : ByteArray)) rfl
  have hb := Aside0.mk (below_rule w)
  go_enter Try.func25, Try.ntmps25
  go_wp2_with (go_at_call 32; refine (rules_any _).mono ?_; rintro e w' ⟨rfl, rfl⟩)
  go_ret
  exact ⟨rfl, hb.out⟩
set_option maxHeartbeats 1000000 in
theorem num_Text_10 (w : World) : Calls Try.prog 25 #[.int .i64 10] w fun e w' => e = .returned (.string (⟨#[62, 62, 62]⟩ : ByteArray)) ∧ Below w.heap.size w w' := by
  have hc := rule_cell w 30 (.string (⟨#[62, 62, 62]⟩ : ByteArray)) rfl
  have hb := Aside0.mk (below_rule w)
  go_enter Try.func25, Try.ntmps25
  go_wp2_with (go_at_call 32; refine (rules_any _).mono ?_; rintro e w' ⟨rfl, rfl⟩)
  go_ret
  exact ⟨rfl, hb.out⟩
set_option maxHeartbeats 1000000 in
theorem num_Text_11 (w : World) : Calls Try.prog 25 #[.int .i64 11] w fun e w' => e = .returned (.string (⟨#[60]⟩ : ByteArray)) ∧ Below w.heap.size w w' := by
  have hc := rule_cell w 33 (.string (⟨#[60]⟩ : ByteArray)) rfl
  have hb := Aside0.mk (below_rule w)
  go_enter Try.func25, Try.ntmps25
  go_wp2_with (go_at_call 32; refine (rules_any _).mono ?_; rintro e w' ⟨rfl, rfl⟩)
  go_ret
  exact ⟨rfl, hb.out⟩
set_option maxHeartbeats 1000000 in
theorem num_Text_12 (w : World) : Calls Try.prog 25 #[.int .i64 12] w fun e w' => e = .returned (.string (⟨#[60, 61]⟩ : ByteArray)) ∧ Below w.heap.size w w' := by
  have hc := rule_cell w 36 (.string (⟨#[60, 61]⟩ : ByteArray)) rfl
  have hb := Aside0.mk (below_rule w)
  go_enter Try.func25, Try.ntmps25
  go_wp2_with (go_at_call 32; refine (rules_any _).mono ?_; rintro e w' ⟨rfl, rfl⟩)
  go_ret
  exact ⟨rfl, hb.out⟩
set_option maxHeartbeats 1000000 in
theorem num_Text_13 (w : World) : Calls Try.prog 25 #[.int .i64 13] w fun e w' => e = .returned (.string (⟨#[61, 61]⟩ : ByteArray)) ∧ Below w.heap.size w w' := by
  have hc := rule_cell w 39 (.string (⟨#[61, 61]⟩ : ByteArray)) rfl
  have hb := Aside0.mk (below_rule w)
  go_enter Try.func25, Try.ntmps25
  go_wp2_with (go_at_call 32; refine (rules_any _).mono ?_; rintro e w' ⟨rfl, rfl⟩)
  go_ret
  exact ⟨rfl, hb.out⟩
set_option maxHeartbeats 1000000 in
theorem num_Text_14 (w : World) : Calls Try.prog 25 #[.int .i64 14] w fun e w' => e = .returned (.string (⟨#[33, 61]⟩ : ByteArray)) ∧ Below w.heap.size w w' := by
  have hc := rule_cell w 42 (.string (⟨#[33, 61]⟩ : ByteArray)) rfl
  have hb := Aside0.mk (below_rule w)
  go_enter Try.func25, Try.ntmps25
  go_wp2_with (go_at_call 32; refine (rules_any _).mono ?_; rintro e w' ⟨rfl, rfl⟩)
  go_ret
  exact ⟨rfl, hb.out⟩
set_option maxHeartbeats 1000000 in
theorem num_Text_15 (w : World) : Calls Try.prog 25 #[.int .i64 15] w fun e w' => e = .returned (.string (⟨#[60, 58]⟩ : ByteArray)) ∧ Below w.heap.size w w' := by
  have hc := rule_cell w 45 (.string (⟨#[60, 58]⟩ : ByteArray)) rfl
  have hb := Aside0.mk (below_rule w)
  go_enter Try.func25, Try.ntmps25
  go_wp2_with (go_at_call 32; refine (rules_any _).mono ?_; rintro e w' ⟨rfl, rfl⟩)
  go_ret
  exact ⟨rfl, hb.out⟩
set_option maxHeartbeats 1000000 in
theorem num_Text_16 (w : World) : Calls Try.prog 25 #[.int .i64 16] w fun e w' => e = .returned (.string (⟨#[38, 38]⟩ : ByteArray)) ∧ Below w.heap.size w w' := by
  have hc := rule_cell w 48 (.string (⟨#[38, 38]⟩ : ByteArray)) rfl
  have hb := Aside0.mk (below_rule w)
  go_enter Try.func25, Try.ntmps25
  go_wp2_with (go_at_call 32; refine (rules_any _).mono ?_; rintro e w' ⟨rfl, rfl⟩)
  go_ret
  exact ⟨rfl, hb.out⟩
set_option maxHeartbeats 1000000 in
theorem num_Text_17 (w : World) : Calls Try.prog 25 #[.int .i64 17] w fun e w' => e = .returned (.string (⟨#[124, 124]⟩ : ByteArray)) ∧ Below w.heap.size w w' := by
  have hc := rule_cell w 51 (.string (⟨#[124, 124]⟩ : ByteArray)) rfl
  have hb := Aside0.mk (below_rule w)
  go_enter Try.func25, Try.ntmps25
  go_wp2_with (go_at_call 32; refine (rules_any _).mono ?_; rintro e w' ⟨rfl, rfl⟩)
  go_ret
  exact ⟨rfl, hb.out⟩
set_option maxHeartbeats 1000000 in
theorem num_Text_18 (w : World) : Calls Try.prog 25 #[.int .i64 18] w fun e w' => e = .returned (.string (⟨#[109, 105, 110]⟩ : ByteArray)) ∧ Below w.heap.size w w' := by
  have hc := rule_cell w 54 (.string (⟨#[109, 105, 110]⟩ : ByteArray)) rfl
  have hb := Aside0.mk (below_rule w)
  go_enter Try.func25, Try.ntmps25
  go_wp2_with (go_at_call 32; refine (rules_any _).mono ?_; rintro e w' ⟨rfl, rfl⟩)
  go_ret
  exact ⟨rfl, hb.out⟩
set_option maxHeartbeats 1000000 in
theorem num_Text_19 (w : World) : Calls Try.prog 25 #[.int .i64 19] w fun e w' => e = .returned (.string (⟨#[109, 97, 120]⟩ : ByteArray)) ∧ Below w.heap.size w w' := by
  have hc := rule_cell w 57 (.string (⟨#[109, 97, 120]⟩ : ByteArray)) rfl
  have hb := Aside0.mk (below_rule w)
  go_enter Try.func25, Try.ntmps25
  go_wp2_with (go_at_call 32; refine (rules_any _).mono ?_; rintro e w' ⟨rfl, rfl⟩)
  go_ret
  exact ⟨rfl, hb.out⟩
theorem num_Text_low (op : Int) (w : World) (h : op < 0) : Calls Try.prog 25 #[.int .i64 op] w fun e w' => e = .returned (.string (⟨#[]⟩ : ByteArray)) ∧ Below w.heap.size w w' := by
  have h1 : decide (op < 0) = true := decide_eq_true h
  go_enter Try.func25, Try.ntmps25
  go_wp2
  go_ret
  exact ⟨rfl, Below.refl _ _⟩
theorem num_Text_high (op : Int) (w : World) (h : op ≥ 20) : Calls Try.prog 25 #[.int .i64 op] w fun e w' => e = .returned (.string (⟨#[]⟩ : ByteArray)) ∧ Below w.heap.size w w' := by
  have h1 : decide (op < 0) = false := decide_eq_false (by omega)
  have h2 : decide (20 ≤ op) = true := decide_eq_true h
  go_enter Try.func25, Try.ntmps25
  go_wp2
  go_ret
  exact ⟨rfl, Below.refl _ _⟩
theorem num_Text.calls (op : Int) (r : ByteArray) (w : World) (h : num_Text.f op = some r) : Calls Try.prog 25 #[.int .i64 op] w fun e w' => e = .returned (.string r) ∧ Below w.heap.size w w' := by
  unfold num_Text.f at h
  by_cases c : op < 0
  · rw [if_pos c] at h; obtain rfl := Option.some.inj h; exact num_Text_low _ _ c
  rw [if_neg c] at h
  by_cases c : op ≥ 20
  · rw [if_pos c] at h; obtain rfl := Option.some.inj h; exact num_Text_high _ _ c
  rw [if_neg c] at h
  by_cases c : op = 0
  · rw [if_pos c] at h; obtain rfl := Option.some.inj h; subst c; exact num_Text_0 _
  rw [if_neg c] at h
  by_cases c : op = 1
  · rw [if_pos c] at h; obtain rfl := Option.some.inj h; subst c; exact num_Text_1 _
  rw [if_neg c] at h
  by_cases c : op = 2
  · rw [if_pos c] at h; obtain rfl := Option.some.inj h; subst c; exact num_Text_2 _
  rw [if_neg c] at h
  by_cases c : op = 3
  · rw [if_pos c] at h; obtain rfl := Option.some.inj h; subst c; exact num_Text_3 _
  rw [if_neg c] at h
  by_cases c : op = 4
  · rw [if_pos c] at h; obtain rfl := Option.some.inj h; subst c; exact num_Text_4 _
  rw [if_neg c] at h
  by_cases c : op = 5
  · rw [if_pos c] at h; obtain rfl := Option.some.inj h; subst c; exact num_Text_5 _
  rw [if_neg c] at h
  by_cases c : op = 6
  · rw [if_pos c] at h; obtain rfl := Option.some.inj h; subst c; exact num_Text_6 _
  rw [if_neg c] at h
  by_cases c : op = 7
  · rw [if_pos c] at h; obtain rfl := Option.some.inj h; subst c; exact num_Text_7 _
  rw [if_neg c] at h
  by_cases c : op = 8
  · rw [if_pos c] at h; obtain rfl := Option.some.inj h; subst c; exact num_Text_8 _
  rw [if_neg c] at h
  by_cases c : op = 9
  · rw [if_pos c] at h; obtain rfl := Option.some.inj h; subst c; exact num_Text_9 _
  rw [if_neg c] at h
  by_cases c : op = 10
  · rw [if_pos c] at h; obtain rfl := Option.some.inj h; subst c; exact num_Text_10 _
  rw [if_neg c] at h
  by_cases c : op = 11
  · rw [if_pos c] at h; obtain rfl := Option.some.inj h; subst c; exact num_Text_11 _
  rw [if_neg c] at h
  by_cases c : op = 12
  · rw [if_pos c] at h; obtain rfl := Option.some.inj h; subst c; exact num_Text_12 _
  rw [if_neg c] at h
  by_cases c : op = 13
  · rw [if_pos c] at h; obtain rfl := Option.some.inj h; subst c; exact num_Text_13 _
  rw [if_neg c] at h
  by_cases c : op = 14
  · rw [if_pos c] at h; obtain rfl := Option.some.inj h; subst c; exact num_Text_14 _
  rw [if_neg c] at h
  by_cases c : op = 15
  · rw [if_pos c] at h; obtain rfl := Option.some.inj h; subst c; exact num_Text_15 _
  rw [if_neg c] at h
  by_cases c : op = 16
  · rw [if_pos c] at h; obtain rfl := Option.some.inj h; subst c; exact num_Text_16 _
  rw [if_neg c] at h
  by_cases c : op = 17
  · rw [if_pos c] at h; obtain rfl := Option.some.inj h; subst c; exact num_Text_17 _
  rw [if_neg c] at h
  by_cases c : op = 18
  · rw [if_pos c] at h; obtain rfl := Option.some.inj h; subst c; exact num_Text_18 _
  rw [if_neg c] at h
  by_cases c : op = 19
  · rw [if_pos c] at h; obtain rfl := Option.some.inj h; subst c; exact num_Text_19 _
  rw [if_neg c] at h
  exact absurd h (by simp)

theorem num_UnaryText_0 (w : World) : Calls Try.prog 30 #[.int .i64 0] w fun e w' => e = .returned (.string (⟨#[45]⟩ : ByteArray)) ∧ Below w.heap.size w w' := by
  have hx : ∀ W : World, (Instr.index 51 (.agg #[.string ⟨#[45]⟩, .string ⟨#[126]⟩, .string ⟨#[33]⟩]) (.int .i64 0)).run Try.prog W = .ok (.string ⟨#[45]⟩) W := fun _ => by kernel_rfl
  go_enter Try.func30, Try.ntmps30
  go_wp2
  go_ret
  exact ⟨rfl, Below.refl _ _⟩
theorem num_UnaryText_1 (w : World) : Calls Try.prog 30 #[.int .i64 1] w fun e w' => e = .returned (.string (⟨#[126]⟩ : ByteArray)) ∧ Below w.heap.size w w' := by
  have hx : ∀ W : World, (Instr.index 51 (.agg #[.string ⟨#[45]⟩, .string ⟨#[126]⟩, .string ⟨#[33]⟩]) (.int .i64 1)).run Try.prog W = .ok (.string ⟨#[126]⟩) W := fun _ => by kernel_rfl
  go_enter Try.func30, Try.ntmps30
  go_wp2
  go_ret
  exact ⟨rfl, Below.refl _ _⟩
theorem num_UnaryText_2 (w : World) : Calls Try.prog 30 #[.int .i64 2] w fun e w' => e = .returned (.string (⟨#[33]⟩ : ByteArray)) ∧ Below w.heap.size w w' := by
  have hx : ∀ W : World, (Instr.index 51 (.agg #[.string ⟨#[45]⟩, .string ⟨#[126]⟩, .string ⟨#[33]⟩]) (.int .i64 2)).run Try.prog W = .ok (.string ⟨#[33]⟩) W := fun _ => by kernel_rfl
  go_enter Try.func30, Try.ntmps30
  go_wp2
  go_ret
  exact ⟨rfl, Below.refl _ _⟩
theorem num_UnaryText_low (op : Int) (w : World) (h : op < 0) : Calls Try.prog 30 #[.int .i64 op] w fun e w' => e = .returned (.string (⟨#[]⟩ : ByteArray)) ∧ Below w.heap.size w w' := by
  have h1 : decide (op < 0) = true := decide_eq_true h
  go_enter Try.func30, Try.ntmps30
  go_wp2
  go_ret
  exact ⟨rfl, Below.refl _ _⟩
theorem num_UnaryText_high (op : Int) (w : World) (h : op ≥ 3) : Calls Try.prog 30 #[.int .i64 op] w fun e w' => e = .returned (.string (⟨#[]⟩ : ByteArray)) ∧ Below w.heap.size w w' := by
  have h1 : decide (op < 0) = false := decide_eq_false (by omega)
  have h2 : decide (3 ≤ op) = true := decide_eq_true h
  go_enter Try.func30, Try.ntmps30
  go_wp2
  go_ret
  exact ⟨rfl, Below.refl _ _⟩
theorem num_UnaryText.calls (op : Int) (r : ByteArray) (w : World) (h : num_UnaryText.f op = some r) : Calls Try.prog 30 #[.int .i64 op] w fun e w' => e = .returned (.string r) ∧ Below w.heap.size w w' := by
  unfold num_UnaryText.f at h
  by_cases c : op < 0
  · rw [if_pos c] at h; obtain rfl := Option.some.inj h; exact num_UnaryText_low _ _ c
  rw [if_neg c] at h
  by_cases c : op ≥ 3
  · rw [if_pos c] at h; obtain rfl := Option.some.inj h; exact num_UnaryText_high _ _ c
  rw [if_neg c] at h
  by_cases c : op = 0
  · rw [if_pos c] at h; obtain rfl := Option.some.inj h; subst c; exact num_UnaryText_0 _
  rw [if_neg c] at h
  by_cases c : op = 1
  · rw [if_pos c] at h; obtain rfl := Option.some.inj h; subst c; exact num_UnaryText_1 _
  rw [if_neg c] at h
  by_cases c : op = 2
  · rw [if_pos c] at h; obtain rfl := Option.some.inj h; subst c; exact num_UnaryText_2 _
  rw [if_neg c] at h
  exact absurd h (by simp)

end Go.Proofs.Ytkahmcdnnknhmaa
