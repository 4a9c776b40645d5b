/- Texts of this claim, cut down to what its theorem uses and laid end to end (wip/shake.py). -/
import Derived.ArgAppend
import Derived.Below
import Derived.BigQuiet
import Derived.ChangeOld
import Derived.ChangeSlices
import Derived.Deep.AppendLies
import Derived.Deep.CutBlock
import Derived.Deep.DeepCutAuto
import Derived.Deep.Draws
import Derived.Deep.LoopGhost
import Derived.Deep.Matrix
import Derived.Deep.OwnRows
import Derived.Deep.QuietTactic
import Derived.Deep.RegionHeld3
import Derived.KernelRfl
import Derived.Laws.BitsLemmas
import Derived.Laws.BytesArg
import Derived.Laws.CopyOwn
import Derived.Laws.IdiomCopy
import Derived.Laws.MakeOwn
import Derived.Laws.OwnMore
import Derived.Laws.Rows
import Derived.Laws.Slices
import Derived.Laws.StructEq
import Derived.Lib.AppendStr
import Derived.Lib.ConvBytes
import Derived.LoopIn
import Derived.LoopNIn
import Derived.Maps.AppendAt
import Derived.OpenShut
import Derived.OrdersHeld
import Derived.OwnWalk
import Derived.OwnWalkIn
import Derived.ProofKit
import Derived.RangeFuncBound
import Derived.RangeFuncBox
import Derived.RangeFuncCalls
import Derived.RangeFuncFrom
import Derived.RangeFuncLeaves
import Derived.RangeFuncNested
import Derived.RowKit
import Derived.RowKit3
import Derived.Shelf.Abstract
import Derived.ShutString
import Derived.SizedLaws
import Derived.Tactics
import Derived.TacticsInMore
import Derived.Test.YtjjedbcgkljdeaaProg
import Derived.WalkKit
import Derived.WideLaws
import GoSem.ClaimData
import Derived.Test.YtjjedbcgkljdeaaKRenamed0
section
namespace Go.Proofs.Ytjjedbcgkljdeaa.A
open Go.RowKit Go.Proofs.YtjjedbcgkljdeaaW.PrintWords Go.Proofs.YtjjedbcgkljdeaaW.PrintLast Go.Proofs.YtjjedbcgkljdeaaW.PrintMore
set_option linter.unusedVariables false
set_option linter.unusedSimpArgs false
def graph_above.l0 : Nat → List Int → Int → Int → Option (Bool)
 | 0, _, _, _ => none
 | k + 1, x0, x1, x2 => if x2 ≥ 0 then (if x2 = x1 then (some (x2 == x1)) else (if 0 ≤ x2 then (if x2 < (x0.length : Int) then (graph_above.l0 k x0 x1 (rd x0 x2)) else (none)) else (none))) else (some (x2 == x1))
def graph_above.f (k : Nat) (l0 : List Int) (a1 : Int) (a2 : Int) : Option (Bool) := graph_above.l0 k l0 a1 a2
theorem graph_above.mono_l : ∀ k, (∀ y0 y1 y2, LeO (graph_above.l0 k y0 y1 y2) (graph_above.l0 (k + 1) y0 y1 y2))
 | 0 => fun _ _ _ r h => by simp [graph_above.l0] at h
 | k + 1 => by
  have ih0 := graph_above.mono_l k
  ·intro y0 y1 y2
   unfold graph_above.l0
   repeat' first
   | (with_reducible exact ih0 _ _ _)
   | (with_reducible exact LeO.refl _)
   | (with_reducible exact LeO.none _)
   | (with_reducible refine LeO.ite ?_ ?_)
   | (with_reducible refine LeO.bind ?_ (fun _ => ?_))
theorem graph_above.mono : ∀ a0 a1 a2 k, LeO (graph_above.f k a0 a1 a2) (graph_above.f (k + 1) a0 a1 a2) := by
 intro a0 a1 a2 k
 have ih0 := graph_above.mono_l k; unfold graph_above.f
 repeat' first
   | (with_reducible exact ih0 _ _ _)
   | (with_reducible exact LeO.refl _)
   | (with_reducible exact LeO.none _)
   | (with_reducible refine LeO.ite ?_ ?_)
   | (with_reducible refine LeO.bind ?_ (fun _ => ?_))
set_option maxHeartbeats 8000000 in
set_option maxRecDepth 100000 in
theorem graph_above.calls (k : Nat) (A0 : Option Addr) (c0 : Nat) (l0 : List Int) (a1 : Int) (a2 : Int) (r : Bool) (w : World) (hr0 : Kd.C (Kd.int .i64) w A0 l0.length l0) (hc0 : l0.length ≤ c0) (h : graph_above.f k l0 a1 a2 = some r) :
  Calls Try.prog 63 #[.slice A0 l0.length c0, .int .i64 a1, .int .i64 a2] w fun e w' => e = .returned (.bool r) ∧ Drawn0 w w' := by
 have HR0 := Aside0.mk hr0; have HC0 := Aside0.mk hc0; clear hr0 hc0; have H : (graph_above.l0 k l0 a1 a2) = some r := h
 clear h; have H' := Aside0.mk H
 clear H; go_enter Try.func63, Try.ntmps63
 go_wp2
 go_loopg [2] k (fun kq v2 w' => ∃ (x2_1 : Int), v2 = .int .i64 x2_1 ∧ Aside0 (graph_above.l0 kq l0 a1 x2_1 = some r) ∧ Aside0 (kq ≤ k) ∧ Drawn0 w w')
 case atStart => exact ⟨(a2), (by first | rfl | (simp; done) | (simp [*]; done)), H', ⟨Nat.le_refl _⟩, by repeat (first | exact Drawn0.refl _ | apply Drawn0.step)⟩
 case round =>
  clear H'; try clear p2
  obtain ⟨x2_1, rfl, HA, HK1, ⟨m1, rfl⟩⟩ := hrel; cases gk with
  | zero => exact absurd HA.out (by simp [graph_above.l0])
  | succ k1 =>
   have H := HA.out; clear HA; simp only [graph_above.l0] at H
   by_cases c4 : x2_1 ≥ 0
   ·rw [if_pos c4] at H; have c4b0 : decide (0 ≤ x2_1) = true := decide_eq_true c4
    clear c4; by_cases c5 : x2_1 = a1
    ·rw [if_pos c5] at H; have c5b0 : (x2_1 == a1) = true := beq_iff_eq.mpr c5
     have c5b1 : (x2_1 != a1) = false := bne_eq_false_iff_eq.mpr c5
     clear c5; obtain rfl := Option.some.inj H; go_wp2
     go_ret
     exact ⟨by first | rfl | (simp; done) | (simp [*]; done), by repeat (first | exact Drawn0.refl _ | apply Drawn0.step)⟩
    ·rw [if_neg c5] at H; have c5b0 : (x2_1 == a1) = false := beq_eq_false_iff_ne.mpr c5
     have c5b1 : (x2_1 != a1) = true := bne_iff_ne.mpr c5
     by_cases c6 : 0 ≤ x2_1
     ·rw [if_pos c6] at H; have c6b0 : decide (0 ≤ x2_1) = true := decide_eq_true c6
      clear c6; by_cases c7 : x2_1 < (l0.length : Int)
      ·rw [if_pos c7] at H; have c7b0 : decide (x2_1 < (l0.length : Int)) = true := decide_eq_true c7
       clear c7; have H' := Aside0.mk H
       clear H; have p130 : 0 ≤ (x2_1 : Int) := of_decide_eq_true (by with_reducible assumption)
       have q130 : x2_1 < (l0.length : Int) := of_decide_eq_true (by with_reducible assumption)
       obtain ⟨ad130, e130, hx130_0⟩ := Kd.at_int HR0.out x2_1 p130 q130; cases e130; replace p130 := eq_true p130; replace q130 := eq_true q130; go_wp2
       go_roundg k1
       case measure => have := HK1.out; omega
       case rel => exact ⟨(rd l0 x2_1), (by first | rfl | (simp; done) | (simp [*]; done)), H', ⟨by have := HK1.out; omega⟩, by repeat (first | exact Drawn0.refl _ | apply Drawn0.step)⟩
      ·rw [if_neg c7] at H; exact absurd H (by simp)
     ·rw [if_neg c6] at H; exact absurd H (by simp)
   ·rw [if_neg c4] at H; have c4b0 : decide (0 ≤ x2_1) = false := decide_eq_false c4
    clear c4; obtain rfl := Option.some.inj H; go_wp2
    go_ret
    exact ⟨by first | rfl | (simp; done) | (simp [*]; done), by repeat (first | exact Drawn0.refl _ | apply Drawn0.step)⟩
mutual
def r7_Valid.j0 : Nat → List (List Int) → Bool → Option (Bool)
 | 0, _, _ => none
 | k + 1, x0, x12 => if x12 = true then (some false) else (r7_Valid.l0 k x0 0)
def r7_Valid.l0 : Nat → List (List Int) → Int → Option (Bool)
 | 0, _, _ => none
 | k + 1, x0, x3 => if x3 < (x0.length : Int) then (if 0 ≤ x3 then (if ((rd_L1 x0 x3).length : Int) > 2 then (some false) else (r7_Valid.l1 k x0 x3 0)) else (none)) else (some true)
def r7_Valid.l1 : Nat → List (List Int) → Int → Int → Option (Bool)
 | 0, _, _, _ => none
 | k + 1, x0, x3, x4 => if 0 ≤ x3 then (if x3 < (x0.length : Int) then (if x4 < ((rd_L1 x0 x3).length : Int) then (if 0 ≤ x4 then (if (rd (rd_L1 x0 x3) x4) < 0 then (some false) else (if (rd (rd_L1 x0 x3) x4) ≥ (x0.length : Int) then (some false) else (r7_Valid.l1 k x0 x3 (wrap64 (x4 + 1))))) else (none)) else (r7_Valid.l0 k x0 (wrap64 (x3 + 1)))) else (none)) else (none)
end
def r7_Valid.f (k : Nat) (l0 : List (List Int)) : Option (Bool) := if (l0.length : Int) < 1 then (r7_Valid.j0 k l0 true) else (r7_Valid.j0 k l0 (decide ((l0.length : Int) > 2000)))
set_option maxHeartbeats 8000000 in
set_option maxRecDepth 100000 in
theorem r7_Valid.calls (k : Nat) (A0 : Option Addr) (c0 : Nat) (l0 : List (List Int)) (r : Bool) (w : World) (hr0 : Kd.C (Kd.slice 3 (Kd.int .i64)) w A0 l0.length l0) (hc0 : l0.length ≤ c0) (h : r7_Valid.f k l0 = some r) :
  Calls Try.prog 57 #[.slice A0 l0.length c0] w fun e w' => e = .returned (.bool r) ∧ Drawn0 w w' := by
 have HR0 := Aside0.mk hr0; have HC0 := Aside0.mk hc0; clear hr0 hc0; have H : (if (l0.length : Int) < 1 then (r7_Valid.j0 k l0 true) else (r7_Valid.j0 k l0 (decide ((l0.length : Int) > 2000)))) = some r := h
 clear h; have HC2 := Aside0.mk H; clear H; go_enter Try.func57, Try.ntmps57
 go_upto_region 1 with (fail)
 go_cut [12] (fun v12 wc => ∃ (kq : Nat) (x12_1 : Bool), v12 = .bool x12_1 ∧ Aside0 (r7_Valid.j0 kq l0 x12_1 = some r) ∧ Aside0 (kq ≤ k) ∧ Drawn0 w wc)
 case first =>
  have H := HC2.out; clear HC2; by_cases c3 : (l0.length : Int) < 1
  ·rw [if_pos c3] at H; have c3b0 : decide ((l0.length : Int) < 1) = true := decide_eq_true c3
   have c3b1 : decide (l0.length < 1) = true := decide_eq_true (by omega)
   clear c3; (first | rw [c3b0] | (simp only [i64_w, i32_w]; rw [c3b0]) | skip)
   have H' := Aside0.mk H
   clear H; go_wp2
   go_meet
   case rel => exact ⟨_, (true), (by first | rfl | (simp; done) | (simp [*]; done)), H', ⟨by first | omega | exact Nat.le_refl _⟩, by repeat (first | exact Drawn0.refl _ | apply Drawn0.step)⟩
  ·rw [if_neg c3] at H; have c3b0 : decide ((l0.length : Int) < 1) = false := decide_eq_false c3
   have c3b1 : decide (l0.length < 1) = false := decide_eq_false (by omega)
   clear c3; (first | rw [c3b0] | (simp only [i64_w, i32_w]; rw [c3b0]) | skip)
   have H' := Aside0.mk H
   clear H; go_wp2
   go_meet
   case rel => exact ⟨_, (decide ((l0.length : Int) > 2000)), (by first | rfl | (simp; done) | (simp [*]; done)), H', ⟨by first | omega | exact Nat.le_refl _⟩, by repeat (first | exact Drawn0.refl _ | apply Drawn0.step)⟩
 case rest =>
  clear HC2; try clear p2
  try clear c3
  try clear c3b0
  try clear c3b1
  obtain ⟨kq, x12_1, rfl, HA, HJ1, ⟨mc1, rfl⟩⟩ := hcut; cases kq with
  | zero => exact absurd HA.out (by simp [r7_Valid.j0])
  | succ kj1 =>
   have H := HA.out; clear HA; simp only [r7_Valid.j0] at H
   by_cases c4 : x12_1 = true
   ·subst c4; have H1 : (some false) = some r := by rw [if_pos rfl] at H; exact H
    clear H; have H := H1; clear H1; obtain rfl := Option.some.inj H; go_wp2
    go_ret
    exact ⟨by first | rfl | (simp; done) | (simp [*]; done), by repeat (first | exact Drawn0.refl _ | apply Drawn0.step)⟩
   ·replace c4 := Bool.eq_false_iff.mpr c4; subst c4; have H1 : (r7_Valid.l0 kj1 l0 0) = some r := by rw [if_neg (show ¬ (false = true) by decide)] at H; exact H
    clear H; have H := H1; clear H1; have H' := Aside0.mk H
    clear H; go_wp2
    go_loopg [3] kj1 (fun kq v3 w' => ∃ (x3_2 : Int), v3 = .int .i64 x3_2 ∧ Aside0 (r7_Valid.l0 kq l0 x3_2 = some r) ∧ Aside0 (kq ≤ kj1) ∧ Drawn0 w w')
    case atStart => exact ⟨(0), (by first | rfl | (simp; done) | (simp [*]; done)), H', ⟨Nat.le_refl _⟩, by repeat (first | exact Drawn0.refl _ | apply Drawn0.step)⟩
    case round =>
     clear H'; try clear c1
     try clear p2
     try clear c3
     try clear c3b0
     try clear c3b1
     try clear c4
     try clear p2
     obtain ⟨x3_2, rfl, HA, HK2, ⟨m2, rfl⟩⟩ := hrel; cases gk with
     | zero => exact absurd HA.out (by simp [r7_Valid.l0])
     | succ k2 =>
      have H := HA.out; clear HA; simp only [r7_Valid.l0] at H
      by_cases c5 : x3_2 < (l0.length : Int)
      ·rw [if_pos c5] at H; have c5b0 : decide (x3_2 < (l0.length : Int)) = true := decide_eq_true c5
       clear c5; by_cases c6 : 0 ≤ x3_2
       ·rw [if_pos c6] at H; have c6b0 : decide (0 ≤ x3_2) = true := decide_eq_true c6
        clear c6; by_cases c7 : ((rd_L1 l0 x3_2).length : Int) > 2
        ·rw [if_pos c7] at H; have c7b0 : decide (2 < ((rd_L1 l0 x3_2).length : Int)) = true := decide_eq_true c7
         have c7b1 : decide (2 < (rd_L1 l0 x3_2).length) = true := decide_eq_true (by omega)
         clear c7; obtain rfl := Option.some.inj H; have p131 : 0 ≤ (x3_2 : Int) := of_decide_eq_true (by with_reducible assumption)
         have q131 : x3_2 < (l0.length : Int) := of_decide_eq_true (by with_reducible assumption)
         obtain ⟨ad131, A131_0, c131_0, e131, hx131_0, hl131_0, hi131_0⟩ := at_L1 HR0.out x3_2 p131 q131; cases e131; have HR131_0 := Aside0.mk hi131_0; have HC131_0 := Aside0.mk hl131_0; clear hi131_0 hl131_0; replace p131 := eq_true p131; replace q131 := eq_true q131; go_wp2
         go_ret
         exact ⟨by first | rfl | (simp; done) | (simp [*]; done), by repeat (first | exact Drawn0.refl _ | apply Drawn0.step)⟩
        ·rw [if_neg c7] at H; have c7b0 : decide (2 < ((rd_L1 l0 x3_2).length : Int)) = false := decide_eq_false c7
         have c7b1 : decide (2 < (rd_L1 l0 x3_2).length) = false := decide_eq_false (by omega)
         clear c7; have H' := Aside0.mk H
         clear H; have p131 : 0 ≤ (x3_2 : Int) := of_decide_eq_true (by with_reducible assumption)
         have q131 : x3_2 < (l0.length : Int) := of_decide_eq_true (by with_reducible assumption)
         obtain ⟨ad131, A131_0, c131_0, e131, hx131_0, hl131_0, hi131_0⟩ := at_L1 HR0.out x3_2 p131 q131; cases e131; have HR131_0 := Aside0.mk hi131_0; have HC131_0 := Aside0.mk hl131_0; clear hi131_0 hl131_0; replace p131 := eq_true p131; replace q131 := eq_true q131; go_wp2
         go_loopg [4] k2 (fun kq v4 w' => ∃ (x4_3 : Int), v4 = .int .i64 x4_3 ∧ Aside0 (r7_Valid.l1 kq l0 x3_2 x4_3 = some r) ∧ Aside0 (kq ≤ k2) ∧ Drawn0 w w')
         case atStart => exact ⟨(0), (by first | rfl | (simp; done) | (simp [*]; done)), H', ⟨Nat.le_refl _⟩, by repeat (first | exact Drawn0.refl _ | apply Drawn0.step)⟩
         case round =>
          clear H'; try clear c1
          try clear p1
          try clear q1
          try clear hx1
          try clear p2
          try clear c3
          try clear c3b0
          try clear c3b1
          try clear c4
          try clear c5
          try clear c5b0
          try clear c6
          try clear c6b0
          try clear c7
          try clear c7b0
          try clear c7b1
          try clear hx131_0
          try clear p131
          try clear p2
          try clear q131
          obtain ⟨x4_3, rfl, HA, HK3, ⟨m3, rfl⟩⟩ := hrel; cases gk with
          | zero => exact absurd HA.out (by simp [r7_Valid.l1])
          | succ k3 =>
           have H := HA.out; clear HA; simp only [r7_Valid.l1] at H
           by_cases c8 : 0 ≤ x3_2
           ·rw [if_pos c8] at H; have c8b0 : decide (0 ≤ x3_2) = true := decide_eq_true c8
            clear c8; by_cases c9 : x3_2 < (l0.length : Int)
            ·rw [if_pos c9] at H; have c9b0 : decide (x3_2 < (l0.length : Int)) = true := decide_eq_true c9
             clear c9; by_cases c10 : x4_3 < ((rd_L1 l0 x3_2).length : Int)
             ·rw [if_pos c10] at H; have c10b0 : decide (x4_3 < ((rd_L1 l0 x3_2).length : Int)) = true := decide_eq_true c10
              clear c10; by_cases c11 : 0 ≤ x4_3
              ·rw [if_pos c11] at H; have c11b0 : decide (0 ≤ x4_3) = true := decide_eq_true c11
               clear c11; by_cases c12 : (rd (rd_L1 l0 x3_2) x4_3) < 0
               ·rw [if_pos c12] at H; have c12b0 : decide ((rd (rd_L1 l0 x3_2) x4_3) < 0) = true := decide_eq_true c12
                clear c12; obtain rfl := Option.some.inj H; have p132 : 0 ≤ (x3_2 : Int) := of_decide_eq_true (by with_reducible assumption)
                have q132 : x3_2 < (l0.length : Int) := of_decide_eq_true (by with_reducible assumption)
                obtain ⟨ad132, A132_0, c132_0, e132, hx132_0, hl132_0, hi132_0⟩ := at_L1 HR0.out x3_2 p132 q132; obtain rfl : ad131 = ad132 := (by injection e132)
                have HR132_0 := Aside0.mk hi132_0; have HC132_0 := Aside0.mk hl132_0; clear hi132_0 hl132_0; replace p132 := eq_true p132; replace q132 := eq_true q132; have p133 : 0 ≤ (x3_2 : Int) := of_decide_eq_true (by with_reducible assumption)
                have q133 : x3_2 < (l0.length : Int) := of_decide_eq_true (by with_reducible assumption)
                obtain ⟨ad133, A133_0, c133_0, e133, hx133_0, hl133_0, hi133_0⟩ := at_L1 HR0.out x3_2 p133 q133; obtain rfl : ad131 = ad133 := (by injection e133)
                have HR133_0 := Aside0.mk hi133_0; have HC133_0 := Aside0.mk hl133_0; clear hi133_0 hl133_0; replace p133 := eq_true p133; replace q133 := eq_true q133; have ea_ := Option.some.inj (hx132_0.symm.trans hx133_0); injection ea_ with ea_ en_ ec_
                subst ea_; subst ec_; clear en_; have p134 : 0 ≤ (x4_3 : Int) := of_decide_eq_true (by with_reducible assumption)
                have q134 : x4_3 < ((rd_L1 l0 x3_2).length : Int) := of_decide_eq_true (by with_reducible assumption)
                obtain ⟨ad134, e134, hx134_0⟩ := Kd.at_int HR133_0.out x4_3 p134 q134; cases e134; replace p134 := eq_true p134; replace q134 := eq_true q134; go_wp2
                go_ret
                exact ⟨by first | rfl | (simp; done) | (simp [*]; done), by repeat (first | exact Drawn0.refl _ | apply Drawn0.step)⟩
               ·rw [if_neg c12] at H; have c12b0 : decide ((rd (rd_L1 l0 x3_2) x4_3) < 0) = false := decide_eq_false c12
                clear c12; by_cases c13 : (rd (rd_L1 l0 x3_2) x4_3) ≥ (l0.length : Int)
                ·rw [if_pos c13] at H; have c13b0 : decide ((l0.length : Int) ≤ (rd (rd_L1 l0 x3_2) x4_3)) = true := decide_eq_true c13
                 clear c13; obtain rfl := Option.some.inj H; have p132 : 0 ≤ (x3_2 : Int) := of_decide_eq_true (by with_reducible assumption)
                 have q132 : x3_2 < (l0.length : Int) := of_decide_eq_true (by with_reducible assumption)
                 obtain ⟨ad132, A132_0, c132_0, e132, hx132_0, hl132_0, hi132_0⟩ := at_L1 HR0.out x3_2 p132 q132; obtain rfl : ad131 = ad132 := (by injection e132)
                 have HR132_0 := Aside0.mk hi132_0; have HC132_0 := Aside0.mk hl132_0; clear hi132_0 hl132_0; replace p132 := eq_true p132; replace q132 := eq_true q132; have p133 : 0 ≤ (x3_2 : Int) := of_decide_eq_true (by with_reducible assumption)
                 have q133 : x3_2 < (l0.length : Int) := of_decide_eq_true (by with_reducible assumption)
                 obtain ⟨ad133, A133_0, c133_0, e133, hx133_0, hl133_0, hi133_0⟩ := at_L1 HR0.out x3_2 p133 q133; obtain rfl : ad131 = ad133 := (by injection e133)
                 have HR133_0 := Aside0.mk hi133_0; have HC133_0 := Aside0.mk hl133_0; clear hi133_0 hl133_0; replace p133 := eq_true p133; replace q133 := eq_true q133; have ea_ := Option.some.inj (hx132_0.symm.trans hx133_0); injection ea_ with ea_ en_ ec_
                 subst ea_; subst ec_; clear en_; have p134 : 0 ≤ (x4_3 : Int) := of_decide_eq_true (by with_reducible assumption)
                 have q134 : x4_3 < ((rd_L1 l0 x3_2).length : Int) := of_decide_eq_true (by with_reducible assumption)
                 obtain ⟨ad134, e134, hx134_0⟩ := Kd.at_int HR133_0.out x4_3 p134 q134; cases e134; replace p134 := eq_true p134; replace q134 := eq_true q134; have p135 : 0 ≤ (x3_2 : Int) := of_decide_eq_true (by with_reducible assumption)
                 have q135 : x3_2 < (l0.length : Int) := of_decide_eq_true (by with_reducible assumption)
                 obtain ⟨ad135, A135_0, c135_0, e135, hx135_0, hl135_0, hi135_0⟩ := at_L1 HR0.out x3_2 p135 q135; obtain rfl : ad131 = ad135 := (by injection e135)
                 have HR135_0 := Aside0.mk hi135_0; have HC135_0 := Aside0.mk hl135_0; clear hi135_0 hl135_0; replace p135 := eq_true p135; replace q135 := eq_true q135; have ea_ := Option.some.inj (hx132_0.symm.trans hx135_0); injection ea_ with ea_ en_ ec_
                 subst ea_; subst ec_; clear en_; have p136 : 0 ≤ (x4_3 : Int) := of_decide_eq_true (by with_reducible assumption)
                 have q136 : x4_3 < ((rd_L1 l0 x3_2).length : Int) := of_decide_eq_true (by with_reducible assumption)
                 obtain ⟨ad136, e136, hx136_0⟩ := Kd.at_int HR135_0.out x4_3 p136 q136; cases e136; replace p136 := eq_true p136; replace q136 := eq_true q136; go_wp2
                 go_ret
                 exact ⟨by first | rfl | (simp; done) | (simp [*]; done), by repeat (first | exact Drawn0.refl _ | apply Drawn0.step)⟩
                ·rw [if_neg c13] at H; have c13b0 : decide ((l0.length : Int) ≤ (rd (rd_L1 l0 x3_2) x4_3)) = false := decide_eq_false c13
                 clear c13; have H' := Aside0.mk H
                 clear H; have p132 : 0 ≤ (x3_2 : Int) := of_decide_eq_true (by with_reducible assumption)
                 have q132 : x3_2 < (l0.length : Int) := of_decide_eq_true (by with_reducible assumption)
                 obtain ⟨ad132, A132_0, c132_0, e132, hx132_0, hl132_0, hi132_0⟩ := at_L1 HR0.out x3_2 p132 q132; obtain rfl : ad131 = ad132 := (by injection e132)
                 have HR132_0 := Aside0.mk hi132_0; have HC132_0 := Aside0.mk hl132_0; clear hi132_0 hl132_0; replace p132 := eq_true p132; replace q132 := eq_true q132; have p133 : 0 ≤ (x3_2 : Int) := of_decide_eq_true (by with_reducible assumption)
                 have q133 : x3_2 < (l0.length : Int) := of_decide_eq_true (by with_reducible assumption)
                 obtain ⟨ad133, A133_0, c133_0, e133, hx133_0, hl133_0, hi133_0⟩ := at_L1 HR0.out x3_2 p133 q133; obtain rfl : ad131 = ad133 := (by injection e133)
                 have HR133_0 := Aside0.mk hi133_0; have HC133_0 := Aside0.mk hl133_0; clear hi133_0 hl133_0; replace p133 := eq_true p133; replace q133 := eq_true q133; have ea_ := Option.some.inj (hx132_0.symm.trans hx133_0); injection ea_ with ea_ en_ ec_
                 subst ea_; subst ec_; clear en_; have p134 : 0 ≤ (x4_3 : Int) := of_decide_eq_true (by with_reducible assumption)
                 have q134 : x4_3 < ((rd_L1 l0 x3_2).length : Int) := of_decide_eq_true (by with_reducible assumption)
                 obtain ⟨ad134, e134, hx134_0⟩ := Kd.at_int HR133_0.out x4_3 p134 q134; cases e134; replace p134 := eq_true p134; replace q134 := eq_true q134; have p135 : 0 ≤ (x3_2 : Int) := of_decide_eq_true (by with_reducible assumption)
                 have q135 : x3_2 < (l0.length : Int) := of_decide_eq_true (by with_reducible assumption)
                 obtain ⟨ad135, A135_0, c135_0, e135, hx135_0, hl135_0, hi135_0⟩ := at_L1 HR0.out x3_2 p135 q135; obtain rfl : ad131 = ad135 := (by injection e135)
                 have HR135_0 := Aside0.mk hi135_0; have HC135_0 := Aside0.mk hl135_0; clear hi135_0 hl135_0; replace p135 := eq_true p135; replace q135 := eq_true q135; have ea_ := Option.some.inj (hx132_0.symm.trans hx135_0); injection ea_ with ea_ en_ ec_
                 subst ea_; subst ec_; clear en_; have p136 : 0 ≤ (x4_3 : Int) := of_decide_eq_true (by with_reducible assumption)
                 have q136 : x4_3 < ((rd_L1 l0 x3_2).length : Int) := of_decide_eq_true (by with_reducible assumption)
                 obtain ⟨ad136, e136, hx136_0⟩ := Kd.at_int HR135_0.out x4_3 p136 q136; cases e136; replace p136 := eq_true p136; replace q136 := eq_true q136; go_wp2
                 go_roundg k3
                 case measure => have := HJ1.out; have := HK2.out; have := HK3.out; omega
                 case rel => exact ⟨(wrap64 (x4_3 + 1)), (by first | rfl | (simp; done) | (simp [*]; done)), H', ⟨by have := HJ1.out; have := HK2.out; have := HK3.out; omega⟩, by repeat (first | exact Drawn0.refl _ | apply Drawn0.step)⟩
              ·rw [if_neg c11] at H; exact absurd H (by simp)
             ·rw [if_neg c10] at H; have c10b0 : decide (x4_3 < ((rd_L1 l0 x3_2).length : Int)) = false := decide_eq_false c10
              clear c10; have H' := Aside0.mk H
              clear H; have p132 : 0 ≤ (x3_2 : Int) := of_decide_eq_true (by with_reducible assumption)
              have q132 : x3_2 < (l0.length : Int) := of_decide_eq_true (by with_reducible assumption)
              obtain ⟨ad132, A132_0, c132_0, e132, hx132_0, hl132_0, hi132_0⟩ := at_L1 HR0.out x3_2 p132 q132; obtain rfl : ad131 = ad132 := (by injection e132)
              have HR132_0 := Aside0.mk hi132_0; have HC132_0 := Aside0.mk hl132_0; clear hi132_0 hl132_0; replace p132 := eq_true p132; replace q132 := eq_true q132; go_wp2
              go_roundg k3
              case measure => have := HJ1.out; have := HK2.out; have := HK3.out; omega
              case rel => exact ⟨(wrap64 (x3_2 + 1)), (by first | rfl | (simp; done) | (simp [*]; done)), H', ⟨by have := HJ1.out; have := HK2.out; have := HK3.out; omega⟩, by repeat (first | exact Drawn0.refl _ | apply Drawn0.step)⟩
            ·rw [if_neg c9] at H; exact absurd H (by simp)
           ·rw [if_neg c8] at H; exact absurd H (by simp)
       ·rw [if_neg c6] at H; exact absurd H (by simp)
      ·rw [if_neg c5] at H; have c5b0 : decide (x3_2 < (l0.length : Int)) = false := decide_eq_false c5
       clear c5; obtain rfl := Option.some.inj H; go_wp2
       go_ret
       exact ⟨by first | rfl | (simp; done) | (simp [*]; done), by repeat (first | exact Drawn0.refl _ | apply Drawn0.step)⟩
end Go.Proofs.Ytjjedbcgkljdeaa.A
end
section
namespace Go.Proofs.Ytjjedbcgkljdeaa.A
open Go.RowKit Go.Proofs.YtjjedbcgkljdeaaW.PrintWords Go.Proofs.YtjjedbcgkljdeaaW.PrintLast Go.Proofs.YtjjedbcgkljdeaaW.PrintMore
set_option linter.unusedVariables false
set_option linter.unusedSimpArgs false
mutual
def l7_wide.l0 : Nat → List (List Int) → Int → Option (Bool)
 | 0, _, _ => none
 | k + 1, x0, x3 => if x3 < (x0.length : Int) then (l7_wide.j1 k x0 x3 (decide (x3 ≤ 40))) else (l7_wide.j1 k x0 x3 false)
def l7_wide.j1 : Nat → List (List Int) → Int → Bool → Option (Bool)
 | 0, _, _, _ => none
 | k + 1, x0, x3, x11 => if x11 = true then (if 0 ≤ x3 then (if x3 < (x0.length : Int) then (if ((rd_L1 x0 x3).length : Int) > 4 then (some true) else (l7_wide.l0 k x0 (wrap64 (x3 + 1)))) else (none)) else (none)) else (some (decide ((x0.length : Int) > 40)))
end
def l7_wide.f (k : Nat) (l0 : List (List Int)) : Option (Bool) := l7_wide.l0 k l0 0
set_option maxHeartbeats 8000000 in
set_option maxRecDepth 100000 in
theorem l7_wide.calls (k : Nat) (A0 : Option Addr) (c0 : Nat) (l0 : List (List Int)) (r : Bool) (w : World) (hr0 : Kd.C (Kd.slice 3 (Kd.int .i64)) w A0 l0.length l0) (hc0 : l0.length ≤ c0) (h : l7_wide.f k l0 = some r) :
  Calls Try.prog 13 #[.slice A0 l0.length c0] w fun e w' => e = .returned (.bool r) ∧ Drawn0 w w' := by
 have HR0 := Aside0.mk hr0; have HC0 := Aside0.mk hc0; clear hr0 hc0; have H : (l7_wide.l0 k l0 0) = some r := h
 clear h; have H' := Aside0.mk H
 clear H; go_enter Try.func13, Try.ntmps13
 go_wp2
 go_loopg [3] k (fun kq v3 w' => ∃ (x3_1 : Int), v3 = .int .i64 x3_1 ∧ Aside0 (l7_wide.l0 kq l0 x3_1 = some r) ∧ Aside0 (kq ≤ k) ∧ Drawn0 w w')
 case atStart => exact ⟨(0), (by first | rfl | (simp; done) | (simp [*]; done)), H', ⟨Nat.le_refl _⟩, by repeat (first | exact Drawn0.refl _ | apply Drawn0.step)⟩
 case round =>
  clear H'; try clear c1
  obtain ⟨x3_1, rfl, HA, HK1, ⟨m1, rfl⟩⟩ := hrel; cases gk with
  | zero => exact absurd HA.out (by simp [l7_wide.l0])
  | succ k1 =>
   have H := HA.out; clear HA; simp only [l7_wide.l0] at H
   have HC2 := Aside0.mk H; clear H; go_upto_region 2 with (fail)
   go_cut [11] (fun v11 wc => ∃ (kq : Nat) (x11_1 : Bool), v11 = .bool x11_1 ∧ Aside0 (l7_wide.j1 kq l0 x3_1 x11_1 = some r) ∧ Aside0 (kq ≤ k1) ∧ Drawn0 w wc)
   case first =>
    have H := HC2.out; clear HC2; by_cases c3 : x3_1 < (l0.length : Int)
    ·rw [if_pos c3] at H; have c3b0 : decide (x3_1 < (l0.length : Int)) = true := decide_eq_true c3
     clear c3; (first | rw [c3b0] | (simp only [i64_w, i32_w]; rw [c3b0]) | skip)
     have H' := Aside0.mk H
     clear H; go_wp2
     go_meet
     case rel => exact ⟨_, (decide (x3_1 ≤ 40)), (by first | rfl | (simp; done) | (simp [*]; done)), H', ⟨by have := HK1.out; first | omega | exact Nat.le_refl _⟩, by repeat (first | exact Drawn0.refl _ | apply Drawn0.step)⟩
    ·rw [if_neg c3] at H; have c3b0 : decide (x3_1 < (l0.length : Int)) = false := decide_eq_false c3
     clear c3; (first | rw [c3b0] | (simp only [i64_w, i32_w]; rw [c3b0]) | skip)
     have H' := Aside0.mk H
     clear H; go_wp2
     go_meet
     case rel => exact ⟨_, (false), (by first | rfl | (simp; done) | (simp [*]; done)), H', ⟨by have := HK1.out; first | omega | exact Nat.le_refl _⟩, by repeat (first | exact Drawn0.refl _ | apply Drawn0.step)⟩
   case rest =>
    clear HC2; try clear c1
    try clear p2
    try clear c3
    try clear c3b0
    obtain ⟨kq, x11_1, rfl, HA, HJ1, ⟨mc1, rfl⟩⟩ := hcut; cases kq with
    | zero => exact absurd HA.out (by simp [l7_wide.j1])
    | succ kj1 =>
     have H := HA.out; clear HA; simp only [l7_wide.j1] at H
     by_cases c4 : x11_1 = true
     ·subst c4; have H1 : (if 0 ≤ x3_1 then (if x3_1 < (l0.length : Int) then (if ((rd_L1 l0 x3_1).length : Int) > 4 then (some true) else (l7_wide.l0 kj1 l0 (wrap64 (x3_1 + 1)))) else (none)) else (none)) = some r := by rw [if_pos rfl] at H; exact H
      clear H; have H := H1; clear H1; by_cases c5 : 0 ≤ x3_1
      ·rw [if_pos c5] at H; have c5b0 : decide (0 ≤ x3_1) = true := decide_eq_true c5
       clear c5; by_cases c6 : x3_1 < (l0.length : Int)
       ·rw [if_pos c6] at H; have c6b0 : decide (x3_1 < (l0.length : Int)) = true := decide_eq_true c6
        clear c6; by_cases c7 : ((rd_L1 l0 x3_1).length : Int) > 4
        ·rw [if_pos c7] at H; have c7b0 : decide (4 < ((rd_L1 l0 x3_1).length : Int)) = true := decide_eq_true c7
         have c7b1 : decide (4 < (rd_L1 l0 x3_1).length) = true := decide_eq_true (by omega)
         clear c7; obtain rfl := Option.some.inj H; have p392 : 0 ≤ (x3_1 : Int) := of_decide_eq_true (by with_reducible assumption)
         have q392 : x3_1 < (l0.length : Int) := of_decide_eq_true (by with_reducible assumption)
         obtain ⟨ad392, A392_0, c392_0, e392, hx392_0, hl392_0, hi392_0⟩ := at_L1 HR0.out x3_1 p392 q392; cases e392; have HR392_0 := Aside0.mk hi392_0; have HC392_0 := Aside0.mk hl392_0; clear hi392_0 hl392_0; replace p392 := eq_true p392; replace q392 := eq_true q392; go_wp2
         go_ret
         exact ⟨by first | rfl | (simp; done) | (simp [*]; done), by repeat (first | exact Drawn0.refl _ | apply Drawn0.step)⟩
        ·rw [if_neg c7] at H; have c7b0 : decide (4 < ((rd_L1 l0 x3_1).length : Int)) = false := decide_eq_false c7
         have c7b1 : decide (4 < (rd_L1 l0 x3_1).length) = false := decide_eq_false (by omega)
         clear c7; have H' := Aside0.mk H
         clear H; have p392 : 0 ≤ (x3_1 : Int) := of_decide_eq_true (by with_reducible assumption)
         have q392 : x3_1 < (l0.length : Int) := of_decide_eq_true (by with_reducible assumption)
         obtain ⟨ad392, A392_0, c392_0, e392, hx392_0, hl392_0, hi392_0⟩ := at_L1 HR0.out x3_1 p392 q392; cases e392; have HR392_0 := Aside0.mk hi392_0; have HC392_0 := Aside0.mk hl392_0; clear hi392_0 hl392_0; replace p392 := eq_true p392; replace q392 := eq_true q392; go_wp2
         go_roundg kj1
         case measure => have := HK1.out; have := HJ1.out; omega
         case rel => exact ⟨(wrap64 (x3_1 + 1)), (by first | rfl | (simp; done) | (simp [*]; done)), H', ⟨by have := HK1.out; have := HJ1.out; omega⟩, by repeat (first | exact Drawn0.refl _ | apply Drawn0.step)⟩
       ·rw [if_neg c6] at H; exact absurd H (by simp)
      ·rw [if_neg c5] at H; exact absurd H (by simp)
     ·replace c4 := Bool.eq_false_iff.mpr c4; subst c4; have H1 : (some (decide ((l0.length : Int) > 40))) = some r := by rw [if_neg (show ¬ (false = true) by decide)] at H; exact H
      clear H; have H := H1; clear H1; obtain rfl := Option.some.inj H; go_wp2
      go_ret
      exact ⟨by first | rfl | (simp; done) | (simp [*]; done), by repeat (first | exact Drawn0.refl _ | apply Drawn0.step)⟩
def l7_moved.f (l0 : List Int) (a1 : Int) : Option (Int) := if a1 < 0 then (some (-1)) else (if a1 ≥ (l0.length : Int) then (some (-1)) else (if 0 ≤ a1 then (if a1 < (l0.length : Int) then (some (rd l0 a1)) else (none)) else (none)))
set_option maxHeartbeats 8000000 in
set_option maxRecDepth 100000 in
theorem l7_moved.calls (A0 : Option Addr) (c0 : Nat) (l0 : List Int) (a1 : Int) (r : Int) (w : World) (hr0 : Kd.C (Kd.int .i64) w A0 l0.length l0) (hc0 : l0.length ≤ c0) (h : l7_moved.f l0 a1 = some r) :
  Calls Try.prog 30 #[.slice A0 l0.length c0, .int .i64 a1] w fun e w' => e = .returned (.int .i64 r) ∧ Drawn0 w w' := by
 have HR0 := Aside0.mk hr0; have HC0 := Aside0.mk hc0; clear hr0 hc0; have H : (if a1 < 0 then (some (-1)) else (if a1 ≥ (l0.length : Int) then (some (-1)) else (if 0 ≤ a1 then (if a1 < (l0.length : Int) then (some (rd l0 a1)) else (none)) else (none)))) = some r := h
 clear h; by_cases c3 : a1 < 0
 ·rw [if_pos c3] at H; have c3b0 : decide (a1 < 0) = true := decide_eq_true c3
  clear c3; obtain rfl := Option.some.inj H; go_enter Try.func30, Try.ntmps30
  go_wp2
  go_ret
  exact ⟨by first | rfl | (simp; done) | (simp [*]; done), by repeat (first | exact Drawn0.refl _ | apply Drawn0.step)⟩
 ·rw [if_neg c3] at H; have c3b0 : decide (a1 < 0) = false := decide_eq_false c3
  clear c3; by_cases c4 : a1 ≥ (l0.length : Int)
  ·rw [if_pos c4] at H; have c4b0 : decide ((l0.length : Int) ≤ a1) = true := decide_eq_true c4
   clear c4; obtain rfl := Option.some.inj H; go_enter Try.func30, Try.ntmps30
   go_wp2
   go_ret
   exact ⟨by first | rfl | (simp; done) | (simp [*]; done), by repeat (first | exact Drawn0.refl _ | apply Drawn0.step)⟩
  ·rw [if_neg c4] at H; have c4b0 : decide ((l0.length : Int) ≤ a1) = false := decide_eq_false c4
   clear c4; by_cases c5 : 0 ≤ a1
   ·rw [if_pos c5] at H; have c5b0 : decide (0 ≤ a1) = true := decide_eq_true c5
    clear c5; by_cases c6 : a1 < (l0.length : Int)
    ·rw [if_pos c6] at H; have c6b0 : decide (a1 < (l0.length : Int)) = true := decide_eq_true c6
     clear c6; obtain rfl := Option.some.inj H; have p393 : 0 ≤ (a1 : Int) := of_decide_eq_true (by with_reducible assumption)
     have q393 : a1 < (l0.length : Int) := of_decide_eq_true (by with_reducible assumption)
     obtain ⟨ad393, e393, hx393_0⟩ := Kd.at_int HR0.out a1 p393 q393; cases e393; replace p393 := eq_true p393; replace q393 := eq_true q393; go_enter Try.func30, Try.ntmps30
     go_wp2
     go_ret
     exact ⟨by first | rfl | (simp; done) | (simp [*]; done), by repeat (first | exact Drawn0.refl _ | apply Drawn0.step)⟩
    ·rw [if_neg c6] at H; exact absurd H (by simp)
   ·rw [if_neg c5] at H; exact absurd H (by simp)
mutual
def l7_all.l0 : Nat → List Int → List Int → List Bool → Int → Option (List Int)
 | 0, _, _, _, _ => none
 | k + 1, x0, x1, x5, x6 => if x6 < (x1.length : Int) then (if 0 ≤ x6 then (if (rd x1 x6) ≥ 0 then (if (rd x1 x6) < (x0.length : Int) then (if 0 ≤ (rd x1 x6) then (if 0 ≤ (rd x0 (rd x1 x6)) then (if (rd x0 (rd x1 x6)) < (x5.length : Int) then (l7_all.l0 k x0 x1 (x5.set ((rd x0 (rd x1 x6)) : Int).toNat true) (wrap64 (x6 + 1))) else (none)) else (none)) else (none)) else (l7_all.l0 k x0 x1 x5 (wrap64 (x6 + 1)))) else (l7_all.l0 k x0 x1 x5 (wrap64 (x6 + 1)))) else (none)) else (l7_all.l1 k x5 ([] : List Int) 0)
def l7_all.l1 : Nat → List Bool → List Int → Int → Option (List Int)
 | 0, _, _, _ => none
 | k + 1, x5, x7, x8 => if x8 < (x5.length : Int) then (if 0 ≤ x8 then (if rdOf false x5 x8 = true then (if x7.length < 17592186044416 then (l7_all.l1 k x5 (x7 ++ [x8]) (wrap64 (x8 + 1))) else (none)) else (l7_all.l1 k x5 x7 (wrap64 (x8 + 1)))) else (none)) else (some x7)
end
def l7_all.f (k : Nat) (l0 : List Int) (l1 : List Int) : Option (List Int) := if 0 ≤ (l0.length : Int) then (if ((l0.length : Int) : Int).toNat ≤ 281474976710656 then (l7_all.l0 k l0 l1 (List.replicate ((l0.length : Int) : Int).toNat false) 0) else (none)) else (none)
set_option maxHeartbeats 8000000 in
set_option maxRecDepth 100000 in
theorem l7_all.calls (k : Nat) (A0 : Option Addr) (c0 : Nat) (l0 : List Int) (A1 : Option Addr) (c1 : Nat) (l1 : List Int) (r : List Int) (w : World) (hr0 : Kd.C (Kd.int .i64) w A0 l0.length l0) (hc0 : l0.length ≤ c0) (hr1 : Kd.C (Kd.int .i64) w A1 l1.length l1) (hc1 : l1.length ≤ c1) (h : l7_all.f k l0 l1 = some r) :
  Calls Try.prog 31 #[.slice A0 l0.length c0, .slice A1 l1.length c1] w fun e w' => ∃ v0_ : Value, e = .returned (v0_) ∧ Kd.R (Kd.int .i64) 3 w' w.heap.size (fun _ => True) v0_ r ∧ Below w.heap.size w w' := by
 have HR0 := Aside0.mk hr0; have HC0 := Aside0.mk hc0; clear hr0 hc0; have HR1 := Aside0.mk hr1; have HC1 := Aside0.mk hc1; clear hr1 hc1; have HB := Aside0.mk (Below.refl w.heap.size w); have H : (if 0 ≤ (l0.length : Int) then (if ((l0.length : Int) : Int).toNat ≤ 281474976710656 then (l7_all.l0 k l0 l1 (List.replicate ((l0.length : Int) : Int).toNat false) 0) else (none)) else (none)) = some r := h
 clear h; by_cases c3 : 0 ≤ (l0.length : Int)
 ·rw [if_pos c3] at H; have c3b0 := eq_true c3; have c3b1 : decide (0 ≤ (l0.length : Int)) = true := decide_eq_true c3
  clear c3; by_cases c4 : ((l0.length : Int) : Int).toNat ≤ 281474976710656
  ·rw [if_pos c4] at H; have c4b0 := eq_true c4; have c4b1 : decide (((l0.length : Int) : Int).toNat ≤ 281474976710656) = true := decide_eq_true c4
   clear c4; obtain ⟨y394, hy394⟩ : ∃ y_ : List Bool, y_ = (List.replicate ((l0.length : Int) : Int).toNat false) := ⟨_, rfl⟩; replace H : (l7_all.l0 k l0 l1 y394 0) = some r := by first | (with_reducible first | (rw [hy394]; exact H) | exact H) | (have H2_ := (Option.bind_some _ _).symm.trans H; first | with_reducible exact H2_ | (rw [hy394]; exact H2_)) | (rw [hy394]; exact H) | exact H
   have Ny394 := Aside0.mk hy394; clear hy394; have H' := Aside0.mk H
   clear H; go_enter Try.func31, Try.ntmps31
   go_wp2_with (first | ((with_reducible refine gate_dst (N := 11) rfl ?_); (try (refine gate_guard (by rfl) ?_; dsimp only)); refine Kd.R_make Kd.bool _ 4 rfl (N := 11) rfl 46 _ _ rfl (l0.length : Int) rfl rfl Try.underlying46 (.bool false) 1 info4 rfl (by decide) (by omega) false (ok := fun _ => True) (okp := fun _ => True) rfl (fun _ hk => hk) trivial (of_decide_eq_true (by with_reducible assumption)) (Nat.le_trans (Nat.mul_le_mul_right _ (of_decide_eq_true (by with_reducible assumption) : (l0.length : Int).toNat ≤ 281474976710656)) (by omega)) (Below.refl _ _) (Nat.le_refl _) ?_; intro v395 w5 ho6 hb hg_ hnew_; clear hg_ hnew_; (first | rw [← Ny394.out] at ho6 | (simp only [Int.reduceToNat] at ho6; rw [← Ny394.out] at ho6)); have n0_ := Aside0.mk (Kd.R_lower ho6 (below_size (by repeat (first | (with_reducible first | exact HB.out | apply below_alloc | apply pw_below_drewN | apply below_drew1) | exact HB.out)))); have n1_ := Aside0.mk (below_step (by repeat (first | (with_reducible first | exact HB.out | apply below_alloc | apply pw_below_drewN | apply below_drew1) | exact HB.out)) hb); clear HB; have HO396 := n0_; have HB := n1_; clear n0_ n1_; clear hb ho6))
   go_loopg [6] k (fun kq v6 w' => ∃ (x5_1 : List Bool) (x6_1 : Int), v6 = .int .i64 x6_1 ∧ Aside0 (l7_all.l0 kq l0 l1 x5_1 x6_1 = some r) ∧ Aside0 (kq ≤ k) ∧ Aside0 (Kd.R Kd.bool 4 w' w.heap.size (fun _ => True) v395 x5_1) ∧ Aside0 (Below w.heap.size w w'))
   case atStart => exact ⟨(y394), (0), (by first | rfl | (simp; done) | (simp [*]; done)), H', ⟨Nat.le_refl _⟩, ⟨by (with_reducible repeat (first | apply Kd.R_alloc | apply Kd.R_drewN | apply Kd.R_drew)); exact HO396.out⟩, ⟨by repeat (first | (with_reducible first | exact HB.out | apply below_alloc | apply pw_below_drewN | apply below_drew1) | exact HB.out)⟩⟩
   case round =>
    clear H'; try clear c1
    try clear p2
    try clear c3
    try clear c3b0
    try clear c3b1
    try clear c4
    try clear c4b0
    try clear c4b1
    obtain ⟨x5_1, x6_1, rfl, HA, HK1, HO_5, HB⟩ := hrel; cases gk with
    | zero => exact absurd HA.out (by simp [l7_all.l0])
    | succ k1 =>
     have H := HA.out; clear HA; simp only [l7_all.l0] at H
     by_cases c7 : x6_1 < (l1.length : Int)
     ·rw [if_pos c7] at H; have c7b0 : decide (x6_1 < (l1.length : Int)) = true := decide_eq_true c7
      clear c7; by_cases c8 : 0 ≤ x6_1
      ·rw [if_pos c8] at H; have c8b0 : decide (0 ≤ x6_1) = true := decide_eq_true c8
       clear c8; by_cases c9 : (rd l1 x6_1) ≥ 0
       ·rw [if_pos c9] at H; have c9b0 : decide (0 ≤ (rd l1 x6_1)) = true := decide_eq_true c9
        clear c9; by_cases c10 : (rd l1 x6_1) < (l0.length : Int)
        ·rw [if_pos c10] at H; have c10b0 : decide ((rd l1 x6_1) < (l0.length : Int)) = true := decide_eq_true c10
         clear c10; by_cases c11 : 0 ≤ (rd l1 x6_1)
         ·rw [if_pos c11] at H; have c11b0 : decide (0 ≤ (rd l1 x6_1)) = true := decide_eq_true c11
          clear c11; by_cases c12 : 0 ≤ (rd l0 (rd l1 x6_1))
          ·rw [if_pos c12] at H; have c12b0 : decide (0 ≤ (rd l0 (rd l1 x6_1))) = true := decide_eq_true c12
           clear c12; by_cases c13 : (rd l0 (rd l1 x6_1)) < (x5_1.length : Int)
           ·rw [if_pos c13] at H; have c13b0 : decide ((rd l0 (rd l1 x6_1)) < (x5_1.length : Int)) = true := decide_eq_true c13
            clear c13; obtain ⟨y401, hy401⟩ : ∃ y_ : List Bool, y_ = (x5_1.set ((rd l0 (rd l1 x6_1)) : Int).toNat true) := ⟨_, rfl⟩; replace H : (l7_all.l0 k1 l0 l1 y401 (wrap64 (x6_1 + 1))) = some r := by first | (with_reducible first | (rw [hy401]; exact H) | exact H) | (have H2_ := (Option.bind_some _ _).symm.trans H; first | with_reducible exact H2_ | (rw [hy401]; exact H2_)) | (rw [hy401]; exact H) | exact H
            have Ny401 := Aside0.mk hy401; clear hy401; have H' := Aside0.mk H
            clear H; have p397 : 0 ≤ (x6_1 : Int) := of_decide_eq_true (by with_reducible assumption)
            have q397 : x6_1 < (l1.length : Int) := of_decide_eq_true (by with_reducible assumption)
            obtain ⟨ad397, e397, hx397_0⟩ := Kd.at_int HR1.out x6_1 p397 q397; cases e397; replace hx397_0 := (HB.out.cell (World.block_lt_of_cell? w _ hx397_0)).trans hx397_0; replace p397 := eq_true p397; replace q397 := eq_true q397; have p398 : 0 ≤ (x6_1 : Int) := of_decide_eq_true (by with_reducible assumption)
            have q398 : x6_1 < (l1.length : Int) := of_decide_eq_true (by with_reducible assumption)
            obtain ⟨ad398, e398, hx398_0⟩ := Kd.at_int HR1.out x6_1 p398 q398; obtain rfl : ad397 = ad398 := (by injection e398)
            replace hx398_0 := (HB.out.cell (World.block_lt_of_cell? w _ hx398_0)).trans hx398_0; replace p398 := eq_true p398; replace q398 := eq_true q398; have p399 : 0 ≤ (x6_1 : Int) := of_decide_eq_true (by with_reducible assumption)
            have q399 : x6_1 < (l1.length : Int) := of_decide_eq_true (by with_reducible assumption)
            obtain ⟨ad399, e399, hx399_0⟩ := Kd.at_int HR1.out x6_1 p399 q399; obtain rfl : ad397 = ad399 := (by injection e399)
            replace hx399_0 := (HB.out.cell (World.block_lt_of_cell? w _ hx399_0)).trans hx399_0; replace p399 := eq_true p399; replace q399 := eq_true q399; have p400 : 0 ≤ ((rd l1 x6_1) : Int) := of_decide_eq_true (by with_reducible assumption)
            have q400 : (rd l1 x6_1) < (l0.length : Int) := of_decide_eq_true (by with_reducible assumption)
            obtain ⟨ad400, e400, hx400_0⟩ := Kd.at_int HR0.out (rd l1 x6_1) p400 q400; cases e400; replace hx400_0 := (HB.out.cell (World.block_lt_of_cell? w _ hx400_0)).trans hx400_0; replace p400 := eq_true p400; replace q400 := eq_true q400; have p14 : 0 ≤ ((rd l0 (rd l1 x6_1)) : Int) := of_decide_eq_true (by with_reducible assumption)
            have q14 : ((rd l0 (rd l1 x6_1)) : Int) < ((x5_1.length : Int) : Int) := of_decide_eq_true (by with_reducible assumption)
            obtain ⟨go14, co14, eo14, gb14, gl14, cl14, HG14⟩ := Kd.R_form HO_5.out (by omega)
            (first | cases eo14 | (injection eo14 with ea_ en_ ec_; (first | subst ea_ | (injection ea_ with ea_; subst ea_)); subst ec_; clear en_))
            have GB14 := Aside0.mk gb14; have GG14 := Aside0.mk HG14; clear gb14 gl14 HG14; obtain ⟨hx14_0, hf14_0⟩ := Kd.R_celln false HO_5.out ((rd l0 (rd l1 x6_1)) : Int) p14 q14; replace p14 := eq_true p14; replace q14 := eq_true q14; have HP15 := Kd.R_putg HO_5.out ((rd l0 (rd l1 x6_1)) : Int) true; go_wp2_with (first | ((with_reducible refine gate_store (t := 4) (p := 40) rfl ?_); refine store_event (t := 4) (p := 40) (v := ?vo_w16) (w1 := (wr.setCell ⟨go14, ((rd l0 (rd l1 x6_1)) : Int).toNat, none⟩ (.bool true))) ?hg ?ho ?hn ?hr ?_; (case ho => rfl); (case hg => rfl); (case hn => rfl); (case hr => first | (go_simp; done) | (go_simp; rfl)); intro w16 hw; have hg : wr.grownBy w16 (some go14) := (by rw [hw]; exact HP15.2); have hp_ : Kd.R Kd.bool 4 w16 w.heap.size (fun _ => True) (.slice (some ⟨go14, 0, none⟩) x5_1.length co14) y401 := (by rw [hw, Ny401.out]; exact HP15.1); clear HP15; have n0_ := Aside0.mk (hp_); have n1_ := Aside0.mk ((by rw [hw]; exact below_set (HB.out) GB14.out : Below w.heap.size w w16)); clear HO_5; clear HB; have HO_5 := n0_; have HB := n1_; clear n0_ n1_; clear hg hw hp_))
            go_roundg k1
            case measure => have := HK1.out; omega
            case rel => exact ⟨(y401), (wrap64 (x6_1 + 1)), (by first | rfl | (simp; done) | (simp [*]; done)), H', ⟨by have := HK1.out; omega⟩, ⟨by (with_reducible repeat (first | apply Kd.R_alloc | apply Kd.R_drewN | apply Kd.R_drew)); exact HO_5.out⟩, ⟨by repeat (first | (with_reducible first | exact HB.out | apply below_alloc | apply pw_below_drewN | apply below_drew1) | exact HB.out)⟩⟩
           ·rw [if_neg c13] at H; exact absurd H (by simp)
          ·rw [if_neg c12] at H; exact absurd H (by simp)
         ·rw [if_neg c11] at H; exact absurd H (by simp)
        ·rw [if_neg c10] at H; have c10b0 : decide ((rd l1 x6_1) < (l0.length : Int)) = false := decide_eq_false c10
         clear c10; have H' := Aside0.mk H
         clear H; have p397 : 0 ≤ (x6_1 : Int) := of_decide_eq_true (by with_reducible assumption)
         have q397 : x6_1 < (l1.length : Int) := of_decide_eq_true (by with_reducible assumption)
         obtain ⟨ad397, e397, hx397_0⟩ := Kd.at_int HR1.out x6_1 p397 q397; cases e397; replace hx397_0 := (HB.out.cell (World.block_lt_of_cell? w _ hx397_0)).trans hx397_0; replace p397 := eq_true p397; replace q397 := eq_true q397; have p398 : 0 ≤ (x6_1 : Int) := of_decide_eq_true (by with_reducible assumption)
         have q398 : x6_1 < (l1.length : Int) := of_decide_eq_true (by with_reducible assumption)
         obtain ⟨ad398, e398, hx398_0⟩ := Kd.at_int HR1.out x6_1 p398 q398; obtain rfl : ad397 = ad398 := (by injection e398)
         replace hx398_0 := (HB.out.cell (World.block_lt_of_cell? w _ hx398_0)).trans hx398_0; replace p398 := eq_true p398; replace q398 := eq_true q398; go_wp2
         go_roundg k1
         case measure => have := HK1.out; omega
         case rel => exact ⟨(x5_1), (wrap64 (x6_1 + 1)), (by first | rfl | (simp; done) | (simp [*]; done)), H', ⟨by have := HK1.out; omega⟩, ⟨by (with_reducible repeat (first | apply Kd.R_alloc | apply Kd.R_drewN | apply Kd.R_drew)); exact HO_5.out⟩, ⟨by repeat (first | (with_reducible first | exact HB.out | apply below_alloc | apply pw_below_drewN | apply below_drew1) | exact HB.out)⟩⟩
       ·rw [if_neg c9] at H; have c9b0 : decide (0 ≤ (rd l1 x6_1)) = false := decide_eq_false c9
        clear c9; have H' := Aside0.mk H
        clear H; have p397 : 0 ≤ (x6_1 : Int) := of_decide_eq_true (by with_reducible assumption)
        have q397 : x6_1 < (l1.length : Int) := of_decide_eq_true (by with_reducible assumption)
        obtain ⟨ad397, e397, hx397_0⟩ := Kd.at_int HR1.out x6_1 p397 q397; cases e397; replace hx397_0 := (HB.out.cell (World.block_lt_of_cell? w _ hx397_0)).trans hx397_0; replace p397 := eq_true p397; replace q397 := eq_true q397; go_wp2
        go_roundg k1
        case measure => have := HK1.out; omega
        case rel => exact ⟨(x5_1), (wrap64 (x6_1 + 1)), (by first | rfl | (simp; done) | (simp [*]; done)), H', ⟨by have := HK1.out; omega⟩, ⟨by (with_reducible repeat (first | apply Kd.R_alloc | apply Kd.R_drewN | apply Kd.R_drew)); exact HO_5.out⟩, ⟨by repeat (first | (with_reducible first | exact HB.out | apply below_alloc | apply pw_below_drewN | apply below_drew1) | exact HB.out)⟩⟩
      ·rw [if_neg c8] at H; exact absurd H (by simp)
     ·rw [if_neg c7] at H; have c7b0 : decide (x6_1 < (l1.length : Int)) = false := decide_eq_false c7
      clear c7; have H' := Aside0.mk H
      clear H; go_wp2
      go_loopg [7, 8] k1 (fun kq v7 v8 w' => ∃ (x7_2 : List Int) (x8_2 : Int), v8 = .int .i64 x8_2 ∧ Aside0 (l7_all.l1 kq x5_1 x7_2 x8_2 = some r) ∧ Aside0 (kq ≤ k1) ∧ Aside0 (Kd.R Kd.bool 4 w' w.heap.size (fun _ => True) v395 x5_1) ∧ Aside0 (Kd.R (Kd.int .i64) 3 w' w.heap.size (fun _ => True) v7 x7_2) ∧ Aside0 (Below w.heap.size w w'))
      case atStart => exact ⟨(([] : List Int)), (0), (by first | rfl | (simp; done) | (simp [*]; done)), H', ⟨Nat.le_refl _⟩, ⟨by (with_reducible repeat (first | apply Kd.R_alloc | apply Kd.R_drewN | apply Kd.R_drew)); exact HO_5.out⟩, ⟨by first | exact Kd.R_nil _ _ _ _ _ | exact Kd.N_nil _ _ _ _ _ | exact Kd.V_nil _ _ _ _ _ | exact Kd.Q_nil _ _ _ _ _ | exact Kd.S_nil _ _ _ _ _⟩, ⟨by repeat (first | (with_reducible first | exact HB.out | apply below_alloc | apply pw_below_drewN | apply below_drew1) | exact HB.out)⟩⟩
      case round =>
       clear H'; try clear c1
       try clear p1
       try clear q1
       try clear hx1
       try clear p2
       try clear c3
       try clear c3b0
       try clear c3b1
       try clear p3
       try clear q3
       try clear hx3
       try clear c4
       try clear c4b0
       try clear c4b1
       try clear p4
       try clear q4
       try clear hx4
       try clear p6
       try clear c7
       try clear c7b0
       try clear c8
       try clear c8b0
       try clear c9
       try clear c9b0
       try clear c10
       try clear c10b0
       try clear c11
       try clear c11b0
       try clear c12
       try clear c12b0
       try clear c13
       try clear c13b0
       try clear p14
       try clear q14
       try clear hx14
       try clear hf14
       try clear hx14_0
       try clear hx397_0
       try clear hx398_0
       try clear hx399_0
       try clear hx400_0
       try clear p14
       try clear p2
       try clear p397
       try clear p398
       try clear p399
       try clear p400
       try clear q14
       try clear q397
       try clear q398
       try clear q399
       try clear q400
       obtain ⟨x7_2, x8_2, rfl, HA, HK2, HO_5, HO_7, HB⟩ := hrel; cases gk with
       | zero => exact absurd HA.out (by simp [l7_all.l1])
       | succ k2 =>
        have H := HA.out; clear HA; simp only [l7_all.l1] at H
        by_cases c17 : x8_2 < (x5_1.length : Int)
        ·rw [if_pos c17] at H; have c17b0 : decide (x8_2 < (x5_1.length : Int)) = true := decide_eq_true c17
         clear c17; by_cases c18 : 0 ≤ x8_2
         ·rw [if_pos c18] at H; have c18b0 : decide (0 ≤ x8_2) = true := decide_eq_true c18
          clear c18; obtain ⟨bq19, hbq19⟩ : ∃ b_ : Bool, b_ = (rdOf false x5_1 x8_2) := ⟨_, rfl⟩; replace H : (if bq19 = true then (if x7_2.length < 17592186044416 then (l7_all.l1 k2 x5_1 (x7_2 ++ [x8_2]) (wrap64 (x8_2 + 1))) else (none)) else (l7_all.l1 k2 x5_1 x7_2 (wrap64 (x8_2 + 1)))) = some r := by rw [← hbq19] at H; exact H
          have Nbq19 := Aside0.mk hbq19; clear hbq19; by_cases c20 : bq19 = true
          ·subst c20; have H1 : (if x7_2.length < 17592186044416 then (l7_all.l1 k2 x5_1 (x7_2 ++ [x8_2]) (wrap64 (x8_2 + 1))) else (none)) = some r := by rw [if_pos rfl] at H; exact H
           clear H; have H := H1; clear H1; by_cases c21 : x7_2.length < 17592186044416
           ·rw [if_pos c21] at H; have LMc21 := Aside0.mk c21; clear c21; obtain ⟨y403, hy403⟩ : ∃ y_ : List Int, y_ = (x7_2 ++ [x8_2]) := ⟨_, rfl⟩; replace H : (l7_all.l1 k2 x5_1 y403 (wrap64 (x8_2 + 1))) = some r := by first | (with_reducible first | (rw [hy403]; exact H) | exact H) | (have H2_ := (Option.bind_some _ _).symm.trans H; first | with_reducible exact H2_ | (rw [hy403]; exact H2_)) | (rw [hy403]; exact H) | exact H
            have Ny403 := Aside0.mk hy403; clear hy403; have H' := Aside0.mk H
            clear H; obtain ⟨Ao22, co22, eo22⟩ := Kd.R_slice HO_5.out; subst eo22; have p402 : 0 ≤ (x8_2 : Int) := of_decide_eq_true (by with_reducible assumption)
            have q402 : x8_2 < (x5_1.length : Int) := of_decide_eq_true (by with_reducible assumption)
            obtain ⟨ad402, e402, hx402_0⟩ := Kd.at_bool (Kd.R_reads' HO_5.out).2.2 x8_2 p402 q402; (try rw [← Nbq19.out] at hx402_0)
            cases e402; replace p402 := eq_true p402; replace q402 := eq_true q402; go_wp2_with (first | ((with_reducible refine gate_builtin (b := .append) (xs := #[.tmp 51, .tmp 53]) rfl ?_); (try (refine gate_guard (by rfl) ?_; dsimp only)); at_builtin; refine Kd.R_append (Kd.int .i64) (w0 := w) w.heap.size rfl (.tmp 51) (.tmp 53) 33 3 (.int .i64 0) 8 rfl Try.underlying33 info3 rfl (by decide) (by omega) u7 x7_2 x8_2 [.int .i64 x8_2] (fun _ => True) (fun _ => False) rfl rfl ?aP (fun _ hk => hk.elim) ?aF ?aO ?aB ?aS ?aL ?_; (case aP => exact rfl); (case aB => exact (by repeat (first | (with_reducible first | exact HB.out | apply below_alloc | apply pw_below_drewN | apply below_drew1) | exact HB.out))); (case aF => exact (fun _ _ => trivial)); (case aO => exact (by (with_reducible repeat (first | apply Kd.R_alloc | apply Kd.R_drewN | apply Kd.R_drew)); exact HO_7.out)); (case aS => exact (below_size (by repeat (first | (with_reducible first | exact HB.out | apply below_alloc | apply pw_below_drewN | apply below_drew1) | exact HB.out)))); (case aL => have := LMc21.out; omega); intro v404 w23 ho hb hg hat; rw [← Ny403.out] at ho; have n0_ := Aside0.mk (Kd.R_over' (by (with_reducible repeat (first | apply Kd.R_alloc | apply Kd.R_drewN | apply Kd.R_drew)); exact HO_5.out) (Kd.R_typed (by (with_reducible repeat (first | apply Kd.R_alloc | apply Kd.R_drewN | apply Kd.R_drew)); exact HO_7.out)) (by decide) hg); have n1_ := Aside0.mk (hb); have n2_ := Aside0.mk (ho); clear HO_5; clear HB; clear HO_7; have HO_5 := n0_; have HB := n1_; have HO405 := n2_; clear n0_ n1_ n2_; clear ho hb hg hat))
            go_roundg k2
            case measure => have := HK1.out; have := HK2.out; omega
            case rel => exact ⟨(y403), (wrap64 (x8_2 + 1)), (by first | rfl | (simp; done) | (simp [*]; done)), H', ⟨by have := HK1.out; have := HK2.out; omega⟩, ⟨by (with_reducible repeat (first | apply Kd.R_alloc | apply Kd.R_drewN | apply Kd.R_drew)); exact HO_5.out⟩, ⟨by (with_reducible repeat (first | apply Kd.R_alloc | apply Kd.R_drewN | apply Kd.R_drew)); exact HO405.out⟩, ⟨by repeat (first | (with_reducible first | exact HB.out | apply below_alloc | apply pw_below_drewN | apply below_drew1) | exact HB.out)⟩⟩
           ·rw [if_neg c21] at H; exact absurd H (by simp)
          ·replace c20 := Bool.eq_false_iff.mpr c20; subst c20; have H1 : (l7_all.l1 k2 x5_1 x7_2 (wrap64 (x8_2 + 1))) = some r := by rw [if_neg (show ¬ (false = true) by decide)] at H; exact H
           clear H; have H := H1; clear H1; have H' := Aside0.mk H
           clear H; obtain ⟨Ao24, co24, eo24⟩ := Kd.R_slice HO_5.out; subst eo24; have p402 : 0 ≤ (x8_2 : Int) := of_decide_eq_true (by with_reducible assumption)
           have q402 : x8_2 < (x5_1.length : Int) := of_decide_eq_true (by with_reducible assumption)
           obtain ⟨ad402, e402, hx402_0⟩ := Kd.at_bool (Kd.R_reads' HO_5.out).2.2 x8_2 p402 q402; (try rw [← Nbq19.out] at hx402_0)
           cases e402; replace p402 := eq_true p402; replace q402 := eq_true q402; go_wp2
           go_roundg k2
           case measure => have := HK1.out; have := HK2.out; omega
           case rel => exact ⟨(x7_2), (wrap64 (x8_2 + 1)), (by first | rfl | (simp; done) | (simp [*]; done)), H', ⟨by have := HK1.out; have := HK2.out; omega⟩, ⟨by (with_reducible repeat (first | apply Kd.R_alloc | apply Kd.R_drewN | apply Kd.R_drew)); exact HO_5.out⟩, ⟨by (with_reducible repeat (first | apply Kd.R_alloc | apply Kd.R_drewN | apply Kd.R_drew)); exact HO_7.out⟩, ⟨by repeat (first | (with_reducible first | exact HB.out | apply below_alloc | apply pw_below_drewN | apply below_drew1) | exact HB.out)⟩⟩
         ·rw [if_neg c18] at H; exact absurd H (by simp)
        ·rw [if_neg c17] at H; have c17b0 : decide (x8_2 < (x5_1.length : Int)) = false := decide_eq_false c17
         clear c17; obtain rfl := Option.some.inj H; obtain ⟨Ao25, co25, eo25⟩ := Kd.R_slice HO_5.out; subst eo25; go_wp2
         go_ret
         exact ⟨_, by first | rfl | (simp [errW_none, errW_some] <;> rfl) | (simp [*, errW_none, errW_some] <;> rfl), by (with_reducible repeat (first | apply Kd.R_alloc | apply Kd.R_drewN | apply Kd.R_drew)); exact HO_7.out, by repeat (first | (with_reducible first | exact HB.out | apply below_alloc | apply pw_below_drewN | apply below_drew1) | exact HB.out)⟩
  ·rw [if_neg c4] at H; exact absurd H (by simp)
 ·rw [if_neg c3] at H; exact absurd H (by simp)
def l7_usable.f (k : Nat) (l0 : List (List Int)) : Option (Bool) := (l7_wide.f k l0).bind fun t406 => (if t406 = true then (some false) else ((r7_Valid.f k l0).bind fun t407 => (some t407)))
set_option maxHeartbeats 8000000 in
set_option maxRecDepth 100000 in
theorem l7_usable.calls (k : Nat) (A0 : Option Addr) (c0 : Nat) (l0 : List (List Int)) (r : Bool) (w : World) (hr0 : Kd.C (Kd.slice 3 (Kd.int .i64)) w A0 l0.length l0) (hc0 : l0.length ≤ c0) (h : l7_usable.f k l0 = some r) :
  Calls Try.prog 26 #[.slice A0 l0.length c0] w fun e w' => e = .returned (.bool r) ∧ Drawn0 w w' := by
 have HR0 := Aside0.mk hr0; have HC0 := Aside0.mk hc0; clear hr0 hc0; have H : ((l7_wide.f k l0).bind fun t406 => (if t406 = true then (some false) else ((r7_Valid.f k l0).bind fun t407 => (some t407)))) = some r := h
 clear h; replace H := Option.bind_eq_some_iff.mp H; obtain ⟨t406, A20, H⟩ := H; replace H : (if t406 = true then (some false) else ((r7_Valid.f k l0).bind fun t407 => (some t407))) = some r := H
 have A2 := Aside0.mk A20; clear A20; by_cases c3 : t406 = true
 ·subst c3; have H1 : (some false) = some r := by rw [if_pos rfl] at H; exact H
  clear H; have H := H1; clear H1; obtain rfl := Option.some.inj H; go_enter Try.func26, Try.ntmps26
  go_wp2_with (first | ((with_reducible refine gate_callee (f := 13) rfl ?_); refine goesL_ (some 4) rfl rfl Try.func13 (by kernel_rfl) rfl #[.slice A0 l0.length c0] rfl (by (try simp only [List.map_toArray, List.map_cons, List.map_nil]); first | done | rfl | (simp only [List.length_drop, List.length_take]; rfl)) ?_; (with_reducible refine (l7_wide.calls k _ _ l0 true _ ?side1 ?side2 A2.out).mono ?_); (case side1 => repeat (first | exact HR0.out | with_reducible first | refine Kd.C_alloc ?_ _ | refine Kd.C_drewN ?_ _ | refine Kd.C_drew ?_)); (case side2 => exact HC0.out); rintro e w' ⟨rfl, ⟨nd, rfl⟩⟩; refine ⟨_, rfl, ?_⟩))
  go_ret
  exact ⟨by first | rfl | (simp; done) | (simp [*]; done), by repeat (first | exact Drawn0.refl _ | apply Drawn0.step)⟩
 ·replace c3 := Bool.eq_false_iff.mpr c3; subst c3; have H1 : ((r7_Valid.f k l0).bind fun t407 => (some t407)) = some r := by rw [if_neg (show ¬ (false = true) by decide)] at H; exact H
  clear H; have H := H1; clear H1; replace H := Option.bind_eq_some_iff.mp H; obtain ⟨t407, A40, H⟩ := H; replace H : (some t407) = some r := H; have A4 := Aside0.mk A40; clear A40; obtain rfl := Option.some.inj H; go_enter Try.func26, Try.ntmps26
  go_wp2_with (first | ((with_reducible refine gate_callee (f := 13) rfl ?_); refine goesL_ (some 4) rfl rfl Try.func13 (by kernel_rfl) rfl #[.slice A0 l0.length c0] rfl (by (try simp only [List.map_toArray, List.map_cons, List.map_nil]); first | done | rfl | (simp only [List.length_drop, List.length_take]; rfl)) ?_; (with_reducible refine (l7_wide.calls k _ _ l0 false _ ?side1 ?side2 A2.out).mono ?_); (case side1 => repeat (first | exact HR0.out | with_reducible first | refine Kd.C_alloc ?_ _ | refine Kd.C_drewN ?_ _ | refine Kd.C_drew ?_)); (case side2 => exact HC0.out); rintro e w' ⟨rfl, ⟨nd, rfl⟩⟩; refine ⟨_, rfl, ?_⟩) | (go_at_call 57; (with_reducible refine (r7_Valid.calls k _ _ l0 t407 _ ?side1 ?side2 A4.out).mono ?_); (case side1 => repeat (first | exact HR0.out | with_reducible first | refine Kd.C_alloc ?_ _ | refine Kd.C_drewN ?_ _ | refine Kd.C_drew ?_)); (case side2 => exact HC0.out); rintro e w' ⟨rfl, ⟨nd, rfl⟩⟩))
  go_ret
  exact ⟨by first | rfl | (simp; done) | (simp [*]; done), by repeat (first | exact Drawn0.refl _ | apply Drawn0.step)⟩
end Go.Proofs.Ytjjedbcgkljdeaa.A
end
section
namespace Go.Proofs.Ytjjedbcgkljdeaa.A
open Go.RowKit Go.Proofs.YtjjedbcgkljdeaaW.PrintWords Go.Proofs.YtjjedbcgkljdeaaW.PrintLast Go.Proofs.YtjjedbcgkljdeaaW.PrintMore
set_option linter.unusedVariables false
set_option linter.unusedSimpArgs false
def slices_Index_int_int.l0 : Nat → List Int → Int → Int → Int → Option (Int)
 | 0, _, _, _, _ => none
 | k + 1, x0, x1, x7, x8 => if x8 < x7 then (if 0 ≤ x8 then (if x8 < (x0.length : Int) then (if x1 = (rd x0 x8) then (some x8) else (slices_Index_int_int.l0 k x0 x1 x7 (wrap64 (x8 + 1)))) else (none)) else (none)) else (some (-1))
def slices_Index_int_int.f (k : Nat) (l0 : List Int) (a1 : Int) : Option (Int) := slices_Index_int_int.l0 k l0 a1 (l0.length : Int) 0
theorem slices_Index_int_int.mono_l : ∀ k, (∀ y0 y1 y2 y3, LeO (slices_Index_int_int.l0 k y0 y1 y2 y3) (slices_Index_int_int.l0 (k + 1) y0 y1 y2 y3))
 | 0 => fun _ _ _ _ r h => by simp [slices_Index_int_int.l0] at h
 | k + 1 => by
  have ih0 := slices_Index_int_int.mono_l k
  ·intro y0 y1 y2 y3
   unfold slices_Index_int_int.l0
   repeat' first
   | (with_reducible exact ih0 _ _ _ _)
   | (with_reducible exact LeO.refl _)
   | (with_reducible exact LeO.none _)
   | (with_reducible refine LeO.ite ?_ ?_)
   | (with_reducible refine LeO.bind ?_ (fun _ => ?_))
theorem slices_Index_int_int.mono : ∀ a0 a1 k, LeO (slices_Index_int_int.f k a0 a1) (slices_Index_int_int.f (k + 1) a0 a1) := by
 intro a0 a1 k
 have ih0 := slices_Index_int_int.mono_l k; unfold slices_Index_int_int.f
 repeat' first
   | (with_reducible exact ih0 _ _ _ _)
   | (with_reducible exact LeO.refl _)
   | (with_reducible exact LeO.none _)
   | (with_reducible refine LeO.ite ?_ ?_)
   | (with_reducible refine LeO.bind ?_ (fun _ => ?_))
set_option maxHeartbeats 8000000 in
set_option maxRecDepth 100000 in
theorem slices_Index_int_int.calls (k : Nat) (A0 : Option Addr) (c0 : Nat) (l0 : List Int) (a1 : Int) (r : Int) (w : World) (hr0 : Kd.C (Kd.int .i64) w A0 l0.length l0) (hc0 : l0.length ≤ c0) (h : slices_Index_int_int.f k l0 a1 = some r) :
  Calls Try.prog 70 #[.slice A0 l0.length c0, .int .i64 a1] w fun e w' => e = .returned (.int .i64 r) ∧ Drawn0 w w' := by
 have HR0 := Aside0.mk hr0; have HC0 := Aside0.mk hc0; clear hr0 hc0; have H : (slices_Index_int_int.l0 k l0 a1 (l0.length : Int) 0) = some r := h
 clear h; have H' := Aside0.mk H
 clear H; go_enter Try.func70, Try.ntmps70
 go_wp2
 go_loopg [8] k (fun kq v8 w' => ∃ (x8_1 : Int), v8 = .int .i64 x8_1 ∧ Aside0 (slices_Index_int_int.l0 kq l0 a1 (l0.length : Int) x8_1 = some r) ∧ Aside0 (kq ≤ k) ∧ Drawn0 w w')
 case atStart => exact ⟨(0), (by first | rfl | (simp; done) | (simp [*]; done)), H', ⟨Nat.le_refl _⟩, by repeat (first | exact Drawn0.refl _ | apply Drawn0.step)⟩
 case round =>
  clear H'; try clear p2
  obtain ⟨x8_1, rfl, HA, HK1, ⟨m1, rfl⟩⟩ := hrel; cases gk with
  | zero => exact absurd HA.out (by simp [slices_Index_int_int.l0])
  | succ k1 =>
   have H := HA.out; clear HA; simp only [slices_Index_int_int.l0] at H
   by_cases c3 : x8_1 < (l0.length : Int)
   ·rw [if_pos c3] at H; have c3b0 : decide (x8_1 < (l0.length : Int)) = true := decide_eq_true c3
    clear c3; by_cases c4 : 0 ≤ x8_1
    ·rw [if_pos c4] at H; have c4b0 : decide (0 ≤ x8_1) = true := decide_eq_true c4
     clear c4; by_cases c5 : x8_1 < (l0.length : Int)
     ·rw [if_pos c5] at H; have c5b0 : decide (x8_1 < (l0.length : Int)) = true := decide_eq_true c5
      clear c5; by_cases c6 : a1 = (rd l0 x8_1)
      ·rw [if_pos c6] at H; have c6b0 : (a1 == (rd l0 x8_1)) = true := beq_iff_eq.mpr c6
       have c6b1 : (a1 != (rd l0 x8_1)) = false := bne_eq_false_iff_eq.mpr c6
       clear c6; obtain rfl := Option.some.inj H; have p409 : 0 ≤ (x8_1 : Int) := of_decide_eq_true (by with_reducible assumption)
       have q409 : x8_1 < (l0.length : Int) := of_decide_eq_true (by with_reducible assumption)
       obtain ⟨ad409, e409, hx409_0⟩ := Kd.at_int HR0.out x8_1 p409 q409; cases e409; replace p409 := eq_true p409; replace q409 := eq_true q409; go_wp2
       go_ret
       exact ⟨by first | rfl | (simp; done) | (simp [*]; done), by repeat (first | exact Drawn0.refl _ | apply Drawn0.step)⟩
      ·rw [if_neg c6] at H; have c6b0 : (a1 == (rd l0 x8_1)) = false := beq_eq_false_iff_ne.mpr c6
       have c6b1 : (a1 != (rd l0 x8_1)) = true := bne_iff_ne.mpr c6
       have H' := Aside0.mk H
       clear H; have p409 : 0 ≤ (x8_1 : Int) := of_decide_eq_true (by with_reducible assumption)
       have q409 : x8_1 < (l0.length : Int) := of_decide_eq_true (by with_reducible assumption)
       obtain ⟨ad409, e409, hx409_0⟩ := Kd.at_int HR0.out x8_1 p409 q409; cases e409; replace p409 := eq_true p409; replace q409 := eq_true q409; go_wp2
       go_roundg k1
       case measure => have := HK1.out; omega
       case rel => exact ⟨(wrap64 (x8_1 + 1)), (by first | rfl | (simp; done) | (simp [*]; done)), H', ⟨by have := HK1.out; omega⟩, by repeat (first | exact Drawn0.refl _ | apply Drawn0.step)⟩
     ·rw [if_neg c5] at H; exact absurd H (by simp)
    ·rw [if_neg c4] at H; exact absurd H (by simp)
   ·rw [if_neg c3] at H; have c3b0 : decide (x8_1 < (l0.length : Int)) = false := decide_eq_false c3
    clear c3; obtain rfl := Option.some.inj H; go_wp2
    go_ret
    exact ⟨by first | rfl | (simp; done) | (simp [*]; done), by repeat (first | exact Drawn0.refl _ | apply Drawn0.step)⟩
def slices_Contains_int_int.f (k : Nat) (l0 : List Int) (a1 : Int) : Option (Bool) := (slices_Index_int_int.f k l0 a1).bind fun t410 => (some (decide (t410 ≥ 0)))
theorem slices_Contains_int_int.mono : ∀ a0 a1 k, LeO (slices_Contains_int_int.f k a0 a1) (slices_Contains_int_int.f (k + 1) a0 a1) := by
 intro a0 a1 k
 unfold slices_Contains_int_int.f
 repeat' first
   | (with_reducible exact slices_Index_int_int.mono _ _ _)
   | (with_reducible exact LeO.refl _)
   | (with_reducible exact LeO.none _)
   | (with_reducible refine LeO.ite ?_ ?_)
   | (with_reducible refine LeO.bind ?_ (fun _ => ?_))
set_option maxHeartbeats 8000000 in
set_option maxRecDepth 100000 in
theorem slices_Contains_int_int.calls (k : Nat) (A0 : Option Addr) (c0 : Nat) (l0 : List Int) (a1 : Int) (r : Bool) (w : World) (hr0 : Kd.C (Kd.int .i64) w A0 l0.length l0) (hc0 : l0.length ≤ c0) (h : slices_Contains_int_int.f k l0 a1 = some r) :
  Calls Try.prog 55 #[.slice A0 l0.length c0, .int .i64 a1] w fun e w' => e = .returned (.bool r) ∧ Drawn0 w w' := by
 have HR0 := Aside0.mk hr0; have HC0 := Aside0.mk hc0; clear hr0 hc0; have H : ((slices_Index_int_int.f k l0 a1).bind fun t410 => (some (decide (t410 ≥ 0)))) = some r := h
 clear h; replace H := Option.bind_eq_some_iff.mp H; obtain ⟨t410, A30, H⟩ := H; replace H : (some (decide (t410 ≥ 0))) = some r := H; have A3 := Aside0.mk A30; clear A30; obtain rfl := Option.some.inj H; go_enter Try.func55, Try.ntmps55
 go_wp2_with (first | ((with_reducible refine gate_callee (f := 70) rfl ?_); refine goesL_ (some 7) rfl rfl Try.func70 (by kernel_rfl) rfl #[.slice A0 l0.length c0, .int .i64 a1] rfl (by (try simp only [List.map_toArray, List.map_cons, List.map_nil]); first | done | rfl | (simp only [List.length_drop, List.length_take]; rfl)) ?_; (with_reducible refine (slices_Index_int_int.calls k _ _ l0 a1 t410 _ ?side1 ?side2 A3.out).mono ?_); (case side1 => repeat (first | exact HR0.out | with_reducible first | refine Kd.C_alloc ?_ _ | refine Kd.C_drewN ?_ _ | refine Kd.C_drew ?_)); (case side2 => exact HC0.out); rintro e w' ⟨rfl, ⟨nd, rfl⟩⟩; refine ⟨_, rfl, ?_⟩))
 go_ret
 exact ⟨by first | rfl | (simp; done) | (simp [*]; done), by repeat (first | exact Drawn0.refl _ | apply Drawn0.step)⟩
end Go.Proofs.Ytjjedbcgkljdeaa.A
end
section
namespace Go.Proofs.Ytjjedbcgkljdeaa.B
open Go.RowKit Go.Proofs.YtjjedbcgkljdeaaW.PrintWords Go.Proofs.YtjjedbcgkljdeaaW.PrintLast Go.Proofs.YtjjedbcgkljdeaaW.PrintMore Go.Proofs.Ytjjedbcgkljdeaa.A
set_option linter.unusedVariables false
set_option linter.unusedSimpArgs false
theorem info3 : (Try.prog.info? 3).map (fun i => (i.zero, i.size, i.bytes)) = some (some (.int .i64 0), 1, 8) := by kernel_rfl
theorem info33 : (Try.prog.info? 33).map (fun i => (i.zero, i.size, i.bytes)) = some (some (.slice none 0 0), 1, 24) := by kernel_rfl
-- the values' own types
def rd_L2 (xs : List (List Int)) (i : Int) : (List Int) := xs.getD i.toNat ([] : List Int)
theorem at_L2 {w : World} {A : Option Addr} {n : Nat} {xs : List (List Int)} (h : Kd.C (Kd.slice 3 (Kd.int .i64)) w A n xs) (i : Int) (h0 : 0 ≤ i) (h1 : i < n) : ∃ ad A0 c0, A = some ad ∧ w.cell? (ad.add i.toNat) = some (.slice A0 (rd_L2 xs i).length c0) ∧ (rd_L2 xs i).length ≤ c0 ∧ (Kd.int .i64).C w A0 (rd_L2 xs i).length (rd_L2 xs i) := by
 obtain ⟨ad, c, e, _, hK, hc0⟩ := Kd.C_get h ([] : List Int) i h0 h1; have hc : ∀ j u, c[j]? = some u → w.cell? (ad.add (i.toNat * 1 + j)) = some u := hc0
 obtain ⟨A0, c0, rfl, l0, g0⟩ := hK; exact ⟨ad, A0, c0, e, by have hq := hc 0 _ rfl; rwa [Nat.mul_one, Nat.add_zero] at hq, l0, g0⟩
end Go.Proofs.Ytjjedbcgkljdeaa.B
end
section
namespace Go.Proofs.Ytjjedbcgkljdeaa.B
open Go.RowKit Go.Proofs.YtjjedbcgkljdeaaW.PrintWords Go.Proofs.YtjjedbcgkljdeaaW.PrintLast Go.Proofs.YtjjedbcgkljdeaaW.PrintMore Go.Proofs.Ytjjedbcgkljdeaa.A
set_option linter.unusedVariables false
set_option linter.unusedSimpArgs false
mutual
def graph_tree.l0 : Nat → List (List Int) → Int → List Int → List Int → List Int → Int → Int → Option (List Int)
 | 0, _, _, _, _, _, _, _ => none
 | k + 1, x0, x1, x5, x6, x7, x29, x30 => if x30 < x29 then (if 0 ≤ x30 then (if x30 < (x7.length : Int) then (if x30 < (x6.length : Int) then (graph_tree.l0 k x0 x1 x5 (x6.set (x30 : Int).toNat (-1)) (x7.set (x30 : Int).toNat (-1)) x29 (wrap64 (x30 + 1))) else (none)) else (none)) else (none)) else (graph_tree.l1 k x0 x1 x5 x6 x7 x5 (x5.length : Int) 0)
def graph_tree.l1 : Nat → List (List Int) → Int → List Int → List Int → List Int → List Int → Int → Int → Option (List Int)
 | 0, _, _, _, _, _, _, _, _ => none
 | k + 1, x0, x1, x5, x6, x7, x40, x41, x42 => if x42 < x41 then (if 0 ≤ x42 then (if x42 < (x40.length : Int) then (if 0 ≤ (rd x40 x42) then (if (rd x40 x42) < (x6.length : Int) then (graph_tree.l1 k x0 x1 x5 (x6.set ((rd x40 x42) : Int).toNat x42) x7 x40 x41 (wrap64 (x42 + 1))) else (none)) else (none)) else (none)) else (none)) else (if 0 ≤ x1 then (if x1 < (x7.length : Int) then ((graph_turned.f k x0).bind fun t141 => (graph_tree.l2 k x1 x5 x6 (x7.set (x1 : Int).toNat x1) t141 true)) else (none)) else (none))
def graph_tree.l2 : Nat → Int → List Int → List Int → List Int → List (List Int) → Bool → Option (List Int)
 | 0, _, _, _, _, _, _ => none
 | k + 1, x1, x5, x6, x7, x11, x12 => if x12 = true then (graph_tree.l3 k x1 x5 x6 x7 x11 false (wrap64 ((x5.length : Int) - 2))) else (if 0 ≤ x1 then (if x1 < (x7.length : Int) then (some (x7.set (x1 : Int).toNat (-1))) else (none)) else (none))
def graph_tree.l3 : Nat → Int → List Int → List Int → List Int → List (List Int) → Bool → Int → Option (List Int)
 | 0, _, _, _, _, _, _, _ => none
 | k + 1, x1, x5, x6, x7, x11, x12, x13 => if x13 ≥ 0 then (if 0 ≤ x13 then (if x13 < (x5.length : Int) then (if 0 ≤ (rd x5 x13) then (if (rd x5 x13) < (x11.length : Int) then (graph_tree.l4 k x1 x5 x6 x7 x11 x12 x13 (rd x5 x13) (-1) (rd_L2 x11 (rd x5 x13)) ((rd_L2 x11 (rd x5 x13)).length : Int) 0) else (none)) else (none)) else (none)) else (none)) else (graph_tree.l2 k x1 x5 x6 x7 x11 x12)
def graph_tree.l4 : Nat → Int → List Int → List Int → List Int → List (List Int) → Bool → Int → Int → Int → List Int → Int → Int → Option (List Int)
 | 0, _, _, _, _, _, _, _, _, _, _, _, _ => none
 | k + 1, x1, x5, x6, x7, x11, x12, x13, x14, x15, x73, x74, x75 => if x75 < x74 then (if 0 ≤ x75 then (if x75 < (x73.length : Int) then (if 0 ≤ (rd x73 x75) then (if (rd x73 x75) < (x6.length : Int) then (if (rd x6 (rd x73 x75)) < 0 then (graph_tree.j5 k x1 x5 x6 x7 x11 x12 x13 x14 x15 (rd x73 x75) x73 x74 x75 true) else (if (rd x73 x75) < (x7.length : Int) then (graph_tree.j5 k x1 x5 x6 x7 x11 x12 x13 x14 x15 (rd x73 x75) x73 x74 x75 (decide ((rd x7 (rd x73 x75)) < 0))) else (none))) else (none)) else (none)) else (none)) else (none)) else (if 0 ≤ x14 then (if x14 < (x7.length : Int) then (if (rd x7 x14) = x15 then (graph_tree.l3 k x1 x5 x6 x7 x11 x12 (wrap64 (x13 - 1))) else (graph_tree.l3 k x1 x5 x6 (x7.set (x14 : Int).toNat x15) x11 true (wrap64 (x13 - 1)))) else (none)) else (none))
def graph_tree.j5 : Nat → Int → List Int → List Int → List Int → List (List Int) → Bool → Int → Int → Int → Int → List Int → Int → Int → Bool → Option (List Int)
 | 0, _, _, _, _, _, _, _, _, _, _, _, _, _, _ => none
 | k + 1, x1, x5, x6, x7, x11, x12, x13, x14, x15, x17, x73, x74, x75, x90 => if x90 = true then (graph_tree.l4 k x1 x5 x6 x7 x11 x12 x13 x14 x15 x73 x74 (wrap64 (x75 + 1))) else (if x15 < 0 then (graph_tree.j6 k x1 x5 x6 x7 x11 x12 x13 x14 x17 x17 x73 x74 x75) else (graph_tree.j6 k x1 x5 x6 x7 x11 x12 x13 x14 x15 x17 x73 x74 x75))
def graph_tree.j6 : Nat → Int → List Int → List Int → List Int → List (List Int) → Bool → Int → Int → Int → Int → List Int → Int → Int → Option (List Int)
 | 0, _, _, _, _, _, _, _, _, _, _, _, _, _ => none
 | k + 1, x1, x5, x6, x7, x11, x12, x13, x14, x15, x17, x73, x74, x75 => graph_tree.l5 k x1 x5 x6 x7 x11 x12 x13 x14 x15 x17 x73 x74 x75
def graph_tree.l5 : Nat → Int → List Int → List Int → List Int → List (List Int) → Bool → Int → Int → Int → Int → List Int → Int → Int → Option (List Int)
 | 0, _, _, _, _, _, _, _, _, _, _, _, _, _ => none
 | k + 1, x1, x5, x6, x7, x11, x12, x13, x14, x15, x17, x73, x74, x75 => if x15 = x17 then (graph_tree.l4 k x1 x5 x6 x7 x11 x12 x13 x14 x15 x73 x74 (wrap64 (x75 + 1))) else (graph_tree.l6 k x1 x5 x6 x7 x11 x12 x13 x14 x15 x17 x73 x74 x75)
def graph_tree.l6 : Nat → Int → List Int → List Int → List Int → List (List Int) → Bool → Int → Int → Int → Int → List Int → Int → Int → Option (List Int)
 | 0, _, _, _, _, _, _, _, _, _, _, _, _, _ => none
 | k + 1, x1, x5, x6, x7, x11, x12, x13, x14, x15, x17, x73, x74, x75 => if 0 ≤ x17 then (if x17 < (x6.length : Int) then (if 0 ≤ x15 then (if x15 < (x6.length : Int) then (if (rd x6 x17) < (rd x6 x15) then (if x17 < (x7.length : Int) then (graph_tree.l6 k x1 x5 x6 x7 x11 x12 x13 x14 x15 (rd x7 x17) x73 x74 x75) else (none)) else (graph_tree.l7 k x1 x5 x6 x7 x11 x12 x13 x14 x15 x17 x73 x74 x75)) else (none)) else (none)) else (none)) else (none)
def graph_tree.l7 : Nat → Int → List Int → List Int → List Int → List (List Int) → Bool → Int → Int → Int → Int → List Int → Int → Int → Option (List Int)
 | 0, _, _, _, _, _, _, _, _, _, _, _, _, _ => none
 | k + 1, x1, x5, x6, x7, x11, x12, x13, x14, x15, x17, x73, x74, x75 => if 0 ≤ x15 then (if x15 < (x6.length : Int) then (if 0 ≤ x17 then (if x17 < (x6.length : Int) then (if (rd x6 x15) < (rd x6 x17) then (if x15 < (x7.length : Int) then (graph_tree.l7 k x1 x5 x6 x7 x11 x12 x13 x14 (rd x7 x15) x17 x73 x74 x75) else (none)) else (graph_tree.l5 k x1 x5 x6 x7 x11 x12 x13 x14 x15 x17 x73 x74 x75)) else (none)) else (none)) else (none)) else (none)
end
def graph_tree.f (k : Nat) (l0 : List (List Int)) (a1 : Int) : Option (List Int) := (graph_collect.f k l0 a1).bind fun t127 => (if 0 ≤ (l0.length : Int) then (if ((l0.length : Int) : Int).toNat ≤ 35184372088832 then ((some (List.replicate ((l0.length : Int) : Int).toNat 0 : List Int)).bind fun y133 => (graph_tree.l0 k l0 a1 t127 (List.replicate ((l0.length : Int) : Int).toNat 0) y133 (y133.length : Int) 0)) else (none)) else (none))
theorem graph_tree.mono_l : ∀ k, (∀ y0 y1 y2 y3 y4 y5 y6, LeO (graph_tree.l0 k y0 y1 y2 y3 y4 y5 y6) (graph_tree.l0 (k + 1) y0 y1 y2 y3 y4 y5 y6)) ∧ (∀ y0 y1 y2 y3 y4 y5 y6 y7, LeO (graph_tree.l1 k y0 y1 y2 y3 y4 y5 y6 y7) (graph_tree.l1 (k + 1) y0 y1 y2 y3 y4 y5 y6 y7)) ∧ (∀ y0 y1 y2 y3 y4 y5, LeO (graph_tree.l2 k y0 y1 y2 y3 y4 y5) (graph_tree.l2 (k + 1) y0 y1 y2 y3 y4 y5)) ∧ (∀ y0 y1 y2 y3 y4 y5 y6, LeO (graph_tree.l3 k y0 y1 y2 y3 y4 y5 y6) (graph_tree.l3 (k + 1) y0 y1 y2 y3 y4 y5 y6)) ∧ (∀ y0 y1 y2 y3 y4 y5 y6 y7 y8 y9 y10 y11, LeO (graph_tree.l4 k y0 y1 y2 y3 y4 y5 y6 y7 y8 y9 y10 y11) (graph_tree.l4 (k + 1) y0 y1 y2 y3 y4 y5 y6 y7 y8 y9 y10 y11)) ∧ (∀ y0 y1 y2 y3 y4 y5 y6 y7 y8 y9 y10 y11 y12 y13, LeO (graph_tree.j5 k y0 y1 y2 y3 y4 y5 y6 y7 y8 y9 y10 y11 y12 y13) (graph_tree.j5 (k + 1) y0 y1 y2 y3 y4 y5 y6 y7 y8 y9 y10 y11 y12 y13)) ∧ (∀ y0 y1 y2 y3 y4 y5 y6 y7 y8 y9 y10 y11 y12, LeO (graph_tree.j6 k y0 y1 y2 y3 y4 y5 y6 y7 y8 y9 y10 y11 y12) (graph_tree.j6 (k + 1) y0 y1 y2 y3 y4 y5 y6 y7 y8 y9 y10 y11 y12)) ∧ (∀ y0 y1 y2 y3 y4 y5 y6 y7 y8 y9 y10 y11 y12, LeO (graph_tree.l5 k y0 y1 y2 y3 y4 y5 y6 y7 y8 y9 y10 y11 y12) (graph_tree.l5 (k + 1) y0 y1 y2 y3 y4 y5 y6 y7 y8 y9 y10 y11 y12)) ∧ (∀ y0 y1 y2 y3 y4 y5 y6 y7 y8 y9 y10 y11 y12, LeO (graph_tree.l6 k y0 y1 y2 y3 y4 y5 y6 y7 y8 y9 y10 y11 y12) (graph_tree.l6 (k + 1) y0 y1 y2 y3 y4 y5 y6 y7 y8 y9 y10 y11 y12)) ∧ (∀ y0 y1 y2 y3 y4 y5 y6 y7 y8 y9 y10 y11 y12, LeO (graph_tree.l7 k y0 y1 y2 y3 y4 y5 y6 y7 y8 y9 y10 y11 y12) (graph_tree.l7 (k + 1) y0 y1 y2 y3 y4 y5 y6 y7 y8 y9 y10 y11 y12))
 | 0 => ⟨fun _ _ _ _ _ _ _ r h => by simp [graph_tree.l0] at h, fun _ _ _ _ _ _ _ _ r h => by simp [graph_tree.l1] at h, fun _ _ _ _ _ _ r h => by simp [graph_tree.l2] at h, fun _ _ _ _ _ _ _ r h => by simp [graph_tree.l3] at h, fun _ _ _ _ _ _ _ _ _ _ _ _ r h => by simp [graph_tree.l4] at h, fun _ _ _ _ _ _ _ _ _ _ _ _ _ _ r h => by simp [graph_tree.j5] at h, fun _ _ _ _ _ _ _ _ _ _ _ _ _ r h => by simp [graph_tree.j6] at h, fun _ _ _ _ _ _ _ _ _ _ _ _ _ r h => by simp [graph_tree.l5] at h, fun _ _ _ _ _ _ _ _ _ _ _ _ _ r h => by simp [graph_tree.l6] at h, fun _ _ _ _ _ _ _ _ _ _ _ _ _ r h => by simp [graph_tree.l7] at h⟩
 | k + 1 => by
  obtain ⟨ih0, ih1, ih2, ih3, ih4, ih5, ih6, ih7, ih8, ih9⟩ := graph_tree.mono_l k; refine ⟨?_, ?_, ?_, ?_, ?_, ?_, ?_, ?_, ?_, ?_⟩
  ·intro y0 y1 y2 y3 y4 y5 y6
   unfold graph_tree.l0
   repeat' first
   | (with_reducible exact ih0 _ _ _ _ _ _ _)
   | (with_reducible exact ih1 _ _ _ _ _ _ _ _)
   | (with_reducible exact ih2 _ _ _ _ _ _)
   | (with_reducible exact ih3 _ _ _ _ _ _ _)
   | (with_reducible exact ih4 _ _ _ _ _ _ _ _ _ _ _ _)
   | (with_reducible exact ih5 _ _ _ _ _ _ _ _ _ _ _ _ _ _)
   | (with_reducible exact ih6 _ _ _ _ _ _ _ _ _ _ _ _ _)
   | (with_reducible exact ih7 _ _ _ _ _ _ _ _ _ _ _ _ _)
   | (with_reducible exact ih8 _ _ _ _ _ _ _ _ _ _ _ _ _)
   | (with_reducible exact ih9 _ _ _ _ _ _ _ _ _ _ _ _ _)
   | (with_reducible exact graph_collect.mono _ _ _)
   | (with_reducible exact graph_turned.mono _ _)
   | (with_reducible exact LeO.refl _)
   | (with_reducible exact LeO.none _)
   | (with_reducible refine LeO.ite ?_ ?_)
   | (with_reducible refine LeO.bind ?_ (fun _ => ?_))
  ·intro y0 y1 y2 y3 y4 y5 y6 y7
   unfold graph_tree.l1
   repeat' first
   | (with_reducible exact ih0 _ _ _ _ _ _ _)
   | (with_reducible exact ih1 _ _ _ _ _ _ _ _)
   | (with_reducible exact ih2 _ _ _ _ _ _)
   | (with_reducible exact ih3 _ _ _ _ _ _ _)
   | (with_reducible exact ih4 _ _ _ _ _ _ _ _ _ _ _ _)
   | (with_reducible exact ih5 _ _ _ _ _ _ _ _ _ _ _ _ _ _)
   | (with_reducible exact ih6 _ _ _ _ _ _ _ _ _ _ _ _ _)
   | (with_reducible exact ih7 _ _ _ _ _ _ _ _ _ _ _ _ _)
   | (with_reducible exact ih8 _ _ _ _ _ _ _ _ _ _ _ _ _)
   | (with_reducible exact ih9 _ _ _ _ _ _ _ _ _ _ _ _ _)
   | (with_reducible exact graph_collect.mono _ _ _)
   | (with_reducible exact graph_turned.mono _ _)
   | (with_reducible exact LeO.refl _)
   | (with_reducible exact LeO.none _)
   | (with_reducible refine LeO.ite ?_ ?_)
   | (with_reducible refine LeO.bind ?_ (fun _ => ?_))
  ·intro y0 y1 y2 y3 y4 y5
   unfold graph_tree.l2
   repeat' first
   | (with_reducible exact ih0 _ _ _ _ _ _ _)
   | (with_reducible exact ih1 _ _ _ _ _ _ _ _)
   | (with_reducible exact ih2 _ _ _ _ _ _)
   | (with_reducible exact ih3 _ _ _ _ _ _ _)
   | (with_reducible exact ih4 _ _ _ _ _ _ _ _ _ _ _ _)
   | (with_reducible exact ih5 _ _ _ _ _ _ _ _ _ _ _ _ _ _)
   | (with_reducible exact ih6 _ _ _ _ _ _ _ _ _ _ _ _ _)
   | (with_reducible exact ih7 _ _ _ _ _ _ _ _ _ _ _ _ _)
   | (with_reducible exact ih8 _ _ _ _ _ _ _ _ _ _ _ _ _)
   | (with_reducible exact ih9 _ _ _ _ _ _ _ _ _ _ _ _ _)
   | (with_reducible exact graph_collect.mono _ _ _)
   | (with_reducible exact graph_turned.mono _ _)
   | (with_reducible exact LeO.refl _)
   | (with_reducible exact LeO.none _)
   | (with_reducible refine LeO.ite ?_ ?_)
   | (with_reducible refine LeO.bind ?_ (fun _ => ?_))
  ·intro y0 y1 y2 y3 y4 y5 y6
   unfold graph_tree.l3
   repeat' first
   | (with_reducible exact ih0 _ _ _ _ _ _ _)
   | (with_reducible exact ih1 _ _ _ _ _ _ _ _)
   | (with_reducible exact ih2 _ _ _ _ _ _)
   | (with_reducible exact ih3 _ _ _ _ _ _ _)
   | (with_reducible exact ih4 _ _ _ _ _ _ _ _ _ _ _ _)
   | (with_reducible exact ih5 _ _ _ _ _ _ _ _ _ _ _ _ _ _)
   | (with_reducible exact ih6 _ _ _ _ _ _ _ _ _ _ _ _ _)
   | (with_reducible exact ih7 _ _ _ _ _ _ _ _ _ _ _ _ _)
   | (with_reducible exact ih8 _ _ _ _ _ _ _ _ _ _ _ _ _)
   | (with_reducible exact ih9 _ _ _ _ _ _ _ _ _ _ _ _ _)
   | (with_reducible exact graph_collect.mono _ _ _)
   | (with_reducible exact graph_turned.mono _ _)
   | (with_reducible exact LeO.refl _)
   | (with_reducible exact LeO.none _)
   | (with_reducible refine LeO.ite ?_ ?_)
   | (with_reducible refine LeO.bind ?_ (fun _ => ?_))
  ·intro y0 y1 y2 y3 y4 y5 y6 y7 y8 y9 y10 y11
   unfold graph_tree.l4
   repeat' first
   | (with_reducible exact ih0 _ _ _ _ _ _ _)
   | (with_reducible exact ih1 _ _ _ _ _ _ _ _)
   | (with_reducible exact ih2 _ _ _ _ _ _)
   | (with_reducible exact ih3 _ _ _ _ _ _ _)
   | (with_reducible exact ih4 _ _ _ _ _ _ _ _ _ _ _ _)
   | (with_reducible exact ih5 _ _ _ _ _ _ _ _ _ _ _ _ _ _)
   | (with_reducible exact ih6 _ _ _ _ _ _ _ _ _ _ _ _ _)
   | (with_reducible exact ih7 _ _ _ _ _ _ _ _ _ _ _ _ _)
   | (with_reducible exact ih8 _ _ _ _ _ _ _ _ _ _ _ _ _)
   | (with_reducible exact ih9 _ _ _ _ _ _ _ _ _ _ _ _ _)
   | (with_reducible exact graph_collect.mono _ _ _)
   | (with_reducible exact graph_turned.mono _ _)
   | (with_reducible exact LeO.refl _)
   | (with_reducible exact LeO.none _)
   | (with_reducible refine LeO.ite ?_ ?_)
   | (with_reducible refine LeO.bind ?_ (fun _ => ?_))
  ·intro y0 y1 y2 y3 y4 y5 y6 y7 y8 y9 y10 y11 y12 y13
   unfold graph_tree.j5
   repeat' first
   | (with_reducible exact ih0 _ _ _ _ _ _ _)
   | (with_reducible exact ih1 _ _ _ _ _ _ _ _)
   | (with_reducible exact ih2 _ _ _ _ _ _)
   | (with_reducible exact ih3 _ _ _ _ _ _ _)
   | (with_reducible exact ih4 _ _ _ _ _ _ _ _ _ _ _ _)
   | (with_reducible exact ih5 _ _ _ _ _ _ _ _ _ _ _ _ _ _)
   | (with_reducible exact ih6 _ _ _ _ _ _ _ _ _ _ _ _ _)
   | (with_reducible exact ih7 _ _ _ _ _ _ _ _ _ _ _ _ _)
   | (with_reducible exact ih8 _ _ _ _ _ _ _ _ _ _ _ _ _)
   | (with_reducible exact ih9 _ _ _ _ _ _ _ _ _ _ _ _ _)
   | (with_reducible exact graph_collect.mono _ _ _)
   | (with_reducible exact graph_turned.mono _ _)
   | (with_reducible exact LeO.refl _)
   | (with_reducible exact LeO.none _)
   | (with_reducible refine LeO.ite ?_ ?_)
   | (with_reducible refine LeO.bind ?_ (fun _ => ?_))
  ·intro y0 y1 y2 y3 y4 y5 y6 y7 y8 y9 y10 y11 y12
   unfold graph_tree.j6
   repeat' first
   | (with_reducible exact ih0 _ _ _ _ _ _ _)
   | (with_reducible exact ih1 _ _ _ _ _ _ _ _)
   | (with_reducible exact ih2 _ _ _ _ _ _)
   | (with_reducible exact ih3 _ _ _ _ _ _ _)
   | (with_reducible exact ih4 _ _ _ _ _ _ _ _ _ _ _ _)
   | (with_reducible exact ih5 _ _ _ _ _ _ _ _ _ _ _ _ _ _)
   | (with_reducible exact ih6 _ _ _ _ _ _ _ _ _ _ _ _ _)
   | (with_reducible exact ih7 _ _ _ _ _ _ _ _ _ _ _ _ _)
   | (with_reducible exact ih8 _ _ _ _ _ _ _ _ _ _ _ _ _)
   | (with_reducible exact ih9 _ _ _ _ _ _ _ _ _ _ _ _ _)
   | (with_reducible exact graph_collect.mono _ _ _)
   | (with_reducible exact graph_turned.mono _ _)
   | (with_reducible exact LeO.refl _)
   | (with_reducible exact LeO.none _)
   | (with_reducible refine LeO.ite ?_ ?_)
   | (with_reducible refine LeO.bind ?_ (fun _ => ?_))
  ·intro y0 y1 y2 y3 y4 y5 y6 y7 y8 y9 y10 y11 y12
   unfold graph_tree.l5
   repeat' first
   | (with_reducible exact ih0 _ _ _ _ _ _ _)
   | (with_reducible exact ih1 _ _ _ _ _ _ _ _)
   | (with_reducible exact ih2 _ _ _ _ _ _)
   | (with_reducible exact ih3 _ _ _ _ _ _ _)
   | (with_reducible exact ih4 _ _ _ _ _ _ _ _ _ _ _ _)
   | (with_reducible exact ih5 _ _ _ _ _ _ _ _ _ _ _ _ _ _)
   | (with_reducible exact ih6 _ _ _ _ _ _ _ _ _ _ _ _ _)
   | (with_reducible exact ih7 _ _ _ _ _ _ _ _ _ _ _ _ _)
   | (with_reducible exact ih8 _ _ _ _ _ _ _ _ _ _ _ _ _)
   | (with_reducible exact ih9 _ _ _ _ _ _ _ _ _ _ _ _ _)
   | (with_reducible exact graph_collect.mono _ _ _)
   | (with_reducible exact graph_turned.mono _ _)
   | (with_reducible exact LeO.refl _)
   | (with_reducible exact LeO.none _)
   | (with_reducible refine LeO.ite ?_ ?_)
   | (with_reducible refine LeO.bind ?_ (fun _ => ?_))
  ·intro y0 y1 y2 y3 y4 y5 y6 y7 y8 y9 y10 y11 y12
   unfold graph_tree.l6
   repeat' first
   | (with_reducible exact ih0 _ _ _ _ _ _ _)
   | (with_reducible exact ih1 _ _ _ _ _ _ _ _)
   | (with_reducible exact ih2 _ _ _ _ _ _)
   | (with_reducible exact ih3 _ _ _ _ _ _ _)
   | (with_reducible exact ih4 _ _ _ _ _ _ _ _ _ _ _ _)
   | (with_reducible exact ih5 _ _ _ _ _ _ _ _ _ _ _ _ _ _)
   | (with_reducible exact ih6 _ _ _ _ _ _ _ _ _ _ _ _ _)
   | (with_reducible exact ih7 _ _ _ _ _ _ _ _ _ _ _ _ _)
   | (with_reducible exact ih8 _ _ _ _ _ _ _ _ _ _ _ _ _)
   | (with_reducible exact ih9 _ _ _ _ _ _ _ _ _ _ _ _ _)
   | (with_reducible exact graph_collect.mono _ _ _)
   | (with_reducible exact graph_turned.mono _ _)
   | (with_reducible exact LeO.refl _)
   | (with_reducible exact LeO.none _)
   | (with_reducible refine LeO.ite ?_ ?_)
   | (with_reducible refine LeO.bind ?_ (fun _ => ?_))
  ·intro y0 y1 y2 y3 y4 y5 y6 y7 y8 y9 y10 y11 y12
   unfold graph_tree.l7
   repeat' first
   | (with_reducible exact ih0 _ _ _ _ _ _ _)
   | (with_reducible exact ih1 _ _ _ _ _ _ _ _)
   | (with_reducible exact ih2 _ _ _ _ _ _)
   | (with_reducible exact ih3 _ _ _ _ _ _ _)
   | (with_reducible exact ih4 _ _ _ _ _ _ _ _ _ _ _ _)
   | (with_reducible exact ih5 _ _ _ _ _ _ _ _ _ _ _ _ _ _)
   | (with_reducible exact ih6 _ _ _ _ _ _ _ _ _ _ _ _ _)
   | (with_reducible exact ih7 _ _ _ _ _ _ _ _ _ _ _ _ _)
   | (with_reducible exact ih8 _ _ _ _ _ _ _ _ _ _ _ _ _)
   | (with_reducible exact ih9 _ _ _ _ _ _ _ _ _ _ _ _ _)
   | (with_reducible exact graph_collect.mono _ _ _)
   | (with_reducible exact graph_turned.mono _ _)
   | (with_reducible exact LeO.refl _)
   | (with_reducible exact LeO.none _)
   | (with_reducible refine LeO.ite ?_ ?_)
   | (with_reducible refine LeO.bind ?_ (fun _ => ?_))
theorem graph_tree.mono : ∀ a0 a1 k, LeO (graph_tree.f k a0 a1) (graph_tree.f (k + 1) a0 a1) := by
 intro a0 a1 k
 obtain ⟨ih0, ih1, ih2, ih3, ih4, ih5, ih6, ih7, ih8, ih9⟩ := graph_tree.mono_l k; unfold graph_tree.f
 repeat' first
   | (with_reducible exact ih0 _ _ _ _ _ _ _)
   | (with_reducible exact ih1 _ _ _ _ _ _ _ _)
   | (with_reducible exact ih2 _ _ _ _ _ _)
   | (with_reducible exact ih3 _ _ _ _ _ _ _)
   | (with_reducible exact ih4 _ _ _ _ _ _ _ _ _ _ _ _)
   | (with_reducible exact ih5 _ _ _ _ _ _ _ _ _ _ _ _ _ _)
   | (with_reducible exact ih6 _ _ _ _ _ _ _ _ _ _ _ _ _)
   | (with_reducible exact ih7 _ _ _ _ _ _ _ _ _ _ _ _ _)
   | (with_reducible exact ih8 _ _ _ _ _ _ _ _ _ _ _ _ _)
   | (with_reducible exact ih9 _ _ _ _ _ _ _ _ _ _ _ _ _)
   | (with_reducible exact graph_collect.mono _ _ _)
   | (with_reducible exact graph_turned.mono _ _)
   | (with_reducible exact LeO.refl _)
   | (with_reducible exact LeO.none _)
   | (with_reducible refine LeO.ite ?_ ?_)
   | (with_reducible refine LeO.bind ?_ (fun _ => ?_))
set_option maxHeartbeats 8000000 in
set_option maxRecDepth 100000 in
theorem graph_tree.calls (k : Nat) (A0 : Option Addr) (c0 : Nat) (l0 : List (List Int)) (a1 : Int) (r : List Int) (w : World) (hr0 : Kd.C (Kd.slice 3 (Kd.int .i64)) w A0 l0.length l0) (hc0 : l0.length ≤ c0) (h : graph_tree.f k l0 a1 = some r) :
  Calls Try.prog 48 #[.slice A0 l0.length c0, .int .i64 a1] w fun e w' => ∃ v0_ : Value, e = .returned (v0_) ∧ Kd.R (Kd.int .i64) 3 w' w.heap.size (fun _ => True) v0_ r ∧ Below w.heap.size w w' := by
 have HR0 := Aside0.mk hr0; have HC0 := Aside0.mk hc0; clear hr0 hc0; have HB := Aside0.mk (Below.refl w.heap.size w); have H : ((graph_collect.f k l0 a1).bind fun t127 => (if 0 ≤ (l0.length : Int) then (if ((l0.length : Int) : Int).toNat ≤ 35184372088832 then ((some (List.replicate ((l0.length : Int) : Int).toNat 0 : List Int)).bind fun y133 => (graph_tree.l0 k l0 a1 t127 (List.replicate ((l0.length : Int) : Int).toNat 0) y133 (y133.length : Int) 0)) else (none)) else (none))) = some r := h
 clear h; replace H := Option.bind_eq_some_iff.mp H; obtain ⟨t127, A30, H⟩ := H; replace H : (if 0 ≤ (l0.length : Int) then (if ((l0.length : Int) : Int).toNat ≤ 35184372088832 then ((some (List.replicate ((l0.length : Int) : Int).toNat 0 : List Int)).bind fun y133 => (graph_tree.l0 k l0 a1 t127 (List.replicate ((l0.length : Int) : Int).toNat 0) y133 (y133.length : Int) 0)) else (none)) else (none)) = some r := H
 have A3 := Aside0.mk A30; clear A30; by_cases c4 : 0 ≤ (l0.length : Int)
 ·rw [if_pos c4] at H; have c4b0 := eq_true c4; have c4b1 : decide (0 ≤ (l0.length : Int)) = true := decide_eq_true c4
  clear c4; by_cases c5 : ((l0.length : Int) : Int).toNat ≤ 35184372088832
  ·rw [if_pos c5] at H; have c5b0 := eq_true c5; have c5b1 : decide (((l0.length : Int) : Int).toNat ≤ 35184372088832) = true := decide_eq_true c5
   clear c5; obtain ⟨y130, hy130⟩ : ∃ y_ : List Int, y_ = (List.replicate ((l0.length : Int) : Int).toNat 0) := ⟨_, rfl⟩; replace H : ((some (List.replicate ((l0.length : Int) : Int).toNat 0 : List Int)).bind fun y133 => (graph_tree.l0 k l0 a1 t127 y130 y133 (y133.length : Int) 0)) = some r := by first | (with_reducible first | (rw [hy130]; exact H) | exact H) | (have H2_ := (Option.bind_some _ _).symm.trans H; first | with_reducible exact H2_ | (rw [hy130]; exact H2_)) | (rw [hy130]; exact H) | exact H
   have Ny130 := Aside0.mk hy130; clear hy130; obtain ⟨y133, hy133⟩ : ∃ y_ : List Int, y_ = (List.replicate ((l0.length : Int) : Int).toNat 0) := ⟨_, rfl⟩; replace H : (graph_tree.l0 k l0 a1 t127 y130 y133 (y133.length : Int) 0) = some r := by first | (with_reducible first | (rw [hy133]; exact H) | exact H) | (have H2_ := (Option.bind_some _ _).symm.trans H; first | with_reducible exact H2_ | (rw [hy133]; exact H2_)) | (rw [hy133]; exact H) | exact H
   have Ny133 := Aside0.mk hy133; clear hy133; have H' := Aside0.mk H
   clear H; go_enter Try.func48, Try.ntmps48
   go_wp2_with (first | (go_at_call 56; refine (post_calls' _ _ _ _ _).mono ?_; rintro e Wp_ ⟨bp_, rfl, hpo_⟩) | (go_at_call 66; (with_reducible refine (graph_collect.calls k _ _ l0 a1 t127 _ ?side1 ?side2 A3.out hpo_).mono ?_); (case side1 => repeat (first | exact HR0.out | with_reducible first | refine Kd.C_alloc ?_ _ | refine Kd.C_drewN ?_ _ | refine Kd.C_drew ?_)); (case side2 => exact HC0.out); rintro e w6 ⟨v128, rfl, ho0, hb⟩; have n0_ := Aside0.mk (Kd.R_lower ho0 (below_size (by repeat (first | (with_reducible first | exact HB.out | apply below_alloc | apply pw_below_drewN | apply below_drew1) | exact HB.out)))); have n1_ := Aside0.mk (below_step (by repeat (first | (with_reducible first | exact HB.out | apply below_alloc | apply pw_below_drewN | apply below_drew1) | exact HB.out)) hb); clear HB; have HO129 := n0_; have HB := n1_; clear n0_ n1_; (try clear hb); (try clear hb2); (try clear hk); (try clear hi); (try clear ho0)) | ((with_reducible refine gate_dst (N := 24) rfl ?_); refine Kd.R_make (Kd.int .i64) _ 3 rfl (N := 24) rfl 33 _ _ rfl (l0.length : Int) rfl rfl Try.underlying33 (.int .i64 0) 8 info3 rfl (by decide) (by omega) 0 (ok := fun _ => True) (okp := fun _ => True) rfl (fun _ hk => hk) trivial (of_decide_eq_true (by with_reducible assumption)) (Nat.le_trans (Nat.mul_le_mul_right _ (of_decide_eq_true (by with_reducible assumption) : (l0.length : Int).toNat ≤ 35184372088832)) (by omega)) (Below.refl _ _) (Nat.le_refl _) ?_; intro v131 w7 ho8 hb hg_ hnew_; clear hg_ hnew_; (first | rw [← Ny130.out] at ho8 | (simp only [Int.reduceToNat] at ho8; rw [← Ny130.out] at ho8)); have n0_ := Aside0.mk (Kd.R_elder' (by (with_reducible repeat (first | apply Kd.R_alloc | apply Kd.R_drewN | apply Kd.R_drew)); exact HO129.out) (Kd.R_base ho8) hb); have n1_ := Aside0.mk (Kd.R_lower (Kd.R_new' ho8 (Kd.R_lt (by (with_reducible repeat (first | apply Kd.R_alloc | apply Kd.R_drewN | apply Kd.R_drew)); exact HO129.out))) (below_size (by repeat (first | (with_reducible first | exact HB.out | apply below_alloc | apply pw_below_drewN | apply below_drew1) | exact HB.out)))); have n2_ := Aside0.mk (below_step (by repeat (first | (with_reducible first | exact HB.out | apply below_alloc | apply pw_below_drewN | apply below_drew1) | exact HB.out)) hb); clear HO129; clear HB; have HO129 := n0_; have HO132 := n1_; have HB := n2_; clear n0_ n1_ n2_; clear hb ho8) | ((with_reducible refine gate_dst (N := 27) rfl ?_); refine Kd.R_make (Kd.int .i64) _ 3 rfl (N := 27) rfl 33 _ _ rfl (l0.length : Int) rfl rfl Try.underlying33 (.int .i64 0) 8 info3 rfl (by decide) (by omega) 0 (ok := fun _ => True) (okp := fun _ => True) rfl (fun _ hk => hk) trivial (of_decide_eq_true (by with_reducible assumption)) (Nat.le_trans (Nat.mul_le_mul_right _ (of_decide_eq_true (by with_reducible assumption) : (l0.length : Int).toNat ≤ 35184372088832)) (by omega)) (Below.refl _ _) (Nat.le_refl _) ?_; intro v134 w9 ho10 hb hg_ hnew_; clear hg_ hnew_; (first | rw [← Ny133.out] at ho10 | (simp only [Int.reduceToNat] at ho10; rw [← Ny133.out] at ho10)); have n0_ := Aside0.mk (Kd.R_elder' (by (with_reducible repeat (first | apply Kd.R_alloc | apply Kd.R_drewN | apply Kd.R_drew)); exact HO129.out) (Kd.R_base ho10) hb); have n1_ := Aside0.mk (Kd.R_elder' (by (with_reducible repeat (first | apply Kd.R_alloc | apply Kd.R_drewN | apply Kd.R_drew)); exact HO132.out) (Kd.R_base ho10) hb); have n2_ := Aside0.mk (Kd.R_lower (Kd.R_new' (Kd.R_new' ho10 (Kd.R_lt (by (with_reducible repeat (first | apply Kd.R_alloc | apply Kd.R_drewN | apply Kd.R_drew)); exact HO129.out))) (Kd.R_lt (by (with_reducible repeat (first | apply Kd.R_alloc | apply Kd.R_drewN | apply Kd.R_drew)); exact HO132.out))) (below_size (by repeat (first | (with_reducible first | exact HB.out | apply below_alloc | apply pw_below_drewN | apply below_drew1) | exact HB.out)))); have n3_ := Aside0.mk (below_step (by repeat (first | (with_reducible first | exact HB.out | apply below_alloc | apply pw_below_drewN | apply below_drew1) | exact HB.out)) hb); clear HO129; clear HO132; clear HB; have HO129 := n0_; have HO132 := n1_; have HO135 := n2_; have HB := n3_; clear n0_ n1_ n2_ n3_; clear hb ho10; obtain ⟨Ao11, co11, eo11⟩ := Kd.R_slice HO135.out; subst eo11))
   repeat (go_quiet (first | (go_at_call 56; refine (post_calls' _ _ _ _ _).mono ?_; rintro e Wp_ ⟨bp_, rfl, hpo_⟩) | (go_at_call 66; (with_reducible refine (graph_collect.calls k _ _ l0 a1 t127 _ ?side1 ?side2 A3.out hpo_).mono ?_); (case side1 => repeat (first | exact HR0.out | with_reducible first | refine Kd.C_alloc ?_ _ | refine Kd.C_drewN ?_ _ | refine Kd.C_drew ?_)); (case side2 => exact HC0.out); rintro e w6 ⟨v128, rfl, ho0, hb⟩; have n0_ := Aside0.mk (Kd.R_lower ho0 (below_size (by repeat (first | (with_reducible first | exact HB.out | apply below_alloc | apply pw_below_drewN | apply below_drew1) | exact HB.out)))); have n1_ := Aside0.mk (below_step (by repeat (first | (with_reducible first | exact HB.out | apply below_alloc | apply pw_below_drewN | apply below_drew1) | exact HB.out)) hb); clear HB; have HO129 := n0_; have HB := n1_; clear n0_ n1_; (try clear hb); (try clear hb2); (try clear hk); (try clear hi); (try clear ho0)) | ((with_reducible refine gate_dst (N := 24) rfl ?_); refine Kd.R_make (Kd.int .i64) _ 3 rfl (N := 24) rfl 33 _ _ rfl (l0.length : Int) rfl rfl Try.underlying33 (.int .i64 0) 8 info3 rfl (by decide) (by omega) 0 (ok := fun _ => True) (okp := fun _ => True) rfl (fun _ hk => hk) trivial (of_decide_eq_true (by with_reducible assumption)) (Nat.le_trans (Nat.mul_le_mul_right _ (of_decide_eq_true (by with_reducible assumption) : (l0.length : Int).toNat ≤ 35184372088832)) (by omega)) (Below.refl _ _) (Nat.le_refl _) ?_; intro v131 w7 ho8 hb hg_ hnew_; clear hg_ hnew_; (first | rw [← Ny130.out] at ho8 | (simp only [Int.reduceToNat] at ho8; rw [← Ny130.out] at ho8)); have n0_ := Aside0.mk (Kd.R_elder' (by (with_reducible repeat (first | apply Kd.R_alloc | apply Kd.R_drewN | apply Kd.R_drew)); exact HO129.out) (Kd.R_base ho8) hb); have n1_ := Aside0.mk (Kd.R_lower (Kd.R_new' ho8 (Kd.R_lt (by (with_reducible repeat (first | apply Kd.R_alloc | apply Kd.R_drewN | apply Kd.R_drew)); exact HO129.out))) (below_size (by repeat (first | (with_reducible first | exact HB.out | apply below_alloc | apply pw_below_drewN | apply below_drew1) | exact HB.out)))); have n2_ := Aside0.mk (below_step (by repeat (first | (with_reducible first | exact HB.out | apply below_alloc | apply pw_below_drewN | apply below_drew1) | exact HB.out)) hb); clear HO129; clear HB; have HO129 := n0_; have HO132 := n1_; have HB := n2_; clear n0_ n1_ n2_; clear hb ho8) | ((with_reducible refine gate_dst (N := 27) rfl ?_); refine Kd.R_make (Kd.int .i64) _ 3 rfl (N := 27) rfl 33 _ _ rfl (l0.length : Int) rfl rfl Try.underlying33 (.int .i64 0) 8 info3 rfl (by decide) (by omega) 0 (ok := fun _ => True) (okp := fun _ => True) rfl (fun _ hk => hk) trivial (of_decide_eq_true (by with_reducible assumption)) (Nat.le_trans (Nat.mul_le_mul_right _ (of_decide_eq_true (by with_reducible assumption) : (l0.length : Int).toNat ≤ 35184372088832)) (by omega)) (Below.refl _ _) (Nat.le_refl _) ?_; intro v134 w9 ho10 hb hg_ hnew_; clear hg_ hnew_; (first | rw [← Ny133.out] at ho10 | (simp only [Int.reduceToNat] at ho10; rw [← Ny133.out] at ho10)); have n0_ := Aside0.mk (Kd.R_elder' (by (with_reducible repeat (first | apply Kd.R_alloc | apply Kd.R_drewN | apply Kd.R_drew)); exact HO129.out) (Kd.R_base ho10) hb); have n1_ := Aside0.mk (Kd.R_elder' (by (with_reducible repeat (first | apply Kd.R_alloc | apply Kd.R_drewN | apply Kd.R_drew)); exact HO132.out) (Kd.R_base ho10) hb); have n2_ := Aside0.mk (Kd.R_lower (Kd.R_new' (Kd.R_new' ho10 (Kd.R_lt (by (with_reducible repeat (first | apply Kd.R_alloc | apply Kd.R_drewN | apply Kd.R_drew)); exact HO129.out))) (Kd.R_lt (by (with_reducible repeat (first | apply Kd.R_alloc | apply Kd.R_drewN | apply Kd.R_drew)); exact HO132.out))) (below_size (by repeat (first | (with_reducible first | exact HB.out | apply below_alloc | apply pw_below_drewN | apply below_drew1) | exact HB.out)))); have n3_ := Aside0.mk (below_step (by repeat (first | (with_reducible first | exact HB.out | apply below_alloc | apply pw_below_drewN | apply below_drew1) | exact HB.out)) hb); clear HO129; clear HO132; clear HB; have HO129 := n0_; have HO132 := n1_; have HO135 := n2_; have HB := n3_; clear n0_ n1_ n2_ n3_; clear hb ho10; obtain ⟨Ao11, co11, eo11⟩ := Kd.R_slice HO135.out; subst eo11)); try go_wp2_with (first | (go_at_call 56; refine (post_calls' _ _ _ _ _).mono ?_; rintro e Wp_ ⟨bp_, rfl, hpo_⟩) | (go_at_call 66; (with_reducible refine (graph_collect.calls k _ _ l0 a1 t127 _ ?side1 ?side2 A3.out hpo_).mono ?_); (case side1 => repeat (first | exact HR0.out | with_reducible first | refine Kd.C_alloc ?_ _ | refine Kd.C_drewN ?_ _ | refine Kd.C_drew ?_)); (case side2 => exact HC0.out); rintro e w6 ⟨v128, rfl, ho0, hb⟩; have n0_ := Aside0.mk (Kd.R_lower ho0 (below_size (by repeat (first | (with_reducible first | exact HB.out | apply below_alloc | apply pw_below_drewN | apply below_drew1) | exact HB.out)))); have n1_ := Aside0.mk (below_step (by repeat (first | (with_reducible first | exact HB.out | apply below_alloc | apply pw_below_drewN | apply below_drew1) | exact HB.out)) hb); clear HB; have HO129 := n0_; have HB := n1_; clear n0_ n1_; (try clear hb); (try clear hb2); (try clear hk); (try clear hi); (try clear ho0)) | ((with_reducible refine gate_dst (N := 24) rfl ?_); refine Kd.R_make (Kd.int .i64) _ 3 rfl (N := 24) rfl 33 _ _ rfl (l0.length : Int) rfl rfl Try.underlying33 (.int .i64 0) 8 info3 rfl (by decide) (by omega) 0 (ok := fun _ => True) (okp := fun _ => True) rfl (fun _ hk => hk) trivial (of_decide_eq_true (by with_reducible assumption)) (Nat.le_trans (Nat.mul_le_mul_right _ (of_decide_eq_true (by with_reducible assumption) : (l0.length : Int).toNat ≤ 35184372088832)) (by omega)) (Below.refl _ _) (Nat.le_refl _) ?_; intro v131 w7 ho8 hb hg_ hnew_; clear hg_ hnew_; (first | rw [← Ny130.out] at ho8 | (simp only [Int.reduceToNat] at ho8; rw [← Ny130.out] at ho8)); have n0_ := Aside0.mk (Kd.R_elder' (by (with_reducible repeat (first | apply Kd.R_alloc | apply Kd.R_drewN | apply Kd.R_drew)); exact HO129.out) (Kd.R_base ho8) hb); have n1_ := Aside0.mk (Kd.R_lower (Kd.R_new' ho8 (Kd.R_lt (by (with_reducible repeat (first | apply Kd.R_alloc | apply Kd.R_drewN | apply Kd.R_drew)); exact HO129.out))) (below_size (by repeat (first | (with_reducible first | exact HB.out | apply below_alloc | apply pw_below_drewN | apply below_drew1) | exact HB.out)))); have n2_ := Aside0.mk (below_step (by repeat (first | (with_reducible first | exact HB.out | apply below_alloc | apply pw_below_drewN | apply below_drew1) | exact HB.out)) hb); clear HO129; clear HB; have HO129 := n0_; have HO132 := n1_; have HB := n2_; clear n0_ n1_ n2_; clear hb ho8) | ((with_reducible refine gate_dst (N := 27) rfl ?_); refine Kd.R_make (Kd.int .i64) _ 3 rfl (N := 27) rfl 33 _ _ rfl (l0.length : Int) rfl rfl Try.underlying33 (.int .i64 0) 8 info3 rfl (by decide) (by omega) 0 (ok := fun _ => True) (okp := fun _ => True) rfl (fun _ hk => hk) trivial (of_decide_eq_true (by with_reducible assumption)) (Nat.le_trans (Nat.mul_le_mul_right _ (of_decide_eq_true (by with_reducible assumption) : (l0.length : Int).toNat ≤ 35184372088832)) (by omega)) (Below.refl _ _) (Nat.le_refl _) ?_; intro v134 w9 ho10 hb hg_ hnew_; clear hg_ hnew_; (first | rw [← Ny133.out] at ho10 | (simp only [Int.reduceToNat] at ho10; rw [← Ny133.out] at ho10)); have n0_ := Aside0.mk (Kd.R_elder' (by (with_reducible repeat (first | apply Kd.R_alloc | apply Kd.R_drewN | apply Kd.R_drew)); exact HO129.out) (Kd.R_base ho10) hb); have n1_ := Aside0.mk (Kd.R_elder' (by (with_reducible repeat (first | apply Kd.R_alloc | apply Kd.R_drewN | apply Kd.R_drew)); exact HO132.out) (Kd.R_base ho10) hb); have n2_ := Aside0.mk (Kd.R_lower (Kd.R_new' (Kd.R_new' ho10 (Kd.R_lt (by (with_reducible repeat (first | apply Kd.R_alloc | apply Kd.R_drewN | apply Kd.R_drew)); exact HO129.out))) (Kd.R_lt (by (with_reducible repeat (first | apply Kd.R_alloc | apply Kd.R_drewN | apply Kd.R_drew)); exact HO132.out))) (below_size (by repeat (first | (with_reducible first | exact HB.out | apply below_alloc | apply pw_below_drewN | apply below_drew1) | exact HB.out)))); have n3_ := Aside0.mk (below_step (by repeat (first | (with_reducible first | exact HB.out | apply below_alloc | apply pw_below_drewN | apply below_drew1) | exact HB.out)) hb); clear HO129; clear HO132; clear HB; have HO129 := n0_; have HO132 := n1_; have HO135 := n2_; have HB := n3_; clear n0_ n1_ n2_ n3_; clear hb ho10; obtain ⟨Ao11, co11, eo11⟩ := Kd.R_slice HO135.out; subst eo11)))
   go_loopg [30] k (fun kq v30 w' => ∃ (x6_1 : List Int) (x7_1 : List Int) (x30_1 : Int), v30 = .int .i64 x30_1 ∧ Aside0 (graph_tree.l0 kq l0 a1 t127 x6_1 x7_1 (y133.length : Int) x30_1 = some r) ∧ Aside0 (kq ≤ k) ∧ Aside0 (Kd.R (Kd.int .i64) 3 w' w.heap.size (fun k_ => some k_ ≠ (v131 : Value).ownBlock ∧ some k_ ≠ ((.slice Ao11 y133.length co11) : Value).ownBlock) v128 t127) ∧ Aside0 (Kd.R (Kd.int .i64) 3 w' w.heap.size (fun k_ => some k_ ≠ (v128 : Value).ownBlock ∧ some k_ ≠ ((.slice Ao11 y133.length co11) : Value).ownBlock) v131 x6_1) ∧ Aside0 (Kd.R (Kd.int .i64) 3 w' w.heap.size (fun k_ => some k_ ≠ (v128 : Value).ownBlock ∧ some k_ ≠ (v131 : Value).ownBlock) (.slice Ao11 y133.length co11) x7_1) ∧ Aside0 (Below w.heap.size w w'))
   case atStart => exact ⟨(y130), (y133), (0), (by first | rfl | (simp; done) | (simp [*]; done)), H', ⟨Nat.le_refl _⟩, ⟨by (with_reducible repeat (first | apply Kd.R_alloc | apply Kd.R_drewN | apply Kd.R_drew)); exact Kd.R_mono HO129.out (fun _ hk => ⟨hk.1.2, hk.2⟩)⟩, ⟨by (with_reducible repeat (first | apply Kd.R_alloc | apply Kd.R_drewN | apply Kd.R_drew)); exact Kd.R_mono HO132.out (fun _ hk => ⟨hk.1.2, hk.2⟩)⟩, ⟨by (with_reducible repeat (first | apply Kd.R_alloc | apply Kd.R_drewN | apply Kd.R_drew)); exact Kd.R_mono HO135.out (fun _ hk => ⟨hk.1.2, hk.2⟩)⟩, ⟨by repeat (first | (with_reducible first | exact HB.out | apply below_alloc | apply pw_below_drewN | apply below_drew1) | exact HB.out)⟩⟩
   case round =>
    clear H'; try clear p2
    try clear c4
    try clear c4b0
    try clear c4b1
    try clear c5
    try clear c5b0
    try clear c5b1
    obtain ⟨x6_1, x7_1, x30_1, rfl, HA, HK1, HO_5, HO_6, HO_7, HB⟩ := hrel; have hl7_1 := (Kd.R_reads' HO_7.out).1; rw [hl7_1] at HO_7; (try simp only [hl7_1])
    (try simp only [hl7_1] at HO_5)
    (try simp only [hl7_1] at HO_6)
    cases gk with
    | zero => exact absurd HA.out (by simp [graph_tree.l0])
    | succ k1 =>
     have H := HA.out; clear HA; simp only [graph_tree.l0] at H
     by_cases c12 : x30_1 < (y133.length : Int)
     ·rw [if_pos c12] at H; have c12b0 : decide (x30_1 < (y133.length : Int)) = true := decide_eq_true c12
      clear c12; by_cases c13 : 0 ≤ x30_1
      ·rw [if_pos c13] at H; have c13b0 : decide (0 ≤ x30_1) = true := decide_eq_true c13
       clear c13; by_cases c14 : x30_1 < (x7_1.length : Int)
       ·rw [if_pos c14] at H; have c14b0 : decide (x30_1 < (x7_1.length : Int)) = true := decide_eq_true c14
        clear c14; obtain ⟨y136, hy136⟩ : ∃ y_ : List Int, y_ = (x7_1.set (x30_1 : Int).toNat (-1)) := ⟨_, rfl⟩; replace H : (if x30_1 < (x6_1.length : Int) then (graph_tree.l0 k1 l0 a1 t127 (x6_1.set (x30_1 : Int).toNat (-1)) y136 (y133.length : Int) (wrap64 (x30_1 + 1))) else (none)) = some r := by first | (with_reducible first | (rw [hy136]; exact H) | exact H) | (have H2_ := (Option.bind_some _ _).symm.trans H; first | with_reducible exact H2_ | (rw [hy136]; exact H2_)) | (rw [hy136]; exact H) | exact H
        have Ny136 := Aside0.mk hy136; clear hy136; by_cases c16 : x30_1 < (x6_1.length : Int)
        ·rw [if_pos c16] at H; have c16b0 : decide (x30_1 < (x6_1.length : Int)) = true := decide_eq_true c16
         clear c16; obtain ⟨y137, hy137⟩ : ∃ y_ : List Int, y_ = (x6_1.set (x30_1 : Int).toNat (-1)) := ⟨_, rfl⟩; replace H : (graph_tree.l0 k1 l0 a1 t127 y137 y136 (y133.length : Int) (wrap64 (x30_1 + 1))) = some r := by first | (with_reducible first | (rw [hy137]; exact H) | exact H) | (have H2_ := (Option.bind_some _ _).symm.trans H; first | with_reducible exact H2_ | (rw [hy137]; exact H2_)) | (rw [hy137]; exact H) | exact H
         have Ny137 := Aside0.mk hy137; clear hy137; have H' := Aside0.mk H
         clear H; have p15 : 0 ≤ (x30_1 : Int) := of_decide_eq_true (by with_reducible assumption)
         have q15 : (x30_1 : Int) < ((x7_1.length : Int) : Int) := of_decide_eq_true (by with_reducible assumption)
         obtain ⟨go15, co15, eo15, gb15, gl15, cl15, HG15⟩ := Kd.R_form HO_7.out (by omega)
         (first | cases eo15 | (injection eo15 with ea_ en_ ec_; (first | subst ea_ | (injection ea_ with ea_; subst ea_)); subst ec_; clear en_))
         have GB15 := Aside0.mk gb15; have GG15 := Aside0.mk HG15; clear gb15 gl15 HG15; obtain ⟨hx15_0, hf15_0⟩ := Kd.R_celln 0 HO_7.out (x30_1 : Int) p15 q15; replace p15 := eq_true p15; replace q15 := eq_true q15; have HP18 := Kd.R_putg HO_7.out (x30_1 : Int) (-1); go_wp2_with (first | ((with_reducible refine gate_store (t := 3) (p := 37) rfl ?_); (try (rw [drewN_self wr]; generalize hq_ : World.drewN wr _ = wr; have n0_ := Aside0.mk (Kd.R_at hq_ HO_5.out); have n1_ := Aside0.mk (Kd.R_at hq_ HO_6.out); have n2_ := Aside0.mk (Kd.R_at hq_ HO_7.out); have n3_ := Aside0.mk (below_at hq_ HB.out); clear hq_ HO_5 HO_6 HO_7 HB; have HO_5 := n0_; have HO_6 := n1_; have HO_7 := n2_; have HB := n3_; clear n0_ n1_ n2_ n3_; (try (have HP18 := Kd.R_putg HO_7.out (x30_1 : Int) (-1))))); refine store_event (t := 3) (p := 37) (v := ?vo_w19) (w1 := (wr.setCell ⟨go15, (x30_1 : Int).toNat, none⟩ (.int .i64 (-1)))) ?hg ?ho ?hn ?hr ?_; (case ho => rfl); (case hg => rfl); (case hn => rfl); (case hr => first | (go_simp; done) | (go_simp; rfl)); intro w19 hw; have hg : wr.grownBy w19 (some go15) := (by rw [hw]; exact HP18.2); have hp_ : Kd.R (Kd.int .i64) 3 w19 w.heap.size (fun k_ => some k_ ≠ (v128 : Value).ownBlock ∧ some k_ ≠ (v131 : Value).ownBlock) (.slice (some ⟨go15, 0, none⟩) x7_1.length co11) y136 := (by rw [hw, Ny136.out]; exact HP18.1); clear HP18; have n0_ := Aside0.mk (Kd.R_after (v := (.slice (some ⟨go15, 0, none⟩) x7_1.length co11)) (v1 := (.slice (some ⟨go15, 0, none⟩) x7_1.length co11)) (ok := (fun k_ => some k_ ≠ (v131 : Value).ownBlock)) (by (with_reducible repeat (first | apply Kd.R_alloc | apply Kd.R_drewN | apply Kd.R_drew)); exact HO_5.out) hg (.inl rfl)); have n1_ := Aside0.mk (Kd.R_after (v := (.slice (some ⟨go15, 0, none⟩) x7_1.length co11)) (v1 := (.slice (some ⟨go15, 0, none⟩) x7_1.length co11)) (ok := (fun k_ => some k_ ≠ (v128 : Value).ownBlock)) (by (with_reducible repeat (first | apply Kd.R_alloc | apply Kd.R_drewN | apply Kd.R_drew)); exact HO_6.out) hg (.inl rfl)); have n2_ := Aside0.mk (hp_); have n3_ := Aside0.mk ((by rw [hw]; exact below_set (HB.out) GB15.out : Below w.heap.size w w19)); clear HO_5; clear HO_6; clear HO_7; clear HB; have HO_5 := n0_; have HO_6 := n1_; have HO_7 := n2_; have HB := n3_; clear n0_ n1_ n2_ n3_; clear hg hw hp_; have p17 : 0 ≤ (x30_1 : Int) := of_decide_eq_true (by with_reducible assumption); have q17 : (x30_1 : Int) < ((x6_1.length : Int) : Int) := of_decide_eq_true (by with_reducible assumption); obtain ⟨go17, co17, eo17, gb17, gl17, cl17, HG17⟩ := Kd.R_form HO_6.out (by omega); (first | cases eo17 | (injection eo17 with ea_ en_ ec_; (first | subst ea_ | (injection ea_ with ea_; subst ea_)); subst ec_; clear en_)); have GB17 := Aside0.mk gb17; have GG17 := Aside0.mk HG17; clear gb17 gl17 HG17; obtain ⟨hx17_0, hf17_0⟩ := Kd.R_celln 0 HO_6.out (x30_1 : Int) p17 q17; replace p17 := eq_true p17; replace q17 := eq_true q17; obtain ⟨hy20_, hz20_⟩ := Kd.R_celln 0 HO_6.out (x30_1 : Int) (of_decide_eq_true (by with_reducible assumption)) (of_decide_eq_true (by with_reducible assumption)); have HP20 := Kd.R_putg HO_6.out (x30_1 : Int) (-1)) | ((with_reducible refine gate_store (t := 3) (p := 38) rfl ?_); (try (rw [drewN_self w19]; generalize hq_ : World.drewN w19 _ = w19; have n0_ := Aside0.mk (Kd.R_at hq_ HO_5.out); have n1_ := Aside0.mk (Kd.R_at hq_ HO_6.out); have n2_ := Aside0.mk (Kd.R_at hq_ HO_7.out); have n3_ := Aside0.mk (below_at hq_ HB.out); clear hq_ HO_5 HO_6 HO_7 HB; have HO_5 := n0_; have HO_6 := n1_; have HO_7 := n2_; have HB := n3_; clear n0_ n1_ n2_ n3_; (try (obtain ⟨hy20_, hz20_⟩ := Kd.R_celln 0 HO_6.out (x30_1 : Int) (of_decide_eq_true (by with_reducible assumption)) (of_decide_eq_true (by with_reducible assumption)))); (try (have HP20 := Kd.R_putg HO_6.out (x30_1 : Int) (-1))))); refine store_event (t := 3) (p := 38) (v := ?vo_w21) (w1 := (w19.setCell ⟨go17, (x30_1 : Int).toNat, none⟩ (.int .i64 (-1)))) ?hg ?ho ?hn ?hr ?_; (case ho => rfl); (case hg => rfl); (case hn => rfl); (case hr => first | (go_simp; done) | (go_simp; rfl)); intro w21 hw; have hg : w19.grownBy w21 (some go17) := (by rw [hw]; exact HP20.2); have hp_ : Kd.R (Kd.int .i64) 3 w21 w.heap.size (fun k_ => some k_ ≠ (v128 : Value).ownBlock ∧ some k_ ≠ (.slice (some ⟨go15, 0, none⟩) x7_1.length co11 : Value).ownBlock) (.slice (some ⟨go17, 0, none⟩) x6_1.length co17) y137 := (by rw [hw, Ny137.out]; exact HP20.1); clear HP20; have n0_ := Aside0.mk (Kd.R_after (v := (.slice (some ⟨go17, 0, none⟩) x6_1.length co17)) (v1 := (.slice (some ⟨go17, 0, none⟩) x6_1.length co17)) (ok := (fun k_ => some k_ ≠ (.slice (some ⟨go15, 0, none⟩) x7_1.length co11 : Value).ownBlock)) (by (with_reducible repeat (first | apply Kd.R_alloc | apply Kd.R_drewN | apply Kd.R_drew)); exact Kd.R_mono HO_5.out (fun _ hk => ⟨hk.2, hk.1⟩)) hg (.inl rfl)); have n1_ := Aside0.mk (hp_); have n2_ := Aside0.mk (Kd.R_after (v := (.slice (some ⟨go17, 0, none⟩) x6_1.length co17)) (v1 := (.slice (some ⟨go17, 0, none⟩) x6_1.length co17)) (ok := (fun k_ => some k_ ≠ (v128 : Value).ownBlock)) (by (with_reducible repeat (first | apply Kd.R_alloc | apply Kd.R_drewN | apply Kd.R_drew)); exact HO_7.out) hg (.inl rfl)); have n3_ := Aside0.mk ((by rw [hw]; exact below_set (HB.out) GB17.out : Below w.heap.size w w21)); clear HO_5; clear HO_6; clear HO_7; clear HB; have HO_5 := n0_; have HO_6 := n1_; have HO_7 := n2_; have HB := n3_; clear n0_ n1_ n2_ n3_; clear hg hw hp_))
         repeat (go_quiet (first | ((with_reducible refine gate_store (t := 3) (p := 37) rfl ?_); (try (rw [drewN_self wr]; generalize hq_ : World.drewN wr _ = wr; have n0_ := Aside0.mk (Kd.R_at hq_ HO_5.out); have n1_ := Aside0.mk (Kd.R_at hq_ HO_6.out); have n2_ := Aside0.mk (Kd.R_at hq_ HO_7.out); have n3_ := Aside0.mk (below_at hq_ HB.out); clear hq_ HO_5 HO_6 HO_7 HB; have HO_5 := n0_; have HO_6 := n1_; have HO_7 := n2_; have HB := n3_; clear n0_ n1_ n2_ n3_; (try (have HP18 := Kd.R_putg HO_7.out (x30_1 : Int) (-1))))); refine store_event (t := 3) (p := 37) (v := ?vo_w19) (w1 := (wr.setCell ⟨go15, (x30_1 : Int).toNat, none⟩ (.int .i64 (-1)))) ?hg ?ho ?hn ?hr ?_; (case ho => rfl); (case hg => rfl); (case hn => rfl); (case hr => first | (go_simp; done) | (go_simp; rfl)); intro w19 hw; have hg : wr.grownBy w19 (some go15) := (by rw [hw]; exact HP18.2); have hp_ : Kd.R (Kd.int .i64) 3 w19 w.heap.size (fun k_ => some k_ ≠ (v128 : Value).ownBlock ∧ some k_ ≠ (v131 : Value).ownBlock) (.slice (some ⟨go15, 0, none⟩) x7_1.length co11) y136 := (by rw [hw, Ny136.out]; exact HP18.1); clear HP18; have n0_ := Aside0.mk (Kd.R_after (v := (.slice (some ⟨go15, 0, none⟩) x7_1.length co11)) (v1 := (.slice (some ⟨go15, 0, none⟩) x7_1.length co11)) (ok := (fun k_ => some k_ ≠ (v131 : Value).ownBlock)) (by (with_reducible repeat (first | apply Kd.R_alloc | apply Kd.R_drewN | apply Kd.R_drew)); exact HO_5.out) hg (.inl rfl)); have n1_ := Aside0.mk (Kd.R_after (v := (.slice (some ⟨go15, 0, none⟩) x7_1.length co11)) (v1 := (.slice (some ⟨go15, 0, none⟩) x7_1.length co11)) (ok := (fun k_ => some k_ ≠ (v128 : Value).ownBlock)) (by (with_reducible repeat (first | apply Kd.R_alloc | apply Kd.R_drewN | apply Kd.R_drew)); exact HO_6.out) hg (.inl rfl)); have n2_ := Aside0.mk (hp_); have n3_ := Aside0.mk ((by rw [hw]; exact below_set (HB.out) GB15.out : Below w.heap.size w w19)); clear HO_5; clear HO_6; clear HO_7; clear HB; have HO_5 := n0_; have HO_6 := n1_; have HO_7 := n2_; have HB := n3_; clear n0_ n1_ n2_ n3_; clear hg hw hp_; have p17 : 0 ≤ (x30_1 : Int) := of_decide_eq_true (by with_reducible assumption); have q17 : (x30_1 : Int) < ((x6_1.length : Int) : Int) := of_decide_eq_true (by with_reducible assumption); obtain ⟨go17, co17, eo17, gb17, gl17, cl17, HG17⟩ := Kd.R_form HO_6.out (by omega); (first | cases eo17 | (injection eo17 with ea_ en_ ec_; (first | subst ea_ | (injection ea_ with ea_; subst ea_)); subst ec_; clear en_)); have GB17 := Aside0.mk gb17; have GG17 := Aside0.mk HG17; clear gb17 gl17 HG17; obtain ⟨hx17_0, hf17_0⟩ := Kd.R_celln 0 HO_6.out (x30_1 : Int) p17 q17; replace p17 := eq_true p17; replace q17 := eq_true q17; obtain ⟨hy20_, hz20_⟩ := Kd.R_celln 0 HO_6.out (x30_1 : Int) (of_decide_eq_true (by with_reducible assumption)) (of_decide_eq_true (by with_reducible assumption)); have HP20 := Kd.R_putg HO_6.out (x30_1 : Int) (-1)) | ((with_reducible refine gate_store (t := 3) (p := 38) rfl ?_); (try (rw [drewN_self w19]; generalize hq_ : World.drewN w19 _ = w19; have n0_ := Aside0.mk (Kd.R_at hq_ HO_5.out); have n1_ := Aside0.mk (Kd.R_at hq_ HO_6.out); have n2_ := Aside0.mk (Kd.R_at hq_ HO_7.out); have n3_ := Aside0.mk (below_at hq_ HB.out); clear hq_ HO_5 HO_6 HO_7 HB; have HO_5 := n0_; have HO_6 := n1_; have HO_7 := n2_; have HB := n3_; clear n0_ n1_ n2_ n3_; (try (obtain ⟨hy20_, hz20_⟩ := Kd.R_celln 0 HO_6.out (x30_1 : Int) (of_decide_eq_true (by with_reducible assumption)) (of_decide_eq_true (by with_reducible assumption)))); (try (have HP20 := Kd.R_putg HO_6.out (x30_1 : Int) (-1))))); refine store_event (t := 3) (p := 38) (v := ?vo_w21) (w1 := (w19.setCell ⟨go17, (x30_1 : Int).toNat, none⟩ (.int .i64 (-1)))) ?hg ?ho ?hn ?hr ?_; (case ho => rfl); (case hg => rfl); (case hn => rfl); (case hr => first | (go_simp; done) | (go_simp; rfl)); intro w21 hw; have hg : w19.grownBy w21 (some go17) := (by rw [hw]; exact HP20.2); have hp_ : Kd.R (Kd.int .i64) 3 w21 w.heap.size (fun k_ => some k_ ≠ (v128 : Value).ownBlock ∧ some k_ ≠ (.slice (some ⟨go15, 0, none⟩) x7_1.length co11 : Value).ownBlock) (.slice (some ⟨go17, 0, none⟩) x6_1.length co17) y137 := (by rw [hw, Ny137.out]; exact HP20.1); clear HP20; have n0_ := Aside0.mk (Kd.R_after (v := (.slice (some ⟨go17, 0, none⟩) x6_1.length co17)) (v1 := (.slice (some ⟨go17, 0, none⟩) x6_1.length co17)) (ok := (fun k_ => some k_ ≠ (.slice (some ⟨go15, 0, none⟩) x7_1.length co11 : Value).ownBlock)) (by (with_reducible repeat (first | apply Kd.R_alloc | apply Kd.R_drewN | apply Kd.R_drew)); exact Kd.R_mono HO_5.out (fun _ hk => ⟨hk.2, hk.1⟩)) hg (.inl rfl)); have n1_ := Aside0.mk (hp_); have n2_ := Aside0.mk (Kd.R_after (v := (.slice (some ⟨go17, 0, none⟩) x6_1.length co17)) (v1 := (.slice (some ⟨go17, 0, none⟩) x6_1.length co17)) (ok := (fun k_ => some k_ ≠ (v128 : Value).ownBlock)) (by (with_reducible repeat (first | apply Kd.R_alloc | apply Kd.R_drewN | apply Kd.R_drew)); exact HO_7.out) hg (.inl rfl)); have n3_ := Aside0.mk ((by rw [hw]; exact below_set (HB.out) GB17.out : Below w.heap.size w w21)); clear HO_5; clear HO_6; clear HO_7; clear HB; have HO_5 := n0_; have HO_6 := n1_; have HO_7 := n2_; have HB := n3_; clear n0_ n1_ n2_ n3_; clear hg hw hp_)); try go_wp2_with (first | ((with_reducible refine gate_store (t := 3) (p := 37) rfl ?_); (try (rw [drewN_self wr]; generalize hq_ : World.drewN wr _ = wr; have n0_ := Aside0.mk (Kd.R_at hq_ HO_5.out); have n1_ := Aside0.mk (Kd.R_at hq_ HO_6.out); have n2_ := Aside0.mk (Kd.R_at hq_ HO_7.out); have n3_ := Aside0.mk (below_at hq_ HB.out); clear hq_ HO_5 HO_6 HO_7 HB; have HO_5 := n0_; have HO_6 := n1_; have HO_7 := n2_; have HB := n3_; clear n0_ n1_ n2_ n3_; (try (have HP18 := Kd.R_putg HO_7.out (x30_1 : Int) (-1))))); refine store_event (t := 3) (p := 37) (v := ?vo_w19) (w1 := (wr.setCell ⟨go15, (x30_1 : Int).toNat, none⟩ (.int .i64 (-1)))) ?hg ?ho ?hn ?hr ?_; (case ho => rfl); (case hg => rfl); (case hn => rfl); (case hr => first | (go_simp; done) | (go_simp; rfl)); intro w19 hw; have hg : wr.grownBy w19 (some go15) := (by rw [hw]; exact HP18.2); have hp_ : Kd.R (Kd.int .i64) 3 w19 w.heap.size (fun k_ => some k_ ≠ (v128 : Value).ownBlock ∧ some k_ ≠ (v131 : Value).ownBlock) (.slice (some ⟨go15, 0, none⟩) x7_1.length co11) y136 := (by rw [hw, Ny136.out]; exact HP18.1); clear HP18; have n0_ := Aside0.mk (Kd.R_after (v := (.slice (some ⟨go15, 0, none⟩) x7_1.length co11)) (v1 := (.slice (some ⟨go15, 0, none⟩) x7_1.length co11)) (ok := (fun k_ => some k_ ≠ (v131 : Value).ownBlock)) (by (with_reducible repeat (first | apply Kd.R_alloc | apply Kd.R_drewN | apply Kd.R_drew)); exact HO_5.out) hg (.inl rfl)); have n1_ := Aside0.mk (Kd.R_after (v := (.slice (some ⟨go15, 0, none⟩) x7_1.length co11)) (v1 := (.slice (some ⟨go15, 0, none⟩) x7_1.length co11)) (ok := (fun k_ => some k_ ≠ (v128 : Value).ownBlock)) (by (with_reducible repeat (first | apply Kd.R_alloc | apply Kd.R_drewN | apply Kd.R_drew)); exact HO_6.out) hg (.inl rfl)); have n2_ := Aside0.mk (hp_); have n3_ := Aside0.mk ((by rw [hw]; exact below_set (HB.out) GB15.out : Below w.heap.size w w19)); clear HO_5; clear HO_6; clear HO_7; clear HB; have HO_5 := n0_; have HO_6 := n1_; have HO_7 := n2_; have HB := n3_; clear n0_ n1_ n2_ n3_; clear hg hw hp_; have p17 : 0 ≤ (x30_1 : Int) := of_decide_eq_true (by with_reducible assumption); have q17 : (x30_1 : Int) < ((x6_1.length : Int) : Int) := of_decide_eq_true (by with_reducible assumption); obtain ⟨go17, co17, eo17, gb17, gl17, cl17, HG17⟩ := Kd.R_form HO_6.out (by omega); (first | cases eo17 | (injection eo17 with ea_ en_ ec_; (first | subst ea_ | (injection ea_ with ea_; subst ea_)); subst ec_; clear en_)); have GB17 := Aside0.mk gb17; have GG17 := Aside0.mk HG17; clear gb17 gl17 HG17; obtain ⟨hx17_0, hf17_0⟩ := Kd.R_celln 0 HO_6.out (x30_1 : Int) p17 q17; replace p17 := eq_true p17; replace q17 := eq_true q17; obtain ⟨hy20_, hz20_⟩ := Kd.R_celln 0 HO_6.out (x30_1 : Int) (of_decide_eq_true (by with_reducible assumption)) (of_decide_eq_true (by with_reducible assumption)); have HP20 := Kd.R_putg HO_6.out (x30_1 : Int) (-1)) | ((with_reducible refine gate_store (t := 3) (p := 38) rfl ?_); (try (rw [drewN_self w19]; generalize hq_ : World.drewN w19 _ = w19; have n0_ := Aside0.mk (Kd.R_at hq_ HO_5.out); have n1_ := Aside0.mk (Kd.R_at hq_ HO_6.out); have n2_ := Aside0.mk (Kd.R_at hq_ HO_7.out); have n3_ := Aside0.mk (below_at hq_ HB.out); clear hq_ HO_5 HO_6 HO_7 HB; have HO_5 := n0_; have HO_6 := n1_; have HO_7 := n2_; have HB := n3_; clear n0_ n1_ n2_ n3_; (try (obtain ⟨hy20_, hz20_⟩ := Kd.R_celln 0 HO_6.out (x30_1 : Int) (of_decide_eq_true (by with_reducible assumption)) (of_decide_eq_true (by with_reducible assumption)))); (try (have HP20 := Kd.R_putg HO_6.out (x30_1 : Int) (-1))))); refine store_event (t := 3) (p := 38) (v := ?vo_w21) (w1 := (w19.setCell ⟨go17, (x30_1 : Int).toNat, none⟩ (.int .i64 (-1)))) ?hg ?ho ?hn ?hr ?_; (case ho => rfl); (case hg => rfl); (case hn => rfl); (case hr => first | (go_simp; done) | (go_simp; rfl)); intro w21 hw; have hg : w19.grownBy w21 (some go17) := (by rw [hw]; exact HP20.2); have hp_ : Kd.R (Kd.int .i64) 3 w21 w.heap.size (fun k_ => some k_ ≠ (v128 : Value).ownBlock ∧ some k_ ≠ (.slice (some ⟨go15, 0, none⟩) x7_1.length co11 : Value).ownBlock) (.slice (some ⟨go17, 0, none⟩) x6_1.length co17) y137 := (by rw [hw, Ny137.out]; exact HP20.1); clear HP20; have n0_ := Aside0.mk (Kd.R_after (v := (.slice (some ⟨go17, 0, none⟩) x6_1.length co17)) (v1 := (.slice (some ⟨go17, 0, none⟩) x6_1.length co17)) (ok := (fun k_ => some k_ ≠ (.slice (some ⟨go15, 0, none⟩) x7_1.length co11 : Value).ownBlock)) (by (with_reducible repeat (first | apply Kd.R_alloc | apply Kd.R_drewN | apply Kd.R_drew)); exact Kd.R_mono HO_5.out (fun _ hk => ⟨hk.2, hk.1⟩)) hg (.inl rfl)); have n1_ := Aside0.mk (hp_); have n2_ := Aside0.mk (Kd.R_after (v := (.slice (some ⟨go17, 0, none⟩) x6_1.length co17)) (v1 := (.slice (some ⟨go17, 0, none⟩) x6_1.length co17)) (ok := (fun k_ => some k_ ≠ (v128 : Value).ownBlock)) (by (with_reducible repeat (first | apply Kd.R_alloc | apply Kd.R_drewN | apply Kd.R_drew)); exact HO_7.out) hg (.inl rfl)); have n3_ := Aside0.mk ((by rw [hw]; exact below_set (HB.out) GB17.out : Below w.heap.size w w21)); clear HO_5; clear HO_6; clear HO_7; clear HB; have HO_5 := n0_; have HO_6 := n1_; have HO_7 := n2_; have HB := n3_; clear n0_ n1_ n2_ n3_; clear hg hw hp_)))
         (try simp only [← hl7_1])
         go_roundg k1
         case measure => have := HK1.out; omega
         case rel => exact ⟨(y137), (y136), (wrap64 (x30_1 + 1)), (by first | rfl | (simp; done) | (simp [*]; done)), H', ⟨by have := HK1.out; omega⟩, ⟨by (try simp only [hl7_1]); (with_reducible repeat (first | apply Kd.R_alloc | apply Kd.R_drewN | apply Kd.R_drew)); exact Kd.R_mono HO_5.out (fun _ hk => ⟨hk.2, hk.1⟩)⟩, ⟨by (try simp only [hl7_1]); (with_reducible repeat (first | apply Kd.R_alloc | apply Kd.R_drewN | apply Kd.R_drew)); exact HO_6.out⟩, ⟨by (try simp only [hl7_1]); (with_reducible repeat (first | apply Kd.R_alloc | apply Kd.R_drewN | apply Kd.R_drew)); exact HO_7.out⟩, ⟨by repeat (first | (with_reducible first | exact HB.out | apply below_alloc | apply pw_below_drewN | apply below_drew1) | exact HB.out)⟩⟩
        ·rw [if_neg c16] at H; exact absurd H (by simp)
       ·rw [if_neg c14] at H; exact absurd H (by simp)
      ·rw [if_neg c13] at H; exact absurd H (by simp)
     ·rw [if_neg c12] at H; have c12b0 : decide (x30_1 < (y133.length : Int)) = false := decide_eq_false c12
      have c12b3 : decide (x30_1 < (x7_1.length : Int)) = false := decide_eq_false (by have := hl7_1; omega)
      clear c12; have H' := Aside0.mk H
      clear H; obtain ⟨Ao22, co22, eo22⟩ := Kd.R_slice HO_5.out; subst eo22; go_wp2
      repeat (go_quiet (fail); try go_wp2)
      go_loopg [42] k1 (fun kq v42 w' => ∃ (x6_2 : List Int) (x42_2 : Int), v42 = .int .i64 x42_2 ∧ Aside0 (graph_tree.l1 kq l0 a1 t127 x6_2 x7_1 t127 (t127.length : Int) x42_2 = some r) ∧ Aside0 (kq ≤ k1) ∧ Aside0 (Kd.R (Kd.int .i64) 3 w' w.heap.size (fun k_ => some k_ ≠ (v131 : Value).ownBlock ∧ some k_ ≠ ((.slice Ao11 x7_1.length co11) : Value).ownBlock) (.slice Ao22 t127.length co22) t127) ∧ Aside0 (Kd.R (Kd.int .i64) 3 w' w.heap.size (fun k_ => some k_ ≠ ((.slice Ao22 t127.length co22) : Value).ownBlock ∧ some k_ ≠ ((.slice Ao11 x7_1.length co11) : Value).ownBlock ∧ some k_ ≠ ((.slice Ao22 t127.length co22) : Value).ownBlock) v131 x6_2) ∧ Aside0 (Kd.R (Kd.int .i64) 3 w' w.heap.size (fun k_ => some k_ ≠ ((.slice Ao22 t127.length co22) : Value).ownBlock ∧ some k_ ≠ (v131 : Value).ownBlock ∧ some k_ ≠ ((.slice Ao22 t127.length co22) : Value).ownBlock) (.slice Ao11 x7_1.length co11) x7_1) ∧ Aside0 (Kd.R (Kd.int .i64) 3 w' w.heap.size (fun k_ => some k_ ≠ (v131 : Value).ownBlock ∧ some k_ ≠ ((.slice Ao11 x7_1.length co11) : Value).ownBlock) (.slice Ao22 t127.length co22) t127) ∧ Aside0 (Below w.heap.size w w'))
      case atStart => exact ⟨(x6_1), (0), (by first | rfl | (simp; done) | (simp [*]; done)), H', ⟨Nat.le_refl _⟩, ⟨by (try simp only [hl7_1]); (with_reducible repeat (first | apply Kd.R_alloc | apply Kd.R_drewN | apply Kd.R_drew)); exact HO_5.out⟩, ⟨by (try simp only [hl7_1]); (with_reducible repeat (first | apply Kd.R_alloc | apply Kd.R_drewN | apply Kd.R_drew)); exact Kd.R_mono HO_6.out (fun _ hk => ⟨hk.1, ⟨hk.2, hk.1⟩⟩)⟩, ⟨by (try simp only [hl7_1]); (with_reducible repeat (first | apply Kd.R_alloc | apply Kd.R_drewN | apply Kd.R_drew)); exact Kd.R_mono HO_7.out (fun _ hk => ⟨hk.1, ⟨hk.2, hk.1⟩⟩)⟩, ⟨by (try simp only [hl7_1]); (with_reducible repeat (first | apply Kd.R_alloc | apply Kd.R_drewN | apply Kd.R_drew)); exact HO_5.out⟩, ⟨by repeat (first | (with_reducible first | exact HB.out | apply below_alloc | apply pw_below_drewN | apply below_drew1) | exact HB.out)⟩⟩
      case round =>
       clear H'; try clear c1
       try clear p1
       try clear q1
       try clear hx1
       try clear p2
       try clear c4
       try clear c4b0
       try clear c4b1
       try clear c5
       try clear c5b0
       try clear c5b1
       try clear p6
       try clear c12
       try clear c12b0
       try clear c13
       try clear c13b0
       try clear c14
       try clear c14b0
       try clear p15
       try clear q15
       try clear hx15
       try clear hf15
       try clear c16
       try clear c16b0
       try clear p17
       try clear q17
       try clear hx17
       try clear hf17
       try clear hx15_0
       try clear hx17_0
       try clear p15
       try clear p17
       try clear p2
       try clear q15
       try clear q17
       obtain ⟨x6_2, x42_2, rfl, HA, HK2, HO_5, HO_6, HO_7, HO_40, HB⟩ := hrel; cases gk with
       | zero => exact absurd HA.out (by simp [graph_tree.l1])
       | succ k2 =>
        have H := HA.out; clear HA; simp only [graph_tree.l1] at H
        by_cases c23 : x42_2 < (t127.length : Int)
        ·rw [if_pos c23] at H; have c23b0 : decide (x42_2 < (t127.length : Int)) = true := decide_eq_true c23
         clear c23; by_cases c24 : 0 ≤ x42_2
         ·rw [if_pos c24] at H; have c24b0 : decide (0 ≤ x42_2) = true := decide_eq_true c24
          clear c24; by_cases c25 : x42_2 < (t127.length : Int)
          ·rw [if_pos c25] at H; have c25b0 : decide (x42_2 < (t127.length : Int)) = true := decide_eq_true c25
           clear c25; by_cases c26 : 0 ≤ (rd t127 x42_2)
           ·rw [if_pos c26] at H; have c26b0 : decide (0 ≤ (rd t127 x42_2)) = true := decide_eq_true c26
            clear c26; by_cases c27 : (rd t127 x42_2) < (x6_2.length : Int)
            ·rw [if_pos c27] at H; have c27b0 : decide ((rd t127 x42_2) < (x6_2.length : Int)) = true := decide_eq_true c27
             clear c27; obtain ⟨y139, hy139⟩ : ∃ y_ : List Int, y_ = (x6_2.set ((rd t127 x42_2) : Int).toNat x42_2) := ⟨_, rfl⟩; replace H : (graph_tree.l1 k2 l0 a1 t127 y139 x7_1 t127 (t127.length : Int) (wrap64 (x42_2 + 1))) = some r := by first | (with_reducible first | (rw [hy139]; exact H) | exact H) | (have H2_ := (Option.bind_some _ _).symm.trans H; first | with_reducible exact H2_ | (rw [hy139]; exact H2_)) | (rw [hy139]; exact H) | exact H
             have Ny139 := Aside0.mk hy139; clear hy139; have H' := Aside0.mk H
             clear H; have p138 : 0 ≤ (x42_2 : Int) := of_decide_eq_true (by with_reducible assumption)
             have q138 : x42_2 < (t127.length : Int) := of_decide_eq_true (by with_reducible assumption)
             obtain ⟨ad138, e138, hx138_0⟩ := Kd.at_int (Kd.R_reads' HO_40.out).2.2 x42_2 p138 q138; cases e138; replace p138 := eq_true p138; replace q138 := eq_true q138; have p28 : 0 ≤ ((rd t127 x42_2) : Int) := of_decide_eq_true (by with_reducible assumption)
             have q28 : ((rd t127 x42_2) : Int) < ((x6_2.length : Int) : Int) := of_decide_eq_true (by with_reducible assumption)
             obtain ⟨go28, co28, eo28, gb28, gl28, cl28, HG28⟩ := Kd.R_form HO_6.out (by omega)
             (first | cases eo28 | (injection eo28 with ea_ en_ ec_; (first | subst ea_ | (injection ea_ with ea_; subst ea_)); subst ec_; clear en_))
             have GB28 := Aside0.mk gb28; have GG28 := Aside0.mk HG28; clear gb28 gl28 HG28; obtain ⟨hx28_0, hf28_0⟩ := Kd.R_celln 0 HO_6.out ((rd t127 x42_2) : Int) p28 q28; replace p28 := eq_true p28; replace q28 := eq_true q28; have HP29 := Kd.R_putg HO_6.out ((rd t127 x42_2) : Int) x42_2; go_wp2_with (first | ((with_reducible refine gate_store (t := 3) (p := 50) rfl ?_); (try (rw [drewN_self wr]; generalize hq_ : World.drewN wr _ = wr; have n0_ := Aside0.mk (Kd.R_at hq_ HO_5.out); have n1_ := Aside0.mk (Kd.R_at hq_ HO_6.out); have n2_ := Aside0.mk (Kd.R_at hq_ HO_7.out); have n3_ := Aside0.mk (Kd.R_at hq_ HO_40.out); have n4_ := Aside0.mk (below_at hq_ HB.out); clear hq_ HO_5 HO_6 HO_7 HO_40 HB; have HO_5 := n0_; have HO_6 := n1_; have HO_7 := n2_; have HO_40 := n3_; have HB := n4_; clear n0_ n1_ n2_ n3_ n4_; (try (have HP29 := Kd.R_putg HO_6.out ((rd t127 x42_2) : Int) x42_2)))); refine store_event (t := 3) (p := 50) (v := ?vo_w30) (w1 := (wr.setCell ⟨go28, ((rd t127 x42_2) : Int).toNat, none⟩ (.int .i64 x42_2))) ?hg ?ho ?hn ?hr ?_; (case ho => rfl); (case hg => rfl); (case hn => rfl); (case hr => first | (go_simp; done) | (go_simp; rfl)); intro w30 hw; have hg : wr.grownBy w30 (some go28) := (by rw [hw]; exact HP29.2); have hp_ : Kd.R (Kd.int .i64) 3 w30 w.heap.size (fun k_ => some k_ ≠ (.slice (some ad138) t127.length co22 : Value).ownBlock ∧ some k_ ≠ (.slice Ao11 x7_1.length co11 : Value).ownBlock ∧ some k_ ≠ (.slice (some ad138) t127.length co22 : Value).ownBlock) (.slice (some ⟨go28, 0, none⟩) x6_2.length co28) y139 := (by rw [hw, Ny139.out]; exact HP29.1); clear HP29; have n0_ := Aside0.mk (Kd.R_after (v := (.slice (some ⟨go28, 0, none⟩) x6_2.length co28)) (v1 := (.slice (some ⟨go28, 0, none⟩) x6_2.length co28)) (ok := (fun k_ => some k_ ≠ (.slice Ao11 x7_1.length co11 : Value).ownBlock)) (by (with_reducible repeat (first | apply Kd.R_alloc | apply Kd.R_drewN | apply Kd.R_drew)); exact Kd.R_mono HO_5.out (fun _ hk => ⟨hk.2, hk.1⟩)) hg (.inl rfl)); have n1_ := Aside0.mk (hp_); have n2_ := Aside0.mk (Kd.R_after (v := (.slice (some ⟨go28, 0, none⟩) x6_2.length co28)) (v1 := (.slice (some ⟨go28, 0, none⟩) x6_2.length co28)) (ok := (fun k_ => some k_ ≠ (.slice (some ad138) t127.length co22 : Value).ownBlock ∧ some k_ ≠ (.slice (some ad138) t127.length co22 : Value).ownBlock)) (by (with_reducible repeat (first | apply Kd.R_alloc | apply Kd.R_drewN | apply Kd.R_drew)); exact Kd.R_mono HO_7.out (fun _ hk => ⟨⟨hk.1, hk.2.2⟩, hk.2.1⟩)) hg (.inl rfl)); have n3_ := Aside0.mk (Kd.R_after (v := (.slice (some ⟨go28, 0, none⟩) x6_2.length co28)) (v1 := (.slice (some ⟨go28, 0, none⟩) x6_2.length co28)) (ok := (fun k_ => some k_ ≠ (.slice Ao11 x7_1.length co11 : Value).ownBlock)) (by (with_reducible repeat (first | apply Kd.R_alloc | apply Kd.R_drewN | apply Kd.R_drew)); exact Kd.R_mono HO_40.out (fun _ hk => ⟨hk.2, hk.1⟩)) hg (.inl rfl)); have n4_ := Aside0.mk ((by rw [hw]; exact below_set (HB.out) GB28.out : Below w.heap.size w w30)); clear HO_5; clear HO_6; clear HO_7; clear HO_40; clear HB; have HO_5 := n0_; have HO_6 := n1_; have HO_7 := n2_; have HO_40 := n3_; have HB := n4_; clear n0_ n1_ n2_ n3_ n4_; clear hg hw hp_))
             repeat (go_quiet (first | ((with_reducible refine gate_store (t := 3) (p := 50) rfl ?_); (try (rw [drewN_self wr]; generalize hq_ : World.drewN wr _ = wr; have n0_ := Aside0.mk (Kd.R_at hq_ HO_5.out); have n1_ := Aside0.mk (Kd.R_at hq_ HO_6.out); have n2_ := Aside0.mk (Kd.R_at hq_ HO_7.out); have n3_ := Aside0.mk (Kd.R_at hq_ HO_40.out); have n4_ := Aside0.mk (below_at hq_ HB.out); clear hq_ HO_5 HO_6 HO_7 HO_40 HB; have HO_5 := n0_; have HO_6 := n1_; have HO_7 := n2_; have HO_40 := n3_; have HB := n4_; clear n0_ n1_ n2_ n3_ n4_; (try (have HP29 := Kd.R_putg HO_6.out ((rd t127 x42_2) : Int) x42_2)))); refine store_event (t := 3) (p := 50) (v := ?vo_w30) (w1 := (wr.setCell ⟨go28, ((rd t127 x42_2) : Int).toNat, none⟩ (.int .i64 x42_2))) ?hg ?ho ?hn ?hr ?_; (case ho => rfl); (case hg => rfl); (case hn => rfl); (case hr => first | (go_simp; done) | (go_simp; rfl)); intro w30 hw; have hg : wr.grownBy w30 (some go28) := (by rw [hw]; exact HP29.2); have hp_ : Kd.R (Kd.int .i64) 3 w30 w.heap.size (fun k_ => some k_ ≠ (.slice (some ad138) t127.length co22 : Value).ownBlock ∧ some k_ ≠ (.slice Ao11 x7_1.length co11 : Value).ownBlock ∧ some k_ ≠ (.slice (some ad138) t127.length co22 : Value).ownBlock) (.slice (some ⟨go28, 0, none⟩) x6_2.length co28) y139 := (by rw [hw, Ny139.out]; exact HP29.1); clear HP29; have n0_ := Aside0.mk (Kd.R_after (v := (.slice (some ⟨go28, 0, none⟩) x6_2.length co28)) (v1 := (.slice (some ⟨go28, 0, none⟩) x6_2.length co28)) (ok := (fun k_ => some k_ ≠ (.slice Ao11 x7_1.length co11 : Value).ownBlock)) (by (with_reducible repeat (first | apply Kd.R_alloc | apply Kd.R_drewN | apply Kd.R_drew)); exact Kd.R_mono HO_5.out (fun _ hk => ⟨hk.2, hk.1⟩)) hg (.inl rfl)); have n1_ := Aside0.mk (hp_); have n2_ := Aside0.mk (Kd.R_after (v := (.slice (some ⟨go28, 0, none⟩) x6_2.length co28)) (v1 := (.slice (some ⟨go28, 0, none⟩) x6_2.length co28)) (ok := (fun k_ => some k_ ≠ (.slice (some ad138) t127.length co22 : Value).ownBlock ∧ some k_ ≠ (.slice (some ad138) t127.length co22 : Value).ownBlock)) (by (with_reducible repeat (first | apply Kd.R_alloc | apply Kd.R_drewN | apply Kd.R_drew)); exact Kd.R_mono HO_7.out (fun _ hk => ⟨⟨hk.1, hk.2.2⟩, hk.2.1⟩)) hg (.inl rfl)); have n3_ := Aside0.mk (Kd.R_after (v := (.slice (some ⟨go28, 0, none⟩) x6_2.length co28)) (v1 := (.slice (some ⟨go28, 0, none⟩) x6_2.length co28)) (ok := (fun k_ => some k_ ≠ (.slice Ao11 x7_1.length co11 : Value).ownBlock)) (by (with_reducible repeat (first | apply Kd.R_alloc | apply Kd.R_drewN | apply Kd.R_drew)); exact Kd.R_mono HO_40.out (fun _ hk => ⟨hk.2, hk.1⟩)) hg (.inl rfl)); have n4_ := Aside0.mk ((by rw [hw]; exact below_set (HB.out) GB28.out : Below w.heap.size w w30)); clear HO_5; clear HO_6; clear HO_7; clear HO_40; clear HB; have HO_5 := n0_; have HO_6 := n1_; have HO_7 := n2_; have HO_40 := n3_; have HB := n4_; clear n0_ n1_ n2_ n3_ n4_; clear hg hw hp_)); try go_wp2_with (first | ((with_reducible refine gate_store (t := 3) (p := 50) rfl ?_); (try (rw [drewN_self wr]; generalize hq_ : World.drewN wr _ = wr; have n0_ := Aside0.mk (Kd.R_at hq_ HO_5.out); have n1_ := Aside0.mk (Kd.R_at hq_ HO_6.out); have n2_ := Aside0.mk (Kd.R_at hq_ HO_7.out); have n3_ := Aside0.mk (Kd.R_at hq_ HO_40.out); have n4_ := Aside0.mk (below_at hq_ HB.out); clear hq_ HO_5 HO_6 HO_7 HO_40 HB; have HO_5 := n0_; have HO_6 := n1_; have HO_7 := n2_; have HO_40 := n3_; have HB := n4_; clear n0_ n1_ n2_ n3_ n4_; (try (have HP29 := Kd.R_putg HO_6.out ((rd t127 x42_2) : Int) x42_2)))); refine store_event (t := 3) (p := 50) (v := ?vo_w30) (w1 := (wr.setCell ⟨go28, ((rd t127 x42_2) : Int).toNat, none⟩ (.int .i64 x42_2))) ?hg ?ho ?hn ?hr ?_; (case ho => rfl); (case hg => rfl); (case hn => rfl); (case hr => first | (go_simp; done) | (go_simp; rfl)); intro w30 hw; have hg : wr.grownBy w30 (some go28) := (by rw [hw]; exact HP29.2); have hp_ : Kd.R (Kd.int .i64) 3 w30 w.heap.size (fun k_ => some k_ ≠ (.slice (some ad138) t127.length co22 : Value).ownBlock ∧ some k_ ≠ (.slice Ao11 x7_1.length co11 : Value).ownBlock ∧ some k_ ≠ (.slice (some ad138) t127.length co22 : Value).ownBlock) (.slice (some ⟨go28, 0, none⟩) x6_2.length co28) y139 := (by rw [hw, Ny139.out]; exact HP29.1); clear HP29; have n0_ := Aside0.mk (Kd.R_after (v := (.slice (some ⟨go28, 0, none⟩) x6_2.length co28)) (v1 := (.slice (some ⟨go28, 0, none⟩) x6_2.length co28)) (ok := (fun k_ => some k_ ≠ (.slice Ao11 x7_1.length co11 : Value).ownBlock)) (by (with_reducible repeat (first | apply Kd.R_alloc | apply Kd.R_drewN | apply Kd.R_drew)); exact Kd.R_mono HO_5.out (fun _ hk => ⟨hk.2, hk.1⟩)) hg (.inl rfl)); have n1_ := Aside0.mk (hp_); have n2_ := Aside0.mk (Kd.R_after (v := (.slice (some ⟨go28, 0, none⟩) x6_2.length co28)) (v1 := (.slice (some ⟨go28, 0, none⟩) x6_2.length co28)) (ok := (fun k_ => some k_ ≠ (.slice (some ad138) t127.length co22 : Value).ownBlock ∧ some k_ ≠ (.slice (some ad138) t127.length co22 : Value).ownBlock)) (by (with_reducible repeat (first | apply Kd.R_alloc | apply Kd.R_drewN | apply Kd.R_drew)); exact Kd.R_mono HO_7.out (fun _ hk => ⟨⟨hk.1, hk.2.2⟩, hk.2.1⟩)) hg (.inl rfl)); have n3_ := Aside0.mk (Kd.R_after (v := (.slice (some ⟨go28, 0, none⟩) x6_2.length co28)) (v1 := (.slice (some ⟨go28, 0, none⟩) x6_2.length co28)) (ok := (fun k_ => some k_ ≠ (.slice Ao11 x7_1.length co11 : Value).ownBlock)) (by (with_reducible repeat (first | apply Kd.R_alloc | apply Kd.R_drewN | apply Kd.R_drew)); exact Kd.R_mono HO_40.out (fun _ hk => ⟨hk.2, hk.1⟩)) hg (.inl rfl)); have n4_ := Aside0.mk ((by rw [hw]; exact below_set (HB.out) GB28.out : Below w.heap.size w w30)); clear HO_5; clear HO_6; clear HO_7; clear HO_40; clear HB; have HO_5 := n0_; have HO_6 := n1_; have HO_7 := n2_; have HO_40 := n3_; have HB := n4_; clear n0_ n1_ n2_ n3_ n4_; clear hg hw hp_)))
             go_roundg k2
             case measure => have := HK1.out; have := HK2.out; omega
             case rel => exact ⟨(y139), (wrap64 (x42_2 + 1)), (by first | rfl | (simp; done) | (simp [*]; done)), H', ⟨by have := HK1.out; have := HK2.out; omega⟩, ⟨by (try simp only [hl7_1]); (with_reducible repeat (first | apply Kd.R_alloc | apply Kd.R_drewN | apply Kd.R_drew)); exact Kd.R_mono HO_5.out (fun _ hk => ⟨hk.2, hk.1⟩)⟩, ⟨by (try simp only [hl7_1]); (with_reducible repeat (first | apply Kd.R_alloc | apply Kd.R_drewN | apply Kd.R_drew)); exact HO_6.out⟩, ⟨by (try simp only [hl7_1]); (with_reducible repeat (first | apply Kd.R_alloc | apply Kd.R_drewN | apply Kd.R_drew)); exact Kd.R_mono HO_7.out (fun _ hk => ⟨hk.1.1, ⟨hk.2, hk.1.2⟩⟩)⟩, ⟨by (try simp only [hl7_1]); (with_reducible repeat (first | apply Kd.R_alloc | apply Kd.R_drewN | apply Kd.R_drew)); exact Kd.R_mono HO_40.out (fun _ hk => ⟨hk.2, hk.1⟩)⟩, ⟨by repeat (first | (with_reducible first | exact HB.out | apply below_alloc | apply pw_below_drewN | apply below_drew1) | exact HB.out)⟩⟩
            ·rw [if_neg c27] at H; exact absurd H (by simp)
           ·rw [if_neg c26] at H; exact absurd H (by simp)
          ·rw [if_neg c25] at H; exact absurd H (by simp)
         ·rw [if_neg c24] at H; exact absurd H (by simp)
        ·rw [if_neg c23] at H; have c23b0 : decide (x42_2 < (t127.length : Int)) = false := decide_eq_false c23
         clear c23; by_cases c31 : 0 ≤ a1
         ·rw [if_pos c31] at H; have c31b0 : decide (0 ≤ a1) = true := decide_eq_true c31
          clear c31; by_cases c32 : a1 < (x7_1.length : Int)
          ·rw [if_pos c32] at H; have c32b0 : decide (a1 < (x7_1.length : Int)) = true := decide_eq_true c32
           clear c32; obtain ⟨y140, hy140⟩ : ∃ y_ : List Int, y_ = (x7_1.set (a1 : Int).toNat a1) := ⟨_, rfl⟩; replace H : ((graph_turned.f k2 l0).bind fun t141 => (graph_tree.l2 k2 a1 t127 x6_2 y140 t141 true)) = some r := by first | (with_reducible first | (rw [hy140]; exact H) | exact H) | (have H2_ := (Option.bind_some _ _).symm.trans H; first | with_reducible exact H2_ | (rw [hy140]; exact H2_)) | (rw [hy140]; exact H) | exact H
           have Ny140 := Aside0.mk hy140; clear hy140; replace H := Option.bind_eq_some_iff.mp H; obtain ⟨t141, A340, H⟩ := H; replace H : (graph_tree.l2 k2 a1 t127 x6_2 y140 t141 true) = some r := H; have A34 := Aside0.mk A340; clear A340; have H' := Aside0.mk H
           clear H; have p33 : 0 ≤ (a1 : Int) := of_decide_eq_true (by with_reducible assumption)
           have q33 : (a1 : Int) < ((x7_1.length : Int) : Int) := of_decide_eq_true (by with_reducible assumption)
           obtain ⟨go33, co33, eo33, gb33, gl33, cl33, HG33⟩ := Kd.R_form HO_7.out (by omega)
           (first | cases eo33 | (injection eo33 with ea_ en_ ec_; (first | subst ea_ | (injection ea_ with ea_; subst ea_)); subst ec_; clear en_))
           have GB33 := Aside0.mk gb33; have GG33 := Aside0.mk HG33; clear gb33 gl33 HG33; obtain ⟨hx33_0, hf33_0⟩ := Kd.R_celln 0 HO_7.out (a1 : Int) p33 q33; replace p33 := eq_true p33; replace q33 := eq_true q33; have HP35 := Kd.R_putg HO_7.out (a1 : Int) a1; go_wp2_with (first | ((with_reducible refine gate_store (t := 3) (p := 55) rfl ?_); (try (rw [drewN_self wr]; generalize hq_ : World.drewN wr _ = wr; have n0_ := Aside0.mk (Kd.R_at hq_ HO_5.out); have n1_ := Aside0.mk (Kd.R_at hq_ HO_6.out); have n2_ := Aside0.mk (Kd.R_at hq_ HO_7.out); have n3_ := Aside0.mk (Kd.R_at hq_ HO_40.out); have n4_ := Aside0.mk (below_at hq_ HB.out); clear hq_ HO_5 HO_6 HO_7 HO_40 HB; have HO_5 := n0_; have HO_6 := n1_; have HO_7 := n2_; have HO_40 := n3_; have HB := n4_; clear n0_ n1_ n2_ n3_ n4_; (try (have HP35 := Kd.R_putg HO_7.out (a1 : Int) a1)))); refine store_event (t := 3) (p := 55) (v := ?vo_w36) (w1 := (wr.setCell ⟨go33, (a1 : Int).toNat, none⟩ (.int .i64 a1))) ?hg ?ho ?hn ?hr ?_; (case ho => rfl); (case hg => rfl); (case hn => rfl); (case hr => first | (go_simp; done) | (go_simp; rfl)); intro w36 hw; have hg : wr.grownBy w36 (some go33) := (by rw [hw]; exact HP35.2); have hp_ : Kd.R (Kd.int .i64) 3 w36 w.heap.size (fun k_ => some k_ ≠ (.slice Ao22 t127.length co22 : Value).ownBlock ∧ some k_ ≠ (v131 : Value).ownBlock ∧ some k_ ≠ (.slice Ao22 t127.length co22 : Value).ownBlock) (.slice (some ⟨go33, 0, none⟩) x7_1.length co11) y140 := (by rw [hw, Ny140.out]; exact HP35.1); clear HP35; have n0_ := Aside0.mk (Kd.R_after (v := (.slice (some ⟨go33, 0, none⟩) x7_1.length co11)) (v1 := (.slice (some ⟨go33, 0, none⟩) x7_1.length co11)) (ok := (fun k_ => some k_ ≠ (v131 : Value).ownBlock)) (by (with_reducible repeat (first | apply Kd.R_alloc | apply Kd.R_drewN | apply Kd.R_drew)); exact HO_5.out) hg (.inl rfl)); have n1_ := Aside0.mk (Kd.R_after (v := (.slice (some ⟨go33, 0, none⟩) x7_1.length co11)) (v1 := (.slice (some ⟨go33, 0, none⟩) x7_1.length co11)) (ok := (fun k_ => some k_ ≠ (.slice Ao22 t127.length co22 : Value).ownBlock ∧ some k_ ≠ (.slice Ao22 t127.length co22 : Value).ownBlock)) (by (with_reducible repeat (first | apply Kd.R_alloc | apply Kd.R_drewN | apply Kd.R_drew)); exact Kd.R_mono HO_6.out (fun _ hk => ⟨⟨hk.1, hk.2.2⟩, hk.2.1⟩)) hg (.inl rfl)); have n2_ := Aside0.mk (hp_); have n3_ := Aside0.mk (Kd.R_after (v := (.slice (some ⟨go33, 0, none⟩) x7_1.length co11)) (v1 := (.slice (some ⟨go33, 0, none⟩) x7_1.length co11)) (ok := (fun k_ => some k_ ≠ (v131 : Value).ownBlock)) (by (with_reducible repeat (first | apply Kd.R_alloc | apply Kd.R_drewN | apply Kd.R_drew)); exact HO_40.out) hg (.inl rfl)); have n4_ := Aside0.mk ((by rw [hw]; exact below_set (HB.out) GB33.out : Below w.heap.size w w36)); clear HO_5; clear HO_6; clear HO_7; clear HO_40; clear HB; have HO_5 := n0_; have HO_6 := n1_; have HO_7 := n2_; have HO_40 := n3_; have HB := n4_; clear n0_ n1_ n2_ n3_ n4_; clear hg hw hp_) | (go_at_call 51; (with_reducible refine (graph_turned.calls k2 _ _ l0 t141 _ ?side1 ?side2 A34.out).mono ?_); (case side1 => repeat (first | exact (Kd.C_below HR0.out HB.out) | with_reducible first | refine Kd.C_alloc ?_ _ | refine Kd.C_drewN ?_ _ | refine Kd.C_drew ?_)); (case side2 => exact HC0.out); rintro e w37 ⟨v142, rfl, ho0, hb⟩; have n0_ := Aside0.mk (Kd.R_below (by (with_reducible repeat (first | apply Kd.R_alloc | apply Kd.R_drewN | apply Kd.R_drew)); exact HO_5.out) hb); have n1_ := Aside0.mk (Kd.R_below (by (with_reducible repeat (first | apply Kd.R_alloc | apply Kd.R_drewN | apply Kd.R_drew)); exact HO_6.out) hb); have n2_ := Aside0.mk (Kd.R_below (by (with_reducible repeat (first | apply Kd.R_alloc | apply Kd.R_drewN | apply Kd.R_drew)); exact HO_7.out) hb); have n3_ := Aside0.mk (Kd.R_below (by (with_reducible repeat (first | apply Kd.R_alloc | apply Kd.R_drewN | apply Kd.R_drew)); exact HO_40.out) hb); have n4_ := Aside0.mk (Kd.S_lower (Kd.S_new' (Kd.S_new' (Kd.S_new' (Kd.S_new' ho0 (Kd.R_lt (by (with_reducible repeat (first | apply Kd.R_alloc | apply Kd.R_drewN | apply Kd.R_drew)); exact HO_5.out))) (Kd.R_lt (by (with_reducible repeat (first | apply Kd.R_alloc | apply Kd.R_drewN | apply Kd.R_drew)); exact HO_6.out))) (Kd.R_lt (by (with_reducible repeat (first | apply Kd.R_alloc | apply Kd.R_drewN | apply Kd.R_drew)); exact HO_7.out))) (Kd.R_lt (by (with_reducible repeat (first | apply Kd.R_alloc | apply Kd.R_drewN | apply Kd.R_drew)); exact HO_40.out))) (below_size (by repeat (first | (with_reducible first | exact HB.out | apply below_alloc | apply pw_below_drewN | apply below_drew1) | exact HB.out)))); have n5_ := Aside0.mk (below_step (by repeat (first | (with_reducible first | exact HB.out | apply below_alloc | apply pw_below_drewN | apply below_drew1) | exact HB.out)) hb); clear HO_5; clear HO_6; clear HO_7; clear HO_40; clear HB; have HO_5 := n0_; have HO_6 := n1_; have HO_7 := n2_; have HO_40 := n3_; have HO143 := n4_; have HB := n5_; clear n0_ n1_ n2_ n3_ n4_ n5_; (try clear hb); (try clear hb2); (try clear hk); (try clear hi); (try clear ho0)))
           repeat (go_quiet (first | ((with_reducible refine gate_store (t := 3) (p := 55) rfl ?_); (try (rw [drewN_self wr]; generalize hq_ : World.drewN wr _ = wr; have n0_ := Aside0.mk (Kd.R_at hq_ HO_5.out); have n1_ := Aside0.mk (Kd.R_at hq_ HO_6.out); have n2_ := Aside0.mk (Kd.R_at hq_ HO_7.out); have n3_ := Aside0.mk (Kd.R_at hq_ HO_40.out); have n4_ := Aside0.mk (below_at hq_ HB.out); clear hq_ HO_5 HO_6 HO_7 HO_40 HB; have HO_5 := n0_; have HO_6 := n1_; have HO_7 := n2_; have HO_40 := n3_; have HB := n4_; clear n0_ n1_ n2_ n3_ n4_; (try (have HP35 := Kd.R_putg HO_7.out (a1 : Int) a1)))); refine store_event (t := 3) (p := 55) (v := ?vo_w36) (w1 := (wr.setCell ⟨go33, (a1 : Int).toNat, none⟩ (.int .i64 a1))) ?hg ?ho ?hn ?hr ?_; (case ho => rfl); (case hg => rfl); (case hn => rfl); (case hr => first | (go_simp; done) | (go_simp; rfl)); intro w36 hw; have hg : wr.grownBy w36 (some go33) := (by rw [hw]; exact HP35.2); have hp_ : Kd.R (Kd.int .i64) 3 w36 w.heap.size (fun k_ => some k_ ≠ (.slice Ao22 t127.length co22 : Value).ownBlock ∧ some k_ ≠ (v131 : Value).ownBlock ∧ some k_ ≠ (.slice Ao22 t127.length co22 : Value).ownBlock) (.slice (some ⟨go33, 0, none⟩) x7_1.length co11) y140 := (by rw [hw, Ny140.out]; exact HP35.1); clear HP35; have n0_ := Aside0.mk (Kd.R_after (v := (.slice (some ⟨go33, 0, none⟩) x7_1.length co11)) (v1 := (.slice (some ⟨go33, 0, none⟩) x7_1.length co11)) (ok := (fun k_ => some k_ ≠ (v131 : Value).ownBlock)) (by (with_reducible repeat (first | apply Kd.R_alloc | apply Kd.R_drewN | apply Kd.R_drew)); exact HO_5.out) hg (.inl rfl)); have n1_ := Aside0.mk (Kd.R_after (v := (.slice (some ⟨go33, 0, none⟩) x7_1.length co11)) (v1 := (.slice (some ⟨go33, 0, none⟩) x7_1.length co11)) (ok := (fun k_ => some k_ ≠ (.slice Ao22 t127.length co22 : Value).ownBlock ∧ some k_ ≠ (.slice Ao22 t127.length co22 : Value).ownBlock)) (by (with_reducible repeat (first | apply Kd.R_alloc | apply Kd.R_drewN | apply Kd.R_drew)); exact Kd.R_mono HO_6.out (fun _ hk => ⟨⟨hk.1, hk.2.2⟩, hk.2.1⟩)) hg (.inl rfl)); have n2_ := Aside0.mk (hp_); have n3_ := Aside0.mk (Kd.R_after (v := (.slice (some ⟨go33, 0, none⟩) x7_1.length co11)) (v1 := (.slice (some ⟨go33, 0, none⟩) x7_1.length co11)) (ok := (fun k_ => some k_ ≠ (v131 : Value).ownBlock)) (by (with_reducible repeat (first | apply Kd.R_alloc | apply Kd.R_drewN | apply Kd.R_drew)); exact HO_40.out) hg (.inl rfl)); have n4_ := Aside0.mk ((by rw [hw]; exact below_set (HB.out) GB33.out : Below w.heap.size w w36)); clear HO_5; clear HO_6; clear HO_7; clear HO_40; clear HB; have HO_5 := n0_; have HO_6 := n1_; have HO_7 := n2_; have HO_40 := n3_; have HB := n4_; clear n0_ n1_ n2_ n3_ n4_; clear hg hw hp_) | (go_at_call 51; (with_reducible refine (graph_turned.calls k2 _ _ l0 t141 _ ?side1 ?side2 A34.out).mono ?_); (case side1 => repeat (first | exact (Kd.C_below HR0.out HB.out) | with_reducible first | refine Kd.C_alloc ?_ _ | refine Kd.C_drewN ?_ _ | refine Kd.C_drew ?_)); (case side2 => exact HC0.out); rintro e w37 ⟨v142, rfl, ho0, hb⟩; have n0_ := Aside0.mk (Kd.R_below (by (with_reducible repeat (first | apply Kd.R_alloc | apply Kd.R_drewN | apply Kd.R_drew)); exact HO_5.out) hb); have n1_ := Aside0.mk (Kd.R_below (by (with_reducible repeat (first | apply Kd.R_alloc | apply Kd.R_drewN | apply Kd.R_drew)); exact HO_6.out) hb); have n2_ := Aside0.mk (Kd.R_below (by (with_reducible repeat (first | apply Kd.R_alloc | apply Kd.R_drewN | apply Kd.R_drew)); exact HO_7.out) hb); have n3_ := Aside0.mk (Kd.R_below (by (with_reducible repeat (first | apply Kd.R_alloc | apply Kd.R_drewN | apply Kd.R_drew)); exact HO_40.out) hb); have n4_ := Aside0.mk (Kd.S_lower (Kd.S_new' (Kd.S_new' (Kd.S_new' (Kd.S_new' ho0 (Kd.R_lt (by (with_reducible repeat (first | apply Kd.R_alloc | apply Kd.R_drewN | apply Kd.R_drew)); exact HO_5.out))) (Kd.R_lt (by (with_reducible repeat (first | apply Kd.R_alloc | apply Kd.R_drewN | apply Kd.R_drew)); exact HO_6.out))) (Kd.R_lt (by (with_reducible repeat (first | apply Kd.R_alloc | apply Kd.R_drewN | apply Kd.R_drew)); exact HO_7.out))) (Kd.R_lt (by (with_reducible repeat (first | apply Kd.R_alloc | apply Kd.R_drewN | apply Kd.R_drew)); exact HO_40.out))) (below_size (by repeat (first | (with_reducible first | exact HB.out | apply below_alloc | apply pw_below_drewN | apply below_drew1) | exact HB.out)))); have n5_ := Aside0.mk (below_step (by repeat (first | (with_reducible first | exact HB.out | apply below_alloc | apply pw_below_drewN | apply below_drew1) | exact HB.out)) hb); clear HO_5; clear HO_6; clear HO_7; clear HO_40; clear HB; have HO_5 := n0_; have HO_6 := n1_; have HO_7 := n2_; have HO_40 := n3_; have HO143 := n4_; have HB := n5_; clear n0_ n1_ n2_ n3_ n4_ n5_; (try clear hb); (try clear hb2); (try clear hk); (try clear hi); (try clear ho0))); try go_wp2_with (first | ((with_reducible refine gate_store (t := 3) (p := 55) rfl ?_); (try (rw [drewN_self wr]; generalize hq_ : World.drewN wr _ = wr; have n0_ := Aside0.mk (Kd.R_at hq_ HO_5.out); have n1_ := Aside0.mk (Kd.R_at hq_ HO_6.out); have n2_ := Aside0.mk (Kd.R_at hq_ HO_7.out); have n3_ := Aside0.mk (Kd.R_at hq_ HO_40.out); have n4_ := Aside0.mk (below_at hq_ HB.out); clear hq_ HO_5 HO_6 HO_7 HO_40 HB; have HO_5 := n0_; have HO_6 := n1_; have HO_7 := n2_; have HO_40 := n3_; have HB := n4_; clear n0_ n1_ n2_ n3_ n4_; (try (have HP35 := Kd.R_putg HO_7.out (a1 : Int) a1)))); refine store_event (t := 3) (p := 55) (v := ?vo_w36) (w1 := (wr.setCell ⟨go33, (a1 : Int).toNat, none⟩ (.int .i64 a1))) ?hg ?ho ?hn ?hr ?_; (case ho => rfl); (case hg => rfl); (case hn => rfl); (case hr => first | (go_simp; done) | (go_simp; rfl)); intro w36 hw; have hg : wr.grownBy w36 (some go33) := (by rw [hw]; exact HP35.2); have hp_ : Kd.R (Kd.int .i64) 3 w36 w.heap.size (fun k_ => some k_ ≠ (.slice Ao22 t127.length co22 : Value).ownBlock ∧ some k_ ≠ (v131 : Value).ownBlock ∧ some k_ ≠ (.slice Ao22 t127.length co22 : Value).ownBlock) (.slice (some ⟨go33, 0, none⟩) x7_1.length co11) y140 := (by rw [hw, Ny140.out]; exact HP35.1); clear HP35; have n0_ := Aside0.mk (Kd.R_after (v := (.slice (some ⟨go33, 0, none⟩) x7_1.length co11)) (v1 := (.slice (some ⟨go33, 0, none⟩) x7_1.length co11)) (ok := (fun k_ => some k_ ≠ (v131 : Value).ownBlock)) (by (with_reducible repeat (first | apply Kd.R_alloc | apply Kd.R_drewN | apply Kd.R_drew)); exact HO_5.out) hg (.inl rfl)); have n1_ := Aside0.mk (Kd.R_after (v := (.slice (some ⟨go33, 0, none⟩) x7_1.length co11)) (v1 := (.slice (some ⟨go33, 0, none⟩) x7_1.length co11)) (ok := (fun k_ => some k_ ≠ (.slice Ao22 t127.length co22 : Value).ownBlock ∧ some k_ ≠ (.slice Ao22 t127.length co22 : Value).ownBlock)) (by (with_reducible repeat (first | apply Kd.R_alloc | apply Kd.R_drewN | apply Kd.R_drew)); exact Kd.R_mono HO_6.out (fun _ hk => ⟨⟨hk.1, hk.2.2⟩, hk.2.1⟩)) hg (.inl rfl)); have n2_ := Aside0.mk (hp_); have n3_ := Aside0.mk (Kd.R_after (v := (.slice (some ⟨go33, 0, none⟩) x7_1.length co11)) (v1 := (.slice (some ⟨go33, 0, none⟩) x7_1.length co11)) (ok := (fun k_ => some k_ ≠ (v131 : Value).ownBlock)) (by (with_reducible repeat (first | apply Kd.R_alloc | apply Kd.R_drewN | apply Kd.R_drew)); exact HO_40.out) hg (.inl rfl)); have n4_ := Aside0.mk ((by rw [hw]; exact below_set (HB.out) GB33.out : Below w.heap.size w w36)); clear HO_5; clear HO_6; clear HO_7; clear HO_40; clear HB; have HO_5 := n0_; have HO_6 := n1_; have HO_7 := n2_; have HO_40 := n3_; have HB := n4_; clear n0_ n1_ n2_ n3_ n4_; clear hg hw hp_) | (go_at_call 51; (with_reducible refine (graph_turned.calls k2 _ _ l0 t141 _ ?side1 ?side2 A34.out).mono ?_); (case side1 => repeat (first | exact (Kd.C_below HR0.out HB.out) | with_reducible first | refine Kd.C_alloc ?_ _ | refine Kd.C_drewN ?_ _ | refine Kd.C_drew ?_)); (case side2 => exact HC0.out); rintro e w37 ⟨v142, rfl, ho0, hb⟩; have n0_ := Aside0.mk (Kd.R_below (by (with_reducible repeat (first | apply Kd.R_alloc | apply Kd.R_drewN | apply Kd.R_drew)); exact HO_5.out) hb); have n1_ := Aside0.mk (Kd.R_below (by (with_reducible repeat (first | apply Kd.R_alloc | apply Kd.R_drewN | apply Kd.R_drew)); exact HO_6.out) hb); have n2_ := Aside0.mk (Kd.R_below (by (with_reducible repeat (first | apply Kd.R_alloc | apply Kd.R_drewN | apply Kd.R_drew)); exact HO_7.out) hb); have n3_ := Aside0.mk (Kd.R_below (by (with_reducible repeat (first | apply Kd.R_alloc | apply Kd.R_drewN | apply Kd.R_drew)); exact HO_40.out) hb); have n4_ := Aside0.mk (Kd.S_lower (Kd.S_new' (Kd.S_new' (Kd.S_new' (Kd.S_new' ho0 (Kd.R_lt (by (with_reducible repeat (first | apply Kd.R_alloc | apply Kd.R_drewN | apply Kd.R_drew)); exact HO_5.out))) (Kd.R_lt (by (with_reducible repeat (first | apply Kd.R_alloc | apply Kd.R_drewN | apply Kd.R_drew)); exact HO_6.out))) (Kd.R_lt (by (with_reducible repeat (first | apply Kd.R_alloc | apply Kd.R_drewN | apply Kd.R_drew)); exact HO_7.out))) (Kd.R_lt (by (with_reducible repeat (first | apply Kd.R_alloc | apply Kd.R_drewN | apply Kd.R_drew)); exact HO_40.out))) (below_size (by repeat (first | (with_reducible first | exact HB.out | apply below_alloc | apply pw_below_drewN | apply below_drew1) | exact HB.out)))); have n5_ := Aside0.mk (below_step (by repeat (first | (with_reducible first | exact HB.out | apply below_alloc | apply pw_below_drewN | apply below_drew1) | exact HB.out)) hb); clear HO_5; clear HO_6; clear HO_7; clear HO_40; clear HB; have HO_5 := n0_; have HO_6 := n1_; have HO_7 := n2_; have HO_40 := n3_; have HO143 := n4_; have HB := n5_; clear n0_ n1_ n2_ n3_ n4_ n5_; (try clear hb); (try clear hb2); (try clear hk); (try clear hi); (try clear ho0))))
           go_loopg [12] k2 (fun kq v12 w' => ∃ (x7_3 : List Int) (x12_3 : Bool), v12 = .bool x12_3 ∧ Aside0 (graph_tree.l2 kq a1 t127 x6_2 x7_3 t141 x12_3 = some r) ∧ Aside0 (kq ≤ k2) ∧ Aside0 (Kd.R (Kd.int .i64) 3 w' w.heap.size (fun k_ => some k_ ≠ (v131 : Value).ownBlock ∧ some k_ ≠ ((.slice (some ⟨go33, 0, none⟩) x7_1.length co11) : Value).ownBlock) (.slice Ao22 t127.length co22) t127) ∧ Aside0 (Kd.R (Kd.int .i64) 3 w' w.heap.size (fun k_ => some k_ ≠ ((.slice Ao22 t127.length co22) : Value).ownBlock ∧ some k_ ≠ ((.slice (some ⟨go33, 0, none⟩) x7_1.length co11) : Value).ownBlock) v131 x6_2) ∧ Aside0 (Kd.R (Kd.int .i64) 3 w' w.heap.size (fun k_ => some k_ ≠ ((.slice Ao22 t127.length co22) : Value).ownBlock ∧ some k_ ≠ (v131 : Value).ownBlock) (.slice (some ⟨go33, 0, none⟩) x7_1.length co11) x7_3) ∧ Aside0 (Kd.S (Kd.slice 3 (Kd.int .i64)) 33 w' w.heap.size (fun k_ => some k_ ≠ ((.slice Ao22 t127.length co22) : Value).ownBlock ∧ some k_ ≠ (v131 : Value).ownBlock ∧ some k_ ≠ ((.slice (some ⟨go33, 0, none⟩) x7_1.length co11) : Value).ownBlock) v142 t141) ∧ Aside0 (Below w.heap.size w w'))
           case atStart => exact ⟨(y140), (true), (by first | rfl | (simp; done) | (simp [*]; done)), H', ⟨Nat.le_refl _⟩, ⟨by (try simp only [hl7_1]); (with_reducible repeat (first | apply Kd.R_alloc | apply Kd.R_drewN | apply Kd.R_drew)); exact HO_5.out⟩, ⟨by (try simp only [hl7_1]); (with_reducible repeat (first | apply Kd.R_alloc | apply Kd.R_drewN | apply Kd.R_drew)); exact Kd.R_mono HO_6.out (fun _ hk => ⟨hk.1.1, hk.2⟩)⟩, ⟨by (try simp only [hl7_1]); (with_reducible repeat (first | apply Kd.R_alloc | apply Kd.R_drewN | apply Kd.R_drew)); exact Kd.R_mono HO_7.out (fun _ hk => ⟨hk.1, hk.2.1⟩)⟩, ⟨by (try simp only [hl7_1]); (with_reducible repeat (first | apply Kd.S_alloc | apply Kd.S_drewN | apply Kd.S_drew)); exact Kd.S_mono HO143.out (fun _ hk => ⟨hk.1.1.1.2, ⟨hk.1.1.2, hk.1.2⟩⟩)⟩, ⟨by repeat (first | (with_reducible first | exact HB.out | apply below_alloc | apply pw_below_drewN | apply below_drew1) | exact HB.out)⟩⟩
           case round =>
            clear H'; try clear c1
            try clear p1
            try clear q1
            try clear hx1
            try clear c2
            try clear p2
            try clear q2
            try clear hx2
            try clear hf2
            try clear c3
            try clear p3
            try clear q3
            try clear hx3
            try clear hf3
            try clear c4
            try clear c4b0
            try clear c4b1
            try clear c5
            try clear c5b0
            try clear c5b1
            try clear p6
            try clear c12
            try clear c12b0
            try clear c13
            try clear c13b0
            try clear p13
            try clear q13
            try clear hx13
            try clear c14
            try clear c14b0
            try clear p15
            try clear q15
            try clear hx15
            try clear hf15
            try clear c16
            try clear c16b0
            try clear p17
            try clear q17
            try clear hx17
            try clear hf17
            try clear c23
            try clear c23b0
            try clear c24
            try clear c24b0
            try clear c25
            try clear c25b0
            try clear c26
            try clear c26b0
            try clear c27
            try clear c27b0
            try clear p28
            try clear q28
            try clear hx28
            try clear hf28
            try clear c31
            try clear c31b0
            try clear c32
            try clear c32b0
            try clear p33
            try clear q33
            try clear hx33
            try clear hf33
            try clear hx138_0
            try clear hx15_0
            try clear hx17_0
            try clear hx28_0
            try clear hx33_0
            try clear p1
            try clear p138
            try clear p15
            try clear p17
            try clear p2
            try clear p28
            try clear p33
            try clear p6
            try clear q1
            try clear q138
            try clear q15
            try clear q17
            try clear q28
            try clear q33
            obtain ⟨x7_3, x12_3, rfl, HA, HK3, HO_5, HO_6, HO_7, HO_11, HB⟩ := hrel; have hl7_3 := (Kd.R_reads' HO_7.out).1; rw [hl7_3] at HO_7; (try simp only [hl7_3])
            (try simp only [hl7_3] at HO_5)
            (try simp only [hl7_3] at HO_6)
            (try simp only [hl7_3] at HO_11)
            cases gk with
            | zero => exact absurd HA.out (by simp [graph_tree.l2])
            | succ k3 =>
             have H := HA.out; clear HA; simp only [graph_tree.l2] at H
             by_cases c38 : x12_3 = true
             ·subst c38; have H1 : (graph_tree.l3 k3 a1 t127 x6_2 x7_3 t141 false (wrap64 ((t127.length : Int) - 2))) = some r := by rw [if_pos rfl] at H; exact H
              clear H; have H := H1; clear H1; have H' := Aside0.mk H
              clear H; go_wp2
              repeat (go_quiet (fail); try go_wp2)
              go_loopg [12, 13] k3 (fun kq v12 v13 w' => ∃ (x7_4 : List Int) (x12_4 : Bool) (x13_4 : Int), v12 = .bool x12_4 ∧ v13 = .int .i64 x13_4 ∧ Aside0 (graph_tree.l3 kq a1 t127 x6_2 x7_4 t141 x12_4 x13_4 = some r) ∧ Aside0 (kq ≤ k3) ∧ Aside0 (Kd.R (Kd.int .i64) 3 w' w.heap.size (fun k_ => some k_ ≠ (v131 : Value).ownBlock ∧ some k_ ≠ ((.slice (some ⟨go33, 0, none⟩) x7_3.length co11) : Value).ownBlock) (.slice Ao22 t127.length co22) t127) ∧ Aside0 (Kd.R (Kd.int .i64) 3 w' w.heap.size (fun k_ => some k_ ≠ ((.slice Ao22 t127.length co22) : Value).ownBlock ∧ some k_ ≠ ((.slice (some ⟨go33, 0, none⟩) x7_3.length co11) : Value).ownBlock) v131 x6_2) ∧ Aside0 (Kd.R (Kd.int .i64) 3 w' w.heap.size (fun k_ => some k_ ≠ ((.slice Ao22 t127.length co22) : Value).ownBlock ∧ some k_ ≠ (v131 : Value).ownBlock) (.slice (some ⟨go33, 0, none⟩) x7_3.length co11) x7_4) ∧ Aside0 (Kd.S (Kd.slice 3 (Kd.int .i64)) 33 w' w.heap.size (fun k_ => some k_ ≠ ((.slice Ao22 t127.length co22) : Value).ownBlock ∧ some k_ ≠ (v131 : Value).ownBlock ∧ some k_ ≠ ((.slice (some ⟨go33, 0, none⟩) x7_3.length co11) : Value).ownBlock) v142 t141) ∧ Aside0 (Below w.heap.size w w'))
              case atStart => exact ⟨(x7_3), (false), (wrap64 ((t127.length : Int) - 2)), (by first | rfl | (simp; done) | (simp [*]; done)), (by first | rfl | (simp; done) | (simp [*]; done)), H', ⟨Nat.le_refl _⟩, ⟨by (try simp only [hl7_1]); (try simp only [hl7_3]); (with_reducible repeat (first | apply Kd.R_alloc | apply Kd.R_drewN | apply Kd.R_drew)); exact HO_5.out⟩, ⟨by (try simp only [hl7_1]); (try simp only [hl7_3]); (with_reducible repeat (first | apply Kd.R_alloc | apply Kd.R_drewN | apply Kd.R_drew)); exact HO_6.out⟩, ⟨by (try simp only [hl7_1]); (try simp only [hl7_3]); (with_reducible repeat (first | apply Kd.R_alloc | apply Kd.R_drewN | apply Kd.R_drew)); exact HO_7.out⟩, ⟨by (try simp only [hl7_1]); (try simp only [hl7_3]); (with_reducible repeat (first | apply Kd.S_alloc | apply Kd.S_drewN | apply Kd.S_drew)); exact HO_11.out⟩, ⟨by repeat (first | (with_reducible first | exact HB.out | apply below_alloc | apply pw_below_drewN | apply below_drew1) | exact HB.out)⟩⟩
              case round =>
               clear H'; try clear c1
               try clear p1
               try clear q1
               try clear hx1
               try clear c2
               try clear p2
               try clear q2
               try clear hx2
               try clear hf2
               try clear c3
               try clear p3
               try clear q3
               try clear hx3
               try clear hf3
               try clear c4
               try clear c4b0
               try clear c4b1
               try clear c5
               try clear c5b0
               try clear c5b1
               try clear p6
               try clear c12
               try clear c12b0
               try clear c13
               try clear c13b0
               try clear p13
               try clear q13
               try clear hx13
               try clear c14
               try clear c14b0
               try clear p15
               try clear q15
               try clear hx15
               try clear hf15
               try clear c16
               try clear c16b0
               try clear p17
               try clear q17
               try clear hx17
               try clear hf17
               try clear c23
               try clear c23b0
               try clear c24
               try clear c24b0
               try clear c25
               try clear c25b0
               try clear c26
               try clear c26b0
               try clear c27
               try clear c27b0
               try clear p28
               try clear q28
               try clear hx28
               try clear hf28
               try clear c31
               try clear c31b0
               try clear c32
               try clear c32b0
               try clear p33
               try clear q33
               try clear hx33
               try clear hf33
               try clear c38
               try clear hx138_0
               try clear hx15_0
               try clear hx17_0
               try clear hx28_0
               try clear hx33_0
               try clear p1
               try clear p13
               try clear p138
               try clear p15
               try clear p17
               try clear p2
               try clear p28
               try clear p3
               try clear p33
               try clear p6
               try clear q1
               try clear q13
               try clear q138
               try clear q15
               try clear q17
               try clear q2
               try clear q28
               try clear q3
               try clear q33
               obtain ⟨x7_4, x12_4, x13_4, rfl, rfl, HA, HK4, HO_5, HO_6, HO_7, HO_11, HB⟩ := hrel; have hl7_4 := (Kd.R_reads' HO_7.out).1; rw [hl7_4] at HO_7; (try simp only [hl7_4])
               (try simp only [hl7_4] at HO_5)
               (try simp only [hl7_4] at HO_6)
               (try simp only [hl7_4] at HO_11)
               cases gk with
               | zero => exact absurd HA.out (by simp [graph_tree.l3])
               | succ k4 =>
                have H := HA.out; clear HA; simp only [graph_tree.l3] at H
                by_cases c39 : x13_4 ≥ 0
                ·rw [if_pos c39] at H; have c39b0 : decide (0 ≤ x13_4) = true := decide_eq_true c39
                 clear c39; by_cases c40 : 0 ≤ x13_4
                 ·rw [if_pos c40] at H; have c40b0 : decide (0 ≤ x13_4) = true := decide_eq_true c40
                  clear c40; by_cases c41 : x13_4 < (t127.length : Int)
                  ·rw [if_pos c41] at H; have c41b0 : decide (x13_4 < (t127.length : Int)) = true := decide_eq_true c41
                   clear c41; by_cases c42 : 0 ≤ (rd t127 x13_4)
                   ·rw [if_pos c42] at H; have c42b0 : decide (0 ≤ (rd t127 x13_4)) = true := decide_eq_true c42
                    clear c42; by_cases c43 : (rd t127 x13_4) < (t141.length : Int)
                    ·rw [if_pos c43] at H; have c43b0 : decide ((rd t127 x13_4) < (t141.length : Int)) = true := decide_eq_true c43
                     clear c43; have H' := Aside0.mk H
                     clear H; have p145 : 0 ≤ (x13_4 : Int) := of_decide_eq_true (by with_reducible assumption)
                     have q145 : x13_4 < (t127.length : Int) := of_decide_eq_true (by with_reducible assumption)
                     obtain ⟨ad145, e145, hx145_0⟩ := Kd.at_int (Kd.R_reads' HO_5.out).2.2 x13_4 p145 q145; cases e145; replace p145 := eq_true p145; replace q145 := eq_true q145; obtain ⟨Ao44, co44, eo44⟩ := Kd.S_slice HO_11.out; subst eo44; have p146 : 0 ≤ ((rd t127 x13_4) : Int) := of_decide_eq_true (by with_reducible assumption)
                     have q146 : (rd t127 x13_4) < (t141.length : Int) := of_decide_eq_true (by with_reducible assumption)
                     obtain ⟨ad146, A146_0, c146_0, e146, hx146_0, hl146_0, hi146_0⟩ := at_L2 (Kd.S_reads' HO_11.out).2.2 (rd t127 x13_4) p146 q146; cases e146; obtain ⟨ce146, hce146, hMe146, hcc146⟩ := Kd.S_get HO_11.out [] (rd t127 x13_4) p146 (by first | exact q146 | exact of_decide_eq_true (by with_reducible assumption) | (have e_ := (Kd.S_reads' HO_11.out).1; omega))
                     obtain ⟨ve146_0, rfl, ge146_0⟩ := hMe146; have hv146_0 := hcc146 0 _ rfl; rw [Nat.add_zero, show ((Kd.slice 3 (Kd.int .i64))).sz = 1 from rfl, Nat.mul_one] at hv146_0; replace hv146_0 := Option.some.inj (hv146_0.symm.trans hx146_0); rw [hv146_0] at ge146_0; have HL146_0 := Aside0.mk (show Kd.R (Kd.int .i64) 3 _ _ _ _ (rd_L2 t141 (rd t127 x13_4)) from ge146_0); clear hv146_0 ge146_0; clear hcc146 hce146; have HR146_0 := Aside0.mk hi146_0; have HC146_0 := Aside0.mk hl146_0; clear hi146_0 hl146_0; replace p146 := eq_true p146; replace q146 := eq_true q146; go_wp2
                     repeat (go_quiet (fail); try go_wp2)
                     go_loopg [15, 75] k4 (fun kq v15 v75 w' => ∃ (x15_5 : Int) (x75_5 : Int), v15 = .int .i64 x15_5 ∧ v75 = .int .i64 x75_5 ∧ Aside0 (graph_tree.l4 kq a1 t127 x6_2 x7_4 t141 x12_4 x13_4 (rd t127 x13_4) x15_5 (rd_L2 t141 (rd t127 x13_4)) ((rd_L2 t141 (rd t127 x13_4)).length : Int) x75_5 = some r) ∧ Aside0 (kq ≤ k4) ∧ Aside0 (Kd.R (Kd.int .i64) 3 w' w.heap.size (fun k_ => some k_ ≠ (v131 : Value).ownBlock ∧ some k_ ≠ ((.slice (some ⟨go33, 0, none⟩) x7_4.length co11) : Value).ownBlock) (.slice (some ad145) t127.length co22) t127) ∧ Aside0 (Kd.R (Kd.int .i64) 3 w' w.heap.size (fun k_ => some k_ ≠ ((.slice (some ad145) t127.length co22) : Value).ownBlock ∧ some k_ ≠ ((.slice (some ⟨go33, 0, none⟩) x7_4.length co11) : Value).ownBlock) v131 x6_2) ∧ Aside0 (Kd.R (Kd.int .i64) 3 w' w.heap.size (fun k_ => some k_ ≠ ((.slice (some ad145) t127.length co22) : Value).ownBlock ∧ some k_ ≠ (v131 : Value).ownBlock) (.slice (some ⟨go33, 0, none⟩) x7_4.length co11) x7_4) ∧ Aside0 (Kd.S (Kd.slice 3 (Kd.int .i64)) 33 w' w.heap.size (fun k_ => some k_ ≠ ((.slice (some ad145) t127.length co22) : Value).ownBlock ∧ some k_ ≠ (v131 : Value).ownBlock ∧ some k_ ≠ ((.slice (some ⟨go33, 0, none⟩) x7_4.length co11) : Value).ownBlock) (.slice (some ad146) t141.length co44) t141) ∧ Aside0 (Kd.C (Kd.int .i64) w' A146_0 (rd_L2 t141 (rd t127 x13_4)).length (rd_L2 t141 (rd t127 x13_4))) ∧ Aside0 (Below w.heap.size w w'))
                     case atStart => exact ⟨((-1)), (0), (by first | rfl | (simp; done) | (simp [*]; done)), (by first | rfl | (simp; done) | (simp [*]; done)), H', ⟨Nat.le_refl _⟩, ⟨by (try simp only [hl7_1]); (try simp only [hl7_3]); (try simp only [hl7_4]); (with_reducible repeat (first | apply Kd.R_alloc | apply Kd.R_drewN | apply Kd.R_drew)); exact HO_5.out⟩, ⟨by (try simp only [hl7_1]); (try simp only [hl7_3]); (try simp only [hl7_4]); (with_reducible repeat (first | apply Kd.R_alloc | apply Kd.R_drewN | apply Kd.R_drew)); exact HO_6.out⟩, ⟨by (try simp only [hl7_1]); (try simp only [hl7_3]); (try simp only [hl7_4]); (with_reducible repeat (first | apply Kd.R_alloc | apply Kd.R_drewN | apply Kd.R_drew)); exact HO_7.out⟩, ⟨by (try simp only [hl7_1]); (try simp only [hl7_3]); (try simp only [hl7_4]); (with_reducible repeat (first | apply Kd.S_alloc | apply Kd.S_drewN | apply Kd.S_drew)); exact HO_11.out⟩, ⟨by repeat (first | (with_reducible exact HR146_0.out) | with_reducible first | refine Kd.C_alloc ?_ _ | refine Kd.C_drewN ?_ _ | refine Kd.C_drew ?_ | exact HR146_0.out)⟩, ⟨by repeat (first | (with_reducible first | exact HB.out | apply below_alloc | apply pw_below_drewN | apply below_drew1) | exact HB.out)⟩⟩
                     case round =>
                      clear H'; try clear c1
                      try clear p1
                      try clear q1
                      try clear hx1
                      try clear c2
                      try clear p2
                      try clear q2
                      try clear hx2
                      try clear hf2
                      try clear c3
                      try clear p3
                      try clear q3
                      try clear hx3
                      try clear hf3
                      try clear c4
                      try clear c4b0
                      try clear c4b1
                      try clear c5
                      try clear c5b0
                      try clear c5b1
                      try clear p6
                      try clear c12
                      try clear c12b0
                      try clear c13
                      try clear c13b0
                      try clear p13
                      try clear q13
                      try clear hx13
                      try clear c14
                      try clear c14b0
                      try clear p14
                      try clear q14
                      try clear hx14
                      try clear p15
                      try clear q15
                      try clear hx15
                      try clear hf15
                      try clear c16
                      try clear c16b0
                      try clear p17
                      try clear q17
                      try clear hx17
                      try clear hf17
                      try clear c23
                      try clear c23b0
                      try clear c24
                      try clear c24b0
                      try clear c25
                      try clear c25b0
                      try clear c26
                      try clear c26b0
                      try clear c27
                      try clear c27b0
                      try clear p28
                      try clear q28
                      try clear hx28
                      try clear hf28
                      try clear c31
                      try clear c31b0
                      try clear c32
                      try clear c32b0
                      try clear p33
                      try clear q33
                      try clear hx33
                      try clear hf33
                      try clear c38
                      try clear c39
                      try clear c39b0
                      try clear c40
                      try clear c40b0
                      try clear c41
                      try clear c41b0
                      try clear c42
                      try clear c42b0
                      try clear c43
                      try clear c43b0
                      try clear hx138_0
                      try clear hx145_0
                      try clear hx146_0
                      try clear hx15_0
                      try clear hx17_0
                      try clear hx28_0
                      try clear hx33_0
                      try clear p1
                      try clear p13
                      try clear p138
                      try clear p145
                      try clear p146
                      try clear p15
                      try clear p17
                      try clear p2
                      try clear p28
                      try clear p3
                      try clear p33
                      try clear p6
                      try clear q1
                      try clear q13
                      try clear q138
                      try clear q145
                      try clear q146
                      try clear q15
                      try clear q17
                      try clear q2
                      try clear q28
                      try clear q3
                      try clear q33
                      obtain ⟨x15_5, x75_5, rfl, rfl, HA, HK5, HO_5, HO_6, HO_7, HO_11, HR146_0, HB⟩ := hrel; cases gk with
                      | zero => exact absurd HA.out (by simp [graph_tree.l4])
                      | succ k5 =>
                       have H := HA.out; clear HA; simp only [graph_tree.l4] at H
                       by_cases c45 : x75_5 < ((rd_L2 t141 (rd t127 x13_4)).length : Int)
                       ·rw [if_pos c45] at H; have c45b0 : decide (x75_5 < ((rd_L2 t141 (rd t127 x13_4)).length : Int)) = true := decide_eq_true c45
                        clear c45; by_cases c46 : 0 ≤ x75_5
                        ·rw [if_pos c46] at H; have c46b0 : decide (0 ≤ x75_5) = true := decide_eq_true c46
                         clear c46; by_cases c47 : x75_5 < ((rd_L2 t141 (rd t127 x13_4)).length : Int)
                         ·rw [if_pos c47] at H; have c47b0 : decide (x75_5 < ((rd_L2 t141 (rd t127 x13_4)).length : Int)) = true := decide_eq_true c47
                          clear c47; have HC48 := Aside0.mk H; clear H; have p149 : 0 ≤ (x75_5 : Int) := of_decide_eq_true (by with_reducible assumption)
                          have q149 : x75_5 < ((rd_L2 t141 (rd t127 x13_4)).length : Int) := of_decide_eq_true (by with_reducible assumption)
                          obtain ⟨ad149, e149, hx149_0⟩ := Kd.at_int HR146_0.out x75_5 p149 q149; cases e149; replace p149 := eq_true p149; replace q149 := eq_true q149; go_upto_region 26 with (fail)
                          repeat (go_quiet (fail); go_upto_region 26 with (fail))
                          go_cut [90] (fun v90 wc => ∃ (kq : Nat) (x90_47 : Bool), v90 = .bool x90_47 ∧ Aside0 (graph_tree.j5 kq a1 t127 x6_2 x7_4 t141 x12_4 x13_4 (rd t127 x13_4) x15_5 (rd (rd_L2 t141 (rd t127 x13_4)) x75_5) (rd_L2 t141 (rd t127 x13_4)) ((rd_L2 t141 (rd t127 x13_4)).length : Int) x75_5 x90_47 = some r) ∧ Aside0 (kq ≤ k5) ∧ Aside0 (Kd.R (Kd.int .i64) 3 wc w.heap.size (fun k_ => some k_ ≠ (v131 : Value).ownBlock ∧ some k_ ≠ ((.slice (some ⟨go33, 0, none⟩) x7_4.length co11) : Value).ownBlock) (.slice (some ad145) t127.length co22) t127) ∧ Aside0 (Kd.R (Kd.int .i64) 3 wc w.heap.size (fun k_ => some k_ ≠ ((.slice (some ad145) t127.length co22) : Value).ownBlock ∧ some k_ ≠ ((.slice (some ⟨go33, 0, none⟩) x7_4.length co11) : Value).ownBlock) v131 x6_2) ∧ Aside0 (Kd.R (Kd.int .i64) 3 wc w.heap.size (fun k_ => some k_ ≠ ((.slice (some ad145) t127.length co22) : Value).ownBlock ∧ some k_ ≠ (v131 : Value).ownBlock) (.slice (some ⟨go33, 0, none⟩) x7_4.length co11) x7_4) ∧ Aside0 (Kd.S (Kd.slice 3 (Kd.int .i64)) 33 wc w.heap.size (fun k_ => some k_ ≠ ((.slice (some ad145) t127.length co22) : Value).ownBlock ∧ some k_ ≠ (v131 : Value).ownBlock ∧ some k_ ≠ ((.slice (some ⟨go33, 0, none⟩) x7_4.length co11) : Value).ownBlock) (.slice (some ad146) t141.length co44) t141) ∧ Aside0 (Kd.C (Kd.int .i64) wc (some ad149) (rd_L2 t141 (rd t127 x13_4)).length (rd_L2 t141 (rd t127 x13_4))) ∧ Aside0 (Below w.heap.size w wc))
                          case first =>
                           have H := HC48.out; clear HC48; by_cases c49 : 0 ≤ (rd (rd_L2 t141 (rd t127 x13_4)) x75_5)
                           ·rw [if_pos c49] at H; have c49b0 : decide (0 ≤ (rd (rd_L2 t141 (rd t127 x13_4)) x75_5)) = true := decide_eq_true c49
                            clear c49; (first | rw [c49b0] | (simp only [i64_w, i32_w]; rw [c49b0]) | skip)
                            by_cases c50 : (rd (rd_L2 t141 (rd t127 x13_4)) x75_5) < (x6_2.length : Int)
                            ·rw [if_pos c50] at H; have c50b0 : decide ((rd (rd_L2 t141 (rd t127 x13_4)) x75_5) < (x6_2.length : Int)) = true := decide_eq_true c50
                             clear c50; by_cases c51 : (rd x6_2 (rd (rd_L2 t141 (rd t127 x13_4)) x75_5)) < 0
                             ·rw [if_pos c51] at H; have c51b0 : decide ((rd x6_2 (rd (rd_L2 t141 (rd t127 x13_4)) x75_5)) < 0) = true := decide_eq_true c51
                              clear c51; have H' := Aside0.mk H
                              clear H; obtain ⟨Ao52, co52, eo52⟩ := Kd.R_slice HO_6.out; subst eo52; have p150 : 0 ≤ ((rd (rd_L2 t141 (rd t127 x13_4)) x75_5) : Int) := of_decide_eq_true (by with_reducible assumption)
                              have q150 : (rd (rd_L2 t141 (rd t127 x13_4)) x75_5) < (x6_2.length : Int) := of_decide_eq_true (by with_reducible assumption)
                              obtain ⟨ad150, e150, hx150_0⟩ := Kd.at_int (Kd.R_reads' HO_6.out).2.2 (rd (rd_L2 t141 (rd t127 x13_4)) x75_5) p150 q150; cases e150; replace p150 := eq_true p150; replace q150 := eq_true q150; go_wp2
                              repeat (go_quiet (fail); try go_wp2)
                              go_meet
                              case rel => exact ⟨_, (true), (by first | rfl | (simp; done) | (simp [*]; done)), H', ⟨by have := HK1.out; have := HK2.out; have := HK3.out; have := HK4.out; have := HK5.out; first | omega | exact Nat.le_refl _⟩, ⟨by (try simp only [hl7_1]); (try simp only [hl7_3]); (try simp only [hl7_4]); (with_reducible repeat (first | apply Kd.R_alloc | apply Kd.R_drewN | apply Kd.R_drew)); exact HO_5.out⟩, ⟨by (try simp only [hl7_1]); (try simp only [hl7_3]); (try simp only [hl7_4]); (with_reducible repeat (first | apply Kd.R_alloc | apply Kd.R_drewN | apply Kd.R_drew)); exact HO_6.out⟩, ⟨by (try simp only [hl7_1]); (try simp only [hl7_3]); (try simp only [hl7_4]); (with_reducible repeat (first | apply Kd.R_alloc | apply Kd.R_drewN | apply Kd.R_drew)); exact HO_7.out⟩, ⟨by (try simp only [hl7_1]); (try simp only [hl7_3]); (try simp only [hl7_4]); (with_reducible repeat (first | apply Kd.S_alloc | apply Kd.S_drewN | apply Kd.S_drew)); exact HO_11.out⟩, ⟨by repeat (first | (with_reducible exact HR146_0.out) | with_reducible first | refine Kd.C_alloc ?_ _ | refine Kd.C_drewN ?_ _ | refine Kd.C_drew ?_ | exact HR146_0.out)⟩, ⟨by repeat (first | (with_reducible first | exact HB.out | apply below_alloc | apply pw_below_drewN | apply below_drew1) | exact HB.out)⟩⟩
                             ·rw [if_neg c51] at H; have c51b0 : decide ((rd x6_2 (rd (rd_L2 t141 (rd t127 x13_4)) x75_5)) < 0) = false := decide_eq_false c51
                              clear c51; by_cases c53 : (rd (rd_L2 t141 (rd t127 x13_4)) x75_5) < (x7_4.length : Int)
                              ·rw [if_pos c53] at H; have c53b0 : decide ((rd (rd_L2 t141 (rd t127 x13_4)) x75_5) < (x7_4.length : Int)) = true := decide_eq_true c53
                               clear c53; have H' := Aside0.mk H
                               clear H; obtain ⟨Ao54, co54, eo54⟩ := Kd.R_slice HO_6.out; subst eo54; have p150 : 0 ≤ ((rd (rd_L2 t141 (rd t127 x13_4)) x75_5) : Int) := of_decide_eq_true (by with_reducible assumption)
                               have q150 : (rd (rd_L2 t141 (rd t127 x13_4)) x75_5) < (x6_2.length : Int) := of_decide_eq_true (by with_reducible assumption)
                               obtain ⟨ad150, e150, hx150_0⟩ := Kd.at_int (Kd.R_reads' HO_6.out).2.2 (rd (rd_L2 t141 (rd t127 x13_4)) x75_5) p150 q150; cases e150; replace p150 := eq_true p150; replace q150 := eq_true q150; have p151 : 0 ≤ ((rd (rd_L2 t141 (rd t127 x13_4)) x75_5) : Int) := of_decide_eq_true (by with_reducible assumption)
                               have q151 : (rd (rd_L2 t141 (rd t127 x13_4)) x75_5) < (x7_4.length : Int) := of_decide_eq_true (by with_reducible assumption)
                               obtain ⟨ad151, e151, hx151_0⟩ := Kd.at_int (Kd.R_reads' HO_7.out).2.2 (rd (rd_L2 t141 (rd t127 x13_4)) x75_5) p151 q151; obtain rfl : (⟨go33, 0, none⟩ : Addr) = ad151 := (by injection e151)
                               (first | simp only [add_plain] at hx151_0 | simp only [add_at] at hx151_0 | simp only [Addr.add, Nat.zero_add] at hx151_0 | skip)
                               replace p151 := eq_true p151; replace q151 := eq_true q151; go_wp2
                               repeat (go_quiet (fail); try go_wp2)
                               go_meet
                               case rel => exact ⟨_, (decide ((rd x7_4 (rd (rd_L2 t141 (rd t127 x13_4)) x75_5)) < 0)), (by first | rfl | (simp; done) | (simp [*]; done)), H', ⟨by have := HK1.out; have := HK2.out; have := HK3.out; have := HK4.out; have := HK5.out; first | omega | exact Nat.le_refl _⟩, ⟨by (try simp only [hl7_1]); (try simp only [hl7_3]); (try simp only [hl7_4]); (with_reducible repeat (first | apply Kd.R_alloc | apply Kd.R_drewN | apply Kd.R_drew)); exact HO_5.out⟩, ⟨by (try simp only [hl7_1]); (try simp only [hl7_3]); (try simp only [hl7_4]); (with_reducible repeat (first | apply Kd.R_alloc | apply Kd.R_drewN | apply Kd.R_drew)); exact HO_6.out⟩, ⟨by (try simp only [hl7_1]); (try simp only [hl7_3]); (try simp only [hl7_4]); (with_reducible repeat (first | apply Kd.R_alloc | apply Kd.R_drewN | apply Kd.R_drew)); exact HO_7.out⟩, ⟨by (try simp only [hl7_1]); (try simp only [hl7_3]); (try simp only [hl7_4]); (with_reducible repeat (first | apply Kd.S_alloc | apply Kd.S_drewN | apply Kd.S_drew)); exact HO_11.out⟩, ⟨by repeat (first | (with_reducible exact HR146_0.out) | with_reducible first | refine Kd.C_alloc ?_ _ | refine Kd.C_drewN ?_ _ | refine Kd.C_drew ?_ | exact HR146_0.out)⟩, ⟨by repeat (first | (with_reducible first | exact HB.out | apply below_alloc | apply pw_below_drewN | apply below_drew1) | exact HB.out)⟩⟩
                              ·rw [if_neg c53] at H; exact absurd H (by simp)
                            ·rw [if_neg c50] at H; exact absurd H (by simp)
                           ·rw [if_neg c49] at H; exact absurd H (by simp)
                          case rest =>
                           clear HC48; try clear c1
                           try clear p1
                           try clear q1
                           try clear hx1
                           try clear c2
                           try clear p2
                           try clear q2
                           try clear hx2
                           try clear hf2
                           try clear c3
                           try clear p3
                           try clear q3
                           try clear hx3
                           try clear hf3
                           try clear c4
                           try clear c4b0
                           try clear c4b1
                           try clear c5
                           try clear c5b0
                           try clear c5b1
                           try clear p6
                           try clear c12
                           try clear c12b0
                           try clear c13
                           try clear c13b0
                           try clear p13
                           try clear q13
                           try clear hx13
                           try clear c14
                           try clear c14b0
                           try clear p14
                           try clear q14
                           try clear hx14
                           try clear p15
                           try clear q15
                           try clear hx15
                           try clear hf15
                           try clear c16
                           try clear c16b0
                           try clear p17
                           try clear q17
                           try clear hx17
                           try clear hf17
                           try clear c23
                           try clear c23b0
                           try clear c24
                           try clear c24b0
                           try clear c25
                           try clear c25b0
                           try clear c26
                           try clear c26b0
                           try clear c27
                           try clear c27b0
                           try clear p28
                           try clear q28
                           try clear hx28
                           try clear hf28
                           try clear c31
                           try clear c31b0
                           try clear c32
                           try clear c32b0
                           try clear p33
                           try clear q33
                           try clear hx33
                           try clear hf33
                           try clear c38
                           try clear c39
                           try clear c39b0
                           try clear c40
                           try clear c40b0
                           try clear c41
                           try clear c41b0
                           try clear c42
                           try clear c42b0
                           try clear c43
                           try clear c43b0
                           try clear c45
                           try clear c45b0
                           try clear c46
                           try clear c46b0
                           try clear c47
                           try clear c47b0
                           try clear c49
                           try clear c49b0
                           try clear c50
                           try clear c50b0
                           try clear c51
                           try clear c51b0
                           try clear c53
                           try clear c53b0
                           try clear hx138_0
                           try clear hx145_0
                           try clear hx146_0
                           try clear hx149_0
                           try clear hx150_0
                           try clear hx151_0
                           try clear hx15_0
                           try clear hx17_0
                           try clear hx28_0
                           try clear hx33_0
                           try clear p1
                           try clear p13
                           try clear p138
                           try clear p14
                           try clear p145
                           try clear p146
                           try clear p149
                           try clear p15
                           try clear p150
                           try clear p151
                           try clear p17
                           try clear p2
                           try clear p28
                           try clear p3
                           try clear p33
                           try clear p6
                           try clear q1
                           try clear q13
                           try clear q138
                           try clear q14
                           try clear q145
                           try clear q146
                           try clear q149
                           try clear q15
                           try clear q150
                           try clear q151
                           try clear q17
                           try clear q2
                           try clear q28
                           try clear q3
                           try clear q33
                           obtain ⟨kq, x90_47, rfl, HA, HJ47, HO_5, HO_6, HO_7, HO_11, HR146_0, HB⟩ := hcut; cases kq with
                           | zero => exact absurd HA.out (by simp [graph_tree.j5])
                           | succ kj47 =>
                            have H := HA.out; clear HA; simp only [graph_tree.j5] at H
                            by_cases c55 : x90_47 = true
                            ·subst c55; have H1 : (graph_tree.l4 kj47 a1 t127 x6_2 x7_4 t141 x12_4 x13_4 (rd t127 x13_4) x15_5 (rd_L2 t141 (rd t127 x13_4)) ((rd_L2 t141 (rd t127 x13_4)).length : Int) (wrap64 (x75_5 + 1))) = some r := by rw [if_pos rfl] at H; exact H
                             clear H; have H := H1; clear H1; have H' := Aside0.mk H
                             clear H; go_wp2
                             repeat (go_quiet (fail); try go_wp2)
                             go_roundg kj47
                             case measure => have := HK1.out; have := HK2.out; have := HK3.out; have := HK4.out; have := HK5.out; have := HJ47.out; omega
                             case rel => exact ⟨(x15_5), (wrap64 (x75_5 + 1)), (by first | rfl | (simp; done) | (simp [*]; done)), (by first | rfl | (simp; done) | (simp [*]; done)), H', ⟨by have := HK1.out; have := HK2.out; have := HK3.out; have := HK4.out; have := HK5.out; have := HJ47.out; omega⟩, ⟨by (try simp only [hl7_1]); (try simp only [hl7_3]); (try simp only [hl7_4]); (with_reducible repeat (first | apply Kd.R_alloc | apply Kd.R_drewN | apply Kd.R_drew)); exact HO_5.out⟩, ⟨by (try simp only [hl7_1]); (try simp only [hl7_3]); (try simp only [hl7_4]); (with_reducible repeat (first | apply Kd.R_alloc | apply Kd.R_drewN | apply Kd.R_drew)); exact HO_6.out⟩, ⟨by (try simp only [hl7_1]); (try simp only [hl7_3]); (try simp only [hl7_4]); (with_reducible repeat (first | apply Kd.R_alloc | apply Kd.R_drewN | apply Kd.R_drew)); exact HO_7.out⟩, ⟨by (try simp only [hl7_1]); (try simp only [hl7_3]); (try simp only [hl7_4]); (with_reducible repeat (first | apply Kd.S_alloc | apply Kd.S_drewN | apply Kd.S_drew)); exact HO_11.out⟩, ⟨by repeat (first | (with_reducible exact HR146_0.out) | with_reducible first | refine Kd.C_alloc ?_ _ | refine Kd.C_drewN ?_ _ | refine Kd.C_drew ?_ | exact HR146_0.out)⟩, ⟨by repeat (first | (with_reducible first | exact HB.out | apply below_alloc | apply pw_below_drewN | apply below_drew1) | exact HB.out)⟩⟩
                            ·replace c55 := Bool.eq_false_iff.mpr c55; subst c55; have H1 : (if x15_5 < 0 then (graph_tree.j6 kj47 a1 t127 x6_2 x7_4 t141 x12_4 x13_4 (rd t127 x13_4) (rd (rd_L2 t141 (rd t127 x13_4)) x75_5) (rd (rd_L2 t141 (rd t127 x13_4)) x75_5) (rd_L2 t141 (rd t127 x13_4)) ((rd_L2 t141 (rd t127 x13_4)).length : Int) x75_5) else (graph_tree.j6 kj47 a1 t127 x6_2 x7_4 t141 x12_4 x13_4 (rd t127 x13_4) x15_5 (rd (rd_L2 t141 (rd t127 x13_4)) x75_5) (rd_L2 t141 (rd t127 x13_4)) ((rd_L2 t141 (rd t127 x13_4)).length : Int) x75_5)) = some r := by rw [if_neg (show ¬ (false = true) by decide)] at H; exact H
                             clear H; have H := H1; clear H1; have HC56 := Aside0.mk H; clear H; go_upto_if 92 with (fail)
                             repeat (go_quiet (fail); go_upto_if 92 with (fail))
                             go_cut [15] (fun v15 wc => ∃ (kq : Nat) (x15_55 : Int), v15 = .int .i64 x15_55 ∧ Aside0 (graph_tree.j6 kq a1 t127 x6_2 x7_4 t141 x12_4 x13_4 (rd t127 x13_4) x15_55 (rd (rd_L2 t141 (rd t127 x13_4)) x75_5) (rd_L2 t141 (rd t127 x13_4)) ((rd_L2 t141 (rd t127 x13_4)).length : Int) x75_5 = some r) ∧ Aside0 (kq ≤ kj47) ∧ Aside0 (Kd.R (Kd.int .i64) 3 wc w.heap.size (fun k_ => some k_ ≠ (v131 : Value).ownBlock ∧ some k_ ≠ ((.slice (some ⟨go33, 0, none⟩) x7_4.length co11) : Value).ownBlock) (.slice (some ad145) t127.length co22) t127) ∧ Aside0 (Kd.R (Kd.int .i64) 3 wc w.heap.size (fun k_ => some k_ ≠ ((.slice (some ad145) t127.length co22) : Value).ownBlock ∧ some k_ ≠ ((.slice (some ⟨go33, 0, none⟩) x7_4.length co11) : Value).ownBlock) v131 x6_2) ∧ Aside0 (Kd.R (Kd.int .i64) 3 wc w.heap.size (fun k_ => some k_ ≠ ((.slice (some ad145) t127.length co22) : Value).ownBlock ∧ some k_ ≠ (v131 : Value).ownBlock) (.slice (some ⟨go33, 0, none⟩) x7_4.length co11) x7_4) ∧ Aside0 (Kd.S (Kd.slice 3 (Kd.int .i64)) 33 wc w.heap.size (fun k_ => some k_ ≠ ((.slice (some ad145) t127.length co22) : Value).ownBlock ∧ some k_ ≠ (v131 : Value).ownBlock ∧ some k_ ≠ ((.slice (some ⟨go33, 0, none⟩) x7_4.length co11) : Value).ownBlock) (.slice (some ad146) t141.length co44) t141) ∧ Aside0 (Kd.C (Kd.int .i64) wc (some ad149) (rd_L2 t141 (rd t127 x13_4)).length (rd_L2 t141 (rd t127 x13_4))) ∧ Aside0 (Below w.heap.size w wc))
                             case first =>
                              have H := HC56.out; clear HC56; by_cases c57 : x15_5 < 0
                              ·rw [if_pos c57] at H; have c57b0 : decide (x15_5 < 0) = true := decide_eq_true c57
                               clear c57; (first | rw [c57b0] | (simp only [i64_w, i32_w]; rw [c57b0]) | skip)
                               have H' := Aside0.mk H
                               clear H; go_wp2
                               repeat (go_quiet (fail); try go_wp2)
                               go_meet
                               case rel => exact ⟨_, ((rd (rd_L2 t141 (rd t127 x13_4)) x75_5)), (by first | rfl | (simp; done) | (simp [*]; done)), H', ⟨by have := HK1.out; have := HK2.out; have := HK3.out; have := HK4.out; have := HK5.out; have := HJ47.out; first | omega | exact Nat.le_refl _⟩, ⟨by (try simp only [hl7_1]); (try simp only [hl7_3]); (try simp only [hl7_4]); (with_reducible repeat (first | apply Kd.R_alloc | apply Kd.R_drewN | apply Kd.R_drew)); exact HO_5.out⟩, ⟨by (try simp only [hl7_1]); (try simp only [hl7_3]); (try simp only [hl7_4]); (with_reducible repeat (first | apply Kd.R_alloc | apply Kd.R_drewN | apply Kd.R_drew)); exact HO_6.out⟩, ⟨by (try simp only [hl7_1]); (try simp only [hl7_3]); (try simp only [hl7_4]); (with_reducible repeat (first | apply Kd.R_alloc | apply Kd.R_drewN | apply Kd.R_drew)); exact HO_7.out⟩, ⟨by (try simp only [hl7_1]); (try simp only [hl7_3]); (try simp only [hl7_4]); (with_reducible repeat (first | apply Kd.S_alloc | apply Kd.S_drewN | apply Kd.S_drew)); exact HO_11.out⟩, ⟨by repeat (first | (with_reducible exact HR146_0.out) | with_reducible first | refine Kd.C_alloc ?_ _ | refine Kd.C_drewN ?_ _ | refine Kd.C_drew ?_ | exact HR146_0.out)⟩, ⟨by repeat (first | (with_reducible first | exact HB.out | apply below_alloc | apply pw_below_drewN | apply below_drew1) | exact HB.out)⟩⟩
                              ·rw [if_neg c57] at H; have c57b0 : decide (x15_5 < 0) = false := decide_eq_false c57
                               clear c57; (first | rw [c57b0] | (simp only [i64_w, i32_w]; rw [c57b0]) | skip)
                               have H' := Aside0.mk H
                               clear H; go_wp2
                               repeat (go_quiet (fail); try go_wp2)
                               go_meet
                               case rel => exact ⟨_, (x15_5), (by first | rfl | (simp; done) | (simp [*]; done)), H', ⟨by have := HK1.out; have := HK2.out; have := HK3.out; have := HK4.out; have := HK5.out; have := HJ47.out; first | omega | exact Nat.le_refl _⟩, ⟨by (try simp only [hl7_1]); (try simp only [hl7_3]); (try simp only [hl7_4]); (with_reducible repeat (first | apply Kd.R_alloc | apply Kd.R_drewN | apply Kd.R_drew)); exact HO_5.out⟩, ⟨by (try simp only [hl7_1]); (try simp only [hl7_3]); (try simp only [hl7_4]); (with_reducible repeat (first | apply Kd.R_alloc | apply Kd.R_drewN | apply Kd.R_drew)); exact HO_6.out⟩, ⟨by (try simp only [hl7_1]); (try simp only [hl7_3]); (try simp only [hl7_4]); (with_reducible repeat (first | apply Kd.R_alloc | apply Kd.R_drewN | apply Kd.R_drew)); exact HO_7.out⟩, ⟨by (try simp only [hl7_1]); (try simp only [hl7_3]); (try simp only [hl7_4]); (with_reducible repeat (first | apply Kd.S_alloc | apply Kd.S_drewN | apply Kd.S_drew)); exact HO_11.out⟩, ⟨by repeat (first | (with_reducible exact HR146_0.out) | with_reducible first | refine Kd.C_alloc ?_ _ | refine Kd.C_drewN ?_ _ | refine Kd.C_drew ?_ | exact HR146_0.out)⟩, ⟨by repeat (first | (with_reducible first | exact HB.out | apply below_alloc | apply pw_below_drewN | apply below_drew1) | exact HB.out)⟩⟩
                             case rest =>
                              clear HC56; try clear c1
                              try clear p1
                              try clear q1
                              try clear hx1
                              try clear c2
                              try clear p2
                              try clear q2
                              try clear hx2
                              try clear hf2
                              try clear c3
                              try clear p3
                              try clear q3
                              try clear hx3
                              try clear hf3
                              try clear c4
                              try clear c4b0
                              try clear c4b1
                              try clear c5
                              try clear c5b0
                              try clear c5b1
                              try clear p6
                              try clear c12
                              try clear c12b0
                              try clear c13
                              try clear c13b0
                              try clear p13
                              try clear q13
                              try clear hx13
                              try clear c14
                              try clear c14b0
                              try clear p14
                              try clear q14
                              try clear hx14
                              try clear p15
                              try clear q15
                              try clear hx15
                              try clear hf15
                              try clear c16
                              try clear c16b0
                              try clear p17
                              try clear q17
                              try clear hx17
                              try clear hf17
                              try clear c23
                              try clear c23b0
                              try clear c24
                              try clear c24b0
                              try clear c25
                              try clear c25b0
                              try clear c26
                              try clear c26b0
                              try clear c27
                              try clear c27b0
                              try clear p28
                              try clear q28
                              try clear hx28
                              try clear hf28
                              try clear c31
                              try clear c31b0
                              try clear c32
                              try clear c32b0
                              try clear p33
                              try clear q33
                              try clear hx33
                              try clear hf33
                              try clear c38
                              try clear c39
                              try clear c39b0
                              try clear c40
                              try clear c40b0
                              try clear c41
                              try clear c41b0
                              try clear c42
                              try clear c42b0
                              try clear c43
                              try clear c43b0
                              try clear c45
                              try clear c45b0
                              try clear c46
                              try clear c46b0
                              try clear c47
                              try clear c47b0
                              try clear c49
                              try clear c49b0
                              try clear c50
                              try clear c50b0
                              try clear c51
                              try clear c51b0
                              try clear c53
                              try clear c53b0
                              try clear c55
                              try clear c57
                              try clear c57b0
                              try clear hx138_0
                              try clear hx145_0
                              try clear hx146_0
                              try clear hx149_0
                              try clear hx150_0
                              try clear hx151_0
                              try clear hx15_0
                              try clear hx17_0
                              try clear hx28_0
                              try clear hx33_0
                              try clear p1
                              try clear p13
                              try clear p138
                              try clear p14
                              try clear p145
                              try clear p146
                              try clear p149
                              try clear p15
                              try clear p150
                              try clear p151
                              try clear p17
                              try clear p2
                              try clear p28
                              try clear p3
                              try clear p33
                              try clear p6
                              try clear q1
                              try clear q13
                              try clear q138
                              try clear q14
                              try clear q145
                              try clear q146
                              try clear q149
                              try clear q15
                              try clear q150
                              try clear q151
                              try clear q17
                              try clear q2
                              try clear q28
                              try clear q3
                              try clear q33
                              obtain ⟨kq, x15_55, rfl, HA, HJ55, HO_5, HO_6, HO_7, HO_11, HR146_0, HB⟩ := hcut; cases kq with
                              | zero => exact absurd HA.out (by simp [graph_tree.j6])
                              | succ kj55 =>
                               have H := HA.out; clear HA; simp only [graph_tree.j6] at H
                               have H' := Aside0.mk H
                               clear H; go_wp2
                               repeat (go_quiet (fail); try go_wp2)
                               go_loopg [15, 17] kj55 (fun kq v15 v17 w' => ∃ (x15_8 : Int) (x17_8 : Int), v15 = .int .i64 x15_8 ∧ v17 = .int .i64 x17_8 ∧ Aside0 (graph_tree.l5 kq a1 t127 x6_2 x7_4 t141 x12_4 x13_4 (rd t127 x13_4) x15_8 x17_8 (rd_L2 t141 (rd t127 x13_4)) ((rd_L2 t141 (rd t127 x13_4)).length : Int) x75_5 = some r) ∧ Aside0 (kq ≤ kj55) ∧ Aside0 (Kd.R (Kd.int .i64) 3 w' w.heap.size (fun k_ => some k_ ≠ (v131 : Value).ownBlock ∧ some k_ ≠ ((.slice (some ⟨go33, 0, none⟩) x7_4.length co11) : Value).ownBlock) (.slice (some ad145) t127.length co22) t127) ∧ Aside0 (Kd.R (Kd.int .i64) 3 w' w.heap.size (fun k_ => some k_ ≠ ((.slice (some ad145) t127.length co22) : Value).ownBlock ∧ some k_ ≠ ((.slice (some ⟨go33, 0, none⟩) x7_4.length co11) : Value).ownBlock) v131 x6_2) ∧ Aside0 (Kd.R (Kd.int .i64) 3 w' w.heap.size (fun k_ => some k_ ≠ ((.slice (some ad145) t127.length co22) : Value).ownBlock ∧ some k_ ≠ (v131 : Value).ownBlock) (.slice (some ⟨go33, 0, none⟩) x7_4.length co11) x7_4) ∧ Aside0 (Kd.S (Kd.slice 3 (Kd.int .i64)) 33 w' w.heap.size (fun k_ => some k_ ≠ ((.slice (some ad145) t127.length co22) : Value).ownBlock ∧ some k_ ≠ (v131 : Value).ownBlock ∧ some k_ ≠ ((.slice (some ⟨go33, 0, none⟩) x7_4.length co11) : Value).ownBlock) (.slice (some ad146) t141.length co44) t141) ∧ Aside0 (Kd.C (Kd.int .i64) w' (some ad149) (rd_L2 t141 (rd t127 x13_4)).length (rd_L2 t141 (rd t127 x13_4))) ∧ Aside0 (Below w.heap.size w w'))
                               case atStart => exact ⟨(x15_55), ((rd (rd_L2 t141 (rd t127 x13_4)) x75_5)), (by first | rfl | (simp; done) | (simp [*]; done)), (by first | rfl | (simp; done) | (simp [*]; done)), H', ⟨Nat.le_refl _⟩, ⟨by (try simp only [hl7_1]); (try simp only [hl7_3]); (try simp only [hl7_4]); (with_reducible repeat (first | apply Kd.R_alloc | apply Kd.R_drewN | apply Kd.R_drew)); exact HO_5.out⟩, ⟨by (try simp only [hl7_1]); (try simp only [hl7_3]); (try simp only [hl7_4]); (with_reducible repeat (first | apply Kd.R_alloc | apply Kd.R_drewN | apply Kd.R_drew)); exact HO_6.out⟩, ⟨by (try simp only [hl7_1]); (try simp only [hl7_3]); (try simp only [hl7_4]); (with_reducible repeat (first | apply Kd.R_alloc | apply Kd.R_drewN | apply Kd.R_drew)); exact HO_7.out⟩, ⟨by (try simp only [hl7_1]); (try simp only [hl7_3]); (try simp only [hl7_4]); (with_reducible repeat (first | apply Kd.S_alloc | apply Kd.S_drewN | apply Kd.S_drew)); exact HO_11.out⟩, ⟨by repeat (first | (with_reducible exact HR146_0.out) | with_reducible first | refine Kd.C_alloc ?_ _ | refine Kd.C_drewN ?_ _ | refine Kd.C_drew ?_ | exact HR146_0.out)⟩, ⟨by repeat (first | (with_reducible first | exact HB.out | apply below_alloc | apply pw_below_drewN | apply below_drew1) | exact HB.out)⟩⟩
                               case round =>
                                clear H'; try clear c1
                                try clear p1
                                try clear q1
                                try clear hx1
                                try clear c2
                                try clear p2
                                try clear q2
                                try clear hx2
                                try clear hf2
                                try clear c3
                                try clear p3
                                try clear q3
                                try clear hx3
                                try clear hf3
                                try clear c4
                                try clear c4b0
                                try clear c4b1
                                try clear c5
                                try clear c5b0
                                try clear c5b1
                                try clear p6
                                try clear c12
                                try clear c12b0
                                try clear c13
                                try clear c13b0
                                try clear p13
                                try clear q13
                                try clear hx13
                                try clear c14
                                try clear c14b0
                                try clear p14
                                try clear q14
                                try clear hx14
                                try clear p15
                                try clear q15
                                try clear hx15
                                try clear hf15
                                try clear c16
                                try clear c16b0
                                try clear p17
                                try clear q17
                                try clear hx17
                                try clear hf17
                                try clear c23
                                try clear c23b0
                                try clear c24
                                try clear c24b0
                                try clear c25
                                try clear c25b0
                                try clear c26
                                try clear c26b0
                                try clear c27
                                try clear c27b0
                                try clear p28
                                try clear q28
                                try clear hx28
                                try clear hf28
                                try clear c31
                                try clear c31b0
                                try clear c32
                                try clear c32b0
                                try clear p33
                                try clear q33
                                try clear hx33
                                try clear hf33
                                try clear c38
                                try clear c39
                                try clear c39b0
                                try clear c40
                                try clear c40b0
                                try clear c41
                                try clear c41b0
                                try clear c42
                                try clear c42b0
                                try clear c43
                                try clear c43b0
                                try clear c45
                                try clear c45b0
                                try clear c46
                                try clear c46b0
                                try clear c47
                                try clear c47b0
                                try clear c49
                                try clear c49b0
                                try clear c50
                                try clear c50b0
                                try clear c51
                                try clear c51b0
                                try clear c53
                                try clear c53b0
                                try clear c55
                                try clear c57
                                try clear c57b0
                                try clear hx138_0
                                try clear hx145_0
                                try clear hx146_0
                                try clear hx149_0
                                try clear hx150_0
                                try clear hx151_0
                                try clear hx15_0
                                try clear hx17_0
                                try clear hx28_0
                                try clear hx33_0
                                try clear p1
                                try clear p13
                                try clear p138
                                try clear p14
                                try clear p145
                                try clear p146
                                try clear p149
                                try clear p15
                                try clear p150
                                try clear p151
                                try clear p17
                                try clear p2
                                try clear p28
                                try clear p3
                                try clear p33
                                try clear p6
                                try clear q1
                                try clear q13
                                try clear q138
                                try clear q14
                                try clear q145
                                try clear q146
                                try clear q149
                                try clear q15
                                try clear q150
                                try clear q151
                                try clear q17
                                try clear q2
                                try clear q28
                                try clear q3
                                try clear q33
                                obtain ⟨x15_8, x17_8, rfl, rfl, HA, HK8, HO_5, HO_6, HO_7, HO_11, HR146_0, HB⟩ := hrel; cases gk with
                                | zero => exact absurd HA.out (by simp [graph_tree.l5])
                                | succ k8 =>
                                 have H := HA.out; clear HA; simp only [graph_tree.l5] at H
                                 by_cases c58 : x15_8 = x17_8
                                 ·rw [if_pos c58] at H; have c58b0 : (x15_8 == x17_8) = true := beq_iff_eq.mpr c58
                                  have c58b1 : (x15_8 != x17_8) = false := bne_eq_false_iff_eq.mpr c58
                                  clear c58; have H' := Aside0.mk H
                                  clear H; go_wp2
                                  repeat (go_quiet (fail); try go_wp2)
                                  go_roundg k8
                                  case measure => have := HK1.out; have := HK2.out; have := HK3.out; have := HK4.out; have := HK5.out; have := HJ47.out; have := HJ55.out; have := HK8.out; omega
                                  case rel => exact ⟨(x15_8), (wrap64 (x75_5 + 1)), (by first | rfl | (simp; done) | (simp [*]; done)), (by first | rfl | (simp; done) | (simp [*]; done)), H', ⟨by have := HK1.out; have := HK2.out; have := HK3.out; have := HK4.out; have := HK5.out; have := HJ47.out; have := HJ55.out; have := HK8.out; omega⟩, ⟨by (try simp only [hl7_1]); (try simp only [hl7_3]); (try simp only [hl7_4]); (with_reducible repeat (first | apply Kd.R_alloc | apply Kd.R_drewN | apply Kd.R_drew)); exact HO_5.out⟩, ⟨by (try simp only [hl7_1]); (try simp only [hl7_3]); (try simp only [hl7_4]); (with_reducible repeat (first | apply Kd.R_alloc | apply Kd.R_drewN | apply Kd.R_drew)); exact HO_6.out⟩, ⟨by (try simp only [hl7_1]); (try simp only [hl7_3]); (try simp only [hl7_4]); (with_reducible repeat (first | apply Kd.R_alloc | apply Kd.R_drewN | apply Kd.R_drew)); exact HO_7.out⟩, ⟨by (try simp only [hl7_1]); (try simp only [hl7_3]); (try simp only [hl7_4]); (with_reducible repeat (first | apply Kd.S_alloc | apply Kd.S_drewN | apply Kd.S_drew)); exact HO_11.out⟩, ⟨by repeat (first | (with_reducible exact HR146_0.out) | with_reducible first | refine Kd.C_alloc ?_ _ | refine Kd.C_drewN ?_ _ | refine Kd.C_drew ?_ | exact HR146_0.out)⟩, ⟨by repeat (first | (with_reducible first | exact HB.out | apply below_alloc | apply pw_below_drewN | apply below_drew1) | exact HB.out)⟩⟩
                                 ·rw [if_neg c58] at H; have c58b0 : (x15_8 == x17_8) = false := beq_eq_false_iff_ne.mpr c58
                                  have c58b1 : (x15_8 != x17_8) = true := bne_iff_ne.mpr c58
                                  have H' := Aside0.mk H
                                  clear H; go_wp2
                                  repeat (go_quiet (fail); try go_wp2)
                                  go_loopg [17] k8 (fun kq v17 w' => ∃ (x17_9 : Int), v17 = .int .i64 x17_9 ∧ Aside0 (graph_tree.l6 kq a1 t127 x6_2 x7_4 t141 x12_4 x13_4 (rd t127 x13_4) x15_8 x17_9 (rd_L2 t141 (rd t127 x13_4)) ((rd_L2 t141 (rd t127 x13_4)).length : Int) x75_5 = some r) ∧ Aside0 (kq ≤ k8) ∧ Aside0 (Kd.R (Kd.int .i64) 3 w' w.heap.size (fun k_ => some k_ ≠ (v131 : Value).ownBlock ∧ some k_ ≠ ((.slice (some ⟨go33, 0, none⟩) x7_4.length co11) : Value).ownBlock) (.slice (some ad145) t127.length co22) t127) ∧ Aside0 (Kd.R (Kd.int .i64) 3 w' w.heap.size (fun k_ => some k_ ≠ ((.slice (some ad145) t127.length co22) : Value).ownBlock ∧ some k_ ≠ ((.slice (some ⟨go33, 0, none⟩) x7_4.length co11) : Value).ownBlock) v131 x6_2) ∧ Aside0 (Kd.R (Kd.int .i64) 3 w' w.heap.size (fun k_ => some k_ ≠ ((.slice (some ad145) t127.length co22) : Value).ownBlock ∧ some k_ ≠ (v131 : Value).ownBlock) (.slice (some ⟨go33, 0, none⟩) x7_4.length co11) x7_4) ∧ Aside0 (Kd.S (Kd.slice 3 (Kd.int .i64)) 33 w' w.heap.size (fun k_ => some k_ ≠ ((.slice (some ad145) t127.length co22) : Value).ownBlock ∧ some k_ ≠ (v131 : Value).ownBlock ∧ some k_ ≠ ((.slice (some ⟨go33, 0, none⟩) x7_4.length co11) : Value).ownBlock) (.slice (some ad146) t141.length co44) t141) ∧ Aside0 (Kd.C (Kd.int .i64) w' (some ad149) (rd_L2 t141 (rd t127 x13_4)).length (rd_L2 t141 (rd t127 x13_4))) ∧ Aside0 (Below w.heap.size w w'))
                                  case atStart => exact ⟨(x17_8), (by first | rfl | (simp; done) | (simp [*]; done)), H', ⟨Nat.le_refl _⟩, ⟨by (try simp only [hl7_1]); (try simp only [hl7_3]); (try simp only [hl7_4]); (with_reducible repeat (first | apply Kd.R_alloc | apply Kd.R_drewN | apply Kd.R_drew)); exact HO_5.out⟩, ⟨by (try simp only [hl7_1]); (try simp only [hl7_3]); (try simp only [hl7_4]); (with_reducible repeat (first | apply Kd.R_alloc | apply Kd.R_drewN | apply Kd.R_drew)); exact HO_6.out⟩, ⟨by (try simp only [hl7_1]); (try simp only [hl7_3]); (try simp only [hl7_4]); (with_reducible repeat (first | apply Kd.R_alloc | apply Kd.R_drewN | apply Kd.R_drew)); exact HO_7.out⟩, ⟨by (try simp only [hl7_1]); (try simp only [hl7_3]); (try simp only [hl7_4]); (with_reducible repeat (first | apply Kd.S_alloc | apply Kd.S_drewN | apply Kd.S_drew)); exact HO_11.out⟩, ⟨by repeat (first | (with_reducible exact HR146_0.out) | with_reducible first | refine Kd.C_alloc ?_ _ | refine Kd.C_drewN ?_ _ | refine Kd.C_drew ?_ | exact HR146_0.out)⟩, ⟨by repeat (first | (with_reducible first | exact HB.out | apply below_alloc | apply pw_below_drewN | apply below_drew1) | exact HB.out)⟩⟩
                                  case round =>
                                   clear H'; try clear c1
                                   try clear p1
                                   try clear q1
                                   try clear hx1
                                   try clear c2
                                   try clear p2
                                   try clear q2
                                   try clear hx2
                                   try clear hf2
                                   try clear c3
                                   try clear p3
                                   try clear q3
                                   try clear hx3
                                   try clear hf3
                                   try clear c4
                                   try clear c4b0
                                   try clear c4b1
                                   try clear c5
                                   try clear c5b0
                                   try clear c5b1
                                   try clear p6
                                   try clear c12
                                   try clear c12b0
                                   try clear c13
                                   try clear c13b0
                                   try clear p13
                                   try clear q13
                                   try clear hx13
                                   try clear c14
                                   try clear c14b0
                                   try clear p14
                                   try clear q14
                                   try clear hx14
                                   try clear p15
                                   try clear q15
                                   try clear hx15
                                   try clear hf15
                                   try clear c16
                                   try clear c16b0
                                   try clear p17
                                   try clear q17
                                   try clear hx17
                                   try clear hf17
                                   try clear c23
                                   try clear c23b0
                                   try clear c24
                                   try clear c24b0
                                   try clear c25
                                   try clear c25b0
                                   try clear c26
                                   try clear c26b0
                                   try clear c27
                                   try clear c27b0
                                   try clear p28
                                   try clear q28
                                   try clear hx28
                                   try clear hf28
                                   try clear c31
                                   try clear c31b0
                                   try clear c32
                                   try clear c32b0
                                   try clear p33
                                   try clear q33
                                   try clear hx33
                                   try clear hf33
                                   try clear c38
                                   try clear c39
                                   try clear c39b0
                                   try clear c40
                                   try clear c40b0
                                   try clear c41
                                   try clear c41b0
                                   try clear c42
                                   try clear c42b0
                                   try clear c43
                                   try clear c43b0
                                   try clear c45
                                   try clear c45b0
                                   try clear c46
                                   try clear c46b0
                                   try clear c47
                                   try clear c47b0
                                   try clear c49
                                   try clear c49b0
                                   try clear c50
                                   try clear c50b0
                                   try clear c51
                                   try clear c51b0
                                   try clear c53
                                   try clear c53b0
                                   try clear c55
                                   try clear c57
                                   try clear c57b0
                                   try clear c58
                                   try clear c58b0
                                   try clear c58b1
                                   try clear hx138_0
                                   try clear hx145_0
                                   try clear hx146_0
                                   try clear hx149_0
                                   try clear hx150_0
                                   try clear hx151_0
                                   try clear hx15_0
                                   try clear hx17_0
                                   try clear hx28_0
                                   try clear hx33_0
                                   try clear p1
                                   try clear p13
                                   try clear p138
                                   try clear p14
                                   try clear p145
                                   try clear p146
                                   try clear p149
                                   try clear p15
                                   try clear p150
                                   try clear p151
                                   try clear p17
                                   try clear p2
                                   try clear p28
                                   try clear p3
                                   try clear p33
                                   try clear p6
                                   try clear q1
                                   try clear q13
                                   try clear q138
                                   try clear q14
                                   try clear q145
                                   try clear q146
                                   try clear q149
                                   try clear q15
                                   try clear q150
                                   try clear q151
                                   try clear q17
                                   try clear q2
                                   try clear q28
                                   try clear q3
                                   try clear q33
                                   obtain ⟨x17_9, rfl, HA, HK9, HO_5, HO_6, HO_7, HO_11, HR146_0, HB⟩ := hrel; cases gk with
                                   | zero => exact absurd HA.out (by simp [graph_tree.l6])
                                   | succ k9 =>
                                    have H := HA.out; clear HA; simp only [graph_tree.l6] at H
                                    by_cases c59 : 0 ≤ x17_9
                                    ·rw [if_pos c59] at H; have c59b0 : decide (0 ≤ x17_9) = true := decide_eq_true c59
                                     clear c59; by_cases c60 : x17_9 < (x6_2.length : Int)
                                     ·rw [if_pos c60] at H; have c60b0 : decide (x17_9 < (x6_2.length : Int)) = true := decide_eq_true c60
                                      clear c60; by_cases c61 : 0 ≤ x15_8
                                      ·rw [if_pos c61] at H; have c61b0 : decide (0 ≤ x15_8) = true := decide_eq_true c61
                                       clear c61; by_cases c62 : x15_8 < (x6_2.length : Int)
                                       ·rw [if_pos c62] at H; have c62b0 : decide (x15_8 < (x6_2.length : Int)) = true := decide_eq_true c62
                                        clear c62; by_cases c63 : (rd x6_2 x17_9) < (rd x6_2 x15_8)
                                        ·rw [if_pos c63] at H; have c63b0 : decide ((rd x6_2 x17_9) < (rd x6_2 x15_8)) = true := decide_eq_true c63
                                         clear c63; by_cases c64 : x17_9 < (x7_4.length : Int)
                                         ·rw [if_pos c64] at H; have c64b0 : decide (x17_9 < (x7_4.length : Int)) = true := decide_eq_true c64
                                          clear c64; have H' := Aside0.mk H
                                          clear H; obtain ⟨Ao65, co65, eo65⟩ := Kd.R_slice HO_6.out; subst eo65; have p152 : 0 ≤ (x17_9 : Int) := of_decide_eq_true (by with_reducible assumption)
                                          have q152 : x17_9 < (x6_2.length : Int) := of_decide_eq_true (by with_reducible assumption)
                                          obtain ⟨ad152, e152, hx152_0⟩ := Kd.at_int (Kd.R_reads' HO_6.out).2.2 x17_9 p152 q152; cases e152; replace p152 := eq_true p152; replace q152 := eq_true q152; have p153 : 0 ≤ (x15_8 : Int) := of_decide_eq_true (by with_reducible assumption)
                                          have q153 : x15_8 < (x6_2.length : Int) := of_decide_eq_true (by with_reducible assumption)
                                          obtain ⟨ad153, e153, hx153_0⟩ := Kd.at_int (Kd.R_reads' HO_6.out).2.2 x15_8 p153 q153; obtain rfl : ad152 = ad153 := (by injection e153)
                                          replace p153 := eq_true p153; replace q153 := eq_true q153; have p154 : 0 ≤ (x17_9 : Int) := of_decide_eq_true (by with_reducible assumption)
                                          have q154 : x17_9 < (x7_4.length : Int) := of_decide_eq_true (by with_reducible assumption)
                                          obtain ⟨ad154, e154, hx154_0⟩ := Kd.at_int (Kd.R_reads' HO_7.out).2.2 x17_9 p154 q154; obtain rfl : (⟨go33, 0, none⟩ : Addr) = ad154 := (by injection e154)
                                          (first | simp only [add_plain] at hx154_0 | simp only [add_at] at hx154_0 | simp only [Addr.add, Nat.zero_add] at hx154_0 | skip)
                                          replace p154 := eq_true p154; replace q154 := eq_true q154; go_wp2
                                          repeat (go_quiet (fail); try go_wp2)
                                          go_roundg k9
                                          case measure => have := HK1.out; have := HK2.out; have := HK3.out; have := HK4.out; have := HK5.out; have := HJ47.out; have := HJ55.out; have := HK8.out; have := HK9.out; omega
                                          case rel => exact ⟨(rd x7_4 x17_9), (by first | rfl | (simp; done) | (simp [*]; done)), H', ⟨by have := HK1.out; have := HK2.out; have := HK3.out; have := HK4.out; have := HK5.out; have := HJ47.out; have := HJ55.out; have := HK8.out; have := HK9.out; omega⟩, ⟨by (try simp only [hl7_1]); (try simp only [hl7_3]); (try simp only [hl7_4]); (with_reducible repeat (first | apply Kd.R_alloc | apply Kd.R_drewN | apply Kd.R_drew)); exact HO_5.out⟩, ⟨by (try simp only [hl7_1]); (try simp only [hl7_3]); (try simp only [hl7_4]); (with_reducible repeat (first | apply Kd.R_alloc | apply Kd.R_drewN | apply Kd.R_drew)); exact HO_6.out⟩, ⟨by (try simp only [hl7_1]); (try simp only [hl7_3]); (try simp only [hl7_4]); (with_reducible repeat (first | apply Kd.R_alloc | apply Kd.R_drewN | apply Kd.R_drew)); exact HO_7.out⟩, ⟨by (try simp only [hl7_1]); (try simp only [hl7_3]); (try simp only [hl7_4]); (with_reducible repeat (first | apply Kd.S_alloc | apply Kd.S_drewN | apply Kd.S_drew)); exact HO_11.out⟩, ⟨by repeat (first | (with_reducible exact HR146_0.out) | with_reducible first | refine Kd.C_alloc ?_ _ | refine Kd.C_drewN ?_ _ | refine Kd.C_drew ?_ | exact HR146_0.out)⟩, ⟨by repeat (first | (with_reducible first | exact HB.out | apply below_alloc | apply pw_below_drewN | apply below_drew1) | exact HB.out)⟩⟩
                                         ·rw [if_neg c64] at H; exact absurd H (by simp)
                                        ·rw [if_neg c63] at H; have c63b0 : decide ((rd x6_2 x17_9) < (rd x6_2 x15_8)) = false := decide_eq_false c63
                                         clear c63; have H' := Aside0.mk H
                                         clear H; obtain ⟨Ao66, co66, eo66⟩ := Kd.R_slice HO_6.out; subst eo66; have p152 : 0 ≤ (x17_9 : Int) := of_decide_eq_true (by with_reducible assumption)
                                         have q152 : x17_9 < (x6_2.length : Int) := of_decide_eq_true (by with_reducible assumption)
                                         obtain ⟨ad152, e152, hx152_0⟩ := Kd.at_int (Kd.R_reads' HO_6.out).2.2 x17_9 p152 q152; cases e152; replace p152 := eq_true p152; replace q152 := eq_true q152; have p153 : 0 ≤ (x15_8 : Int) := of_decide_eq_true (by with_reducible assumption)
                                         have q153 : x15_8 < (x6_2.length : Int) := of_decide_eq_true (by with_reducible assumption)
                                         obtain ⟨ad153, e153, hx153_0⟩ := Kd.at_int (Kd.R_reads' HO_6.out).2.2 x15_8 p153 q153; obtain rfl : ad152 = ad153 := (by injection e153)
                                         replace p153 := eq_true p153; replace q153 := eq_true q153; go_wp2
                                         repeat (go_quiet (fail); try go_wp2)
                                         go_loopg [15] k9 (fun kq v15 w' => ∃ (x15_10 : Int), v15 = .int .i64 x15_10 ∧ Aside0 (graph_tree.l7 kq a1 t127 x6_2 x7_4 t141 x12_4 x13_4 (rd t127 x13_4) x15_10 x17_9 (rd_L2 t141 (rd t127 x13_4)) ((rd_L2 t141 (rd t127 x13_4)).length : Int) x75_5 = some r) ∧ Aside0 (kq ≤ k9) ∧ Aside0 (Kd.R (Kd.int .i64) 3 w' w.heap.size (fun k_ => some k_ ≠ ((.slice (some ad152) x6_2.length co66) : Value).ownBlock ∧ some k_ ≠ ((.slice (some ⟨go33, 0, none⟩) x7_4.length co11) : Value).ownBlock) (.slice (some ad145) t127.length co22) t127) ∧ Aside0 (Kd.R (Kd.int .i64) 3 w' w.heap.size (fun k_ => some k_ ≠ ((.slice (some ad145) t127.length co22) : Value).ownBlock ∧ some k_ ≠ ((.slice (some ⟨go33, 0, none⟩) x7_4.length co11) : Value).ownBlock) (.slice (some ad152) x6_2.length co66) x6_2) ∧ Aside0 (Kd.R (Kd.int .i64) 3 w' w.heap.size (fun k_ => some k_ ≠ ((.slice (some ad145) t127.length co22) : Value).ownBlock ∧ some k_ ≠ ((.slice (some ad152) x6_2.length co66) : Value).ownBlock) (.slice (some ⟨go33, 0, none⟩) x7_4.length co11) x7_4) ∧ Aside0 (Kd.S (Kd.slice 3 (Kd.int .i64)) 33 w' w.heap.size (fun k_ => some k_ ≠ ((.slice (some ad145) t127.length co22) : Value).ownBlock ∧ some k_ ≠ ((.slice (some ad152) x6_2.length co66) : Value).ownBlock ∧ some k_ ≠ ((.slice (some ⟨go33, 0, none⟩) x7_4.length co11) : Value).ownBlock) (.slice (some ad146) t141.length co44) t141) ∧ Aside0 (Kd.C (Kd.int .i64) w' (some ad149) (rd_L2 t141 (rd t127 x13_4)).length (rd_L2 t141 (rd t127 x13_4))) ∧ Aside0 (Below w.heap.size w w'))
                                         case atStart => exact ⟨(x15_8), (by first | rfl | (simp; done) | (simp [*]; done)), H', ⟨Nat.le_refl _⟩, ⟨by (try simp only [hl7_1]); (try simp only [hl7_3]); (try simp only [hl7_4]); (with_reducible repeat (first | apply Kd.R_alloc | apply Kd.R_drewN | apply Kd.R_drew)); exact HO_5.out⟩, ⟨by (try simp only [hl7_1]); (try simp only [hl7_3]); (try simp only [hl7_4]); (with_reducible repeat (first | apply Kd.R_alloc | apply Kd.R_drewN | apply Kd.R_drew)); exact HO_6.out⟩, ⟨by (try simp only [hl7_1]); (try simp only [hl7_3]); (try simp only [hl7_4]); (with_reducible repeat (first | apply Kd.R_alloc | apply Kd.R_drewN | apply Kd.R_drew)); exact HO_7.out⟩, ⟨by (try simp only [hl7_1]); (try simp only [hl7_3]); (try simp only [hl7_4]); (with_reducible repeat (first | apply Kd.S_alloc | apply Kd.S_drewN | apply Kd.S_drew)); exact HO_11.out⟩, ⟨by repeat (first | (with_reducible exact HR146_0.out) | with_reducible first | refine Kd.C_alloc ?_ _ | refine Kd.C_drewN ?_ _ | refine Kd.C_drew ?_ | exact HR146_0.out)⟩, ⟨by repeat (first | (with_reducible first | exact HB.out | apply below_alloc | apply pw_below_drewN | apply below_drew1) | exact HB.out)⟩⟩
                                         case round =>
                                          clear H'; try clear c1
                                          try clear p1
                                          try clear q1
                                          try clear hx1
                                          try clear c2
                                          try clear p2
                                          try clear q2
                                          try clear hx2
                                          try clear hf2
                                          try clear c3
                                          try clear p3
                                          try clear q3
                                          try clear hx3
                                          try clear hf3
                                          try clear c4
                                          try clear c4b0
                                          try clear c4b1
                                          try clear c5
                                          try clear c5b0
                                          try clear c5b1
                                          try clear c6
                                          try clear p6
                                          try clear c12
                                          try clear c12b0
                                          try clear c13
                                          try clear c13b0
                                          try clear p13
                                          try clear q13
                                          try clear hx13
                                          try clear c14
                                          try clear c14b0
                                          try clear p14
                                          try clear q14
                                          try clear hx14
                                          try clear p15
                                          try clear q15
                                          try clear hx15
                                          try clear hf15
                                          try clear c16
                                          try clear c16b0
                                          try clear p17
                                          try clear q17
                                          try clear hx17
                                          try clear hf17
                                          try clear c23
                                          try clear c23b0
                                          try clear c24
                                          try clear c24b0
                                          try clear c25
                                          try clear c25b0
                                          try clear c26
                                          try clear c26b0
                                          try clear c27
                                          try clear c27b0
                                          try clear p28
                                          try clear q28
                                          try clear hx28
                                          try clear hf28
                                          try clear c31
                                          try clear c31b0
                                          try clear c32
                                          try clear c32b0
                                          try clear p33
                                          try clear q33
                                          try clear hx33
                                          try clear hf33
                                          try clear c38
                                          try clear c39
                                          try clear c39b0
                                          try clear c40
                                          try clear c40b0
                                          try clear c41
                                          try clear c41b0
                                          try clear c42
                                          try clear c42b0
                                          try clear c43
                                          try clear c43b0
                                          try clear c45
                                          try clear c45b0
                                          try clear c46
                                          try clear c46b0
                                          try clear c47
                                          try clear c47b0
                                          try clear c49
                                          try clear c49b0
                                          try clear c50
                                          try clear c50b0
                                          try clear c51
                                          try clear c51b0
                                          try clear c53
                                          try clear c53b0
                                          try clear c55
                                          try clear c57
                                          try clear c57b0
                                          try clear c58
                                          try clear c58b0
                                          try clear c58b1
                                          try clear c59
                                          try clear c59b0
                                          try clear c60
                                          try clear c60b0
                                          try clear c61
                                          try clear c61b0
                                          try clear c62
                                          try clear c62b0
                                          try clear c63
                                          try clear c63b0
                                          try clear c64
                                          try clear c64b0
                                          try clear p64
                                          try clear hx138_0
                                          try clear hx145_0
                                          try clear hx146_0
                                          try clear hx149_0
                                          try clear hx150_0
                                          try clear hx151_0
                                          try clear hx152_0
                                          try clear hx153_0
                                          try clear hx154_0
                                          try clear hx15_0
                                          try clear hx17_0
                                          try clear hx28_0
                                          try clear hx33_0
                                          try clear p1
                                          try clear p13
                                          try clear p138
                                          try clear p14
                                          try clear p145
                                          try clear p146
                                          try clear p149
                                          try clear p15
                                          try clear p150
                                          try clear p151
                                          try clear p152
                                          try clear p153
                                          try clear p154
                                          try clear p17
                                          try clear p2
                                          try clear p28
                                          try clear p3
                                          try clear p33
                                          try clear p6
                                          try clear q1
                                          try clear q13
                                          try clear q138
                                          try clear q14
                                          try clear q145
                                          try clear q146
                                          try clear q149
                                          try clear q15
                                          try clear q150
                                          try clear q151
                                          try clear q152
                                          try clear q153
                                          try clear q154
                                          try clear q17
                                          try clear q2
                                          try clear q28
                                          try clear q3
                                          try clear q33
                                          obtain ⟨x15_10, rfl, HA, HK10, HO_5, HO_6, HO_7, HO_11, HR146_0, HB⟩ := hrel; cases gk with
                                          | zero => exact absurd HA.out (by simp [graph_tree.l7])
                                          | succ k10 =>
                                           have H := HA.out; clear HA; simp only [graph_tree.l7] at H
                                           by_cases c67 : 0 ≤ x15_10
                                           ·rw [if_pos c67] at H; have c67b0 : decide (0 ≤ x15_10) = true := decide_eq_true c67
                                            clear c67; by_cases c68 : x15_10 < (x6_2.length : Int)
                                            ·rw [if_pos c68] at H; have c68b0 : decide (x15_10 < (x6_2.length : Int)) = true := decide_eq_true c68
                                             clear c68; by_cases c69 : 0 ≤ x17_9
                                             ·rw [if_pos c69] at H; have c69b0 : decide (0 ≤ x17_9) = true := decide_eq_true c69
                                              clear c69; by_cases c70 : x17_9 < (x6_2.length : Int)
                                              ·rw [if_pos c70] at H; have c70b0 : decide (x17_9 < (x6_2.length : Int)) = true := decide_eq_true c70
                                               clear c70; by_cases c71 : (rd x6_2 x15_10) < (rd x6_2 x17_9)
                                               ·rw [if_pos c71] at H; have c71b0 : decide ((rd x6_2 x15_10) < (rd x6_2 x17_9)) = true := decide_eq_true c71
                                                clear c71; by_cases c72 : x15_10 < (x7_4.length : Int)
                                                ·rw [if_pos c72] at H; have c72b0 : decide (x15_10 < (x7_4.length : Int)) = true := decide_eq_true c72
                                                 clear c72; have H' := Aside0.mk H
                                                 clear H; have p155 : 0 ≤ (x15_10 : Int) := of_decide_eq_true (by with_reducible assumption)
                                                 have q155 : x15_10 < (x6_2.length : Int) := of_decide_eq_true (by with_reducible assumption)
                                                 obtain ⟨ad155, e155, hx155_0⟩ := Kd.at_int (Kd.R_reads' HO_6.out).2.2 x15_10 p155 q155; obtain rfl : ad152 = ad155 := (by injection e155)
                                                 replace p155 := eq_true p155; replace q155 := eq_true q155; have p156 : 0 ≤ (x17_9 : Int) := of_decide_eq_true (by with_reducible assumption)
                                                 have q156 : x17_9 < (x6_2.length : Int) := of_decide_eq_true (by with_reducible assumption)
                                                 obtain ⟨ad156, e156, hx156_0⟩ := Kd.at_int (Kd.R_reads' HO_6.out).2.2 x17_9 p156 q156; obtain rfl : ad152 = ad156 := (by injection e156)
                                                 replace p156 := eq_true p156; replace q156 := eq_true q156; have p157 : 0 ≤ (x15_10 : Int) := of_decide_eq_true (by with_reducible assumption)
                                                 have q157 : x15_10 < (x7_4.length : Int) := of_decide_eq_true (by with_reducible assumption)
                                                 obtain ⟨ad157, e157, hx157_0⟩ := Kd.at_int (Kd.R_reads' HO_7.out).2.2 x15_10 p157 q157; obtain rfl : (⟨go33, 0, none⟩ : Addr) = ad157 := (by injection e157)
                                                 (first | simp only [add_plain] at hx157_0 | simp only [add_at] at hx157_0 | simp only [Addr.add, Nat.zero_add] at hx157_0 | skip)
                                                 replace p157 := eq_true p157; replace q157 := eq_true q157; go_wp2
                                                 repeat (go_quiet (fail); try go_wp2)
                                                 go_roundg k10
                                                 case measure => have := HK1.out; have := HK2.out; have := HK3.out; have := HK4.out; have := HK5.out; have := HJ47.out; have := HJ55.out; have := HK8.out; have := HK9.out; have := HK10.out; omega
                                                 case rel => exact ⟨(rd x7_4 x15_10), (by first | rfl | (simp; done) | (simp [*]; done)), H', ⟨by have := HK1.out; have := HK2.out; have := HK3.out; have := HK4.out; have := HK5.out; have := HJ47.out; have := HJ55.out; have := HK8.out; have := HK9.out; have := HK10.out; omega⟩, ⟨by (try simp only [hl7_1]); (try simp only [hl7_3]); (try simp only [hl7_4]); (with_reducible repeat (first | apply Kd.R_alloc | apply Kd.R_drewN | apply Kd.R_drew)); exact HO_5.out⟩, ⟨by (try simp only [hl7_1]); (try simp only [hl7_3]); (try simp only [hl7_4]); (with_reducible repeat (first | apply Kd.R_alloc | apply Kd.R_drewN | apply Kd.R_drew)); exact HO_6.out⟩, ⟨by (try simp only [hl7_1]); (try simp only [hl7_3]); (try simp only [hl7_4]); (with_reducible repeat (first | apply Kd.R_alloc | apply Kd.R_drewN | apply Kd.R_drew)); exact HO_7.out⟩, ⟨by (try simp only [hl7_1]); (try simp only [hl7_3]); (try simp only [hl7_4]); (with_reducible repeat (first | apply Kd.S_alloc | apply Kd.S_drewN | apply Kd.S_drew)); exact HO_11.out⟩, ⟨by repeat (first | (with_reducible exact HR146_0.out) | with_reducible first | refine Kd.C_alloc ?_ _ | refine Kd.C_drewN ?_ _ | refine Kd.C_drew ?_ | exact HR146_0.out)⟩, ⟨by repeat (first | (with_reducible first | exact HB.out | apply below_alloc | apply pw_below_drewN | apply below_drew1) | exact HB.out)⟩⟩
                                                ·rw [if_neg c72] at H; exact absurd H (by simp)
                                               ·rw [if_neg c71] at H; have c71b0 : decide ((rd x6_2 x15_10) < (rd x6_2 x17_9)) = false := decide_eq_false c71
                                                clear c71; have H' := Aside0.mk H
                                                clear H; have p155 : 0 ≤ (x15_10 : Int) := of_decide_eq_true (by with_reducible assumption)
                                                have q155 : x15_10 < (x6_2.length : Int) := of_decide_eq_true (by with_reducible assumption)
                                                obtain ⟨ad155, e155, hx155_0⟩ := Kd.at_int (Kd.R_reads' HO_6.out).2.2 x15_10 p155 q155; obtain rfl : ad152 = ad155 := (by injection e155)
                                                replace p155 := eq_true p155; replace q155 := eq_true q155; have p156 : 0 ≤ (x17_9 : Int) := of_decide_eq_true (by with_reducible assumption)
                                                have q156 : x17_9 < (x6_2.length : Int) := of_decide_eq_true (by with_reducible assumption)
                                                obtain ⟨ad156, e156, hx156_0⟩ := Kd.at_int (Kd.R_reads' HO_6.out).2.2 x17_9 p156 q156; obtain rfl : ad152 = ad156 := (by injection e156)
                                                replace p156 := eq_true p156; replace q156 := eq_true q156; go_wp2
                                                repeat (go_quiet (fail); try go_wp2)
                                                go_roundg k10
                                                case measure => have := HK1.out; have := HK2.out; have := HK3.out; have := HK4.out; have := HK5.out; have := HJ47.out; have := HJ55.out; have := HK8.out; have := HK9.out; have := HK10.out; omega
                                                case rel => exact ⟨(x15_10), (x17_9), (by first | rfl | (simp; done) | (simp [*]; done)), (by first | rfl | (simp; done) | (simp [*]; done)), H', ⟨by have := HK1.out; have := HK2.out; have := HK3.out; have := HK4.out; have := HK5.out; have := HJ47.out; have := HJ55.out; have := HK8.out; have := HK9.out; have := HK10.out; omega⟩, ⟨by (try simp only [hl7_1]); (try simp only [hl7_3]); (try simp only [hl7_4]); (with_reducible repeat (first | apply Kd.R_alloc | apply Kd.R_drewN | apply Kd.R_drew)); exact HO_5.out⟩, ⟨by (try simp only [hl7_1]); (try simp only [hl7_3]); (try simp only [hl7_4]); (with_reducible repeat (first | apply Kd.R_alloc | apply Kd.R_drewN | apply Kd.R_drew)); exact HO_6.out⟩, ⟨by (try simp only [hl7_1]); (try simp only [hl7_3]); (try simp only [hl7_4]); (with_reducible repeat (first | apply Kd.R_alloc | apply Kd.R_drewN | apply Kd.R_drew)); exact HO_7.out⟩, ⟨by (try simp only [hl7_1]); (try simp only [hl7_3]); (try simp only [hl7_4]); (with_reducible repeat (first | apply Kd.S_alloc | apply Kd.S_drewN | apply Kd.S_drew)); exact HO_11.out⟩, ⟨by repeat (first | (with_reducible exact HR146_0.out) | with_reducible first | refine Kd.C_alloc ?_ _ | refine Kd.C_drewN ?_ _ | refine Kd.C_drew ?_ | exact HR146_0.out)⟩, ⟨by repeat (first | (with_reducible first | exact HB.out | apply below_alloc | apply pw_below_drewN | apply below_drew1) | exact HB.out)⟩⟩
                                              ·rw [if_neg c70] at H; exact absurd H (by simp)
                                             ·rw [if_neg c69] at H; exact absurd H (by simp)
                                            ·rw [if_neg c68] at H; exact absurd H (by simp)
                                           ·rw [if_neg c67] at H; exact absurd H (by simp)
                                       ·rw [if_neg c62] at H; exact absurd H (by simp)
                                      ·rw [if_neg c61] at H; exact absurd H (by simp)
                                     ·rw [if_neg c60] at H; exact absurd H (by simp)
                                    ·rw [if_neg c59] at H; exact absurd H (by simp)
                         ·rw [if_neg c47] at H; exact absurd H (by simp)
                        ·rw [if_neg c46] at H; exact absurd H (by simp)
                       ·rw [if_neg c45] at H; have c45b0 : decide (x75_5 < ((rd_L2 t141 (rd t127 x13_4)).length : Int)) = false := decide_eq_false c45
                        clear c45; by_cases c73 : 0 ≤ (rd t127 x13_4)
                        ·rw [if_pos c73] at H; have c73b0 : decide (0 ≤ (rd t127 x13_4)) = true := decide_eq_true c73
                         clear c73; by_cases c74 : (rd t127 x13_4) < (x7_4.length : Int)
                         ·rw [if_pos c74] at H; have c74b0 : decide ((rd t127 x13_4) < (x7_4.length : Int)) = true := decide_eq_true c74
                          clear c74; by_cases c75 : (rd x7_4 (rd t127 x13_4)) = x15_5
                          ·rw [if_pos c75] at H; have c75b0 : ((rd x7_4 (rd t127 x13_4)) == x15_5) = true := beq_iff_eq.mpr c75
                           have c75b1 : ((rd x7_4 (rd t127 x13_4)) != x15_5) = false := bne_eq_false_iff_eq.mpr c75
                           clear c75; have H' := Aside0.mk H
                           clear H; have p147 : 0 ≤ ((rd t127 x13_4) : Int) := of_decide_eq_true (by with_reducible assumption)
                           have q147 : (rd t127 x13_4) < (x7_4.length : Int) := of_decide_eq_true (by with_reducible assumption)
                           obtain ⟨ad147, e147, hx147_0⟩ := Kd.at_int (Kd.R_reads' HO_7.out).2.2 (rd t127 x13_4) p147 q147; obtain rfl : (⟨go33, 0, none⟩ : Addr) = ad147 := (by injection e147)
                           (first | simp only [add_plain] at hx147_0 | simp only [add_at] at hx147_0 | simp only [Addr.add, Nat.zero_add] at hx147_0 | skip)
                           replace p147 := eq_true p147; replace q147 := eq_true q147; go_wp2
                           repeat (go_quiet (fail); try go_wp2)
                           (try simp only [← hl7_4])
                           go_roundg k5
                           case measure => have := HK1.out; have := HK2.out; have := HK3.out; have := HK4.out; have := HK5.out; omega
                           case rel => exact ⟨(x7_4), (x12_4), (wrap64 (x13_4 - 1)), (by first | rfl | (simp; done) | (simp [*]; done)), (by first | rfl | (simp; done) | (simp [*]; done)), H', ⟨by have := HK1.out; have := HK2.out; have := HK3.out; have := HK4.out; have := HK5.out; omega⟩, ⟨by (try simp only [hl7_1]); (try simp only [hl7_3]); (try simp only [hl7_4]); (with_reducible repeat (first | apply Kd.R_alloc | apply Kd.R_drewN | apply Kd.R_drew)); exact HO_5.out⟩, ⟨by (try simp only [hl7_1]); (try simp only [hl7_3]); (try simp only [hl7_4]); (with_reducible repeat (first | apply Kd.R_alloc | apply Kd.R_drewN | apply Kd.R_drew)); exact HO_6.out⟩, ⟨by (try simp only [hl7_1]); (try simp only [hl7_3]); (try simp only [hl7_4]); (with_reducible repeat (first | apply Kd.R_alloc | apply Kd.R_drewN | apply Kd.R_drew)); exact HO_7.out⟩, ⟨by (try simp only [hl7_1]); (try simp only [hl7_3]); (try simp only [hl7_4]); (with_reducible repeat (first | apply Kd.S_alloc | apply Kd.S_drewN | apply Kd.S_drew)); exact HO_11.out⟩, ⟨by repeat (first | (with_reducible first | exact HB.out | apply below_alloc | apply pw_below_drewN | apply below_drew1) | exact HB.out)⟩⟩
                          ·rw [if_neg c75] at H; have c75b0 : ((rd x7_4 (rd t127 x13_4)) == x15_5) = false := beq_eq_false_iff_ne.mpr c75
                           have c75b1 : ((rd x7_4 (rd t127 x13_4)) != x15_5) = true := bne_iff_ne.mpr c75
                           obtain ⟨y148, hy148⟩ : ∃ y_ : List Int, y_ = (x7_4.set ((rd t127 x13_4) : Int).toNat x15_5) := ⟨_, rfl⟩; replace H : (graph_tree.l3 k5 a1 t127 x6_2 y148 t141 true (wrap64 (x13_4 - 1))) = some r := by first | (with_reducible first | (rw [hy148]; exact H) | exact H) | (have H2_ := (Option.bind_some _ _).symm.trans H; first | with_reducible exact H2_ | (rw [hy148]; exact H2_)) | (rw [hy148]; exact H) | exact H
                           have Ny148 := Aside0.mk hy148; clear hy148; have H' := Aside0.mk H
                           clear H; have p147 : 0 ≤ ((rd t127 x13_4) : Int) := of_decide_eq_true (by with_reducible assumption)
                           have q147 : (rd t127 x13_4) < (x7_4.length : Int) := of_decide_eq_true (by with_reducible assumption)
                           obtain ⟨ad147, e147, hx147_0⟩ := Kd.at_int (Kd.R_reads' HO_7.out).2.2 (rd t127 x13_4) p147 q147; obtain rfl : (⟨go33, 0, none⟩ : Addr) = ad147 := (by injection e147)
                           (first | simp only [add_plain] at hx147_0 | simp only [add_at] at hx147_0 | simp only [Addr.add, Nat.zero_add] at hx147_0 | skip)
                           replace p147 := eq_true p147; replace q147 := eq_true q147; have p76 : 0 ≤ ((rd t127 x13_4) : Int) := of_decide_eq_true (by with_reducible assumption)
                           have q76 : ((rd t127 x13_4) : Int) < ((x7_4.length : Int) : Int) := of_decide_eq_true (by with_reducible assumption)
                           obtain ⟨hx76_0, hf76_0⟩ := Kd.R_celln 0 HO_7.out ((rd t127 x13_4) : Int) p76 q76; replace p76 := eq_true p76; replace q76 := eq_true q76; have HP77 := Kd.R_putg HO_7.out ((rd t127 x13_4) : Int) x15_5; go_wp2_with (first | ((with_reducible refine gate_store (t := 3) (p := 133) rfl ?_); (try (rw [drewN_self wr]; generalize hq_ : World.drewN wr _ = wr; have n0_ := Aside0.mk (Kd.R_at hq_ HO_5.out); have n1_ := Aside0.mk (Kd.R_at hq_ HO_6.out); have n2_ := Aside0.mk (Kd.R_at hq_ HO_7.out); have n3_ := Aside0.mk (Kd.S_at hq_ HO_11.out); have n4_ := Aside0.mk (below_at hq_ HB.out); clear hq_ HO_5 HO_6 HO_7 HO_11 HB; have HO_5 := n0_; have HO_6 := n1_; have HO_7 := n2_; have HO_11 := n3_; have HB := n4_; clear n0_ n1_ n2_ n3_ n4_; (try (have HP77 := Kd.R_putg HO_7.out ((rd t127 x13_4) : Int) x15_5)))); refine store_event (t := 3) (p := 133) (v := ?vo_w78) (w1 := (wr.setCell ⟨go33, ((rd t127 x13_4) : Int).toNat, none⟩ (.int .i64 x15_5))) ?hg ?ho ?hn ?hr ?_; (case ho => rfl); (case hg => rfl); (case hn => rfl); (case hr => first | (go_simp; done) | (go_simp; rfl)); intro w78 hw; have hg : wr.grownBy w78 (some go33) := (by rw [hw]; exact HP77.2); have hp_ : Kd.R (Kd.int .i64) 3 w78 w.heap.size (fun k_ => some k_ ≠ (.slice (some ad145) t127.length co22 : Value).ownBlock ∧ some k_ ≠ (v131 : Value).ownBlock) (.slice (some ⟨go33, 0, none⟩) x7_4.length co11) y148 := (by rw [hw, Ny148.out]; exact HP77.1); clear HP77; have n0_ := Aside0.mk (Kd.R_after (v := (.slice (some ⟨go33, 0, none⟩) x7_4.length co11)) (v1 := (.slice (some ⟨go33, 0, none⟩) x7_4.length co11)) (ok := (fun k_ => some k_ ≠ (v131 : Value).ownBlock)) (by (with_reducible repeat (first | apply Kd.R_alloc | apply Kd.R_drewN | apply Kd.R_drew)); exact HO_5.out) hg (.inl rfl)); have n1_ := Aside0.mk (Kd.R_after (v := (.slice (some ⟨go33, 0, none⟩) x7_4.length co11)) (v1 := (.slice (some ⟨go33, 0, none⟩) x7_4.length co11)) (ok := (fun k_ => some k_ ≠ (.slice (some ad145) t127.length co22 : Value).ownBlock)) (by (with_reducible repeat (first | apply Kd.R_alloc | apply Kd.R_drewN | apply Kd.R_drew)); exact HO_6.out) hg (.inl rfl)); have n2_ := Aside0.mk (hp_); have n3_ := Aside0.mk (Kd.S_after (v := (.slice (some ⟨go33, 0, none⟩) x7_4.length co11)) (v1 := (.slice (some ⟨go33, 0, none⟩) x7_4.length co11)) (ok := (fun k_ => some k_ ≠ (.slice (some ad145) t127.length co22 : Value).ownBlock ∧ some k_ ≠ (v131 : Value).ownBlock)) (by (with_reducible repeat (first | apply Kd.S_alloc | apply Kd.S_drewN | apply Kd.S_drew)); exact Kd.S_mono HO_11.out (fun _ hk => ⟨⟨hk.1, hk.2.1⟩, hk.2.2⟩)) hg (.inl rfl)); have n4_ := Aside0.mk ((by rw [hw]; exact below_set (HB.out) GB33.out : Below w.heap.size w w78)); clear HO_5; clear HO_6; clear HO_7; clear HO_11; clear HB; have HO_5 := n0_; have HO_6 := n1_; have HO_7 := n2_; have HO_11 := n3_; have HB := n4_; clear n0_ n1_ n2_ n3_ n4_; clear hg hw hp_))
                           repeat (go_quiet (first | ((with_reducible refine gate_store (t := 3) (p := 133) rfl ?_); (try (rw [drewN_self wr]; generalize hq_ : World.drewN wr _ = wr; have n0_ := Aside0.mk (Kd.R_at hq_ HO_5.out); have n1_ := Aside0.mk (Kd.R_at hq_ HO_6.out); have n2_ := Aside0.mk (Kd.R_at hq_ HO_7.out); have n3_ := Aside0.mk (Kd.S_at hq_ HO_11.out); have n4_ := Aside0.mk (below_at hq_ HB.out); clear hq_ HO_5 HO_6 HO_7 HO_11 HB; have HO_5 := n0_; have HO_6 := n1_; have HO_7 := n2_; have HO_11 := n3_; have HB := n4_; clear n0_ n1_ n2_ n3_ n4_; (try (have HP77 := Kd.R_putg HO_7.out ((rd t127 x13_4) : Int) x15_5)))); refine store_event (t := 3) (p := 133) (v := ?vo_w78) (w1 := (wr.setCell ⟨go33, ((rd t127 x13_4) : Int).toNat, none⟩ (.int .i64 x15_5))) ?hg ?ho ?hn ?hr ?_; (case ho => rfl); (case hg => rfl); (case hn => rfl); (case hr => first | (go_simp; done) | (go_simp; rfl)); intro w78 hw; have hg : wr.grownBy w78 (some go33) := (by rw [hw]; exact HP77.2); have hp_ : Kd.R (Kd.int .i64) 3 w78 w.heap.size (fun k_ => some k_ ≠ (.slice (some ad145) t127.length co22 : Value).ownBlock ∧ some k_ ≠ (v131 : Value).ownBlock) (.slice (some ⟨go33, 0, none⟩) x7_4.length co11) y148 := (by rw [hw, Ny148.out]; exact HP77.1); clear HP77; have n0_ := Aside0.mk (Kd.R_after (v := (.slice (some ⟨go33, 0, none⟩) x7_4.length co11)) (v1 := (.slice (some ⟨go33, 0, none⟩) x7_4.length co11)) (ok := (fun k_ => some k_ ≠ (v131 : Value).ownBlock)) (by (with_reducible repeat (first | apply Kd.R_alloc | apply Kd.R_drewN | apply Kd.R_drew)); exact HO_5.out) hg (.inl rfl)); have n1_ := Aside0.mk (Kd.R_after (v := (.slice (some ⟨go33, 0, none⟩) x7_4.length co11)) (v1 := (.slice (some ⟨go33, 0, none⟩) x7_4.length co11)) (ok := (fun k_ => some k_ ≠ (.slice (some ad145) t127.length co22 : Value).ownBlock)) (by (with_reducible repeat (first | apply Kd.R_alloc | apply Kd.R_drewN | apply Kd.R_drew)); exact HO_6.out) hg (.inl rfl)); have n2_ := Aside0.mk (hp_); have n3_ := Aside0.mk (Kd.S_after (v := (.slice (some ⟨go33, 0, none⟩) x7_4.length co11)) (v1 := (.slice (some ⟨go33, 0, none⟩) x7_4.length co11)) (ok := (fun k_ => some k_ ≠ (.slice (some ad145) t127.length co22 : Value).ownBlock ∧ some k_ ≠ (v131 : Value).ownBlock)) (by (with_reducible repeat (first | apply Kd.S_alloc | apply Kd.S_drewN | apply Kd.S_drew)); exact Kd.S_mono HO_11.out (fun _ hk => ⟨⟨hk.1, hk.2.1⟩, hk.2.2⟩)) hg (.inl rfl)); have n4_ := Aside0.mk ((by rw [hw]; exact below_set (HB.out) GB33.out : Below w.heap.size w w78)); clear HO_5; clear HO_6; clear HO_7; clear HO_11; clear HB; have HO_5 := n0_; have HO_6 := n1_; have HO_7 := n2_; have HO_11 := n3_; have HB := n4_; clear n0_ n1_ n2_ n3_ n4_; clear hg hw hp_)); try go_wp2_with (first | ((with_reducible refine gate_store (t := 3) (p := 133) rfl ?_); (try (rw [drewN_self wr]; generalize hq_ : World.drewN wr _ = wr; have n0_ := Aside0.mk (Kd.R_at hq_ HO_5.out); have n1_ := Aside0.mk (Kd.R_at hq_ HO_6.out); have n2_ := Aside0.mk (Kd.R_at hq_ HO_7.out); have n3_ := Aside0.mk (Kd.S_at hq_ HO_11.out); have n4_ := Aside0.mk (below_at hq_ HB.out); clear hq_ HO_5 HO_6 HO_7 HO_11 HB; have HO_5 := n0_; have HO_6 := n1_; have HO_7 := n2_; have HO_11 := n3_; have HB := n4_; clear n0_ n1_ n2_ n3_ n4_; (try (have HP77 := Kd.R_putg HO_7.out ((rd t127 x13_4) : Int) x15_5)))); refine store_event (t := 3) (p := 133) (v := ?vo_w78) (w1 := (wr.setCell ⟨go33, ((rd t127 x13_4) : Int).toNat, none⟩ (.int .i64 x15_5))) ?hg ?ho ?hn ?hr ?_; (case ho => rfl); (case hg => rfl); (case hn => rfl); (case hr => first | (go_simp; done) | (go_simp; rfl)); intro w78 hw; have hg : wr.grownBy w78 (some go33) := (by rw [hw]; exact HP77.2); have hp_ : Kd.R (Kd.int .i64) 3 w78 w.heap.size (fun k_ => some k_ ≠ (.slice (some ad145) t127.length co22 : Value).ownBlock ∧ some k_ ≠ (v131 : Value).ownBlock) (.slice (some ⟨go33, 0, none⟩) x7_4.length co11) y148 := (by rw [hw, Ny148.out]; exact HP77.1); clear HP77; have n0_ := Aside0.mk (Kd.R_after (v := (.slice (some ⟨go33, 0, none⟩) x7_4.length co11)) (v1 := (.slice (some ⟨go33, 0, none⟩) x7_4.length co11)) (ok := (fun k_ => some k_ ≠ (v131 : Value).ownBlock)) (by (with_reducible repeat (first | apply Kd.R_alloc | apply Kd.R_drewN | apply Kd.R_drew)); exact HO_5.out) hg (.inl rfl)); have n1_ := Aside0.mk (Kd.R_after (v := (.slice (some ⟨go33, 0, none⟩) x7_4.length co11)) (v1 := (.slice (some ⟨go33, 0, none⟩) x7_4.length co11)) (ok := (fun k_ => some k_ ≠ (.slice (some ad145) t127.length co22 : Value).ownBlock)) (by (with_reducible repeat (first | apply Kd.R_alloc | apply Kd.R_drewN | apply Kd.R_drew)); exact HO_6.out) hg (.inl rfl)); have n2_ := Aside0.mk (hp_); have n3_ := Aside0.mk (Kd.S_after (v := (.slice (some ⟨go33, 0, none⟩) x7_4.length co11)) (v1 := (.slice (some ⟨go33, 0, none⟩) x7_4.length co11)) (ok := (fun k_ => some k_ ≠ (.slice (some ad145) t127.length co22 : Value).ownBlock ∧ some k_ ≠ (v131 : Value).ownBlock)) (by (with_reducible repeat (first | apply Kd.S_alloc | apply Kd.S_drewN | apply Kd.S_drew)); exact Kd.S_mono HO_11.out (fun _ hk => ⟨⟨hk.1, hk.2.1⟩, hk.2.2⟩)) hg (.inl rfl)); have n4_ := Aside0.mk ((by rw [hw]; exact below_set (HB.out) GB33.out : Below w.heap.size w w78)); clear HO_5; clear HO_6; clear HO_7; clear HO_11; clear HB; have HO_5 := n0_; have HO_6 := n1_; have HO_7 := n2_; have HO_11 := n3_; have HB := n4_; clear n0_ n1_ n2_ n3_ n4_; clear hg hw hp_)))
                           (try simp only [← hl7_4])
                           go_roundg k5
                           case measure => have := HK1.out; have := HK2.out; have := HK3.out; have := HK4.out; have := HK5.out; omega
                           case rel => exact ⟨(y148), (true), (wrap64 (x13_4 - 1)), (by first | rfl | (simp; done) | (simp [*]; done)), (by first | rfl | (simp; done) | (simp [*]; done)), H', ⟨by have := HK1.out; have := HK2.out; have := HK3.out; have := HK4.out; have := HK5.out; omega⟩, ⟨by (try simp only [hl7_1]); (try simp only [hl7_3]); (try simp only [hl7_4]); (with_reducible repeat (first | apply Kd.R_alloc | apply Kd.R_drewN | apply Kd.R_drew)); exact HO_5.out⟩, ⟨by (try simp only [hl7_1]); (try simp only [hl7_3]); (try simp only [hl7_4]); (with_reducible repeat (first | apply Kd.R_alloc | apply Kd.R_drewN | apply Kd.R_drew)); exact HO_6.out⟩, ⟨by (try simp only [hl7_1]); (try simp only [hl7_3]); (try simp only [hl7_4]); (with_reducible repeat (first | apply Kd.R_alloc | apply Kd.R_drewN | apply Kd.R_drew)); exact HO_7.out⟩, ⟨by (try simp only [hl7_1]); (try simp only [hl7_3]); (try simp only [hl7_4]); (with_reducible repeat (first | apply Kd.S_alloc | apply Kd.S_drewN | apply Kd.S_drew)); exact Kd.S_mono HO_11.out (fun _ hk => ⟨hk.1.1, ⟨hk.1.2, hk.2⟩⟩)⟩, ⟨by repeat (first | (with_reducible first | exact HB.out | apply below_alloc | apply pw_below_drewN | apply below_drew1) | exact HB.out)⟩⟩
                         ·rw [if_neg c74] at H; exact absurd H (by simp)
                        ·rw [if_neg c73] at H; exact absurd H (by simp)
                    ·rw [if_neg c43] at H; exact absurd H (by simp)
                   ·rw [if_neg c42] at H; exact absurd H (by simp)
                  ·rw [if_neg c41] at H; exact absurd H (by simp)
                 ·rw [if_neg c40] at H; exact absurd H (by simp)
                ·rw [if_neg c39] at H; have c39b0 : decide (0 ≤ x13_4) = false := decide_eq_false c39
                 clear c39; have H' := Aside0.mk H
                 clear H; go_wp2
                 repeat (go_quiet (fail); try go_wp2)
                 (try simp only [← hl7_3, ← hl7_4])
                 go_roundg k4
                 case measure => have := HK1.out; have := HK2.out; have := HK3.out; have := HK4.out; omega
                 case rel => exact ⟨(x7_4), (x12_4), (by first | rfl | (simp; done) | (simp [*]; done)), H', ⟨by have := HK1.out; have := HK2.out; have := HK3.out; have := HK4.out; omega⟩, ⟨by (try simp only [hl7_1]); (try simp only [hl7_3]); (try simp only [hl7_4]); (with_reducible repeat (first | apply Kd.R_alloc | apply Kd.R_drewN | apply Kd.R_drew)); exact HO_5.out⟩, ⟨by (try simp only [hl7_1]); (try simp only [hl7_3]); (try simp only [hl7_4]); (with_reducible repeat (first | apply Kd.R_alloc | apply Kd.R_drewN | apply Kd.R_drew)); exact HO_6.out⟩, ⟨by (try simp only [hl7_1]); (try simp only [hl7_3]); (try simp only [hl7_4]); (with_reducible repeat (first | apply Kd.R_alloc | apply Kd.R_drewN | apply Kd.R_drew)); exact HO_7.out⟩, ⟨by (try simp only [hl7_1]); (try simp only [hl7_3]); (try simp only [hl7_4]); (with_reducible repeat (first | apply Kd.S_alloc | apply Kd.S_drewN | apply Kd.S_drew)); exact HO_11.out⟩, ⟨by repeat (first | (with_reducible first | exact HB.out | apply below_alloc | apply pw_below_drewN | apply below_drew1) | exact HB.out)⟩⟩
             ·replace c38 := Bool.eq_false_iff.mpr c38; subst c38; have H1 : (if 0 ≤ a1 then (if a1 < (x7_3.length : Int) then (some (x7_3.set (a1 : Int).toNat (-1))) else (none)) else (none)) = some r := by rw [if_neg (show ¬ (false = true) by decide)] at H; exact H
              clear H; have H := H1; clear H1; by_cases c79 : 0 ≤ a1
              ·rw [if_pos c79] at H; have c79b0 : decide (0 ≤ a1) = true := decide_eq_true c79
               clear c79; by_cases c80 : a1 < (x7_3.length : Int)
               ·rw [if_pos c80] at H; have c80b0 : decide (a1 < (x7_3.length : Int)) = true := decide_eq_true c80
                clear c80; obtain ⟨y144, hy144⟩ : ∃ y_ : List Int, y_ = (x7_3.set (a1 : Int).toNat (-1)) := ⟨_, rfl⟩; replace H : (some y144) = some r := by first | (with_reducible first | (rw [hy144]; exact H) | exact H) | (have H2_ := (Option.bind_some _ _).symm.trans H; first | with_reducible exact H2_ | (rw [hy144]; exact H2_)) | (rw [hy144]; exact H) | exact H
                have Ny144 := Aside0.mk hy144; clear hy144; obtain rfl := Option.some.inj H; have p81 : 0 ≤ (a1 : Int) := of_decide_eq_true (by with_reducible assumption)
                have q81 : (a1 : Int) < ((x7_3.length : Int) : Int) := of_decide_eq_true (by with_reducible assumption)
                obtain ⟨hx81_0, hf81_0⟩ := Kd.R_celln 0 HO_7.out (a1 : Int) p81 q81; replace p81 := eq_true p81; replace q81 := eq_true q81; have HP82 := Kd.R_putg HO_7.out (a1 : Int) (-1); go_wp2_with (first | ((with_reducible refine gate_store (t := 3) (p := 136) rfl ?_); (try (rw [drewN_self wr]; generalize hq_ : World.drewN wr _ = wr; have n0_ := Aside0.mk (Kd.R_at hq_ HO_5.out); have n1_ := Aside0.mk (Kd.R_at hq_ HO_6.out); have n2_ := Aside0.mk (Kd.R_at hq_ HO_7.out); have n3_ := Aside0.mk (Kd.S_at hq_ HO_11.out); have n4_ := Aside0.mk (below_at hq_ HB.out); clear hq_ HO_5 HO_6 HO_7 HO_11 HB; have HO_5 := n0_; have HO_6 := n1_; have HO_7 := n2_; have HO_11 := n3_; have HB := n4_; clear n0_ n1_ n2_ n3_ n4_; (try (have HP82 := Kd.R_putg HO_7.out (a1 : Int) (-1))))); refine store_event (t := 3) (p := 136) (v := ?vo_w83) (w1 := (wr.setCell ⟨go33, (a1 : Int).toNat, none⟩ (.int .i64 (-1)))) ?hg ?ho ?hn ?hr ?_; (case ho => rfl); (case hg => rfl); (case hn => rfl); (case hr => first | (go_simp; done) | (go_simp; rfl)); intro w83 hw; have hg : wr.grownBy w83 (some go33) := (by rw [hw]; exact HP82.2); have hp_ : Kd.R (Kd.int .i64) 3 w83 w.heap.size (fun k_ => some k_ ≠ (.slice Ao22 t127.length co22 : Value).ownBlock ∧ some k_ ≠ (v131 : Value).ownBlock) (.slice (some ⟨go33, 0, none⟩) x7_3.length co11) y144 := (by rw [hw, Ny144.out]; exact HP82.1); clear HP82; have n0_ := Aside0.mk (Kd.R_after (v := (.slice (some ⟨go33, 0, none⟩) x7_3.length co11)) (v1 := (.slice (some ⟨go33, 0, none⟩) x7_3.length co11)) (ok := (fun k_ => some k_ ≠ (v131 : Value).ownBlock)) (by (with_reducible repeat (first | apply Kd.R_alloc | apply Kd.R_drewN | apply Kd.R_drew)); exact HO_5.out) hg (.inl rfl)); have n1_ := Aside0.mk (Kd.R_after (v := (.slice (some ⟨go33, 0, none⟩) x7_3.length co11)) (v1 := (.slice (some ⟨go33, 0, none⟩) x7_3.length co11)) (ok := (fun k_ => some k_ ≠ (.slice Ao22 t127.length co22 : Value).ownBlock)) (by (with_reducible repeat (first | apply Kd.R_alloc | apply Kd.R_drewN | apply Kd.R_drew)); exact HO_6.out) hg (.inl rfl)); have n2_ := Aside0.mk (hp_); have n3_ := Aside0.mk (Kd.S_after (v := (.slice (some ⟨go33, 0, none⟩) x7_3.length co11)) (v1 := (.slice (some ⟨go33, 0, none⟩) x7_3.length co11)) (ok := (fun k_ => some k_ ≠ (.slice Ao22 t127.length co22 : Value).ownBlock ∧ some k_ ≠ (v131 : Value).ownBlock)) (by (with_reducible repeat (first | apply Kd.S_alloc | apply Kd.S_drewN | apply Kd.S_drew)); exact Kd.S_mono HO_11.out (fun _ hk => ⟨⟨hk.1, hk.2.1⟩, hk.2.2⟩)) hg (.inl rfl)); have n4_ := Aside0.mk ((by rw [hw]; exact below_set (HB.out) GB33.out : Below w.heap.size w w83)); clear HO_5; clear HO_6; clear HO_7; clear HO_11; clear HB; have HO_5 := n0_; have HO_6 := n1_; have HO_7 := n2_; have HO_11 := n3_; have HB := n4_; clear n0_ n1_ n2_ n3_ n4_; clear hg hw hp_))
                repeat (go_quiet (first | ((with_reducible refine gate_store (t := 3) (p := 136) rfl ?_); (try (rw [drewN_self wr]; generalize hq_ : World.drewN wr _ = wr; have n0_ := Aside0.mk (Kd.R_at hq_ HO_5.out); have n1_ := Aside0.mk (Kd.R_at hq_ HO_6.out); have n2_ := Aside0.mk (Kd.R_at hq_ HO_7.out); have n3_ := Aside0.mk (Kd.S_at hq_ HO_11.out); have n4_ := Aside0.mk (below_at hq_ HB.out); clear hq_ HO_5 HO_6 HO_7 HO_11 HB; have HO_5 := n0_; have HO_6 := n1_; have HO_7 := n2_; have HO_11 := n3_; have HB := n4_; clear n0_ n1_ n2_ n3_ n4_; (try (have HP82 := Kd.R_putg HO_7.out (a1 : Int) (-1))))); refine store_event (t := 3) (p := 136) (v := ?vo_w83) (w1 := (wr.setCell ⟨go33, (a1 : Int).toNat, none⟩ (.int .i64 (-1)))) ?hg ?ho ?hn ?hr ?_; (case ho => rfl); (case hg => rfl); (case hn => rfl); (case hr => first | (go_simp; done) | (go_simp; rfl)); intro w83 hw; have hg : wr.grownBy w83 (some go33) := (by rw [hw]; exact HP82.2); have hp_ : Kd.R (Kd.int .i64) 3 w83 w.heap.size (fun k_ => some k_ ≠ (.slice Ao22 t127.length co22 : Value).ownBlock ∧ some k_ ≠ (v131 : Value).ownBlock) (.slice (some ⟨go33, 0, none⟩) x7_3.length co11) y144 := (by rw [hw, Ny144.out]; exact HP82.1); clear HP82; have n0_ := Aside0.mk (Kd.R_after (v := (.slice (some ⟨go33, 0, none⟩) x7_3.length co11)) (v1 := (.slice (some ⟨go33, 0, none⟩) x7_3.length co11)) (ok := (fun k_ => some k_ ≠ (v131 : Value).ownBlock)) (by (with_reducible repeat (first | apply Kd.R_alloc | apply Kd.R_drewN | apply Kd.R_drew)); exact HO_5.out) hg (.inl rfl)); have n1_ := Aside0.mk (Kd.R_after (v := (.slice (some ⟨go33, 0, none⟩) x7_3.length co11)) (v1 := (.slice (some ⟨go33, 0, none⟩) x7_3.length co11)) (ok := (fun k_ => some k_ ≠ (.slice Ao22 t127.length co22 : Value).ownBlock)) (by (with_reducible repeat (first | apply Kd.R_alloc | apply Kd.R_drewN | apply Kd.R_drew)); exact HO_6.out) hg (.inl rfl)); have n2_ := Aside0.mk (hp_); have n3_ := Aside0.mk (Kd.S_after (v := (.slice (some ⟨go33, 0, none⟩) x7_3.length co11)) (v1 := (.slice (some ⟨go33, 0, none⟩) x7_3.length co11)) (ok := (fun k_ => some k_ ≠ (.slice Ao22 t127.length co22 : Value).ownBlock ∧ some k_ ≠ (v131 : Value).ownBlock)) (by (with_reducible repeat (first | apply Kd.S_alloc | apply Kd.S_drewN | apply Kd.S_drew)); exact Kd.S_mono HO_11.out (fun _ hk => ⟨⟨hk.1, hk.2.1⟩, hk.2.2⟩)) hg (.inl rfl)); have n4_ := Aside0.mk ((by rw [hw]; exact below_set (HB.out) GB33.out : Below w.heap.size w w83)); clear HO_5; clear HO_6; clear HO_7; clear HO_11; clear HB; have HO_5 := n0_; have HO_6 := n1_; have HO_7 := n2_; have HO_11 := n3_; have HB := n4_; clear n0_ n1_ n2_ n3_ n4_; clear hg hw hp_)); try go_wp2_with (first | ((with_reducible refine gate_store (t := 3) (p := 136) rfl ?_); (try (rw [drewN_self wr]; generalize hq_ : World.drewN wr _ = wr; have n0_ := Aside0.mk (Kd.R_at hq_ HO_5.out); have n1_ := Aside0.mk (Kd.R_at hq_ HO_6.out); have n2_ := Aside0.mk (Kd.R_at hq_ HO_7.out); have n3_ := Aside0.mk (Kd.S_at hq_ HO_11.out); have n4_ := Aside0.mk (below_at hq_ HB.out); clear hq_ HO_5 HO_6 HO_7 HO_11 HB; have HO_5 := n0_; have HO_6 := n1_; have HO_7 := n2_; have HO_11 := n3_; have HB := n4_; clear n0_ n1_ n2_ n3_ n4_; (try (have HP82 := Kd.R_putg HO_7.out (a1 : Int) (-1))))); refine store_event (t := 3) (p := 136) (v := ?vo_w83) (w1 := (wr.setCell ⟨go33, (a1 : Int).toNat, none⟩ (.int .i64 (-1)))) ?hg ?ho ?hn ?hr ?_; (case ho => rfl); (case hg => rfl); (case hn => rfl); (case hr => first | (go_simp; done) | (go_simp; rfl)); intro w83 hw; have hg : wr.grownBy w83 (some go33) := (by rw [hw]; exact HP82.2); have hp_ : Kd.R (Kd.int .i64) 3 w83 w.heap.size (fun k_ => some k_ ≠ (.slice Ao22 t127.length co22 : Value).ownBlock ∧ some k_ ≠ (v131 : Value).ownBlock) (.slice (some ⟨go33, 0, none⟩) x7_3.length co11) y144 := (by rw [hw, Ny144.out]; exact HP82.1); clear HP82; have n0_ := Aside0.mk (Kd.R_after (v := (.slice (some ⟨go33, 0, none⟩) x7_3.length co11)) (v1 := (.slice (some ⟨go33, 0, none⟩) x7_3.length co11)) (ok := (fun k_ => some k_ ≠ (v131 : Value).ownBlock)) (by (with_reducible repeat (first | apply Kd.R_alloc | apply Kd.R_drewN | apply Kd.R_drew)); exact HO_5.out) hg (.inl rfl)); have n1_ := Aside0.mk (Kd.R_after (v := (.slice (some ⟨go33, 0, none⟩) x7_3.length co11)) (v1 := (.slice (some ⟨go33, 0, none⟩) x7_3.length co11)) (ok := (fun k_ => some k_ ≠ (.slice Ao22 t127.length co22 : Value).ownBlock)) (by (with_reducible repeat (first | apply Kd.R_alloc | apply Kd.R_drewN | apply Kd.R_drew)); exact HO_6.out) hg (.inl rfl)); have n2_ := Aside0.mk (hp_); have n3_ := Aside0.mk (Kd.S_after (v := (.slice (some ⟨go33, 0, none⟩) x7_3.length co11)) (v1 := (.slice (some ⟨go33, 0, none⟩) x7_3.length co11)) (ok := (fun k_ => some k_ ≠ (.slice Ao22 t127.length co22 : Value).ownBlock ∧ some k_ ≠ (v131 : Value).ownBlock)) (by (with_reducible repeat (first | apply Kd.S_alloc | apply Kd.S_drewN | apply Kd.S_drew)); exact Kd.S_mono HO_11.out (fun _ hk => ⟨⟨hk.1, hk.2.1⟩, hk.2.2⟩)) hg (.inl rfl)); have n4_ := Aside0.mk ((by rw [hw]; exact below_set (HB.out) GB33.out : Below w.heap.size w w83)); clear HO_5; clear HO_6; clear HO_7; clear HO_11; clear HB; have HO_5 := n0_; have HO_6 := n1_; have HO_7 := n2_; have HO_11 := n3_; have HB := n4_; clear n0_ n1_ n2_ n3_ n4_; clear hg hw hp_)))
                go_ret
                exact ⟨_, by first | rfl | (simp [errW_none, errW_some] <;> rfl) | (simp [*, errW_none, errW_some] <;> rfl), by (with_reducible repeat (first | apply Kd.R_alloc | apply Kd.R_drewN | apply Kd.R_drew)); exact Kd.R_mono HO_7.out (fun _ hk => trivial), by repeat (first | (with_reducible first | exact HB.out | apply below_alloc | apply pw_below_drewN | apply below_drew1) | exact HB.out)⟩
               ·rw [if_neg c80] at H; exact absurd H (by simp)
              ·rw [if_neg c79] at H; exact absurd H (by simp)
          ·rw [if_neg c32] at H; exact absurd H (by simp)
         ·rw [if_neg c31] at H; exact absurd H (by simp)
  ·rw [if_neg c5] at H; exact absurd H (by simp)
 ·rw [if_neg c4] at H; exact absurd H (by simp)
end Go.Proofs.Ytjjedbcgkljdeaa.B
end
