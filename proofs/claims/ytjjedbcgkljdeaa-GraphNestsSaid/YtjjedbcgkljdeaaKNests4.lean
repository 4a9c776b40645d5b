/- Texts of this claim, cut down to what its theorem uses and laid end to end (wip/shake.py). -/
import Derived.ArgAppend
import Derived.Below
import Derived.BigQuiet
import Derived.ChangeOld
import Derived.ChangeSlices
import Derived.Deep.AppendLies
import Derived.Deep.CutBlock
import Derived.Deep.DeepCutAuto
import Derived.Deep.Draws
import Derived.Deep.LoopGhost
import Derived.Deep.Matrix
import Derived.Deep.OwnRows
import Derived.Deep.QuietTactic
import Derived.Deep.RegionHeld3
import Derived.KernelRfl
import Derived.Laws.BitsLemmas
import Derived.Laws.BytesArg
import Derived.Laws.CopyOwn
import Derived.Laws.IdiomCopy
import Derived.Laws.MakeOwn
import Derived.Laws.OwnMore
import Derived.Laws.Rows
import Derived.Laws.Slices
import Derived.Laws.StructEq
import Derived.Lib.AppendStr
import Derived.Lib.ConvBytes
import Derived.LoopIn
import Derived.LoopNIn
import Derived.Maps.AppendAt
import Derived.OpenShut
import Derived.OrdersHeld
import Derived.OwnWalk
import Derived.OwnWalkIn
import Derived.ProofKit
import Derived.RangeFuncBound
import Derived.RangeFuncBox
import Derived.RangeFuncCalls
import Derived.RangeFuncFrom
import Derived.RangeFuncLeaves
import Derived.RangeFuncNested
import Derived.RowKit
import Derived.RowKit3
import Derived.Shelf.Abstract
import Derived.ShutString
import Derived.SizedLaws
import Derived.Tactics
import Derived.TacticsInMore
import Derived.Test.YtjjedbcgkljdeaaProg
import Derived.WalkKit
import Derived.WideLaws
import GoSem.ClaimData
import Derived.Test.YtjjedbcgkljdeaaKNests3
section
namespace Go.Proofs.Ytjjedbcgkljdeaa.L
open Go.RowKit Go.Proofs.YtjjedbcgkljdeaaW.PrintWords Go.Proofs.YtjjedbcgkljdeaaW.PrintLast Go.Proofs.YtjjedbcgkljdeaaW.PrintMore Go.Proofs.Ytjjedbcgkljdeaa.A Go.Proofs.Ytjjedbcgkljdeaa.B Go.Proofs.Ytjjedbcgkljdeaa.C Go.Proofs.Ytjjedbcgkljdeaa.D
set_option linter.unusedVariables false
set_option linter.unusedSimpArgs false
mutual
def l7_GraphNests.j0 : Nat → List (List Int) → List (List Int) → Bool → Bool → Option (Bool)
 | 0, _, _, _, _ => none
 | k + 1, x0, x3, x5, x40 => if x40 = true then (some false) else (l7_GraphNests.l0 k x0 x3 x5 0)
def l7_GraphNests.l0 : Nat → List (List Int) → List (List Int) → Bool → Int → Option (Bool)
 | 0, _, _, _, _ => none
 | k + 1, x0, x3, x5, x7 => if x7 < (x0.length : Int) then (l7_GraphNests.j2 k x0 x3 x5 x7 x5) else (l7_GraphNests.j2 k x0 x3 x5 x7 false)
def l7_GraphNests.j2 : Nat → List (List Int) → List (List Int) → Bool → Int → Bool → Option (Bool)
 | 0, _, _, _, _, _ => none
 | k + 1, x0, x3, x5, x7, x47 => if x47 = true then (l7_GraphNests.l1 k x0 x3 x5 x7 0) else ((l7_awake.f k).bind fun t307 => (some t307))
def l7_GraphNests.l1 : Nat → List (List Int) → List (List Int) → Bool → Int → Int → Option (Bool)
 | 0, _, _, _, _, _ => none
 | k + 1, x0, x3, x5, x7, x8 => if 0 ≤ x7 then (if x7 < (x3.length : Int) then (if x8 < ((rd_L1 x3 x7).length : Int) then (if 0 ≤ x8 then ((graph_Dominates.f k x0 x7 (rd (rd_L1 x3 x7) x8)).bind fun bt311 => (if bt311.1 = true then (l7_GraphNests.l1 k x0 x3 x5 x7 (wrap64 (x8 + 1))) else (some false))) else (none)) else (l7_GraphNests.l2 k x0 x3 x5 x7 0)) else (none)) else (none)
def l7_GraphNests.l2 : Nat → List (List Int) → List (List Int) → Bool → Int → Int → Option (Bool)
 | 0, _, _, _, _, _ => none
 | k + 1, x0, x3, x5, x7, x11 => if x11 < (x0.length : Int) then (l7_GraphNests.l3 k x0 x3 x5 x7 x11 0 0) else (l7_GraphNests.l0 k x0 x3 x5 (wrap64 (x7 + 1)))
def l7_GraphNests.l3 : Nat → List (List Int) → List (List Int) → Bool → Int → Int → Int → Int → Option (Bool)
 | 0, _, _, _, _, _, _, _ => none
 | k + 1, x0, x3, x5, x7, x11, x12, x13 => if 0 ≤ x7 then (if x7 < (x3.length : Int) then (if x13 < ((rd_L1 x3 x7).length : Int) then (if 0 ≤ x13 then (if 0 ≤ x11 then (if x11 < (x3.length : Int) then ((r7_In.f k (rd (rd_L1 x3 x7) x13) (rd_L1 x3 x11)).bind fun t317 => (if t317 = true then (l7_GraphNests.l3 k x0 x3 x5 x7 x11 (wrap64 (x12 + 1)) (wrap64 (x13 + 1))) else (l7_GraphNests.l3 k x0 x3 x5 x7 x11 x12 (wrap64 (x13 + 1))))) else (none)) else (none)) else (none)) else (if x12 = 0 then (l7_GraphNests.l2 k x0 x3 x5 x7 (wrap64 (x11 + 1))) else (if x12 = ((rd_L1 x3 x7).length : Int) then (l7_GraphNests.l2 k x0 x3 x5 x7 (wrap64 (x11 + 1))) else (if 0 ≤ x11 then (if x11 < (x3.length : Int) then (if x12 = ((rd_L1 x3 x11).length : Int) then (l7_GraphNests.l2 k x0 x3 x5 x7 (wrap64 (x11 + 1))) else (some false)) else (none)) else (none))))) else (none)) else (none)
end
def l7_GraphNests.f (k : Nat) (l0 : List (List Int)) : Option (Bool) := (l7_usable.f k l0).bind fun t299 => (if t299 = true then ((graph_Loops.f k l0).bind fun bt301 => ((graph_Reducible.f k l0).bind fun bt305 => (if bt301.2 = 0 then (if bt305.2 = 0 then (l7_GraphNests.j0 k l0 bt301.1 bt305.1 ((bt301.1.length : Int) != (l0.length : Int))) else (l7_GraphNests.j0 k l0 bt301.1 bt305.1 true)) else (l7_GraphNests.j0 k l0 bt301.1 bt305.1 true)))) else ((l7_awake.f k).bind fun t300 => (some t300)))
set_option maxHeartbeats 8000000 in
set_option maxRecDepth 100000 in
theorem l7_GraphNests.calls (k : Nat) (A0 : Option Addr) (c0 : Nat) (l0 : List (List Int)) (r : Bool) (w : World) (hr0 : Kd.C (Kd.slice 3 (Kd.int .i64)) w A0 l0.length l0) (hc0 : l0.length ≤ c0) (h : l7_GraphNests.f k l0 = some r) (hrt : r = true := by rfl) :
  Calls Try.prog 8 #[.slice A0 l0.length c0] w fun e w' => e = .returned (.bool r) ∧ Below w.heap.size w w' := by
 have HRT := Aside0.mk hrt; clear hrt; have HR0 := Aside0.mk hr0; have HC0 := Aside0.mk hc0; clear hr0 hc0; have HB := Aside0.mk (Below.refl w.heap.size w); have H : ((l7_usable.f k l0).bind fun t299 => (if t299 = true then ((graph_Loops.f k l0).bind fun bt301 => ((graph_Reducible.f k l0).bind fun bt305 => (if bt301.2 = 0 then (if bt305.2 = 0 then (l7_GraphNests.j0 k l0 bt301.1 bt305.1 ((bt301.1.length : Int) != (l0.length : Int))) else (l7_GraphNests.j0 k l0 bt301.1 bt305.1 true)) else (l7_GraphNests.j0 k l0 bt301.1 bt305.1 true)))) else ((l7_awake.f k).bind fun t300 => (some t300)))) = some r := h
 clear h; replace H := Option.bind_eq_some_iff.mp H; obtain ⟨t299, A20, H⟩ := H; replace H : (if t299 = true then ((graph_Loops.f k l0).bind fun bt301 => ((graph_Reducible.f k l0).bind fun bt305 => (if bt301.2 = 0 then (if bt305.2 = 0 then (l7_GraphNests.j0 k l0 bt301.1 bt305.1 ((bt301.1.length : Int) != (l0.length : Int))) else (l7_GraphNests.j0 k l0 bt301.1 bt305.1 true)) else (l7_GraphNests.j0 k l0 bt301.1 bt305.1 true)))) else ((l7_awake.f k).bind fun t300 => (some t300))) = some r := H
 have A2 := Aside0.mk A20; clear A20; by_cases c3 : t299 = true
 ·subst c3; have H1 : ((graph_Loops.f k l0).bind fun bt301 => ((graph_Reducible.f k l0).bind fun bt305 => (if bt301.2 = 0 then (if bt305.2 = 0 then (l7_GraphNests.j0 k l0 bt301.1 bt305.1 ((bt301.1.length : Int) != (l0.length : Int))) else (l7_GraphNests.j0 k l0 bt301.1 bt305.1 true)) else (l7_GraphNests.j0 k l0 bt301.1 bt305.1 true)))) = some r := by rw [if_pos rfl] at H; exact H
  clear H; have H := H1; clear H1; replace H := Option.bind_eq_some_iff.mp H; obtain ⟨⟨t301, t302⟩, A40, H⟩ := H; replace H : ((graph_Reducible.f k l0).bind fun bt305 => (if t302 = 0 then (if bt305.2 = 0 then (l7_GraphNests.j0 k l0 t301 bt305.1 ((t301.length : Int) != (l0.length : Int))) else (l7_GraphNests.j0 k l0 t301 bt305.1 true)) else (l7_GraphNests.j0 k l0 t301 bt305.1 true))) = some r := H
  have A4 := Aside0.mk A40; clear A40; replace H := Option.bind_eq_some_iff.mp H; obtain ⟨⟨t305, t306⟩, A50, H⟩ := H; replace H : (if t302 = 0 then (if t306 = 0 then (l7_GraphNests.j0 k l0 t301 t305 ((t301.length : Int) != (l0.length : Int))) else (l7_GraphNests.j0 k l0 t301 t305 true)) else (l7_GraphNests.j0 k l0 t301 t305 true)) = some r := H
  have A5 := Aside0.mk A50; clear A50; have HC6 := Aside0.mk H; clear H; go_enter Try.func8, Try.ntmps8
  go_upto_region 5 with (first | (go_at_call 26; (with_reducible refine (l7_usable.calls k _ _ l0 true _ ?side1 ?side2 A2.out).mono ?_); (case side1 => repeat (first | exact HR0.out | with_reducible first | refine Kd.C_alloc ?_ _ | refine Kd.C_drewN ?_ _ | refine Kd.C_drew ?_)); (case side2 => exact HC0.out); rintro e w' ⟨rfl, ⟨nd, rfl⟩⟩; (try first | exact ⟨rfl, _, World.drewN_drewN _ _ _⟩ | exact ⟨rfl, _, Eq.trans (World.drewN_drewN _ _ _) (congrArg (World.drewN _) (Nat.add_assoc _ _ _))⟩)) | (go_at_call 16; (with_reducible refine (graph_Loops.calls k _ _ l0 t301 t302 _ ?side1 ?side2 A4.out).mono ?_); (case side1 => repeat (first | exact HR0.out | with_reducible first | refine Kd.C_alloc ?_ _ | refine Kd.C_drewN ?_ _ | refine Kd.C_drew ?_)); (case side2 => exact HC0.out); rintro e w7 ⟨v303, rfl, ho0, hb⟩; have n0_ := Aside0.mk (Kd.S_lower ho0 (below_size (by repeat (first | (with_reducible first | exact HB.out | apply below_alloc | apply pw_below_drewN | apply below_drew1) | exact HB.out)))); have n1_ := Aside0.mk (below_step (by repeat (first | (with_reducible first | exact HB.out | apply below_alloc | apply pw_below_drewN | apply below_drew1) | exact HB.out)) hb); clear HB; have HO304 := n0_; have HB := n1_; clear n0_ n1_; (try clear hb); (try clear hb2); (try clear hk); (try clear hi); (try clear ho0)) | (go_at_call 17; (with_reducible refine (graph_Reducible.calls k _ _ l0 t305 t306 _ ?side1 ?side2 A5.out).mono ?_); (case side1 => repeat (first | exact (Kd.C_below HR0.out HB.out) | with_reducible first | refine Kd.C_alloc ?_ _ | refine Kd.C_drewN ?_ _ | refine Kd.C_drew ?_)); (case side2 => exact HC0.out); rintro e w8 ⟨rfl, hb⟩; have n0_ := Aside0.mk (Kd.S_below (by (with_reducible repeat (first | apply Kd.S_alloc | apply Kd.S_drewN | apply Kd.S_drew)); exact HO304.out) hb); have n1_ := Aside0.mk (below_step (by repeat (first | (with_reducible first | exact HB.out | apply below_alloc | apply pw_below_drewN | apply below_drew1) | exact HB.out)) hb); clear HO304; clear HB; have HO304 := n0_; have HB := n1_; clear n0_ n1_; (try clear hb); (try clear hb2); (try clear hk); (try clear hi)))
  repeat (go_quiet (first | (go_at_call 26; (with_reducible refine (l7_usable.calls k _ _ l0 true _ ?side1 ?side2 A2.out).mono ?_); (case side1 => repeat (first | exact HR0.out | with_reducible first | refine Kd.C_alloc ?_ _ | refine Kd.C_drewN ?_ _ | refine Kd.C_drew ?_)); (case side2 => exact HC0.out); rintro e w' ⟨rfl, ⟨nd, rfl⟩⟩; (try first | exact ⟨rfl, _, World.drewN_drewN _ _ _⟩ | exact ⟨rfl, _, Eq.trans (World.drewN_drewN _ _ _) (congrArg (World.drewN _) (Nat.add_assoc _ _ _))⟩)) | (go_at_call 16; (with_reducible refine (graph_Loops.calls k _ _ l0 t301 t302 _ ?side1 ?side2 A4.out).mono ?_); (case side1 => repeat (first | exact HR0.out | with_reducible first | refine Kd.C_alloc ?_ _ | refine Kd.C_drewN ?_ _ | refine Kd.C_drew ?_)); (case side2 => exact HC0.out); rintro e w7 ⟨v303, rfl, ho0, hb⟩; have n0_ := Aside0.mk (Kd.S_lower ho0 (below_size (by repeat (first | (with_reducible first | exact HB.out | apply below_alloc | apply pw_below_drewN | apply below_drew1) | exact HB.out)))); have n1_ := Aside0.mk (below_step (by repeat (first | (with_reducible first | exact HB.out | apply below_alloc | apply pw_below_drewN | apply below_drew1) | exact HB.out)) hb); clear HB; have HO304 := n0_; have HB := n1_; clear n0_ n1_; (try clear hb); (try clear hb2); (try clear hk); (try clear hi); (try clear ho0)) | (go_at_call 17; (with_reducible refine (graph_Reducible.calls k _ _ l0 t305 t306 _ ?side1 ?side2 A5.out).mono ?_); (case side1 => repeat (first | exact (Kd.C_below HR0.out HB.out) | with_reducible first | refine Kd.C_alloc ?_ _ | refine Kd.C_drewN ?_ _ | refine Kd.C_drew ?_)); (case side2 => exact HC0.out); rintro e w8 ⟨rfl, hb⟩; have n0_ := Aside0.mk (Kd.S_below (by (with_reducible repeat (first | apply Kd.S_alloc | apply Kd.S_drewN | apply Kd.S_drew)); exact HO304.out) hb); have n1_ := Aside0.mk (below_step (by repeat (first | (with_reducible first | exact HB.out | apply below_alloc | apply pw_below_drewN | apply below_drew1) | exact HB.out)) hb); clear HO304; clear HB; have HO304 := n0_; have HB := n1_; clear n0_ n1_; (try clear hb); (try clear hb2); (try clear hk); (try clear hi))); go_upto_region 5 with (first | (go_at_call 26; (with_reducible refine (l7_usable.calls k _ _ l0 true _ ?side1 ?side2 A2.out).mono ?_); (case side1 => repeat (first | exact HR0.out | with_reducible first | refine Kd.C_alloc ?_ _ | refine Kd.C_drewN ?_ _ | refine Kd.C_drew ?_)); (case side2 => exact HC0.out); rintro e w' ⟨rfl, ⟨nd, rfl⟩⟩; (try first | exact ⟨rfl, _, World.drewN_drewN _ _ _⟩ | exact ⟨rfl, _, Eq.trans (World.drewN_drewN _ _ _) (congrArg (World.drewN _) (Nat.add_assoc _ _ _))⟩)) | (go_at_call 16; (with_reducible refine (graph_Loops.calls k _ _ l0 t301 t302 _ ?side1 ?side2 A4.out).mono ?_); (case side1 => repeat (first | exact HR0.out | with_reducible first | refine Kd.C_alloc ?_ _ | refine Kd.C_drewN ?_ _ | refine Kd.C_drew ?_)); (case side2 => exact HC0.out); rintro e w7 ⟨v303, rfl, ho0, hb⟩; have n0_ := Aside0.mk (Kd.S_lower ho0 (below_size (by repeat (first | (with_reducible first | exact HB.out | apply below_alloc | apply pw_below_drewN | apply below_drew1) | exact HB.out)))); have n1_ := Aside0.mk (below_step (by repeat (first | (with_reducible first | exact HB.out | apply below_alloc | apply pw_below_drewN | apply below_drew1) | exact HB.out)) hb); clear HB; have HO304 := n0_; have HB := n1_; clear n0_ n1_; (try clear hb); (try clear hb2); (try clear hk); (try clear hi); (try clear ho0)) | (go_at_call 17; (with_reducible refine (graph_Reducible.calls k _ _ l0 t305 t306 _ ?side1 ?side2 A5.out).mono ?_); (case side1 => repeat (first | exact (Kd.C_below HR0.out HB.out) | with_reducible first | refine Kd.C_alloc ?_ _ | refine Kd.C_drewN ?_ _ | refine Kd.C_drew ?_)); (case side2 => exact HC0.out); rintro e w8 ⟨rfl, hb⟩; have n0_ := Aside0.mk (Kd.S_below (by (with_reducible repeat (first | apply Kd.S_alloc | apply Kd.S_drewN | apply Kd.S_drew)); exact HO304.out) hb); have n1_ := Aside0.mk (below_step (by repeat (first | (with_reducible first | exact HB.out | apply below_alloc | apply pw_below_drewN | apply below_drew1) | exact HB.out)) hb); clear HO304; clear HB; have HO304 := n0_; have HB := n1_; clear n0_ n1_; (try clear hb); (try clear hb2); (try clear hk); (try clear hi))))
  (try simp only [Act.put, List.setIfInBounds_toArray, List.set_cons_zero, List.set_cons_succ])
  go_cut [40] (fun v40 wc => ∃ (kq : Nat) (x40_5 : Bool), v40 = .bool x40_5 ∧ Aside0 (l7_GraphNests.j0 kq l0 t301 t305 x40_5 = some r) ∧ Aside0 (kq ≤ k) ∧ Aside0 (Kd.S (Kd.slice 3 (Kd.int .i64)) 33 wc w.heap.size (fun _ => True) v303 t301) ∧ Aside0 (Below w.heap.size w wc))
  case first =>
   have H := HC6.out; clear HC6; by_cases c9 : t302 = 0
   ·rw [if_pos c9] at H; have c9b0 : (t302 == 0) = true := beq_iff_eq.mpr c9
    have c9b1 : (t302 != 0) = false := bne_eq_false_iff_eq.mpr c9
    clear c9; (first | rw [c9b0] | (simp only [i64_w, i32_w]; rw [c9b0]) | skip)
    by_cases c10 : t306 = 0
    ·rw [if_pos c10] at H; have c10b0 : (t306 == 0) = true := beq_iff_eq.mpr c10
     have c10b1 : (t306 != 0) = false := bne_eq_false_iff_eq.mpr c10
     clear c10; have H' := Aside0.mk H
     clear H; obtain ⟨Ao11, co11, eo11⟩ := Kd.S_slice HO304.out; subst eo11; go_wp2
     repeat (go_quiet (fail); try go_wp2)
     go_meet
     case rel => exact ⟨_, (((t301.length : Int) != (l0.length : Int))), (by first | rfl | (simp; done) | (simp [*]; done)), H', ⟨by first | omega | exact Nat.le_refl _⟩, ⟨by (with_reducible repeat (first | apply Kd.S_alloc | apply Kd.S_drewN | apply Kd.S_drew)); exact HO304.out⟩, ⟨by repeat (first | (with_reducible first | exact HB.out | apply below_alloc | apply pw_below_drewN | apply below_drew1) | exact HB.out)⟩⟩
    ·rw [if_neg c10] at H; have c10b0 : (t306 == 0) = false := beq_eq_false_iff_ne.mpr c10
     have c10b1 : (t306 != 0) = true := bne_iff_ne.mpr c10
     have H' := Aside0.mk H
     clear H; go_wp2
     repeat (go_quiet (fail); try go_wp2)
     go_meet
     case rel => exact ⟨_, (true), (by first | rfl | (simp; done) | (simp [*]; done)), H', ⟨by first | omega | exact Nat.le_refl _⟩, ⟨by (with_reducible repeat (first | apply Kd.S_alloc | apply Kd.S_drewN | apply Kd.S_drew)); exact HO304.out⟩, ⟨by repeat (first | (with_reducible first | exact HB.out | apply below_alloc | apply pw_below_drewN | apply below_drew1) | exact HB.out)⟩⟩
   ·rw [if_neg c9] at H; have c9b0 : (t302 == 0) = false := beq_eq_false_iff_ne.mpr c9
    have c9b1 : (t302 != 0) = true := bne_iff_ne.mpr c9
    (first | rw [c9b0] | (simp only [i64_w, i32_w]; rw [c9b0]) | skip)
    have H' := Aside0.mk H
    clear H; go_wp2
    repeat (go_quiet (fail); try go_wp2)
    go_meet
    case rel => exact ⟨_, (true), (by first | rfl | (simp; done) | (simp [*]; done)), H', ⟨by first | omega | exact Nat.le_refl _⟩, ⟨by (with_reducible repeat (first | apply Kd.S_alloc | apply Kd.S_drewN | apply Kd.S_drew)); exact HO304.out⟩, ⟨by repeat (first | (with_reducible first | exact HB.out | apply below_alloc | apply pw_below_drewN | apply below_drew1) | exact HB.out)⟩⟩
  case rest =>
   clear HC6; try clear c1
   try clear p2
   try clear c3
   try clear c8
   try clear c9
   try clear c9b0
   try clear c9b1
   try clear c10
   try clear c10b0
   try clear c10b1
   obtain ⟨kq, x40_5, rfl, HA, HJ5, HO_3, HB⟩ := hcut; cases kq with
   | zero => exact absurd HA.out (by simp [l7_GraphNests.j0])
   | succ kj5 =>
    have H := HA.out; clear HA; simp only [l7_GraphNests.j0] at H
    by_cases c12 : x40_5 = true
    ·subst c12; have H1 : (some false) = some r := by rw [if_pos rfl] at H; exact H
     clear H; have H := H1; clear H1; exact absurd (Option.some.inj H) (by rw [HRT.out]; decide)
    ·replace c12 := Bool.eq_false_iff.mpr c12; subst c12; have H1 : (l7_GraphNests.l0 kj5 l0 t301 t305 0) = some r := by rw [if_neg (show ¬ (false = true) by decide)] at H; exact H
     clear H; have H := H1; clear H1; have H' := Aside0.mk H
     clear H; go_wp2
     repeat (go_quiet (fail); try go_wp2)
     go_loopg [7] kj5 (fun kq v7 w' => ∃ (x7_2 : Int), v7 = .int .i64 x7_2 ∧ Aside0 (l7_GraphNests.l0 kq l0 t301 t305 x7_2 = some r) ∧ Aside0 (kq ≤ kj5) ∧ Aside0 (Kd.S (Kd.slice 3 (Kd.int .i64)) 33 w' w.heap.size (fun _ => True) v303 t301) ∧ Aside0 (Below w.heap.size w w'))
     case atStart => exact ⟨(0), (by first | rfl | (simp; done) | (simp [*]; done)), H', ⟨Nat.le_refl _⟩, ⟨by (with_reducible repeat (first | apply Kd.S_alloc | apply Kd.S_drewN | apply Kd.S_drew)); exact HO_3.out⟩, ⟨by repeat (first | (with_reducible first | exact HB.out | apply below_alloc | apply pw_below_drewN | apply below_drew1) | exact HB.out)⟩⟩
     case round =>
      clear H'; try clear c1
      try clear p2
      try clear c3
      try clear c8
      try clear c9
      try clear c9b0
      try clear c9b1
      try clear c10
      try clear c10b0
      try clear c10b1
      try clear c12
      try clear p2
      obtain ⟨x7_2, rfl, HA, HK2, HO_3, HB⟩ := hrel; cases gk with
      | zero => exact absurd HA.out (by simp [l7_GraphNests.l0])
      | succ k2 =>
       have H := HA.out; clear HA; simp only [l7_GraphNests.l0] at H
       have HC13 := Aside0.mk H; clear H; go_upto_region 8 with (fail)
       repeat (go_quiet (fail); go_upto_region 8 with (fail))
       go_cut [47] (fun v47 wc => ∃ (kq : Nat) (x47_12 : Bool), v47 = .bool x47_12 ∧ Aside0 (l7_GraphNests.j2 kq l0 t301 t305 x7_2 x47_12 = some r) ∧ Aside0 (kq ≤ k2) ∧ Aside0 (Kd.S (Kd.slice 3 (Kd.int .i64)) 33 wc w.heap.size (fun _ => True) v303 t301) ∧ Aside0 (Below w.heap.size w wc))
       case first =>
        have H := HC13.out; clear HC13; by_cases c14 : x7_2 < (l0.length : Int)
        ·rw [if_pos c14] at H; have c14b0 : decide (x7_2 < (l0.length : Int)) = true := decide_eq_true c14
         clear c14; (first | rw [c14b0] | (simp only [i64_w, i32_w]; rw [c14b0]) | skip)
         have H' := Aside0.mk H
         clear H; go_wp2
         repeat (go_quiet (fail); try go_wp2)
         go_meet
         case rel => exact ⟨_, (t305), (by first | rfl | (simp; done) | (simp [*]; done)), H', ⟨by have := HJ5.out; have := HK2.out; first | omega | exact Nat.le_refl _⟩, ⟨by (with_reducible repeat (first | apply Kd.S_alloc | apply Kd.S_drewN | apply Kd.S_drew)); exact HO_3.out⟩, ⟨by repeat (first | (with_reducible first | exact HB.out | apply below_alloc | apply pw_below_drewN | apply below_drew1) | exact HB.out)⟩⟩
        ·rw [if_neg c14] at H; have c14b0 : decide (x7_2 < (l0.length : Int)) = false := decide_eq_false c14
         clear c14; (first | rw [c14b0] | (simp only [i64_w, i32_w]; rw [c14b0]) | skip)
         have H' := Aside0.mk H
         clear H; go_wp2
         repeat (go_quiet (fail); try go_wp2)
         go_meet
         case rel => exact ⟨_, (false), (by first | rfl | (simp; done) | (simp [*]; done)), H', ⟨by have := HJ5.out; have := HK2.out; first | omega | exact Nat.le_refl _⟩, ⟨by (with_reducible repeat (first | apply Kd.S_alloc | apply Kd.S_drewN | apply Kd.S_drew)); exact HO_3.out⟩, ⟨by repeat (first | (with_reducible first | exact HB.out | apply below_alloc | apply pw_below_drewN | apply below_drew1) | exact HB.out)⟩⟩
       case rest =>
        clear HC13; try clear c1
        try clear p2
        try clear c3
        try clear c8
        try clear c9
        try clear c9b0
        try clear c9b1
        try clear c10
        try clear c10b0
        try clear c10b1
        try clear c12
        try clear c14
        try clear c14b0
        try clear p2
        obtain ⟨kq, x47_12, rfl, HA, HJ12, HO_3, HB⟩ := hcut; cases kq with
        | zero => exact absurd HA.out (by simp [l7_GraphNests.j2])
        | succ kj12 =>
         have H := HA.out; clear HA; simp only [l7_GraphNests.j2] at H
         by_cases c15 : x47_12 = true
         ·subst c15; have H1 : (l7_GraphNests.l1 kj12 l0 t301 t305 x7_2 0) = some r := by rw [if_pos rfl] at H; exact H
          clear H; have H := H1; clear H1; have H' := Aside0.mk H
          clear H; go_wp2
          repeat (go_quiet (fail); try go_wp2)
          go_loopg [8] kj12 (fun kq v8 w' => ∃ (x8_4 : Int), v8 = .int .i64 x8_4 ∧ Aside0 (l7_GraphNests.l1 kq l0 t301 t305 x7_2 x8_4 = some r) ∧ Aside0 (kq ≤ kj12) ∧ Aside0 (Kd.S (Kd.slice 3 (Kd.int .i64)) 33 w' w.heap.size (fun _ => True) v303 t301) ∧ Aside0 (Below w.heap.size w w'))
          case atStart => exact ⟨(0), (by first | rfl | (simp; done) | (simp [*]; done)), H', ⟨Nat.le_refl _⟩, ⟨by (with_reducible repeat (first | apply Kd.S_alloc | apply Kd.S_drewN | apply Kd.S_drew)); exact HO_3.out⟩, ⟨by repeat (first | (with_reducible first | exact HB.out | apply below_alloc | apply pw_below_drewN | apply below_drew1) | exact HB.out)⟩⟩
          case round =>
           clear H'; try clear c1
           try clear p2
           try clear c3
           try clear c8
           try clear c9
           try clear c9b0
           try clear c9b1
           try clear c10
           try clear c10b0
           try clear c10b1
           try clear c12
           try clear c14
           try clear c14b0
           try clear c15
           try clear p2
           obtain ⟨x8_4, rfl, HA, HK4, HO_3, HB⟩ := hrel; cases gk with
           | zero => exact absurd HA.out (by simp [l7_GraphNests.l1])
           | succ k4 =>
            have H := HA.out; clear HA; simp only [l7_GraphNests.l1] at H
            by_cases c16 : 0 ≤ x7_2
            ·rw [if_pos c16] at H; have c16b0 : decide (0 ≤ x7_2) = true := decide_eq_true c16
             clear c16; by_cases c17 : x7_2 < (t301.length : Int)
             ·rw [if_pos c17] at H; have c17b0 : decide (x7_2 < (t301.length : Int)) = true := decide_eq_true c17
              clear c17; by_cases c18 : x8_4 < ((rd_L1 t301 x7_2).length : Int)
              ·rw [if_pos c18] at H; have c18b0 : decide (x8_4 < ((rd_L1 t301 x7_2).length : Int)) = true := decide_eq_true c18
               clear c18; by_cases c19 : 0 ≤ x8_4
               ·rw [if_pos c19] at H; have c19b0 : decide (0 ≤ x8_4) = true := decide_eq_true c19
                clear c19; replace H := Option.bind_eq_some_iff.mp H; obtain ⟨⟨t311, t312⟩, A200, H⟩ := H; replace H : (if t311 = true then (l7_GraphNests.l1 k4 l0 t301 t305 x7_2 (wrap64 (x8_4 + 1))) else (some false)) = some r := H
                have A20 := Aside0.mk A200; clear A200; by_cases c21 : t311 = true
                ·subst c21; have H1 : (l7_GraphNests.l1 k4 l0 t301 t305 x7_2 (wrap64 (x8_4 + 1))) = some r := by rw [if_pos rfl] at H; exact H
                 clear H; have H := H1; clear H1; have H' := Aside0.mk H
                 clear H; obtain ⟨Ao22, co22, eo22⟩ := Kd.S_slice HO_3.out; subst eo22; have p308 : 0 ≤ (x7_2 : Int) := of_decide_eq_true (by with_reducible assumption)
                 have q308 : x7_2 < (t301.length : Int) := of_decide_eq_true (by with_reducible assumption)
                 obtain ⟨ad308, A308_0, c308_0, e308, hx308_0, hl308_0, hi308_0⟩ := at_L1 (Kd.S_reads' HO_3.out).2.2 x7_2 p308 q308; cases e308; obtain ⟨ce308, hce308, hMe308, hcc308⟩ := Kd.S_get HO_3.out [] x7_2 p308 (by first | exact q308 | exact of_decide_eq_true (by with_reducible assumption) | (have e_ := (Kd.S_reads' HO_3.out).1; omega))
                 obtain ⟨ve308_0, rfl, ge308_0⟩ := hMe308; have hv308_0 := hcc308 0 _ rfl; rw [Nat.add_zero, show ((Kd.slice 3 (Kd.int .i64))).sz = 1 from rfl, Nat.mul_one] at hv308_0; replace hv308_0 := Option.some.inj (hv308_0.symm.trans hx308_0); rw [hv308_0] at ge308_0; have HL308_0 := Aside0.mk (show Kd.R (Kd.int .i64) 3 _ _ _ _ (rd_L1 t301 x7_2) from ge308_0); clear hv308_0 ge308_0; clear hcc308 hce308; have HR308_0 := Aside0.mk hi308_0; have HC308_0 := Aside0.mk hl308_0; clear hi308_0 hl308_0; replace p308 := eq_true p308; replace q308 := eq_true q308; have p309 : 0 ≤ (x7_2 : Int) := of_decide_eq_true (by with_reducible assumption)
                 have q309 : x7_2 < (t301.length : Int) := of_decide_eq_true (by with_reducible assumption)
                 obtain ⟨ad309, A309_0, c309_0, e309, hx309_0, hl309_0, hi309_0⟩ := at_L1 (Kd.S_reads' HO_3.out).2.2 x7_2 p309 q309; obtain rfl : ad308 = ad309 := (by injection e309)
                 obtain ⟨ce309, hce309, hMe309, hcc309⟩ := Kd.S_get HO_3.out [] x7_2 p309 (by first | exact q309 | exact of_decide_eq_true (by with_reducible assumption) | (have e_ := (Kd.S_reads' HO_3.out).1; omega))
                 obtain ⟨ve309_0, rfl, ge309_0⟩ := hMe309; have hv309_0 := hcc309 0 _ rfl; rw [Nat.add_zero, show ((Kd.slice 3 (Kd.int .i64))).sz = 1 from rfl, Nat.mul_one] at hv309_0; replace hv309_0 := Option.some.inj (hv309_0.symm.trans hx309_0); rw [hv309_0] at ge309_0; have HL309_0 := Aside0.mk (show Kd.R (Kd.int .i64) 3 _ _ _ _ (rd_L1 t301 x7_2) from ge309_0); clear hv309_0 ge309_0; clear hcc309 hce309; have HR309_0 := Aside0.mk hi309_0; have HC309_0 := Aside0.mk hl309_0; clear hi309_0 hl309_0; replace p309 := eq_true p309; replace q309 := eq_true q309; have ea_ := Option.some.inj (hx308_0.symm.trans hx309_0); injection ea_ with ea_ en_ ec_
                 subst ea_; subst ec_; clear en_; have p310 : 0 ≤ (x8_4 : Int) := of_decide_eq_true (by with_reducible assumption)
                 have q310 : x8_4 < ((rd_L1 t301 x7_2).length : Int) := of_decide_eq_true (by with_reducible assumption)
                 obtain ⟨ad310, e310, hx310_0⟩ := Kd.at_int (by repeat (first | (with_reducible exact HR309_0.out) | with_reducible first | refine Kd.C_alloc ?_ _ | refine Kd.C_drewN ?_ _ | refine Kd.C_drew ?_ | exact HR309_0.out)) x8_4 p310 q310
                 cases e310; replace p310 := eq_true p310; replace q310 := eq_true q310; go_wp2_with (first | (go_at_call 32; (with_reducible refine (graph_Dominates.calls k4 _ _ l0 x7_2 (rd (rd_L1 t301 x7_2) x8_4) true t312 _ ?side1 ?side2 A20.out).mono ?_); (case side1 => repeat (first | exact (Kd.C_below HR0.out HB.out) | with_reducible first | refine Kd.C_alloc ?_ _ | refine Kd.C_drewN ?_ _ | refine Kd.C_drew ?_)); (case side2 => exact HC0.out); rintro e w23 ⟨rfl, hb⟩; have n0_ := Aside0.mk (Kd.S_below (by (with_reducible repeat (first | apply Kd.S_alloc | apply Kd.S_drewN | apply Kd.S_drew)); exact HO_3.out) hb); have n1_ := Aside0.mk (Kd.R_below (by (with_reducible repeat (first | apply Kd.R_alloc | apply Kd.R_drewN | apply Kd.R_drew)); exact HL308_0.out) hb); have n2_ := Aside0.mk (Kd.R_below (by (with_reducible repeat (first | apply Kd.R_alloc | apply Kd.R_drewN | apply Kd.R_drew)); exact HL309_0.out) hb); have n3_ := Aside0.mk (Kd.C_below (by repeat (first | (with_reducible exact HR308_0.out) | with_reducible first | refine Kd.C_alloc ?_ _ | refine Kd.C_drewN ?_ _ | refine Kd.C_drew ?_ | exact HR308_0.out)) hb); have n4_ := Aside0.mk (Kd.C_below (by repeat (first | (with_reducible exact HR309_0.out) | with_reducible first | refine Kd.C_alloc ?_ _ | refine Kd.C_drewN ?_ _ | refine Kd.C_drew ?_ | exact HR309_0.out)) hb); have n5_ := Aside0.mk (below_step (by repeat (first | (with_reducible first | exact HB.out | apply below_alloc | apply pw_below_drewN | apply below_drew1) | exact HB.out)) hb); clear HO_3; clear HL308_0; clear HL309_0; clear HR308_0; clear HR309_0; clear HB; have HO_3 := n0_; have HL308_0 := n1_; have HL309_0 := n2_; have HR308_0 := n3_; have HR309_0 := n4_; have HB := n5_; clear n0_ n1_ n2_ n3_ n4_ n5_; (try clear hb); (try clear hb2); (try clear hk); (try clear hi)))
                 repeat (go_quiet (first | (go_at_call 32; (with_reducible refine (graph_Dominates.calls k4 _ _ l0 x7_2 (rd (rd_L1 t301 x7_2) x8_4) true t312 _ ?side1 ?side2 A20.out).mono ?_); (case side1 => repeat (first | exact (Kd.C_below HR0.out HB.out) | with_reducible first | refine Kd.C_alloc ?_ _ | refine Kd.C_drewN ?_ _ | refine Kd.C_drew ?_)); (case side2 => exact HC0.out); rintro e w23 ⟨rfl, hb⟩; have n0_ := Aside0.mk (Kd.S_below (by (with_reducible repeat (first | apply Kd.S_alloc | apply Kd.S_drewN | apply Kd.S_drew)); exact HO_3.out) hb); have n1_ := Aside0.mk (Kd.R_below (by (with_reducible repeat (first | apply Kd.R_alloc | apply Kd.R_drewN | apply Kd.R_drew)); exact HL308_0.out) hb); have n2_ := Aside0.mk (Kd.R_below (by (with_reducible repeat (first | apply Kd.R_alloc | apply Kd.R_drewN | apply Kd.R_drew)); exact HL309_0.out) hb); have n3_ := Aside0.mk (Kd.C_below (by repeat (first | (with_reducible exact HR308_0.out) | with_reducible first | refine Kd.C_alloc ?_ _ | refine Kd.C_drewN ?_ _ | refine Kd.C_drew ?_ | exact HR308_0.out)) hb); have n4_ := Aside0.mk (Kd.C_below (by repeat (first | (with_reducible exact HR309_0.out) | with_reducible first | refine Kd.C_alloc ?_ _ | refine Kd.C_drewN ?_ _ | refine Kd.C_drew ?_ | exact HR309_0.out)) hb); have n5_ := Aside0.mk (below_step (by repeat (first | (with_reducible first | exact HB.out | apply below_alloc | apply pw_below_drewN | apply below_drew1) | exact HB.out)) hb); clear HO_3; clear HL308_0; clear HL309_0; clear HR308_0; clear HR309_0; clear HB; have HO_3 := n0_; have HL308_0 := n1_; have HL309_0 := n2_; have HR308_0 := n3_; have HR309_0 := n4_; have HB := n5_; clear n0_ n1_ n2_ n3_ n4_ n5_; (try clear hb); (try clear hb2); (try clear hk); (try clear hi))); try go_wp2_with (first | (go_at_call 32; (with_reducible refine (graph_Dominates.calls k4 _ _ l0 x7_2 (rd (rd_L1 t301 x7_2) x8_4) true t312 _ ?side1 ?side2 A20.out).mono ?_); (case side1 => repeat (first | exact (Kd.C_below HR0.out HB.out) | with_reducible first | refine Kd.C_alloc ?_ _ | refine Kd.C_drewN ?_ _ | refine Kd.C_drew ?_)); (case side2 => exact HC0.out); rintro e w23 ⟨rfl, hb⟩; have n0_ := Aside0.mk (Kd.S_below (by (with_reducible repeat (first | apply Kd.S_alloc | apply Kd.S_drewN | apply Kd.S_drew)); exact HO_3.out) hb); have n1_ := Aside0.mk (Kd.R_below (by (with_reducible repeat (first | apply Kd.R_alloc | apply Kd.R_drewN | apply Kd.R_drew)); exact HL308_0.out) hb); have n2_ := Aside0.mk (Kd.R_below (by (with_reducible repeat (first | apply Kd.R_alloc | apply Kd.R_drewN | apply Kd.R_drew)); exact HL309_0.out) hb); have n3_ := Aside0.mk (Kd.C_below (by repeat (first | (with_reducible exact HR308_0.out) | with_reducible first | refine Kd.C_alloc ?_ _ | refine Kd.C_drewN ?_ _ | refine Kd.C_drew ?_ | exact HR308_0.out)) hb); have n4_ := Aside0.mk (Kd.C_below (by repeat (first | (with_reducible exact HR309_0.out) | with_reducible first | refine Kd.C_alloc ?_ _ | refine Kd.C_drewN ?_ _ | refine Kd.C_drew ?_ | exact HR309_0.out)) hb); have n5_ := Aside0.mk (below_step (by repeat (first | (with_reducible first | exact HB.out | apply below_alloc | apply pw_below_drewN | apply below_drew1) | exact HB.out)) hb); clear HO_3; clear HL308_0; clear HL309_0; clear HR308_0; clear HR309_0; clear HB; have HO_3 := n0_; have HL308_0 := n1_; have HL309_0 := n2_; have HR308_0 := n3_; have HR309_0 := n4_; have HB := n5_; clear n0_ n1_ n2_ n3_ n4_ n5_; (try clear hb); (try clear hb2); (try clear hk); (try clear hi))))
                 go_roundg k4
                 case measure => have := HJ5.out; have := HK2.out; have := HJ12.out; have := HK4.out; omega
                 case rel => exact ⟨(wrap64 (x8_4 + 1)), (by first | rfl | (simp; done) | (simp [*]; done)), H', ⟨by have := HJ5.out; have := HK2.out; have := HJ12.out; have := HK4.out; omega⟩, ⟨by (with_reducible repeat (first | apply Kd.S_alloc | apply Kd.S_drewN | apply Kd.S_drew)); exact HO_3.out⟩, ⟨by repeat (first | (with_reducible first | exact HB.out | apply below_alloc | apply pw_below_drewN | apply below_drew1) | exact HB.out)⟩⟩
                ·replace c21 := Bool.eq_false_iff.mpr c21; subst c21; have H1 : (some false) = some r := by rw [if_neg (show ¬ (false = true) by decide)] at H; exact H
                 clear H; have H := H1; clear H1; exact absurd (Option.some.inj H) (by rw [HRT.out]; decide)
               ·rw [if_neg c19] at H; exact absurd H (by simp)
              ·rw [if_neg c18] at H; have c18b0 : decide (x8_4 < ((rd_L1 t301 x7_2).length : Int)) = false := decide_eq_false c18
               clear c18; have H' := Aside0.mk H
               clear H; obtain ⟨Ao26, co26, eo26⟩ := Kd.S_slice HO_3.out; subst eo26; have p308 : 0 ≤ (x7_2 : Int) := of_decide_eq_true (by with_reducible assumption)
               have q308 : x7_2 < (t301.length : Int) := of_decide_eq_true (by with_reducible assumption)
               obtain ⟨ad308, A308_0, c308_0, e308, hx308_0, hl308_0, hi308_0⟩ := at_L1 (Kd.S_reads' HO_3.out).2.2 x7_2 p308 q308; cases e308; obtain ⟨ce308, hce308, hMe308, hcc308⟩ := Kd.S_get HO_3.out [] x7_2 p308 (by first | exact q308 | exact of_decide_eq_true (by with_reducible assumption) | (have e_ := (Kd.S_reads' HO_3.out).1; omega))
               obtain ⟨ve308_0, rfl, ge308_0⟩ := hMe308; have hv308_0 := hcc308 0 _ rfl; rw [Nat.add_zero, show ((Kd.slice 3 (Kd.int .i64))).sz = 1 from rfl, Nat.mul_one] at hv308_0; replace hv308_0 := Option.some.inj (hv308_0.symm.trans hx308_0); rw [hv308_0] at ge308_0; have HL308_0 := Aside0.mk (show Kd.R (Kd.int .i64) 3 _ _ _ _ (rd_L1 t301 x7_2) from ge308_0); clear hv308_0 ge308_0; clear hcc308 hce308; have HR308_0 := Aside0.mk hi308_0; have HC308_0 := Aside0.mk hl308_0; clear hi308_0 hl308_0; replace p308 := eq_true p308; replace q308 := eq_true q308; go_wp2
               repeat (go_quiet (fail); try go_wp2)
               go_loopg [11] k4 (fun kq v11 w' => ∃ (x11_5 : Int), v11 = .int .i64 x11_5 ∧ Aside0 (l7_GraphNests.l2 kq l0 t301 t305 x7_2 x11_5 = some r) ∧ Aside0 (kq ≤ k4) ∧ Aside0 (Kd.S (Kd.slice 3 (Kd.int .i64)) 33 w' w.heap.size (fun _ => True) (.slice (some ad308) t301.length co26) t301) ∧ Aside0 (Kd.C (Kd.int .i64) w' A308_0 (rd_L1 t301 x7_2).length (rd_L1 t301 x7_2)) ∧ Aside0 (Below w.heap.size w w'))
               case atStart => exact ⟨(0), (by first | rfl | (simp; done) | (simp [*]; done)), H', ⟨Nat.le_refl _⟩, ⟨by (with_reducible repeat (first | apply Kd.S_alloc | apply Kd.S_drewN | apply Kd.S_drew)); exact HO_3.out⟩, ⟨by repeat (first | (with_reducible exact HR308_0.out) | with_reducible first | refine Kd.C_alloc ?_ _ | refine Kd.C_drewN ?_ _ | refine Kd.C_drew ?_ | exact HR308_0.out)⟩, ⟨by repeat (first | (with_reducible first | exact HB.out | apply below_alloc | apply pw_below_drewN | apply below_drew1) | exact HB.out)⟩⟩
               case round =>
                clear H'; try clear c1
                try clear c2
                try clear p2
                try clear c3
                try clear p3
                try clear q3
                try clear hx3
                try clear p6
                try clear c8
                try clear c9
                try clear c9b0
                try clear c9b1
                try clear c10
                try clear c10b0
                try clear c10b1
                try clear c12
                try clear c14
                try clear c14b0
                try clear c15
                try clear c16
                try clear c16b0
                try clear c17
                try clear c17b0
                try clear c18
                try clear c18b0
                try clear c19
                try clear c19b0
                try clear c21
                try clear hx308_0
                try clear hx309_0
                try clear hx310_0
                try clear p2
                try clear p308
                try clear p309
                try clear p310
                try clear q308
                try clear q309
                try clear q310
                obtain ⟨x11_5, rfl, HA, HK5, HO_3, HR308_0, HB⟩ := hrel; cases gk with
                | zero => exact absurd HA.out (by simp [l7_GraphNests.l2])
                | succ k5 =>
                 have H := HA.out; clear HA; simp only [l7_GraphNests.l2] at H
                 by_cases c27 : x11_5 < (l0.length : Int)
                 ·rw [if_pos c27] at H; have c27b0 : decide (x11_5 < (l0.length : Int)) = true := decide_eq_true c27
                  clear c27; have H' := Aside0.mk H
                  clear H; go_wp2
                  repeat (go_quiet (fail); try go_wp2)
                  go_loopg [12, 13] k5 (fun kq v12 v13 w' => ∃ (x12_6 : Int) (x13_6 : Int), v12 = .int .i64 x12_6 ∧ v13 = .int .i64 x13_6 ∧ Aside0 (l7_GraphNests.l3 kq l0 t301 t305 x7_2 x11_5 x12_6 x13_6 = some r) ∧ Aside0 (kq ≤ k5) ∧ Aside0 (Kd.S (Kd.slice 3 (Kd.int .i64)) 33 w' w.heap.size (fun _ => True) (.slice (some ad308) t301.length co26) t301) ∧ Aside0 (Kd.C (Kd.int .i64) w' A308_0 (rd_L1 t301 x7_2).length (rd_L1 t301 x7_2)) ∧ Aside0 (Below w.heap.size w w'))
                  case atStart => exact ⟨(0), (0), (by first | rfl | (simp; done) | (simp [*]; done)), (by first | rfl | (simp; done) | (simp [*]; done)), H', ⟨Nat.le_refl _⟩, ⟨by (with_reducible repeat (first | apply Kd.S_alloc | apply Kd.S_drewN | apply Kd.S_drew)); exact HO_3.out⟩, ⟨by repeat (first | (with_reducible exact HR308_0.out) | with_reducible first | refine Kd.C_alloc ?_ _ | refine Kd.C_drewN ?_ _ | refine Kd.C_drew ?_ | exact HR308_0.out)⟩, ⟨by repeat (first | (with_reducible first | exact HB.out | apply below_alloc | apply pw_below_drewN | apply below_drew1) | exact HB.out)⟩⟩
                  case round =>
                   clear H'; try clear c1
                   try clear c2
                   try clear p2
                   try clear c3
                   try clear p3
                   try clear q3
                   try clear hx3
                   try clear p6
                   try clear c8
                   try clear c9
                   try clear c9b0
                   try clear c9b1
                   try clear c10
                   try clear c10b0
                   try clear c10b1
                   try clear c12
                   try clear c14
                   try clear c14b0
                   try clear c15
                   try clear c16
                   try clear c16b0
                   try clear c17
                   try clear c17b0
                   try clear c18
                   try clear c18b0
                   try clear c19
                   try clear c19b0
                   try clear c21
                   try clear c27
                   try clear c27b0
                   try clear hx308_0
                   try clear hx309_0
                   try clear hx310_0
                   try clear p2
                   try clear p3
                   try clear p308
                   try clear p309
                   try clear p310
                   try clear p6
                   try clear q3
                   try clear q308
                   try clear q309
                   try clear q310
                   obtain ⟨x12_6, x13_6, rfl, rfl, HA, HK6, HO_3, HR308_0, HB⟩ := hrel; cases gk with
                   | zero => exact absurd HA.out (by simp [l7_GraphNests.l3])
                   | succ k6 =>
                    have H := HA.out; clear HA; simp only [l7_GraphNests.l3] at H
                    by_cases c28 : 0 ≤ x7_2
                    ·rw [if_pos c28] at H; have c28b0 : decide (0 ≤ x7_2) = true := decide_eq_true c28
                     clear c28; by_cases c29 : x7_2 < (t301.length : Int)
                     ·rw [if_pos c29] at H; have c29b0 : decide (x7_2 < (t301.length : Int)) = true := decide_eq_true c29
                      clear c29; by_cases c30 : x13_6 < ((rd_L1 t301 x7_2).length : Int)
                      ·rw [if_pos c30] at H; have c30b0 : decide (x13_6 < ((rd_L1 t301 x7_2).length : Int)) = true := decide_eq_true c30
                       clear c30; by_cases c31 : 0 ≤ x13_6
                       ·rw [if_pos c31] at H; have c31b0 : decide (0 ≤ x13_6) = true := decide_eq_true c31
                        clear c31; by_cases c32 : 0 ≤ x11_5
                        ·rw [if_pos c32] at H; have c32b0 : decide (0 ≤ x11_5) = true := decide_eq_true c32
                         clear c32; by_cases c33 : x11_5 < (t301.length : Int)
                         ·rw [if_pos c33] at H; have c33b0 : decide (x11_5 < (t301.length : Int)) = true := decide_eq_true c33
                          clear c33; replace H := Option.bind_eq_some_iff.mp H; obtain ⟨t317, A340, H⟩ := H; replace H : (if t317 = true then (l7_GraphNests.l3 k6 l0 t301 t305 x7_2 x11_5 (wrap64 (x12_6 + 1)) (wrap64 (x13_6 + 1))) else (l7_GraphNests.l3 k6 l0 t301 t305 x7_2 x11_5 x12_6 (wrap64 (x13_6 + 1)))) = some r := H
                          have A34 := Aside0.mk A340; clear A340; by_cases c35 : t317 = true
                          ·subst c35; have H1 : (l7_GraphNests.l3 k6 l0 t301 t305 x7_2 x11_5 (wrap64 (x12_6 + 1)) (wrap64 (x13_6 + 1))) = some r := by rw [if_pos rfl] at H; exact H
                           clear H; have H := H1; clear H1; have H' := Aside0.mk H
                           clear H; have p313 : 0 ≤ (x7_2 : Int) := of_decide_eq_true (by with_reducible assumption)
                           have q313 : x7_2 < (t301.length : Int) := of_decide_eq_true (by with_reducible assumption)
                           obtain ⟨ad313, A313_0, c313_0, e313, hx313_0, hl313_0, hi313_0⟩ := at_L1 (Kd.S_reads' HO_3.out).2.2 x7_2 p313 q313; obtain rfl : ad308 = ad313 := (by injection e313)
                           obtain ⟨ce313, hce313, hMe313, hcc313⟩ := Kd.S_get HO_3.out [] x7_2 p313 (by first | exact q313 | exact of_decide_eq_true (by with_reducible assumption) | (have e_ := (Kd.S_reads' HO_3.out).1; omega))
                           obtain ⟨ve313_0, rfl, ge313_0⟩ := hMe313; have hv313_0 := hcc313 0 _ rfl; rw [Nat.add_zero, show ((Kd.slice 3 (Kd.int .i64))).sz = 1 from rfl, Nat.mul_one] at hv313_0; replace hv313_0 := Option.some.inj (hv313_0.symm.trans hx313_0); rw [hv313_0] at ge313_0; have HL313_0 := Aside0.mk (show Kd.R (Kd.int .i64) 3 _ _ _ _ (rd_L1 t301 x7_2) from ge313_0); clear hv313_0 ge313_0; clear hcc313 hce313; have HR313_0 := Aside0.mk hi313_0; have HC313_0 := Aside0.mk hl313_0; clear hi313_0 hl313_0; replace p313 := eq_true p313; replace q313 := eq_true q313; have p314 : 0 ≤ (x7_2 : Int) := of_decide_eq_true (by with_reducible assumption)
                           have q314 : x7_2 < (t301.length : Int) := of_decide_eq_true (by with_reducible assumption)
                           obtain ⟨ad314, A314_0, c314_0, e314, hx314_0, hl314_0, hi314_0⟩ := at_L1 (Kd.S_reads' HO_3.out).2.2 x7_2 p314 q314; obtain rfl : ad308 = ad314 := (by injection e314)
                           obtain ⟨ce314, hce314, hMe314, hcc314⟩ := Kd.S_get HO_3.out [] x7_2 p314 (by first | exact q314 | exact of_decide_eq_true (by with_reducible assumption) | (have e_ := (Kd.S_reads' HO_3.out).1; omega))
                           obtain ⟨ve314_0, rfl, ge314_0⟩ := hMe314; have hv314_0 := hcc314 0 _ rfl; rw [Nat.add_zero, show ((Kd.slice 3 (Kd.int .i64))).sz = 1 from rfl, Nat.mul_one] at hv314_0; replace hv314_0 := Option.some.inj (hv314_0.symm.trans hx314_0); rw [hv314_0] at ge314_0; have HL314_0 := Aside0.mk (show Kd.R (Kd.int .i64) 3 _ _ _ _ (rd_L1 t301 x7_2) from ge314_0); clear hv314_0 ge314_0; clear hcc314 hce314; have HR314_0 := Aside0.mk hi314_0; have HC314_0 := Aside0.mk hl314_0; clear hi314_0 hl314_0; replace p314 := eq_true p314; replace q314 := eq_true q314; have ea_ := Option.some.inj (hx313_0.symm.trans hx314_0); injection ea_ with ea_ en_ ec_
                           subst ea_; subst ec_; clear en_; have p315 : 0 ≤ (x13_6 : Int) := of_decide_eq_true (by with_reducible assumption)
                           have q315 : x13_6 < ((rd_L1 t301 x7_2).length : Int) := of_decide_eq_true (by with_reducible assumption)
                           obtain ⟨ad315, e315, hx315_0⟩ := Kd.at_int (by repeat (first | (with_reducible exact HR314_0.out) | with_reducible first | refine Kd.C_alloc ?_ _ | refine Kd.C_drewN ?_ _ | refine Kd.C_drew ?_ | exact HR314_0.out)) x13_6 p315 q315
                           cases e315; replace p315 := eq_true p315; replace q315 := eq_true q315; have p316 : 0 ≤ (x11_5 : Int) := of_decide_eq_true (by with_reducible assumption)
                           have q316 : x11_5 < (t301.length : Int) := of_decide_eq_true (by with_reducible assumption)
                           obtain ⟨ad316, A316_0, c316_0, e316, hx316_0, hl316_0, hi316_0⟩ := at_L1 (Kd.S_reads' HO_3.out).2.2 x11_5 p316 q316; obtain rfl : ad308 = ad316 := (by injection e316)
                           obtain ⟨ce316, hce316, hMe316, hcc316⟩ := Kd.S_get HO_3.out [] x11_5 p316 (by first | exact q316 | exact of_decide_eq_true (by with_reducible assumption) | (have e_ := (Kd.S_reads' HO_3.out).1; omega))
                           obtain ⟨ve316_0, rfl, ge316_0⟩ := hMe316; have hv316_0 := hcc316 0 _ rfl; rw [Nat.add_zero, show ((Kd.slice 3 (Kd.int .i64))).sz = 1 from rfl, Nat.mul_one] at hv316_0; replace hv316_0 := Option.some.inj (hv316_0.symm.trans hx316_0); rw [hv316_0] at ge316_0; have HL316_0 := Aside0.mk (show Kd.R (Kd.int .i64) 3 _ _ _ _ (rd_L1 t301 x11_5) from ge316_0); clear hv316_0 ge316_0; clear hcc316 hce316; have HR316_0 := Aside0.mk hi316_0; have HC316_0 := Aside0.mk hl316_0; clear hi316_0 hl316_0; replace p316 := eq_true p316; replace q316 := eq_true q316; go_wp2_with (first | (go_at_call 28; (with_reducible refine (r7_In.calls k6 (rd (rd_L1 t301 x7_2) x13_6) _ _ (rd_L1 t301 x11_5) true _ ?side1 ?side2 A34.out).mono ?_); (case side1 => repeat (first | exact (by repeat (first | (with_reducible exact HR316_0.out) | with_reducible first | refine Kd.C_alloc ?_ _ | refine Kd.C_drewN ?_ _ | refine Kd.C_drew ?_ | exact HR316_0.out)) | with_reducible first | refine Kd.C_alloc ?_ _ | refine Kd.C_drewN ?_ _ | refine Kd.C_drew ?_)); (case side2 => exact HC316_0.out); rintro e w' ⟨rfl, ⟨nd, rfl⟩⟩; (try first | exact ⟨rfl, _, World.drewN_drewN _ _ _⟩ | exact ⟨rfl, _, Eq.trans (World.drewN_drewN _ _ _) (congrArg (World.drewN _) (Nat.add_assoc _ _ _))⟩)))
                           repeat (go_quiet (first | (go_at_call 28; (with_reducible refine (r7_In.calls k6 (rd (rd_L1 t301 x7_2) x13_6) _ _ (rd_L1 t301 x11_5) true _ ?side1 ?side2 A34.out).mono ?_); (case side1 => repeat (first | exact (by repeat (first | (with_reducible exact HR316_0.out) | with_reducible first | refine Kd.C_alloc ?_ _ | refine Kd.C_drewN ?_ _ | refine Kd.C_drew ?_ | exact HR316_0.out)) | with_reducible first | refine Kd.C_alloc ?_ _ | refine Kd.C_drewN ?_ _ | refine Kd.C_drew ?_)); (case side2 => exact HC316_0.out); rintro e w' ⟨rfl, ⟨nd, rfl⟩⟩; (try first | exact ⟨rfl, _, World.drewN_drewN _ _ _⟩ | exact ⟨rfl, _, Eq.trans (World.drewN_drewN _ _ _) (congrArg (World.drewN _) (Nat.add_assoc _ _ _))⟩))); try go_wp2_with (first | (go_at_call 28; (with_reducible refine (r7_In.calls k6 (rd (rd_L1 t301 x7_2) x13_6) _ _ (rd_L1 t301 x11_5) true _ ?side1 ?side2 A34.out).mono ?_); (case side1 => repeat (first | exact (by repeat (first | (with_reducible exact HR316_0.out) | with_reducible first | refine Kd.C_alloc ?_ _ | refine Kd.C_drewN ?_ _ | refine Kd.C_drew ?_ | exact HR316_0.out)) | with_reducible first | refine Kd.C_alloc ?_ _ | refine Kd.C_drewN ?_ _ | refine Kd.C_drew ?_)); (case side2 => exact HC316_0.out); rintro e w' ⟨rfl, ⟨nd, rfl⟩⟩; (try first | exact ⟨rfl, _, World.drewN_drewN _ _ _⟩ | exact ⟨rfl, _, Eq.trans (World.drewN_drewN _ _ _) (congrArg (World.drewN _) (Nat.add_assoc _ _ _))⟩))))
                           go_roundg k6
                           case measure => have := HJ5.out; have := HK2.out; have := HJ12.out; have := HK4.out; have := HK5.out; have := HK6.out; omega
                           case rel => exact ⟨(wrap64 (x12_6 + 1)), (wrap64 (x13_6 + 1)), (by first | rfl | (simp; done) | (simp [*]; done)), (by first | rfl | (simp; done) | (simp [*]; done)), H', ⟨by have := HJ5.out; have := HK2.out; have := HJ12.out; have := HK4.out; have := HK5.out; have := HK6.out; omega⟩, ⟨by (with_reducible repeat (first | apply Kd.S_alloc | apply Kd.S_drewN | apply Kd.S_drew)); exact HO_3.out⟩, ⟨by repeat (first | (with_reducible exact HR308_0.out) | with_reducible first | refine Kd.C_alloc ?_ _ | refine Kd.C_drewN ?_ _ | refine Kd.C_drew ?_ | exact HR308_0.out)⟩, ⟨by repeat (first | (with_reducible first | exact HB.out | apply below_alloc | apply pw_below_drewN | apply below_drew1) | exact HB.out)⟩⟩
                          ·replace c35 := Bool.eq_false_iff.mpr c35; subst c35; have H1 : (l7_GraphNests.l3 k6 l0 t301 t305 x7_2 x11_5 x12_6 (wrap64 (x13_6 + 1))) = some r := by rw [if_neg (show ¬ (false = true) by decide)] at H; exact H
                           clear H; have H := H1; clear H1; have H' := Aside0.mk H
                           clear H; have p313 : 0 ≤ (x7_2 : Int) := of_decide_eq_true (by with_reducible assumption)
                           have q313 : x7_2 < (t301.length : Int) := of_decide_eq_true (by with_reducible assumption)
                           obtain ⟨ad313, A313_0, c313_0, e313, hx313_0, hl313_0, hi313_0⟩ := at_L1 (Kd.S_reads' HO_3.out).2.2 x7_2 p313 q313; obtain rfl : ad308 = ad313 := (by injection e313)
                           obtain ⟨ce313, hce313, hMe313, hcc313⟩ := Kd.S_get HO_3.out [] x7_2 p313 (by first | exact q313 | exact of_decide_eq_true (by with_reducible assumption) | (have e_ := (Kd.S_reads' HO_3.out).1; omega))
                           obtain ⟨ve313_0, rfl, ge313_0⟩ := hMe313; have hv313_0 := hcc313 0 _ rfl; rw [Nat.add_zero, show ((Kd.slice 3 (Kd.int .i64))).sz = 1 from rfl, Nat.mul_one] at hv313_0; replace hv313_0 := Option.some.inj (hv313_0.symm.trans hx313_0); rw [hv313_0] at ge313_0; have HL313_0 := Aside0.mk (show Kd.R (Kd.int .i64) 3 _ _ _ _ (rd_L1 t301 x7_2) from ge313_0); clear hv313_0 ge313_0; clear hcc313 hce313; have HR313_0 := Aside0.mk hi313_0; have HC313_0 := Aside0.mk hl313_0; clear hi313_0 hl313_0; replace p313 := eq_true p313; replace q313 := eq_true q313; have p314 : 0 ≤ (x7_2 : Int) := of_decide_eq_true (by with_reducible assumption)
                           have q314 : x7_2 < (t301.length : Int) := of_decide_eq_true (by with_reducible assumption)
                           obtain ⟨ad314, A314_0, c314_0, e314, hx314_0, hl314_0, hi314_0⟩ := at_L1 (Kd.S_reads' HO_3.out).2.2 x7_2 p314 q314; obtain rfl : ad308 = ad314 := (by injection e314)
                           obtain ⟨ce314, hce314, hMe314, hcc314⟩ := Kd.S_get HO_3.out [] x7_2 p314 (by first | exact q314 | exact of_decide_eq_true (by with_reducible assumption) | (have e_ := (Kd.S_reads' HO_3.out).1; omega))
                           obtain ⟨ve314_0, rfl, ge314_0⟩ := hMe314; have hv314_0 := hcc314 0 _ rfl; rw [Nat.add_zero, show ((Kd.slice 3 (Kd.int .i64))).sz = 1 from rfl, Nat.mul_one] at hv314_0; replace hv314_0 := Option.some.inj (hv314_0.symm.trans hx314_0); rw [hv314_0] at ge314_0; have HL314_0 := Aside0.mk (show Kd.R (Kd.int .i64) 3 _ _ _ _ (rd_L1 t301 x7_2) from ge314_0); clear hv314_0 ge314_0; clear hcc314 hce314; have HR314_0 := Aside0.mk hi314_0; have HC314_0 := Aside0.mk hl314_0; clear hi314_0 hl314_0; replace p314 := eq_true p314; replace q314 := eq_true q314; have ea_ := Option.some.inj (hx313_0.symm.trans hx314_0); injection ea_ with ea_ en_ ec_
                           subst ea_; subst ec_; clear en_; have p315 : 0 ≤ (x13_6 : Int) := of_decide_eq_true (by with_reducible assumption)
                           have q315 : x13_6 < ((rd_L1 t301 x7_2).length : Int) := of_decide_eq_true (by with_reducible assumption)
                           obtain ⟨ad315, e315, hx315_0⟩ := Kd.at_int (by repeat (first | (with_reducible exact HR314_0.out) | with_reducible first | refine Kd.C_alloc ?_ _ | refine Kd.C_drewN ?_ _ | refine Kd.C_drew ?_ | exact HR314_0.out)) x13_6 p315 q315
                           cases e315; replace p315 := eq_true p315; replace q315 := eq_true q315; have p316 : 0 ≤ (x11_5 : Int) := of_decide_eq_true (by with_reducible assumption)
                           have q316 : x11_5 < (t301.length : Int) := of_decide_eq_true (by with_reducible assumption)
                           obtain ⟨ad316, A316_0, c316_0, e316, hx316_0, hl316_0, hi316_0⟩ := at_L1 (Kd.S_reads' HO_3.out).2.2 x11_5 p316 q316; obtain rfl : ad308 = ad316 := (by injection e316)
                           obtain ⟨ce316, hce316, hMe316, hcc316⟩ := Kd.S_get HO_3.out [] x11_5 p316 (by first | exact q316 | exact of_decide_eq_true (by with_reducible assumption) | (have e_ := (Kd.S_reads' HO_3.out).1; omega))
                           obtain ⟨ve316_0, rfl, ge316_0⟩ := hMe316; have hv316_0 := hcc316 0 _ rfl; rw [Nat.add_zero, show ((Kd.slice 3 (Kd.int .i64))).sz = 1 from rfl, Nat.mul_one] at hv316_0; replace hv316_0 := Option.some.inj (hv316_0.symm.trans hx316_0); rw [hv316_0] at ge316_0; have HL316_0 := Aside0.mk (show Kd.R (Kd.int .i64) 3 _ _ _ _ (rd_L1 t301 x11_5) from ge316_0); clear hv316_0 ge316_0; clear hcc316 hce316; have HR316_0 := Aside0.mk hi316_0; have HC316_0 := Aside0.mk hl316_0; clear hi316_0 hl316_0; replace p316 := eq_true p316; replace q316 := eq_true q316; go_wp2_with (first | (go_at_call 28; (with_reducible refine (r7_In.calls k6 (rd (rd_L1 t301 x7_2) x13_6) _ _ (rd_L1 t301 x11_5) false _ ?side1 ?side2 A34.out).mono ?_); (case side1 => repeat (first | exact (by repeat (first | (with_reducible exact HR316_0.out) | with_reducible first | refine Kd.C_alloc ?_ _ | refine Kd.C_drewN ?_ _ | refine Kd.C_drew ?_ | exact HR316_0.out)) | with_reducible first | refine Kd.C_alloc ?_ _ | refine Kd.C_drewN ?_ _ | refine Kd.C_drew ?_)); (case side2 => exact HC316_0.out); rintro e w' ⟨rfl, ⟨nd, rfl⟩⟩; (try first | exact ⟨rfl, _, World.drewN_drewN _ _ _⟩ | exact ⟨rfl, _, Eq.trans (World.drewN_drewN _ _ _) (congrArg (World.drewN _) (Nat.add_assoc _ _ _))⟩)))
                           repeat (go_quiet (first | (go_at_call 28; (with_reducible refine (r7_In.calls k6 (rd (rd_L1 t301 x7_2) x13_6) _ _ (rd_L1 t301 x11_5) false _ ?side1 ?side2 A34.out).mono ?_); (case side1 => repeat (first | exact (by repeat (first | (with_reducible exact HR316_0.out) | with_reducible first | refine Kd.C_alloc ?_ _ | refine Kd.C_drewN ?_ _ | refine Kd.C_drew ?_ | exact HR316_0.out)) | with_reducible first | refine Kd.C_alloc ?_ _ | refine Kd.C_drewN ?_ _ | refine Kd.C_drew ?_)); (case side2 => exact HC316_0.out); rintro e w' ⟨rfl, ⟨nd, rfl⟩⟩; (try first | exact ⟨rfl, _, World.drewN_drewN _ _ _⟩ | exact ⟨rfl, _, Eq.trans (World.drewN_drewN _ _ _) (congrArg (World.drewN _) (Nat.add_assoc _ _ _))⟩))); try go_wp2_with (first | (go_at_call 28; (with_reducible refine (r7_In.calls k6 (rd (rd_L1 t301 x7_2) x13_6) _ _ (rd_L1 t301 x11_5) false _ ?side1 ?side2 A34.out).mono ?_); (case side1 => repeat (first | exact (by repeat (first | (with_reducible exact HR316_0.out) | with_reducible first | refine Kd.C_alloc ?_ _ | refine Kd.C_drewN ?_ _ | refine Kd.C_drew ?_ | exact HR316_0.out)) | with_reducible first | refine Kd.C_alloc ?_ _ | refine Kd.C_drewN ?_ _ | refine Kd.C_drew ?_)); (case side2 => exact HC316_0.out); rintro e w' ⟨rfl, ⟨nd, rfl⟩⟩; (try first | exact ⟨rfl, _, World.drewN_drewN _ _ _⟩ | exact ⟨rfl, _, Eq.trans (World.drewN_drewN _ _ _) (congrArg (World.drewN _) (Nat.add_assoc _ _ _))⟩))))
                           go_roundg k6
                           case measure => have := HJ5.out; have := HK2.out; have := HJ12.out; have := HK4.out; have := HK5.out; have := HK6.out; omega
                           case rel => exact ⟨(x12_6), (wrap64 (x13_6 + 1)), (by first | rfl | (simp; done) | (simp [*]; done)), (by first | rfl | (simp; done) | (simp [*]; done)), H', ⟨by have := HJ5.out; have := HK2.out; have := HJ12.out; have := HK4.out; have := HK5.out; have := HK6.out; omega⟩, ⟨by (with_reducible repeat (first | apply Kd.S_alloc | apply Kd.S_drewN | apply Kd.S_drew)); exact HO_3.out⟩, ⟨by repeat (first | (with_reducible exact HR308_0.out) | with_reducible first | refine Kd.C_alloc ?_ _ | refine Kd.C_drewN ?_ _ | refine Kd.C_drew ?_ | exact HR308_0.out)⟩, ⟨by repeat (first | (with_reducible first | exact HB.out | apply below_alloc | apply pw_below_drewN | apply below_drew1) | exact HB.out)⟩⟩
                         ·rw [if_neg c33] at H; exact absurd H (by simp)
                        ·rw [if_neg c32] at H; exact absurd H (by simp)
                       ·rw [if_neg c31] at H; exact absurd H (by simp)
                      ·rw [if_neg c30] at H; have c30b0 : decide (x13_6 < ((rd_L1 t301 x7_2).length : Int)) = false := decide_eq_false c30
                       clear c30; by_cases c36 : x12_6 = 0
                       ·rw [if_pos c36] at H; have c36b0 : (x12_6 == 0) = true := beq_iff_eq.mpr c36
                        have c36b1 : (x12_6 != 0) = false := bne_eq_false_iff_eq.mpr c36
                        clear c36; have H' := Aside0.mk H
                        clear H; have p313 : 0 ≤ (x7_2 : Int) := of_decide_eq_true (by with_reducible assumption)
                        have q313 : x7_2 < (t301.length : Int) := of_decide_eq_true (by with_reducible assumption)
                        obtain ⟨ad313, A313_0, c313_0, e313, hx313_0, hl313_0, hi313_0⟩ := at_L1 (Kd.S_reads' HO_3.out).2.2 x7_2 p313 q313; obtain rfl : ad308 = ad313 := (by injection e313)
                        obtain ⟨ce313, hce313, hMe313, hcc313⟩ := Kd.S_get HO_3.out [] x7_2 p313 (by first | exact q313 | exact of_decide_eq_true (by with_reducible assumption) | (have e_ := (Kd.S_reads' HO_3.out).1; omega))
                        obtain ⟨ve313_0, rfl, ge313_0⟩ := hMe313; have hv313_0 := hcc313 0 _ rfl; rw [Nat.add_zero, show ((Kd.slice 3 (Kd.int .i64))).sz = 1 from rfl, Nat.mul_one] at hv313_0; replace hv313_0 := Option.some.inj (hv313_0.symm.trans hx313_0); rw [hv313_0] at ge313_0; have HL313_0 := Aside0.mk (show Kd.R (Kd.int .i64) 3 _ _ _ _ (rd_L1 t301 x7_2) from ge313_0); clear hv313_0 ge313_0; clear hcc313 hce313; have HR313_0 := Aside0.mk hi313_0; have HC313_0 := Aside0.mk hl313_0; clear hi313_0 hl313_0; replace p313 := eq_true p313; replace q313 := eq_true q313; go_wp2
                        repeat (go_quiet (fail); try go_wp2)
                        go_roundg k6
                        case measure => have := HJ5.out; have := HK2.out; have := HJ12.out; have := HK4.out; have := HK5.out; have := HK6.out; omega
                        case rel => exact ⟨(wrap64 (x11_5 + 1)), (by first | rfl | (simp; done) | (simp [*]; done)), H', ⟨by have := HJ5.out; have := HK2.out; have := HJ12.out; have := HK4.out; have := HK5.out; have := HK6.out; omega⟩, ⟨by (with_reducible repeat (first | apply Kd.S_alloc | apply Kd.S_drewN | apply Kd.S_drew)); exact HO_3.out⟩, ⟨by repeat (first | (with_reducible exact HR308_0.out) | with_reducible first | refine Kd.C_alloc ?_ _ | refine Kd.C_drewN ?_ _ | refine Kd.C_drew ?_ | exact HR308_0.out)⟩, ⟨by repeat (first | (with_reducible first | exact HB.out | apply below_alloc | apply pw_below_drewN | apply below_drew1) | exact HB.out)⟩⟩
                       ·rw [if_neg c36] at H; have c36b0 : (x12_6 == 0) = false := beq_eq_false_iff_ne.mpr c36
                        have c36b1 : (x12_6 != 0) = true := bne_iff_ne.mpr c36
                        by_cases c37 : x12_6 = ((rd_L1 t301 x7_2).length : Int)
                        ·rw [if_pos c37] at H; have c37b0 : (x12_6 == ((rd_L1 t301 x7_2).length : Int)) = true := beq_iff_eq.mpr c37
                         have c37b1 : (x12_6 != ((rd_L1 t301 x7_2).length : Int)) = false := bne_eq_false_iff_eq.mpr c37
                         clear c37; have H' := Aside0.mk H
                         clear H; have p313 : 0 ≤ (x7_2 : Int) := of_decide_eq_true (by with_reducible assumption)
                         have q313 : x7_2 < (t301.length : Int) := of_decide_eq_true (by with_reducible assumption)
                         obtain ⟨ad313, A313_0, c313_0, e313, hx313_0, hl313_0, hi313_0⟩ := at_L1 (Kd.S_reads' HO_3.out).2.2 x7_2 p313 q313; obtain rfl : ad308 = ad313 := (by injection e313)
                         obtain ⟨ce313, hce313, hMe313, hcc313⟩ := Kd.S_get HO_3.out [] x7_2 p313 (by first | exact q313 | exact of_decide_eq_true (by with_reducible assumption) | (have e_ := (Kd.S_reads' HO_3.out).1; omega))
                         obtain ⟨ve313_0, rfl, ge313_0⟩ := hMe313; have hv313_0 := hcc313 0 _ rfl; rw [Nat.add_zero, show ((Kd.slice 3 (Kd.int .i64))).sz = 1 from rfl, Nat.mul_one] at hv313_0; replace hv313_0 := Option.some.inj (hv313_0.symm.trans hx313_0); rw [hv313_0] at ge313_0; have HL313_0 := Aside0.mk (show Kd.R (Kd.int .i64) 3 _ _ _ _ (rd_L1 t301 x7_2) from ge313_0); clear hv313_0 ge313_0; clear hcc313 hce313; have HR313_0 := Aside0.mk hi313_0; have HC313_0 := Aside0.mk hl313_0; clear hi313_0 hl313_0; replace p313 := eq_true p313; replace q313 := eq_true q313; have p318 : 0 ≤ (x7_2 : Int) := of_decide_eq_true (by with_reducible assumption)
                         have q318 : x7_2 < (t301.length : Int) := of_decide_eq_true (by with_reducible assumption)
                         obtain ⟨ad318, A318_0, c318_0, e318, hx318_0, hl318_0, hi318_0⟩ := at_L1 (Kd.S_reads' HO_3.out).2.2 x7_2 p318 q318; obtain rfl : ad308 = ad318 := (by injection e318)
                         obtain ⟨ce318, hce318, hMe318, hcc318⟩ := Kd.S_get HO_3.out [] x7_2 p318 (by first | exact q318 | exact of_decide_eq_true (by with_reducible assumption) | (have e_ := (Kd.S_reads' HO_3.out).1; omega))
                         obtain ⟨ve318_0, rfl, ge318_0⟩ := hMe318; have hv318_0 := hcc318 0 _ rfl; rw [Nat.add_zero, show ((Kd.slice 3 (Kd.int .i64))).sz = 1 from rfl, Nat.mul_one] at hv318_0; replace hv318_0 := Option.some.inj (hv318_0.symm.trans hx318_0); rw [hv318_0] at ge318_0; have HL318_0 := Aside0.mk (show Kd.R (Kd.int .i64) 3 _ _ _ _ (rd_L1 t301 x7_2) from ge318_0); clear hv318_0 ge318_0; clear hcc318 hce318; have HR318_0 := Aside0.mk hi318_0; have HC318_0 := Aside0.mk hl318_0; clear hi318_0 hl318_0; replace p318 := eq_true p318; replace q318 := eq_true q318; have ea_ := Option.some.inj (hx313_0.symm.trans hx318_0); injection ea_ with ea_ en_ ec_
                         subst ea_; subst ec_; clear en_; go_wp2
                         repeat (go_quiet (fail); try go_wp2)
                         go_roundg k6
                         case measure => have := HJ5.out; have := HK2.out; have := HJ12.out; have := HK4.out; have := HK5.out; have := HK6.out; omega
                         case rel => exact ⟨(wrap64 (x11_5 + 1)), (by first | rfl | (simp; done) | (simp [*]; done)), H', ⟨by have := HJ5.out; have := HK2.out; have := HJ12.out; have := HK4.out; have := HK5.out; have := HK6.out; omega⟩, ⟨by (with_reducible repeat (first | apply Kd.S_alloc | apply Kd.S_drewN | apply Kd.S_drew)); exact HO_3.out⟩, ⟨by repeat (first | (with_reducible exact HR308_0.out) | with_reducible first | refine Kd.C_alloc ?_ _ | refine Kd.C_drewN ?_ _ | refine Kd.C_drew ?_ | exact HR308_0.out)⟩, ⟨by repeat (first | (with_reducible first | exact HB.out | apply below_alloc | apply pw_below_drewN | apply below_drew1) | exact HB.out)⟩⟩
                        ·rw [if_neg c37] at H; have c37b0 : (x12_6 == ((rd_L1 t301 x7_2).length : Int)) = false := beq_eq_false_iff_ne.mpr c37
                         have c37b1 : (x12_6 != ((rd_L1 t301 x7_2).length : Int)) = true := bne_iff_ne.mpr c37
                         by_cases c38 : 0 ≤ x11_5
                         ·rw [if_pos c38] at H; have c38b0 : decide (0 ≤ x11_5) = true := decide_eq_true c38
                          clear c38; by_cases c39 : x11_5 < (t301.length : Int)
                          ·rw [if_pos c39] at H; have c39b0 : decide (x11_5 < (t301.length : Int)) = true := decide_eq_true c39
                           clear c39; by_cases c40 : x12_6 = ((rd_L1 t301 x11_5).length : Int)
                           ·rw [if_pos c40] at H; have c40b0 : (x12_6 == ((rd_L1 t301 x11_5).length : Int)) = true := beq_iff_eq.mpr c40
                            have c40b1 : (x12_6 != ((rd_L1 t301 x11_5).length : Int)) = false := bne_eq_false_iff_eq.mpr c40
                            clear c40; have H' := Aside0.mk H
                            clear H; have p313 : 0 ≤ (x7_2 : Int) := of_decide_eq_true (by with_reducible assumption)
                            have q313 : x7_2 < (t301.length : Int) := of_decide_eq_true (by with_reducible assumption)
                            obtain ⟨ad313, A313_0, c313_0, e313, hx313_0, hl313_0, hi313_0⟩ := at_L1 (Kd.S_reads' HO_3.out).2.2 x7_2 p313 q313; obtain rfl : ad308 = ad313 := (by injection e313)
                            obtain ⟨ce313, hce313, hMe313, hcc313⟩ := Kd.S_get HO_3.out [] x7_2 p313 (by first | exact q313 | exact of_decide_eq_true (by with_reducible assumption) | (have e_ := (Kd.S_reads' HO_3.out).1; omega))
                            obtain ⟨ve313_0, rfl, ge313_0⟩ := hMe313; have hv313_0 := hcc313 0 _ rfl; rw [Nat.add_zero, show ((Kd.slice 3 (Kd.int .i64))).sz = 1 from rfl, Nat.mul_one] at hv313_0; replace hv313_0 := Option.some.inj (hv313_0.symm.trans hx313_0); rw [hv313_0] at ge313_0; have HL313_0 := Aside0.mk (show Kd.R (Kd.int .i64) 3 _ _ _ _ (rd_L1 t301 x7_2) from ge313_0); clear hv313_0 ge313_0; clear hcc313 hce313; have HR313_0 := Aside0.mk hi313_0; have HC313_0 := Aside0.mk hl313_0; clear hi313_0 hl313_0; replace p313 := eq_true p313; replace q313 := eq_true q313; have p318 : 0 ≤ (x7_2 : Int) := of_decide_eq_true (by with_reducible assumption)
                            have q318 : x7_2 < (t301.length : Int) := of_decide_eq_true (by with_reducible assumption)
                            obtain ⟨ad318, A318_0, c318_0, e318, hx318_0, hl318_0, hi318_0⟩ := at_L1 (Kd.S_reads' HO_3.out).2.2 x7_2 p318 q318; obtain rfl : ad308 = ad318 := (by injection e318)
                            obtain ⟨ce318, hce318, hMe318, hcc318⟩ := Kd.S_get HO_3.out [] x7_2 p318 (by first | exact q318 | exact of_decide_eq_true (by with_reducible assumption) | (have e_ := (Kd.S_reads' HO_3.out).1; omega))
                            obtain ⟨ve318_0, rfl, ge318_0⟩ := hMe318; have hv318_0 := hcc318 0 _ rfl; rw [Nat.add_zero, show ((Kd.slice 3 (Kd.int .i64))).sz = 1 from rfl, Nat.mul_one] at hv318_0; replace hv318_0 := Option.some.inj (hv318_0.symm.trans hx318_0); rw [hv318_0] at ge318_0; have HL318_0 := Aside0.mk (show Kd.R (Kd.int .i64) 3 _ _ _ _ (rd_L1 t301 x7_2) from ge318_0); clear hv318_0 ge318_0; clear hcc318 hce318; have HR318_0 := Aside0.mk hi318_0; have HC318_0 := Aside0.mk hl318_0; clear hi318_0 hl318_0; replace p318 := eq_true p318; replace q318 := eq_true q318; have ea_ := Option.some.inj (hx313_0.symm.trans hx318_0); injection ea_ with ea_ en_ ec_
                            subst ea_; subst ec_; clear en_; have p319 : 0 ≤ (x11_5 : Int) := of_decide_eq_true (by with_reducible assumption)
                            have q319 : x11_5 < (t301.length : Int) := of_decide_eq_true (by with_reducible assumption)
                            obtain ⟨ad319, A319_0, c319_0, e319, hx319_0, hl319_0, hi319_0⟩ := at_L1 (Kd.S_reads' HO_3.out).2.2 x11_5 p319 q319; obtain rfl : ad308 = ad319 := (by injection e319)
                            obtain ⟨ce319, hce319, hMe319, hcc319⟩ := Kd.S_get HO_3.out [] x11_5 p319 (by first | exact q319 | exact of_decide_eq_true (by with_reducible assumption) | (have e_ := (Kd.S_reads' HO_3.out).1; omega))
                            obtain ⟨ve319_0, rfl, ge319_0⟩ := hMe319; have hv319_0 := hcc319 0 _ rfl; rw [Nat.add_zero, show ((Kd.slice 3 (Kd.int .i64))).sz = 1 from rfl, Nat.mul_one] at hv319_0; replace hv319_0 := Option.some.inj (hv319_0.symm.trans hx319_0); rw [hv319_0] at ge319_0; have HL319_0 := Aside0.mk (show Kd.R (Kd.int .i64) 3 _ _ _ _ (rd_L1 t301 x11_5) from ge319_0); clear hv319_0 ge319_0; clear hcc319 hce319; have HR319_0 := Aside0.mk hi319_0; have HC319_0 := Aside0.mk hl319_0; clear hi319_0 hl319_0; replace p319 := eq_true p319; replace q319 := eq_true q319; go_wp2
                            repeat (go_quiet (fail); try go_wp2)
                            go_roundg k6
                            case measure => have := HJ5.out; have := HK2.out; have := HJ12.out; have := HK4.out; have := HK5.out; have := HK6.out; omega
                            case rel => exact ⟨(wrap64 (x11_5 + 1)), (by first | rfl | (simp; done) | (simp [*]; done)), H', ⟨by have := HJ5.out; have := HK2.out; have := HJ12.out; have := HK4.out; have := HK5.out; have := HK6.out; omega⟩, ⟨by (with_reducible repeat (first | apply Kd.S_alloc | apply Kd.S_drewN | apply Kd.S_drew)); exact HO_3.out⟩, ⟨by repeat (first | (with_reducible exact HR308_0.out) | with_reducible first | refine Kd.C_alloc ?_ _ | refine Kd.C_drewN ?_ _ | refine Kd.C_drew ?_ | exact HR308_0.out)⟩, ⟨by repeat (first | (with_reducible first | exact HB.out | apply below_alloc | apply pw_below_drewN | apply below_drew1) | exact HB.out)⟩⟩
                           ·rw [if_neg c40] at H; have c40b0 : (x12_6 == ((rd_L1 t301 x11_5).length : Int)) = false := beq_eq_false_iff_ne.mpr c40
                            have c40b1 : (x12_6 != ((rd_L1 t301 x11_5).length : Int)) = true := bne_iff_ne.mpr c40
                            exact absurd (Option.some.inj H) (by rw [HRT.out]; decide)
                          ·rw [if_neg c39] at H; exact absurd H (by simp)
                         ·rw [if_neg c38] at H; exact absurd H (by simp)
                     ·rw [if_neg c29] at H; exact absurd H (by simp)
                    ·rw [if_neg c28] at H; exact absurd H (by simp)
                 ·rw [if_neg c27] at H; have c27b0 : decide (x11_5 < (l0.length : Int)) = false := decide_eq_false c27
                  clear c27; have H' := Aside0.mk H
                  clear H; go_wp2
                  repeat (go_quiet (fail); try go_wp2)
                  go_roundg k5
                  case measure => have := HJ5.out; have := HK2.out; have := HJ12.out; have := HK4.out; have := HK5.out; omega
                  case rel => exact ⟨(wrap64 (x7_2 + 1)), (by first | rfl | (simp; done) | (simp [*]; done)), H', ⟨by have := HJ5.out; have := HK2.out; have := HJ12.out; have := HK4.out; have := HK5.out; omega⟩, ⟨by (with_reducible repeat (first | apply Kd.S_alloc | apply Kd.S_drewN | apply Kd.S_drew)); exact HO_3.out⟩, ⟨by repeat (first | (with_reducible first | exact HB.out | apply below_alloc | apply pw_below_drewN | apply below_drew1) | exact HB.out)⟩⟩
             ·rw [if_neg c17] at H; exact absurd H (by simp)
            ·rw [if_neg c16] at H; exact absurd H (by simp)
         ·replace c15 := Bool.eq_false_iff.mpr c15; subst c15; have H1 : ((l7_awake.f kj12).bind fun t307 => (some t307)) = some r := by rw [if_neg (show ¬ (false = true) by decide)] at H; exact H
          clear H; have H := H1; clear H1; replace H := Option.bind_eq_some_iff.mp H; obtain ⟨t307, A410, H⟩ := H; replace H : (some t307) = some r := H; have A41 := Aside0.mk A410; clear A410; obtain rfl := Option.some.inj H; go_wp2_with (first | (go_at_call 14; (with_reducible refine (l7_awake.calls kj12  t307 _ A41.out).mono ?_); rintro e w42 ⟨rfl, hb⟩; have n0_ := Aside0.mk (Kd.S_below (by (with_reducible repeat (first | apply Kd.S_alloc | apply Kd.S_drewN | apply Kd.S_drew)); exact HO_3.out) hb); have n1_ := Aside0.mk (below_step (by repeat (first | (with_reducible first | exact HB.out | apply below_alloc | apply pw_below_drewN | apply below_drew1) | exact HB.out)) hb); clear HO_3; clear HB; have HO_3 := n0_; have HB := n1_; clear n0_ n1_; (try clear hb); (try clear hb2); (try clear hk); (try clear hi)))
          repeat (go_quiet (first | (go_at_call 14; (with_reducible refine (l7_awake.calls kj12  t307 _ A41.out).mono ?_); rintro e w42 ⟨rfl, hb⟩; have n0_ := Aside0.mk (Kd.S_below (by (with_reducible repeat (first | apply Kd.S_alloc | apply Kd.S_drewN | apply Kd.S_drew)); exact HO_3.out) hb); have n1_ := Aside0.mk (below_step (by repeat (first | (with_reducible first | exact HB.out | apply below_alloc | apply pw_below_drewN | apply below_drew1) | exact HB.out)) hb); clear HO_3; clear HB; have HO_3 := n0_; have HB := n1_; clear n0_ n1_; (try clear hb); (try clear hb2); (try clear hk); (try clear hi))); try go_wp2_with (first | (go_at_call 14; (with_reducible refine (l7_awake.calls kj12  t307 _ A41.out).mono ?_); rintro e w42 ⟨rfl, hb⟩; have n0_ := Aside0.mk (Kd.S_below (by (with_reducible repeat (first | apply Kd.S_alloc | apply Kd.S_drewN | apply Kd.S_drew)); exact HO_3.out) hb); have n1_ := Aside0.mk (below_step (by repeat (first | (with_reducible first | exact HB.out | apply below_alloc | apply pw_below_drewN | apply below_drew1) | exact HB.out)) hb); clear HO_3; clear HB; have HO_3 := n0_; have HB := n1_; clear n0_ n1_; (try clear hb); (try clear hb2); (try clear hk); (try clear hi))))
          go_ret
          exact ⟨by first | rfl | (simp [errW_none, errW_some] <;> rfl) | (simp [*, errW_none, errW_some] <;> rfl), by repeat (first | (with_reducible first | exact HB.out | apply below_alloc | apply pw_below_drewN | apply below_drew1) | exact HB.out)⟩
 ·replace c3 := Bool.eq_false_iff.mpr c3; subst c3; have H1 : ((l7_awake.f k).bind fun t300 => (some t300)) = some r := by rw [if_neg (show ¬ (false = true) by decide)] at H; exact H
  clear H; have H := H1; clear H1; replace H := Option.bind_eq_some_iff.mp H; obtain ⟨t300, A430, H⟩ := H; replace H : (some t300) = some r := H; have A43 := Aside0.mk A430; clear A430; obtain rfl := Option.some.inj H; go_enter Try.func8, Try.ntmps8
  go_wp2_with (first | (go_at_call 26; (with_reducible refine (l7_usable.calls k _ _ l0 false _ ?side1 ?side2 A2.out).mono ?_); (case side1 => repeat (first | exact HR0.out | with_reducible first | refine Kd.C_alloc ?_ _ | refine Kd.C_drewN ?_ _ | refine Kd.C_drew ?_)); (case side2 => exact HC0.out); rintro e w' ⟨rfl, ⟨nd, rfl⟩⟩; (try first | exact ⟨rfl, _, World.drewN_drewN _ _ _⟩ | exact ⟨rfl, _, Eq.trans (World.drewN_drewN _ _ _) (congrArg (World.drewN _) (Nat.add_assoc _ _ _))⟩)) | (go_at_call 14; (with_reducible refine (l7_awake.calls k  t300 _ A43.out).mono ?_); rintro e w44 ⟨rfl, hb⟩; have n0_ := Aside0.mk (below_step (by repeat (first | (with_reducible first | exact HB.out | apply below_alloc | apply pw_below_drewN | apply below_drew1) | exact HB.out)) hb); clear HB; have HB := n0_; clear n0_; (try clear hb); (try clear hb2); (try clear hk); (try clear hi)))
  repeat (go_quiet (first | (go_at_call 26; (with_reducible refine (l7_usable.calls k _ _ l0 false _ ?side1 ?side2 A2.out).mono ?_); (case side1 => repeat (first | exact HR0.out | with_reducible first | refine Kd.C_alloc ?_ _ | refine Kd.C_drewN ?_ _ | refine Kd.C_drew ?_)); (case side2 => exact HC0.out); rintro e w' ⟨rfl, ⟨nd, rfl⟩⟩; (try first | exact ⟨rfl, _, World.drewN_drewN _ _ _⟩ | exact ⟨rfl, _, Eq.trans (World.drewN_drewN _ _ _) (congrArg (World.drewN _) (Nat.add_assoc _ _ _))⟩)) | (go_at_call 14; (with_reducible refine (l7_awake.calls k  t300 _ A43.out).mono ?_); rintro e w44 ⟨rfl, hb⟩; have n0_ := Aside0.mk (below_step (by repeat (first | (with_reducible first | exact HB.out | apply below_alloc | apply pw_below_drewN | apply below_drew1) | exact HB.out)) hb); clear HB; have HB := n0_; clear n0_; (try clear hb); (try clear hb2); (try clear hk); (try clear hi))); try go_wp2_with (first | (go_at_call 26; (with_reducible refine (l7_usable.calls k _ _ l0 false _ ?side1 ?side2 A2.out).mono ?_); (case side1 => repeat (first | exact HR0.out | with_reducible first | refine Kd.C_alloc ?_ _ | refine Kd.C_drewN ?_ _ | refine Kd.C_drew ?_)); (case side2 => exact HC0.out); rintro e w' ⟨rfl, ⟨nd, rfl⟩⟩; (try first | exact ⟨rfl, _, World.drewN_drewN _ _ _⟩ | exact ⟨rfl, _, Eq.trans (World.drewN_drewN _ _ _) (congrArg (World.drewN _) (Nat.add_assoc _ _ _))⟩)) | (go_at_call 14; (with_reducible refine (l7_awake.calls k  t300 _ A43.out).mono ?_); rintro e w44 ⟨rfl, hb⟩; have n0_ := Aside0.mk (below_step (by repeat (first | (with_reducible first | exact HB.out | apply below_alloc | apply pw_below_drewN | apply below_drew1) | exact HB.out)) hb); clear HB; have HB := n0_; clear n0_; (try clear hb); (try clear hb2); (try clear hk); (try clear hi))))
  go_ret
  exact ⟨by first | rfl | (simp [errW_none, errW_some] <;> rfl) | (simp [*, errW_none, errW_some] <;> rfl), by repeat (first | (with_reducible first | exact HB.out | apply below_alloc | apply pw_below_drewN | apply below_drew1) | exact HB.out)⟩
end Go.Proofs.Ytjjedbcgkljdeaa.L
end
section
namespace Go.Proofs.Ytjjedbcgkljdeaa.L
open Go.RowKit Go.Proofs.YtjjedbcgkljdeaaW.PrintWords Go.Proofs.YtjjedbcgkljdeaaW.PrintLast Go.Proofs.YtjjedbcgkljdeaaW.PrintMore Go.Proofs.Ytjjedbcgkljdeaa.D Go.Proofs.Ytjjedbcgkljdeaa.M
section
variable {g T : List (List Int)}
theorem nests_row (F : Int → Int → Prop) (n a : Nat) (ha : a < n) : rd_L1 (rowsOf F n) (a : Int) = rowTo (F (a : Int)) n := by
 show Go.Proofs.Ytjjedbcgkljdeaa.A.rd_L1 (rowsOf F n) (a : Int) = _
 rw [rd_L1_nat _ a (by rw [rowsOf_len]; exact ha)]
 simp [rowsOf]
theorem take_filter {l : List Int} (p : Int → Bool) (i : Nat) (hi : i < l.length) : ((l.take (i + 1)).filter p).length = ((l.take i).filter p).length + if p l[i] = true then 1 else 0 := by
 rw [List.take_succ_eq_append_getElem hi, List.filter_append, List.length_append]; congr 1
 by_cases h : p l[i] = true
 ·simp [h]
 ·simp [h]
theorem nests_l3 (hT : TurnedOf 4 g T) (hg : Gr g) (h1 : 1 ≤ g.length) (hn : g.length ≤ 40) (v : Bool) (a b : Nat) (ha : a < g.length) (hb : b < g.length) (r : Bool) (hr : Evt (fun k => l7_GraphNests.l2 k g (rowsOf (LF g T) g.length) v (a : Int) ((b + 1 : Nat) : Int)) r) :
  ∀ (m i c : Nat), i + m = (rd_L1 (rowsOf (LF g T) g.length) (a : Int)).length → c = (((rowTo (LF g T (a : Int)) g.length).take i).filter fun x => decide (x ∈ rowTo (LF g T (b : Int)) g.length)).length → Evt (fun k => l7_GraphNests.l3 k g (rowsOf (LF g T) g.length) v (a : Int) (b : Int) (c : Int) (i : Int)) r
 | 0, i, c, hm, hc => by
  have hl := rowsOf_len (LF g T) g.length; have hra := nests_row (LF g T) g.length a ha; have hrb := nests_row (LF g T) g.length b hb; have hfin : c = 0 ∨ c = (rd_L1 (rowsOf (LF g T) g.length) (a : Int)).length ∨ c = (rd_L1 (rowsOf (LF g T) g.length) (b : Int)).length := by
   rw [List.take_of_length_le (by rw [← hra]; omega)] at hc
   rcases loops_nest (g := g) (a : Int) (b : Int) with h | h | h
   ·rw [rowTo_filter _ (fun _ => False) _ _ (fun x h0 h1' => by
     simp only [decide_eq_true_eq, rowTo_mem, iff_false]
     rintro ⟨h2, _, _, h3⟩
     exact h x (h2.loop hT) (h3.loop hT))] at hc
    refine .inl ?_
    rw [hc]; unfold rowTo
    simp
   ·rw [rowTo_filter _ (LF g T (a : Int)) _ _ (fun x h0 h1' => by
     simp only [decide_eq_true_eq, rowTo_mem]
     constructor
     ·exact fun h2 => h2.1
     ·exact fun h2 => ⟨h2, h0, h1', (h x (h2.loop hT)).lf hT hg h1⟩)] at hc
    exact .inr (.inl (by rw [hc, hra]))
   ·rw [rowTo_filter _ (LF g T (b : Int)) _ _ (fun x h0 h1' => by
     simp only [decide_eq_true_eq, rowTo_mem]
     constructor
     ·exact fun h2 => h2.2.2.2
     ·exact fun h2 => ⟨(h x (h2.loop hT)).lf hT hg h1, h0, h1', h2⟩)] at hc
    exact .inr (.inr (by rw [hc, hrb]))
  refine Evt.succ ?_
  simp only [l7_GraphNests.l3, wrap_succ b (by omega)]
  refine Evt.pos (by omega) (Evt.pos (by omega) (Evt.neg (show ¬ (i : Int) < ((rd_L1 (rowsOf (LF g T) g.length) (a : Int)).length : Int) by omega) ?_))
  by_cases c0 : c = 0
  ·exact Evt.pos (by omega) hr
  refine Evt.neg (by omega) ?_
  by_cases c1 : c = (rd_L1 (rowsOf (LF g T) g.length) (a : Int)).length
  ·exact Evt.pos (by omega) hr
  refine Evt.neg (by omega) (Evt.pos (by omega) (Evt.pos (by omega) (Evt.pos ?_ hr)))
  have := (hfin.resolve_left c0).resolve_left c1
  omega
 | m + 1, i, c, hm, hc => by
  have hl := rowsOf_len (LF g T) g.length; have hi : i < (rd_L1 (rowsOf (LF g T) g.length) (a : Int)).length := by omega
  have hra := nests_row (LF g T) g.length a ha; have hrb := nests_row (LF g T) g.length b hb; have hrl : (rd_L1 (rowsOf (LF g T) g.length) (a : Int)).length ≤ g.length := by rw [hra]; exact rowTo_len _ _
  have hrd : rd (rd_L1 (rowsOf (LF g T) g.length) (a : Int)) (i : Int) = (rd_L1 (rowsOf (LF g T) g.length) (a : Int))[i] := rd_nat _ _ hi
  obtain ⟨w, hw1, hw2⟩ := in_ev (rd_L1 (rowsOf (LF g T) g.length) (a : Int))[i] (rd_L1 (rowsOf (LF g T) g.length) (b : Int)) (by rw [hrb]; exact Nat.le_trans (rowTo_len _ _) (by omega))
  have hcl : c ≤ i := by
   rw [hc]; exact Nat.le_trans (List.length_filter_le _ _) (by rw [List.length_take]; exact Nat.min_le_left _ _)
  have hi' : i < (rowTo (LF g T (a : Int)) g.length).length := by rw [← hra]; exact hi
  have hstep := take_filter (l := rowTo (LF g T (a : Int)) g.length) (fun x => decide (x ∈ rowTo (LF g T (b : Int)) g.length)) i hi'
  have he : (rd_L1 (rowsOf (LF g T) g.length) (a : Int))[i] = (rowTo (LF g T (a : Int)) g.length)[i] := by simp only [hra]
  rw [← he, ← hc] at hstep; rw [hrb] at hw1; refine Evt.succ ?_
  simp only [l7_GraphNests.l3, hrd, wrap_succ i (by omega), wrap_succ c (by omega)]
  refine Evt.pos (by omega) (Evt.pos (by omega) (Evt.pos (show (i : Int) < ((rd_L1 (rowsOf (LF g T) g.length) (a : Int)).length : Int) by omega) (Evt.pos (by omega) (Evt.pos (by omega) (Evt.pos (by omega) (Evt.bind hw2 ?_))))))
  by_cases hw : w = true
  ·exact Evt.pos hw (nests_l3 hT hg h1 hn v a b ha hb r hr m (i + 1) (c + 1) (by omega) (by rw [hstep, if_pos (by simpa using hw1.1 hw)]))
  ·exact Evt.neg hw (nests_l3 hT hg h1 hn v a b ha hb r hr m (i + 1) c (by omega) (by rw [hstep, if_neg (by simpa using fun h => hw (hw1.2 h))]; omega))
theorem nests_l2 (hT : TurnedOf 4 g T) (hg : Gr g) (h1 : 1 ≤ g.length) (hn : g.length ≤ 40) (v : Bool) (a : Nat) (ha : a < g.length) (r : Bool) (hr : Evt (fun k => l7_GraphNests.l0 k g (rowsOf (LF g T) g.length) v ((a + 1 : Nat) : Int)) r) :
  ∀ (m b : Nat), b + m = g.length → Evt (fun k => l7_GraphNests.l2 k g (rowsOf (LF g T) g.length) v (a : Int) (b : Int)) r
 | 0, b, hm => by
  refine Evt.succ ?_
  simp only [l7_GraphNests.l2, wrap_succ a (by omega)]
  exact Evt.neg (by omega) hr
 | m + 1, b, hm => by
  have ih := nests_l2 hT hg h1 hn v a ha r hr m (b + 1) (by omega)
  refine Evt.succ ?_
  simp only [l7_GraphNests.l2]
  exact Evt.pos (by omega) (nests_l3 hT hg h1 hn v a b ha (by omega) r ih _ 0 0 (Nat.zero_add _) (by simp))
theorem nests_l1 (hv : validB g = true) (hr4 : ∀ r ∈ g, r.length ≤ 4) (hT : TurnedOf 4 g T) (hg : Gr g) (h1 : 1 ≤ g.length) (hn : g.length ≤ 40) (v : Bool) (a : Nat) (ha : a < g.length) (r : Bool) (hr : Evt (fun k => l7_GraphNests.l0 k g (rowsOf (LF g T) g.length) v ((a + 1 : Nat) : Int)) r) :
  ∀ (m i : Nat), i + m = (rd_L1 (rowsOf (LF g T) g.length) (a : Int)).length → Evt (fun k => l7_GraphNests.l1 k g (rowsOf (LF g T) g.length) v (a : Int) (i : Int)) r
 | 0, i, hm => by
  have hl := rowsOf_len (LF g T) g.length; refine Evt.succ ?_
  simp only [l7_GraphNests.l1]
  exact Evt.pos (by omega) (Evt.pos (by omega) (Evt.neg (show ¬ (i : Int) < ((rd_L1 (rowsOf (LF g T) g.length) (a : Int)).length : Int) by omega) (nests_l2 hT hg h1 hn v a ha r hr g.length 0 (Nat.zero_add _))))
 | m + 1, i, hm => by
  have hl := rowsOf_len (LF g T) g.length; have hi : i < (rd_L1 (rowsOf (LF g T) g.length) (a : Int)).length := by omega
  have hra := nests_row (LF g T) g.length a ha; have hrl : (rd_L1 (rowsOf (LF g T) g.length) (a : Int)).length ≤ g.length := by rw [hra]; exact rowTo_len _ _
  have hrd : rd (rd_L1 (rowsOf (LF g T) g.length) (a : Int)) (i : Int) = (rd_L1 (rowsOf (LF g T) g.length) (a : Int))[i] := rd_nat _ _ hi
  have hmem : (rd_L1 (rowsOf (LF g T) g.length) (a : Int))[i] ∈ rd_L1 (rowsOf (LF g T) g.length) (a : Int) := List.getElem_mem hi
  have hx : 0 ≤ (rd_L1 (rowsOf (LF g T) g.length) (a : Int))[i] ∧ (rd_L1 (rowsOf (LF g T) g.length) (a : Int))[i] < (g.length : Int) ∧ LF g T (a : Int) (rd_L1 (rowsOf (LF g T) g.length) (a : Int))[i] := (rowTo_mem _ _ _).1 (by rw [← hra]; exact hmem)
  obtain ⟨_, dd⟩ := dominates_ev g hv h1 hg hn hr4 (a : Int) (rd_L1 (rowsOf (LF g T) g.length) (a : Int))[i]; obtain ⟨d, hd1, hd2⟩ := dd ⟨by omega, by omega, hx.1, hx.2.1⟩
  have hdt : d = true := hd1.2 (hx.2.2.loop hT).dom
  have ih := nests_l1 hv hr4 hT hg h1 hn v a ha r hr m (i + 1) (by omega)
  refine Evt.succ ?_
  simp only [l7_GraphNests.l1, hrd, wrap_succ i (by omega)]
  exact Evt.pos (by omega) (Evt.pos (by omega) (Evt.pos (show (i : Int) < ((rd_L1 (rowsOf (LF g T) g.length) (a : Int)).length : Int) by omega) (Evt.pos (by omega) (Evt.bind hd2 (Evt.pos hdt ih)))))
theorem nests_l0 (hv : validB g = true) (hr4 : ∀ r ∈ g, r.length ≤ 4) (hT : TurnedOf 4 g T) (hg : Gr g) (h1 : 1 ≤ g.length) (hn : g.length ≤ 40) (v : Bool) :
  ∀ (m a : Nat), a + m = g.length → Evt (fun k => l7_GraphNests.l0 k g (rowsOf (LF g T) g.length) v (a : Int)) true
 | 0, a, hm => by
  refine Evt.succ ?_
  simp only [l7_GraphNests.l0]
  refine Evt.neg (by omega) (Evt.succ ?_)
  simp only [l7_GraphNests.j2]
  exact Evt.neg (by simp) (Evt.bind awake_ev (Evt.const true))
 | m + 1, a, hm => by
  have ih := nests_l0 hv hr4 hT hg h1 hn v m (a + 1) (by omega)
  refine Evt.succ ?_
  simp only [l7_GraphNests.l0]
  refine Evt.pos (by omega) (Evt.succ ?_)
  simp only [l7_GraphNests.j2]
  by_cases hvt : v = true
  ·exact Evt.pos hvt (nests_l1 hv hr4 hT hg h1 hn v a (by omega) true ih _ 0 (Nat.zero_add _))
  ·exact Evt.neg hvt (Evt.bind awake_ev (Evt.const true))
end
theorem Pure.GraphNests (g : List (List Int)) (_hm : g.length ≤ maxLen) : ∃ k, l7_GraphNests.f k g = some true := by
 refine Evt.get ?_
 unfold l7_GraphNests.f
 refine Evt.bind (usable_ev g) ?_
 by_cases hu : usableB g = true
 ·obtain ⟨hv, h1, hg, hn, hr⟩ := usableB_true hu; obtain ⟨T, hTe, hT⟩ := turned_ev 4 (by omega) g hg (by omega) (by omega) hr
  obtain ⟨v, hv1, hv2⟩ := red_ev g hv h1 hg hn hr; refine Evt.pos hu (Evt.bind (loops_ev g hv h1 hg hn hr T hTe hT) (Evt.bind hv2 (Evt.pos rfl (Evt.pos rfl (Evt.succ ?_)))))
  simp only [l7_GraphNests.j0]
  refine Evt.neg (by rw [rowsOf_len]; simp) ?_
  exact nests_l0 hv hr hT hg h1 hn v g.length 0 (Nat.zero_add _)
 ·exact Evt.neg hu (Evt.bind awake_ev (Evt.const true))
end Go.Proofs.Ytjjedbcgkljdeaa.L
end
