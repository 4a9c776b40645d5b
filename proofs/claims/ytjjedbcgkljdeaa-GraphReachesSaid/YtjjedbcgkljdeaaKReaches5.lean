/- Texts of this claim, cut down to what its theorem uses and laid end to end (wip/shake.py). -/
import Derived.ArgAppend
import Derived.Below
import Derived.BigQuiet
import Derived.ChangeOld
import Derived.ChangeSlices
import Derived.Deep.AppendLies
import Derived.Deep.CutBlock
import Derived.Deep.DeepCutAuto
import Derived.Deep.Draws
import Derived.Deep.LoopGhost
import Derived.Deep.Matrix
import Derived.Deep.OwnRows
import Derived.Deep.QuietTactic
import Derived.Deep.RegionHeld3
import Derived.KernelRfl
import Derived.Laws.BitsLemmas
import Derived.Laws.BytesArg
import Derived.Laws.CopyOwn
import Derived.Laws.IdiomCopy
import Derived.Laws.MakeOwn
import Derived.Laws.OwnMore
import Derived.Laws.Rows
import Derived.Laws.Slices
import Derived.Laws.StructEq
import Derived.Lib.AppendStr
import Derived.Lib.ConvBytes
import Derived.LoopIn
import Derived.LoopNIn
import Derived.Maps.AppendAt
import Derived.OpenShut
import Derived.OrdersHeld
import Derived.OwnWalk
import Derived.OwnWalkIn
import Derived.ProofKit
import Derived.RangeFuncBound
import Derived.RangeFuncBox
import Derived.RangeFuncCalls
import Derived.RangeFuncFrom
import Derived.RangeFuncLeaves
import Derived.RangeFuncNested
import Derived.RowKit
import Derived.RowKit3
import Derived.Shelf.Abstract
import Derived.ShutString
import Derived.SizedLaws
import Derived.Tactics
import Derived.TacticsInMore
import Derived.Test.YtjjedbcgkljdeaaProg
import Derived.WalkKit
import Derived.WideLaws
import GoSem.ClaimData
import Derived.Test.YtjjedbcgkljdeaaKReaches4
section
namespace Go.Proofs.Ytjjedbcgkljdeaa.L
open Go.RowKit Go.Proofs.YtjjedbcgkljdeaaW.PrintWords Go.Proofs.YtjjedbcgkljdeaaW.PrintLast Go.Proofs.YtjjedbcgkljdeaaW.PrintMore Go.Proofs.Ytjjedbcgkljdeaa.A Go.Proofs.Ytjjedbcgkljdeaa.B Go.Proofs.Ytjjedbcgkljdeaa.C Go.Proofs.Ytjjedbcgkljdeaa.D
set_option linter.unusedVariables false
set_option linter.unusedSimpArgs false
def drawloomlaw07_GraphReaches.f (k : Nat) (l0 : List (List Int)) : Option (Bool) := (drawloomlaw07_wide.f k l0).bind fun t101 => (if t101 = true then ((drawloomlaw07_awake.f k).bind fun t102 => (some t102)) else ((graph_Reachable.f k l0).bind fun bt103 => ((graph_Ends.f k l0).bind fun bt107 => ((graph_Order.f k l0).bind fun bt111 => ((drawloomlaw07_code.f k l0).bind fun t115 => (if t115 = 0 then (if bt103.2 = 0 then (if bt107.2 = 0 then (if bt111.2 = 0 then ((drawloomref07_Reached.f k l0).bind fun t117 => ((drawloomlaw07_sameBools.f k bt103.1 t117).bind fun t120 => (if t120 = true then ((drawloomref07_Ending.f k l0).bind fun t121 => ((drawloomlaw07_sameBools.f k bt107.1 t121).bind fun t124 => (if t124 = true then ((drawloomref07_Order.f k l0).bind fun t125 => ((drawloomref05_SameInts.f k bt111.1 t125).bind fun t128 => (if t128 = true then ((drawloomlaw07_awake.f k).bind fun t129 => (some t129)) else (some false)))) else (some false)))) else (some false)))) else (some false)) else (some false)) else (some false)) else (if bt103.2 = t115 then (if bt107.2 = t115 then (if bt111.2 = t115 then (if (wrap64 ((wrap64 ((bt103.1.length : Int) + (bt107.1.length : Int))) + (bt111.1.length : Int))) = 0 then ((drawloomlaw07_awake.f k).bind fun t116 => (some t116)) else (some false)) else (some false)) else (some false)) else (some false))))))))
set_option maxHeartbeats 8000000 in
set_option maxRecDepth 100000 in
theorem drawloomlaw07_GraphReaches.calls (k : Nat) (A0 : Option Addr) (c0 : Nat) (l0 : List (List Int)) (r : Bool) (w : World) (hr0 : Kd.C (Kd.slice 3 (Kd.int .i64)) w A0 l0.length l0) (hc0 : l0.length ≤ c0) (h : drawloomlaw07_GraphReaches.f k l0 = some r) :
    Calls Try.prog 10 #[.slice A0 l0.length c0] w fun e w' => e = .returned (.bool r) ∧ Below w.heap.size w w' := by
  have HR0 := Aside0.mk hr0
  have HC0 := Aside0.mk hc0
  clear hr0 hc0
  have HB := Aside0.mk (Below.refl w.heap.size w)
  have H : ((drawloomlaw07_wide.f k l0).bind fun t101 => (if t101 = true then ((drawloomlaw07_awake.f k).bind fun t102 => (some t102)) else ((graph_Reachable.f k l0).bind fun bt103 => ((graph_Ends.f k l0).bind fun bt107 => ((graph_Order.f k l0).bind fun bt111 => ((drawloomlaw07_code.f k l0).bind fun t115 => (if t115 = 0 then (if bt103.2 = 0 then (if bt107.2 = 0 then (if bt111.2 = 0 then ((drawloomref07_Reached.f k l0).bind fun t117 => ((drawloomlaw07_sameBools.f k bt103.1 t117).bind fun t120 => (if t120 = true then ((drawloomref07_Ending.f k l0).bind fun t121 => ((drawloomlaw07_sameBools.f k bt107.1 t121).bind fun t124 => (if t124 = true then ((drawloomref07_Order.f k l0).bind fun t125 => ((drawloomref05_SameInts.f k bt111.1 t125).bind fun t128 => (if t128 = true then ((drawloomlaw07_awake.f k).bind fun t129 => (some t129)) else (some false)))) else (some false)))) else (some false)))) else (some false)) else (some false)) else (some false)) else (if bt103.2 = t115 then (if bt107.2 = t115 then (if bt111.2 = t115 then (if (wrap64 ((wrap64 ((bt103.1.length : Int) + (bt107.1.length : Int))) + (bt111.1.length : Int))) = 0 then ((drawloomlaw07_awake.f k).bind fun t116 => (some t116)) else (some false)) else (some false)) else (some false)) else (some false))))))))) = some r := h
  clear h
  replace H := Option.bind_eq_some_iff.mp H
  obtain ⟨t101, A20, H⟩ := H
  replace H : (if t101 = true then ((drawloomlaw07_awake.f k).bind fun t102 => (some t102)) else ((graph_Reachable.f k l0).bind fun bt103 => ((graph_Ends.f k l0).bind fun bt107 => ((graph_Order.f k l0).bind fun bt111 => ((drawloomlaw07_code.f k l0).bind fun t115 => (if t115 = 0 then (if bt103.2 = 0 then (if bt107.2 = 0 then (if bt111.2 = 0 then ((drawloomref07_Reached.f k l0).bind fun t117 => ((drawloomlaw07_sameBools.f k bt103.1 t117).bind fun t120 => (if t120 = true then ((drawloomref07_Ending.f k l0).bind fun t121 => ((drawloomlaw07_sameBools.f k bt107.1 t121).bind fun t124 => (if t124 = true then ((drawloomref07_Order.f k l0).bind fun t125 => ((drawloomref05_SameInts.f k bt111.1 t125).bind fun t128 => (if t128 = true then ((drawloomlaw07_awake.f k).bind fun t129 => (some t129)) else (some false)))) else (some false)))) else (some false)))) else (some false)) else (some false)) else (some false)) else (if bt103.2 = t115 then (if bt107.2 = t115 then (if bt111.2 = t115 then (if (wrap64 ((wrap64 ((bt103.1.length : Int) + (bt107.1.length : Int))) + (bt111.1.length : Int))) = 0 then ((drawloomlaw07_awake.f k).bind fun t116 => (some t116)) else (some false)) else (some false)) else (some false)) else (some false)))))))) = some r := H
  have A2 := Aside0.mk A20
  clear A20
  by_cases c3 : t101 = true
  · subst c3
    have H1 : ((drawloomlaw07_awake.f k).bind fun t102 => (some t102)) = some r := by rw [if_pos rfl] at H; exact H
    clear H
    have H := H1
    clear H1
    replace H := Option.bind_eq_some_iff.mp H
    obtain ⟨t102, A40, H⟩ := H
    replace H : (some t102) = some r := H
    have A4 := Aside0.mk A40
    clear A40
    obtain rfl := Option.some.inj H
    go_enter Try.func10, Try.ntmps10
    go_wp2_with (first | ((with_reducible refine gate_callee (f := 13) rfl ?_); refine goesL_ (some 11) rfl rfl Try.func13 (by kernel_rfl) rfl #[.slice A0 l0.length c0] rfl (by (try simp only [List.map_toArray, List.map_cons, List.map_nil]); first | done | rfl | (simp only [List.length_drop, List.length_take]; rfl)) ?_; (with_reducible refine (drawloomlaw07_wide.calls k _ _ l0 true _ ?side1 ?side2 A2.out).mono ?_); (case side1 => repeat (first | exact HR0.out | (with_reducible refine Kd.C_alloc ?_ _) | (with_reducible refine Kd.C_drewN ?_ _) | (with_reducible refine Kd.C_drew ?_))); (case side2 => exact HC0.out); rintro e w' ⟨rfl, ⟨nd, rfl⟩⟩; refine ⟨_, rfl, ?_⟩) | ((with_reducible refine gate_callee (f := 14) rfl ?_); refine goesL_ (some 12) rfl rfl Try.func14 (by kernel_rfl) rfl #[] rfl (by (try simp only [List.map_toArray, List.map_cons, List.map_nil]); first | done | rfl | (simp only [List.length_drop, List.length_take]; rfl)) ?_; (with_reducible refine (drawloomlaw07_awake.calls k  t102 _ A4.out).mono ?_); rintro e w5 ⟨rfl, hb⟩; refine ⟨_, rfl, ?_⟩; have n0_ := Aside0.mk (below_step (by repeat (first | (with_reducible first | exact HB.out | apply below_alloc | apply pw_below_drewN | apply below_drew1) | exact HB.out)) hb); clear HB; have HB := n0_; clear n0_; (try clear hb); (try clear hb2); (try clear hk); (try clear hi)))
    go_ret
    exact ⟨by first | rfl | (simp [errW_none, errW_some] <;> rfl) | (simp [*, errW_none, errW_some] <;> rfl), by repeat (first | (with_reducible first | exact HB.out | apply below_alloc | apply pw_below_drewN | apply below_drew1) | exact HB.out)⟩
  · replace c3 := Bool.eq_false_iff.mpr c3
    subst c3
    have H1 : ((graph_Reachable.f k l0).bind fun bt103 => ((graph_Ends.f k l0).bind fun bt107 => ((graph_Order.f k l0).bind fun bt111 => ((drawloomlaw07_code.f k l0).bind fun t115 => (if t115 = 0 then (if bt103.2 = 0 then (if bt107.2 = 0 then (if bt111.2 = 0 then ((drawloomref07_Reached.f k l0).bind fun t117 => ((drawloomlaw07_sameBools.f k bt103.1 t117).bind fun t120 => (if t120 = true then ((drawloomref07_Ending.f k l0).bind fun t121 => ((drawloomlaw07_sameBools.f k bt107.1 t121).bind fun t124 => (if t124 = true then ((drawloomref07_Order.f k l0).bind fun t125 => ((drawloomref05_SameInts.f k bt111.1 t125).bind fun t128 => (if t128 = true then ((drawloomlaw07_awake.f k).bind fun t129 => (some t129)) else (some false)))) else (some false)))) else (some false)))) else (some false)) else (some false)) else (some false)) else (if bt103.2 = t115 then (if bt107.2 = t115 then (if bt111.2 = t115 then (if (wrap64 ((wrap64 ((bt103.1.length : Int) + (bt107.1.length : Int))) + (bt111.1.length : Int))) = 0 then ((drawloomlaw07_awake.f k).bind fun t116 => (some t116)) else (some false)) else (some false)) else (some false)) else (some false))))))) = some r := by rw [if_neg (show ¬ (false = true) by decide)] at H; exact H
    clear H
    have H := H1
    clear H1
    replace H := Option.bind_eq_some_iff.mp H
    obtain ⟨⟨t103, t104⟩, A60, H⟩ := H
    replace H : ((graph_Ends.f k l0).bind fun bt107 => ((graph_Order.f k l0).bind fun bt111 => ((drawloomlaw07_code.f k l0).bind fun t115 => (if t115 = 0 then (if t104 = 0 then (if bt107.2 = 0 then (if bt111.2 = 0 then ((drawloomref07_Reached.f k l0).bind fun t117 => ((drawloomlaw07_sameBools.f k t103 t117).bind fun t120 => (if t120 = true then ((drawloomref07_Ending.f k l0).bind fun t121 => ((drawloomlaw07_sameBools.f k bt107.1 t121).bind fun t124 => (if t124 = true then ((drawloomref07_Order.f k l0).bind fun t125 => ((drawloomref05_SameInts.f k bt111.1 t125).bind fun t128 => (if t128 = true then ((drawloomlaw07_awake.f k).bind fun t129 => (some t129)) else (some false)))) else (some false)))) else (some false)))) else (some false)) else (some false)) else (some false)) else (if t104 = t115 then (if bt107.2 = t115 then (if bt111.2 = t115 then (if (wrap64 ((wrap64 ((t103.length : Int) + (bt107.1.length : Int))) + (bt111.1.length : Int))) = 0 then ((drawloomlaw07_awake.f k).bind fun t116 => (some t116)) else (some false)) else (some false)) else (some false)) else (some false)))))) = some r := H
    have A6 := Aside0.mk A60
    clear A60
    replace H := Option.bind_eq_some_iff.mp H
    obtain ⟨⟨t107, t108⟩, A70, H⟩ := H
    replace H : ((graph_Order.f k l0).bind fun bt111 => ((drawloomlaw07_code.f k l0).bind fun t115 => (if t115 = 0 then (if t104 = 0 then (if t108 = 0 then (if bt111.2 = 0 then ((drawloomref07_Reached.f k l0).bind fun t117 => ((drawloomlaw07_sameBools.f k t103 t117).bind fun t120 => (if t120 = true then ((drawloomref07_Ending.f k l0).bind fun t121 => ((drawloomlaw07_sameBools.f k t107 t121).bind fun t124 => (if t124 = true then ((drawloomref07_Order.f k l0).bind fun t125 => ((drawloomref05_SameInts.f k bt111.1 t125).bind fun t128 => (if t128 = true then ((drawloomlaw07_awake.f k).bind fun t129 => (some t129)) else (some false)))) else (some false)))) else (some false)))) else (some false)) else (some false)) else (some false)) else (if t104 = t115 then (if t108 = t115 then (if bt111.2 = t115 then (if (wrap64 ((wrap64 ((t103.length : Int) + (t107.length : Int))) + (bt111.1.length : Int))) = 0 then ((drawloomlaw07_awake.f k).bind fun t116 => (some t116)) else (some false)) else (some false)) else (some false)) else (some false))))) = some r := H
    have A7 := Aside0.mk A70
    clear A70
    replace H := Option.bind_eq_some_iff.mp H
    obtain ⟨⟨t111, t112⟩, A80, H⟩ := H
    replace H : ((drawloomlaw07_code.f k l0).bind fun t115 => (if t115 = 0 then (if t104 = 0 then (if t108 = 0 then (if t112 = 0 then ((drawloomref07_Reached.f k l0).bind fun t117 => ((drawloomlaw07_sameBools.f k t103 t117).bind fun t120 => (if t120 = true then ((drawloomref07_Ending.f k l0).bind fun t121 => ((drawloomlaw07_sameBools.f k t107 t121).bind fun t124 => (if t124 = true then ((drawloomref07_Order.f k l0).bind fun t125 => ((drawloomref05_SameInts.f k t111 t125).bind fun t128 => (if t128 = true then ((drawloomlaw07_awake.f k).bind fun t129 => (some t129)) else (some false)))) else (some false)))) else (some false)))) else (some false)) else (some false)) else (some false)) else (if t104 = t115 then (if t108 = t115 then (if t112 = t115 then (if (wrap64 ((wrap64 ((t103.length : Int) + (t107.length : Int))) + (t111.length : Int))) = 0 then ((drawloomlaw07_awake.f k).bind fun t116 => (some t116)) else (some false)) else (some false)) else (some false)) else (some false)))) = some r := H
    have A8 := Aside0.mk A80
    clear A80
    replace H := Option.bind_eq_some_iff.mp H
    obtain ⟨t115, A90, H⟩ := H
    replace H : (if t115 = 0 then (if t104 = 0 then (if t108 = 0 then (if t112 = 0 then ((drawloomref07_Reached.f k l0).bind fun t117 => ((drawloomlaw07_sameBools.f k t103 t117).bind fun t120 => (if t120 = true then ((drawloomref07_Ending.f k l0).bind fun t121 => ((drawloomlaw07_sameBools.f k t107 t121).bind fun t124 => (if t124 = true then ((drawloomref07_Order.f k l0).bind fun t125 => ((drawloomref05_SameInts.f k t111 t125).bind fun t128 => (if t128 = true then ((drawloomlaw07_awake.f k).bind fun t129 => (some t129)) else (some false)))) else (some false)))) else (some false)))) else (some false)) else (some false)) else (some false)) else (if t104 = t115 then (if t108 = t115 then (if t112 = t115 then (if (wrap64 ((wrap64 ((t103.length : Int) + (t107.length : Int))) + (t111.length : Int))) = 0 then ((drawloomlaw07_awake.f k).bind fun t116 => (some t116)) else (some false)) else (some false)) else (some false)) else (some false))) = some r := H
    have A9 := Aside0.mk A90
    clear A90
    by_cases c10 : t115 = 0
    · rw [if_pos c10] at H
      have c10b0 : (t115 == 0) = true := beq_iff_eq.mpr c10
      have c10b1 : (t115 != 0) = false := bne_eq_false_iff_eq.mpr c10
      clear c10
      by_cases c11 : t104 = 0
      · rw [if_pos c11] at H
        have c11b0 : (t104 == 0) = true := beq_iff_eq.mpr c11
        have c11b1 : (t104 != 0) = false := bne_eq_false_iff_eq.mpr c11
        clear c11
        by_cases c12 : t108 = 0
        · rw [if_pos c12] at H
          have c12b0 : (t108 == 0) = true := beq_iff_eq.mpr c12
          have c12b1 : (t108 != 0) = false := bne_eq_false_iff_eq.mpr c12
          clear c12
          by_cases c13 : t112 = 0
          · rw [if_pos c13] at H
            have c13b0 : (t112 == 0) = true := beq_iff_eq.mpr c13
            have c13b1 : (t112 != 0) = false := bne_eq_false_iff_eq.mpr c13
            clear c13
            replace H := Option.bind_eq_some_iff.mp H
            obtain ⟨t117, A140, H⟩ := H
            replace H : ((drawloomlaw07_sameBools.f k t103 t117).bind fun t120 => (if t120 = true then ((drawloomref07_Ending.f k l0).bind fun t121 => ((drawloomlaw07_sameBools.f k t107 t121).bind fun t124 => (if t124 = true then ((drawloomref07_Order.f k l0).bind fun t125 => ((drawloomref05_SameInts.f k t111 t125).bind fun t128 => (if t128 = true then ((drawloomlaw07_awake.f k).bind fun t129 => (some t129)) else (some false)))) else (some false)))) else (some false))) = some r := H
            have A14 := Aside0.mk A140
            clear A140
            replace H := Option.bind_eq_some_iff.mp H
            obtain ⟨t120, A150, H⟩ := H
            replace H : (if t120 = true then ((drawloomref07_Ending.f k l0).bind fun t121 => ((drawloomlaw07_sameBools.f k t107 t121).bind fun t124 => (if t124 = true then ((drawloomref07_Order.f k l0).bind fun t125 => ((drawloomref05_SameInts.f k t111 t125).bind fun t128 => (if t128 = true then ((drawloomlaw07_awake.f k).bind fun t129 => (some t129)) else (some false)))) else (some false)))) else (some false)) = some r := H
            have A15 := Aside0.mk A150
            clear A150
            by_cases c16 : t120 = true
            · subst c16
              have H1 : ((drawloomref07_Ending.f k l0).bind fun t121 => ((drawloomlaw07_sameBools.f k t107 t121).bind fun t124 => (if t124 = true then ((drawloomref07_Order.f k l0).bind fun t125 => ((drawloomref05_SameInts.f k t111 t125).bind fun t128 => (if t128 = true then ((drawloomlaw07_awake.f k).bind fun t129 => (some t129)) else (some false)))) else (some false)))) = some r := by rw [if_pos rfl] at H; exact H
              clear H
              have H := H1
              clear H1
              replace H := Option.bind_eq_some_iff.mp H
              obtain ⟨t121, A170, H⟩ := H
              replace H : ((drawloomlaw07_sameBools.f k t107 t121).bind fun t124 => (if t124 = true then ((drawloomref07_Order.f k l0).bind fun t125 => ((drawloomref05_SameInts.f k t111 t125).bind fun t128 => (if t128 = true then ((drawloomlaw07_awake.f k).bind fun t129 => (some t129)) else (some false)))) else (some false))) = some r := H
              have A17 := Aside0.mk A170
              clear A170
              replace H := Option.bind_eq_some_iff.mp H
              obtain ⟨t124, A180, H⟩ := H
              replace H : (if t124 = true then ((drawloomref07_Order.f k l0).bind fun t125 => ((drawloomref05_SameInts.f k t111 t125).bind fun t128 => (if t128 = true then ((drawloomlaw07_awake.f k).bind fun t129 => (some t129)) else (some false)))) else (some false)) = some r := H
              have A18 := Aside0.mk A180
              clear A180
              by_cases c19 : t124 = true
              · subst c19
                have H1 : ((drawloomref07_Order.f k l0).bind fun t125 => ((drawloomref05_SameInts.f k t111 t125).bind fun t128 => (if t128 = true then ((drawloomlaw07_awake.f k).bind fun t129 => (some t129)) else (some false)))) = some r := by rw [if_pos rfl] at H; exact H
                clear H
                have H := H1
                clear H1
                replace H := Option.bind_eq_some_iff.mp H
                obtain ⟨t125, A200, H⟩ := H
                replace H : ((drawloomref05_SameInts.f k t111 t125).bind fun t128 => (if t128 = true then ((drawloomlaw07_awake.f k).bind fun t129 => (some t129)) else (some false))) = some r := H
                have A20 := Aside0.mk A200
                clear A200
                replace H := Option.bind_eq_some_iff.mp H
                obtain ⟨t128, A210, H⟩ := H
                replace H : (if t128 = true then ((drawloomlaw07_awake.f k).bind fun t129 => (some t129)) else (some false)) = some r := H
                have A21 := Aside0.mk A210
                clear A210
                by_cases c22 : t128 = true
                · subst c22
                  have H1 : ((drawloomlaw07_awake.f k).bind fun t129 => (some t129)) = some r := by rw [if_pos rfl] at H; exact H
                  clear H
                  have H := H1
                  clear H1
                  replace H := Option.bind_eq_some_iff.mp H
                  obtain ⟨t129, A230, H⟩ := H
                  replace H : (some t129) = some r := H
                  have A23 := Aside0.mk A230
                  clear A230
                  obtain rfl := Option.some.inj H
                  go_enter Try.func10, Try.ntmps10
                  go_wp2_with (first | ((with_reducible refine gate_callee (f := 13) rfl ?_); refine goesL_ (some 11) rfl rfl Try.func13 (by kernel_rfl) rfl #[.slice A0 l0.length c0] rfl (by (try simp only [List.map_toArray, List.map_cons, List.map_nil]); first | done | rfl | (simp only [List.length_drop, List.length_take]; rfl)) ?_; (with_reducible refine (drawloomlaw07_wide.calls k _ _ l0 false _ ?side1 ?side2 A2.out).mono ?_); (case side1 => repeat (first | exact HR0.out | (with_reducible refine Kd.C_alloc ?_ _) | (with_reducible refine Kd.C_drewN ?_ _) | (with_reducible refine Kd.C_drew ?_))); (case side2 => exact HC0.out); rintro e w' ⟨rfl, ⟨nd, rfl⟩⟩; refine ⟨_, rfl, ?_⟩) | ((with_reducible refine gate_callee (f := 38) rfl ?_); refine goesL_ (some 15) rfl rfl Try.func38 (by kernel_rfl) rfl #[.slice A0 l0.length c0] rfl (by (try simp only [List.map_toArray, List.map_cons, List.map_nil]); first | done | rfl | (simp only [List.length_drop, List.length_take]; rfl)) ?_; (with_reducible refine (graph_Reachable.calls k _ _ l0 t103 t104 _ ?side1 ?side2 A6.out).mono ?_); (case side1 => repeat (first | exact HR0.out | (with_reducible refine Kd.C_alloc ?_ _) | (with_reducible refine Kd.C_drewN ?_ _) | (with_reducible refine Kd.C_drew ?_))); (case side2 => exact HC0.out); rintro e w24 ⟨v105, rfl, ho0, hb⟩; refine ⟨_, rfl, ?_⟩; have n0_ := Aside0.mk (Kd.R_lower ho0 (below_size (by repeat (first | (with_reducible first | exact HB.out | apply below_alloc | apply pw_below_drewN | apply below_drew1) | exact HB.out)))); have n1_ := Aside0.mk (below_step (by repeat (first | (with_reducible first | exact HB.out | apply below_alloc | apply pw_below_drewN | apply below_drew1) | exact HB.out)) hb); clear HB; have HO106 := n0_; have HB := n1_; clear n0_ n1_; (try clear hb); (try clear hb2); (try clear hk); (try clear hi); (try clear ho0)) | ((with_reducible refine gate_callee (f := 39) rfl ?_); refine goesL_ (some 20) rfl rfl Try.func39 (by kernel_rfl) rfl #[.slice A0 l0.length c0] rfl (by (try simp only [List.map_toArray, List.map_cons, List.map_nil]); first | done | rfl | (simp only [List.length_drop, List.length_take]; rfl)) ?_; (with_reducible refine (graph_Ends.calls k _ _ l0 t107 t108 _ ?side1 ?side2 A7.out).mono ?_); (case side1 => repeat (first | exact (Kd.C_below HR0.out HB.out) | (with_reducible refine Kd.C_alloc ?_ _) | (with_reducible refine Kd.C_drewN ?_ _) | (with_reducible refine Kd.C_drew ?_))); (case side2 => exact HC0.out); rintro e w25 ⟨v109, rfl, ho0, hb⟩; refine ⟨_, rfl, ?_⟩; have n0_ := Aside0.mk (Kd.R_elder' (by (with_reducible repeat (first | apply Kd.R_alloc | apply Kd.R_drewN | apply Kd.R_drew)); exact HO106.out) (Kd.R_base ho0) hb); have n1_ := Aside0.mk (Kd.R_lower (Kd.R_new' ho0 (Kd.R_lt (by (with_reducible repeat (first | apply Kd.R_alloc | apply Kd.R_drewN | apply Kd.R_drew)); exact HO106.out))) (below_size (by repeat (first | (with_reducible first | exact HB.out | apply below_alloc | apply pw_below_drewN | apply below_drew1) | exact HB.out)))); have n2_ := Aside0.mk (below_step (by repeat (first | (with_reducible first | exact HB.out | apply below_alloc | apply pw_below_drewN | apply below_drew1) | exact HB.out)) hb); clear HO106; clear HB; have HO106 := n0_; have HO110 := n1_; have HB := n2_; clear n0_ n1_ n2_; (try clear hb); (try clear hb2); (try clear hk); (try clear hi); (try clear ho0)) | ((with_reducible refine gate_callee (f := 40) rfl ?_); refine goesL_ (some 25) rfl rfl Try.func40 (by kernel_rfl) rfl #[.slice A0 l0.length c0] rfl (by (try simp only [List.map_toArray, List.map_cons, List.map_nil]); first | done | rfl | (simp only [List.length_drop, List.length_take]; rfl)) ?_; (with_reducible refine (graph_Order.calls k _ _ l0 t111 t112 _ ?side1 ?side2 A8.out).mono ?_); (case side1 => repeat (first | exact (Kd.C_below HR0.out HB.out) | (with_reducible refine Kd.C_alloc ?_ _) | (with_reducible refine Kd.C_drewN ?_ _) | (with_reducible refine Kd.C_drew ?_))); (case side2 => exact HC0.out); rintro e w26 ⟨v113, rfl, ho0, hb⟩; refine ⟨_, rfl, ?_⟩; have n0_ := Aside0.mk (Kd.R_below (by (with_reducible repeat (first | apply Kd.R_alloc | apply Kd.R_drewN | apply Kd.R_drew)); exact HO106.out) hb); have n1_ := Aside0.mk (Kd.R_below (by (with_reducible repeat (first | apply Kd.R_alloc | apply Kd.R_drewN | apply Kd.R_drew)); exact HO110.out) hb); have n2_ := Aside0.mk (Kd.R_lower ho0 (below_size (by repeat (first | (with_reducible first | exact HB.out | apply below_alloc | apply pw_below_drewN | apply below_drew1) | exact HB.out)))); have n3_ := Aside0.mk (below_step (by repeat (first | (with_reducible first | exact HB.out | apply below_alloc | apply pw_below_drewN | apply below_drew1) | exact HB.out)) hb); clear HO106; clear HO110; clear HB; have HO106 := n0_; have HO110 := n1_; have HO114 := n2_; have HB := n3_; clear n0_ n1_ n2_ n3_; (try clear hb); (try clear hb2); (try clear hk); (try clear hi); (try clear ho0)) | ((with_reducible refine gate_callee (f := 18) rfl ?_); refine goesL_ (some 29) rfl rfl Try.func18 (by kernel_rfl) rfl #[.slice A0 l0.length c0] rfl (by (try simp only [List.map_toArray, List.map_cons, List.map_nil]); first | done | rfl | (simp only [List.length_drop, List.length_take]; rfl)) ?_; (with_reducible refine (drawloomlaw07_code.calls k _ _ l0 t115 _ ?side1 ?side2 A9.out).mono ?_); (case side1 => repeat (first | exact (Kd.C_below HR0.out HB.out) | (with_reducible refine Kd.C_alloc ?_ _) | (with_reducible refine Kd.C_drewN ?_ _) | (with_reducible refine Kd.C_drew ?_))); (case side2 => exact HC0.out); rintro e w' ⟨rfl, ⟨nd, rfl⟩⟩; refine ⟨_, rfl, ?_⟩) | (go_at_call 33; (with_reducible refine (drawloomref07_Reached.calls k _ _ l0 t117 _ ?side1 ?side2 A14.out).mono ?_); (case side1 => repeat (first | exact (Kd.C_below HR0.out (by repeat (first | (with_reducible first | exact HB.out | apply below_alloc | apply pw_below_drewN | apply below_drew1) | exact HB.out))) | (with_reducible refine Kd.C_alloc ?_ _) | (with_reducible refine Kd.C_drewN ?_ _) | (with_reducible refine Kd.C_drew ?_))); (case side2 => exact HC0.out); rintro e w27 ⟨v118, rfl, ho0, hb⟩; have n0_ := Aside0.mk (Kd.R_elder' (by (with_reducible repeat (first | apply Kd.R_alloc | apply Kd.R_drewN | apply Kd.R_drew)); exact HO106.out) (Kd.R_base ho0) hb); have n1_ := Aside0.mk (Kd.R_elder' (by (with_reducible repeat (first | apply Kd.R_alloc | apply Kd.R_drewN | apply Kd.R_drew)); exact HO110.out) (Kd.R_base ho0) hb); have n2_ := Aside0.mk (Kd.R_below (by (with_reducible repeat (first | apply Kd.R_alloc | apply Kd.R_drewN | apply Kd.R_drew)); exact HO114.out) hb); have n3_ := Aside0.mk (Kd.R_lower (Kd.R_new' (Kd.R_new' ho0 (Kd.R_lt (by (with_reducible repeat (first | apply Kd.R_alloc | apply Kd.R_drewN | apply Kd.R_drew)); exact HO106.out))) (Kd.R_lt (by (with_reducible repeat (first | apply Kd.R_alloc | apply Kd.R_drewN | apply Kd.R_drew)); exact HO110.out))) (below_size (by repeat (first | (with_reducible first | exact HB.out | apply below_alloc | apply pw_below_drewN | apply below_drew1) | exact HB.out)))); have n4_ := Aside0.mk (below_step (by repeat (first | (with_reducible first | exact HB.out | apply below_alloc | apply pw_below_drewN | apply below_drew1) | exact HB.out)) hb); clear HO106; clear HO110; clear HO114; clear HB; have HO106 := n0_; have HO110 := n1_; have HO114 := n2_; have HO119 := n3_; have HB := n4_; clear n0_ n1_ n2_ n3_ n4_; (try clear hb); (try clear hb2); (try clear hk); (try clear hi); (try clear ho0); obtain ⟨Ao28, co28, eo28⟩ := Kd.R_slice HO106.out; subst eo28; obtain ⟨Ao29, co29, eo29⟩ := Kd.R_slice HO119.out; subst eo29) | (go_at_call 41; (with_reducible refine (drawloomlaw07_sameBools.calls k _ _ t103 _ _ t117 true _ ?side1 ?side2 ?side3 ?side4 A15.out).mono ?_); (case side1 => repeat (first | exact (Kd.R_reads' HO106.out).2.2 | (with_reducible refine Kd.C_alloc ?_ _) | (with_reducible refine Kd.C_drewN ?_ _) | (with_reducible refine Kd.C_drew ?_))); (case side2 => exact (Kd.R_reads' HO106.out).2.1); (case side3 => repeat (first | exact (Kd.R_reads' HO119.out).2.2 | (with_reducible refine Kd.C_alloc ?_ _) | (with_reducible refine Kd.C_drewN ?_ _) | (with_reducible refine Kd.C_drew ?_))); (case side4 => exact (Kd.R_reads' HO119.out).2.1); rintro e w' ⟨rfl, ⟨nd, rfl⟩⟩) | (go_at_call 34; (with_reducible refine (drawloomref07_Ending.calls k _ _ l0 t121 _ ?side1 ?side2 A17.out).mono ?_); (case side1 => repeat (first | exact (Kd.C_below HR0.out (by repeat (first | (with_reducible first | exact HB.out | apply below_alloc | apply pw_below_drewN | apply below_drew1) | exact HB.out))) | (with_reducible refine Kd.C_alloc ?_ _) | (with_reducible refine Kd.C_drewN ?_ _) | (with_reducible refine Kd.C_drew ?_))); (case side2 => exact HC0.out); rintro e w30 ⟨v122, rfl, ho0, hb⟩; have n0_ := Aside0.mk (Kd.R_elder' (by (with_reducible repeat (first | apply Kd.R_alloc | apply Kd.R_drewN | apply Kd.R_drew)); exact HO106.out) (Kd.R_base ho0) hb); have n1_ := Aside0.mk (Kd.R_elder' (by (with_reducible repeat (first | apply Kd.R_alloc | apply Kd.R_drewN | apply Kd.R_drew)); exact HO110.out) (Kd.R_base ho0) hb); have n2_ := Aside0.mk (Kd.R_below (by (with_reducible repeat (first | apply Kd.R_alloc | apply Kd.R_drewN | apply Kd.R_drew)); exact HO114.out) hb); have n3_ := Aside0.mk (Kd.R_elder' (by (with_reducible repeat (first | apply Kd.R_alloc | apply Kd.R_drewN | apply Kd.R_drew)); exact HO119.out) (Kd.R_base ho0) hb); have n4_ := Aside0.mk (Kd.R_lower (Kd.R_new' (Kd.R_new' (Kd.R_new' ho0 (Kd.R_lt (by (with_reducible repeat (first | apply Kd.R_alloc | apply Kd.R_drewN | apply Kd.R_drew)); exact HO106.out))) (Kd.R_lt (by (with_reducible repeat (first | apply Kd.R_alloc | apply Kd.R_drewN | apply Kd.R_drew)); exact HO110.out))) (Kd.R_lt (by (with_reducible repeat (first | apply Kd.R_alloc | apply Kd.R_drewN | apply Kd.R_drew)); exact HO119.out))) (below_size (by repeat (first | (with_reducible first | exact HB.out | apply below_alloc | apply pw_below_drewN | apply below_drew1) | exact HB.out)))); have n5_ := Aside0.mk (below_step (by repeat (first | (with_reducible first | exact HB.out | apply below_alloc | apply pw_below_drewN | apply below_drew1) | exact HB.out)) hb); clear HO106; clear HO110; clear HO114; clear HO119; clear HB; have HO106 := n0_; have HO110 := n1_; have HO114 := n2_; have HO119 := n3_; have HO123 := n4_; have HB := n5_; clear n0_ n1_ n2_ n3_ n4_ n5_; (try clear hb); (try clear hb2); (try clear hk); (try clear hi); (try clear ho0); obtain ⟨Ao31, co31, eo31⟩ := Kd.R_slice HO110.out; subst eo31; obtain ⟨Ao32, co32, eo32⟩ := Kd.R_slice HO123.out; subst eo32) | (go_at_call 41; (with_reducible refine (drawloomlaw07_sameBools.calls k _ _ t107 _ _ t121 true _ ?side1 ?side2 ?side3 ?side4 A18.out).mono ?_); (case side1 => repeat (first | exact (Kd.R_reads' HO110.out).2.2 | (with_reducible refine Kd.C_alloc ?_ _) | (with_reducible refine Kd.C_drewN ?_ _) | (with_reducible refine Kd.C_drew ?_))); (case side2 => exact (Kd.R_reads' HO110.out).2.1); (case side3 => repeat (first | exact (Kd.R_reads' HO123.out).2.2 | (with_reducible refine Kd.C_alloc ?_ _) | (with_reducible refine Kd.C_drewN ?_ _) | (with_reducible refine Kd.C_drew ?_))); (case side4 => exact (Kd.R_reads' HO123.out).2.1); rintro e w' ⟨rfl, ⟨nd, rfl⟩⟩) | (go_at_call 42; (with_reducible refine (drawloomref07_Order.calls k _ _ l0 t125 _ ?side1 ?side2 A20.out).mono ?_); (case side1 => repeat (first | exact (Kd.C_below HR0.out (by repeat (first | (with_reducible first | exact HB.out | apply below_alloc | apply pw_below_drewN | apply below_drew1) | exact HB.out))) | (with_reducible refine Kd.C_alloc ?_ _) | (with_reducible refine Kd.C_drewN ?_ _) | (with_reducible refine Kd.C_drew ?_))); (case side2 => exact HC0.out); rintro e w33 ⟨v126, rfl, ho0, hb⟩; have n0_ := Aside0.mk (Kd.R_below (by (with_reducible repeat (first | apply Kd.R_alloc | apply Kd.R_drewN | apply Kd.R_drew)); exact HO106.out) hb); have n1_ := Aside0.mk (Kd.R_below (by (with_reducible repeat (first | apply Kd.R_alloc | apply Kd.R_drewN | apply Kd.R_drew)); exact HO110.out) hb); have n2_ := Aside0.mk (Kd.R_elder' (by (with_reducible repeat (first | apply Kd.R_alloc | apply Kd.R_drewN | apply Kd.R_drew)); exact HO114.out) (Kd.R_base ho0) hb); have n3_ := Aside0.mk (Kd.R_below (by (with_reducible repeat (first | apply Kd.R_alloc | apply Kd.R_drewN | apply Kd.R_drew)); exact HO119.out) hb); have n4_ := Aside0.mk (Kd.R_below (by (with_reducible repeat (first | apply Kd.R_alloc | apply Kd.R_drewN | apply Kd.R_drew)); exact HO123.out) hb); have n5_ := Aside0.mk (Kd.R_lower (Kd.R_new' ho0 (Kd.R_lt (by (with_reducible repeat (first | apply Kd.R_alloc | apply Kd.R_drewN | apply Kd.R_drew)); exact HO114.out))) (below_size (by repeat (first | (with_reducible first | exact HB.out | apply below_alloc | apply pw_below_drewN | apply below_drew1) | exact HB.out)))); have n6_ := Aside0.mk (below_step (by repeat (first | (with_reducible first | exact HB.out | apply below_alloc | apply pw_below_drewN | apply below_drew1) | exact HB.out)) hb); clear HO106; clear HO110; clear HO114; clear HO119; clear HO123; clear HB; have HO106 := n0_; have HO110 := n1_; have HO114 := n2_; have HO119 := n3_; have HO123 := n4_; have HO127 := n5_; have HB := n6_; clear n0_ n1_ n2_ n3_ n4_ n5_ n6_; (try clear hb); (try clear hb2); (try clear hk); (try clear hi); (try clear ho0); obtain ⟨Ao34, co34, eo34⟩ := Kd.R_slice HO114.out; subst eo34; obtain ⟨Ao35, co35, eo35⟩ := Kd.R_slice HO127.out; subst eo35) | (go_at_call 24; (with_reducible refine (drawloomref05_SameInts.calls k _ _ t111 _ _ t125 true _ ?side1 ?side2 ?side3 ?side4 A21.out).mono ?_); (case side1 => repeat (first | exact (Kd.R_reads' HO114.out).2.2 | (with_reducible refine Kd.C_alloc ?_ _) | (with_reducible refine Kd.C_drewN ?_ _) | (with_reducible refine Kd.C_drew ?_))); (case side2 => exact (Kd.R_reads' HO114.out).2.1); (case side3 => repeat (first | exact (Kd.R_reads' HO127.out).2.2 | (with_reducible refine Kd.C_alloc ?_ _) | (with_reducible refine Kd.C_drewN ?_ _) | (with_reducible refine Kd.C_drew ?_))); (case side4 => exact (Kd.R_reads' HO127.out).2.1); rintro e w' ⟨rfl, ⟨nd, rfl⟩⟩) | (go_at_call 14; (with_reducible refine (drawloomlaw07_awake.calls k  t129 _ A23.out).mono ?_); rintro e w36 ⟨rfl, hb⟩; have n0_ := Aside0.mk (Kd.R_below (by (with_reducible repeat (first | apply Kd.R_alloc | apply Kd.R_drewN | apply Kd.R_drew)); exact HO106.out) hb); have n1_ := Aside0.mk (Kd.R_below (by (with_reducible repeat (first | apply Kd.R_alloc | apply Kd.R_drewN | apply Kd.R_drew)); exact HO110.out) hb); have n2_ := Aside0.mk (Kd.R_below (by (with_reducible repeat (first | apply Kd.R_alloc | apply Kd.R_drewN | apply Kd.R_drew)); exact HO114.out) hb); have n3_ := Aside0.mk (Kd.R_below (by (with_reducible repeat (first | apply Kd.R_alloc | apply Kd.R_drewN | apply Kd.R_drew)); exact HO119.out) hb); have n4_ := Aside0.mk (Kd.R_below (by (with_reducible repeat (first | apply Kd.R_alloc | apply Kd.R_drewN | apply Kd.R_drew)); exact HO123.out) hb); have n5_ := Aside0.mk (Kd.R_below (by (with_reducible repeat (first | apply Kd.R_alloc | apply Kd.R_drewN | apply Kd.R_drew)); exact HO127.out) hb); have n6_ := Aside0.mk (below_step (by repeat (first | (with_reducible first | exact HB.out | apply below_alloc | apply pw_below_drewN | apply below_drew1) | exact HB.out)) hb); clear HO106; clear HO110; clear HO114; clear HO119; clear HO123; clear HO127; clear HB; have HO106 := n0_; have HO110 := n1_; have HO114 := n2_; have HO119 := n3_; have HO123 := n4_; have HO127 := n5_; have HB := n6_; clear n0_ n1_ n2_ n3_ n4_ n5_ n6_; (try clear hb); (try clear hb2); (try clear hk); (try clear hi)))
                  go_ret
                  exact ⟨by first | rfl | (simp [errW_none, errW_some] <;> rfl) | (simp [*, errW_none, errW_some] <;> rfl), by repeat (first | (with_reducible first | exact HB.out | apply below_alloc | apply pw_below_drewN | apply below_drew1) | exact HB.out)⟩
                · replace c22 := Bool.eq_false_iff.mpr c22
                  subst c22
                  have H1 : (some false) = some r := by rw [if_neg (show ¬ (false = true) by decide)] at H; exact H
                  clear H
                  have H := H1
                  clear H1
                  obtain rfl := Option.some.inj H
                  go_enter Try.func10, Try.ntmps10
                  go_wp2_with (first | ((with_reducible refine gate_callee (f := 13) rfl ?_); refine goesL_ (some 11) rfl rfl Try.func13 (by kernel_rfl) rfl #[.slice A0 l0.length c0] rfl (by (try simp only [List.map_toArray, List.map_cons, List.map_nil]); first | done | rfl | (simp only [List.length_drop, List.length_take]; rfl)) ?_; (with_reducible refine (drawloomlaw07_wide.calls k _ _ l0 false _ ?side1 ?side2 A2.out).mono ?_); (case side1 => repeat (first | exact HR0.out | (with_reducible refine Kd.C_alloc ?_ _) | (with_reducible refine Kd.C_drewN ?_ _) | (with_reducible refine Kd.C_drew ?_))); (case side2 => exact HC0.out); rintro e w' ⟨rfl, ⟨nd, rfl⟩⟩; refine ⟨_, rfl, ?_⟩) | ((with_reducible refine gate_callee (f := 38) rfl ?_); refine goesL_ (some 15) rfl rfl Try.func38 (by kernel_rfl) rfl #[.slice A0 l0.length c0] rfl (by (try simp only [List.map_toArray, List.map_cons, List.map_nil]); first | done | rfl | (simp only [List.length_drop, List.length_take]; rfl)) ?_; (with_reducible refine (graph_Reachable.calls k _ _ l0 t103 t104 _ ?side1 ?side2 A6.out).mono ?_); (case side1 => repeat (first | exact HR0.out | (with_reducible refine Kd.C_alloc ?_ _) | (with_reducible refine Kd.C_drewN ?_ _) | (with_reducible refine Kd.C_drew ?_))); (case side2 => exact HC0.out); rintro e w37 ⟨v105, rfl, ho0, hb⟩; refine ⟨_, rfl, ?_⟩; have n0_ := Aside0.mk (Kd.R_lower ho0 (below_size (by repeat (first | (with_reducible first | exact HB.out | apply below_alloc | apply pw_below_drewN | apply below_drew1) | exact HB.out)))); have n1_ := Aside0.mk (below_step (by repeat (first | (with_reducible first | exact HB.out | apply below_alloc | apply pw_below_drewN | apply below_drew1) | exact HB.out)) hb); clear HB; have HO106 := n0_; have HB := n1_; clear n0_ n1_; (try clear hb); (try clear hb2); (try clear hk); (try clear hi); (try clear ho0)) | ((with_reducible refine gate_callee (f := 39) rfl ?_); refine goesL_ (some 20) rfl rfl Try.func39 (by kernel_rfl) rfl #[.slice A0 l0.length c0] rfl (by (try simp only [List.map_toArray, List.map_cons, List.map_nil]); first | done | rfl | (simp only [List.length_drop, List.length_take]; rfl)) ?_; (with_reducible refine (graph_Ends.calls k _ _ l0 t107 t108 _ ?side1 ?side2 A7.out).mono ?_); (case side1 => repeat (first | exact (Kd.C_below HR0.out HB.out) | (with_reducible refine Kd.C_alloc ?_ _) | (with_reducible refine Kd.C_drewN ?_ _) | (with_reducible refine Kd.C_drew ?_))); (case side2 => exact HC0.out); rintro e w38 ⟨v109, rfl, ho0, hb⟩; refine ⟨_, rfl, ?_⟩; have n0_ := Aside0.mk (Kd.R_elder' (by (with_reducible repeat (first | apply Kd.R_alloc | apply Kd.R_drewN | apply Kd.R_drew)); exact HO106.out) (Kd.R_base ho0) hb); have n1_ := Aside0.mk (Kd.R_lower (Kd.R_new' ho0 (Kd.R_lt (by (with_reducible repeat (first | apply Kd.R_alloc | apply Kd.R_drewN | apply Kd.R_drew)); exact HO106.out))) (below_size (by repeat (first | (with_reducible first | exact HB.out | apply below_alloc | apply pw_below_drewN | apply below_drew1) | exact HB.out)))); have n2_ := Aside0.mk (below_step (by repeat (first | (with_reducible first | exact HB.out | apply below_alloc | apply pw_below_drewN | apply below_drew1) | exact HB.out)) hb); clear HO106; clear HB; have HO106 := n0_; have HO110 := n1_; have HB := n2_; clear n0_ n1_ n2_; (try clear hb); (try clear hb2); (try clear hk); (try clear hi); (try clear ho0)) | ((with_reducible refine gate_callee (f := 40) rfl ?_); refine goesL_ (some 25) rfl rfl Try.func40 (by kernel_rfl) rfl #[.slice A0 l0.length c0] rfl (by (try simp only [List.map_toArray, List.map_cons, List.map_nil]); first | done | rfl | (simp only [List.length_drop, List.length_take]; rfl)) ?_; (with_reducible refine (graph_Order.calls k _ _ l0 t111 t112 _ ?side1 ?side2 A8.out).mono ?_); (case side1 => repeat (first | exact (Kd.C_below HR0.out HB.out) | (with_reducible refine Kd.C_alloc ?_ _) | (with_reducible refine Kd.C_drewN ?_ _) | (with_reducible refine Kd.C_drew ?_))); (case side2 => exact HC0.out); rintro e w39 ⟨v113, rfl, ho0, hb⟩; refine ⟨_, rfl, ?_⟩; have n0_ := Aside0.mk (Kd.R_below (by (with_reducible repeat (first | apply Kd.R_alloc | apply Kd.R_drewN | apply Kd.R_drew)); exact HO106.out) hb); have n1_ := Aside0.mk (Kd.R_below (by (with_reducible repeat (first | apply Kd.R_alloc | apply Kd.R_drewN | apply Kd.R_drew)); exact HO110.out) hb); have n2_ := Aside0.mk (Kd.R_lower ho0 (below_size (by repeat (first | (with_reducible first | exact HB.out | apply below_alloc | apply pw_below_drewN | apply below_drew1) | exact HB.out)))); have n3_ := Aside0.mk (below_step (by repeat (first | (with_reducible first | exact HB.out | apply below_alloc | apply pw_below_drewN | apply below_drew1) | exact HB.out)) hb); clear HO106; clear HO110; clear HB; have HO106 := n0_; have HO110 := n1_; have HO114 := n2_; have HB := n3_; clear n0_ n1_ n2_ n3_; (try clear hb); (try clear hb2); (try clear hk); (try clear hi); (try clear ho0)) | ((with_reducible refine gate_callee (f := 18) rfl ?_); refine goesL_ (some 29) rfl rfl Try.func18 (by kernel_rfl) rfl #[.slice A0 l0.length c0] rfl (by (try simp only [List.map_toArray, List.map_cons, List.map_nil]); first | done | rfl | (simp only [List.length_drop, List.length_take]; rfl)) ?_; (with_reducible refine (drawloomlaw07_code.calls k _ _ l0 t115 _ ?side1 ?side2 A9.out).mono ?_); (case side1 => repeat (first | exact (Kd.C_below HR0.out HB.out) | (with_reducible refine Kd.C_alloc ?_ _) | (with_reducible refine Kd.C_drewN ?_ _) | (with_reducible refine Kd.C_drew ?_))); (case side2 => exact HC0.out); rintro e w' ⟨rfl, ⟨nd, rfl⟩⟩; refine ⟨_, rfl, ?_⟩) | (go_at_call 33; (with_reducible refine (drawloomref07_Reached.calls k _ _ l0 t117 _ ?side1 ?side2 A14.out).mono ?_); (case side1 => repeat (first | exact (Kd.C_below HR0.out (by repeat (first | (with_reducible first | exact HB.out | apply below_alloc | apply pw_below_drewN | apply below_drew1) | exact HB.out))) | (with_reducible refine Kd.C_alloc ?_ _) | (with_reducible refine Kd.C_drewN ?_ _) | (with_reducible refine Kd.C_drew ?_))); (case side2 => exact HC0.out); rintro e w40 ⟨v118, rfl, ho0, hb⟩; have n0_ := Aside0.mk (Kd.R_elder' (by (with_reducible repeat (first | apply Kd.R_alloc | apply Kd.R_drewN | apply Kd.R_drew)); exact HO106.out) (Kd.R_base ho0) hb); have n1_ := Aside0.mk (Kd.R_elder' (by (with_reducible repeat (first | apply Kd.R_alloc | apply Kd.R_drewN | apply Kd.R_drew)); exact HO110.out) (Kd.R_base ho0) hb); have n2_ := Aside0.mk (Kd.R_below (by (with_reducible repeat (first | apply Kd.R_alloc | apply Kd.R_drewN | apply Kd.R_drew)); exact HO114.out) hb); have n3_ := Aside0.mk (Kd.R_lower (Kd.R_new' (Kd.R_new' ho0 (Kd.R_lt (by (with_reducible repeat (first | apply Kd.R_alloc | apply Kd.R_drewN | apply Kd.R_drew)); exact HO106.out))) (Kd.R_lt (by (with_reducible repeat (first | apply Kd.R_alloc | apply Kd.R_drewN | apply Kd.R_drew)); exact HO110.out))) (below_size (by repeat (first | (with_reducible first | exact HB.out | apply below_alloc | apply pw_below_drewN | apply below_drew1) | exact HB.out)))); have n4_ := Aside0.mk (below_step (by repeat (first | (with_reducible first | exact HB.out | apply below_alloc | apply pw_below_drewN | apply below_drew1) | exact HB.out)) hb); clear HO106; clear HO110; clear HO114; clear HB; have HO106 := n0_; have HO110 := n1_; have HO114 := n2_; have HO119 := n3_; have HB := n4_; clear n0_ n1_ n2_ n3_ n4_; (try clear hb); (try clear hb2); (try clear hk); (try clear hi); (try clear ho0); obtain ⟨Ao41, co41, eo41⟩ := Kd.R_slice HO106.out; subst eo41; obtain ⟨Ao42, co42, eo42⟩ := Kd.R_slice HO119.out; subst eo42) | (go_at_call 41; (with_reducible refine (drawloomlaw07_sameBools.calls k _ _ t103 _ _ t117 true _ ?side1 ?side2 ?side3 ?side4 A15.out).mono ?_); (case side1 => repeat (first | exact (Kd.R_reads' HO106.out).2.2 | (with_reducible refine Kd.C_alloc ?_ _) | (with_reducible refine Kd.C_drewN ?_ _) | (with_reducible refine Kd.C_drew ?_))); (case side2 => exact (Kd.R_reads' HO106.out).2.1); (case side3 => repeat (first | exact (Kd.R_reads' HO119.out).2.2 | (with_reducible refine Kd.C_alloc ?_ _) | (with_reducible refine Kd.C_drewN ?_ _) | (with_reducible refine Kd.C_drew ?_))); (case side4 => exact (Kd.R_reads' HO119.out).2.1); rintro e w' ⟨rfl, ⟨nd, rfl⟩⟩) | (go_at_call 34; (with_reducible refine (drawloomref07_Ending.calls k _ _ l0 t121 _ ?side1 ?side2 A17.out).mono ?_); (case side1 => repeat (first | exact (Kd.C_below HR0.out (by repeat (first | (with_reducible first | exact HB.out | apply below_alloc | apply pw_below_drewN | apply below_drew1) | exact HB.out))) | (with_reducible refine Kd.C_alloc ?_ _) | (with_reducible refine Kd.C_drewN ?_ _) | (with_reducible refine Kd.C_drew ?_))); (case side2 => exact HC0.out); rintro e w43 ⟨v122, rfl, ho0, hb⟩; have n0_ := Aside0.mk (Kd.R_elder' (by (with_reducible repeat (first | apply Kd.R_alloc | apply Kd.R_drewN | apply Kd.R_drew)); exact HO106.out) (Kd.R_base ho0) hb); have n1_ := Aside0.mk (Kd.R_elder' (by (with_reducible repeat (first | apply Kd.R_alloc | apply Kd.R_drewN | apply Kd.R_drew)); exact HO110.out) (Kd.R_base ho0) hb); have n2_ := Aside0.mk (Kd.R_below (by (with_reducible repeat (first | apply Kd.R_alloc | apply Kd.R_drewN | apply Kd.R_drew)); exact HO114.out) hb); have n3_ := Aside0.mk (Kd.R_elder' (by (with_reducible repeat (first | apply Kd.R_alloc | apply Kd.R_drewN | apply Kd.R_drew)); exact HO119.out) (Kd.R_base ho0) hb); have n4_ := Aside0.mk (Kd.R_lower (Kd.R_new' (Kd.R_new' (Kd.R_new' ho0 (Kd.R_lt (by (with_reducible repeat (first | apply Kd.R_alloc | apply Kd.R_drewN | apply Kd.R_drew)); exact HO106.out))) (Kd.R_lt (by (with_reducible repeat (first | apply Kd.R_alloc | apply Kd.R_drewN | apply Kd.R_drew)); exact HO110.out))) (Kd.R_lt (by (with_reducible repeat (first | apply Kd.R_alloc | apply Kd.R_drewN | apply Kd.R_drew)); exact HO119.out))) (below_size (by repeat (first | (with_reducible first | exact HB.out | apply below_alloc | apply pw_below_drewN | apply below_drew1) | exact HB.out)))); have n5_ := Aside0.mk (below_step (by repeat (first | (with_reducible first | exact HB.out | apply below_alloc | apply pw_below_drewN | apply below_drew1) | exact HB.out)) hb); clear HO106; clear HO110; clear HO114; clear HO119; clear HB; have HO106 := n0_; have HO110 := n1_; have HO114 := n2_; have HO119 := n3_; have HO123 := n4_; have HB := n5_; clear n0_ n1_ n2_ n3_ n4_ n5_; (try clear hb); (try clear hb2); (try clear hk); (try clear hi); (try clear ho0); obtain ⟨Ao44, co44, eo44⟩ := Kd.R_slice HO110.out; subst eo44; obtain ⟨Ao45, co45, eo45⟩ := Kd.R_slice HO123.out; subst eo45) | (go_at_call 41; (with_reducible refine (drawloomlaw07_sameBools.calls k _ _ t107 _ _ t121 true _ ?side1 ?side2 ?side3 ?side4 A18.out).mono ?_); (case side1 => repeat (first | exact (Kd.R_reads' HO110.out).2.2 | (with_reducible refine Kd.C_alloc ?_ _) | (with_reducible refine Kd.C_drewN ?_ _) | (with_reducible refine Kd.C_drew ?_))); (case side2 => exact (Kd.R_reads' HO110.out).2.1); (case side3 => repeat (first | exact (Kd.R_reads' HO123.out).2.2 | (with_reducible refine Kd.C_alloc ?_ _) | (with_reducible refine Kd.C_drewN ?_ _) | (with_reducible refine Kd.C_drew ?_))); (case side4 => exact (Kd.R_reads' HO123.out).2.1); rintro e w' ⟨rfl, ⟨nd, rfl⟩⟩) | (go_at_call 42; (with_reducible refine (drawloomref07_Order.calls k _ _ l0 t125 _ ?side1 ?side2 A20.out).mono ?_); (case side1 => repeat (first | exact (Kd.C_below HR0.out (by repeat (first | (with_reducible first | exact HB.out | apply below_alloc | apply pw_below_drewN | apply below_drew1) | exact HB.out))) | (with_reducible refine Kd.C_alloc ?_ _) | (with_reducible refine Kd.C_drewN ?_ _) | (with_reducible refine Kd.C_drew ?_))); (case side2 => exact HC0.out); rintro e w46 ⟨v126, rfl, ho0, hb⟩; have n0_ := Aside0.mk (Kd.R_below (by (with_reducible repeat (first | apply Kd.R_alloc | apply Kd.R_drewN | apply Kd.R_drew)); exact HO106.out) hb); have n1_ := Aside0.mk (Kd.R_below (by (with_reducible repeat (first | apply Kd.R_alloc | apply Kd.R_drewN | apply Kd.R_drew)); exact HO110.out) hb); have n2_ := Aside0.mk (Kd.R_elder' (by (with_reducible repeat (first | apply Kd.R_alloc | apply Kd.R_drewN | apply Kd.R_drew)); exact HO114.out) (Kd.R_base ho0) hb); have n3_ := Aside0.mk (Kd.R_below (by (with_reducible repeat (first | apply Kd.R_alloc | apply Kd.R_drewN | apply Kd.R_drew)); exact HO119.out) hb); have n4_ := Aside0.mk (Kd.R_below (by (with_reducible repeat (first | apply Kd.R_alloc | apply Kd.R_drewN | apply Kd.R_drew)); exact HO123.out) hb); have n5_ := Aside0.mk (Kd.R_lower (Kd.R_new' ho0 (Kd.R_lt (by (with_reducible repeat (first | apply Kd.R_alloc | apply Kd.R_drewN | apply Kd.R_drew)); exact HO114.out))) (below_size (by repeat (first | (with_reducible first | exact HB.out | apply below_alloc | apply pw_below_drewN | apply below_drew1) | exact HB.out)))); have n6_ := Aside0.mk (below_step (by repeat (first | (with_reducible first | exact HB.out | apply below_alloc | apply pw_below_drewN | apply below_drew1) | exact HB.out)) hb); clear HO106; clear HO110; clear HO114; clear HO119; clear HO123; clear HB; have HO106 := n0_; have HO110 := n1_; have HO114 := n2_; have HO119 := n3_; have HO123 := n4_; have HO127 := n5_; have HB := n6_; clear n0_ n1_ n2_ n3_ n4_ n5_ n6_; (try clear hb); (try clear hb2); (try clear hk); (try clear hi); (try clear ho0); obtain ⟨Ao47, co47, eo47⟩ := Kd.R_slice HO114.out; subst eo47; obtain ⟨Ao48, co48, eo48⟩ := Kd.R_slice HO127.out; subst eo48) | (go_at_call 24; (with_reducible refine (drawloomref05_SameInts.calls k _ _ t111 _ _ t125 false _ ?side1 ?side2 ?side3 ?side4 A21.out).mono ?_); (case side1 => repeat (first | exact (Kd.R_reads' HO114.out).2.2 | (with_reducible refine Kd.C_alloc ?_ _) | (with_reducible refine Kd.C_drewN ?_ _) | (with_reducible refine Kd.C_drew ?_))); (case side2 => exact (Kd.R_reads' HO114.out).2.1); (case side3 => repeat (first | exact (Kd.R_reads' HO127.out).2.2 | (with_reducible refine Kd.C_alloc ?_ _) | (with_reducible refine Kd.C_drewN ?_ _) | (with_reducible refine Kd.C_drew ?_))); (case side4 => exact (Kd.R_reads' HO127.out).2.1); rintro e w' ⟨rfl, ⟨nd, rfl⟩⟩))
                  go_ret
                  exact ⟨by first | rfl | (simp [errW_none, errW_some] <;> rfl) | (simp [*, errW_none, errW_some] <;> rfl), by repeat (first | (with_reducible first | exact HB.out | apply below_alloc | apply pw_below_drewN | apply below_drew1) | exact HB.out)⟩
              · replace c19 := Bool.eq_false_iff.mpr c19
                subst c19
                have H1 : (some false) = some r := by rw [if_neg (show ¬ (false = true) by decide)] at H; exact H
                clear H
                have H := H1
                clear H1
                obtain rfl := Option.some.inj H
                go_enter Try.func10, Try.ntmps10
                go_wp2_with (first | ((with_reducible refine gate_callee (f := 13) rfl ?_); refine goesL_ (some 11) rfl rfl Try.func13 (by kernel_rfl) rfl #[.slice A0 l0.length c0] rfl (by (try simp only [List.map_toArray, List.map_cons, List.map_nil]); first | done | rfl | (simp only [List.length_drop, List.length_take]; rfl)) ?_; (with_reducible refine (drawloomlaw07_wide.calls k _ _ l0 false _ ?side1 ?side2 A2.out).mono ?_); (case side1 => repeat (first | exact HR0.out | (with_reducible refine Kd.C_alloc ?_ _) | (with_reducible refine Kd.C_drewN ?_ _) | (with_reducible refine Kd.C_drew ?_))); (case side2 => exact HC0.out); rintro e w' ⟨rfl, ⟨nd, rfl⟩⟩; refine ⟨_, rfl, ?_⟩) | ((with_reducible refine gate_callee (f := 38) rfl ?_); refine goesL_ (some 15) rfl rfl Try.func38 (by kernel_rfl) rfl #[.slice A0 l0.length c0] rfl (by (try simp only [List.map_toArray, List.map_cons, List.map_nil]); first | done | rfl | (simp only [List.length_drop, List.length_take]; rfl)) ?_; (with_reducible refine (graph_Reachable.calls k _ _ l0 t103 t104 _ ?side1 ?side2 A6.out).mono ?_); (case side1 => repeat (first | exact HR0.out | (with_reducible refine Kd.C_alloc ?_ _) | (with_reducible refine Kd.C_drewN ?_ _) | (with_reducible refine Kd.C_drew ?_))); (case side2 => exact HC0.out); rintro e w49 ⟨v105, rfl, ho0, hb⟩; refine ⟨_, rfl, ?_⟩; have n0_ := Aside0.mk (Kd.R_lower ho0 (below_size (by repeat (first | (with_reducible first | exact HB.out | apply below_alloc | apply pw_below_drewN | apply below_drew1) | exact HB.out)))); have n1_ := Aside0.mk (below_step (by repeat (first | (with_reducible first | exact HB.out | apply below_alloc | apply pw_below_drewN | apply below_drew1) | exact HB.out)) hb); clear HB; have HO106 := n0_; have HB := n1_; clear n0_ n1_; (try clear hb); (try clear hb2); (try clear hk); (try clear hi); (try clear ho0)) | ((with_reducible refine gate_callee (f := 39) rfl ?_); refine goesL_ (some 20) rfl rfl Try.func39 (by kernel_rfl) rfl #[.slice A0 l0.length c0] rfl (by (try simp only [List.map_toArray, List.map_cons, List.map_nil]); first | done | rfl | (simp only [List.length_drop, List.length_take]; rfl)) ?_; (with_reducible refine (graph_Ends.calls k _ _ l0 t107 t108 _ ?side1 ?side2 A7.out).mono ?_); (case side1 => repeat (first | exact (Kd.C_below HR0.out HB.out) | (with_reducible refine Kd.C_alloc ?_ _) | (with_reducible refine Kd.C_drewN ?_ _) | (with_reducible refine Kd.C_drew ?_))); (case side2 => exact HC0.out); rintro e w50 ⟨v109, rfl, ho0, hb⟩; refine ⟨_, rfl, ?_⟩; have n0_ := Aside0.mk (Kd.R_elder' (by (with_reducible repeat (first | apply Kd.R_alloc | apply Kd.R_drewN | apply Kd.R_drew)); exact HO106.out) (Kd.R_base ho0) hb); have n1_ := Aside0.mk (Kd.R_lower (Kd.R_new' ho0 (Kd.R_lt (by (with_reducible repeat (first | apply Kd.R_alloc | apply Kd.R_drewN | apply Kd.R_drew)); exact HO106.out))) (below_size (by repeat (first | (with_reducible first | exact HB.out | apply below_alloc | apply pw_below_drewN | apply below_drew1) | exact HB.out)))); have n2_ := Aside0.mk (below_step (by repeat (first | (with_reducible first | exact HB.out | apply below_alloc | apply pw_below_drewN | apply below_drew1) | exact HB.out)) hb); clear HO106; clear HB; have HO106 := n0_; have HO110 := n1_; have HB := n2_; clear n0_ n1_ n2_; (try clear hb); (try clear hb2); (try clear hk); (try clear hi); (try clear ho0)) | ((with_reducible refine gate_callee (f := 40) rfl ?_); refine goesL_ (some 25) rfl rfl Try.func40 (by kernel_rfl) rfl #[.slice A0 l0.length c0] rfl (by (try simp only [List.map_toArray, List.map_cons, List.map_nil]); first | done | rfl | (simp only [List.length_drop, List.length_take]; rfl)) ?_; (with_reducible refine (graph_Order.calls k _ _ l0 t111 t112 _ ?side1 ?side2 A8.out).mono ?_); (case side1 => repeat (first | exact (Kd.C_below HR0.out HB.out) | (with_reducible refine Kd.C_alloc ?_ _) | (with_reducible refine Kd.C_drewN ?_ _) | (with_reducible refine Kd.C_drew ?_))); (case side2 => exact HC0.out); rintro e w51 ⟨v113, rfl, ho0, hb⟩; refine ⟨_, rfl, ?_⟩; have n0_ := Aside0.mk (Kd.R_below (by (with_reducible repeat (first | apply Kd.R_alloc | apply Kd.R_drewN | apply Kd.R_drew)); exact HO106.out) hb); have n1_ := Aside0.mk (Kd.R_below (by (with_reducible repeat (first | apply Kd.R_alloc | apply Kd.R_drewN | apply Kd.R_drew)); exact HO110.out) hb); have n2_ := Aside0.mk (Kd.R_lower ho0 (below_size (by repeat (first | (with_reducible first | exact HB.out | apply below_alloc | apply pw_below_drewN | apply below_drew1) | exact HB.out)))); have n3_ := Aside0.mk (below_step (by repeat (first | (with_reducible first | exact HB.out | apply below_alloc | apply pw_below_drewN | apply below_drew1) | exact HB.out)) hb); clear HO106; clear HO110; clear HB; have HO106 := n0_; have HO110 := n1_; have HO114 := n2_; have HB := n3_; clear n0_ n1_ n2_ n3_; (try clear hb); (try clear hb2); (try clear hk); (try clear hi); (try clear ho0)) | ((with_reducible refine gate_callee (f := 18) rfl ?_); refine goesL_ (some 29) rfl rfl Try.func18 (by kernel_rfl) rfl #[.slice A0 l0.length c0] rfl (by (try simp only [List.map_toArray, List.map_cons, List.map_nil]); first | done | rfl | (simp only [List.length_drop, List.length_take]; rfl)) ?_; (with_reducible refine (drawloomlaw07_code.calls k _ _ l0 t115 _ ?side1 ?side2 A9.out).mono ?_); (case side1 => repeat (first | exact (Kd.C_below HR0.out HB.out) | (with_reducible refine Kd.C_alloc ?_ _) | (with_reducible refine Kd.C_drewN ?_ _) | (with_reducible refine Kd.C_drew ?_))); (case side2 => exact HC0.out); rintro e w' ⟨rfl, ⟨nd, rfl⟩⟩; refine ⟨_, rfl, ?_⟩) | (go_at_call 33; (with_reducible refine (drawloomref07_Reached.calls k _ _ l0 t117 _ ?side1 ?side2 A14.out).mono ?_); (case side1 => repeat (first | exact (Kd.C_below HR0.out (by repeat (first | (with_reducible first | exact HB.out | apply below_alloc | apply pw_below_drewN | apply below_drew1) | exact HB.out))) | (with_reducible refine Kd.C_alloc ?_ _) | (with_reducible refine Kd.C_drewN ?_ _) | (with_reducible refine Kd.C_drew ?_))); (case side2 => exact HC0.out); rintro e w52 ⟨v118, rfl, ho0, hb⟩; have n0_ := Aside0.mk (Kd.R_elder' (by (with_reducible repeat (first | apply Kd.R_alloc | apply Kd.R_drewN | apply Kd.R_drew)); exact HO106.out) (Kd.R_base ho0) hb); have n1_ := Aside0.mk (Kd.R_elder' (by (with_reducible repeat (first | apply Kd.R_alloc | apply Kd.R_drewN | apply Kd.R_drew)); exact HO110.out) (Kd.R_base ho0) hb); have n2_ := Aside0.mk (Kd.R_below (by (with_reducible repeat (first | apply Kd.R_alloc | apply Kd.R_drewN | apply Kd.R_drew)); exact HO114.out) hb); have n3_ := Aside0.mk (Kd.R_lower (Kd.R_new' (Kd.R_new' ho0 (Kd.R_lt (by (with_reducible repeat (first | apply Kd.R_alloc | apply Kd.R_drewN | apply Kd.R_drew)); exact HO106.out))) (Kd.R_lt (by (with_reducible repeat (first | apply Kd.R_alloc | apply Kd.R_drewN | apply Kd.R_drew)); exact HO110.out))) (below_size (by repeat (first | (with_reducible first | exact HB.out | apply below_alloc | apply pw_below_drewN | apply below_drew1) | exact HB.out)))); have n4_ := Aside0.mk (below_step (by repeat (first | (with_reducible first | exact HB.out | apply below_alloc | apply pw_below_drewN | apply below_drew1) | exact HB.out)) hb); clear HO106; clear HO110; clear HO114; clear HB; have HO106 := n0_; have HO110 := n1_; have HO114 := n2_; have HO119 := n3_; have HB := n4_; clear n0_ n1_ n2_ n3_ n4_; (try clear hb); (try clear hb2); (try clear hk); (try clear hi); (try clear ho0); obtain ⟨Ao53, co53, eo53⟩ := Kd.R_slice HO106.out; subst eo53; obtain ⟨Ao54, co54, eo54⟩ := Kd.R_slice HO119.out; subst eo54) | (go_at_call 41; (with_reducible refine (drawloomlaw07_sameBools.calls k _ _ t103 _ _ t117 true _ ?side1 ?side2 ?side3 ?side4 A15.out).mono ?_); (case side1 => repeat (first | exact (Kd.R_reads' HO106.out).2.2 | (with_reducible refine Kd.C_alloc ?_ _) | (with_reducible refine Kd.C_drewN ?_ _) | (with_reducible refine Kd.C_drew ?_))); (case side2 => exact (Kd.R_reads' HO106.out).2.1); (case side3 => repeat (first | exact (Kd.R_reads' HO119.out).2.2 | (with_reducible refine Kd.C_alloc ?_ _) | (with_reducible refine Kd.C_drewN ?_ _) | (with_reducible refine Kd.C_drew ?_))); (case side4 => exact (Kd.R_reads' HO119.out).2.1); rintro e w' ⟨rfl, ⟨nd, rfl⟩⟩) | (go_at_call 34; (with_reducible refine (drawloomref07_Ending.calls k _ _ l0 t121 _ ?side1 ?side2 A17.out).mono ?_); (case side1 => repeat (first | exact (Kd.C_below HR0.out (by repeat (first | (with_reducible first | exact HB.out | apply below_alloc | apply pw_below_drewN | apply below_drew1) | exact HB.out))) | (with_reducible refine Kd.C_alloc ?_ _) | (with_reducible refine Kd.C_drewN ?_ _) | (with_reducible refine Kd.C_drew ?_))); (case side2 => exact HC0.out); rintro e w55 ⟨v122, rfl, ho0, hb⟩; have n0_ := Aside0.mk (Kd.R_elder' (by (with_reducible repeat (first | apply Kd.R_alloc | apply Kd.R_drewN | apply Kd.R_drew)); exact HO106.out) (Kd.R_base ho0) hb); have n1_ := Aside0.mk (Kd.R_elder' (by (with_reducible repeat (first | apply Kd.R_alloc | apply Kd.R_drewN | apply Kd.R_drew)); exact HO110.out) (Kd.R_base ho0) hb); have n2_ := Aside0.mk (Kd.R_below (by (with_reducible repeat (first | apply Kd.R_alloc | apply Kd.R_drewN | apply Kd.R_drew)); exact HO114.out) hb); have n3_ := Aside0.mk (Kd.R_elder' (by (with_reducible repeat (first | apply Kd.R_alloc | apply Kd.R_drewN | apply Kd.R_drew)); exact HO119.out) (Kd.R_base ho0) hb); have n4_ := Aside0.mk (Kd.R_lower (Kd.R_new' (Kd.R_new' (Kd.R_new' ho0 (Kd.R_lt (by (with_reducible repeat (first | apply Kd.R_alloc | apply Kd.R_drewN | apply Kd.R_drew)); exact HO106.out))) (Kd.R_lt (by (with_reducible repeat (first | apply Kd.R_alloc | apply Kd.R_drewN | apply Kd.R_drew)); exact HO110.out))) (Kd.R_lt (by (with_reducible repeat (first | apply Kd.R_alloc | apply Kd.R_drewN | apply Kd.R_drew)); exact HO119.out))) (below_size (by repeat (first | (with_reducible first | exact HB.out | apply below_alloc | apply pw_below_drewN | apply below_drew1) | exact HB.out)))); have n5_ := Aside0.mk (below_step (by repeat (first | (with_reducible first | exact HB.out | apply below_alloc | apply pw_below_drewN | apply below_drew1) | exact HB.out)) hb); clear HO106; clear HO110; clear HO114; clear HO119; clear HB; have HO106 := n0_; have HO110 := n1_; have HO114 := n2_; have HO119 := n3_; have HO123 := n4_; have HB := n5_; clear n0_ n1_ n2_ n3_ n4_ n5_; (try clear hb); (try clear hb2); (try clear hk); (try clear hi); (try clear ho0); obtain ⟨Ao56, co56, eo56⟩ := Kd.R_slice HO110.out; subst eo56; obtain ⟨Ao57, co57, eo57⟩ := Kd.R_slice HO123.out; subst eo57) | (go_at_call 41; (with_reducible refine (drawloomlaw07_sameBools.calls k _ _ t107 _ _ t121 false _ ?side1 ?side2 ?side3 ?side4 A18.out).mono ?_); (case side1 => repeat (first | exact (Kd.R_reads' HO110.out).2.2 | (with_reducible refine Kd.C_alloc ?_ _) | (with_reducible refine Kd.C_drewN ?_ _) | (with_reducible refine Kd.C_drew ?_))); (case side2 => exact (Kd.R_reads' HO110.out).2.1); (case side3 => repeat (first | exact (Kd.R_reads' HO123.out).2.2 | (with_reducible refine Kd.C_alloc ?_ _) | (with_reducible refine Kd.C_drewN ?_ _) | (with_reducible refine Kd.C_drew ?_))); (case side4 => exact (Kd.R_reads' HO123.out).2.1); rintro e w' ⟨rfl, ⟨nd, rfl⟩⟩))
                go_ret
                exact ⟨by first | rfl | (simp [errW_none, errW_some] <;> rfl) | (simp [*, errW_none, errW_some] <;> rfl), by repeat (first | (with_reducible first | exact HB.out | apply below_alloc | apply pw_below_drewN | apply below_drew1) | exact HB.out)⟩
            · replace c16 := Bool.eq_false_iff.mpr c16
              subst c16
              have H1 : (some false) = some r := by rw [if_neg (show ¬ (false = true) by decide)] at H; exact H
              clear H
              have H := H1
              clear H1
              obtain rfl := Option.some.inj H
              go_enter Try.func10, Try.ntmps10
              go_wp2_with (first | ((with_reducible refine gate_callee (f := 13) rfl ?_); refine goesL_ (some 11) rfl rfl Try.func13 (by kernel_rfl) rfl #[.slice A0 l0.length c0] rfl (by (try simp only [List.map_toArray, List.map_cons, List.map_nil]); first | done | rfl | (simp only [List.length_drop, List.length_take]; rfl)) ?_; (with_reducible refine (drawloomlaw07_wide.calls k _ _ l0 false _ ?side1 ?side2 A2.out).mono ?_); (case side1 => repeat (first | exact HR0.out | (with_reducible refine Kd.C_alloc ?_ _) | (with_reducible refine Kd.C_drewN ?_ _) | (with_reducible refine Kd.C_drew ?_))); (case side2 => exact HC0.out); rintro e w' ⟨rfl, ⟨nd, rfl⟩⟩; refine ⟨_, rfl, ?_⟩) | ((with_reducible refine gate_callee (f := 38) rfl ?_); refine goesL_ (some 15) rfl rfl Try.func38 (by kernel_rfl) rfl #[.slice A0 l0.length c0] rfl (by (try simp only [List.map_toArray, List.map_cons, List.map_nil]); first | done | rfl | (simp only [List.length_drop, List.length_take]; rfl)) ?_; (with_reducible refine (graph_Reachable.calls k _ _ l0 t103 t104 _ ?side1 ?side2 A6.out).mono ?_); (case side1 => repeat (first | exact HR0.out | (with_reducible refine Kd.C_alloc ?_ _) | (with_reducible refine Kd.C_drewN ?_ _) | (with_reducible refine Kd.C_drew ?_))); (case side2 => exact HC0.out); rintro e w58 ⟨v105, rfl, ho0, hb⟩; refine ⟨_, rfl, ?_⟩; have n0_ := Aside0.mk (Kd.R_lower ho0 (below_size (by repeat (first | (with_reducible first | exact HB.out | apply below_alloc | apply pw_below_drewN | apply below_drew1) | exact HB.out)))); have n1_ := Aside0.mk (below_step (by repeat (first | (with_reducible first | exact HB.out | apply below_alloc | apply pw_below_drewN | apply below_drew1) | exact HB.out)) hb); clear HB; have HO106 := n0_; have HB := n1_; clear n0_ n1_; (try clear hb); (try clear hb2); (try clear hk); (try clear hi); (try clear ho0)) | ((with_reducible refine gate_callee (f := 39) rfl ?_); refine goesL_ (some 20) rfl rfl Try.func39 (by kernel_rfl) rfl #[.slice A0 l0.length c0] rfl (by (try simp only [List.map_toArray, List.map_cons, List.map_nil]); first | done | rfl | (simp only [List.length_drop, List.length_take]; rfl)) ?_; (with_reducible refine (graph_Ends.calls k _ _ l0 t107 t108 _ ?side1 ?side2 A7.out).mono ?_); (case side1 => repeat (first | exact (Kd.C_below HR0.out HB.out) | (with_reducible refine Kd.C_alloc ?_ _) | (with_reducible refine Kd.C_drewN ?_ _) | (with_reducible refine Kd.C_drew ?_))); (case side2 => exact HC0.out); rintro e w59 ⟨v109, rfl, ho0, hb⟩; refine ⟨_, rfl, ?_⟩; have n0_ := Aside0.mk (Kd.R_elder' (by (with_reducible repeat (first | apply Kd.R_alloc | apply Kd.R_drewN | apply Kd.R_drew)); exact HO106.out) (Kd.R_base ho0) hb); have n1_ := Aside0.mk (Kd.R_lower (Kd.R_new' ho0 (Kd.R_lt (by (with_reducible repeat (first | apply Kd.R_alloc | apply Kd.R_drewN | apply Kd.R_drew)); exact HO106.out))) (below_size (by repeat (first | (with_reducible first | exact HB.out | apply below_alloc | apply pw_below_drewN | apply below_drew1) | exact HB.out)))); have n2_ := Aside0.mk (below_step (by repeat (first | (with_reducible first | exact HB.out | apply below_alloc | apply pw_below_drewN | apply below_drew1) | exact HB.out)) hb); clear HO106; clear HB; have HO106 := n0_; have HO110 := n1_; have HB := n2_; clear n0_ n1_ n2_; (try clear hb); (try clear hb2); (try clear hk); (try clear hi); (try clear ho0)) | ((with_reducible refine gate_callee (f := 40) rfl ?_); refine goesL_ (some 25) rfl rfl Try.func40 (by kernel_rfl) rfl #[.slice A0 l0.length c0] rfl (by (try simp only [List.map_toArray, List.map_cons, List.map_nil]); first | done | rfl | (simp only [List.length_drop, List.length_take]; rfl)) ?_; (with_reducible refine (graph_Order.calls k _ _ l0 t111 t112 _ ?side1 ?side2 A8.out).mono ?_); (case side1 => repeat (first | exact (Kd.C_below HR0.out HB.out) | (with_reducible refine Kd.C_alloc ?_ _) | (with_reducible refine Kd.C_drewN ?_ _) | (with_reducible refine Kd.C_drew ?_))); (case side2 => exact HC0.out); rintro e w60 ⟨v113, rfl, ho0, hb⟩; refine ⟨_, rfl, ?_⟩; have n0_ := Aside0.mk (Kd.R_below (by (with_reducible repeat (first | apply Kd.R_alloc | apply Kd.R_drewN | apply Kd.R_drew)); exact HO106.out) hb); have n1_ := Aside0.mk (Kd.R_below (by (with_reducible repeat (first | apply Kd.R_alloc | apply Kd.R_drewN | apply Kd.R_drew)); exact HO110.out) hb); have n2_ := Aside0.mk (Kd.R_lower ho0 (below_size (by repeat (first | (with_reducible first | exact HB.out | apply below_alloc | apply pw_below_drewN | apply below_drew1) | exact HB.out)))); have n3_ := Aside0.mk (below_step (by repeat (first | (with_reducible first | exact HB.out | apply below_alloc | apply pw_below_drewN | apply below_drew1) | exact HB.out)) hb); clear HO106; clear HO110; clear HB; have HO106 := n0_; have HO110 := n1_; have HO114 := n2_; have HB := n3_; clear n0_ n1_ n2_ n3_; (try clear hb); (try clear hb2); (try clear hk); (try clear hi); (try clear ho0)) | ((with_reducible refine gate_callee (f := 18) rfl ?_); refine goesL_ (some 29) rfl rfl Try.func18 (by kernel_rfl) rfl #[.slice A0 l0.length c0] rfl (by (try simp only [List.map_toArray, List.map_cons, List.map_nil]); first | done | rfl | (simp only [List.length_drop, List.length_take]; rfl)) ?_; (with_reducible refine (drawloomlaw07_code.calls k _ _ l0 t115 _ ?side1 ?side2 A9.out).mono ?_); (case side1 => repeat (first | exact (Kd.C_below HR0.out HB.out) | (with_reducible refine Kd.C_alloc ?_ _) | (with_reducible refine Kd.C_drewN ?_ _) | (with_reducible refine Kd.C_drew ?_))); (case side2 => exact HC0.out); rintro e w' ⟨rfl, ⟨nd, rfl⟩⟩; refine ⟨_, rfl, ?_⟩) | (go_at_call 33; (with_reducible refine (drawloomref07_Reached.calls k _ _ l0 t117 _ ?side1 ?side2 A14.out).mono ?_); (case side1 => repeat (first | exact (Kd.C_below HR0.out (by repeat (first | (with_reducible first | exact HB.out | apply below_alloc | apply pw_below_drewN | apply below_drew1) | exact HB.out))) | (with_reducible refine Kd.C_alloc ?_ _) | (with_reducible refine Kd.C_drewN ?_ _) | (with_reducible refine Kd.C_drew ?_))); (case side2 => exact HC0.out); rintro e w61 ⟨v118, rfl, ho0, hb⟩; have n0_ := Aside0.mk (Kd.R_elder' (by (with_reducible repeat (first | apply Kd.R_alloc | apply Kd.R_drewN | apply Kd.R_drew)); exact HO106.out) (Kd.R_base ho0) hb); have n1_ := Aside0.mk (Kd.R_elder' (by (with_reducible repeat (first | apply Kd.R_alloc | apply Kd.R_drewN | apply Kd.R_drew)); exact HO110.out) (Kd.R_base ho0) hb); have n2_ := Aside0.mk (Kd.R_below (by (with_reducible repeat (first | apply Kd.R_alloc | apply Kd.R_drewN | apply Kd.R_drew)); exact HO114.out) hb); have n3_ := Aside0.mk (Kd.R_lower (Kd.R_new' (Kd.R_new' ho0 (Kd.R_lt (by (with_reducible repeat (first | apply Kd.R_alloc | apply Kd.R_drewN | apply Kd.R_drew)); exact HO106.out))) (Kd.R_lt (by (with_reducible repeat (first | apply Kd.R_alloc | apply Kd.R_drewN | apply Kd.R_drew)); exact HO110.out))) (below_size (by repeat (first | (with_reducible first | exact HB.out | apply below_alloc | apply pw_below_drewN | apply below_drew1) | exact HB.out)))); have n4_ := Aside0.mk (below_step (by repeat (first | (with_reducible first | exact HB.out | apply below_alloc | apply pw_below_drewN | apply below_drew1) | exact HB.out)) hb); clear HO106; clear HO110; clear HO114; clear HB; have HO106 := n0_; have HO110 := n1_; have HO114 := n2_; have HO119 := n3_; have HB := n4_; clear n0_ n1_ n2_ n3_ n4_; (try clear hb); (try clear hb2); (try clear hk); (try clear hi); (try clear ho0); obtain ⟨Ao62, co62, eo62⟩ := Kd.R_slice HO106.out; subst eo62; obtain ⟨Ao63, co63, eo63⟩ := Kd.R_slice HO119.out; subst eo63) | (go_at_call 41; (with_reducible refine (drawloomlaw07_sameBools.calls k _ _ t103 _ _ t117 false _ ?side1 ?side2 ?side3 ?side4 A15.out).mono ?_); (case side1 => repeat (first | exact (Kd.R_reads' HO106.out).2.2 | (with_reducible refine Kd.C_alloc ?_ _) | (with_reducible refine Kd.C_drewN ?_ _) | (with_reducible refine Kd.C_drew ?_))); (case side2 => exact (Kd.R_reads' HO106.out).2.1); (case side3 => repeat (first | exact (Kd.R_reads' HO119.out).2.2 | (with_reducible refine Kd.C_alloc ?_ _) | (with_reducible refine Kd.C_drewN ?_ _) | (with_reducible refine Kd.C_drew ?_))); (case side4 => exact (Kd.R_reads' HO119.out).2.1); rintro e w' ⟨rfl, ⟨nd, rfl⟩⟩))
              go_ret
              exact ⟨by first | rfl | (simp [errW_none, errW_some] <;> rfl) | (simp [*, errW_none, errW_some] <;> rfl), by repeat (first | (with_reducible first | exact HB.out | apply below_alloc | apply pw_below_drewN | apply below_drew1) | exact HB.out)⟩
          · rw [if_neg c13] at H
            have c13b0 : (t112 == 0) = false := beq_eq_false_iff_ne.mpr c13
            have c13b1 : (t112 != 0) = true := bne_iff_ne.mpr c13
            obtain rfl := Option.some.inj H
            go_enter Try.func10, Try.ntmps10
            go_wp2_with (first | ((with_reducible refine gate_callee (f := 13) rfl ?_); refine goesL_ (some 11) rfl rfl Try.func13 (by kernel_rfl) rfl #[.slice A0 l0.length c0] rfl (by (try simp only [List.map_toArray, List.map_cons, List.map_nil]); first | done | rfl | (simp only [List.length_drop, List.length_take]; rfl)) ?_; (with_reducible refine (drawloomlaw07_wide.calls k _ _ l0 false _ ?side1 ?side2 A2.out).mono ?_); (case side1 => repeat (first | exact HR0.out | (with_reducible refine Kd.C_alloc ?_ _) | (with_reducible refine Kd.C_drewN ?_ _) | (with_reducible refine Kd.C_drew ?_))); (case side2 => exact HC0.out); rintro e w' ⟨rfl, ⟨nd, rfl⟩⟩; refine ⟨_, rfl, ?_⟩) | ((with_reducible refine gate_callee (f := 38) rfl ?_); refine goesL_ (some 15) rfl rfl Try.func38 (by kernel_rfl) rfl #[.slice A0 l0.length c0] rfl (by (try simp only [List.map_toArray, List.map_cons, List.map_nil]); first | done | rfl | (simp only [List.length_drop, List.length_take]; rfl)) ?_; (with_reducible refine (graph_Reachable.calls k _ _ l0 t103 t104 _ ?side1 ?side2 A6.out).mono ?_); (case side1 => repeat (first | exact HR0.out | (with_reducible refine Kd.C_alloc ?_ _) | (with_reducible refine Kd.C_drewN ?_ _) | (with_reducible refine Kd.C_drew ?_))); (case side2 => exact HC0.out); rintro e w64 ⟨v105, rfl, ho0, hb⟩; refine ⟨_, rfl, ?_⟩; have n0_ := Aside0.mk (Kd.R_lower ho0 (below_size (by repeat (first | (with_reducible first | exact HB.out | apply below_alloc | apply pw_below_drewN | apply below_drew1) | exact HB.out)))); have n1_ := Aside0.mk (below_step (by repeat (first | (with_reducible first | exact HB.out | apply below_alloc | apply pw_below_drewN | apply below_drew1) | exact HB.out)) hb); clear HB; have HO106 := n0_; have HB := n1_; clear n0_ n1_; (try clear hb); (try clear hb2); (try clear hk); (try clear hi); (try clear ho0)) | ((with_reducible refine gate_callee (f := 39) rfl ?_); refine goesL_ (some 20) rfl rfl Try.func39 (by kernel_rfl) rfl #[.slice A0 l0.length c0] rfl (by (try simp only [List.map_toArray, List.map_cons, List.map_nil]); first | done | rfl | (simp only [List.length_drop, List.length_take]; rfl)) ?_; (with_reducible refine (graph_Ends.calls k _ _ l0 t107 t108 _ ?side1 ?side2 A7.out).mono ?_); (case side1 => repeat (first | exact (Kd.C_below HR0.out HB.out) | (with_reducible refine Kd.C_alloc ?_ _) | (with_reducible refine Kd.C_drewN ?_ _) | (with_reducible refine Kd.C_drew ?_))); (case side2 => exact HC0.out); rintro e w65 ⟨v109, rfl, ho0, hb⟩; refine ⟨_, rfl, ?_⟩; have n0_ := Aside0.mk (Kd.R_elder' (by (with_reducible repeat (first | apply Kd.R_alloc | apply Kd.R_drewN | apply Kd.R_drew)); exact HO106.out) (Kd.R_base ho0) hb); have n1_ := Aside0.mk (Kd.R_lower (Kd.R_new' ho0 (Kd.R_lt (by (with_reducible repeat (first | apply Kd.R_alloc | apply Kd.R_drewN | apply Kd.R_drew)); exact HO106.out))) (below_size (by repeat (first | (with_reducible first | exact HB.out | apply below_alloc | apply pw_below_drewN | apply below_drew1) | exact HB.out)))); have n2_ := Aside0.mk (below_step (by repeat (first | (with_reducible first | exact HB.out | apply below_alloc | apply pw_below_drewN | apply below_drew1) | exact HB.out)) hb); clear HO106; clear HB; have HO106 := n0_; have HO110 := n1_; have HB := n2_; clear n0_ n1_ n2_; (try clear hb); (try clear hb2); (try clear hk); (try clear hi); (try clear ho0)) | ((with_reducible refine gate_callee (f := 40) rfl ?_); refine goesL_ (some 25) rfl rfl Try.func40 (by kernel_rfl) rfl #[.slice A0 l0.length c0] rfl (by (try simp only [List.map_toArray, List.map_cons, List.map_nil]); first | done | rfl | (simp only [List.length_drop, List.length_take]; rfl)) ?_; (with_reducible refine (graph_Order.calls k _ _ l0 t111 t112 _ ?side1 ?side2 A8.out).mono ?_); (case side1 => repeat (first | exact (Kd.C_below HR0.out HB.out) | (with_reducible refine Kd.C_alloc ?_ _) | (with_reducible refine Kd.C_drewN ?_ _) | (with_reducible refine Kd.C_drew ?_))); (case side2 => exact HC0.out); rintro e w66 ⟨v113, rfl, ho0, hb⟩; refine ⟨_, rfl, ?_⟩; have n0_ := Aside0.mk (Kd.R_below (by (with_reducible repeat (first | apply Kd.R_alloc | apply Kd.R_drewN | apply Kd.R_drew)); exact HO106.out) hb); have n1_ := Aside0.mk (Kd.R_below (by (with_reducible repeat (first | apply Kd.R_alloc | apply Kd.R_drewN | apply Kd.R_drew)); exact HO110.out) hb); have n2_ := Aside0.mk (Kd.R_lower ho0 (below_size (by repeat (first | (with_reducible first | exact HB.out | apply below_alloc | apply pw_below_drewN | apply below_drew1) | exact HB.out)))); have n3_ := Aside0.mk (below_step (by repeat (first | (with_reducible first | exact HB.out | apply below_alloc | apply pw_below_drewN | apply below_drew1) | exact HB.out)) hb); clear HO106; clear HO110; clear HB; have HO106 := n0_; have HO110 := n1_; have HO114 := n2_; have HB := n3_; clear n0_ n1_ n2_ n3_; (try clear hb); (try clear hb2); (try clear hk); (try clear hi); (try clear ho0)) | ((with_reducible refine gate_callee (f := 18) rfl ?_); refine goesL_ (some 29) rfl rfl Try.func18 (by kernel_rfl) rfl #[.slice A0 l0.length c0] rfl (by (try simp only [List.map_toArray, List.map_cons, List.map_nil]); first | done | rfl | (simp only [List.length_drop, List.length_take]; rfl)) ?_; (with_reducible refine (drawloomlaw07_code.calls k _ _ l0 t115 _ ?side1 ?side2 A9.out).mono ?_); (case side1 => repeat (first | exact (Kd.C_below HR0.out HB.out) | (with_reducible refine Kd.C_alloc ?_ _) | (with_reducible refine Kd.C_drewN ?_ _) | (with_reducible refine Kd.C_drew ?_))); (case side2 => exact HC0.out); rintro e w' ⟨rfl, ⟨nd, rfl⟩⟩; refine ⟨_, rfl, ?_⟩))
            go_ret
            exact ⟨by first | rfl | (simp [errW_none, errW_some] <;> rfl) | (simp [*, errW_none, errW_some] <;> rfl), by repeat (first | (with_reducible first | exact HB.out | apply below_alloc | apply pw_below_drewN | apply below_drew1) | exact HB.out)⟩
        · rw [if_neg c12] at H
          have c12b0 : (t108 == 0) = false := beq_eq_false_iff_ne.mpr c12
          have c12b1 : (t108 != 0) = true := bne_iff_ne.mpr c12
          obtain rfl := Option.some.inj H
          go_enter Try.func10, Try.ntmps10
          go_wp2_with (first | ((with_reducible refine gate_callee (f := 13) rfl ?_); refine goesL_ (some 11) rfl rfl Try.func13 (by kernel_rfl) rfl #[.slice A0 l0.length c0] rfl (by (try simp only [List.map_toArray, List.map_cons, List.map_nil]); first | done | rfl | (simp only [List.length_drop, List.length_take]; rfl)) ?_; (with_reducible refine (drawloomlaw07_wide.calls k _ _ l0 false _ ?side1 ?side2 A2.out).mono ?_); (case side1 => repeat (first | exact HR0.out | (with_reducible refine Kd.C_alloc ?_ _) | (with_reducible refine Kd.C_drewN ?_ _) | (with_reducible refine Kd.C_drew ?_))); (case side2 => exact HC0.out); rintro e w' ⟨rfl, ⟨nd, rfl⟩⟩; refine ⟨_, rfl, ?_⟩) | ((with_reducible refine gate_callee (f := 38) rfl ?_); refine goesL_ (some 15) rfl rfl Try.func38 (by kernel_rfl) rfl #[.slice A0 l0.length c0] rfl (by (try simp only [List.map_toArray, List.map_cons, List.map_nil]); first | done | rfl | (simp only [List.length_drop, List.length_take]; rfl)) ?_; (with_reducible refine (graph_Reachable.calls k _ _ l0 t103 t104 _ ?side1 ?side2 A6.out).mono ?_); (case side1 => repeat (first | exact HR0.out | (with_reducible refine Kd.C_alloc ?_ _) | (with_reducible refine Kd.C_drewN ?_ _) | (with_reducible refine Kd.C_drew ?_))); (case side2 => exact HC0.out); rintro e w67 ⟨v105, rfl, ho0, hb⟩; refine ⟨_, rfl, ?_⟩; have n0_ := Aside0.mk (Kd.R_lower ho0 (below_size (by repeat (first | (with_reducible first | exact HB.out | apply below_alloc | apply pw_below_drewN | apply below_drew1) | exact HB.out)))); have n1_ := Aside0.mk (below_step (by repeat (first | (with_reducible first | exact HB.out | apply below_alloc | apply pw_below_drewN | apply below_drew1) | exact HB.out)) hb); clear HB; have HO106 := n0_; have HB := n1_; clear n0_ n1_; (try clear hb); (try clear hb2); (try clear hk); (try clear hi); (try clear ho0)) | ((with_reducible refine gate_callee (f := 39) rfl ?_); refine goesL_ (some 20) rfl rfl Try.func39 (by kernel_rfl) rfl #[.slice A0 l0.length c0] rfl (by (try simp only [List.map_toArray, List.map_cons, List.map_nil]); first | done | rfl | (simp only [List.length_drop, List.length_take]; rfl)) ?_; (with_reducible refine (graph_Ends.calls k _ _ l0 t107 t108 _ ?side1 ?side2 A7.out).mono ?_); (case side1 => repeat (first | exact (Kd.C_below HR0.out HB.out) | (with_reducible refine Kd.C_alloc ?_ _) | (with_reducible refine Kd.C_drewN ?_ _) | (with_reducible refine Kd.C_drew ?_))); (case side2 => exact HC0.out); rintro e w68 ⟨v109, rfl, ho0, hb⟩; refine ⟨_, rfl, ?_⟩; have n0_ := Aside0.mk (Kd.R_elder' (by (with_reducible repeat (first | apply Kd.R_alloc | apply Kd.R_drewN | apply Kd.R_drew)); exact HO106.out) (Kd.R_base ho0) hb); have n1_ := Aside0.mk (Kd.R_lower (Kd.R_new' ho0 (Kd.R_lt (by (with_reducible repeat (first | apply Kd.R_alloc | apply Kd.R_drewN | apply Kd.R_drew)); exact HO106.out))) (below_size (by repeat (first | (with_reducible first | exact HB.out | apply below_alloc | apply pw_below_drewN | apply below_drew1) | exact HB.out)))); have n2_ := Aside0.mk (below_step (by repeat (first | (with_reducible first | exact HB.out | apply below_alloc | apply pw_below_drewN | apply below_drew1) | exact HB.out)) hb); clear HO106; clear HB; have HO106 := n0_; have HO110 := n1_; have HB := n2_; clear n0_ n1_ n2_; (try clear hb); (try clear hb2); (try clear hk); (try clear hi); (try clear ho0)) | ((with_reducible refine gate_callee (f := 40) rfl ?_); refine goesL_ (some 25) rfl rfl Try.func40 (by kernel_rfl) rfl #[.slice A0 l0.length c0] rfl (by (try simp only [List.map_toArray, List.map_cons, List.map_nil]); first | done | rfl | (simp only [List.length_drop, List.length_take]; rfl)) ?_; (with_reducible refine (graph_Order.calls k _ _ l0 t111 t112 _ ?side1 ?side2 A8.out).mono ?_); (case side1 => repeat (first | exact (Kd.C_below HR0.out HB.out) | (with_reducible refine Kd.C_alloc ?_ _) | (with_reducible refine Kd.C_drewN ?_ _) | (with_reducible refine Kd.C_drew ?_))); (case side2 => exact HC0.out); rintro e w69 ⟨v113, rfl, ho0, hb⟩; refine ⟨_, rfl, ?_⟩; have n0_ := Aside0.mk (Kd.R_below (by (with_reducible repeat (first | apply Kd.R_alloc | apply Kd.R_drewN | apply Kd.R_drew)); exact HO106.out) hb); have n1_ := Aside0.mk (Kd.R_below (by (with_reducible repeat (first | apply Kd.R_alloc | apply Kd.R_drewN | apply Kd.R_drew)); exact HO110.out) hb); have n2_ := Aside0.mk (Kd.R_lower ho0 (below_size (by repeat (first | (with_reducible first | exact HB.out | apply below_alloc | apply pw_below_drewN | apply below_drew1) | exact HB.out)))); have n3_ := Aside0.mk (below_step (by repeat (first | (with_reducible first | exact HB.out | apply below_alloc | apply pw_below_drewN | apply below_drew1) | exact HB.out)) hb); clear HO106; clear HO110; clear HB; have HO106 := n0_; have HO110 := n1_; have HO114 := n2_; have HB := n3_; clear n0_ n1_ n2_ n3_; (try clear hb); (try clear hb2); (try clear hk); (try clear hi); (try clear ho0)) | ((with_reducible refine gate_callee (f := 18) rfl ?_); refine goesL_ (some 29) rfl rfl Try.func18 (by kernel_rfl) rfl #[.slice A0 l0.length c0] rfl (by (try simp only [List.map_toArray, List.map_cons, List.map_nil]); first | done | rfl | (simp only [List.length_drop, List.length_take]; rfl)) ?_; (with_reducible refine (drawloomlaw07_code.calls k _ _ l0 t115 _ ?side1 ?side2 A9.out).mono ?_); (case side1 => repeat (first | exact (Kd.C_below HR0.out HB.out) | (with_reducible refine Kd.C_alloc ?_ _) | (with_reducible refine Kd.C_drewN ?_ _) | (with_reducible refine Kd.C_drew ?_))); (case side2 => exact HC0.out); rintro e w' ⟨rfl, ⟨nd, rfl⟩⟩; refine ⟨_, rfl, ?_⟩))
          go_ret
          exact ⟨by first | rfl | (simp [errW_none, errW_some] <;> rfl) | (simp [*, errW_none, errW_some] <;> rfl), by repeat (first | (with_reducible first | exact HB.out | apply below_alloc | apply pw_below_drewN | apply below_drew1) | exact HB.out)⟩
      · rw [if_neg c11] at H
        have c11b0 : (t104 == 0) = false := beq_eq_false_iff_ne.mpr c11
        have c11b1 : (t104 != 0) = true := bne_iff_ne.mpr c11
        obtain rfl := Option.some.inj H
        go_enter Try.func10, Try.ntmps10
        go_wp2_with (first | ((with_reducible refine gate_callee (f := 13) rfl ?_); refine goesL_ (some 11) rfl rfl Try.func13 (by kernel_rfl) rfl #[.slice A0 l0.length c0] rfl (by (try simp only [List.map_toArray, List.map_cons, List.map_nil]); first | done | rfl | (simp only [List.length_drop, List.length_take]; rfl)) ?_; (with_reducible refine (drawloomlaw07_wide.calls k _ _ l0 false _ ?side1 ?side2 A2.out).mono ?_); (case side1 => repeat (first | exact HR0.out | (with_reducible refine Kd.C_alloc ?_ _) | (with_reducible refine Kd.C_drewN ?_ _) | (with_reducible refine Kd.C_drew ?_))); (case side2 => exact HC0.out); rintro e w' ⟨rfl, ⟨nd, rfl⟩⟩; refine ⟨_, rfl, ?_⟩) | ((with_reducible refine gate_callee (f := 38) rfl ?_); refine goesL_ (some 15) rfl rfl Try.func38 (by kernel_rfl) rfl #[.slice A0 l0.length c0] rfl (by (try simp only [List.map_toArray, List.map_cons, List.map_nil]); first | done | rfl | (simp only [List.length_drop, List.length_take]; rfl)) ?_; (with_reducible refine (graph_Reachable.calls k _ _ l0 t103 t104 _ ?side1 ?side2 A6.out).mono ?_); (case side1 => repeat (first | exact HR0.out | (with_reducible refine Kd.C_alloc ?_ _) | (with_reducible refine Kd.C_drewN ?_ _) | (with_reducible refine Kd.C_drew ?_))); (case side2 => exact HC0.out); rintro e w70 ⟨v105, rfl, ho0, hb⟩; refine ⟨_, rfl, ?_⟩; have n0_ := Aside0.mk (Kd.R_lower ho0 (below_size (by repeat (first | (with_reducible first | exact HB.out | apply below_alloc | apply pw_below_drewN | apply below_drew1) | exact HB.out)))); have n1_ := Aside0.mk (below_step (by repeat (first | (with_reducible first | exact HB.out | apply below_alloc | apply pw_below_drewN | apply below_drew1) | exact HB.out)) hb); clear HB; have HO106 := n0_; have HB := n1_; clear n0_ n1_; (try clear hb); (try clear hb2); (try clear hk); (try clear hi); (try clear ho0)) | ((with_reducible refine gate_callee (f := 39) rfl ?_); refine goesL_ (some 20) rfl rfl Try.func39 (by kernel_rfl) rfl #[.slice A0 l0.length c0] rfl (by (try simp only [List.map_toArray, List.map_cons, List.map_nil]); first | done | rfl | (simp only [List.length_drop, List.length_take]; rfl)) ?_; (with_reducible refine (graph_Ends.calls k _ _ l0 t107 t108 _ ?side1 ?side2 A7.out).mono ?_); (case side1 => repeat (first | exact (Kd.C_below HR0.out HB.out) | (with_reducible refine Kd.C_alloc ?_ _) | (with_reducible refine Kd.C_drewN ?_ _) | (with_reducible refine Kd.C_drew ?_))); (case side2 => exact HC0.out); rintro e w71 ⟨v109, rfl, ho0, hb⟩; refine ⟨_, rfl, ?_⟩; have n0_ := Aside0.mk (Kd.R_elder' (by (with_reducible repeat (first | apply Kd.R_alloc | apply Kd.R_drewN | apply Kd.R_drew)); exact HO106.out) (Kd.R_base ho0) hb); have n1_ := Aside0.mk (Kd.R_lower (Kd.R_new' ho0 (Kd.R_lt (by (with_reducible repeat (first | apply Kd.R_alloc | apply Kd.R_drewN | apply Kd.R_drew)); exact HO106.out))) (below_size (by repeat (first | (with_reducible first | exact HB.out | apply below_alloc | apply pw_below_drewN | apply below_drew1) | exact HB.out)))); have n2_ := Aside0.mk (below_step (by repeat (first | (with_reducible first | exact HB.out | apply below_alloc | apply pw_below_drewN | apply below_drew1) | exact HB.out)) hb); clear HO106; clear HB; have HO106 := n0_; have HO110 := n1_; have HB := n2_; clear n0_ n1_ n2_; (try clear hb); (try clear hb2); (try clear hk); (try clear hi); (try clear ho0)) | ((with_reducible refine gate_callee (f := 40) rfl ?_); refine goesL_ (some 25) rfl rfl Try.func40 (by kernel_rfl) rfl #[.slice A0 l0.length c0] rfl (by (try simp only [List.map_toArray, List.map_cons, List.map_nil]); first | done | rfl | (simp only [List.length_drop, List.length_take]; rfl)) ?_; (with_reducible refine (graph_Order.calls k _ _ l0 t111 t112 _ ?side1 ?side2 A8.out).mono ?_); (case side1 => repeat (first | exact (Kd.C_below HR0.out HB.out) | (with_reducible refine Kd.C_alloc ?_ _) | (with_reducible refine Kd.C_drewN ?_ _) | (with_reducible refine Kd.C_drew ?_))); (case side2 => exact HC0.out); rintro e w72 ⟨v113, rfl, ho0, hb⟩; refine ⟨_, rfl, ?_⟩; have n0_ := Aside0.mk (Kd.R_below (by (with_reducible repeat (first | apply Kd.R_alloc | apply Kd.R_drewN | apply Kd.R_drew)); exact HO106.out) hb); have n1_ := Aside0.mk (Kd.R_below (by (with_reducible repeat (first | apply Kd.R_alloc | apply Kd.R_drewN | apply Kd.R_drew)); exact HO110.out) hb); have n2_ := Aside0.mk (Kd.R_lower ho0 (below_size (by repeat (first | (with_reducible first | exact HB.out | apply below_alloc | apply pw_below_drewN | apply below_drew1) | exact HB.out)))); have n3_ := Aside0.mk (below_step (by repeat (first | (with_reducible first | exact HB.out | apply below_alloc | apply pw_below_drewN | apply below_drew1) | exact HB.out)) hb); clear HO106; clear HO110; clear HB; have HO106 := n0_; have HO110 := n1_; have HO114 := n2_; have HB := n3_; clear n0_ n1_ n2_ n3_; (try clear hb); (try clear hb2); (try clear hk); (try clear hi); (try clear ho0)) | ((with_reducible refine gate_callee (f := 18) rfl ?_); refine goesL_ (some 29) rfl rfl Try.func18 (by kernel_rfl) rfl #[.slice A0 l0.length c0] rfl (by (try simp only [List.map_toArray, List.map_cons, List.map_nil]); first | done | rfl | (simp only [List.length_drop, List.length_take]; rfl)) ?_; (with_reducible refine (drawloomlaw07_code.calls k _ _ l0 t115 _ ?side1 ?side2 A9.out).mono ?_); (case side1 => repeat (first | exact (Kd.C_below HR0.out HB.out) | (with_reducible refine Kd.C_alloc ?_ _) | (with_reducible refine Kd.C_drewN ?_ _) | (with_reducible refine Kd.C_drew ?_))); (case side2 => exact HC0.out); rintro e w' ⟨rfl, ⟨nd, rfl⟩⟩; refine ⟨_, rfl, ?_⟩))
        go_ret
        exact ⟨by first | rfl | (simp [errW_none, errW_some] <;> rfl) | (simp [*, errW_none, errW_some] <;> rfl), by repeat (first | (with_reducible first | exact HB.out | apply below_alloc | apply pw_below_drewN | apply below_drew1) | exact HB.out)⟩
    · rw [if_neg c10] at H
      have c10b0 : (t115 == 0) = false := beq_eq_false_iff_ne.mpr c10
      have c10b1 : (t115 != 0) = true := bne_iff_ne.mpr c10
      by_cases c73 : t104 = t115
      · rw [if_pos c73] at H
        have c73b0 : (t104 == t115) = true := beq_iff_eq.mpr c73
        have c73b1 : (t104 != t115) = false := bne_eq_false_iff_eq.mpr c73
        clear c73
        by_cases c74 : t108 = t115
        · rw [if_pos c74] at H
          have c74b0 : (t108 == t115) = true := beq_iff_eq.mpr c74
          have c74b1 : (t108 != t115) = false := bne_eq_false_iff_eq.mpr c74
          clear c74
          by_cases c75 : t112 = t115
          · rw [if_pos c75] at H
            have c75b0 : (t112 == t115) = true := beq_iff_eq.mpr c75
            have c75b1 : (t112 != t115) = false := bne_eq_false_iff_eq.mpr c75
            clear c75
            by_cases c76 : (wrap64 ((wrap64 ((t103.length : Int) + (t107.length : Int))) + (t111.length : Int))) = 0
            · rw [if_pos c76] at H
              have c76b0 : ((wrap64 ((wrap64 ((t103.length : Int) + (t107.length : Int))) + (t111.length : Int))) == 0) = true := beq_iff_eq.mpr c76
              have c76b1 : ((wrap64 ((wrap64 ((t103.length : Int) + (t107.length : Int))) + (t111.length : Int))) != 0) = false := bne_eq_false_iff_eq.mpr c76
              clear c76
              replace H := Option.bind_eq_some_iff.mp H
              obtain ⟨t116, A770, H⟩ := H
              replace H : (some t116) = some r := H
              have A77 := Aside0.mk A770
              clear A770
              obtain rfl := Option.some.inj H
              go_enter Try.func10, Try.ntmps10
              go_wp2_with (first | ((with_reducible refine gate_callee (f := 13) rfl ?_); refine goesL_ (some 11) rfl rfl Try.func13 (by kernel_rfl) rfl #[.slice A0 l0.length c0] rfl (by (try simp only [List.map_toArray, List.map_cons, List.map_nil]); first | done | rfl | (simp only [List.length_drop, List.length_take]; rfl)) ?_; (with_reducible refine (drawloomlaw07_wide.calls k _ _ l0 false _ ?side1 ?side2 A2.out).mono ?_); (case side1 => repeat (first | exact HR0.out | (with_reducible refine Kd.C_alloc ?_ _) | (with_reducible refine Kd.C_drewN ?_ _) | (with_reducible refine Kd.C_drew ?_))); (case side2 => exact HC0.out); rintro e w' ⟨rfl, ⟨nd, rfl⟩⟩; refine ⟨_, rfl, ?_⟩) | ((with_reducible refine gate_callee (f := 38) rfl ?_); refine goesL_ (some 15) rfl rfl Try.func38 (by kernel_rfl) rfl #[.slice A0 l0.length c0] rfl (by (try simp only [List.map_toArray, List.map_cons, List.map_nil]); first | done | rfl | (simp only [List.length_drop, List.length_take]; rfl)) ?_; (with_reducible refine (graph_Reachable.calls k _ _ l0 t103 t104 _ ?side1 ?side2 A6.out).mono ?_); (case side1 => repeat (first | exact HR0.out | (with_reducible refine Kd.C_alloc ?_ _) | (with_reducible refine Kd.C_drewN ?_ _) | (with_reducible refine Kd.C_drew ?_))); (case side2 => exact HC0.out); rintro e w78 ⟨v105, rfl, ho0, hb⟩; refine ⟨_, rfl, ?_⟩; have n0_ := Aside0.mk (Kd.R_lower ho0 (below_size (by repeat (first | (with_reducible first | exact HB.out | apply below_alloc | apply pw_below_drewN | apply below_drew1) | exact HB.out)))); have n1_ := Aside0.mk (below_step (by repeat (first | (with_reducible first | exact HB.out | apply below_alloc | apply pw_below_drewN | apply below_drew1) | exact HB.out)) hb); clear HB; have HO106 := n0_; have HB := n1_; clear n0_ n1_; (try clear hb); (try clear hb2); (try clear hk); (try clear hi); (try clear ho0)) | ((with_reducible refine gate_callee (f := 39) rfl ?_); refine goesL_ (some 20) rfl rfl Try.func39 (by kernel_rfl) rfl #[.slice A0 l0.length c0] rfl (by (try simp only [List.map_toArray, List.map_cons, List.map_nil]); first | done | rfl | (simp only [List.length_drop, List.length_take]; rfl)) ?_; (with_reducible refine (graph_Ends.calls k _ _ l0 t107 t108 _ ?side1 ?side2 A7.out).mono ?_); (case side1 => repeat (first | exact (Kd.C_below HR0.out HB.out) | (with_reducible refine Kd.C_alloc ?_ _) | (with_reducible refine Kd.C_drewN ?_ _) | (with_reducible refine Kd.C_drew ?_))); (case side2 => exact HC0.out); rintro e w79 ⟨v109, rfl, ho0, hb⟩; refine ⟨_, rfl, ?_⟩; have n0_ := Aside0.mk (Kd.R_elder' (by (with_reducible repeat (first | apply Kd.R_alloc | apply Kd.R_drewN | apply Kd.R_drew)); exact HO106.out) (Kd.R_base ho0) hb); have n1_ := Aside0.mk (Kd.R_lower (Kd.R_new' ho0 (Kd.R_lt (by (with_reducible repeat (first | apply Kd.R_alloc | apply Kd.R_drewN | apply Kd.R_drew)); exact HO106.out))) (below_size (by repeat (first | (with_reducible first | exact HB.out | apply below_alloc | apply pw_below_drewN | apply below_drew1) | exact HB.out)))); have n2_ := Aside0.mk (below_step (by repeat (first | (with_reducible first | exact HB.out | apply below_alloc | apply pw_below_drewN | apply below_drew1) | exact HB.out)) hb); clear HO106; clear HB; have HO106 := n0_; have HO110 := n1_; have HB := n2_; clear n0_ n1_ n2_; (try clear hb); (try clear hb2); (try clear hk); (try clear hi); (try clear ho0)) | ((with_reducible refine gate_callee (f := 40) rfl ?_); refine goesL_ (some 25) rfl rfl Try.func40 (by kernel_rfl) rfl #[.slice A0 l0.length c0] rfl (by (try simp only [List.map_toArray, List.map_cons, List.map_nil]); first | done | rfl | (simp only [List.length_drop, List.length_take]; rfl)) ?_; (with_reducible refine (graph_Order.calls k _ _ l0 t111 t112 _ ?side1 ?side2 A8.out).mono ?_); (case side1 => repeat (first | exact (Kd.C_below HR0.out HB.out) | (with_reducible refine Kd.C_alloc ?_ _) | (with_reducible refine Kd.C_drewN ?_ _) | (with_reducible refine Kd.C_drew ?_))); (case side2 => exact HC0.out); rintro e w80 ⟨v113, rfl, ho0, hb⟩; refine ⟨_, rfl, ?_⟩; have n0_ := Aside0.mk (Kd.R_below (by (with_reducible repeat (first | apply Kd.R_alloc | apply Kd.R_drewN | apply Kd.R_drew)); exact HO106.out) hb); have n1_ := Aside0.mk (Kd.R_below (by (with_reducible repeat (first | apply Kd.R_alloc | apply Kd.R_drewN | apply Kd.R_drew)); exact HO110.out) hb); have n2_ := Aside0.mk (Kd.R_lower ho0 (below_size (by repeat (first | (with_reducible first | exact HB.out | apply below_alloc | apply pw_below_drewN | apply below_drew1) | exact HB.out)))); have n3_ := Aside0.mk (below_step (by repeat (first | (with_reducible first | exact HB.out | apply below_alloc | apply pw_below_drewN | apply below_drew1) | exact HB.out)) hb); clear HO106; clear HO110; clear HB; have HO106 := n0_; have HO110 := n1_; have HO114 := n2_; have HB := n3_; clear n0_ n1_ n2_ n3_; (try clear hb); (try clear hb2); (try clear hk); (try clear hi); (try clear ho0)) | ((with_reducible refine gate_callee (f := 18) rfl ?_); refine goesL_ (some 29) rfl rfl Try.func18 (by kernel_rfl) rfl #[.slice A0 l0.length c0] rfl (by (try simp only [List.map_toArray, List.map_cons, List.map_nil]); first | done | rfl | (simp only [List.length_drop, List.length_take]; rfl)) ?_; (with_reducible refine (drawloomlaw07_code.calls k _ _ l0 t115 _ ?side1 ?side2 A9.out).mono ?_); (case side1 => repeat (first | exact (Kd.C_below HR0.out HB.out) | (with_reducible refine Kd.C_alloc ?_ _) | (with_reducible refine Kd.C_drewN ?_ _) | (with_reducible refine Kd.C_drew ?_))); (case side2 => exact HC0.out); rintro e w' ⟨rfl, ⟨nd, rfl⟩⟩; refine ⟨_, rfl, ?_⟩; obtain ⟨Ao81, co81, eo81⟩ := Kd.R_slice HO106.out; subst eo81; obtain ⟨Ao82, co82, eo82⟩ := Kd.R_slice HO110.out; subst eo82; obtain ⟨Ao83, co83, eo83⟩ := Kd.R_slice HO114.out; subst eo83) | (go_at_call 14; (with_reducible refine (drawloomlaw07_awake.calls k  t116 _ A77.out).mono ?_); rintro e w84 ⟨rfl, hb⟩; have n0_ := Aside0.mk (Kd.R_below (by (with_reducible repeat (first | apply Kd.R_alloc | apply Kd.R_drewN | apply Kd.R_drew)); exact HO106.out) hb); have n1_ := Aside0.mk (Kd.R_below (by (with_reducible repeat (first | apply Kd.R_alloc | apply Kd.R_drewN | apply Kd.R_drew)); exact HO110.out) hb); have n2_ := Aside0.mk (Kd.R_below (by (with_reducible repeat (first | apply Kd.R_alloc | apply Kd.R_drewN | apply Kd.R_drew)); exact HO114.out) hb); have n3_ := Aside0.mk (below_step (by repeat (first | (with_reducible first | exact HB.out | apply below_alloc | apply pw_below_drewN | apply below_drew1) | exact HB.out)) hb); clear HO106; clear HO110; clear HO114; clear HB; have HO106 := n0_; have HO110 := n1_; have HO114 := n2_; have HB := n3_; clear n0_ n1_ n2_ n3_; (try clear hb); (try clear hb2); (try clear hk); (try clear hi)))
              go_ret
              exact ⟨by first | rfl | (simp [errW_none, errW_some] <;> rfl) | (simp [*, errW_none, errW_some] <;> rfl), by repeat (first | (with_reducible first | exact HB.out | apply below_alloc | apply pw_below_drewN | apply below_drew1) | exact HB.out)⟩
            · rw [if_neg c76] at H
              have c76b0 : ((wrap64 ((wrap64 ((t103.length : Int) + (t107.length : Int))) + (t111.length : Int))) == 0) = false := beq_eq_false_iff_ne.mpr c76
              have c76b1 : ((wrap64 ((wrap64 ((t103.length : Int) + (t107.length : Int))) + (t111.length : Int))) != 0) = true := bne_iff_ne.mpr c76
              obtain rfl := Option.some.inj H
              go_enter Try.func10, Try.ntmps10
              go_wp2_with (first | ((with_reducible refine gate_callee (f := 13) rfl ?_); refine goesL_ (some 11) rfl rfl Try.func13 (by kernel_rfl) rfl #[.slice A0 l0.length c0] rfl (by (try simp only [List.map_toArray, List.map_cons, List.map_nil]); first | done | rfl | (simp only [List.length_drop, List.length_take]; rfl)) ?_; (with_reducible refine (drawloomlaw07_wide.calls k _ _ l0 false _ ?side1 ?side2 A2.out).mono ?_); (case side1 => repeat (first | exact HR0.out | (with_reducible refine Kd.C_alloc ?_ _) | (with_reducible refine Kd.C_drewN ?_ _) | (with_reducible refine Kd.C_drew ?_))); (case side2 => exact HC0.out); rintro e w' ⟨rfl, ⟨nd, rfl⟩⟩; refine ⟨_, rfl, ?_⟩) | ((with_reducible refine gate_callee (f := 38) rfl ?_); refine goesL_ (some 15) rfl rfl Try.func38 (by kernel_rfl) rfl #[.slice A0 l0.length c0] rfl (by (try simp only [List.map_toArray, List.map_cons, List.map_nil]); first | done | rfl | (simp only [List.length_drop, List.length_take]; rfl)) ?_; (with_reducible refine (graph_Reachable.calls k _ _ l0 t103 t104 _ ?side1 ?side2 A6.out).mono ?_); (case side1 => repeat (first | exact HR0.out | (with_reducible refine Kd.C_alloc ?_ _) | (with_reducible refine Kd.C_drewN ?_ _) | (with_reducible refine Kd.C_drew ?_))); (case side2 => exact HC0.out); rintro e w85 ⟨v105, rfl, ho0, hb⟩; refine ⟨_, rfl, ?_⟩; have n0_ := Aside0.mk (Kd.R_lower ho0 (below_size (by repeat (first | (with_reducible first | exact HB.out | apply below_alloc | apply pw_below_drewN | apply below_drew1) | exact HB.out)))); have n1_ := Aside0.mk (below_step (by repeat (first | (with_reducible first | exact HB.out | apply below_alloc | apply pw_below_drewN | apply below_drew1) | exact HB.out)) hb); clear HB; have HO106 := n0_; have HB := n1_; clear n0_ n1_; (try clear hb); (try clear hb2); (try clear hk); (try clear hi); (try clear ho0)) | ((with_reducible refine gate_callee (f := 39) rfl ?_); refine goesL_ (some 20) rfl rfl Try.func39 (by kernel_rfl) rfl #[.slice A0 l0.length c0] rfl (by (try simp only [List.map_toArray, List.map_cons, List.map_nil]); first | done | rfl | (simp only [List.length_drop, List.length_take]; rfl)) ?_; (with_reducible refine (graph_Ends.calls k _ _ l0 t107 t108 _ ?side1 ?side2 A7.out).mono ?_); (case side1 => repeat (first | exact (Kd.C_below HR0.out HB.out) | (with_reducible refine Kd.C_alloc ?_ _) | (with_reducible refine Kd.C_drewN ?_ _) | (with_reducible refine Kd.C_drew ?_))); (case side2 => exact HC0.out); rintro e w86 ⟨v109, rfl, ho0, hb⟩; refine ⟨_, rfl, ?_⟩; have n0_ := Aside0.mk (Kd.R_elder' (by (with_reducible repeat (first | apply Kd.R_alloc | apply Kd.R_drewN | apply Kd.R_drew)); exact HO106.out) (Kd.R_base ho0) hb); have n1_ := Aside0.mk (Kd.R_lower (Kd.R_new' ho0 (Kd.R_lt (by (with_reducible repeat (first | apply Kd.R_alloc | apply Kd.R_drewN | apply Kd.R_drew)); exact HO106.out))) (below_size (by repeat (first | (with_reducible first | exact HB.out | apply below_alloc | apply pw_below_drewN | apply below_drew1) | exact HB.out)))); have n2_ := Aside0.mk (below_step (by repeat (first | (with_reducible first | exact HB.out | apply below_alloc | apply pw_below_drewN | apply below_drew1) | exact HB.out)) hb); clear HO106; clear HB; have HO106 := n0_; have HO110 := n1_; have HB := n2_; clear n0_ n1_ n2_; (try clear hb); (try clear hb2); (try clear hk); (try clear hi); (try clear ho0)) | ((with_reducible refine gate_callee (f := 40) rfl ?_); refine goesL_ (some 25) rfl rfl Try.func40 (by kernel_rfl) rfl #[.slice A0 l0.length c0] rfl (by (try simp only [List.map_toArray, List.map_cons, List.map_nil]); first | done | rfl | (simp only [List.length_drop, List.length_take]; rfl)) ?_; (with_reducible refine (graph_Order.calls k _ _ l0 t111 t112 _ ?side1 ?side2 A8.out).mono ?_); (case side1 => repeat (first | exact (Kd.C_below HR0.out HB.out) | (with_reducible refine Kd.C_alloc ?_ _) | (with_reducible refine Kd.C_drewN ?_ _) | (with_reducible refine Kd.C_drew ?_))); (case side2 => exact HC0.out); rintro e w87 ⟨v113, rfl, ho0, hb⟩; refine ⟨_, rfl, ?_⟩; have n0_ := Aside0.mk (Kd.R_below (by (with_reducible repeat (first | apply Kd.R_alloc | apply Kd.R_drewN | apply Kd.R_drew)); exact HO106.out) hb); have n1_ := Aside0.mk (Kd.R_below (by (with_reducible repeat (first | apply Kd.R_alloc | apply Kd.R_drewN | apply Kd.R_drew)); exact HO110.out) hb); have n2_ := Aside0.mk (Kd.R_lower ho0 (below_size (by repeat (first | (with_reducible first | exact HB.out | apply below_alloc | apply pw_below_drewN | apply below_drew1) | exact HB.out)))); have n3_ := Aside0.mk (below_step (by repeat (first | (with_reducible first | exact HB.out | apply below_alloc | apply pw_below_drewN | apply below_drew1) | exact HB.out)) hb); clear HO106; clear HO110; clear HB; have HO106 := n0_; have HO110 := n1_; have HO114 := n2_; have HB := n3_; clear n0_ n1_ n2_ n3_; (try clear hb); (try clear hb2); (try clear hk); (try clear hi); (try clear ho0)) | ((with_reducible refine gate_callee (f := 18) rfl ?_); refine goesL_ (some 29) rfl rfl Try.func18 (by kernel_rfl) rfl #[.slice A0 l0.length c0] rfl (by (try simp only [List.map_toArray, List.map_cons, List.map_nil]); first | done | rfl | (simp only [List.length_drop, List.length_take]; rfl)) ?_; (with_reducible refine (drawloomlaw07_code.calls k _ _ l0 t115 _ ?side1 ?side2 A9.out).mono ?_); (case side1 => repeat (first | exact (Kd.C_below HR0.out HB.out) | (with_reducible refine Kd.C_alloc ?_ _) | (with_reducible refine Kd.C_drewN ?_ _) | (with_reducible refine Kd.C_drew ?_))); (case side2 => exact HC0.out); rintro e w' ⟨rfl, ⟨nd, rfl⟩⟩; refine ⟨_, rfl, ?_⟩; obtain ⟨Ao88, co88, eo88⟩ := Kd.R_slice HO106.out; subst eo88; obtain ⟨Ao89, co89, eo89⟩ := Kd.R_slice HO110.out; subst eo89; obtain ⟨Ao90, co90, eo90⟩ := Kd.R_slice HO114.out; subst eo90))
              go_ret
              exact ⟨by first | rfl | (simp [errW_none, errW_some] <;> rfl) | (simp [*, errW_none, errW_some] <;> rfl), by repeat (first | (with_reducible first | exact HB.out | apply below_alloc | apply pw_below_drewN | apply below_drew1) | exact HB.out)⟩
          · rw [if_neg c75] at H
            have c75b0 : (t112 == t115) = false := beq_eq_false_iff_ne.mpr c75
            have c75b1 : (t112 != t115) = true := bne_iff_ne.mpr c75
            obtain rfl := Option.some.inj H
            go_enter Try.func10, Try.ntmps10
            go_wp2_with (first | ((with_reducible refine gate_callee (f := 13) rfl ?_); refine goesL_ (some 11) rfl rfl Try.func13 (by kernel_rfl) rfl #[.slice A0 l0.length c0] rfl (by (try simp only [List.map_toArray, List.map_cons, List.map_nil]); first | done | rfl | (simp only [List.length_drop, List.length_take]; rfl)) ?_; (with_reducible refine (drawloomlaw07_wide.calls k _ _ l0 false _ ?side1 ?side2 A2.out).mono ?_); (case side1 => repeat (first | exact HR0.out | (with_reducible refine Kd.C_alloc ?_ _) | (with_reducible refine Kd.C_drewN ?_ _) | (with_reducible refine Kd.C_drew ?_))); (case side2 => exact HC0.out); rintro e w' ⟨rfl, ⟨nd, rfl⟩⟩; refine ⟨_, rfl, ?_⟩) | ((with_reducible refine gate_callee (f := 38) rfl ?_); refine goesL_ (some 15) rfl rfl Try.func38 (by kernel_rfl) rfl #[.slice A0 l0.length c0] rfl (by (try simp only [List.map_toArray, List.map_cons, List.map_nil]); first | done | rfl | (simp only [List.length_drop, List.length_take]; rfl)) ?_; (with_reducible refine (graph_Reachable.calls k _ _ l0 t103 t104 _ ?side1 ?side2 A6.out).mono ?_); (case side1 => repeat (first | exact HR0.out | (with_reducible refine Kd.C_alloc ?_ _) | (with_reducible refine Kd.C_drewN ?_ _) | (with_reducible refine Kd.C_drew ?_))); (case side2 => exact HC0.out); rintro e w91 ⟨v105, rfl, ho0, hb⟩; refine ⟨_, rfl, ?_⟩; have n0_ := Aside0.mk (Kd.R_lower ho0 (below_size (by repeat (first | (with_reducible first | exact HB.out | apply below_alloc | apply pw_below_drewN | apply below_drew1) | exact HB.out)))); have n1_ := Aside0.mk (below_step (by repeat (first | (with_reducible first | exact HB.out | apply below_alloc | apply pw_below_drewN | apply below_drew1) | exact HB.out)) hb); clear HB; have HO106 := n0_; have HB := n1_; clear n0_ n1_; (try clear hb); (try clear hb2); (try clear hk); (try clear hi); (try clear ho0)) | ((with_reducible refine gate_callee (f := 39) rfl ?_); refine goesL_ (some 20) rfl rfl Try.func39 (by kernel_rfl) rfl #[.slice A0 l0.length c0] rfl (by (try simp only [List.map_toArray, List.map_cons, List.map_nil]); first | done | rfl | (simp only [List.length_drop, List.length_take]; rfl)) ?_; (with_reducible refine (graph_Ends.calls k _ _ l0 t107 t108 _ ?side1 ?side2 A7.out).mono ?_); (case side1 => repeat (first | exact (Kd.C_below HR0.out HB.out) | (with_reducible refine Kd.C_alloc ?_ _) | (with_reducible refine Kd.C_drewN ?_ _) | (with_reducible refine Kd.C_drew ?_))); (case side2 => exact HC0.out); rintro e w92 ⟨v109, rfl, ho0, hb⟩; refine ⟨_, rfl, ?_⟩; have n0_ := Aside0.mk (Kd.R_elder' (by (with_reducible repeat (first | apply Kd.R_alloc | apply Kd.R_drewN | apply Kd.R_drew)); exact HO106.out) (Kd.R_base ho0) hb); have n1_ := Aside0.mk (Kd.R_lower (Kd.R_new' ho0 (Kd.R_lt (by (with_reducible repeat (first | apply Kd.R_alloc | apply Kd.R_drewN | apply Kd.R_drew)); exact HO106.out))) (below_size (by repeat (first | (with_reducible first | exact HB.out | apply below_alloc | apply pw_below_drewN | apply below_drew1) | exact HB.out)))); have n2_ := Aside0.mk (below_step (by repeat (first | (with_reducible first | exact HB.out | apply below_alloc | apply pw_below_drewN | apply below_drew1) | exact HB.out)) hb); clear HO106; clear HB; have HO106 := n0_; have HO110 := n1_; have HB := n2_; clear n0_ n1_ n2_; (try clear hb); (try clear hb2); (try clear hk); (try clear hi); (try clear ho0)) | ((with_reducible refine gate_callee (f := 40) rfl ?_); refine goesL_ (some 25) rfl rfl Try.func40 (by kernel_rfl) rfl #[.slice A0 l0.length c0] rfl (by (try simp only [List.map_toArray, List.map_cons, List.map_nil]); first | done | rfl | (simp only [List.length_drop, List.length_take]; rfl)) ?_; (with_reducible refine (graph_Order.calls k _ _ l0 t111 t112 _ ?side1 ?side2 A8.out).mono ?_); (case side1 => repeat (first | exact (Kd.C_below HR0.out HB.out) | (with_reducible refine Kd.C_alloc ?_ _) | (with_reducible refine Kd.C_drewN ?_ _) | (with_reducible refine Kd.C_drew ?_))); (case side2 => exact HC0.out); rintro e w93 ⟨v113, rfl, ho0, hb⟩; refine ⟨_, rfl, ?_⟩; have n0_ := Aside0.mk (Kd.R_below (by (with_reducible repeat (first | apply Kd.R_alloc | apply Kd.R_drewN | apply Kd.R_drew)); exact HO106.out) hb); have n1_ := Aside0.mk (Kd.R_below (by (with_reducible repeat (first | apply Kd.R_alloc | apply Kd.R_drewN | apply Kd.R_drew)); exact HO110.out) hb); have n2_ := Aside0.mk (Kd.R_lower ho0 (below_size (by repeat (first | (with_reducible first | exact HB.out | apply below_alloc | apply pw_below_drewN | apply below_drew1) | exact HB.out)))); have n3_ := Aside0.mk (below_step (by repeat (first | (with_reducible first | exact HB.out | apply below_alloc | apply pw_below_drewN | apply below_drew1) | exact HB.out)) hb); clear HO106; clear HO110; clear HB; have HO106 := n0_; have HO110 := n1_; have HO114 := n2_; have HB := n3_; clear n0_ n1_ n2_ n3_; (try clear hb); (try clear hb2); (try clear hk); (try clear hi); (try clear ho0)) | ((with_reducible refine gate_callee (f := 18) rfl ?_); refine goesL_ (some 29) rfl rfl Try.func18 (by kernel_rfl) rfl #[.slice A0 l0.length c0] rfl (by (try simp only [List.map_toArray, List.map_cons, List.map_nil]); first | done | rfl | (simp only [List.length_drop, List.length_take]; rfl)) ?_; (with_reducible refine (drawloomlaw07_code.calls k _ _ l0 t115 _ ?side1 ?side2 A9.out).mono ?_); (case side1 => repeat (first | exact (Kd.C_below HR0.out HB.out) | (with_reducible refine Kd.C_alloc ?_ _) | (with_reducible refine Kd.C_drewN ?_ _) | (with_reducible refine Kd.C_drew ?_))); (case side2 => exact HC0.out); rintro e w' ⟨rfl, ⟨nd, rfl⟩⟩; refine ⟨_, rfl, ?_⟩))
            go_ret
            exact ⟨by first | rfl | (simp [errW_none, errW_some] <;> rfl) | (simp [*, errW_none, errW_some] <;> rfl), by repeat (first | (with_reducible first | exact HB.out | apply below_alloc | apply pw_below_drewN | apply below_drew1) | exact HB.out)⟩
        · rw [if_neg c74] at H
          have c74b0 : (t108 == t115) = false := beq_eq_false_iff_ne.mpr c74
          have c74b1 : (t108 != t115) = true := bne_iff_ne.mpr c74
          obtain rfl := Option.some.inj H
          go_enter Try.func10, Try.ntmps10
          go_wp2_with (first | ((with_reducible refine gate_callee (f := 13) rfl ?_); refine goesL_ (some 11) rfl rfl Try.func13 (by kernel_rfl) rfl #[.slice A0 l0.length c0] rfl (by (try simp only [List.map_toArray, List.map_cons, List.map_nil]); first | done | rfl | (simp only [List.length_drop, List.length_take]; rfl)) ?_; (with_reducible refine (drawloomlaw07_wide.calls k _ _ l0 false _ ?side1 ?side2 A2.out).mono ?_); (case side1 => repeat (first | exact HR0.out | (with_reducible refine Kd.C_alloc ?_ _) | (with_reducible refine Kd.C_drewN ?_ _) | (with_reducible refine Kd.C_drew ?_))); (case side2 => exact HC0.out); rintro e w' ⟨rfl, ⟨nd, rfl⟩⟩; refine ⟨_, rfl, ?_⟩) | ((with_reducible refine gate_callee (f := 38) rfl ?_); refine goesL_ (some 15) rfl rfl Try.func38 (by kernel_rfl) rfl #[.slice A0 l0.length c0] rfl (by (try simp only [List.map_toArray, List.map_cons, List.map_nil]); first | done | rfl | (simp only [List.length_drop, List.length_take]; rfl)) ?_; (with_reducible refine (graph_Reachable.calls k _ _ l0 t103 t104 _ ?side1 ?side2 A6.out).mono ?_); (case side1 => repeat (first | exact HR0.out | (with_reducible refine Kd.C_alloc ?_ _) | (with_reducible refine Kd.C_drewN ?_ _) | (with_reducible refine Kd.C_drew ?_))); (case side2 => exact HC0.out); rintro e w94 ⟨v105, rfl, ho0, hb⟩; refine ⟨_, rfl, ?_⟩; have n0_ := Aside0.mk (Kd.R_lower ho0 (below_size (by repeat (first | (with_reducible first | exact HB.out | apply below_alloc | apply pw_below_drewN | apply below_drew1) | exact HB.out)))); have n1_ := Aside0.mk (below_step (by repeat (first | (with_reducible first | exact HB.out | apply below_alloc | apply pw_below_drewN | apply below_drew1) | exact HB.out)) hb); clear HB; have HO106 := n0_; have HB := n1_; clear n0_ n1_; (try clear hb); (try clear hb2); (try clear hk); (try clear hi); (try clear ho0)) | ((with_reducible refine gate_callee (f := 39) rfl ?_); refine goesL_ (some 20) rfl rfl Try.func39 (by kernel_rfl) rfl #[.slice A0 l0.length c0] rfl (by (try simp only [List.map_toArray, List.map_cons, List.map_nil]); first | done | rfl | (simp only [List.length_drop, List.length_take]; rfl)) ?_; (with_reducible refine (graph_Ends.calls k _ _ l0 t107 t108 _ ?side1 ?side2 A7.out).mono ?_); (case side1 => repeat (first | exact (Kd.C_below HR0.out HB.out) | (with_reducible refine Kd.C_alloc ?_ _) | (with_reducible refine Kd.C_drewN ?_ _) | (with_reducible refine Kd.C_drew ?_))); (case side2 => exact HC0.out); rintro e w95 ⟨v109, rfl, ho0, hb⟩; refine ⟨_, rfl, ?_⟩; have n0_ := Aside0.mk (Kd.R_elder' (by (with_reducible repeat (first | apply Kd.R_alloc | apply Kd.R_drewN | apply Kd.R_drew)); exact HO106.out) (Kd.R_base ho0) hb); have n1_ := Aside0.mk (Kd.R_lower (Kd.R_new' ho0 (Kd.R_lt (by (with_reducible repeat (first | apply Kd.R_alloc | apply Kd.R_drewN | apply Kd.R_drew)); exact HO106.out))) (below_size (by repeat (first | (with_reducible first | exact HB.out | apply below_alloc | apply pw_below_drewN | apply below_drew1) | exact HB.out)))); have n2_ := Aside0.mk (below_step (by repeat (first | (with_reducible first | exact HB.out | apply below_alloc | apply pw_below_drewN | apply below_drew1) | exact HB.out)) hb); clear HO106; clear HB; have HO106 := n0_; have HO110 := n1_; have HB := n2_; clear n0_ n1_ n2_; (try clear hb); (try clear hb2); (try clear hk); (try clear hi); (try clear ho0)) | ((with_reducible refine gate_callee (f := 40) rfl ?_); refine goesL_ (some 25) rfl rfl Try.func40 (by kernel_rfl) rfl #[.slice A0 l0.length c0] rfl (by (try simp only [List.map_toArray, List.map_cons, List.map_nil]); first | done | rfl | (simp only [List.length_drop, List.length_take]; rfl)) ?_; (with_reducible refine (graph_Order.calls k _ _ l0 t111 t112 _ ?side1 ?side2 A8.out).mono ?_); (case side1 => repeat (first | exact (Kd.C_below HR0.out HB.out) | (with_reducible refine Kd.C_alloc ?_ _) | (with_reducible refine Kd.C_drewN ?_ _) | (with_reducible refine Kd.C_drew ?_))); (case side2 => exact HC0.out); rintro e w96 ⟨v113, rfl, ho0, hb⟩; refine ⟨_, rfl, ?_⟩; have n0_ := Aside0.mk (Kd.R_below (by (with_reducible repeat (first | apply Kd.R_alloc | apply Kd.R_drewN | apply Kd.R_drew)); exact HO106.out) hb); have n1_ := Aside0.mk (Kd.R_below (by (with_reducible repeat (first | apply Kd.R_alloc | apply Kd.R_drewN | apply Kd.R_drew)); exact HO110.out) hb); have n2_ := Aside0.mk (Kd.R_lower ho0 (below_size (by repeat (first | (with_reducible first | exact HB.out | apply below_alloc | apply pw_below_drewN | apply below_drew1) | exact HB.out)))); have n3_ := Aside0.mk (below_step (by repeat (first | (with_reducible first | exact HB.out | apply below_alloc | apply pw_below_drewN | apply below_drew1) | exact HB.out)) hb); clear HO106; clear HO110; clear HB; have HO106 := n0_; have HO110 := n1_; have HO114 := n2_; have HB := n3_; clear n0_ n1_ n2_ n3_; (try clear hb); (try clear hb2); (try clear hk); (try clear hi); (try clear ho0)) | ((with_reducible refine gate_callee (f := 18) rfl ?_); refine goesL_ (some 29) rfl rfl Try.func18 (by kernel_rfl) rfl #[.slice A0 l0.length c0] rfl (by (try simp only [List.map_toArray, List.map_cons, List.map_nil]); first | done | rfl | (simp only [List.length_drop, List.length_take]; rfl)) ?_; (with_reducible refine (drawloomlaw07_code.calls k _ _ l0 t115 _ ?side1 ?side2 A9.out).mono ?_); (case side1 => repeat (first | exact (Kd.C_below HR0.out HB.out) | (with_reducible refine Kd.C_alloc ?_ _) | (with_reducible refine Kd.C_drewN ?_ _) | (with_reducible refine Kd.C_drew ?_))); (case side2 => exact HC0.out); rintro e w' ⟨rfl, ⟨nd, rfl⟩⟩; refine ⟨_, rfl, ?_⟩))
          go_ret
          exact ⟨by first | rfl | (simp [errW_none, errW_some] <;> rfl) | (simp [*, errW_none, errW_some] <;> rfl), by repeat (first | (with_reducible first | exact HB.out | apply below_alloc | apply pw_below_drewN | apply below_drew1) | exact HB.out)⟩
      · rw [if_neg c73] at H
        have c73b0 : (t104 == t115) = false := beq_eq_false_iff_ne.mpr c73
        have c73b1 : (t104 != t115) = true := bne_iff_ne.mpr c73
        obtain rfl := Option.some.inj H
        go_enter Try.func10, Try.ntmps10
        go_wp2_with (first | ((with_reducible refine gate_callee (f := 13) rfl ?_); refine goesL_ (some 11) rfl rfl Try.func13 (by kernel_rfl) rfl #[.slice A0 l0.length c0] rfl (by (try simp only [List.map_toArray, List.map_cons, List.map_nil]); first | done | rfl | (simp only [List.length_drop, List.length_take]; rfl)) ?_; (with_reducible refine (drawloomlaw07_wide.calls k _ _ l0 false _ ?side1 ?side2 A2.out).mono ?_); (case side1 => repeat (first | exact HR0.out | (with_reducible refine Kd.C_alloc ?_ _) | (with_reducible refine Kd.C_drewN ?_ _) | (with_reducible refine Kd.C_drew ?_))); (case side2 => exact HC0.out); rintro e w' ⟨rfl, ⟨nd, rfl⟩⟩; refine ⟨_, rfl, ?_⟩) | ((with_reducible refine gate_callee (f := 38) rfl ?_); refine goesL_ (some 15) rfl rfl Try.func38 (by kernel_rfl) rfl #[.slice A0 l0.length c0] rfl (by (try simp only [List.map_toArray, List.map_cons, List.map_nil]); first | done | rfl | (simp only [List.length_drop, List.length_take]; rfl)) ?_; (with_reducible refine (graph_Reachable.calls k _ _ l0 t103 t104 _ ?side1 ?side2 A6.out).mono ?_); (case side1 => repeat (first | exact HR0.out | (with_reducible refine Kd.C_alloc ?_ _) | (with_reducible refine Kd.C_drewN ?_ _) | (with_reducible refine Kd.C_drew ?_))); (case side2 => exact HC0.out); rintro e w97 ⟨v105, rfl, ho0, hb⟩; refine ⟨_, rfl, ?_⟩; have n0_ := Aside0.mk (Kd.R_lower ho0 (below_size (by repeat (first | (with_reducible first | exact HB.out | apply below_alloc | apply pw_below_drewN | apply below_drew1) | exact HB.out)))); have n1_ := Aside0.mk (below_step (by repeat (first | (with_reducible first | exact HB.out | apply below_alloc | apply pw_below_drewN | apply below_drew1) | exact HB.out)) hb); clear HB; have HO106 := n0_; have HB := n1_; clear n0_ n1_; (try clear hb); (try clear hb2); (try clear hk); (try clear hi); (try clear ho0)) | ((with_reducible refine gate_callee (f := 39) rfl ?_); refine goesL_ (some 20) rfl rfl Try.func39 (by kernel_rfl) rfl #[.slice A0 l0.length c0] rfl (by (try simp only [List.map_toArray, List.map_cons, List.map_nil]); first | done | rfl | (simp only [List.length_drop, List.length_take]; rfl)) ?_; (with_reducible refine (graph_Ends.calls k _ _ l0 t107 t108 _ ?side1 ?side2 A7.out).mono ?_); (case side1 => repeat (first | exact (Kd.C_below HR0.out HB.out) | (with_reducible refine Kd.C_alloc ?_ _) | (with_reducible refine Kd.C_drewN ?_ _) | (with_reducible refine Kd.C_drew ?_))); (case side2 => exact HC0.out); rintro e w98 ⟨v109, rfl, ho0, hb⟩; refine ⟨_, rfl, ?_⟩; have n0_ := Aside0.mk (Kd.R_elder' (by (with_reducible repeat (first | apply Kd.R_alloc | apply Kd.R_drewN | apply Kd.R_drew)); exact HO106.out) (Kd.R_base ho0) hb); have n1_ := Aside0.mk (Kd.R_lower (Kd.R_new' ho0 (Kd.R_lt (by (with_reducible repeat (first | apply Kd.R_alloc | apply Kd.R_drewN | apply Kd.R_drew)); exact HO106.out))) (below_size (by repeat (first | (with_reducible first | exact HB.out | apply below_alloc | apply pw_below_drewN | apply below_drew1) | exact HB.out)))); have n2_ := Aside0.mk (below_step (by repeat (first | (with_reducible first | exact HB.out | apply below_alloc | apply pw_below_drewN | apply below_drew1) | exact HB.out)) hb); clear HO106; clear HB; have HO106 := n0_; have HO110 := n1_; have HB := n2_; clear n0_ n1_ n2_; (try clear hb); (try clear hb2); (try clear hk); (try clear hi); (try clear ho0)) | ((with_reducible refine gate_callee (f := 40) rfl ?_); refine goesL_ (some 25) rfl rfl Try.func40 (by kernel_rfl) rfl #[.slice A0 l0.length c0] rfl (by (try simp only [List.map_toArray, List.map_cons, List.map_nil]); first | done | rfl | (simp only [List.length_drop, List.length_take]; rfl)) ?_; (with_reducible refine (graph_Order.calls k _ _ l0 t111 t112 _ ?side1 ?side2 A8.out).mono ?_); (case side1 => repeat (first | exact (Kd.C_below HR0.out HB.out) | (with_reducible refine Kd.C_alloc ?_ _) | (with_reducible refine Kd.C_drewN ?_ _) | (with_reducible refine Kd.C_drew ?_))); (case side2 => exact HC0.out); rintro e w99 ⟨v113, rfl, ho0, hb⟩; refine ⟨_, rfl, ?_⟩; have n0_ := Aside0.mk (Kd.R_below (by (with_reducible repeat (first | apply Kd.R_alloc | apply Kd.R_drewN | apply Kd.R_drew)); exact HO106.out) hb); have n1_ := Aside0.mk (Kd.R_below (by (with_reducible repeat (first | apply Kd.R_alloc | apply Kd.R_drewN | apply Kd.R_drew)); exact HO110.out) hb); have n2_ := Aside0.mk (Kd.R_lower ho0 (below_size (by repeat (first | (with_reducible first | exact HB.out | apply below_alloc | apply pw_below_drewN | apply below_drew1) | exact HB.out)))); have n3_ := Aside0.mk (below_step (by repeat (first | (with_reducible first | exact HB.out | apply below_alloc | apply pw_below_drewN | apply below_drew1) | exact HB.out)) hb); clear HO106; clear HO110; clear HB; have HO106 := n0_; have HO110 := n1_; have HO114 := n2_; have HB := n3_; clear n0_ n1_ n2_ n3_; (try clear hb); (try clear hb2); (try clear hk); (try clear hi); (try clear ho0)) | ((with_reducible refine gate_callee (f := 18) rfl ?_); refine goesL_ (some 29) rfl rfl Try.func18 (by kernel_rfl) rfl #[.slice A0 l0.length c0] rfl (by (try simp only [List.map_toArray, List.map_cons, List.map_nil]); first | done | rfl | (simp only [List.length_drop, List.length_take]; rfl)) ?_; (with_reducible refine (drawloomlaw07_code.calls k _ _ l0 t115 _ ?side1 ?side2 A9.out).mono ?_); (case side1 => repeat (first | exact (Kd.C_below HR0.out HB.out) | (with_reducible refine Kd.C_alloc ?_ _) | (with_reducible refine Kd.C_drewN ?_ _) | (with_reducible refine Kd.C_drew ?_))); (case side2 => exact HC0.out); rintro e w' ⟨rfl, ⟨nd, rfl⟩⟩; refine ⟨_, rfl, ?_⟩))
        go_ret
        exact ⟨by first | rfl | (simp [errW_none, errW_some] <;> rfl) | (simp [*, errW_none, errW_some] <;> rfl), by repeat (first | (with_reducible first | exact HB.out | apply below_alloc | apply pw_below_drewN | apply below_drew1) | exact HB.out)⟩
end Go.Proofs.Ytjjedbcgkljdeaa.L
end
section
namespace Go.Proofs.Ytjjedbcgkljdeaa.M
open Go.RowKit Go.Proofs.YtjjedbcgkljdeaaW.PrintWords Go.Proofs.YtjjedbcgkljdeaaW.PrintLast Go.Proofs.YtjjedbcgkljdeaaW.PrintMore Go.Proofs.Ytjjedbcgkljdeaa.A
def Evt {α : Type} (f : Nat → Option α) (r : α) : Prop := ∃ K, ∀ k, K ≤ k → f k = some r
section
variable {α β : Type} {f g : Nat → Option α} {r a : α} {b : β}
theorem Evt.const (r : α) : Evt (fun _ => some r) r := ⟨0, fun _ _ => rfl⟩
theorem Evt.succ (h : Evt (fun k => f (k + 1)) r) : Evt f r := by
  obtain ⟨K, h⟩ := h
  refine ⟨K + 1, fun k hk => ?_⟩
  obtain ⟨j, rfl⟩ : ∃ j, k = j + 1 := ⟨k - 1, by omega⟩
  exact h j (by omega)
theorem Evt.bind {h : Nat → α → Option β} (h1 : Evt f a) (h2 : Evt (fun k => h k a) b) : Evt (fun k => (f k).bind (h k)) b := by
  obtain ⟨K, h1⟩ := h1
  obtain ⟨L, h2⟩ := h2
  refine ⟨max K L, fun k hk => ?_⟩
  simp only [h1 k (by omega), Option.bind_some]
  exact h2 k (by omega)
theorem Evt.pos {c : Prop} [Decidable c] (hc : c) (h : Evt f r) : Evt (fun k => if c then f k else g k) r := by
  simpa only [if_pos hc] using h
theorem Evt.neg {c : Prop} [Decidable c] (hc : ¬ c) (h : Evt g r) : Evt (fun k => if c then f k else g k) r := by
  simpa only [if_neg hc] using h
theorem Evt.of_mono (hm : ∀ k, LeO (f k) (f (k + 1))) {k : Nat} (h : f k = some r) : Evt f r := by
  refine ⟨k, fun j hj => ?_⟩
  obtain ⟨d, rfl⟩ := Nat.exists_eq_add_of_le hj
  induction d with
  | zero => exact h
  | succ d ih => exact hm _ r (ih (by omega))
theorem Evt.get (h : Evt f r) : ∃ k, f k = some r := by
  obtain ⟨K, h⟩ := h
  exact ⟨K, h K (Nat.le_refl _)⟩
end
theorem wrap64_id {x : Int} (h0 : -9223372036854775808 ≤ x) (h1 : x < 9223372036854775808) : wrap64 x = x := by
  unfold wrap64; omega
theorem wrap_succ (i : Nat) (h : i < 9223372036854775807) : wrap64 ((i : Int) + 1) = ((i + 1 : Nat) : Int) := by
  rw [wrap64_id (by omega) (by omega)]; omega
theorem rd_nat (xs : List Int) (i : Nat) (h : i < xs.length) : rd xs (i : Int) = xs[i] := by simp [rd, h]
theorem rdOf_nat {α : Type} (d : α) (xs : List α) (i : Nat) (h : i < xs.length) : rdOf d xs (i : Int) = xs[i] := by simp [rdOf, h]
theorem rdOf_set (s : List Bool) (m x : Int) (b : Bool) (h0 : 0 ≤ m) (h1 : m < s.length) (hx : 0 ≤ x) : rdOf false (s.set m.toNat b) x = if x = m then b else rdOf false s x := by
  unfold rdOf
  simp only [List.getD_eq_getElem?_getD, List.getElem?_set]
  by_cases h : x = m
  · subst h
    rw [if_pos rfl, if_pos rfl, if_pos (by omega)]; rfl
  · rw [if_neg (by omega), if_neg h]
theorem count_set_true (s : List Bool) (m : Nat) (h : m < s.length) (hm : s[m] = false) : (s.set m true).count false + 1 = s.count false := by
  have h1 := List.count_set (a := true) (b := false) h
  rw [hm] at h1
  have : 0 < s.count false := List.count_pos_iff.2 (by rw [← hm]; exact List.getElem_mem h)
  simp at h1
  omega
theorem ext_bool {s t : List Bool} (hl : s.length = t.length) (h : ∀ x : Int, 0 ≤ x → x < s.length → (rdOf false s x = true ↔ rdOf false t x = true)) : s = t := by
  apply List.ext_getElem hl
  intro i h1 h2
  have := h (i : Int) (by omega) (by omega)
  rw [rdOf_nat false s i h1, rdOf_nat false t i h2] at this
  exact Bool.eq_iff_iff.2 this
inductive Rch (g : List (List Int)) (P : Int → Bool) (l : List Int) : Int → Prop
  | base {x : Int} : x ∈ l → P x = false → Rch g P l x
  | step {a x : Int} : Rch g P l a → x ∈ rd_L1 g a → P x = false → Rch g P l x
def InR (n : Nat) (l : List Int) : Prop := ∀ x ∈ l, 0 ≤ x ∧ x < (n : Int)
def Gr (g : List (List Int)) : Prop := ∀ r ∈ g, InR g.length r
theorem Gr.row {g : List (List Int)} (h : Gr g) (a : Int) : InR g.length (rd_L1 g a) := by
  unfold rd_L1
  rw [List.getD_eq_getElem?_getD]
  rcases Nat.lt_or_ge a.toNat g.length with h1 | h1
  · rw [List.getElem?_eq_getElem h1]; exact h _ (List.getElem_mem h1)
  · rw [List.getElem?_eq_none h1]; intro x hx; cases hx
structure VisR (P : Int → Bool) (xs : List Int) (s : List Bool) (t : List Int) (s' : List Bool) (t' : List Int) : Prop where
  run : visL P xs s t = some (s', t')
  len : s'.length = s.length
  pot : t'.length + s'.count false ≤ t.length + s.count false
  mu : 2 * s'.count false + t'.length ≤ 2 * s.count false + t.length
  keep : ∀ x, 0 ≤ x → rdOf false s x = true → rdOf false s' x = true
  new : ∀ x, 0 ≤ x → rdOf false s' x = true → rdOf false s x = true ∨ (x ∈ xs ∧ P x = false ∧ x ∈ t')
  all : ∀ x ∈ xs, rdOf false s' x = true ∨ P x = true
  old : ∀ x ∈ t, x ∈ t'
  tin : ∀ x ∈ t', x ∈ t ∨ (x ∈ xs ∧ rdOf false s' x = true)
theorem visR (P : Int → Bool) : ∀ (xs : List Int) (s : List Bool) (t : List Int), InR s.length xs → t.length + s.count false < 17592186044416 → ∃ s' t', VisR P xs s t s' t'
  | [], s, t, _, _ => ⟨s, t, rfl, rfl, Nat.le_refl _, Nat.le_refl _, fun _ _ h => h, fun _ _ h => .inl h, fun _ h => (by cases h), fun _ h => h, fun _ h => .inl h⟩
  | m :: xs, s, t, hin, hp => by
    obtain ⟨h0, h1⟩ := hin m (by simp)
    have hin' : InR s.length xs := fun x hx => hin x (by simp [hx])
    by_cases hs : rdOf false s m = true
    · obtain ⟨s', t', h⟩ := visR P xs s t hin' hp
      refine ⟨s', t', ?_, h.len, h.pot, h.mu, h.keep, fun x hx hr => ?_, fun x hx => ?_, h.old, fun x hx => ?_⟩
      · rw [visL, visF, if_pos h0, if_pos h1, if_pos hs]; exact h.run
      · rcases h.new x hx hr with h | ⟨a, b, c⟩
        · exact .inl h
        · exact .inr ⟨by simp [a], b, c⟩
      · rcases List.mem_cons.1 hx with rfl | hx
        · exact .inl (h.keep _ h0 hs)
        · exact h.all x hx
      · rcases h.tin x hx with h | ⟨a, b⟩
        · exact .inl h
        · exact .inr ⟨by simp [a], b⟩
    · by_cases hP : P m = true
      · obtain ⟨s', t', h⟩ := visR P xs s t hin' hp
        refine ⟨s', t', ?_, h.len, h.pot, h.mu, h.keep, fun x hx hr => ?_, fun x hx => ?_, h.old, fun x hx => ?_⟩
        · rw [visL, visF, if_pos h0, if_pos h1, if_neg hs, if_pos hP]; exact h.run
        · rcases h.new x hx hr with h | ⟨a, b, c⟩
          · exact .inl h
          · exact .inr ⟨by simp [a], b, c⟩
        · rcases List.mem_cons.1 hx with rfl | hx
          · exact .inr hP
          · exact h.all x hx
        · rcases h.tin x hx with h | ⟨a, b⟩
          · exact .inl h
          · exact .inr ⟨by simp [a], b⟩
      · have hlt : m.toNat < s.length := by omega
        have hf : s[m.toNat] = false := by
          have : rdOf false s m = s[m.toNat] := by simp [rdOf, hlt]
          rw [← this]; exact Bool.eq_false_iff.2 hs
        have hc := count_set_true s m.toNat hlt hf
        obtain ⟨s', t', h⟩ := visR P xs (s.set m.toNat true) (t ++ [m]) (by simpa using hin') (by simp; omega)
        have hm : rdOf false (s.set m.toNat true) m = true := by rw [rdOf_set s m m true h0 h1 h0, if_pos rfl]
        have hl : (t ++ [m]).length = t.length + 1 := by simp
        refine ⟨s', t', ?_, by rw [h.len, List.length_set], by have := h.pot; omega, by have := h.mu; omega, fun x hx hr => ?_, fun x hx hr => ?_, fun x hx => ?_, fun x hx => h.old x (by simp [hx]), fun x hx => ?_⟩
        · rw [visL, visF, if_pos h0, if_pos h1, if_neg hs, if_neg hP, if_pos (by omega)]; exact h.run
        · refine h.keep x hx ?_
          rw [rdOf_set s m x true h0 h1 hx]
          split
          · rfl
          · exact hr
        · rcases h.new x hx hr with h2 | ⟨a, b, c⟩
          · rw [rdOf_set s m x true h0 h1 hx] at h2
            split at h2
            next e => subst e; exact .inr ⟨by simp, Bool.eq_false_iff.2 hP, h.old _ (by simp)⟩
            next => exact .inl h2
          · exact .inr ⟨by simp [a], b, c⟩
        · rcases List.mem_cons.1 hx with rfl | hx
          · exact .inl (h.keep _ h0 hm)
          · exact h.all x hx
        · rcases h.tin x hx with h2 | ⟨a, b⟩
          · rcases List.mem_append.1 h2 with h2 | h2
            · exact .inl h2
            · obtain rfl := List.mem_singleton.1 h2
              exact .inr ⟨by simp, h.keep _ h0 hm⟩
          · exact .inr ⟨by simp [a], b⟩
structure FI (P : Int → Bool) (g : List (List Int)) (l : List Int) (s : List Bool) (t : List Int) : Prop where
  len : s.length = g.length
  tin : ∀ x ∈ t, 0 ≤ x ∧ x < (g.length : Int) ∧ rdOf false s x = true
  sound : ∀ x, 0 ≤ x → rdOf false s x = true → Rch g P l x
  closed : ∀ a, 0 ≤ a → rdOf false s a = true → a ∈ t ∨ ∀ x ∈ rd_L1 g a, rdOf false s x = true ∨ P x = true
  starts : ∀ x ∈ l, 0 ≤ x → rdOf false s x = true ∨ P x = true
  pot : t.length + s.count false ≤ g.length
theorem last_split {t : List Int} (h : t.length ≠ 0) : ∃ t0 x, t = t0 ++ [x] ∧ rd t ((t.length : Int) - 1) = x ∧ t.take (t.length - 1) = t0 := by
  have hne : t ≠ [] := fun e => h (by rw [e]; rfl)
  refine ⟨t.dropLast, t.getLast hne, (List.dropLast_concat_getLast hne).symm, ?_, (List.dropLast_eq_take).symm⟩
  rw [show ((t.length : Int) - 1) = ((t.length - 1 : Nat) : Int) by omega, rd_nat _ _ (by omega), List.getLast_eq_getElem]
theorem runR {P : Int → Bool} {g : List (List Int)} {l : List Int} (hg : Gr g) (hn : g.length < 17592186044416) : ∀ (N : Nat) (s : List Bool) (t : List Int), FI P g l s t → 2 * s.count false + t.length ≤ N →
    ∃ r, Evt (fun k => runF P g k s t) r ∧ FI P g l r []
  | N, s, t, hi, hN => by
    by_cases h0 : t.length = 0
    · have ht : t = [] := List.length_eq_zero_iff.1 h0
      subst ht
      exact ⟨s, Evt.succ (by simp only [runF]; exact Evt.pos rfl (Evt.const s)), hi⟩
    · obtain ⟨t0, x, rfl, hx, ht0⟩ := last_split h0
      obtain ⟨hx0, hx1, hxs⟩ := hi.tin x (by simp)
      have hl : (t0 ++ [x]).length = t0.length + 1 := by simp
      have hp := hi.pot
      have hl0 := hi.len
      obtain ⟨s', t', hv⟩ := visR P (rd_L1 g x) s t0 (by rw [hl0]; exact hg.row x) (by omega)
      have hi' : FI P g l s' t' := by
        refine ⟨by rw [hv.len, hl0], fun y hy => ?_, fun y hy hs => ?_, fun a ha hs => ?_, fun y hy hy0 => ?_, by have := hv.pot; omega⟩
        · rcases hv.tin y hy with h | ⟨h, h'⟩
          · obtain ⟨a, b, c⟩ := hi.tin y (by simp [h])
            exact ⟨a, b, hv.keep y a c⟩
          · obtain ⟨a, b⟩ := hg.row x y h
            exact ⟨a, b, h'⟩
        · rcases hv.new y hy hs with h | ⟨h, h2, _⟩
          · exact hi.sound y hy h
          · exact Rch.step (hi.sound x hx0 hxs) h h2
        · rcases hv.new a ha hs with h | ⟨_, _, h⟩
          · rcases hi.closed a ha h with h2 | h2
            · rcases List.mem_append.1 h2 with h3 | h3
              · exact .inl (hv.old a h3)
              · obtain rfl := List.mem_singleton.1 h3
                exact .inr hv.all
            · refine .inr fun y hy => ?_
              rcases h2 y hy with h3 | h3
              · exact .inl (hv.keep y (hg.row a y hy).1 h3)
              · exact .inr h3
          · exact .inl h
        · rcases hi.starts y hy hy0 with h | h
          · exact .inl (hv.keep y hy0 h)
          · exact .inr h
      have hmu := hv.mu
      obtain ⟨r, hr, hi2⟩ := runR hg hn (N - 1) s' t' hi' (by omega)
      refine ⟨r, Evt.succ ?_, hi2⟩
      simp only [runF]
      refine Evt.neg h0 ?_
      rw [hx, ht0]
      refine Evt.pos hx0 (Evt.pos hx1 ?_)
      simp only [hv.run, Option.bind_some]
      exact hr
  termination_by N => N
  decreasing_by omega
theorem Rch.range {P : Int → Bool} {g : List (List Int)} {l : List Int} (hg : Gr g) (hl : InR g.length l) {x : Int} (h : Rch g P l x) : 0 ≤ x ∧ x < (g.length : Int) := by
  cases h with
  | base h _ => exact hl x h
  | step _ h _ => exact hg.row _ x h
theorem FI.iff {P : Int → Bool} {g : List (List Int)} {l : List Int} {r : List Bool} (hg : Gr g) (hl : InR g.length l) (h : FI P g l r []) (x : Int) (hx : 0 ≤ x) : rdOf false r x = true ↔ Rch g P l x := by
  refine ⟨h.sound x hx, fun hr => ?_⟩
  clear hx
  induction hr with
  | base h1 h2 =>
    rcases h.starts _ h1 (hl _ h1).1 with h3 | h3
    · exact h3
    · rw [h2] at h3; cases h3
  | step h1 h2 h3 ih =>
    rcases h.closed _ (h1.range hg hl).1 ih with h4 | h4
    · cases h4
    · rcases h4 _ h2 with h5 | h5
      · exact h5
      · rw [h3] at h5; cases h5
theorem fromF_ev (P : Int → Bool) (g : List (List Int)) (l : List Int) (hg : Gr g) (hl : InR g.length l) (hn : g.length ≤ 100000) : ∃ r, Evt (fun k => fromF P k g l) r ∧ r.length = g.length ∧ ∀ x : Int, 0 ≤ x → (rdOf false r x = true ↔ Rch g P l x) := by
  have hlen : (List.replicate g.length false).length = g.length := by simp
  have hf : ∀ x : Int, rdOf false (List.replicate g.length false) x = false := fun x => by
    unfold rdOf
    rw [List.getD_eq_getElem?_getD, List.getElem?_replicate]
    split <;> rfl
  obtain ⟨s, t, hv⟩ := visR P l (List.replicate g.length false) [] (by rw [hlen]; exact hl) (by simp; omega)
  have hi : FI P g l s t := by
    refine ⟨by rw [hv.len, hlen], fun x hx => ?_, fun x hx hs => ?_, fun a ha hs => ?_, fun x hx _ => hv.all x hx, by have := hv.pot; simp at this; omega⟩
    · rcases hv.tin x hx with h | ⟨h, h'⟩
      · cases h
      · exact ⟨(hl x h).1, (hl x h).2, h'⟩
    · rcases hv.new x hx hs with h | ⟨h, h2, _⟩
      · rw [hf] at h; cases h
      · exact Rch.base h h2
    · rcases hv.new a ha hs with h | ⟨_, _, h⟩
      · rw [hf] at h; cases h
      · exact .inl h
  obtain ⟨r, hr, hi2⟩ := runR hg (by omega) _ s t hi (Nat.le_refl _)
  refine ⟨r, ?_, hi2.len, fun x hx => hi2.iff hg hl x hx⟩
  unfold fromF
  refine Evt.pos (by omega) ?_
  simp only [hv.run, Option.bind_some]
  exact hr
theorem ref_l2 (g : List (List Int)) (w : Int) (x : Int) (hx0 : 0 ≤ x) (hx1 : x < (g.length : Int)) (hlen : (rd_L1 g x).length < 9223372036854775807) (s' : List Bool) (t' : List Int) (r : List Bool) (hr : Evt (fun k => drawloomref07_From.l1 k g w s' t') r) :
    ∀ (d i : Nat) (s : List Bool) (t : List Int), i + d = (rd_L1 g x).length → visL (fun n => n == w) ((rd_L1 g x).drop i) s t = some (s', t') → Evt (fun k => drawloomref07_From.l2 k g w s t x (i : Int)) r
  | 0, i, s, t, hd, hv => by
    rw [List.drop_of_length_le (by omega)] at hv
    simp only [visL, Option.some.injEq, Prod.mk.injEq] at hv
    obtain ⟨rfl, rfl⟩ := hv
    refine Evt.succ ?_
    simp only [drawloomref07_From.l2]
    exact Evt.pos hx0 (Evt.pos hx1 (Evt.neg (by omega) hr))
  | d + 1, i, s, t, hd, hv => by
    have hi : i < (rd_L1 g x).length := by omega
    rw [List.drop_eq_getElem_cons hi, visL] at hv
    obtain ⟨⟨s1, t1⟩, h1, h2⟩ := Option.bind_eq_some_iff.mp hv
    have ih := ref_l2 g w x hx0 hx1 hlen s' t' r hr d (i + 1) s1 t1 (by omega) h2
    have hm : rd (rd_L1 g x) (i : Int) = (rd_L1 g x)[i] := rd_nat _ _ hi
    unfold visF at h1
    generalize (rd_L1 g x)[i] = m at *
    split at h1
    case isFalse => cases h1
    split at h1
    case isFalse => cases h1
    next h0 h01 =>
    refine Evt.succ ?_
    simp only [drawloomref07_From.l2, hm, wrap_succ i (by omega)]
    refine Evt.pos hx0 (Evt.pos hx1 (Evt.pos (by omega) (Evt.pos (by omega) ?_)))
    split at h1
    · next hs =>
      simp only [Option.some.injEq, Prod.mk.injEq] at h1
      obtain ⟨rfl, rfl⟩ := h1
      by_cases hw : m = w
      · exact Evt.pos hw ih
      · exact Evt.neg hw (Evt.pos h0 (Evt.pos h01 (Evt.pos hs ih)))
    · next hs =>
      split at h1
      · next hw =>
        simp only [Option.some.injEq, Prod.mk.injEq] at h1
        obtain ⟨rfl, rfl⟩ := h1
        exact Evt.pos (by simpa using hw) ih
      · next hw =>
        split at h1
        case isFalse => cases h1
        next hb =>
        simp only [Option.some.injEq, Prod.mk.injEq] at h1
        obtain ⟨rfl, rfl⟩ := h1
        exact Evt.neg (by simpa using hw) (Evt.pos h0 (Evt.pos h01 (Evt.neg hs (Evt.pos hb ih))))
theorem visL_bound (P : Int → Bool) : ∀ (xs : List Int) (s : List Bool) (t : List Int) (s' : List Bool) (t' : List Int), visL P xs s t = some (s', t') → t.length ≤ 17592186044416 → t'.length ≤ 17592186044416
  | [], s, t, s', t', h, ht => by
    simp only [visL, Option.some.injEq, Prod.mk.injEq] at h
    rw [← h.2]; exact ht
  | m :: xs, s, t, s', t', h, ht => by
    rw [visL] at h
    obtain ⟨⟨s1, t1⟩, h1, h2⟩ := Option.bind_eq_some_iff.mp h
    refine visL_bound P xs s1 t1 s' t' h2 ?_
    unfold visF at h1
    split at h1
    case isFalse => cases h1
    split at h1
    case isFalse => cases h1
    split at h1
    · simp only [Option.some.injEq, Prod.mk.injEq] at h1; rw [← h1.2]; exact ht
    · split at h1
      · simp only [Option.some.injEq, Prod.mk.injEq] at h1; rw [← h1.2]; exact ht
      · split at h1
        case isFalse => cases h1
        simp only [Option.some.injEq, Prod.mk.injEq] at h1
        rw [← h1.2, List.length_append, List.length_singleton]; omega
theorem ref_l1 (g : List (List Int)) (w : Int) (hgl : ∀ x : Int, (rd_L1 g x).length < 9223372036854775807) : ∀ (k : Nat) (s : List Bool) (t : List Int) (r : List Bool), t.length ≤ 17592186044416 → runF (fun n => n == w) g k s t = some r → Evt (fun k => drawloomref07_From.l1 k g w s t) r
  | 0, s, t, r, _, h => by simp [runF] at h
  | k + 1, s, t, r, ht, h => by
    rw [runF] at h
    by_cases h0 : t.length = 0
    · rw [if_pos h0] at h
      obtain rfl := Option.some.inj h
      refine Evt.succ ?_
      simp only [drawloomref07_From.l1]
      exact Evt.neg (by omega) (Evt.const s)
    · rw [if_neg h0] at h
      split at h
      case isFalse => cases h
      split at h
      case isFalse => cases h
      next hx0 hx1 =>
      obtain ⟨⟨s', t'⟩, h1, h2⟩ := Option.bind_eq_some_iff.mp h
      have hw : wrap64 ((t.length : Int) - 1) = ((t.length - 1 : Nat) : Int) := by rw [wrap64_id (by omega) (by omega)]; omega
      have ih := ref_l1 g w hgl k s' t' r (visL_bound _ _ _ _ _ _ h1 (by rw [List.length_take]; omega)) h2
      rw [show ((t.length : Int) - 1) = ((t.length - 1 : Nat) : Int) by omega] at hx0 hx1 h1
      refine Evt.succ ?_
      simp only [drawloomref07_From.l1, hw]
      refine Evt.pos (by omega) (Evt.pos (by omega) (Evt.pos (by omega) (Evt.pos (by omega) ?_)))
      simp only [Int.toNat_natCast]
      exact ref_l2 g w _ hx0 hx1 (hgl _) s' t' r ih (rd_L1 g (rd t ((t.length - 1 : Nat) : Int))).length 0 s _ (by omega) (by simpa using h1)
theorem ref_l0 (g : List (List Int)) (w : Int) (l : List Int) (hlen : l.length < 9223372036854775807) (s' : List Bool) (t' : List Int) (r : List Bool) (hr : Evt (fun k => drawloomref07_From.l1 k g w s' t') r) :
    ∀ (d i : Nat) (s : List Bool) (t : List Int), i + d = l.length → visL (fun n => n == w) (l.drop i) s t = some (s', t') → Evt (fun k => drawloomref07_From.l0 k g l w s t (i : Int)) r
  | 0, i, s, t, hd, hv => by
    rw [List.drop_of_length_le (by omega)] at hv
    simp only [visL, Option.some.injEq, Prod.mk.injEq] at hv
    obtain ⟨rfl, rfl⟩ := hv
    refine Evt.succ ?_
    simp only [drawloomref07_From.l0]
    exact Evt.neg (by omega) hr
  | d + 1, i, s, t, hd, hv => by
    have hi : i < l.length := by omega
    rw [List.drop_eq_getElem_cons hi, visL] at hv
    obtain ⟨⟨s1, t1⟩, h1, h2⟩ := Option.bind_eq_some_iff.mp hv
    have ih := ref_l0 g w l hlen s' t' r hr d (i + 1) s1 t1 (by omega) h2
    have hm : rd l (i : Int) = l[i] := rd_nat _ _ hi
    unfold visF at h1
    generalize l[i] = m at *
    split at h1
    case isFalse => cases h1
    split at h1
    case isFalse => cases h1
    next h0 h01 =>
    refine Evt.succ ?_
    simp only [drawloomref07_From.l0, hm, wrap_succ i (by omega)]
    refine Evt.pos (by omega) (Evt.pos (by omega) ?_)
    split at h1
    · next hs =>
      simp only [Option.some.injEq, Prod.mk.injEq] at h1
      obtain ⟨rfl, rfl⟩ := h1
      by_cases hw : m = w
      · exact Evt.pos hw ih
      · exact Evt.neg hw (Evt.pos h0 (Evt.pos h01 (Evt.pos hs ih)))
    · next hs =>
      split at h1
      · next hw =>
        simp only [Option.some.injEq, Prod.mk.injEq] at h1
        obtain ⟨rfl, rfl⟩ := h1
        exact Evt.pos (by simpa using hw) ih
      · next hw =>
        split at h1
        case isFalse => cases h1
        next hb =>
        simp only [Option.some.injEq, Prod.mk.injEq] at h1
        obtain ⟨rfl, rfl⟩ := h1
        exact Evt.neg (by simpa using hw) (Evt.pos h0 (Evt.pos h01 (Evt.neg hs (Evt.pos hb ih))))
theorem refFrom_ev (g : List (List Int)) (l : List Int) (w : Int) (hg : Gr g) (hl : InR g.length l) (hn : g.length ≤ 100000) (hgl : ∀ x : Int, (rd_L1 g x).length < 9223372036854775807) (hll : l.length < 9223372036854775807) :
    ∃ r, Evt (fun k => drawloomref07_From.f k g l w) r ∧ r.length = g.length ∧ ∀ x : Int, 0 ≤ x → (rdOf false r x = true ↔ Rch g (fun n => n == w) l x) := by
  obtain ⟨r, hr, h1, h2⟩ := fromF_ev (fun n => n == w) g l hg hl hn
  refine ⟨r, ?_, h1, h2⟩
  obtain ⟨k, hk⟩ := hr.get
  unfold fromF at hk
  split at hk
  case isFalse => cases hk
  obtain ⟨⟨s, t⟩, h3, h4⟩ := Option.bind_eq_some_iff.mp hk
  unfold drawloomref07_From.f
  refine Evt.pos (by omega) (Evt.pos (by omega) ?_)
  simp only [Int.toNat_natCast]
  exact ref_l0 g w l hll s t r (ref_l1 g w hgl k s t r (visL_bound _ _ _ _ _ _ h3 (by simp)) h4) l.length 0 _ _ (by omega) (by simpa using h3)
end Go.Proofs.Ytjjedbcgkljdeaa.M
end
section
namespace Go.Proofs.Ytjjedbcgkljdeaa.M
open Go.RowKit Go.Proofs.YtjjedbcgkljdeaaW.PrintWords Go.Proofs.YtjjedbcgkljdeaaW.PrintLast Go.Proofs.YtjjedbcgkljdeaaW.PrintMore Go.Proofs.Ytjjedbcgkljdeaa.A
def inB (n : Nat) (x : Int) : Bool := decide (0 ≤ x) && decide (x < (n : Int))
def rowB (n : Nat) (r : List Int) : Bool := decide (r.length ≤ 2) && r.all (inB n)
def validB (g : List (List Int)) : Bool := decide (1 ≤ g.length) && (decide (g.length ≤ 2000) && g.all (rowB g.length))
def wideB (g : List (List Int)) : Bool := (g.take 41).any (fun r => decide (4 < r.length)) || decide (40 < g.length)
theorem wideB_false {g : List (List Int)} (h : wideB g = false) : g.length ≤ 40 ∧ ∀ r ∈ g, r.length ≤ 4 := by
  unfold wideB at h
  simp only [Bool.or_eq_false_iff, decide_eq_false_iff_not, List.any_eq_false] at h
  refine ⟨by omega, fun r hr => ?_⟩
  have := h.1 r (by rw [List.take_of_length_le (by omega)]; exact hr)
  simpa using this
theorem rd_L1_nat (g : List (List Int)) (i : Nat) (h : i < g.length) : rd_L1 g (i : Int) = g[i] := by simp [rd_L1, h]
theorem rd_L1_len {g : List (List Int)} {N : Nat} (h : ∀ r ∈ g, r.length ≤ N) (a : Int) : (rd_L1 g a).length ≤ N := by
  unfold rd_L1
  rw [List.getD_eq_getElem?_getD]
  rcases Nat.lt_or_ge a.toNat g.length with h1 | h1
  · rw [List.getElem?_eq_getElem h1]; exact h _ (List.getElem_mem h1)
  · rw [List.getElem?_eq_none h1]; exact Nat.zero_le _
theorem all_t {α : Type} {p : α → Bool} {x : α} {l : List α} (b : Bool) (h : p x = true) : ((x :: l).all p && b) = (l.all p && b) := by simp [h]
theorem all_f {α : Type} {p : α → Bool} {x : α} {l : List α} (b : Bool) (h : p x = false) : ((x :: l).all p && b) = false := by simp [h]
theorem all_c {α : Type} (p : α → Bool) (x : α) (l : List α) : (x :: l).all p = (p x && l.all p) := by simp
theorem any_c {α : Type} (p : α → Bool) (x : α) (l : List α) (b : Bool) : ((x :: l).any p || b) = (p x || (l.any p || b)) := by simp [Bool.or_assoc]
theorem inB_t {n : Nat} {x : Int} (h0 : 0 ≤ x) (h1 : x < (n : Int)) : inB n x = true := by simp [inB, h0, h1]
theorem inB_f {n : Nat} {x : Int} (h : x < 0 ∨ (n : Int) ≤ x) : inB n x = false := by
  unfold inB
  rcases h with h | h
  · rw [decide_eq_false (by omega)]; rfl
  · rw [decide_eq_false (p := x < (n : Int)) (by omega), Bool.and_false]
theorem rowB_f {n : Nat} {r : List Int} (h : 2 < r.length) : rowB n r = false := by
  unfold rowB; rw [decide_eq_false (by omega)]; rfl
theorem rowB_2 {n : Nat} {r : List Int} (h : r.length ≤ 2) : rowB n r = r.all (inB n) := by
  unfold rowB; rw [decide_eq_true h]; rfl
theorem valid_l1 (g : List (List Int)) (a : Int) (r : List Int) (hr : r.length ≤ 100000) (b : Bool) (hb : Evt (fun k => graph_valid.l0 k g g (g.length : Int) (wrap64 (a + 1))) b) :
    ∀ (d i : Nat), i + d = r.length → Evt (fun k => graph_valid.l1 k g g (g.length : Int) a r (r.length : Int) (i : Int)) ((r.drop i).all (inB g.length) && b)
  | 0, i, hd => by
    rw [List.drop_of_length_le (by omega)]
    refine Evt.succ ?_
    simp only [graph_valid.l1]
    exact Evt.neg (by omega) (by simpa using hb)
  | d + 1, i, hd => by
    have hi : i < r.length := by omega
    have ih := valid_l1 g a r hr b hb d (i + 1) (by omega)
    rw [List.drop_eq_getElem_cons hi]
    refine Evt.succ ?_
    simp only [graph_valid.l1, rd_nat _ _ hi, wrap_succ i (by omega)]
    refine Evt.pos (by omega) (Evt.pos (by omega) (Evt.pos (by omega) ?_))
    by_cases h0 : r[i] < 0
    · rw [all_f _ (inB_f (by omega))]
      exact Evt.pos h0 (Evt.const false)
    · by_cases h1 : r[i] ≥ (g.length : Int)
      · rw [all_f _ (inB_f (by omega))]
        exact Evt.neg h0 (Evt.pos h1 (Evt.const false))
      · rw [all_t _ (inB_t (by omega) (by omega))]
        exact Evt.neg h0 (Evt.neg h1 ih)
theorem valid_l0 (g : List (List Int)) (hg : g.length ≤ 100000) (hr : ∀ r ∈ g, r.length ≤ 100000) :
    ∀ (d i : Nat), i + d = g.length → Evt (fun k => graph_valid.l0 k g g (g.length : Int) (i : Int)) ((g.drop i).all (rowB g.length))
  | 0, i, hd => by
    rw [List.drop_of_length_le (by omega)]
    refine Evt.succ ?_
    simp only [graph_valid.l0]
    exact Evt.neg (by omega) (Evt.const true)
  | d + 1, i, hd => by
    have hi : i < g.length := by omega
    have ih := valid_l0 g hg hr d (i + 1) (by omega)
    rw [List.drop_eq_getElem_cons hi]
    refine Evt.succ ?_
    simp only [graph_valid.l0, rd_L1_nat g i hi]
    refine Evt.pos (by omega) (Evt.pos (by omega) (Evt.pos (by omega) ?_))
    by_cases h2 : ((g[i].length : Nat) : Int) > 2
    · rw [all_c, rowB_f (by omega), Bool.false_and]
      exact Evt.pos h2 (Evt.const false)
    · refine Evt.neg h2 ?_
      have h := valid_l1 g (i : Int) g[i] (hr _ (List.getElem_mem hi)) _ (by rw [wrap_succ i (by omega)]; exact ih) g[i].length 0 (by omega)
      rw [all_c, rowB_2 (by omega)]
      simpa using h
theorem valid_ev (g : List (List Int)) (hg : g.length ≤ 100000) (hr : ∀ r ∈ g, r.length ≤ 100000) : Evt (fun k => graph_valid.f k g) (validB g) := by
  unfold graph_valid.f validB
  by_cases h1 : (g.length : Int) < 1
  · refine Evt.pos h1 (Evt.succ ?_)
    rw [decide_eq_false (p := 1 ≤ g.length) (by omega), Bool.false_and]
    simp only [graph_valid.j0]
    exact Evt.pos trivial (Evt.const false)
  · refine Evt.neg h1 (Evt.succ ?_)
    rw [decide_eq_true (p := 1 ≤ g.length) (by omega), Bool.true_and]
    simp only [graph_valid.j0]
    by_cases h2 : (g.length : Int) > 2000
    · rw [decide_eq_false (p := g.length ≤ 2000) (by omega), Bool.false_and]
      exact Evt.pos (by simpa using h2) (Evt.const false)
    · rw [decide_eq_true (p := g.length ≤ 2000) (by omega), Bool.true_and]
      refine Evt.neg (by simpa using h2) ?_
      simpa using valid_l0 g hg hr g.length 0 (by omega)
theorem rvalid_l1 (g : List (List Int)) (a : Nat) (ha : a < g.length) (hr : g[a].length ≤ 100000) (b : Bool) (hb : Evt (fun k => drawloomref07_Valid.l0 k g (wrap64 ((a : Int) + 1))) b) :
    ∀ (d i : Nat), i + d = g[a].length → Evt (fun k => drawloomref07_Valid.l1 k g (a : Int) (i : Int)) ((g[a].drop i).all (inB g.length) && b)
  | 0, i, hd => by
    rw [List.drop_of_length_le (by omega)]
    refine Evt.succ ?_
    simp only [drawloomref07_Valid.l1, rd_L1_nat g a ha]
    exact Evt.pos (by omega) (Evt.pos (by omega) (Evt.neg (by omega) (by simpa using hb)))
  | d + 1, i, hd => by
    have hi : i < g[a].length := by omega
    have ih := rvalid_l1 g a ha hr b hb d (i + 1) (by omega)
    rw [List.drop_eq_getElem_cons hi]
    refine Evt.succ ?_
    simp only [drawloomref07_Valid.l1, rd_L1_nat g a ha, rd_nat _ _ hi, wrap_succ i (by omega)]
    refine Evt.pos (by omega) (Evt.pos (by omega) (Evt.pos (by omega) (Evt.pos (by omega) ?_)))
    by_cases h0 : g[a][i] < 0
    · rw [all_f _ (inB_f (by omega))]
      exact Evt.pos h0 (Evt.const false)
    · by_cases h1 : g[a][i] ≥ (g.length : Int)
      · rw [all_f _ (inB_f (by omega))]
        exact Evt.neg h0 (Evt.pos h1 (Evt.const false))
      · rw [all_t _ (inB_t (by omega) (by omega))]
        exact Evt.neg h0 (Evt.neg h1 ih)
theorem rvalid_l0 (g : List (List Int)) (hg : g.length ≤ 100000) (hr : ∀ r ∈ g, r.length ≤ 100000) :
    ∀ (d i : Nat), i + d = g.length → Evt (fun k => drawloomref07_Valid.l0 k g (i : Int)) ((g.drop i).all (rowB g.length))
  | 0, i, hd => by
    rw [List.drop_of_length_le (by omega)]
    refine Evt.succ ?_
    simp only [drawloomref07_Valid.l0]
    exact Evt.neg (by omega) (Evt.const true)
  | d + 1, i, hd => by
    have hi : i < g.length := by omega
    have ih := rvalid_l0 g hg hr d (i + 1) (by omega)
    rw [List.drop_eq_getElem_cons hi]
    refine Evt.succ ?_
    simp only [drawloomref07_Valid.l0, rd_L1_nat g i hi]
    refine Evt.pos (by omega) (Evt.pos (by omega) ?_)
    by_cases h2 : ((g[i].length : Nat) : Int) > 2
    · rw [all_c, rowB_f (by omega), Bool.false_and]
      exact Evt.pos h2 (Evt.const false)
    · refine Evt.neg h2 ?_
      have h := rvalid_l1 g i hi (hr _ (List.getElem_mem hi)) _ (by rw [wrap_succ i (by omega)]; exact ih) g[i].length 0 (by omega)
      rw [all_c, rowB_2 (by omega)]
      simpa using h
theorem rvalid_ev (g : List (List Int)) (hg : g.length ≤ 100000) (hr : ∀ r ∈ g, r.length ≤ 100000) : Evt (fun k => drawloomref07_Valid.f k g) (validB g) := by
  unfold drawloomref07_Valid.f validB
  by_cases h1 : (g.length : Int) < 1
  · refine Evt.pos h1 (Evt.succ ?_)
    rw [decide_eq_false (p := 1 ≤ g.length) (by omega), Bool.false_and]
    simp only [drawloomref07_Valid.j0]
    exact Evt.pos trivial (Evt.const false)
  · refine Evt.neg h1 (Evt.succ ?_)
    rw [decide_eq_true (p := 1 ≤ g.length) (by omega), Bool.true_and]
    simp only [drawloomref07_Valid.j0]
    by_cases h2 : (g.length : Int) > 2000
    · rw [decide_eq_false (p := g.length ≤ 2000) (by omega), Bool.false_and]
      exact Evt.pos (by simpa using h2) (Evt.const false)
    · rw [decide_eq_true (p := g.length ≤ 2000) (by omega), Bool.true_and]
      refine Evt.neg (by simpa using h2) ?_
      simpa using rvalid_l0 g hg hr g.length 0 (by omega)
theorem code_ev (g : List (List Int)) (hg : g.length ≤ 100000) (hr : ∀ r ∈ g, r.length ≤ 100000) : Evt (fun k => drawloomlaw07_code.f k g) (if validB g = true then 0 else 1) := by
  unfold drawloomlaw07_code.f
  refine Evt.bind (rvalid_ev g hg hr) ?_
  by_cases h : validB g = true
  · simp only [if_pos h]; exact Evt.const 0
  · simp only [if_neg h]; exact Evt.const 1
theorem wide_l0 (g : List (List Int)) : ∀ (d i : Nat), i + d = 41 → i ≤ g.length → Evt (fun k => drawloomlaw07_wide.l0 k g (i : Int)) (((g.take 41).drop i).any (fun r => decide (4 < r.length)) || decide (40 < g.length))
  | 0, i, hd, hi => by
    rw [List.drop_of_length_le (by rw [List.length_take]; omega)]
    refine Evt.succ ?_
    simp only [drawloomlaw07_wide.l0]
    by_cases h : (i : Int) < (g.length : Int)
    · refine Evt.pos h (Evt.succ ?_)
      simp only [drawloomlaw07_wide.j1]
      refine Evt.neg (by simp; omega) ?_
      rw [show decide ((g.length : Int) > 40) = decide (40 < g.length) from decide_eq_decide.2 (by omega)]
      simpa using Evt.const _
    · refine Evt.neg h (Evt.succ ?_)
      simp only [drawloomlaw07_wide.j1]
      refine Evt.neg (by simp) ?_
      rw [show decide ((g.length : Int) > 40) = decide (40 < g.length) from decide_eq_decide.2 (by omega)]
      simpa using Evt.const _
  | d + 1, i, hd, hi => by
    refine Evt.succ ?_
    simp only [drawloomlaw07_wide.l0]
    by_cases h : (i : Int) < (g.length : Int)
    · have hi2 : i < g.length := by omega
      have hi3 : i < (g.take 41).length := by rw [List.length_take]; omega
      have ih := wide_l0 g d (i + 1) (by omega) (by omega)
      rw [List.drop_eq_getElem_cons hi3, List.getElem_take]
      refine Evt.pos h (Evt.succ ?_)
      simp only [drawloomlaw07_wide.j1, rd_L1_nat g i hi2, wrap_succ i (by omega)]
      refine Evt.pos (by simp; omega) (Evt.pos (by omega) (Evt.pos h ?_))
      by_cases h4 : ((g[i].length : Nat) : Int) > 4
      · rw [any_c, decide_eq_true (p := 4 < g[i].length) (by omega), Bool.true_or]
        exact Evt.pos h4 (Evt.const true)
      · rw [any_c, decide_eq_false (p := 4 < g[i].length) (by omega), Bool.false_or]
        exact Evt.neg h4 ih
    · rw [List.drop_of_length_le (by rw [List.length_take]; omega)]
      refine Evt.neg h (Evt.succ ?_)
      simp only [drawloomlaw07_wide.j1]
      refine Evt.neg (by simp) ?_
      rw [show decide ((g.length : Int) > 40) = decide (40 < g.length) from decide_eq_decide.2 (by omega)]
      simpa using Evt.const _
theorem wide_ev (g : List (List Int)) : Evt (fun k => drawloomlaw07_wide.f k g) (wideB g) := by
  unfold drawloomlaw07_wide.f wideB
  simpa using wide_l0 g 41 0 (by omega) (by omega)
def exitsL (g : List (List Int)) (i : Nat) : List Int := ((List.range g.length).drop i).filterMap fun (a : Nat) => if (rd_L1 g (a : Int)).length = 0 then some (a : Int) else none
theorem range_drop {n i : Nat} (h : i < n) : (List.range n).drop i = i :: (List.range n).drop (i + 1) := by
  rw [List.drop_eq_getElem_cons (by simpa using h)]; simp
theorem range_drop_nil {n i : Nat} (h : n ≤ i) : (List.range n).drop i = [] := List.drop_of_length_le (by simpa using h)
theorem exits_l0 (g : List (List Int)) (hg : g.length ≤ 100000) : ∀ (d i : Nat) (acc : List Int), i + d = g.length → acc.length ≤ i → Evt (fun k => graph_exits.l0 k acc g (g.length : Int) (i : Int)) (acc ++ exitsL g i)
  | 0, i, acc, hd, ha => by
    rw [exitsL, range_drop_nil (by omega)]
    refine Evt.succ ?_
    simp only [graph_exits.l0]
    exact Evt.neg (by omega) (by simpa using Evt.const acc)
  | d + 1, i, acc, hd, ha => by
    refine Evt.succ ?_
    simp only [graph_exits.l0, wrap_succ i (by omega)]
    refine Evt.pos (by omega) (Evt.pos (by omega) (Evt.pos (by omega) ?_))
    rw [exitsL, range_drop (by omega), List.filterMap_cons]
    by_cases h : (rd_L1 g (i : Int)).length = 0
    · rw [if_pos h]
      have ih := exits_l0 g hg d (i + 1) (acc ++ [(i : Int)]) (by omega) (by simp; omega)
      rw [List.append_assoc] at ih
      exact Evt.pos (by omega) (Evt.pos (by omega) ih)
    · rw [if_neg h]
      exact Evt.neg (by omega) (exits_l0 g hg d (i + 1) acc (by omega) (by omega))
theorem exits_ev (g : List (List Int)) (hg : g.length ≤ 100000) : Evt (fun k => graph_exits.f k g) (exitsL g 0) := by
  unfold graph_exits.f
  simpa using exits_l0 g hg g.length 0 [] (by omega) (by simp)
theorem rexits_l0 (g : List (List Int)) (hg : g.length ≤ 100000) : ∀ (d i : Nat) (acc : List Int), i + d = g.length → acc.length ≤ i → Evt (fun k => drawloomref07_exits.l0 k g acc (i : Int)) (acc ++ exitsL g i)
  | 0, i, acc, hd, ha => by
    rw [exitsL, range_drop_nil (by omega)]
    refine Evt.succ ?_
    simp only [drawloomref07_exits.l0]
    exact Evt.neg (by omega) (by simpa using Evt.const acc)
  | d + 1, i, acc, hd, ha => by
    refine Evt.succ ?_
    simp only [drawloomref07_exits.l0, wrap_succ i (by omega)]
    refine Evt.pos (by omega) (Evt.pos (by omega) ?_)
    rw [exitsL, range_drop (by omega), List.filterMap_cons]
    by_cases h : (rd_L1 g (i : Int)).length = 0
    · rw [if_pos h]
      have ih := rexits_l0 g hg d (i + 1) (acc ++ [(i : Int)]) (by omega) (by simp; omega)
      rw [List.append_assoc] at ih
      exact Evt.pos (by omega) (Evt.pos (by omega) ih)
    · rw [if_neg h]
      exact Evt.neg (by omega) (rexits_l0 g hg d (i + 1) acc (by omega) (by omega))
theorem rexits_ev (g : List (List Int)) (hg : g.length ≤ 100000) : Evt (fun k => drawloomref07_exits.f k g) (exitsL g 0) := by
  unfold drawloomref07_exits.f
  simpa using rexits_l0 g hg g.length 0 [] (by omega) (by simp)
theorem sameBools_l0 (s : List Bool) (hs : s.length ≤ 100000) : ∀ (d i : Nat), i + d = s.length → Evt (fun k => drawloomlaw07_sameBools.l0 k s s (i : Int)) true
  | 0, i, hd => by
    refine Evt.succ ?_
    simp only [drawloomlaw07_sameBools.l0]
    exact Evt.neg (by omega) (Evt.const true)
  | d + 1, i, hd => by
    refine Evt.succ ?_
    simp only [drawloomlaw07_sameBools.l0, wrap_succ i (by omega)]
    exact Evt.pos (by omega) (Evt.pos (by omega) (Evt.pos (by omega) (Evt.neg (by simp) (sameBools_l0 s hs d (i + 1) (by omega)))))
theorem sameBools_ev (s : List Bool) (hs : s.length ≤ 100000) : Evt (fun k => drawloomlaw07_sameBools.f k s s) true := by
  unfold drawloomlaw07_sameBools.f
  exact Evt.pos rfl (by simpa using sameBools_l0 s hs s.length 0 (by omega))
theorem sameInts_l0 (s : List Int) (hs : s.length ≤ 100000) : ∀ (d i : Nat), i + d = s.length → Evt (fun k => drawloomref05_SameInts.l0 k s s (i : Int)) true
  | 0, i, hd => by
    refine Evt.succ ?_
    simp only [drawloomref05_SameInts.l0]
    exact Evt.neg (by omega) (Evt.const true)
  | d + 1, i, hd => by
    refine Evt.succ ?_
    simp only [drawloomref05_SameInts.l0, wrap_succ i (by omega)]
    exact Evt.pos (by omega) (Evt.pos (by omega) (Evt.pos (by omega) (Evt.pos (by first | rfl | trivial) (sameInts_l0 s hs d (i + 1) (by omega)))))
theorem sameInts_ev (s : List Int) (hs : s.length ≤ 100000) : Evt (fun k => drawloomref05_SameInts.f k s s) true := by
  unfold drawloomref05_SameInts.f
  exact Evt.pos rfl (by simpa using sameInts_l0 s hs s.length 0 (by omega))
end Go.Proofs.Ytjjedbcgkljdeaa.M
end
section
namespace Go.Proofs.Ytjjedbcgkljdeaa.M
open Go.RowKit Go.Proofs.YtjjedbcgkljdeaaW.PrintWords Go.Proofs.YtjjedbcgkljdeaaW.PrintLast Go.Proofs.YtjjedbcgkljdeaaW.PrintMore Go.Proofs.Ytjjedbcgkljdeaa.A
structure TI (g t : List (List Int)) (a i : Nat) : Prop where
  len : t.length = g.length
  mem : ∀ b : Int, 0 ≤ b → b < (g.length : Int) → ∀ y : Int, y ∈ rd_L1 t b ↔ (∃ c : Nat, y = (c : Int) ∧ c < a ∧ b ∈ rd_L1 g (c : Int)) ∨ (y = (a : Int) ∧ b ∈ (rd_L1 g (a : Int)).take i)
  rows : ∀ b : Int, (rd_L1 t b).length ≤ 4 * a + i
theorem rd_L1_set (t : List (List Int)) (m x : Int) (r : List Int) (h0 : 0 ≤ m) (h1 : m < t.length) (hx : 0 ≤ x) : rd_L1 (t.set m.toNat r) x = if x = m then r else rd_L1 t x := by
  unfold rd_L1
  simp only [List.getD_eq_getElem?_getD, List.getElem?_set]
  by_cases h : x = m
  · subst h
    rw [if_pos rfl, if_pos rfl, if_pos (by omega)]; rfl
  · rw [if_neg (by omega), if_neg h]
theorem rd_L1_set_len (t : List (List Int)) (m : Nat) (r : List Int) (N : Nat) (h : ∀ b : Int, (rd_L1 t b).length ≤ N) (hr : r.length ≤ N) (b : Int) : (rd_L1 (t.set m r) b).length ≤ N := by
  unfold rd_L1
  simp only [List.getD_eq_getElem?_getD, List.getElem?_set]
  have := h b
  unfold rd_L1 at this
  rw [List.getD_eq_getElem?_getD] at this
  split
  · split
    · exact hr
    · exact Nat.zero_le _
  · exact this
theorem take_succ_mem {r : List Int} {i : Nat} (hi : i < r.length) (b : Int) : b ∈ r.take (i + 1) ↔ b ∈ r.take i ∨ b = r[i] := by
  rw [List.take_succ_eq_append_getElem hi, List.mem_append, List.mem_singleton]
theorem TI.zero (g : List (List Int)) : TI g (List.replicate g.length []) 0 0 := by
  have h : ∀ b : Int, rd_L1 (List.replicate g.length []) b = [] := fun b => by
    unfold rd_L1
    rw [List.getD_eq_getElem?_getD, List.getElem?_replicate]
    split <;> rfl
  refine ⟨by simp, fun b _ _ y => ?_, fun b => by rw [h]; exact Nat.zero_le _⟩
  rw [h]
  simp
theorem TI.next {g t : List (List Int)} {a i : Nat} (h : TI g t a i) (hi : (rd_L1 g (a : Int)).length = i) (h4 : i ≤ 4) : TI g t (a + 1) 0 := by
  refine ⟨h.len, fun b h0 h1 y => ?_, fun b => by have := h.rows b; omega⟩
  rw [h.mem b h0 h1 y, List.take_of_length_le (by omega)]
  simp only [List.take_zero, List.not_mem_nil, and_false, or_false]
  constructor
  · rintro (⟨c, rfl, hc, hb⟩ | ⟨rfl, hb⟩)
    · exact ⟨c, rfl, by omega, hb⟩
    · exact ⟨a, rfl, by omega, hb⟩
  · rintro ⟨c, rfl, hc, hb⟩
    by_cases e : c = a
    · subst e; exact .inr ⟨rfl, hb⟩
    · exact .inl ⟨c, rfl, by omega, hb⟩
theorem TI.same {g t : List (List Int)} {a i : Nat} (h : TI g t a i) (hi : i < (rd_L1 g (a : Int)).length) (hm : (a : Int) ∈ rd_L1 t ((rd_L1 g (a : Int))[i])) (h0 : 0 ≤ (rd_L1 g (a : Int))[i]) (h1 : (rd_L1 g (a : Int))[i] < (g.length : Int)) : TI g t a (i + 1) := by
  refine ⟨h.len, fun b hb0 hb1 y => ?_, fun b => by have := h.rows b; omega⟩
  rw [take_succ_mem hi, h.mem b hb0 hb1 y]
  constructor
  · rintro (hc | ⟨rfl, hb⟩)
    · exact .inl hc
    · exact .inr ⟨rfl, .inl hb⟩
  · rintro (hc | ⟨rfl, hb | rfl⟩)
    · exact .inl hc
    · exact .inr ⟨rfl, hb⟩
    · exact (h.mem _ h0 h1 _).1 hm
theorem TI.push {g t : List (List Int)} {a i : Nat} (h : TI g t a i) (hi : i < (rd_L1 g (a : Int)).length) (h0 : 0 ≤ (rd_L1 g (a : Int))[i]) (h1 : (rd_L1 g (a : Int))[i] < (g.length : Int)) :
    TI g (t.set ((rd_L1 g (a : Int))[i]).toNat (rd_L1 t ((rd_L1 g (a : Int))[i]) ++ [(a : Int)])) a (i + 1) := by
  have hl := h.len
  generalize hm : (rd_L1 g (a : Int))[i] = m at *
  refine ⟨by rw [List.length_set, hl], fun b hb0 hb1 y => ?_, fun b => ?_⟩
  · rw [take_succ_mem hi, hm, rd_L1_set t m b _ h0 (by omega) hb0]
    by_cases e : b = m
    · subst e
      rw [if_pos rfl, List.mem_append, List.mem_singleton, h.mem _ hb0 hb1 y]
      constructor
      · rintro ((hc | ⟨rfl, hb⟩) | rfl)
        · exact .inl hc
        · exact .inr ⟨rfl, .inl hb⟩
        · exact .inr ⟨rfl, .inr rfl⟩
      · rintro (hc | ⟨rfl, hb | _⟩)
        · exact .inl (.inl hc)
        · exact .inl (.inr ⟨rfl, hb⟩)
        · exact .inr rfl
    · rw [if_neg e, h.mem b hb0 hb1 y]
      constructor
      · rintro (hc | ⟨rfl, hb⟩)
        · exact .inl hc
        · exact .inr ⟨rfl, .inl hb⟩
      · rintro (hc | ⟨rfl, hb | hb⟩)
        · exact .inl hc
        · exact .inr ⟨rfl, hb⟩
        · exact absurd hb e
  · exact rd_L1_set_len t _ _ _ (fun b => by have := h.rows b; omega) (by rw [List.length_append, List.length_singleton]; have := h.rows m; omega) b
theorem turned_l (g : List (List Int)) (hg : Gr g) (hn : g.length ≤ 100000) (hr : ∀ r ∈ g, r.length ≤ 4) : ∀ (d a : Nat), a + d = g.length →
    (∀ t, TI g t a 0 → ∃ r, Evt (fun k => graph_turned.l0 k t g (g.length : Int) (a : Int)) r ∧ TI g r g.length 0)
  | 0, a, hd => fun t ht => by
    obtain rfl : a = g.length := by omega
    refine ⟨t, Evt.succ ?_, ht⟩
    simp only [graph_turned.l0]
    exact Evt.neg (by omega) (Evt.const t)
  | d + 1, a, hd => fun t ht => by
    have ih := turned_l g hg hn hr d (a + 1) (by omega)
    have hrl : (rd_L1 g (a : Int)).length ≤ 4 := rd_L1_len hr _
    have inner : ∀ (e i : Nat) (t : List (List Int)), i + e = (rd_L1 g (a : Int)).length → TI g t a i → ∃ r, Evt (fun k => graph_turned.l1 k t (a : Int) g (g.length : Int) (a : Int) (rd_L1 g (a : Int)) ((rd_L1 g (a : Int)).length : Int) (i : Int)) r ∧ TI g r g.length 0 := by
      intro e
      induction e with
      | zero =>
        intro i t he ht
        obtain ⟨r, h1, h2⟩ := ih t (ht.next (by omega) (by omega))
        refine ⟨r, Evt.succ ?_, h2⟩
        simp only [graph_turned.l1, wrap_succ a (by omega)]
        exact Evt.neg (by omega) h1
      | succ e ihe =>
        intro i t he ht
        have hi : i < (rd_L1 g (a : Int)).length := by omega
        have hx := hg.row (a : Int) ((rd_L1 g (a : Int))[i]) (List.getElem_mem hi)
        have hro := ht.rows ((rd_L1 g (a : Int))[i])
        have hl := ht.len
        have hpush := fun hh => ihe (i + 1) _ hh (ht.push hi hx.1 hx.2)
        have hsame := fun hm => ihe (i + 1) t (by omega) (ht.same hi hm hx.1 hx.2)
        have hm0 : rd (rd_L1 g (a : Int)) (i : Int) = (rd_L1 g (a : Int))[i] := rd_nat _ _ hi
        generalize (rd_L1 g (a : Int))[i] = m at *
        by_cases h0 : (rd_L1 t m).length = 0
        · obtain ⟨r, h1, h2⟩ := hpush (by omega)
          refine ⟨r, Evt.succ ?_, h2⟩
          simp only [graph_turned.l1, hm0, wrap_succ i (by omega)]
          exact Evt.pos (by omega) (Evt.pos (by omega) (Evt.pos (by omega) (Evt.pos hx.1 (Evt.pos (by omega) (Evt.pos (by omega) (Evt.pos (by omega) h1))))))
        · have hw : wrap64 (((rd_L1 t m).length : Int) - 1) = (((rd_L1 t m).length - 1 : Nat) : Int) := by rw [wrap64_id (by omega) (by omega)]; omega
          by_cases hlast : rd (rd_L1 t m) (((rd_L1 t m).length - 1 : Nat) : Int) = (a : Int)
          · obtain ⟨r, h1, h2⟩ := hsame (by
              rw [rd_nat _ _ (by omega)] at hlast
              rw [← hlast]; exact List.getElem_mem _)
            refine ⟨r, Evt.succ ?_, h2⟩
            simp only [graph_turned.l1, hm0, wrap_succ i (by omega), hw]
            exact Evt.pos (by omega) (Evt.pos (by omega) (Evt.pos (by omega) (Evt.pos hx.1 (Evt.pos (by omega) (Evt.neg (by omega) (Evt.pos (by omega) (Evt.pos (by omega) (Evt.pos hlast h1))))))))
          · obtain ⟨r, h1, h2⟩ := hpush (by omega)
            refine ⟨r, Evt.succ ?_, h2⟩
            simp only [graph_turned.l1, hm0, wrap_succ i (by omega), hw]
            exact Evt.pos (by omega) (Evt.pos (by omega) (Evt.pos (by omega) (Evt.pos hx.1 (Evt.pos (by omega) (Evt.neg (by omega) (Evt.pos (by omega) (Evt.pos (by omega) (Evt.neg hlast (Evt.pos (by omega) h1)))))))))
    obtain ⟨r, h1, h2⟩ := inner (rd_L1 g (a : Int)).length 0 t (by omega) ht
    refine ⟨r, Evt.succ ?_, h2⟩
    simp only [graph_turned.l0]
    exact Evt.pos (by omega) (Evt.pos (by omega) (Evt.pos (by omega) h1))
structure TurnedOf (g t : List (List Int)) : Prop where
  len : t.length = g.length
  mem : ∀ b : Int, 0 ≤ b → b < (g.length : Int) → ∀ y : Int, y ∈ rd_L1 t b ↔ 0 ≤ y ∧ y < (g.length : Int) ∧ b ∈ rd_L1 g y
  rows : ∀ b : Int, (rd_L1 t b).length ≤ 4 * g.length
theorem TI.done {g t : List (List Int)} (h : TI g t g.length 0) : TurnedOf g t := by
  refine ⟨h.len, fun b h0 h1 y => ?_, fun b => by simpa using h.rows b⟩
  rw [h.mem b h0 h1 y]
  simp only [List.take_zero, List.not_mem_nil, and_false, or_false]
  constructor
  · rintro ⟨c, rfl, hc, hb⟩
    exact ⟨by omega, by omega, hb⟩
  · rintro ⟨hy0, hy1, hb⟩
    obtain ⟨c, rfl⟩ := Int.eq_ofNat_of_zero_le hy0
    exact ⟨c, rfl, by omega, hb⟩
theorem TurnedOf.gr {g t : List (List Int)} (h : TurnedOf g t) : Gr t := by
  intro r hr y hy
  obtain ⟨i, hi, rfl⟩ := List.mem_iff_getElem.1 hr
  have hl := h.len
  have h2 := (h.mem (i : Int) (by omega) (by omega) y).1 (by rw [rd_L1_nat t i hi]; exact hy)
  rw [hl]; exact ⟨h2.1, h2.2.1⟩
theorem turned_ev (g : List (List Int)) (hg : Gr g) (hn : g.length ≤ 100000) (hr : ∀ r ∈ g, r.length ≤ 4) : ∃ t, Evt (fun k => graph_turned.f k g) t ∧ TurnedOf g t := by
  obtain ⟨r, h1, h2⟩ := turned_l g hg hn hr g.length 0 (by omega) _ (TI.zero g)
  refine ⟨r, ?_, h2.done⟩
  unfold graph_turned.f
  exact Evt.pos (by omega) (Evt.pos (by omega) (by simpa using h1))
theorem rturned_l (g : List (List Int)) (hg : Gr g) (hn : g.length ≤ 100000) (hr : ∀ r ∈ g, r.length ≤ 4) : ∀ (d a : Nat), a + d = g.length →
    (∀ t, TI g t a 0 → ∃ r, Evt (fun k => drawloomref07_Turned.l0 k g t (a : Int)) r ∧ TI g r g.length 0)
  | 0, a, hd => fun t ht => by
    obtain rfl : a = g.length := by omega
    refine ⟨t, Evt.succ ?_, ht⟩
    simp only [drawloomref07_Turned.l0]
    exact Evt.neg (by omega) (Evt.const t)
  | d + 1, a, hd => fun t ht => by
    have ih := rturned_l g hg hn hr d (a + 1) (by omega)
    have hrl : (rd_L1 g (a : Int)).length ≤ 4 := rd_L1_len hr _
    have inner : ∀ (e i : Nat) (t : List (List Int)), i + e = (rd_L1 g (a : Int)).length → TI g t a i → ∃ r, Evt (fun k => drawloomref07_Turned.l1 k g t (a : Int) (i : Int)) r ∧ TI g r g.length 0 := by
      intro e
      induction e with
      | zero =>
        intro i t he ht
        obtain ⟨r, h1, h2⟩ := ih t (ht.next (by omega) (by omega))
        refine ⟨r, Evt.succ ?_, h2⟩
        simp only [drawloomref07_Turned.l1, wrap_succ a (by omega)]
        exact Evt.pos (by omega) (Evt.pos (by omega) (Evt.neg (by omega) h1))
      | succ e ihe =>
        intro i t he ht
        have hi : i < (rd_L1 g (a : Int)).length := by omega
        have hx := hg.row (a : Int) ((rd_L1 g (a : Int))[i]) (List.getElem_mem hi)
        have hro := ht.rows ((rd_L1 g (a : Int))[i])
        have hl := ht.len
        have hpush := fun hh => ihe (i + 1) _ hh (ht.push hi hx.1 hx.2)
        have hm0 : rd (rd_L1 g (a : Int)) (i : Int) = (rd_L1 g (a : Int))[i] := rd_nat _ _ hi
        generalize (rd_L1 g (a : Int))[i] = m at *
        obtain ⟨r, h1, h2⟩ := hpush (by omega)
        refine ⟨r, Evt.succ ?_, h2⟩
        simp only [drawloomref07_Turned.l1, hm0, wrap_succ i (by omega)]
        exact Evt.pos (by omega) (Evt.pos (by omega) (Evt.pos (by omega) (Evt.pos (by omega) (Evt.pos hx.1 (Evt.pos (by omega) (Evt.pos (by omega) h1))))))
    obtain ⟨r, h1, h2⟩ := inner (rd_L1 g (a : Int)).length 0 t (by omega) ht
    refine ⟨r, Evt.succ ?_, h2⟩
    simp only [drawloomref07_Turned.l0]
    exact Evt.pos (by omega) h1
theorem rturned_ev (g : List (List Int)) (hg : Gr g) (hn : g.length ≤ 100000) (hr : ∀ r ∈ g, r.length ≤ 4) : ∃ t, Evt (fun k => drawloomref07_Turned.f k g) t ∧ TurnedOf g t := by
  obtain ⟨r, h1, h2⟩ := rturned_l g hg hn hr g.length 0 (by omega) _ (TI.zero g)
  refine ⟨r, ?_, h2.done⟩
  unfold drawloomref07_Turned.f
  exact Evt.pos (by omega) (Evt.pos (by omega) (by simpa using h1))
end Go.Proofs.Ytjjedbcgkljdeaa.M
end
section
namespace Go.Proofs.Ytjjedbcgkljdeaa.M
open Go.RowKit Go.Proofs.YtjjedbcgkljdeaaW.PrintWords Go.Proofs.YtjjedbcgkljdeaaW.PrintLast Go.Proofs.YtjjedbcgkljdeaaW.PrintMore Go.Proofs.Ytjjedbcgkljdeaa.A
structure VEnd (g : List (List Int)) (s : List Bool) (l : List Int) (m : Nat) (l' : List Int) (s' : List Bool) : Prop where
  len : s'.length = g.length
  sum : l'.length + s'.count false + m = l.length + s.count false + 1
  le : s'.count false ≤ s.count false
theorem visit_ex (g : List (List Int)) (hg : Gr g) (hn : g.length ≤ 100000) (hr : ∀ r ∈ g, r.length ≤ 4) : ∀ (c : Nat) (n : Int) (s : List Bool) (l : List Int), s.length = g.length → s.count false ≤ c → 0 ≤ n → n < (g.length : Int) → rdOf false s n = false → l.length + s.count false ≤ g.length →
    ∃ l' s', Evt (fun k => drawloomref07_visit.f k g n s l) (l', s') ∧ VEnd g s l 1 l' s'
  | c, n, s, l, hs, hc, h0, h1, hf, hl => by
    have hlt : n.toNat < s.length := by omega
    have hf2 : s[n.toNat] = false := by
      have : rdOf false s n = s[n.toNat] := by simp [rdOf, hlt]
      rw [← this]; exact hf
    have hcs := count_set_true s n.toNat hlt hf2
    have hrl : (rd_L1 g n).length ≤ 4 := rd_L1_len hr _
    have inner : ∀ (d j : Nat) (s1 : List Bool) (l1 : List Int), j + d = (rd_L1 g n).length → s1.length = g.length → s1.count false + 1 ≤ s.count false → l1.length + 1 + s1.count false ≤ g.length →
        ∃ l' s', Evt (fun k => drawloomref07_visit.l0 k g n s1 l1 (j : Int)) (l', s') ∧ VEnd g s1 l1 0 l' s' := by
      intro d
      induction d with
      | zero =>
        intro j s1 l1 hd hs1 hc1 hl1
        refine ⟨[n] ++ l1, s1, Evt.succ ?_, hs1, by simp; omega, Nat.le_refl _⟩
        simp only [drawloomref07_visit.l0]
        refine Evt.pos h0 (Evt.pos h1 (Evt.neg (by omega) ?_))
        simp only [Option.bind_some]
        exact Evt.pos (by simp; omega) (Evt.const _)
      | succ d ih =>
        intro j s1 l1 hd hs1 hc1 hl1
        have hj : j < (rd_L1 g n).length := by omega
        have hx := hg.row n ((rd_L1 g n)[j]) (List.getElem_mem hj)
        have hm : rd (rd_L1 g n) (j : Int) = (rd_L1 g n)[j] := rd_nat _ _ hj
        generalize (rd_L1 g n)[j] = m at *
        by_cases hsm : rdOf false s1 m = true
        · obtain ⟨l', s', h2, h3⟩ := ih (j + 1) s1 l1 (by omega) hs1 hc1 hl1
          refine ⟨l', s', Evt.succ ?_, h3⟩
          simp only [drawloomref07_visit.l0, hm, wrap_succ j (by omega)]
          exact Evt.pos h0 (Evt.pos h1 (Evt.pos (by omega) (Evt.pos (by omega) (Evt.pos hx.1 (Evt.pos (by omega) (Evt.pos hsm h2))))))
        · obtain ⟨l2, s2, h2, h3⟩ := visit_ex g hg hn hr (c - 1) m s1 l1 hs1 (by omega) hx.1 hx.2 (Bool.eq_false_iff.2 hsm) (by omega)
          have e1 := h3.sum
          have e2 := h3.le
          obtain ⟨l', s', h4, h5⟩ := ih (j + 1) s2 l2 (by omega) h3.len (by omega) (by omega)
          have e3 := h5.sum
          have e4 := h5.le
          refine ⟨l', s', Evt.succ ?_, h5.len, by omega, by omega⟩
          simp only [drawloomref07_visit.l0, hm, wrap_succ j (by omega)]
          refine Evt.pos h0 (Evt.pos h1 (Evt.pos (by omega) (Evt.pos (by omega) (Evt.pos hx.1 (Evt.pos (by omega) (Evt.neg hsm ?_))))))
          exact Evt.bind h2 h4
    obtain ⟨l', s', h2, h3⟩ := inner (rd_L1 g n).length 0 (s.set n.toNat true) l (by omega) (by rw [List.length_set, hs]) (by omega) (by omega)
    have e1 := h3.sum
    have e2 := h3.le
    refine ⟨l', s', Evt.succ ?_, h3.len, by omega, by omega⟩
    simp only [drawloomref07_visit.f]
    exact Evt.pos h0 (Evt.pos (by omega) h2)
  termination_by _ _ s _ => s.count false
  decreasing_by omega
theorem getD_last (t : List (Int × Int)) (p : Int × Int) : (t ++ [p]).getD ((t ++ [p]).length - 1) (0, 0) = p := by
  rw [List.getD_eq_getElem?_getD]; simp
theorem take_last (t : List (Int × Int)) (p : Int × Int) : (t ++ [p]).take ((t ++ [p]).length - 1) = t := by simp
theorem sim (g : List (List Int)) (hr : ∀ r ∈ g, r.length ≤ 4) (hn : g.length ≤ 100000) : ∀ k,
    (∀ n s l l' s', drawloomref07_visit.f k g n s l = some (l', s') → n < (g.length : Int) → s.length = g.length → rdOf false s n = false → ∃ P, l' = P.reverse ++ l ∧ s'.length = g.length ∧ s'.count false ≤ s.count false ∧ ∀ t rest, t.length + s.count false ≤ g.length → Evt (fun k => poF g k s' t) rest → Evt (fun k => poF g k (s.set n.toNat true) (t ++ [(n, 0)])) (P ++ rest)) ∧
    (∀ n s l (j : Nat) l' s', drawloomref07_visit.l0 k g n s l (j : Int) = some (l', s') → s.length = g.length → j ≤ (rd_L1 g n).length → ∃ P, l' = P.reverse ++ l ∧ s'.length = g.length ∧ s'.count false ≤ s.count false ∧ ∀ t rest, t.length + 1 + s.count false ≤ g.length → Evt (fun k => poF g k s' t) rest → Evt (fun k => poF g k s (t ++ [(n, (j : Int))])) (P ++ rest))
  | 0 => ⟨fun n s l l' s' h => by simp [drawloomref07_visit.f] at h, fun n s l j l' s' h => by simp [drawloomref07_visit.l0] at h⟩
  | k + 1 => by
    obtain ⟨ihA, ihB⟩ := sim g hr hn k
    constructor
    · intro n s l l' s' h hn1 hs hf
      rw [drawloomref07_visit.f] at h
      split at h
      case isFalse => cases h
      split at h
      case isFalse => cases h
      next h0 h1 =>
      have hlt : n.toNat < s.length := by omega
      have hf2 : s[n.toNat] = false := by
        have : rdOf false s n = s[n.toNat] := by simp [rdOf, hlt]
        rw [← this]; exact hf
      have hcs := count_set_true s n.toNat hlt hf2
      obtain ⟨P, e1, e2, e3, e4⟩ := ihB n (s.set n.toNat true) l 0 l' s' (by simpa using h) (by rw [List.length_set, hs]) (Nat.zero_le _)
      refine ⟨P, e1, e2, by omega, fun t rest ht hre => ?_⟩
      exact e4 t rest (by omega) hre
    · intro n s l j l' s' h hs hj
      have hrl : (rd_L1 g n).length ≤ 4 := rd_L1_len hr _
      rw [drawloomref07_visit.l0] at h
      split at h
      case isFalse => cases h
      split at h
      case isFalse => cases h
      next h0 h1 =>
      split at h
      · next hlt =>
        split at h
        case isFalse => cases h
        split at h
        case isFalse => cases h
        split at h
        case isFalse => cases h
        next hm0 hm1 =>
        rw [wrap_succ j (by omega)] at h
        have pop : ∀ (t : List (Int × Int)) (r2 : List Int), (rdOf false s (rd (rd_L1 g n) (j : Int)) = true → Evt (fun k => poF g k s (t ++ [(n, ((j + 1 : Nat) : Int))])) r2) →
            (rdOf false s (rd (rd_L1 g n) (j : Int)) ≠ true → t.length ≤ 200000 ∧ Evt (fun k => poF g k (s.set (rd (rd_L1 g n) (j : Int)).toNat true) ((t ++ [(n, ((j + 1 : Nat) : Int))]) ++ [(rd (rd_L1 g n) (j : Int), 0)])) r2) →
            Evt (fun k => poF g k s (t ++ [(n, (j : Int))])) r2 := by
          intro t r2 ha hb
          refine Evt.succ ?_
          simp only [poF, getD_last, take_last]
          refine Evt.neg (by simp) (Evt.pos h0 (Evt.pos h1 (Evt.neg (by omega) (Evt.pos (by omega) (Evt.pos hlt (Evt.pos hm0 (Evt.pos hm1 ?_)))))))
          by_cases hs2 : rdOf false s (rd (rd_L1 g n) (j : Int)) = true
          · exact Evt.pos hs2 (by simpa using ha hs2)
          · obtain ⟨h5, h6⟩ := hb hs2
            exact Evt.neg hs2 (Evt.pos (by simp; omega) (by simpa using h6))
        split at h
        · next hs2 =>
          obtain ⟨P, e1, e2, e3, e4⟩ := ihB n s l (j + 1) l' s' h hs (by omega)
          exact ⟨P, e1, e2, e3, fun t rest ht hre => pop t _ (fun _ => e4 t rest ht hre) (fun h => absurd hs2 h)⟩
        · next hs2 =>
          obtain ⟨⟨l1, s1⟩, h5, h6⟩ := Option.bind_eq_some_iff.mp h
          obtain ⟨P1, e1, e2, e3, e4⟩ := ihA _ s l l1 s1 h5 (by omega) hs (Bool.eq_false_iff.2 hs2)
          obtain ⟨P2, f1, f2, f3, f4⟩ := ihB n s1 l1 (j + 1) l' s' h6 e2 (by omega)
          refine ⟨P1 ++ P2, by rw [f1, e1]; simp, f2, by omega, fun t rest ht hre => pop t _ (fun h => absurd h hs2) (fun _ => ⟨by omega, ?_⟩)⟩
          rw [List.append_assoc P1 P2 rest]
          exact e4 (t ++ [(n, ((j + 1 : Nat) : Int))]) (P2 ++ rest) (by simp; omega) (f4 t rest (by omega) hre)
      · next hlt =>
        simp only [Option.bind_some] at h
        split at h
        case isFalse => cases h
        simp only [Option.some.injEq, Prod.mk.injEq] at h
        obtain ⟨rfl, rfl⟩ := h
        refine ⟨[n], by simp, hs, Nat.le_refl _, fun t rest ht hre => Evt.succ ?_⟩
        simp only [poF, getD_last, take_last]
        refine Evt.neg (by simp) (Evt.pos h0 (Evt.pos h1 (Evt.pos (by omega) ?_)))
        exact Evt.bind hre (Evt.const _)
theorem rev_l0 (o : List Int) (ho : o.length ≤ 1000000) : ∀ (d i : Nat) (xs : List Int), 2 * i + d = o.length → xs.length = o.length → (∀ p (hp : p < o.length) (hp2 : p < xs.length), xs[p] = if p < i ∨ o.length ≤ p + i then o[o.length - 1 - p] else o[p]) →
    Evt (fun k => Go.Proofs.Ytjjedbcgkljdeaa.B.slices_Reverse_int_int.l0 k xs (i : Int) ((o.length : Int) - 1 - (i : Int))) o.reverse
  | d, i, xs, hd, hl, hx => by
    refine Evt.succ ?_
    simp only [Go.Proofs.Ytjjedbcgkljdeaa.B.slices_Reverse_int_int.l0]
    by_cases hlt : (i : Int) < (o.length : Int) - 1 - (i : Int)
    · have hj : (o.length : Int) - 1 - (i : Int) = ((o.length - 1 - i : Nat) : Int) := by omega
      rw [hj]
      have h1 : rd xs ((o.length - 1 - i : Nat) : Int) = o[o.length - 1 - i] := by
        rw [rd_nat _ _ (by omega), hx _ (by omega) (by omega), if_neg (by omega)]
      have h2 : rd xs (i : Int) = o[i] := by
        rw [rd_nat _ _ (by omega), hx _ (by omega) (by omega), if_neg (by omega)]
      have hw : wrap64 (((o.length - 1 - i : Nat) : Int) - 1) = (o.length : Int) - 1 - ((i + 1 : Nat) : Int) := by rw [wrap64_id (by omega) (by omega)]; omega
      rw [hj] at hlt
      simp only [h1, h2, wrap_succ i (by omega), hw, Int.toNat_natCast]
      refine Evt.pos hlt (Evt.pos (by omega) (Evt.pos (by omega) (Evt.pos (by omega) (Evt.pos (by omega) ?_))))
      refine rev_l0 o ho (d - 2) (i + 1) _ (by omega) (by simp [hl]) ?_
      intro p hp hp2
      rw [List.getElem_set]
      by_cases e1 : o.length - 1 - i = p
      · rw [if_pos e1, if_pos (by omega)]
        congr 1
        omega
      · rw [if_neg e1, List.getElem_set]
        by_cases e2 : i = p
        · rw [if_pos e2, if_pos (by omega)]
          congr 1
          omega
        · rw [if_neg e2, hx p hp (by omega)]
          by_cases e3 : p < i ∨ o.length ≤ p + i
          · rw [if_pos e3, if_pos (by omega)]
          · rw [if_neg e3, if_neg (by omega)]
    · refine Evt.neg hlt ?_
      have : xs = o.reverse := by
        apply List.ext_getElem (by simp [hl])
        intro p h1 h2
        rw [List.getElem_reverse, hx p (by omega) h1]
        by_cases e : p < i ∨ o.length ≤ p + i
        · rw [if_pos e]
        · rw [if_neg e]
          congr 1
          omega
      rw [this]
      exact Evt.const _
  termination_by d => d
  decreasing_by omega
theorem rev_ev (o : List Int) (ho : o.length ≤ 1000000) : Evt (fun k => Go.Proofs.Ytjjedbcgkljdeaa.B.slices_Reverse_int_int.f k o) o.reverse := by
  unfold Go.Proofs.Ytjjedbcgkljdeaa.B.slices_Reverse_int_int.f
  rw [wrap64_id (by omega) (by omega)]
  have h := rev_l0 o ho o.length 0 o (by omega) rfl (fun p hp hp2 => by
    by_cases e : p < 0 ∨ o.length ≤ p + 0
    · omega
    · rw [if_neg e])
  simpa using h
theorem order_ev (g : List (List Int)) (hg : Gr g) (h1 : 1 ≤ g.length) (hn : g.length ≤ 100000) (hr : ∀ r ∈ g, r.length ≤ 4) : ∃ P, Evt (fun k => collectF k g 0) P ∧ P.length ≤ g.length ∧ Evt (fun k => drawloomref07_Order.f k g) P.reverse := by
  have hlen : (List.replicate g.length false).length = g.length := by simp
  have hf : rdOf false (List.replicate g.length false) (0 : Int) = false := by
    unfold rdOf
    rw [List.getD_eq_getElem?_getD, List.getElem?_replicate]
    split <;> rfl
  obtain ⟨l', s', hv, he⟩ := visit_ex g hg hn hr _ 0 (List.replicate g.length false) [] hlen (Nat.le_refl _) (by omega) (by omega) hf (by simp)
  obtain ⟨k, hk⟩ := hv.get
  obtain ⟨P, e1, e2, e3, e4⟩ := (sim g hr hn k).1 0 _ [] l' s' hk (by omega) hlen hf
  have e5 := e4 [] [] (by simp) (Evt.succ (by simp only [poF]; exact Evt.pos rfl (Evt.const [])))
  rw [List.append_nil] at e1 e5
  have hP : P.length ≤ g.length := by
    have := he.sum
    rw [e1] at this
    simp at this
    omega
  refine ⟨P, ?_, hP, ?_⟩
  · unfold collectF
    refine Evt.pos (by omega) (Evt.pos (by omega) (Evt.pos (by omega) ?_))
    refine Evt.bind e5 ?_
    exact Evt.pos (by omega) (Evt.const P)
  · unfold drawloomref07_Order.f
    refine Evt.pos (by omega) (Evt.pos (by omega) ?_)
    simp only [Int.toNat_natCast]
    refine Evt.bind hv ?_
    rw [← e1]
    exact Evt.const _
end Go.Proofs.Ytjjedbcgkljdeaa.M
end
section
namespace Go.Proofs.Ytjjedbcgkljdeaa.M
open Go.RowKit Go.Proofs.YtjjedbcgkljdeaaW.PrintWords Go.Proofs.YtjjedbcgkljdeaaW.PrintLast Go.Proofs.YtjjedbcgkljdeaaW.PrintMore Go.Proofs.Ytjjedbcgkljdeaa.A
theorem validB_true {g : List (List Int)} (h : validB g = true) : 1 ≤ g.length ∧ Gr g ∧ ∀ r ∈ g, r.length ≤ 2 := by
  unfold validB rowB inB at h
  simp only [Bool.and_eq_true, decide_eq_true_eq, List.all_eq_true] at h
  exact ⟨h.1, fun r hr x hx => (h.2.2 r hr).2 x hx, fun r hr => (h.2.2 r hr).1⟩
theorem reached_ev (g : List (List Int)) (h1 : 1 ≤ g.length) (hg : Gr g) (hn : g.length ≤ 40) (hr : ∀ r ∈ g, r.length ≤ 4) :
    ∃ r, Evt (fun k => graph_fromOpen.f k g [0]) r ∧ Evt (fun k => drawloomref07_Reached.f k g) r ∧ r.length = g.length ∧ ∀ x : Int, 0 ≤ x → (rdOf false r x = true ↔ Rch g (fun _ => false) [0] x) := by
  have hl : InR g.length [0] := fun x hx => by obtain rfl := List.mem_singleton.1 hx; omega
  obtain ⟨a, ha, ha1, ha2⟩ := fromF_ev (fun _ => false) g [0] hg hl (by omega)
  obtain ⟨b, hb, hb1, hb2⟩ := refFrom_ev g [0] (-1) hg hl (by omega) (fun x => by have := rd_L1_len hr x; omega) (by simp)
  have e : a = b := by
    refine ext_bool (by omega) fun x hx hxl => ?_
    rw [ha2 x hx, hb2 x hx]
    have hne : ∀ y : Int, Rch g (fun _ => false) [0] y → Rch g (fun n => n == -1) [0] y := fun y h => by
      induction h with
      | base h _ => exact Rch.base h (by have := (hl _ h).1; simp; omega)
      | step _ h _ ih => exact Rch.step ih h (by have := (hg.row _ _ h).1; simp; omega)
    have hne2 : ∀ y : Int, Rch g (fun n => n == -1) [0] y → Rch g (fun _ => false) [0] y := fun y h => by
      induction h with
      | base h _ => exact Rch.base h rfl
      | step _ h _ ih => exact Rch.step ih h rfl
    exact ⟨hne x, hne2 x⟩
  refine ⟨a, ha, ?_, ha1, ha2⟩
  unfold drawloomref07_Reached.f
  rw [e]
  exact Evt.bind hb (Evt.const b)
theorem Rch.congr {g g' : List (List Int)} {P P' : Int → Bool} {l : List Int} (hg : ∀ a x, 0 ≤ a → a < (g.length : Int) → x ∈ rd_L1 g a → x ∈ rd_L1 g' a) (hr : ∀ x, Rch g P l x → 0 ≤ x ∧ x < (g.length : Int)) (hP : ∀ x : Int, 0 ≤ x → P x = false → P' x = false) {x : Int} (h : Rch g P l x) : Rch g' P' l x := by
  induction h with
  | base h1 h2 => exact Rch.base h1 (hP _ (hr _ (Rch.base h1 h2)).1 h2)
  | step h1 h2 h3 ih => exact Rch.step ih (hg _ _ (hr _ h1).1 (hr _ h1).2 h2) (hP _ (hr _ (Rch.step h1 h2 h3)).1 h3)
theorem exits_inR (g : List (List Int)) : InR g.length (exitsL g 0) := by
  intro x hx
  unfold exitsL at hx
  rw [List.drop_zero, List.mem_filterMap] at hx
  obtain ⟨a, ha, h2⟩ := hx
  have := List.mem_range.1 ha
  split at h2
  · obtain rfl := Option.some.inj h2; omega
  · cases h2
theorem exits_len (g : List (List Int)) : (exitsL g 0).length ≤ g.length := by
  unfold exitsL
  refine Nat.le_trans (List.length_filterMap_le _ _) ?_
  simp
theorem ending_ev (g : List (List Int)) (hg : Gr g) (hn : g.length ≤ 40) (hr : ∀ r ∈ g, r.length ≤ 4) :
    ∃ t r, Evt (fun k => graph_turned.f k g) t ∧ Evt (fun k => graph_fromOpen.f k t (exitsL g 0)) r ∧ Evt (fun k => drawloomref07_Ending.f k g) r ∧ r.length = g.length ∧ TurnedOf g t ∧ ∀ x : Int, 0 ≤ x → (rdOf false r x = true ↔ Rch t (fun _ => false) (exitsL g 0) x) := by
  obtain ⟨t, ht, ht1⟩ := turned_ev g hg (by omega) hr
  obtain ⟨u, hu, hu1⟩ := rturned_ev g hg (by omega) hr
  have hlt := ht1.len
  have hlu := hu1.len
  have hie := exits_inR g
  obtain ⟨a, ha, ha1, ha2⟩ := fromF_ev (fun _ => false) t (exitsL g 0) ht1.gr (by rw [hlt]; exact hie) (by omega)
  obtain ⟨b, hb, hb1, hb2⟩ := refFrom_ev u (exitsL g 0) (-1) hu1.gr (by rw [hlu]; exact hie) (by omega) (fun x => by have := hu1.rows x; omega) (by have := exits_len g; omega)
  have e : a = b := by
    refine ext_bool (by omega) fun x hx hxl => ?_
    rw [ha2 x hx, hb2 x hx]
    constructor
    · refine Rch.congr (fun c y hc0 hc1 hy => ?_) (fun y hy => hy.range ht1.gr (by rw [hlt]; exact hie)) (fun y hy _ => by simp; omega)
      rw [hlt] at hc1
      exact (hu1.mem c hc0 hc1 y).2 ((ht1.mem c hc0 hc1 y).1 hy)
    · refine Rch.congr (fun c y hc0 hc1 hy => ?_) (fun y hy => hy.range hu1.gr (by rw [hlu]; exact hie)) (fun y hy _ => rfl)
      rw [hlu] at hc1
      exact (ht1.mem c hc0 hc1 y).2 ((hu1.mem c hc0 hc1 y).1 hy)
  refine ⟨t, a, ht, ha, ?_, by omega, ht1, ha2⟩
  unfold drawloomref07_Ending.f
  rw [e]
  exact Evt.bind hu (Evt.bind (rexits_ev g (by omega)) (Evt.bind hb (Evt.const b)))
end Go.Proofs.Ytjjedbcgkljdeaa.M
end
section
namespace Go.Proofs.Ytjjedbcgkljdeaa.M
open Go.RowKit Go.Proofs.Ytjjedbcgkljdeaa.D
theorem awake_ev : Evt (fun k => drawloomlaw07_awake.f k) true := Evt.of_mono drawloomlaw07_awake.mono (k := 400) (by kernel_rfl)
end Go.Proofs.Ytjjedbcgkljdeaa.M
end
section
namespace Go.Proofs.Ytjjedbcgkljdeaa.L
open Go.RowKit Go.Proofs.YtjjedbcgkljdeaaW.PrintWords Go.Proofs.YtjjedbcgkljdeaaW.PrintLast Go.Proofs.YtjjedbcgkljdeaaW.PrintMore Go.Proofs.Ytjjedbcgkljdeaa.A Go.Proofs.Ytjjedbcgkljdeaa.D Go.Proofs.Ytjjedbcgkljdeaa.M Go.Proofs.Ytjjedbcgkljdeaa.B
theorem Pure.GraphReaches (g : List (List Int)) (_hm : g.length ≤ maxLen) : ∃ k, drawloomlaw07_GraphReaches.f k g = some true := by
  refine Evt.get ?_
  unfold drawloomlaw07_GraphReaches.f
  refine Evt.bind (wide_ev g) ?_
  by_cases hw : wideB g = true
  · exact Evt.pos hw (Evt.bind awake_ev (Evt.const true))
  refine Evt.neg hw ?_
  obtain ⟨hn, hr⟩ := wideB_false (Bool.eq_false_iff.2 hw)
  have hr' : ∀ r ∈ g, r.length ≤ 100000 := fun r h => Nat.le_trans (hr r h) (by omega)
  by_cases hv : validB g = true
  · obtain ⟨h1, hg, _⟩ := validB_true hv
    have hve := valid_ev g (by omega) hr'
    rw [hv] at hve
    obtain ⟨a, ha, ha', ha1, _⟩ := reached_ev g h1 hg hn hr
    obtain ⟨t, b, ht, hb, hb', hb1, _⟩ := ending_ev g hg hn hr
    obtain ⟨P, hp, hp1, hp'⟩ := order_ev g hg h1 (by omega) hr
    have hc := code_ev g (by omega) hr'
    rw [if_pos hv] at hc
    refine Evt.bind (a := (a, 0)) ?_ (Evt.bind (a := (b, 0)) ?_ (Evt.bind (a := (P.reverse, 0)) ?_ (Evt.bind hc (Evt.pos rfl (Evt.pos rfl (Evt.pos rfl (Evt.pos rfl ?_)))))))
    · unfold graph_Reachable.f
      exact Evt.bind hve (Evt.pos rfl (Evt.bind ha (Evt.const _)))
    · unfold graph_Ends.f
      exact Evt.bind hve (Evt.pos rfl (Evt.bind ht (Evt.bind (exits_ev g (by omega)) (Evt.bind hb (Evt.const _)))))
    · unfold graph_Order.f
      exact Evt.bind hve (Evt.pos rfl (Evt.bind hp (Evt.bind (rev_ev P (by omega)) (Evt.const _))))
    · exact Evt.bind ha' (Evt.bind (sameBools_ev a (by omega)) (Evt.pos rfl (Evt.bind hb' (Evt.bind (sameBools_ev b (by omega)) (Evt.pos rfl (Evt.bind hp' (Evt.bind (sameInts_ev P.reverse (by rw [List.length_reverse]; omega)) (Evt.pos rfl (Evt.bind awake_ev (Evt.const true))))))))))
  · have hve := valid_ev g (by omega) hr'
    rw [Bool.eq_false_iff.2 hv] at hve
    have hc := code_ev g (by omega) hr'
    rw [if_neg hv] at hc
    refine Evt.bind (a := ([], 1)) ?_ (Evt.bind (a := ([], 1)) ?_ (Evt.bind (a := ([], 1)) ?_ (Evt.bind hc (Evt.neg (by decide) (Evt.pos rfl (Evt.pos rfl (Evt.pos rfl (Evt.pos (by simp [wrap64]) (Evt.bind awake_ev (Evt.const true))))))))))
    · unfold graph_Reachable.f
      exact Evt.bind hve (Evt.neg (by decide) (Evt.const _))
    · unfold graph_Ends.f
      exact Evt.bind hve (Evt.neg (by decide) (Evt.const _))
    · unfold graph_Order.f
      exact Evt.bind hve (Evt.neg (by decide) (Evt.const _))
end Go.Proofs.Ytjjedbcgkljdeaa.L
end
