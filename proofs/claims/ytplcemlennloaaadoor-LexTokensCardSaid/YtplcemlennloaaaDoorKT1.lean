/- Texts of this claim, cut down to what its theorem uses and laid end to end (wip/shake.py). -/
import Derived.ArgAppend
import Derived.Below
import Derived.BigQuiet
import Derived.ChangeOld
import Derived.ChangeVars
import Derived.Deep.AppendLies
import Derived.Deep.CutBlock
import Derived.Deep.DeepCutAuto
import Derived.Deep.Draws
import Derived.Deep.LoopGhost
import Derived.Deep.OwnRows
import Derived.Deep.QuietTactic
import Derived.Deep.RegionHeld3
import Derived.Deep.Slices
import Derived.KernelRfl
import Derived.LaidLaws
import Derived.LaidMore
import Derived.Laws.BitsLemmas
import Derived.Laws.BytesArg
import Derived.Laws.IdiomCopy
import Derived.Laws.MakeOwn
import Derived.Laws.OwnMore
import Derived.Laws.Rows
import Derived.Laws.Slices
import Derived.Laws.StructEq
import Derived.Lay
import Derived.Lib.AppendStr
import Derived.Lib.ConvBytes
import Derived.Lib.LaidTab
import Derived.Maps.AppendAt
import Derived.Maps.OwnOps
import Derived.Maps.OwnSet
import Derived.OpenShut
import Derived.OrdersHeld
import Derived.OwnWalk
import Derived.ProofKit
import Derived.RowKit
import Derived.RowKit3
import Derived.SevenTiedAt
import Derived.Shelf.Strings.BuilderK
import Derived.Shelf.Strings.Fields
import Derived.ShutString
import Derived.SizedLaws
import Derived.Stop.Joined
import Derived.StringKeys
import Derived.Tactics
import Derived.Test.YtplcemlennloaaaDoorCards
import Derived.Test.YtplcemlennloaaaDoorProg
import Derived.Test.YtplcemlennloaaaDoorRows
import Derived.Test.YtplcemlennloaaaDoorTie
import Derived.WalkKit
import Derived.WideLaws
import Derived.Test.YtplcemlennloaaaDoorKT0
section
namespace Go.Proofs.YtplcemlennloaaaDoor.A
open Go.RowKit Go.Proofs.YtplcemlennloaaaDoorW.PrintWords Go.Proofs.YtplcemlennloaaaDoorW.PrintLast Go.Proofs.YtplcemlennloaaaDoorW.PrintMore
set_option linter.unusedVariables false
set_option linter.unusedSimpArgs false
mutual
def r2_Tokens.l0 : Nat → ByteArray → List (S30) → Int → Option ((List (S30)) × Int × Int)
 | 0, _, _, _ => none
 | k + 1, x0, x5, x6 => if x6 < (x0.size : Int) then (if 0 ≤ x6 then (if (bt x0 x6) = 35 then (r2_Tokens.l1 k x0 x5 x6) else ((r2_Blank.f (bt x0 x6)).bind fun t132 => (if t132 = true then (r2_Tokens.l0 k x0 x5 (wrap64 (x6 + 1))) else ((r2_one.f k x0 x6).bind fun bt133 => (if bt133.2.2.2.2 = true then (if x5.length < 3518437208883 then (r2_Tokens.l0 k x0 (x5 ++ [(⟨bt133.1, bt133.2.1, bt133.2.2.1, bt133.2.2.2.1⟩ : S30)]) (wrap64 (x6 + (bt133.2.2.1.size : Int)))) else (none)) else (some (([] : List (S30)), x6, 2))))))) else (none)) else (some (x5, 0, 0))
def r2_Tokens.l1 : Nat → ByteArray → List (S30) → Int → Option ((List (S30)) × Int × Int)
 | 0, _, _, _ => none
 | k + 1, x0, x5, x6 => if x6 < (x0.size : Int) then (if 0 ≤ x6 then (if (bt x0 x6) = 10 then (r2_Tokens.l0 k x0 x5 x6) else (r2_Tokens.l1 k x0 x5 (wrap64 (x6 + 1)))) else (none)) else (r2_Tokens.l0 k x0 x5 x6)
end
def r2_Tokens.f (k : Nat) (a0 : ByteArray) : Option ((List (S30)) × Int × Int) := if (a0.size : Int) > 4000 then (some (([] : List (S30)), 0, 5)) else (r2_Tokens.l0 k a0 ([] : List (S30)) 0)
set_option maxHeartbeats 8000000 in
set_option maxRecDepth 100000 in
theorem r2_Tokens.calls (k : Nat) (a0 : ByteArray) (r1 : List (S30)) (r2 : Int) (r3 : Int) (w : World) (h : r2_Tokens.f k a0 = some (r1, r2, r3)) :
  Calls Tryd.prog 12 #[.string a0] w fun e w' => ∃ v0_ : Value, e = .returned (.tuple #[v0_, .int .i64 r2, .int .i64 r3]) ∧ Kd.R k30 30 w' w.heap.size (fun _ => True) v0_ r1 ∧ Below w.heap.size w w' := by
 have hu30 := Tryd.underlying30; have HB := Aside0.mk (Below.refl w.heap.size w); have H : (if (a0.size : Int) > 4000 then (some (([] : List (S30)), 0, 5)) else (r2_Tokens.l0 k a0 ([] : List (S30)) 0)) = some (r1, r2, r3) := h
 clear h; by_cases c2 : (a0.size : Int) > 4000
 ·rw [if_pos c2] at H; have c2b0 : decide (4000 < (a0.size : Int)) = true := decide_eq_true c2
  have c2b1 : decide (4000 < a0.size) = true := decide_eq_true (by omega)
  clear c2; simp only [Option.some.injEq, Prod.mk.injEq] at H
  obtain ⟨rfl, rfl, rfl⟩ := H; go_enter Tryd.func12, Tryd.ntmps12
  go_wp2
  go_ret3
  exact ⟨_, by first | rfl | (simp [errW_none, errW_some] <;> rfl) | (simp [*, errW_none, errW_some] <;> rfl), by first | exact Kd.R_nil _ _ _ _ _ | exact Kd.N_nil _ _ _ _ _ | exact Kd.V_nil _ _ _ _ _ | exact Kd.Q_nil _ _ _ _ _ | exact Kd.S_nil _ _ _ _ _, by repeat (first | (with_reducible first | exact HB.out | apply below_alloc | apply pw_below_drewN | apply below_drew1) | exact HB.out)⟩
 ·rw [if_neg c2] at H; have c2b0 : decide (4000 < (a0.size : Int)) = false := decide_eq_false c2
  have c2b1 : decide (4000 < a0.size) = false := decide_eq_false (by omega)
  clear c2; have H' := Aside0.mk H
  clear H; go_enter Tryd.func12, Tryd.ntmps12
  go_wp2
  go_loopg [5, 6] k (fun kq v5 v6 w' => ∃ (x5_1 : List (S30)) (x6_1 : Int), v6 = .int .i64 x6_1 ∧ Aside0 (r2_Tokens.l0 kq a0 x5_1 x6_1 = some (r1, r2, r3)) ∧ Aside0 (kq ≤ k) ∧ Aside0 (Kd.R k30 30 w' w.heap.size (fun _ => True) v5 x5_1) ∧ Aside0 (Below w.heap.size w w'))
  case atStart => exact ⟨(([] : List (S30))), (0), (by first | rfl | (simp; done) | (simp [*]; done)), H', ⟨Nat.le_refl _⟩, ⟨by first | exact Kd.R_nil _ _ _ _ _ | exact Kd.N_nil _ _ _ _ _ | exact Kd.V_nil _ _ _ _ _ | exact Kd.Q_nil _ _ _ _ _ | exact Kd.S_nil _ _ _ _ _⟩, ⟨by repeat (first | (with_reducible first | exact HB.out | apply below_alloc | apply pw_below_drewN | apply below_drew1) | exact HB.out)⟩⟩
  case round =>
   clear H'; try clear c1
   try clear c2
   try clear c2b0
   try clear c2b1
   try clear p2
   obtain ⟨x5_1, x6_1, rfl, HA, HK1, HO_5, HB⟩ := hrel; cases gk with
   | zero => exact absurd HA.out (by simp [r2_Tokens.l0])
   | succ k1 =>
    have H := HA.out; clear HA; simp only [r2_Tokens.l0] at H
    by_cases c3 : x6_1 < (a0.size : Int)
    ·rw [if_pos c3] at H; have c3b0 : decide (x6_1 < (a0.size : Int)) = true := decide_eq_true c3
     clear c3; by_cases c4 : 0 ≤ x6_1
     ·rw [if_pos c4] at H; have c4b0 : decide (0 ≤ x6_1) = true := decide_eq_true c4
      clear c4; by_cases c6 : (bt a0 x6_1) = 35
      ·rw [if_pos c6] at H; have c6b0 : ((bt a0 x6_1) == 35) = true := beq_iff_eq.mpr c6
       have c6b1 : ((bt a0 x6_1) != 35) = false := bne_eq_false_iff_eq.mpr c6
       clear c6; have H' := Aside0.mk H
       clear H; have p5 : 0 ≤ (x6_1 : Int) := of_decide_eq_true (by with_reducible assumption)
       have q5 : x6_1 < (a0.size : Int) := of_decide_eq_true (by with_reducible assumption)
       have hx5 := bt_at a0 x6_1; replace p5 := eq_true p5; replace q5 := eq_true q5; go_wp2
       go_loopg [6] k1 (fun kq v6 w' => ∃ (x6_2 : Int), v6 = .int .i64 x6_2 ∧ Aside0 (r2_Tokens.l1 kq a0 x5_1 x6_2 = some (r1, r2, r3)) ∧ Aside0 (kq ≤ k1) ∧ Aside0 (Kd.R k30 30 w' w.heap.size (fun _ => True) u5 x5_1) ∧ Aside0 (Below w.heap.size w w'))
       case atStart => exact ⟨(x6_1), (by first | rfl | (simp; done) | (simp [*]; done)), H', ⟨Nat.le_refl _⟩, ⟨by (with_reducible repeat (first | apply Kd.R_alloc | apply Kd.R_drewN | apply Kd.R_drew)); exact HO_5.out⟩, ⟨by repeat (first | (with_reducible first | exact HB.out | apply below_alloc | apply pw_below_drewN | apply below_drew1) | exact HB.out)⟩⟩
       case round =>
        clear H'; try clear c1
        try clear c2
        try clear c2b0
        try clear c2b1
        try clear p2
        try clear c3
        try clear c3b0
        try clear c4
        try clear c4b0
        try clear p5
        try clear q5
        try clear hx5
        try clear c6
        try clear c6b0
        try clear c6b1
        try clear p2
        try clear p5
        try clear q5
        obtain ⟨x6_2, rfl, HA, HK2, HO_5, HB⟩ := hrel; cases gk with
        | zero => exact absurd HA.out (by simp [r2_Tokens.l1])
        | succ k2 =>
         have H := HA.out; clear HA; simp only [r2_Tokens.l1] at H
         by_cases c7 : x6_2 < (a0.size : Int)
         ·rw [if_pos c7] at H; have c7b0 : decide (x6_2 < (a0.size : Int)) = true := decide_eq_true c7
          clear c7; by_cases c8 : 0 ≤ x6_2
          ·rw [if_pos c8] at H; have c8b0 : decide (0 ≤ x6_2) = true := decide_eq_true c8
           clear c8; by_cases c10 : (bt a0 x6_2) = 10
           ·rw [if_pos c10] at H; have c10b0 : ((bt a0 x6_2) == 10) = true := beq_iff_eq.mpr c10
            have c10b1 : ((bt a0 x6_2) != 10) = false := bne_eq_false_iff_eq.mpr c10
            clear c10; have H' := Aside0.mk H
            clear H; have p9 : 0 ≤ (x6_2 : Int) := of_decide_eq_true (by with_reducible assumption)
            have q9 : x6_2 < (a0.size : Int) := of_decide_eq_true (by with_reducible assumption)
            have hx9 := bt_at a0 x6_2; replace p9 := eq_true p9; replace q9 := eq_true q9; go_wp2
            go_roundg k2
            case measure => have := HK1.out; have := HK2.out; omega
            case rel => exact ⟨(x5_1), (x6_2), (by first | rfl | (simp; done) | (simp [*]; done)), H', ⟨by have := HK1.out; have := HK2.out; omega⟩, ⟨by (with_reducible repeat (first | apply Kd.R_alloc | apply Kd.R_drewN | apply Kd.R_drew)); exact HO_5.out⟩, ⟨by repeat (first | (with_reducible first | exact HB.out | apply below_alloc | apply pw_below_drewN | apply below_drew1) | exact HB.out)⟩⟩
           ·rw [if_neg c10] at H; have c10b0 : ((bt a0 x6_2) == 10) = false := beq_eq_false_iff_ne.mpr c10
            have c10b1 : ((bt a0 x6_2) != 10) = true := bne_iff_ne.mpr c10
            have H' := Aside0.mk H
            clear H; have p9 : 0 ≤ (x6_2 : Int) := of_decide_eq_true (by with_reducible assumption)
            have q9 : x6_2 < (a0.size : Int) := of_decide_eq_true (by with_reducible assumption)
            have hx9 := bt_at a0 x6_2; replace p9 := eq_true p9; replace q9 := eq_true q9; go_wp2
            go_roundg k2
            case measure => have := HK1.out; have := HK2.out; omega
            case rel => exact ⟨(wrap64 (x6_2 + 1)), (by first | rfl | (simp; done) | (simp [*]; done)), H', ⟨by have := HK1.out; have := HK2.out; omega⟩, ⟨by (with_reducible repeat (first | apply Kd.R_alloc | apply Kd.R_drewN | apply Kd.R_drew)); exact HO_5.out⟩, ⟨by repeat (first | (with_reducible first | exact HB.out | apply below_alloc | apply pw_below_drewN | apply below_drew1) | exact HB.out)⟩⟩
          ·rw [if_neg c8] at H; exact absurd H (by simp)
         ·rw [if_neg c7] at H; have c7b0 : decide (x6_2 < (a0.size : Int)) = false := decide_eq_false c7
          clear c7; have H' := Aside0.mk H
          clear H; go_wp2
          go_roundg k2
          case measure => have := HK1.out; have := HK2.out; omega
          case rel => exact ⟨(x5_1), (x6_2), (by first | rfl | (simp; done) | (simp [*]; done)), H', ⟨by have := HK1.out; have := HK2.out; omega⟩, ⟨by (with_reducible repeat (first | apply Kd.R_alloc | apply Kd.R_drewN | apply Kd.R_drew)); exact HO_5.out⟩, ⟨by repeat (first | (with_reducible first | exact HB.out | apply below_alloc | apply pw_below_drewN | apply below_drew1) | exact HB.out)⟩⟩
      ·rw [if_neg c6] at H; have c6b0 : ((bt a0 x6_1) == 35) = false := beq_eq_false_iff_ne.mpr c6
       have c6b1 : ((bt a0 x6_1) != 35) = true := bne_iff_ne.mpr c6
       replace H := Option.bind_eq_some_iff.mp H; obtain ⟨t132, A120, H⟩ := H; replace H : (if t132 = true then (r2_Tokens.l0 k1 a0 x5_1 (wrap64 (x6_1 + 1))) else ((r2_one.f k1 a0 x6_1).bind fun bt133 => (if bt133.2.2.2.2 = true then (if x5_1.length < 3518437208883 then (r2_Tokens.l0 k1 a0 (x5_1 ++ [(⟨bt133.1, bt133.2.1, bt133.2.2.1, bt133.2.2.2.1⟩ : S30)]) (wrap64 (x6_1 + (bt133.2.2.1.size : Int)))) else (none)) else (some (([] : List (S30)), x6_1, 2))))) = some (r1, r2, r3) := H
       have A12 := Aside0.mk A120; clear A120; by_cases c13 : t132 = true
       ·subst c13; have H1 : (r2_Tokens.l0 k1 a0 x5_1 (wrap64 (x6_1 + 1))) = some (r1, r2, r3) := by rw [if_pos rfl] at H; exact H
        clear H; have H := H1; clear H1; have H' := Aside0.mk H
        clear H; have p5 : 0 ≤ (x6_1 : Int) := of_decide_eq_true (by with_reducible assumption)
        have q5 : x6_1 < (a0.size : Int) := of_decide_eq_true (by with_reducible assumption)
        have hx5 := bt_at a0 x6_1; replace p5 := eq_true p5; replace q5 := eq_true q5; have p11 : 0 ≤ (x6_1 : Int) := of_decide_eq_true (by with_reducible assumption)
        have q11 : x6_1 < (a0.size : Int) := of_decide_eq_true (by with_reducible assumption)
        have hx11 := bt_at a0 x6_1; replace p11 := eq_true p11; replace q11 := eq_true q11; go_wp2_with (first | ((with_reducible refine gate_callee (f := 26) rfl ?_); refine goesL_ (some 35) rfl rfl Tryd.func26 (by kernel_rfl) rfl #[.int .u8 (bt a0 x6_1)] rfl (by (try simp only [List.map_toArray, List.map_cons, List.map_nil]); first | done | rfl | (simp only [List.length_drop, List.length_take]; rfl)) ?_; (with_reducible refine (r2_Blank.calls (bt a0 x6_1) true _ A12.out).mono ?_); rintro e w' ⟨rfl, ⟨nd, rfl⟩⟩; refine ⟨_, rfl, ?_⟩))
        go_roundg k1
        case measure => have := HK1.out; omega
        case rel => exact ⟨(x5_1), (wrap64 (x6_1 + 1)), (by first | rfl | (simp; done) | (simp [*]; done)), H', ⟨by have := HK1.out; omega⟩, ⟨by (with_reducible repeat (first | apply Kd.R_alloc | apply Kd.R_drewN | apply Kd.R_drew)); exact HO_5.out⟩, ⟨by repeat (first | (with_reducible first | exact HB.out | apply below_alloc | apply pw_below_drewN | apply below_drew1) | exact HB.out)⟩⟩
       ·replace c13 := Bool.eq_false_iff.mpr c13; subst c13; have H1 : ((r2_one.f k1 a0 x6_1).bind fun bt133 => (if bt133.2.2.2.2 = true then (if x5_1.length < 3518437208883 then (r2_Tokens.l0 k1 a0 (x5_1 ++ [(⟨bt133.1, bt133.2.1, bt133.2.2.1, bt133.2.2.2.1⟩ : S30)]) (wrap64 (x6_1 + (bt133.2.2.1.size : Int)))) else (none)) else (some (([] : List (S30)), x6_1, 2)))) = some (r1, r2, r3) := by rw [if_neg (show ¬ (false = true) by decide)] at H; exact H
        clear H; have H := H1; clear H1; replace H := Option.bind_eq_some_iff.mp H; obtain ⟨⟨t133, t134, t135, t136, t137⟩, A140, H⟩ := H; replace H : (if t137 = true then (if x5_1.length < 3518437208883 then (r2_Tokens.l0 k1 a0 (x5_1 ++ [(⟨t133, t134, t135, t136⟩ : S30)]) (wrap64 (x6_1 + (t135.size : Int)))) else (none)) else (some (([] : List (S30)), x6_1, 2))) = some (r1, r2, r3) := H
        have A14 := Aside0.mk A140; clear A140; by_cases c15 : t137 = true
        ·subst c15; have H1 : (if x5_1.length < 3518437208883 then (r2_Tokens.l0 k1 a0 (x5_1 ++ [(⟨t133, t134, t135, t136⟩ : S30)]) (wrap64 (x6_1 + (t135.size : Int)))) else (none)) = some (r1, r2, r3) := by rw [if_pos rfl] at H; exact H
         clear H; have H := H1; clear H1; by_cases c16 : x5_1.length < 3518437208883
         ·rw [if_pos c16] at H; have LMc16 := Aside0.mk c16; clear c16; obtain ⟨y139, hy139⟩ : ∃ y_ : List (S30), y_ = (x5_1 ++ [(⟨t133, t134, t135, t136⟩ : S30)]) := ⟨_, rfl⟩; replace H : (r2_Tokens.l0 k1 a0 y139 (wrap64 (x6_1 + (t135.size : Int)))) = some (r1, r2, r3) := by first | (with_reducible first | (rw [hy139]; exact H) | exact H) | (have H2_ := (Option.bind_some _ _).symm.trans H; first | with_reducible exact H2_ | (rw [hy139]; exact H2_)) | (rw [hy139]; exact H) | exact H
          have Ny139 := Aside0.mk hy139; clear hy139; have H' := Aside0.mk H
          clear H; have p5 : 0 ≤ (x6_1 : Int) := of_decide_eq_true (by with_reducible assumption)
          have q5 : x6_1 < (a0.size : Int) := of_decide_eq_true (by with_reducible assumption)
          have hx5 := bt_at a0 x6_1; replace p5 := eq_true p5; replace q5 := eq_true q5; have p11 : 0 ≤ (x6_1 : Int) := of_decide_eq_true (by with_reducible assumption)
          have q11 : x6_1 < (a0.size : Int) := of_decide_eq_true (by with_reducible assumption)
          have hx11 := bt_at a0 x6_1; replace p11 := eq_true p11; replace q11 := eq_true q11; go_wp2_with (first | ((with_reducible refine gate_callee (f := 26) rfl ?_); refine goesL_ (some 35) rfl rfl Tryd.func26 (by kernel_rfl) rfl #[.int .u8 (bt a0 x6_1)] rfl (by (try simp only [List.map_toArray, List.map_cons, List.map_nil]); first | done | rfl | (simp only [List.length_drop, List.length_take]; rfl)) ?_; (with_reducible refine (r2_Blank.calls (bt a0 x6_1) false _ A12.out).mono ?_); rintro e w' ⟨rfl, ⟨nd, rfl⟩⟩; refine ⟨_, rfl, ?_⟩; (try (rw [drewN_self wr]; generalize hq_ : World.drewN wr _ = wr; have n0_ : Aside0 (Kd.R k30 30 wr w.heap.size (fun _ => True) u5 x5_1) := ⟨by rw [← hq_]; exact (by (with_reducible repeat (first | apply Kd.R_alloc | apply Kd.R_drewN | apply Kd.R_drew)); exact HO_5.out)⟩; have n1_ : Aside0 (Below w.heap.size w wr) := ⟨by rw [← hq_]; exact (by repeat (first | (with_reducible first | exact HB.out | apply below_alloc | apply pw_below_drewN | apply below_drew1) | exact HB.out))⟩; clear HO_5 HB hq_; have HO_5 := n0_; have HB := n1_; clear n0_ n1_))) | ((with_reducible refine gate_callee (f := 27) rfl ?_); refine goesL_ (some 41) rfl rfl Tryd.func27 (by kernel_rfl) rfl #[.string a0, .int .i64 x6_1] rfl (by (try simp only [List.map_toArray, List.map_cons, List.map_nil]); first | done | rfl | (simp only [List.length_drop, List.length_take]; rfl)) ?_; (with_reducible refine (r2_one.calls k1 a0 x6_1 t133 t134 t135 t136 true _ A14.out).mono ?_); rintro e w17 ⟨rfl, hb⟩; refine ⟨_, rfl, ?_⟩; have n0_ := Aside0.mk (Kd.R_below (by (with_reducible repeat (first | apply Kd.R_alloc | apply Kd.R_drewN | apply Kd.R_drew)); exact HO_5.out) hb); have n1_ := Aside0.mk (below_step (by repeat (first | (with_reducible first | exact HB.out | apply below_alloc | apply pw_below_drewN | apply below_drew1) | exact HB.out)) hb); clear HO_5; clear HB; have HO_5 := n0_; have HB := n1_; clear n0_ n1_; (try clear hb); (try clear hb2); (try clear hk); (try clear hi)) | ((with_reducible refine gate_dst (N := 7) rfl ?_); refine box_event ?hg (N := 7) ?hd (cs := #[.int .i64 0, .int .i64 0, .string (⟨#[]⟩ : ByteArray), .int .i32 0]) (t := 30) ?hr ?_; (case hd => rfl); (case hg => rfl); (case hr => first | (go_simp; done) | (go_simp; rfl)); intro gb138 hg w18 hbox hb; have n0_ := Aside0.mk (Kd.R_below (Kd.R_elderB (by (with_reducible repeat (first | apply Kd.R_alloc | apply Kd.R_drewN | apply Kd.R_drew)); exact HO_5.out) gb138 (Nat.le_of_eq hg.symm)) hb); have n1_ := Aside0.mk (below_step (by repeat (first | (with_reducible first | exact HB.out | apply below_alloc | apply pw_below_drewN | apply below_drew1) | exact HB.out)) hb); have n2_ := Aside0.mk (hbox); have n3_ := Aside0.mk ((by rw [hg]; exact (below_size (by repeat (first | (with_reducible first | exact HB.out | apply below_alloc | apply pw_below_drewN | apply below_drew1) | exact HB.out))) : w.heap.size ≤ gb138)); have n4_ := Aside0.mk ((by rw [hg]; exact (below_size (by repeat (first | (with_reducible first | exact HB.out | apply below_alloc | apply pw_below_drewN | apply below_drew1) | exact HB.out))) : w.heap.size ≤ gb138)); clear HO_5; clear HB; have HO_5 := n0_; have HB := n1_; have BK138 := n2_; have GW138 := n3_; have GE138 := n4_; clear n0_ n1_ n2_ n3_ n4_; clear hb hbox hg; have hcz19_0 : w18.cell? ⟨gb138, 0, none⟩ = some (.int .i64 0) := (blk_cell BK138.out 0).trans rfl; have hcz19_1 : w18.cell? ⟨gb138, 1, none⟩ = some (.int .i64 0) := (blk_cell BK138.out 1).trans rfl; have hcz19_2 : w18.cell? ⟨gb138, 2, none⟩ = some (.string (⟨#[]⟩ : ByteArray)) := (blk_cell BK138.out 2).trans rfl; have hcz19_3 : w18.cell? ⟨gb138, 3, none⟩ = some (.int .i32 0) := (blk_cell BK138.out 3).trans rfl; have hfz19_0 := blk_frozen BK138.out 0; have hfz19_1 := blk_frozen BK138.out 1; have hfz19_2 := blk_frozen BK138.out 2; have hfz19_3 := blk_frozen BK138.out 3) | ((with_reducible refine gate_builtin (b := .append) (xs := #[.tmp 47, .tmp 49]) rfl ?_); at_builtin; refine Kd.R_append k30 (w0 := w) w.heap.size rfl (.tmp 47) (.tmp 49) 23 30 (.agg #[(.int .i64 0), (.int .i64 0), (.string ⟨#[]⟩), (.int .i32 0)]) 40 rfl Tryd.underlying23 info30 rfl (by decide) (by omega) u5 x5_1 (⟨t133, t134, t135, t136⟩ : S30) [.int .i64 t133, .int .i64 t134, .string t135, .int .i32 t136] (fun k_ => k_ ≠ gb138) (fun _ => False) rfl (by first | (go_simp; done) | (go_simp; rfl)) ?aP (fun _ hk => hk.elim) ?aF ?aO ?aB ?aS ?aL ?_; (case aP => exact k30_mkM _ _ _ (⟨t133, t134, t135, t136⟩ : S30)); (case aB => exact (by repeat (first | (with_reducible first | exact HB.out | apply below_alloc | apply pw_below_drewN | apply below_drew1 | refine below_set ?_ GE138.out) | exact HB.out))); (case aF => exact (fun k_ hk => Kd.freshB (g := gb138) (o := .cells #[.int .i64 t133, .int .i64 t134, .string t135, .int .i32 t136] 30 (0, 0)) (by (with_reducible repeat (first | refine blk_drewN ?_ _ | refine blk_drew ?_ | refine blk_alloc ?_ _)); refine blk_put (cs := #[.int .i64 t133, .int .i64 t134, .string t135, .int .i32 0]) ?_ 3 _ rfl; (with_reducible repeat (first | refine blk_drewN ?_ _ | refine blk_drew ?_ | refine blk_alloc ?_ _)); refine blk_put (cs := #[.int .i64 t133, .int .i64 t134, .string (⟨#[]⟩ : ByteArray), .int .i32 0]) ?_ 2 _ rfl; (with_reducible repeat (first | refine blk_drewN ?_ _ | refine blk_drew ?_ | refine blk_alloc ?_ _)); refine blk_put (cs := #[.int .i64 t133, .int .i64 0, .string (⟨#[]⟩ : ByteArray), .int .i32 0]) ?_ 1 _ rfl; (with_reducible repeat (first | refine blk_drewN ?_ _ | refine blk_drew ?_ | refine blk_alloc ?_ _)); refine blk_put (cs := #[.int .i64 0, .int .i64 0, .string (⟨#[]⟩ : ByteArray), .int .i32 0]) ?_ 0 _ rfl; (with_reducible repeat (first | refine blk_drewN ?_ _ | refine blk_drew ?_ | refine blk_alloc ?_ _)); exact BK138.out) k_ hk)); (case aO => exact (by (with_reducible repeat (first | apply Kd.R_alloc | apply Kd.R_drewN | apply Kd.R_drew)); exact Kd.R_mono (Kd.R_far (p := ⟨gb138, 3, none⟩) (Kd.R_far (p := ⟨gb138, 2, none⟩) (Kd.R_far (p := ⟨gb138, 1, none⟩) (Kd.R_far (p := ⟨gb138, 0, none⟩) (Kd.R_mono HO_5.out (fun k_ hk => (⟨hk, hk.2⟩ : _ ∧ k_ ≠ gb138))) (fun _ hk => hk.2) (.int .i64 t133)) (fun _ hk => hk.2) (.int .i64 t134)) (fun _ hk => hk.2) (.string t135)) (fun _ hk => hk.2) (.int .i32 t136)) (fun _ hk => hk.1.2))); (case aS => exact (below_size (by repeat (first | (with_reducible first | exact HB.out | apply below_alloc | apply pw_below_drewN | apply below_drew1 | refine below_set ?_ GE138.out) | exact HB.out)))); (case aL => have := LMc16.out; omega); intro v140 w20 ho hb hg hat; rw [← Ny139.out] at ho; have n0_ := Aside0.mk (blk_grown (g := gb138) (o := .cells #[.int .i64 t133, .int .i64 t134, .string t135, .int .i32 t136] 30 (0, 0)) (by (with_reducible repeat (first | refine blk_drewN ?_ _ | refine blk_drew ?_ | refine blk_alloc ?_ _)); refine blk_put (cs := #[.int .i64 t133, .int .i64 t134, .string t135, .int .i32 0]) ?_ 3 _ rfl; (with_reducible repeat (first | refine blk_drewN ?_ _ | refine blk_drew ?_ | refine blk_alloc ?_ _)); refine blk_put (cs := #[.int .i64 t133, .int .i64 t134, .string (⟨#[]⟩ : ByteArray), .int .i32 0]) ?_ 2 _ rfl; (with_reducible repeat (first | refine blk_drewN ?_ _ | refine blk_drew ?_ | refine blk_alloc ?_ _)); refine blk_put (cs := #[.int .i64 t133, .int .i64 0, .string (⟨#[]⟩ : ByteArray), .int .i32 0]) ?_ 1 _ rfl; (with_reducible repeat (first | refine blk_drewN ?_ _ | refine blk_drew ?_ | refine blk_alloc ?_ _)); refine blk_put (cs := #[.int .i64 0, .int .i64 0, .string (⟨#[]⟩ : ByteArray), .int .i32 0]) ?_ 0 _ rfl; (with_reducible repeat (first | refine blk_drewN ?_ _ | refine blk_drew ?_ | refine blk_alloc ?_ _)); exact BK138.out) hg (Kd.R_away HO_5.out (fun _ hk => hk.2))); have n1_ := Aside0.mk (hb); have n2_ := Aside0.mk (ho); clear BK138; clear HB; clear HO_5; have BK138 := n0_; have HB := n1_; have HO141 := n2_; clear n0_ n1_ n2_; clear ho hb hg hat; have hcz21_0 : w20.cell? ⟨gb138, 0, none⟩ = some (.int .i64 t133) := (blk_cell BK138.out 0).trans rfl; have hcz21_1 : w20.cell? ⟨gb138, 1, none⟩ = some (.int .i64 t134) := (blk_cell BK138.out 1).trans rfl; have hcz21_2 : w20.cell? ⟨gb138, 2, none⟩ = some (.string t135) := (blk_cell BK138.out 2).trans rfl; have hcz21_3 : w20.cell? ⟨gb138, 3, none⟩ = some (.int .i32 t136) := (blk_cell BK138.out 3).trans rfl; have hfz21_0 := blk_frozen BK138.out 0; have hfz21_1 := blk_frozen BK138.out 1; have hfz21_2 := blk_frozen BK138.out 2; have hfz21_3 := blk_frozen BK138.out 3))
          go_roundg k1
          case measure => have := HK1.out; omega
          case rel => exact ⟨(y139), (wrap64 (x6_1 + (t135.size : Int))), (by first | rfl | (simp; done) | (simp [*]; done)), H', ⟨by have := HK1.out; omega⟩, ⟨by (with_reducible repeat (first | apply Kd.R_alloc | apply Kd.R_drewN | apply Kd.R_drew)); exact Kd.R_mono HO141.out (fun _ hk => trivial)⟩, ⟨by repeat (first | (with_reducible first | exact HB.out | apply below_alloc | apply pw_below_drewN | apply below_drew1 | refine below_set ?_ GE138.out) | exact HB.out)⟩⟩
         ·rw [if_neg c16] at H; exact absurd H (by simp)
        ·replace c15 := Bool.eq_false_iff.mpr c15; subst c15; have H1 : (some (([] : List (S30)), x6_1, 2)) = some (r1, r2, r3) := by rw [if_neg (show ¬ (false = true) by decide)] at H; exact H
         clear H; have H := H1; clear H1; simp only [Option.some.injEq, Prod.mk.injEq] at H
         obtain ⟨rfl, rfl, rfl⟩ := H; have p5 : 0 ≤ (x6_1 : Int) := of_decide_eq_true (by with_reducible assumption)
         have q5 : x6_1 < (a0.size : Int) := of_decide_eq_true (by with_reducible assumption)
         have hx5 := bt_at a0 x6_1; replace p5 := eq_true p5; replace q5 := eq_true q5; have p11 : 0 ≤ (x6_1 : Int) := of_decide_eq_true (by with_reducible assumption)
         have q11 : x6_1 < (a0.size : Int) := of_decide_eq_true (by with_reducible assumption)
         have hx11 := bt_at a0 x6_1; replace p11 := eq_true p11; replace q11 := eq_true q11; go_wp2_with (first | ((with_reducible refine gate_callee (f := 26) rfl ?_); refine goesL_ (some 35) rfl rfl Tryd.func26 (by kernel_rfl) rfl #[.int .u8 (bt a0 x6_1)] rfl (by (try simp only [List.map_toArray, List.map_cons, List.map_nil]); first | done | rfl | (simp only [List.length_drop, List.length_take]; rfl)) ?_; (with_reducible refine (r2_Blank.calls (bt a0 x6_1) false _ A12.out).mono ?_); rintro e w' ⟨rfl, ⟨nd, rfl⟩⟩; refine ⟨_, rfl, ?_⟩; (try (rw [drewN_self wr]; generalize hq_ : World.drewN wr _ = wr; have n0_ : Aside0 (Kd.R k30 30 wr w.heap.size (fun _ => True) u5 x5_1) := ⟨by rw [← hq_]; exact (by (with_reducible repeat (first | apply Kd.R_alloc | apply Kd.R_drewN | apply Kd.R_drew)); exact HO_5.out)⟩; have n1_ : Aside0 (Below w.heap.size w wr) := ⟨by rw [← hq_]; exact (by repeat (first | (with_reducible first | exact HB.out | apply below_alloc | apply pw_below_drewN | apply below_drew1) | exact HB.out))⟩; clear HO_5 HB hq_; have HO_5 := n0_; have HB := n1_; clear n0_ n1_))) | ((with_reducible refine gate_callee (f := 27) rfl ?_); refine goesL_ (some 41) rfl rfl Tryd.func27 (by kernel_rfl) rfl #[.string a0, .int .i64 x6_1] rfl (by (try simp only [List.map_toArray, List.map_cons, List.map_nil]); first | done | rfl | (simp only [List.length_drop, List.length_take]; rfl)) ?_; (with_reducible refine (r2_one.calls k1 a0 x6_1 t133 t134 t135 t136 false _ A14.out).mono ?_); rintro e w22 ⟨rfl, hb⟩; refine ⟨_, rfl, ?_⟩; have n0_ := Aside0.mk (Kd.R_below (by (with_reducible repeat (first | apply Kd.R_alloc | apply Kd.R_drewN | apply Kd.R_drew)); exact HO_5.out) hb); have n1_ := Aside0.mk (below_step (by repeat (first | (with_reducible first | exact HB.out | apply below_alloc | apply pw_below_drewN | apply below_drew1) | exact HB.out)) hb); clear HO_5; clear HB; have HO_5 := n0_; have HB := n1_; clear n0_ n1_; (try clear hb); (try clear hb2); (try clear hk); (try clear hi)) | ((with_reducible refine gate_dst (N := 7) rfl ?_); refine box_event ?hg (N := 7) ?hd (cs := #[.int .i64 0, .int .i64 0, .string (⟨#[]⟩ : ByteArray), .int .i32 0]) (t := 30) ?hr ?_; (case hd => rfl); (case hg => rfl); (case hr => first | (go_simp; done) | (go_simp; rfl)); intro gb138 hg w23 hbox hb; have n0_ := Aside0.mk (Kd.R_below (Kd.R_elderB (by (with_reducible repeat (first | apply Kd.R_alloc | apply Kd.R_drewN | apply Kd.R_drew)); exact HO_5.out) gb138 (Nat.le_of_eq hg.symm)) hb); have n1_ := Aside0.mk (below_step (by repeat (first | (with_reducible first | exact HB.out | apply below_alloc | apply pw_below_drewN | apply below_drew1) | exact HB.out)) hb); have n2_ := Aside0.mk (hbox); have n3_ := Aside0.mk ((by rw [hg]; exact (below_size (by repeat (first | (with_reducible first | exact HB.out | apply below_alloc | apply pw_below_drewN | apply below_drew1) | exact HB.out))) : w.heap.size ≤ gb138)); have n4_ := Aside0.mk ((by rw [hg]; exact (below_size (by repeat (first | (with_reducible first | exact HB.out | apply below_alloc | apply pw_below_drewN | apply below_drew1) | exact HB.out))) : w.heap.size ≤ gb138)); clear HO_5; clear HB; have HO_5 := n0_; have HB := n1_; have BK138 := n2_; have GW138 := n3_; have GE138 := n4_; clear n0_ n1_ n2_ n3_ n4_; clear hb hbox hg; have hcz24_0 : w23.cell? ⟨gb138, 0, none⟩ = some (.int .i64 0) := (blk_cell BK138.out 0).trans rfl; have hcz24_1 : w23.cell? ⟨gb138, 1, none⟩ = some (.int .i64 0) := (blk_cell BK138.out 1).trans rfl; have hcz24_2 : w23.cell? ⟨gb138, 2, none⟩ = some (.string (⟨#[]⟩ : ByteArray)) := (blk_cell BK138.out 2).trans rfl; have hcz24_3 : w23.cell? ⟨gb138, 3, none⟩ = some (.int .i32 0) := (blk_cell BK138.out 3).trans rfl; have hfz24_0 := blk_frozen BK138.out 0; have hfz24_1 := blk_frozen BK138.out 1; have hfz24_2 := blk_frozen BK138.out 2; have hfz24_3 := blk_frozen BK138.out 3))
         go_ret3
         exact ⟨_, by first | rfl | (simp [errW_none, errW_some] <;> rfl) | (simp [*, errW_none, errW_some] <;> rfl), by first | exact Kd.R_nil _ _ _ _ _ | exact Kd.N_nil _ _ _ _ _ | exact Kd.V_nil _ _ _ _ _ | exact Kd.Q_nil _ _ _ _ _ | exact Kd.S_nil _ _ _ _ _, by repeat (first | (with_reducible first | exact HB.out | apply below_alloc | apply pw_below_drewN | apply below_drew1 | refine below_set ?_ GE138.out) | exact HB.out)⟩
     ·rw [if_neg c4] at H; exact absurd H (by simp)
    ·rw [if_neg c3] at H; have c3b0 : decide (x6_1 < (a0.size : Int)) = false := decide_eq_false c3
     clear c3; simp only [Option.some.injEq, Prod.mk.injEq] at H
     obtain ⟨rfl, rfl, rfl⟩ := H; go_wp2
     go_ret3
     exact ⟨_, by first | rfl | (simp [errW_none, errW_some] <;> rfl) | (simp [*, errW_none, errW_some] <;> rfl), by (with_reducible repeat (first | apply Kd.R_alloc | apply Kd.R_drewN | apply Kd.R_drew)); exact HO_5.out, by repeat (first | (with_reducible first | exact HB.out | apply below_alloc | apply pw_below_drewN | apply below_drew1) | exact HB.out)⟩
def r2_Same.l0 : Nat → List (S30) → List (S30) → Bool → Int → Option (Bool)
 | 0, _, _, _, _ => none
 | k + 1, x0, x1, x2, x7 => if x7 < (x0.length : Int) then (if 0 ≤ x7 then (if x7 < (x1.length : Int) then (if ((rd_T30 x0 x7).f0) = ((rd_T30 x1 x7).f0) then (if ((rd_T30 x0 x7).f2).toList = ((rd_T30 x1 x7).f2).toList then (if ((rd_T30 x0 x7).f3) = ((rd_T30 x1 x7).f3) then (if x2 = true then (if ((rd_T30 x0 x7).f1) = ((rd_T30 x1 x7).f1) then (r2_Same.l0 k x0 x1 x2 (wrap64 (x7 + 1))) else (some false)) else (r2_Same.l0 k x0 x1 x2 (wrap64 (x7 + 1)))) else (some false)) else (some false)) else (some false)) else (none)) else (none)) else (some true)
def r2_Same.f (k : Nat) (l0 : List (S30)) (l1 : List (S30)) (a2 : Bool) : Option (Bool) := if (l0.length : Int) = (l1.length : Int) then (r2_Same.l0 k l0 l1 a2 0) else (some false)
set_option maxHeartbeats 8000000 in
set_option maxRecDepth 100000 in
theorem r2_Same.calls (k : Nat) (A0 : Option Addr) (c0 : Nat) (l0 : List (S30)) (A1 : Option Addr) (c1 : Nat) (l1 : List (S30)) (a2 : Bool) (r : Bool) (w : World) (hr0 : Kd.C k30 w A0 l0.length l0) (hc0 : l0.length ≤ c0) (hr1 : Kd.C k30 w A1 l1.length l1) (hc1 : l1.length ≤ c1) (h : r2_Same.f k l0 l1 a2 = some r) :
  Calls Tryd.prog 13 #[.slice A0 l0.length c0, .slice A1 l1.length c1, .bool a2] w fun e w' => e = .returned (.bool r) ∧ Drawn0 w w' := by
 have HR0 := Aside0.mk hr0; have HC0 := Aside0.mk hc0; clear hr0 hc0; have HR1 := Aside0.mk hr1; have HC1 := Aside0.mk hc1; clear hr1 hc1; have H : (if (l0.length : Int) = (l1.length : Int) then (r2_Same.l0 k l0 l1 a2 0) else (some false)) = some r := h
 clear h; by_cases c4 : (l0.length : Int) = (l1.length : Int)
 ·rw [if_pos c4] at H; have c4b0 : ((l0.length : Int) == (l1.length : Int)) = true := beq_iff_eq.mpr c4
  have c4b1 : ((l0.length : Int) != (l1.length : Int)) = false := bne_eq_false_iff_eq.mpr c4
  have c4b2 : (l0.length == l1.length) = true := by first | simpa using c4 | (simp at c4 ⊢; omega)
  clear c4; have H' := Aside0.mk H
  clear H; go_enter Tryd.func13, Tryd.ntmps13
  go_wp2
  repeat (go_quiet (fail); try go_wp2)
  go_loopg [7] k (fun kq v7 w' => ∃ (x7_1 : Int), v7 = .int .i64 x7_1 ∧ Aside0 (r2_Same.l0 kq l0 l1 a2 x7_1 = some r) ∧ Aside0 (kq ≤ k) ∧ Drawn0 w w')
  case atStart => exact ⟨(0), (by first | rfl | (simp; done) | (simp [*]; done)), H', ⟨Nat.le_refl _⟩, by repeat (first | exact Drawn0.refl _ | apply Drawn0.step)⟩
  case round =>
   clear H'; try clear c1
   try clear p2
   try clear c4
   try clear c4b0
   try clear c4b1
   try clear c4b2
   obtain ⟨x7_1, rfl, HA, HK1, ⟨m1, rfl⟩⟩ := hrel; cases gk with
   | zero => exact absurd HA.out (by simp [r2_Same.l0])
   | succ k1 =>
    have H := HA.out; clear HA; simp only [r2_Same.l0] at H
    by_cases c5 : x7_1 < (l0.length : Int)
    ·rw [if_pos c5] at H; have c5b0 : decide (x7_1 < (l0.length : Int)) = true := decide_eq_true c5
     clear c5; by_cases c6 : 0 ≤ x7_1
     ·rw [if_pos c6] at H; have c6b0 : decide (0 ≤ x7_1) = true := decide_eq_true c6
      clear c6; by_cases c7 : x7_1 < (l1.length : Int)
      ·rw [if_pos c7] at H; have c7b0 : decide (x7_1 < (l1.length : Int)) = true := decide_eq_true c7
       clear c7; by_cases c8 : ((rd_T30 l0 x7_1).f0) = ((rd_T30 l1 x7_1).f0)
       ·rw [if_pos c8] at H; have c8b0 : (((rd_T30 l0 x7_1).f0) == ((rd_T30 l1 x7_1).f0)) = true := beq_iff_eq.mpr c8
        have c8b1 : (((rd_T30 l0 x7_1).f0) != ((rd_T30 l1 x7_1).f0)) = false := bne_eq_false_iff_eq.mpr c8
        clear c8; by_cases c9 : ((rd_T30 l0 x7_1).f2).toList = ((rd_T30 l1 x7_1).f2).toList
        ·rw [if_pos c9] at H; have c9b0 : (((rd_T30 l0 x7_1).f2).toList == ((rd_T30 l1 x7_1).f2).toList) = true := beq_iff_eq.mpr c9
         have c9b1 : (((rd_T30 l0 x7_1).f2).toList != ((rd_T30 l1 x7_1).f2).toList) = false := bne_eq_false_iff_eq.mpr c9
         clear c9; by_cases c10 : ((rd_T30 l0 x7_1).f3) = ((rd_T30 l1 x7_1).f3)
         ·rw [if_pos c10] at H; have c10b0 : (((rd_T30 l0 x7_1).f3) == ((rd_T30 l1 x7_1).f3)) = true := beq_iff_eq.mpr c10
          have c10b1 : (((rd_T30 l0 x7_1).f3) != ((rd_T30 l1 x7_1).f3)) = false := bne_eq_false_iff_eq.mpr c10
          clear c10; by_cases c11 : a2 = true
          ·subst c11; have H1 : (if ((rd_T30 l0 x7_1).f1) = ((rd_T30 l1 x7_1).f1) then (r2_Same.l0 k1 l0 l1 true (wrap64 (x7_1 + 1))) else (some false)) = some r := by rw [if_pos rfl] at H; exact H
           clear H; have H := H1; clear H1; by_cases c12 : ((rd_T30 l0 x7_1).f1) = ((rd_T30 l1 x7_1).f1)
           ·rw [if_pos c12] at H; have c12b0 : (((rd_T30 l0 x7_1).f1) == ((rd_T30 l1 x7_1).f1)) = true := beq_iff_eq.mpr c12
            have c12b1 : (((rd_T30 l0 x7_1).f1) != ((rd_T30 l1 x7_1).f1)) = false := bne_eq_false_iff_eq.mpr c12
            clear c12; have H' := Aside0.mk H
            clear H; have p142 : 0 ≤ (x7_1 : Int) := of_decide_eq_true (by with_reducible assumption)
            have q142 : x7_1 < (l0.length : Int) := of_decide_eq_true (by with_reducible assumption)
            obtain ⟨ad142, e142, hx142_0, hx142_1, hx142_2, hx142_3⟩ := at_T30 HR0.out x7_1 p142 q142; cases e142; replace p142 := eq_true p142; replace q142 := eq_true q142; have p143 : 0 ≤ (x7_1 : Int) := of_decide_eq_true (by with_reducible assumption)
            have q143 : x7_1 < (l1.length : Int) := of_decide_eq_true (by with_reducible assumption)
            obtain ⟨ad143, e143, hx143_0, hx143_1, hx143_2, hx143_3⟩ := at_T30 HR1.out x7_1 p143 q143; cases e143; replace p143 := eq_true p143; replace q143 := eq_true q143; have p144 : 0 ≤ (x7_1 : Int) := of_decide_eq_true (by with_reducible assumption)
            have q144 : x7_1 < (l0.length : Int) := of_decide_eq_true (by with_reducible assumption)
            obtain ⟨ad144, e144, hx144_0, hx144_1, hx144_2, hx144_3⟩ := at_T30 HR0.out x7_1 p144 q144; obtain rfl : ad142 = ad144 := (by injection e144)
            replace p144 := eq_true p144; replace q144 := eq_true q144; have p145 : 0 ≤ (x7_1 : Int) := of_decide_eq_true (by with_reducible assumption)
            have q145 : x7_1 < (l1.length : Int) := of_decide_eq_true (by with_reducible assumption)
            obtain ⟨ad145, e145, hx145_0, hx145_1, hx145_2, hx145_3⟩ := at_T30 HR1.out x7_1 p145 q145; obtain rfl : ad143 = ad145 := (by injection e145)
            replace p145 := eq_true p145; replace q145 := eq_true q145; have p146 : 0 ≤ (x7_1 : Int) := of_decide_eq_true (by with_reducible assumption)
            have q146 : x7_1 < (l0.length : Int) := of_decide_eq_true (by with_reducible assumption)
            obtain ⟨ad146, e146, hx146_0, hx146_1, hx146_2, hx146_3⟩ := at_T30 HR0.out x7_1 p146 q146; obtain rfl : ad142 = ad146 := (by injection e146)
            replace p146 := eq_true p146; replace q146 := eq_true q146; have p147 : 0 ≤ (x7_1 : Int) := of_decide_eq_true (by with_reducible assumption)
            have q147 : x7_1 < (l1.length : Int) := of_decide_eq_true (by with_reducible assumption)
            obtain ⟨ad147, e147, hx147_0, hx147_1, hx147_2, hx147_3⟩ := at_T30 HR1.out x7_1 p147 q147; obtain rfl : ad143 = ad147 := (by injection e147)
            replace p147 := eq_true p147; replace q147 := eq_true q147; have p148 : 0 ≤ (x7_1 : Int) := of_decide_eq_true (by with_reducible assumption)
            have q148 : x7_1 < (l0.length : Int) := of_decide_eq_true (by with_reducible assumption)
            obtain ⟨ad148, e148, hx148_0, hx148_1, hx148_2, hx148_3⟩ := at_T30 HR0.out x7_1 p148 q148; obtain rfl : ad142 = ad148 := (by injection e148)
            replace p148 := eq_true p148; replace q148 := eq_true q148; have p149 : 0 ≤ (x7_1 : Int) := of_decide_eq_true (by with_reducible assumption)
            have q149 : x7_1 < (l1.length : Int) := of_decide_eq_true (by with_reducible assumption)
            obtain ⟨ad149, e149, hx149_0, hx149_1, hx149_2, hx149_3⟩ := at_T30 HR1.out x7_1 p149 q149; obtain rfl : ad143 = ad149 := (by injection e149)
            replace p149 := eq_true p149; replace q149 := eq_true q149; go_wp2
            repeat (go_quiet (fail); try go_wp2)
            go_roundg k1
            case measure => have := HK1.out; omega
            case rel => exact ⟨(wrap64 (x7_1 + 1)), (by first | rfl | (simp; done) | (simp [*]; done)), H', ⟨by have := HK1.out; omega⟩, by repeat (first | exact Drawn0.refl _ | apply Drawn0.step)⟩
           ·rw [if_neg c12] at H; have c12b0 : (((rd_T30 l0 x7_1).f1) == ((rd_T30 l1 x7_1).f1)) = false := beq_eq_false_iff_ne.mpr c12
            have c12b1 : (((rd_T30 l0 x7_1).f1) != ((rd_T30 l1 x7_1).f1)) = true := bne_iff_ne.mpr c12
            obtain rfl := Option.some.inj H; have p142 : 0 ≤ (x7_1 : Int) := of_decide_eq_true (by with_reducible assumption)
            have q142 : x7_1 < (l0.length : Int) := of_decide_eq_true (by with_reducible assumption)
            obtain ⟨ad142, e142, hx142_0, hx142_1, hx142_2, hx142_3⟩ := at_T30 HR0.out x7_1 p142 q142; cases e142; replace p142 := eq_true p142; replace q142 := eq_true q142; have p143 : 0 ≤ (x7_1 : Int) := of_decide_eq_true (by with_reducible assumption)
            have q143 : x7_1 < (l1.length : Int) := of_decide_eq_true (by with_reducible assumption)
            obtain ⟨ad143, e143, hx143_0, hx143_1, hx143_2, hx143_3⟩ := at_T30 HR1.out x7_1 p143 q143; cases e143; replace p143 := eq_true p143; replace q143 := eq_true q143; have p144 : 0 ≤ (x7_1 : Int) := of_decide_eq_true (by with_reducible assumption)
            have q144 : x7_1 < (l0.length : Int) := of_decide_eq_true (by with_reducible assumption)
            obtain ⟨ad144, e144, hx144_0, hx144_1, hx144_2, hx144_3⟩ := at_T30 HR0.out x7_1 p144 q144; obtain rfl : ad142 = ad144 := (by injection e144)
            replace p144 := eq_true p144; replace q144 := eq_true q144; have p145 : 0 ≤ (x7_1 : Int) := of_decide_eq_true (by with_reducible assumption)
            have q145 : x7_1 < (l1.length : Int) := of_decide_eq_true (by with_reducible assumption)
            obtain ⟨ad145, e145, hx145_0, hx145_1, hx145_2, hx145_3⟩ := at_T30 HR1.out x7_1 p145 q145; obtain rfl : ad143 = ad145 := (by injection e145)
            replace p145 := eq_true p145; replace q145 := eq_true q145; have p146 : 0 ≤ (x7_1 : Int) := of_decide_eq_true (by with_reducible assumption)
            have q146 : x7_1 < (l0.length : Int) := of_decide_eq_true (by with_reducible assumption)
            obtain ⟨ad146, e146, hx146_0, hx146_1, hx146_2, hx146_3⟩ := at_T30 HR0.out x7_1 p146 q146; obtain rfl : ad142 = ad146 := (by injection e146)
            replace p146 := eq_true p146; replace q146 := eq_true q146; have p147 : 0 ≤ (x7_1 : Int) := of_decide_eq_true (by with_reducible assumption)
            have q147 : x7_1 < (l1.length : Int) := of_decide_eq_true (by with_reducible assumption)
            obtain ⟨ad147, e147, hx147_0, hx147_1, hx147_2, hx147_3⟩ := at_T30 HR1.out x7_1 p147 q147; obtain rfl : ad143 = ad147 := (by injection e147)
            replace p147 := eq_true p147; replace q147 := eq_true q147; have p148 : 0 ≤ (x7_1 : Int) := of_decide_eq_true (by with_reducible assumption)
            have q148 : x7_1 < (l0.length : Int) := of_decide_eq_true (by with_reducible assumption)
            obtain ⟨ad148, e148, hx148_0, hx148_1, hx148_2, hx148_3⟩ := at_T30 HR0.out x7_1 p148 q148; obtain rfl : ad142 = ad148 := (by injection e148)
            replace p148 := eq_true p148; replace q148 := eq_true q148; have p149 : 0 ≤ (x7_1 : Int) := of_decide_eq_true (by with_reducible assumption)
            have q149 : x7_1 < (l1.length : Int) := of_decide_eq_true (by with_reducible assumption)
            obtain ⟨ad149, e149, hx149_0, hx149_1, hx149_2, hx149_3⟩ := at_T30 HR1.out x7_1 p149 q149; obtain rfl : ad143 = ad149 := (by injection e149)
            replace p149 := eq_true p149; replace q149 := eq_true q149; go_wp2
            repeat (go_quiet (fail); try go_wp2)
            go_ret
            exact ⟨by first | rfl | (simp; done) | (simp [*]; done), by repeat (first | exact Drawn0.refl _ | apply Drawn0.step)⟩
          ·replace c11 := Bool.eq_false_iff.mpr c11; subst c11; have H1 : (r2_Same.l0 k1 l0 l1 false (wrap64 (x7_1 + 1))) = some r := by rw [if_neg (show ¬ (false = true) by decide)] at H; exact H
           clear H; have H := H1; clear H1; have H' := Aside0.mk H
           clear H; have p142 : 0 ≤ (x7_1 : Int) := of_decide_eq_true (by with_reducible assumption)
           have q142 : x7_1 < (l0.length : Int) := of_decide_eq_true (by with_reducible assumption)
           obtain ⟨ad142, e142, hx142_0, hx142_1, hx142_2, hx142_3⟩ := at_T30 HR0.out x7_1 p142 q142; cases e142; replace p142 := eq_true p142; replace q142 := eq_true q142; have p143 : 0 ≤ (x7_1 : Int) := of_decide_eq_true (by with_reducible assumption)
           have q143 : x7_1 < (l1.length : Int) := of_decide_eq_true (by with_reducible assumption)
           obtain ⟨ad143, e143, hx143_0, hx143_1, hx143_2, hx143_3⟩ := at_T30 HR1.out x7_1 p143 q143; cases e143; replace p143 := eq_true p143; replace q143 := eq_true q143; have p144 : 0 ≤ (x7_1 : Int) := of_decide_eq_true (by with_reducible assumption)
           have q144 : x7_1 < (l0.length : Int) := of_decide_eq_true (by with_reducible assumption)
           obtain ⟨ad144, e144, hx144_0, hx144_1, hx144_2, hx144_3⟩ := at_T30 HR0.out x7_1 p144 q144; obtain rfl : ad142 = ad144 := (by injection e144)
           replace p144 := eq_true p144; replace q144 := eq_true q144; have p145 : 0 ≤ (x7_1 : Int) := of_decide_eq_true (by with_reducible assumption)
           have q145 : x7_1 < (l1.length : Int) := of_decide_eq_true (by with_reducible assumption)
           obtain ⟨ad145, e145, hx145_0, hx145_1, hx145_2, hx145_3⟩ := at_T30 HR1.out x7_1 p145 q145; obtain rfl : ad143 = ad145 := (by injection e145)
           replace p145 := eq_true p145; replace q145 := eq_true q145; have p146 : 0 ≤ (x7_1 : Int) := of_decide_eq_true (by with_reducible assumption)
           have q146 : x7_1 < (l0.length : Int) := of_decide_eq_true (by with_reducible assumption)
           obtain ⟨ad146, e146, hx146_0, hx146_1, hx146_2, hx146_3⟩ := at_T30 HR0.out x7_1 p146 q146; obtain rfl : ad142 = ad146 := (by injection e146)
           replace p146 := eq_true p146; replace q146 := eq_true q146; have p147 : 0 ≤ (x7_1 : Int) := of_decide_eq_true (by with_reducible assumption)
           have q147 : x7_1 < (l1.length : Int) := of_decide_eq_true (by with_reducible assumption)
           obtain ⟨ad147, e147, hx147_0, hx147_1, hx147_2, hx147_3⟩ := at_T30 HR1.out x7_1 p147 q147; obtain rfl : ad143 = ad147 := (by injection e147)
           replace p147 := eq_true p147; replace q147 := eq_true q147; go_wp2
           repeat (go_quiet (fail); try go_wp2)
           go_roundg k1
           case measure => have := HK1.out; omega
           case rel => exact ⟨(wrap64 (x7_1 + 1)), (by first | rfl | (simp; done) | (simp [*]; done)), H', ⟨by have := HK1.out; omega⟩, by repeat (first | exact Drawn0.refl _ | apply Drawn0.step)⟩
         ·rw [if_neg c10] at H; have c10b0 : (((rd_T30 l0 x7_1).f3) == ((rd_T30 l1 x7_1).f3)) = false := beq_eq_false_iff_ne.mpr c10
          have c10b1 : (((rd_T30 l0 x7_1).f3) != ((rd_T30 l1 x7_1).f3)) = true := bne_iff_ne.mpr c10
          obtain rfl := Option.some.inj H; have p142 : 0 ≤ (x7_1 : Int) := of_decide_eq_true (by with_reducible assumption)
          have q142 : x7_1 < (l0.length : Int) := of_decide_eq_true (by with_reducible assumption)
          obtain ⟨ad142, e142, hx142_0, hx142_1, hx142_2, hx142_3⟩ := at_T30 HR0.out x7_1 p142 q142; cases e142; replace p142 := eq_true p142; replace q142 := eq_true q142; have p143 : 0 ≤ (x7_1 : Int) := of_decide_eq_true (by with_reducible assumption)
          have q143 : x7_1 < (l1.length : Int) := of_decide_eq_true (by with_reducible assumption)
          obtain ⟨ad143, e143, hx143_0, hx143_1, hx143_2, hx143_3⟩ := at_T30 HR1.out x7_1 p143 q143; cases e143; replace p143 := eq_true p143; replace q143 := eq_true q143; have p144 : 0 ≤ (x7_1 : Int) := of_decide_eq_true (by with_reducible assumption)
          have q144 : x7_1 < (l0.length : Int) := of_decide_eq_true (by with_reducible assumption)
          obtain ⟨ad144, e144, hx144_0, hx144_1, hx144_2, hx144_3⟩ := at_T30 HR0.out x7_1 p144 q144; obtain rfl : ad142 = ad144 := (by injection e144)
          replace p144 := eq_true p144; replace q144 := eq_true q144; have p145 : 0 ≤ (x7_1 : Int) := of_decide_eq_true (by with_reducible assumption)
          have q145 : x7_1 < (l1.length : Int) := of_decide_eq_true (by with_reducible assumption)
          obtain ⟨ad145, e145, hx145_0, hx145_1, hx145_2, hx145_3⟩ := at_T30 HR1.out x7_1 p145 q145; obtain rfl : ad143 = ad145 := (by injection e145)
          replace p145 := eq_true p145; replace q145 := eq_true q145; have p146 : 0 ≤ (x7_1 : Int) := of_decide_eq_true (by with_reducible assumption)
          have q146 : x7_1 < (l0.length : Int) := of_decide_eq_true (by with_reducible assumption)
          obtain ⟨ad146, e146, hx146_0, hx146_1, hx146_2, hx146_3⟩ := at_T30 HR0.out x7_1 p146 q146; obtain rfl : ad142 = ad146 := (by injection e146)
          replace p146 := eq_true p146; replace q146 := eq_true q146; have p147 : 0 ≤ (x7_1 : Int) := of_decide_eq_true (by with_reducible assumption)
          have q147 : x7_1 < (l1.length : Int) := of_decide_eq_true (by with_reducible assumption)
          obtain ⟨ad147, e147, hx147_0, hx147_1, hx147_2, hx147_3⟩ := at_T30 HR1.out x7_1 p147 q147; obtain rfl : ad143 = ad147 := (by injection e147)
          replace p147 := eq_true p147; replace q147 := eq_true q147; go_wp2
          repeat (go_quiet (fail); try go_wp2)
          go_ret
          exact ⟨by first | rfl | (simp; done) | (simp [*]; done), by repeat (first | exact Drawn0.refl _ | apply Drawn0.step)⟩
        ·rw [if_neg c9] at H; have c9b0 : (((rd_T30 l0 x7_1).f2).toList == ((rd_T30 l1 x7_1).f2).toList) = false := beq_eq_false_iff_ne.mpr c9
         have c9b1 : (((rd_T30 l0 x7_1).f2).toList != ((rd_T30 l1 x7_1).f2).toList) = true := bne_iff_ne.mpr c9
         obtain rfl := Option.some.inj H; have p142 : 0 ≤ (x7_1 : Int) := of_decide_eq_true (by with_reducible assumption)
         have q142 : x7_1 < (l0.length : Int) := of_decide_eq_true (by with_reducible assumption)
         obtain ⟨ad142, e142, hx142_0, hx142_1, hx142_2, hx142_3⟩ := at_T30 HR0.out x7_1 p142 q142; cases e142; replace p142 := eq_true p142; replace q142 := eq_true q142; have p143 : 0 ≤ (x7_1 : Int) := of_decide_eq_true (by with_reducible assumption)
         have q143 : x7_1 < (l1.length : Int) := of_decide_eq_true (by with_reducible assumption)
         obtain ⟨ad143, e143, hx143_0, hx143_1, hx143_2, hx143_3⟩ := at_T30 HR1.out x7_1 p143 q143; cases e143; replace p143 := eq_true p143; replace q143 := eq_true q143; have p144 : 0 ≤ (x7_1 : Int) := of_decide_eq_true (by with_reducible assumption)
         have q144 : x7_1 < (l0.length : Int) := of_decide_eq_true (by with_reducible assumption)
         obtain ⟨ad144, e144, hx144_0, hx144_1, hx144_2, hx144_3⟩ := at_T30 HR0.out x7_1 p144 q144; obtain rfl : ad142 = ad144 := (by injection e144)
         replace p144 := eq_true p144; replace q144 := eq_true q144; have p145 : 0 ≤ (x7_1 : Int) := of_decide_eq_true (by with_reducible assumption)
         have q145 : x7_1 < (l1.length : Int) := of_decide_eq_true (by with_reducible assumption)
         obtain ⟨ad145, e145, hx145_0, hx145_1, hx145_2, hx145_3⟩ := at_T30 HR1.out x7_1 p145 q145; obtain rfl : ad143 = ad145 := (by injection e145)
         replace p145 := eq_true p145; replace q145 := eq_true q145; go_wp2
         repeat (go_quiet (fail); try go_wp2)
         go_ret
         exact ⟨by first | rfl | (simp; done) | (simp [*]; done), by repeat (first | exact Drawn0.refl _ | apply Drawn0.step)⟩
       ·rw [if_neg c8] at H; have c8b0 : (((rd_T30 l0 x7_1).f0) == ((rd_T30 l1 x7_1).f0)) = false := beq_eq_false_iff_ne.mpr c8
        have c8b1 : (((rd_T30 l0 x7_1).f0) != ((rd_T30 l1 x7_1).f0)) = true := bne_iff_ne.mpr c8
        obtain rfl := Option.some.inj H; have p142 : 0 ≤ (x7_1 : Int) := of_decide_eq_true (by with_reducible assumption)
        have q142 : x7_1 < (l0.length : Int) := of_decide_eq_true (by with_reducible assumption)
        obtain ⟨ad142, e142, hx142_0, hx142_1, hx142_2, hx142_3⟩ := at_T30 HR0.out x7_1 p142 q142; cases e142; replace p142 := eq_true p142; replace q142 := eq_true q142; have p143 : 0 ≤ (x7_1 : Int) := of_decide_eq_true (by with_reducible assumption)
        have q143 : x7_1 < (l1.length : Int) := of_decide_eq_true (by with_reducible assumption)
        obtain ⟨ad143, e143, hx143_0, hx143_1, hx143_2, hx143_3⟩ := at_T30 HR1.out x7_1 p143 q143; cases e143; replace p143 := eq_true p143; replace q143 := eq_true q143; go_wp2
        repeat (go_quiet (fail); try go_wp2)
        go_ret
        exact ⟨by first | rfl | (simp; done) | (simp [*]; done), by repeat (first | exact Drawn0.refl _ | apply Drawn0.step)⟩
      ·rw [if_neg c7] at H; exact absurd H (by simp)
     ·rw [if_neg c6] at H; exact absurd H (by simp)
    ·rw [if_neg c5] at H; have c5b0 : decide (x7_1 < (l0.length : Int)) = false := decide_eq_false c5
     clear c5; obtain rfl := Option.some.inj H; go_wp2
     repeat (go_quiet (fail); try go_wp2)
     go_ret
     exact ⟨by first | rfl | (simp; done) | (simp [*]; done), by repeat (first | exact Drawn0.refl _ | apply Drawn0.step)⟩
 ·rw [if_neg c4] at H; have c4b0 : ((l0.length : Int) == (l1.length : Int)) = false := beq_eq_false_iff_ne.mpr c4
  have c4b1 : ((l0.length : Int) != (l1.length : Int)) = true := bne_iff_ne.mpr c4
  have c4b2 : (l0.length == l1.length) = false := by first | simpa using c4 | (simp at c4 ⊢; omega)
  obtain rfl := Option.some.inj H; go_enter Tryd.func13, Tryd.ntmps13
  go_wp2
  repeat (go_quiet (fail); try go_wp2)
  go_ret
  exact ⟨by first | rfl | (simp; done) | (simp [*]; done), by repeat (first | exact Drawn0.refl _ | apply Drawn0.step)⟩
end Go.Proofs.YtplcemlennloaaaDoor.A
end
section
namespace Go.Proofs.YtplcemlennloaaaDoor.A
open Go.RowKit Go.Proofs.YtplcemlennloaaaDoorW.PrintWords Go.Proofs.YtplcemlennloaaaDoorW.PrintLast Go.Proofs.YtplcemlennloaaaDoorW.PrintMore
set_option linter.unusedVariables false
set_option linter.unusedSimpArgs false
def stringslite_HasPrefix.f (a0 : ByteArray) (a1 : ByteArray) : Option (Bool) := if (a0.size : Int) ≥ (a1.size : Int) then (if 0 ≤ (a1.size : Int) then (if (a1.size : Int) ≤ (a0.size : Int) then (some ((a0.extract 0 ((a1.size : Int) : Int).toNat).toList == a1.toList)) else (none)) else (none)) else (some false)
set_option maxHeartbeats 8000000 in
set_option maxRecDepth 100000 in
theorem stringslite_HasPrefix.calls (a0 : ByteArray) (a1 : ByteArray) (r : Bool) (w : World) (h : stringslite_HasPrefix.f a0 a1 = some r) :
  Calls Tryd.prog 50 #[.string a0, .string a1] w fun e w' => e = .returned (.bool r) ∧ Drawn0 w w' := by
 have H : (if (a0.size : Int) ≥ (a1.size : Int) then (if 0 ≤ (a1.size : Int) then (if (a1.size : Int) ≤ (a0.size : Int) then (some ((a0.extract 0 ((a1.size : Int) : Int).toNat).toList == a1.toList)) else (none)) else (none)) else (some false)) = some r := h
 clear h; by_cases c3 : (a0.size : Int) ≥ (a1.size : Int)
 ·rw [if_pos c3] at H; have c3b0 : decide ((a1.size : Int) ≤ (a0.size : Int)) = true := decide_eq_true c3
  have c3b1 : decide (a1.size ≤ a0.size) = true := decide_eq_true (Int.ofNat_le.mp c3)
  clear c3; by_cases c4 : 0 ≤ (a1.size : Int)
  ·rw [if_pos c4] at H; have c4b0 := eq_true c4; have c4b1 : decide (0 ≤ (a1.size : Int)) = true := decide_eq_true c4
   clear c4; by_cases c5 : (a1.size : Int) ≤ (a0.size : Int)
   ·rw [if_pos c5] at H; have c5b0 := eq_true c5; have c5b1 : decide ((a1.size : Int) ≤ (a0.size : Int)) = true := decide_eq_true c5
    clear c5; obtain rfl := Option.some.inj H; go_enter Tryd.func50, Tryd.ntmps50
    go_wp2
    go_ret
    exact ⟨by first | rfl | (simp; done) | (simp [*]; done), by repeat (first | exact Drawn0.refl _ | apply Drawn0.step)⟩
   ·rw [if_neg c5] at H; exact absurd H (by simp)
  ·rw [if_neg c4] at H; exact absurd H (by simp)
 ·rw [if_neg c3] at H; have c3b0 : decide ((a1.size : Int) ≤ (a0.size : Int)) = false := decide_eq_false c3
  have c3b1 : decide (a1.size ≤ a0.size) = false := decide_eq_false (fun h => c3 (Int.ofNat_le.mpr h))
  clear c3; obtain rfl := Option.some.inj H; go_enter Tryd.func50, Tryd.ntmps50
  go_wp2
  go_ret
  exact ⟨by first | rfl | (simp; done) | (simp [*]; done), by repeat (first | exact Drawn0.refl _ | apply Drawn0.step)⟩
def strings_HasPrefix.f (a0 : ByteArray) (a1 : ByteArray) : Option (Bool) := (stringslite_HasPrefix.f a0 a1).bind fun t164 => (some t164)
set_option maxHeartbeats 8000000 in
set_option maxRecDepth 100000 in
theorem strings_HasPrefix.calls (a0 : ByteArray) (a1 : ByteArray) (r : Bool) (w : World) (h : strings_HasPrefix.f a0 a1 = some r) :
  Calls Tryd.prog 47 #[.string a0, .string a1] w fun e w' => e = .returned (.bool r) ∧ Drawn0 w w' := by
 have H : ((stringslite_HasPrefix.f a0 a1).bind fun t164 => (some t164)) = some r := h
 clear h; replace H := Option.bind_eq_some_iff.mp H; obtain ⟨t164, A30, H⟩ := H; replace H : (some t164) = some r := H; have A3 := Aside0.mk A30; clear A30; obtain rfl := Option.some.inj H; go_enter Tryd.func47, Tryd.ntmps47
 go_wp2_with (first | ((with_reducible refine gate_callee (f := 50) rfl ?_); refine goesL_ (some 7) rfl rfl Tryd.func50 (by kernel_rfl) rfl #[.string a0, .string a1] rfl (by (try simp only [List.map_toArray, List.map_cons, List.map_nil]); first | done | rfl | (simp only [List.length_drop, List.length_take]; rfl)) ?_; (with_reducible refine (stringslite_HasPrefix.calls a0 a1 t164 _ A3.out).mono ?_); rintro e w' ⟨rfl, ⟨nd, rfl⟩⟩; refine ⟨_, rfl, ?_⟩))
 go_ret
 exact ⟨by first | rfl | (simp; done) | (simp [*]; done), by repeat (first | exact Drawn0.refl _ | apply Drawn0.step)⟩
end Go.Proofs.YtplcemlennloaaaDoor.A
end
section
namespace Go.Proofs.YtplcemlennloaaaDoor
open Go Go.RowKit Go.Proofs.YtplcemlennloaaaDoorW.PrintWords Go.Proofs.YtplcemlennloaaaDoor.A Go.Proofs.YtplcemlennloaaaDoor.Op
abbrev laidL : List (String × DataW Unit) := [("unicode.White_Space", Rows.laid_unicode_White_Space), ("strings.asciiSpace", Rows.laid_strings_asciiSpace)]
theorem tab_data : (Rows.laid_strings_asciiSpace : DataW Unit) = Lib.tabData .u8 Lib.asciiSpaceTab := by kernel_rfl
theorem laid_tab {W : World} (h : laidMetH Tryd.prog laidL W) : Tab W := by
 rw [MakeChecks.laidMetH_plain _ _ _ (by kernel_rfl)] at h
 obtain ⟨ps, ⟨_, _, _, _, _, _, _, _, _, _, ⟨g, t, cs, fuel, p, q, hg, hty, hvar, hd, _, _⟩, _⟩, _⟩ := h; refine Tab.of ?_
 obtain rfl := Option.some.inj (hg157.symm.trans hg); obtain ⟨n, e, h1, h2, h3, h4, h5⟩ : ∃ n e, (Tryd.prog.globals[ren.g 0]?).map (·.type) = some t ∧ Tryd.prog.underlying t = some (.array n e) ∧ Tryd.prog.underlying e = some (.int .u8) ∧ Tryd.prog.cellsOf e = 1 ∧ Tryd.prog.cellsOf t = n := by
  have e0 : (Tryd.prog.globals[ren.g 0]?).map (·.type) = some 65 := by kernel_rfl
  obtain rfl := Option.some.inj (e0.symm.trans hty); exact ⟨256, 5, hty, by kernel_rfl, by kernel_rfl, by kernel_rfl, by kernel_rfl⟩
 rw [tab_data] at hd; unfold Lib.TabIs
 rw [hvar, ← Lib.cells_of_tab h2 h3 h4 h5 hd]
end Go.Proofs.YtplcemlennloaaaDoor
end
section
namespace Go.Proofs.YtplcemlennloaaaDoor.B
open Go Go.RowKit Go.Shelf Go.Proofs.YtplcemlennloaaaDoorW.PrintWords Go.Proofs.YtplcemlennloaaaDoorW.PrintLast Go.Proofs.YtplcemlennloaaaDoorW.PrintMore Go.Proofs.YtplcemlennloaaaDoor Go.Proofs.YtplcemlennloaaaDoor.A
def strings_Fields.f (_k : Nat) (a0 : ByteArray) : Option (List ByteArray) :=
 if a0.size < 4294967281 ∧ a0.data.toList.all (fun b => decide (b.toNat < 128)) = true ∧ (Lib.fields a0.data.toList).length ≤ maxLen then some ((Lib.fields a0.data.toList).map fun l => ⟨l.toArray⟩) else none
theorem strings_Fields.mono : ∀ a0 k, LeO (strings_Fields.f k a0) (strings_Fields.f (k + 1) a0) := fun _ _ => LeO.refl _
theorem new_at {w : World} {g : Nat} (o : Obj) (hg : g = w.heap.size) : (w.alloc o).heap[g]? = some o := by
 subst hg; exact Go.heap_alloc_new _ _
theorem strings_Fields.calls (k : Nat) (a0 : ByteArray) (r : List ByteArray) (w : World) (h : strings_Fields.f k a0 = some r) (hT : Tab w) :
  Calls Tryd.prog 37 #[.string a0] w fun e w' => ∃ v0_ : Value, e = .returned (v0_) ∧ Kd.R Kd.string 9 w' w.heap.size (fun _ => True) v0_ r ∧ Below w.heap.size w w' := by
 unfold strings_Fields.f at h
 by_cases hc : a0.size < 4294967281 ∧ a0.data.toList.all (fun b => decide (b.toNat < 128)) = true ∧ (Lib.fields a0.data.toList).length ≤ maxLen
 case neg => rw [if_neg hc] at h; cases h
 rw [if_pos hc] at h; obtain rfl := Option.some.inj h; obtain ⟨h1, h2, h3⟩ := hc; refine (fields_calls a0 w h1 (fun j b hb => ?_) hT).mono ?_
 ·have := List.all_eq_true.1 h2 b (List.mem_of_getElem? hb)
  simpa using this
 ·rintro e w' ⟨rfl, rfl⟩
  refine ⟨_, rfl, ?_, below_alloc (Below.refl _ _) _⟩
  have hl : ((Lib.fields a0.data.toList).map fun l => (⟨l.toArray⟩ : ByteArray)).length = (Lib.fields a0.data.toList).length := by simp
  rw [← hl]; refine Kd.R_of_own (enc := Value.string) (h1 := fun _ => rfl) ⟨by simp [encs], .inr ⟨w.heap.size, _, _, rfl, Nat.le_refl _, new_at _ rfl, Nat.le_refl _, by rw [hl]; exact h3, by simp, ?_⟩⟩ (fun _ _ => trivial)
  simp [encs, List.map_map, Function.comp_def, List.take_of_length_le]
end Go.Proofs.YtplcemlennloaaaDoor.B
end
section
namespace Go.Proofs.YtplcemlennloaaaDoor.S
open Go.RowKit Go.Proofs.YtplcemlennloaaaDoorW.PrintWords Go.Proofs.YtplcemlennloaaaDoorW.PrintLast Go.Proofs.YtplcemlennloaaaDoorW.PrintMore Go.Proofs.YtplcemlennloaaaDoor Go.Proofs.YtplcemlennloaaaDoor.A Go.Proofs.YtplcemlennloaaaDoor.B
set_option linter.unusedVariables false
set_option linter.unusedSimpArgs false
mutual
def lex_sign.l0 : Nat → ByteArray → Int → List ByteArray → Int → Int → Option (ByteArray)
 | 0, _, _, _, _, _ => none
 | k + 1, x0, x1, x9, x10, x11 => if x11 < x10 then (if 0 ≤ x11 then (if x11 < (x9.length : Int) then ((strings_Fields.f k (rdOf ByteArray.empty x9 x11)).bind fun t105 => (lex_sign.l1 k x0 x1 x9 x10 x11 t105 (t105.length : Int) 0)) else (none)) else (none)) else (some (⟨#[]⟩ : ByteArray))
def lex_sign.l1 : Nat → ByteArray → Int → List ByteArray → Int → Int → List ByteArray → Int → Int → Option (ByteArray)
 | 0, _, _, _, _, _, _, _, _ => none
 | k + 1, x0, x1, x9, x10, x11, x16, x17, x18 => if x18 < x17 then (if 0 ≤ x18 then (if x18 < (x16.length : Int) then (if 0 ≤ x1 then (if x1 ≤ (x0.size : Int) then ((strings_HasPrefix.f (x0.extract (x1 : Int).toNat x0.size) (rdOf ByteArray.empty x16 x18)).bind fun t109 => (if t109 = true then (some (rdOf ByteArray.empty x16 x18)) else (lex_sign.l1 k x0 x1 x9 x10 x11 x16 x17 (wrap64 (x18 + 1))))) else (none)) else (none)) else (none)) else (none)) else (lex_sign.l0 k x0 x1 x9 x10 (wrap64 (x11 + 1)))
end
def lex_sign.f (k : Nat) (a0 : ByteArray) (a1 : Int) : Option (ByteArray) := (some (([(⟨#[62, 62, 62]⟩ : ByteArray), (⟨#[60, 60, 32, 62, 62, 32, 60, 61, 32, 62, 61, 32, 61, 61, 32, 33, 61, 32, 60, 58, 32, 38, 38, 32, 124, 124]⟩ : ByteArray), (⟨#[40, 32, 41, 32, 123, 32, 125, 32, 91, 32, 93, 32, 44, 32, 59, 32, 61, 32, 43, 32, 45, 32, 42, 32, 47, 32, 37, 32, 38, 32, 124, 32, 94, 32, 126, 32, 33, 32, 60, 32, 62]⟩ : ByteArray)] : List ByteArray) : List ByteArray)).bind fun y101 => (lex_sign.l0 k a0 a1 y101 (y101.length : Int) 0)
theorem lex_sign.mono_l : ∀ k, (∀ y0 y1 y2 y3 y4, LeO (lex_sign.l0 k y0 y1 y2 y3 y4) (lex_sign.l0 (k + 1) y0 y1 y2 y3 y4)) ∧ (∀ y0 y1 y2 y3 y4 y5 y6 y7, LeO (lex_sign.l1 k y0 y1 y2 y3 y4 y5 y6 y7) (lex_sign.l1 (k + 1) y0 y1 y2 y3 y4 y5 y6 y7))
 | 0 => ⟨fun _ _ _ _ _ r h => by simp [lex_sign.l0] at h, fun _ _ _ _ _ _ _ _ r h => by simp [lex_sign.l1] at h⟩
 | k + 1 => by
  obtain ⟨ih0, ih1⟩ := lex_sign.mono_l k; refine ⟨?_, ?_⟩
  ·intro y0 y1 y2 y3 y4
   unfold lex_sign.l0
   repeat' first
   | (with_reducible exact ih0 _ _ _ _ _)
   | (with_reducible exact ih1 _ _ _ _ _ _ _ _)
   | (with_reducible exact strings_Fields.mono _ _)
   | (with_reducible exact LeO.refl _)
   | (with_reducible exact LeO.none _)
   | (with_reducible refine LeO.ite ?_ ?_)
   | (with_reducible refine LeO.bind ?_ (fun _ => ?_))
  ·intro y0 y1 y2 y3 y4 y5 y6 y7
   unfold lex_sign.l1
   repeat' first
   | (with_reducible exact ih0 _ _ _ _ _)
   | (with_reducible exact ih1 _ _ _ _ _ _ _ _)
   | (with_reducible exact strings_Fields.mono _ _)
   | (with_reducible exact LeO.refl _)
   | (with_reducible exact LeO.none _)
   | (with_reducible refine LeO.ite ?_ ?_)
   | (with_reducible refine LeO.bind ?_ (fun _ => ?_))
theorem lex_sign.mono : ∀ a0 a1 k, LeO (lex_sign.f k a0 a1) (lex_sign.f (k + 1) a0 a1) := by
 intro a0 a1 k
 obtain ⟨ih0, ih1⟩ := lex_sign.mono_l k; unfold lex_sign.f
 repeat' first
   | (with_reducible exact ih0 _ _ _ _ _)
   | (with_reducible exact ih1 _ _ _ _ _ _ _ _)
   | (with_reducible exact strings_Fields.mono _ _)
   | (with_reducible exact LeO.refl _)
   | (with_reducible exact LeO.none _)
   | (with_reducible refine LeO.ite ?_ ?_)
   | (with_reducible refine LeO.bind ?_ (fun _ => ?_))
set_option maxHeartbeats 8000000 in
set_option maxRecDepth 100000 in
theorem lex_sign.calls (k : Nat) (a0 : ByteArray) (a1 : Int) (r : ByteArray) (w : World) (h : lex_sign.f k a0 a1 = some r) (hT : Tab w) :
  Calls Tryd.prog 40 #[.string a0, .int .i64 a1] w fun e w' => e = .returned (.string r) ∧ Below w.heap.size w w' := by
 have HT := Aside0.mk hT; clear hT; have HB := Aside0.mk (Below.refl w.heap.size w); have H : ((some (([(⟨#[62, 62, 62]⟩ : ByteArray), (⟨#[60, 60, 32, 62, 62, 32, 60, 61, 32, 62, 61, 32, 61, 61, 32, 33, 61, 32, 60, 58, 32, 38, 38, 32, 124, 124]⟩ : ByteArray), (⟨#[40, 32, 41, 32, 123, 32, 125, 32, 91, 32, 93, 32, 44, 32, 59, 32, 61, 32, 43, 32, 45, 32, 42, 32, 47, 32, 37, 32, 38, 32, 124, 32, 94, 32, 126, 32, 33, 32, 60, 32, 62]⟩ : ByteArray)] : List ByteArray) : List ByteArray)).bind fun y101 => (lex_sign.l0 k a0 a1 y101 (y101.length : Int) 0)) = some r := h
 clear h; obtain ⟨y101, hy101⟩ : ∃ y_ : List ByteArray, y_ = (([(⟨#[62, 62, 62]⟩ : ByteArray), (⟨#[60, 60, 32, 62, 62, 32, 60, 61, 32, 62, 61, 32, 61, 61, 32, 33, 61, 32, 60, 58, 32, 38, 38, 32, 124, 124]⟩ : ByteArray), (⟨#[40, 32, 41, 32, 123, 32, 125, 32, 91, 32, 93, 32, 44, 32, 59, 32, 61, 32, 43, 32, 45, 32, 42, 32, 47, 32, 37, 32, 38, 32, 124, 32, 94, 32, 126, 32, 33, 32, 60, 32, 62]⟩ : ByteArray)] : List ByteArray)) := ⟨_, rfl⟩; replace H : (lex_sign.l0 k a0 a1 y101 (y101.length : Int) 0) = some r := by first | (with_reducible first | (rw [hy101]; exact H) | exact H) | (have H2_ := (Option.bind_some _ _).symm.trans H; first | with_reducible exact H2_ | (rw [hy101]; exact H2_)) | (rw [hy101]; exact H) | exact H
 have Ny101 := Aside0.mk hy101; clear hy101; have H' := Aside0.mk H
 clear H; go_enter Tryd.func40, Tryd.ntmps40
 go_wp2_with (first | ((with_reducible refine gate_dst (N := 9) rfl ?_); refine Kd.R_lit Kd.string _ 9 ?hg (N := 9) ?hd (xs := ([(⟨#[62, 62, 62]⟩ : ByteArray), (⟨#[60, 60, 32, 62, 62, 32, 60, 61, 32, 62, 61, 32, 61, 61, 32, 33, 61, 32, 60, 58, 32, 38, 38, 32, 124, 124]⟩ : ByteArray), (⟨#[40, 32, 41, 32, 123, 32, 125, 32, 91, 32, 93, 32, 44, 32, 59, 32, 61, 32, 43, 32, 45, 32, 42, 32, 47, 32, 37, 32, 38, 32, 124, 32, 94, 32, 126, 32, 33, 32, 60, 32, 62]⟩ : ByteArray)] : List ByteArray)) (inner := [.string (⟨#[62, 62, 62]⟩ : ByteArray), .string (⟨#[60, 60, 32, 62, 62, 32, 60, 61, 32, 62, 61, 32, 61, 61, 32, 33, 61, 32, 60, 58, 32, 38, 38, 32, 124, 124]⟩ : ByteArray), .string (⟨#[40, 32, 41, 32, 123, 32, 125, 32, 91, 32, 93, 32, 44, 32, 59, 32, 61, 32, 43, 32, 45, 32, 42, 32, 47, 32, 37, 32, 38, 32, 124, 32, 94, 32, 126, 32, 33, 32, 60, 32, 62]⟩ : ByteArray)]) (ok := fun _ => True) (okp := fun _ => True) ?hr ?hp (fun _ hk => hk) trivial (Below.refl _ _) (Nat.le_refl _) (by simp) ?_; (case hd => rfl); (case hg => rfl); (case hr => first | (go_simp; done) | (go_simp; rfl)); (case hp => exact (Reps.one (show Kd.M Kd.string _ _ _ (⟨#[62, 62, 62]⟩ : ByteArray) [.string (⟨#[62, 62, 62]⟩ : ByteArray)] from rfl) (Reps.one (show Kd.M Kd.string _ _ _ (⟨#[60, 60, 32, 62, 62, 32, 60, 61, 32, 62, 61, 32, 61, 61, 32, 33, 61, 32, 60, 58, 32, 38, 38, 32, 124, 124]⟩ : ByteArray) [.string (⟨#[60, 60, 32, 62, 62, 32, 60, 61, 32, 62, 61, 32, 61, 61, 32, 33, 61, 32, 60, 58, 32, 38, 38, 32, 124, 124]⟩ : ByteArray)] from rfl) (Reps.one (show Kd.M Kd.string _ _ _ (⟨#[40, 32, 41, 32, 123, 32, 125, 32, 91, 32, 93, 32, 44, 32, 59, 32, 61, 32, 43, 32, 45, 32, 42, 32, 47, 32, 37, 32, 38, 32, 124, 32, 94, 32, 126, 32, 33, 32, 60, 32, 62]⟩ : ByteArray) [.string (⟨#[40, 32, 41, 32, 123, 32, 125, 32, 91, 32, 93, 32, 44, 32, 59, 32, 61, 32, 43, 32, 45, 32, 42, 32, 47, 32, 37, 32, 38, 32, 124, 32, 94, 32, 126, 32, 33, 32, 60, 32, 62]⟩ : ByteArray)] from rfl) (Reps.none _ _))))); intro v102 w3 ho4 hb hg_ hnew_; clear hg_ hnew_; (first | rw [← Ny101.out] at ho4 | (simp only [Int.reduceToNat] at ho4; rw [← Ny101.out] at ho4)); have n0_ := Aside0.mk (Kd.R_lower ho4 (below_size (by repeat (first | (with_reducible first | exact HB.out | apply below_alloc | apply pw_below_drewN | apply below_drew1) | exact HB.out)))); have n1_ := Aside0.mk (below_step (by repeat (first | (with_reducible first | exact HB.out | apply below_alloc | apply pw_below_drewN | apply below_drew1) | exact HB.out)) hb); clear HB; have HO103 := n0_; have HB := n1_; clear n0_ n1_; clear hb ho4; obtain ⟨Ao5, co5, eo5⟩ := Kd.R_slice HO103.out; subst eo5))
 go_loopg [11] k (fun kq v11 w' => ∃ (x11_1 : Int), v11 = .int .i64 x11_1 ∧ Aside0 (lex_sign.l0 kq a0 a1 y101 (y101.length : Int) x11_1 = some r) ∧ Aside0 (kq ≤ k) ∧ Aside0 (Kd.R Kd.string 9 w' w.heap.size (fun _ => True) (.slice Ao5 y101.length co5) y101) ∧ Aside0 (Below w.heap.size w w'))
 case atStart => exact ⟨(0), (by first | rfl | (simp; done) | (simp [*]; done)), H', ⟨Nat.le_refl _⟩, ⟨by (with_reducible repeat (first | apply Kd.R_alloc | apply Kd.R_drewN | apply Kd.R_drew)); exact HO103.out⟩, ⟨by repeat (first | (with_reducible first | exact HB.out | apply below_alloc | apply pw_below_drewN | apply below_drew1) | exact HB.out)⟩⟩
 case round =>
  clear H'; try clear p2
  try clear c4
  obtain ⟨x11_1, rfl, HA, HK1, HO_9, HB⟩ := hrel; cases gk with
  | zero => exact absurd HA.out (by simp [lex_sign.l0])
  | succ k1 =>
   have H := HA.out; clear HA; simp only [lex_sign.l0] at H
   by_cases c6 : x11_1 < (y101.length : Int)
   ·rw [if_pos c6] at H; have c6b0 : decide (x11_1 < (y101.length : Int)) = true := decide_eq_true c6
    clear c6; by_cases c7 : 0 ≤ x11_1
    ·rw [if_pos c7] at H; have c7b0 : decide (0 ≤ x11_1) = true := decide_eq_true c7
     clear c7; by_cases c8 : x11_1 < (y101.length : Int)
     ·rw [if_pos c8] at H; have c8b0 : decide (x11_1 < (y101.length : Int)) = true := decide_eq_true c8
      clear c8; replace H := Option.bind_eq_some_iff.mp H; obtain ⟨t105, A90, H⟩ := H; replace H : (lex_sign.l1 k1 a0 a1 y101 (y101.length : Int) x11_1 t105 (t105.length : Int) 0) = some r := H; have A9 := Aside0.mk A90; clear A90; have H' := Aside0.mk H
      clear H; have p104 : 0 ≤ (x11_1 : Int) := of_decide_eq_true (by with_reducible assumption)
      have q104 : x11_1 < (y101.length : Int) := of_decide_eq_true (by with_reducible assumption)
      obtain ⟨ad104, e104, hx104_0⟩ := Kd.at_string (Kd.R_reads' HO_9.out).2.2 x11_1 p104 q104; cases e104; replace p104 := eq_true p104; replace q104 := eq_true q104; go_wp2_with (first | ((with_reducible refine gate_callee (f := 37) rfl ?_); refine goesL_ (some 16) rfl rfl Tryd.func37 (by kernel_rfl) rfl #[.string (rdOf ByteArray.empty y101 x11_1)] rfl (by (try simp only [List.map_toArray, List.map_cons, List.map_nil]); first | done | rfl | (simp only [List.length_drop, List.length_take]; rfl)) ?_; (with_reducible refine (strings_Fields.calls k1 (rdOf ByteArray.empty y101 x11_1) t105 _ A9.out (HT.out.below (by repeat (first | (with_reducible first | exact HB.out | apply below_alloc | apply pw_below_drewN | apply below_drew1) | exact HB.out)))).mono ?_); rintro e w10 ⟨v106, rfl, ho0, hb⟩; refine ⟨_, rfl, ?_⟩; have n0_ := Aside0.mk (Kd.R_elder' (by (with_reducible repeat (first | apply Kd.R_alloc | apply Kd.R_drewN | apply Kd.R_drew)); exact HO_9.out) (Kd.R_base ho0) hb); have n1_ := Aside0.mk (Kd.R_lower (Kd.R_new' ho0 (Kd.R_lt (by (with_reducible repeat (first | apply Kd.R_alloc | apply Kd.R_drewN | apply Kd.R_drew)); exact HO_9.out))) (below_size (by repeat (first | (with_reducible first | exact HB.out | apply below_alloc | apply pw_below_drewN | apply below_drew1) | exact HB.out)))); have n2_ := Aside0.mk (below_step (by repeat (first | (with_reducible first | exact HB.out | apply below_alloc | apply pw_below_drewN | apply below_drew1) | exact HB.out)) hb); clear HO_9; clear HB; have HO_9 := n0_; have HO107 := n1_; have HB := n2_; clear n0_ n1_ n2_; (try clear hb); (try clear hb2); (try clear hk); (try clear hi); (try clear ho0); obtain ⟨Ao11, co11, eo11⟩ := Kd.R_slice HO107.out; subst eo11))
      go_loopg [18] k1 (fun kq v18 w' => ∃ (x18_2 : Int), v18 = .int .i64 x18_2 ∧ Aside0 (lex_sign.l1 kq a0 a1 y101 (y101.length : Int) x11_1 t105 (t105.length : Int) x18_2 = some r) ∧ Aside0 (kq ≤ k1) ∧ Aside0 (Kd.R Kd.string 9 w' w.heap.size (fun k_ => some k_ ≠ ((.slice Ao11 t105.length co11) : Value).ownBlock) (.slice (some ad104) y101.length co5) y101) ∧ Aside0 (Kd.R Kd.string 9 w' w.heap.size (fun k_ => some k_ ≠ ((.slice (some ad104) y101.length co5) : Value).ownBlock) (.slice Ao11 t105.length co11) t105) ∧ Aside0 (Below w.heap.size w w'))
      case atStart => exact ⟨(0), (by first | rfl | (simp; done) | (simp [*]; done)), H', ⟨Nat.le_refl _⟩, ⟨by (with_reducible repeat (first | apply Kd.R_alloc | apply Kd.R_drewN | apply Kd.R_drew)); exact Kd.R_mono HO_9.out (fun _ hk => hk.2)⟩, ⟨by (with_reducible repeat (first | apply Kd.R_alloc | apply Kd.R_drewN | apply Kd.R_drew)); exact Kd.R_mono HO107.out (fun _ hk => hk.2)⟩, ⟨by repeat (first | (with_reducible first | exact HB.out | apply below_alloc | apply pw_below_drewN | apply below_drew1) | exact HB.out)⟩⟩
      case round =>
       clear H'; try clear p1
       try clear q1
       try clear hx1
       try clear p2
       try clear c3
       try clear c4
       try clear c6
       try clear c6b0
       try clear c7
       try clear c7b0
       try clear c8
       try clear c8b0
       try clear p10
       try clear q10
       try clear hx10
       try clear hx104_0
       try clear p104
       try clear p2
       try clear q104
       obtain ⟨x18_2, rfl, HA, HK2, HO_9, HO_16, HB⟩ := hrel; cases gk with
       | zero => exact absurd HA.out (by simp [lex_sign.l1])
       | succ k2 =>
        have H := HA.out; clear HA; simp only [lex_sign.l1] at H
        by_cases c12 : x18_2 < (t105.length : Int)
        ·rw [if_pos c12] at H; have c12b0 : decide (x18_2 < (t105.length : Int)) = true := decide_eq_true c12
         clear c12; by_cases c13 : 0 ≤ x18_2
         ·rw [if_pos c13] at H; have c13b0 : decide (0 ≤ x18_2) = true := decide_eq_true c13
          clear c13; by_cases c14 : x18_2 < (t105.length : Int)
          ·rw [if_pos c14] at H; have c14b0 : decide (x18_2 < (t105.length : Int)) = true := decide_eq_true c14
           clear c14; by_cases c15 : 0 ≤ a1
           ·rw [if_pos c15] at H; have c15b0 := eq_true c15; have c15b1 : decide (0 ≤ a1) = true := decide_eq_true c15
            clear c15; by_cases c16 : a1 ≤ (a0.size : Int)
            ·rw [if_pos c16] at H; have c16b0 := eq_true c16; have c16b1 : decide (a1 ≤ (a0.size : Int)) = true := decide_eq_true c16
             clear c16; replace H := Option.bind_eq_some_iff.mp H; obtain ⟨t109, A170, H⟩ := H; replace H : (if t109 = true then (some (rdOf ByteArray.empty t105 x18_2)) else (lex_sign.l1 k2 a0 a1 y101 (y101.length : Int) x11_1 t105 (t105.length : Int) (wrap64 (x18_2 + 1)))) = some r := H
             have A17 := Aside0.mk A170; clear A170; by_cases c18 : t109 = true
             ·subst c18; have H1 : (some (rdOf ByteArray.empty t105 x18_2)) = some r := by rw [if_pos rfl] at H; exact H
              clear H; have H := H1; clear H1; obtain rfl := Option.some.inj H; have p108 : 0 ≤ (x18_2 : Int) := of_decide_eq_true (by with_reducible assumption)
              have q108 : x18_2 < (t105.length : Int) := of_decide_eq_true (by with_reducible assumption)
              obtain ⟨ad108, e108, hx108_0⟩ := Kd.at_string (Kd.R_reads' HO_16.out).2.2 x18_2 p108 q108; cases e108; replace p108 := eq_true p108; replace q108 := eq_true q108; go_wp2_with (first | ((with_reducible refine gate_callee (f := 47) rfl ?_); refine goesL_ (some 26) rfl rfl Tryd.func47 (by kernel_rfl) rfl #[.string (a0.extract (a1 : Int).toNat a0.size), .string (rdOf ByteArray.empty t105 x18_2)] rfl (by (try simp only [List.map_toArray, List.map_cons, List.map_nil]); first | done | rfl | (simp only [List.length_drop, List.length_take]; rfl)) ?_; (with_reducible refine (strings_HasPrefix.calls (a0.extract (a1 : Int).toNat a0.size) (rdOf ByteArray.empty t105 x18_2) true _ A17.out).mono ?_); rintro e w' ⟨rfl, ⟨nd, rfl⟩⟩; refine ⟨_, rfl, ?_⟩))
              go_ret
              exact ⟨by first | rfl | (simp [errW_none, errW_some] <;> rfl) | (simp [*, errW_none, errW_some] <;> rfl), by repeat (first | (with_reducible first | exact HB.out | apply below_alloc | apply pw_below_drewN | apply below_drew1) | exact HB.out)⟩
             ·replace c18 := Bool.eq_false_iff.mpr c18; subst c18; have H1 : (lex_sign.l1 k2 a0 a1 y101 (y101.length : Int) x11_1 t105 (t105.length : Int) (wrap64 (x18_2 + 1))) = some r := by rw [if_neg (show ¬ (false = true) by decide)] at H; exact H
              clear H; have H := H1; clear H1; have H' := Aside0.mk H
              clear H; have p108 : 0 ≤ (x18_2 : Int) := of_decide_eq_true (by with_reducible assumption)
              have q108 : x18_2 < (t105.length : Int) := of_decide_eq_true (by with_reducible assumption)
              obtain ⟨ad108, e108, hx108_0⟩ := Kd.at_string (Kd.R_reads' HO_16.out).2.2 x18_2 p108 q108; cases e108; replace p108 := eq_true p108; replace q108 := eq_true q108; go_wp2_with (first | ((with_reducible refine gate_callee (f := 47) rfl ?_); refine goesL_ (some 26) rfl rfl Tryd.func47 (by kernel_rfl) rfl #[.string (a0.extract (a1 : Int).toNat a0.size), .string (rdOf ByteArray.empty t105 x18_2)] rfl (by (try simp only [List.map_toArray, List.map_cons, List.map_nil]); first | done | rfl | (simp only [List.length_drop, List.length_take]; rfl)) ?_; (with_reducible refine (strings_HasPrefix.calls (a0.extract (a1 : Int).toNat a0.size) (rdOf ByteArray.empty t105 x18_2) false _ A17.out).mono ?_); rintro e w' ⟨rfl, ⟨nd, rfl⟩⟩; refine ⟨_, rfl, ?_⟩))
              go_roundg k2
              case measure => have := HK1.out; have := HK2.out; omega
              case rel => exact ⟨(wrap64 (x18_2 + 1)), (by first | rfl | (simp; done) | (simp [*]; done)), H', ⟨by have := HK1.out; have := HK2.out; omega⟩, ⟨by (with_reducible repeat (first | apply Kd.R_alloc | apply Kd.R_drewN | apply Kd.R_drew)); exact HO_9.out⟩, ⟨by (with_reducible repeat (first | apply Kd.R_alloc | apply Kd.R_drewN | apply Kd.R_drew)); exact HO_16.out⟩, ⟨by repeat (first | (with_reducible first | exact HB.out | apply below_alloc | apply pw_below_drewN | apply below_drew1) | exact HB.out)⟩⟩
            ·rw [if_neg c16] at H; exact absurd H (by simp)
           ·rw [if_neg c15] at H; exact absurd H (by simp)
          ·rw [if_neg c14] at H; exact absurd H (by simp)
         ·rw [if_neg c13] at H; exact absurd H (by simp)
        ·rw [if_neg c12] at H; have c12b0 : decide (x18_2 < (t105.length : Int)) = false := decide_eq_false c12
         clear c12; have H' := Aside0.mk H
         clear H; go_wp2
         go_roundg k2
         case measure => have := HK1.out; have := HK2.out; omega
         case rel => exact ⟨(wrap64 (x11_1 + 1)), (by first | rfl | (simp; done) | (simp [*]; done)), H', ⟨by have := HK1.out; have := HK2.out; omega⟩, ⟨by (with_reducible repeat (first | apply Kd.R_alloc | apply Kd.R_drewN | apply Kd.R_drew)); exact Kd.R_mono HO_9.out (fun _ hk => trivial)⟩, ⟨by repeat (first | (with_reducible first | exact HB.out | apply below_alloc | apply pw_below_drewN | apply below_drew1) | exact HB.out)⟩⟩
     ·rw [if_neg c8] at H; exact absurd H (by simp)
    ·rw [if_neg c7] at H; exact absurd H (by simp)
   ·rw [if_neg c6] at H; have c6b0 : decide (x11_1 < (y101.length : Int)) = false := decide_eq_false c6
    clear c6; obtain rfl := Option.some.inj H; go_wp2
    go_ret
    exact ⟨by first | rfl | (simp [errW_none, errW_some] <;> rfl) | (simp [*, errW_none, errW_some] <;> rfl), by repeat (first | (with_reducible first | exact HB.out | apply below_alloc | apply pw_below_drewN | apply below_drew1) | exact HB.out)⟩
end Go.Proofs.YtplcemlennloaaaDoor.S
end
section
namespace LexM
abbrev By := UInt8
def letter (c : By) : Bool := (decide (97 ≤ c.toNat) && decide (c.toNat ≤ 122)) || (decide (65 ≤ c.toNat) && decide (c.toNat ≤ 90))
def digit (c : By) : Bool := decide (48 ≤ c.toNat) && decide (c.toNat ≤ 57)
def inner (c : By) : Bool := letter c || digit c || c == 95
def blank (c : By) : Bool := c == 32 || c == 9 || c == 10 || c == 13
def words : List (List By) := [[102, 117, 110, 99], [107, 101, 114, 110, 101, 108], [98, 117, 102, 102, 101, 114], [105, 110, 116], [115, 104, 97, 114, 101, 100], [108, 101, 116], [105, 102], [101, 108, 115, 101], [119, 104, 105, 108, 101], [98, 114, 101, 97, 107], [99, 111, 110, 116, 105, 110, 117, 101], [114, 101, 116, 117, 114, 110], [98, 97, 114, 114, 105, 101, 114], [97, 116, 111, 109, 105, 99], [99, 111, 108, 108, 101, 99, 116], [116, 105, 100], [98, 105, 100], [100, 105, 109], [103, 114, 105, 100], [109, 105, 110], [109, 97, 120], [97, 100, 100], [97, 110, 100], [111, 114], [120, 111, 114]]
def signs : List (List By) := [[62, 62, 62], [60, 60], [62, 62], [60, 61], [62, 61], [61, 61], [33, 61], [60, 58], [38, 38], [124, 124], [40], [41], [123], [125], [91], [93], [44], [59], [61], [43], [45], [42], [47], [37], [38], [124], [94], [126], [33], [60], [62]]
def value (n : Nat) : List By → Option Nat
 | [] => some n
 | c :: cs => if 10 * n + (c.toNat - 48) > 2147483648 then none else value (10 * n + (c.toNat - 48)) cs
structure Tk where
 kind : Nat
 text : List By
 num : Nat
 deriving DecidableEq
def ends (l : List By) : Bool := match l with
 | [] => true
 | c :: _ => !inner c
def one (l : List By) : Option Tk := match l with
 | [] => none
 | c :: _ =>
  if letter c then (if l.takeWhile inner ∈ words then some ⟨2, l.takeWhile inner, 0⟩ else if (l.takeWhile inner).length ≤ 16 then some ⟨0, l.takeWhile inner, 0⟩ else none)
  else if digit c then (match value 0 (l.takeWhile digit) with
   | none => none
   | some n => if ends (l.dropWhile digit) then some ⟨1, l.takeWhile digit, n⟩ else none)
  else (signs.find? fun s => s.isPrefixOf l).map fun s => ⟨2, s, 0⟩
def gapc (c : By) : Bool := blank c || c == 35
inductive Lx : Nat → List By → List (Nat × Tk) → Prop
 | nil {a : Nat} : Lx a [] []
 | note {a : Nat} {l : List By} {ts : List (Nat × Tk)} : Lx (a + 1 + (l.takeWhile fun c => c != 10).length) (l.dropWhile fun c => c != 10) ts → Lx a (35 :: l) ts
 | skip {a : Nat} {c : By} {l : List By} {ts : List (Nat × Tk)} : blank c = true → Lx (a + 1) l ts → Lx a (c :: l) ts
 | tok {a : Nat} {c : By} {l : List By} {t : Tk} {ts : List (Nat × Tk)} : gapc c = false → one (c :: l) = some t → Lx (a + t.text.length) ((c :: l).drop t.text.length) ts → Lx a (c :: l) ((a, t) :: ts)
theorem isPrefix_len {s l : List By} (h : s.isPrefixOf l = true) : s.length ≤ l.length := by
 have := List.isPrefixOf_iff_prefix.1 h
 exact this.length_le
theorem signs_ne : ∀ s ∈ signs, s ≠ [] ∧ s.length ≤ 3 := by decide
theorem signs_gap : ∀ s ∈ signs, s.all (fun c => !gapc c && !inner c) = true := by decide
theorem take_inner_ne {c : By} {l : List By} (h : inner c = true) : (c :: l).takeWhile inner ≠ [] := by simp [h]
theorem letter_inner {c : By} (h : letter c = true) : inner c = true := by simp [inner, h]
theorem digit_inner {c : By} (h : digit c = true) : inner c = true := by simp [inner, h]
theorem one_prefix {l : List By} {t : Tk} (h : one l = some t) : t.text <+: l ∧ t.text ≠ [] := by
 cases l with
 | nil => cases h
 | cons c cs =>
  simp only [one] at h
  by_cases h1 : letter c = true
  ·rw [if_pos h1] at h; have hp : (c :: cs).takeWhile inner <+: c :: cs := List.takeWhile_prefix _
   have hn := take_inner_ne (l := cs) (letter_inner h1); by_cases h2 : (c :: cs).takeWhile inner ∈ words
   ·rw [if_pos h2] at h; obtain rfl := Option.some.inj h; exact ⟨hp, hn⟩
   ·rw [if_neg h2] at h; by_cases h3 : ((c :: cs).takeWhile inner).length ≤ 16
    ·rw [if_pos h3] at h; obtain rfl := Option.some.inj h; exact ⟨hp, hn⟩
    ·rw [if_neg h3] at h; cases h
  ·rw [if_neg h1] at h; by_cases h2 : digit c = true
   ·rw [if_pos h2] at h; cases hv : value 0 ((c :: cs).takeWhile digit) with
    | none => rw [hv] at h; cases h
    | some n =>
     rw [hv] at h; simp only at h
     by_cases h3 : ends ((c :: cs).dropWhile digit) = true
     ·rw [if_pos h3] at h; obtain rfl := Option.some.inj h; exact ⟨List.takeWhile_prefix _, by simp [h2]⟩
     ·rw [if_neg h3] at h; cases h
   ·rw [if_neg h2] at h; obtain ⟨s, hs, rfl⟩ := Option.map_eq_some_iff.1 h; have hm := List.mem_of_find?_eq_some hs; exact ⟨List.isPrefixOf_iff_prefix.1 (List.find?_some (p := fun s : List By => s.isPrefixOf (c :: cs)) hs), (signs_ne s hm).1⟩
theorem gap_inner {c : By} (h : gapc c = true) : inner c = false := by
 simp only [gapc, blank, Bool.or_eq_true, beq_iff_eq] at h
 rcases h with (((rfl | rfl) | rfl) | rfl) | rfl <;> decide
theorem letter_gap {c : By} (h : inner c = true) : gapc c = false := by
 cases e : gapc c with
 | false => rfl
 | true => rw [gap_inner e] at h; cases h
def Sep (r : List By) : Prop := r = [] ∨ ∃ c r', r = c :: r' ∧ gapc c = true
theorem Sep.take {r : List By} (h : Sep r) {p : By → Bool} (hp : ∀ c, p c = true → inner c = true) : r.takeWhile p = [] ∧ r.dropWhile p = r := by
 rcases h with rfl | ⟨c, r', rfl, hc⟩
 ·exact ⟨rfl, rfl⟩
 ·have : p c = false := by
   cases e : p c with
   | false => rfl
   | true => have := hp c e; rw [gap_inner hc] at this; cases this
  simp [this]
theorem Sep.ends {r : List By} (h : Sep r) : ends r = true := by
 rcases h with rfl | ⟨c, r', rfl, hc⟩
 ·rfl
 ·simp [LexM.ends, gap_inner hc]
theorem all_takeWhile (p : By → Bool) : ∀ l : List By, ∀ x ∈ l.takeWhile p, p x = true
 | [], x, h => by simp at h
 | c :: cs, x, h => by
  by_cases e : p c = true
  ·rw [List.takeWhile_cons_of_pos e] at h; rcases List.mem_cons.1 h with rfl | h
   ·exact e
   ·exact all_takeWhile p cs x h
  ·rw [List.takeWhile_cons_of_neg e] at h; cases h
theorem takeWhile_app {p : By → Bool} : ∀ {w : List By} (r : List By), (∀ x ∈ w, p x = true) → (w ++ r).takeWhile p = w ++ r.takeWhile p ∧ (w ++ r).dropWhile p = r.dropWhile p
 | [], r, _ => ⟨rfl, rfl⟩
 | c :: w, r, h => by
  have hc := h c List.mem_cons_self; obtain ⟨h1, h2⟩ := takeWhile_app (w := w) r fun x hx => h x (List.mem_cons_of_mem _ hx)
  rw [List.cons_append, List.takeWhile_cons_of_pos hc, List.dropWhile_cons_of_pos hc, h1, h2]; exact ⟨rfl, rfl⟩
theorem one_stable {l r : List By} {t : Tk} (h : one l = some t) (hr : Sep r) : one (t.text ++ r) = some t ∧ ∃ c w, t.text = c :: w ∧ gapc c = false := by
 cases l with
 | nil => cases h
 | cons c cs =>
  simp only [one] at h
  by_cases h1 : letter c = true
  ·rw [if_pos h1] at h; have hw : (c :: cs).takeWhile inner = c :: cs.takeWhile inner := List.takeWhile_cons_of_pos (letter_inner h1)
   have hall := all_takeWhile inner (c :: cs); obtain ⟨r1, _⟩ := hr.take (p := inner) fun _ h => h
   have key : ∀ k n, one ((c :: cs).takeWhile inner ++ r) = (if (c :: cs).takeWhile inner ∈ words then some ⟨2, (c :: cs).takeWhile inner, 0⟩ else if ((c :: cs).takeWhile inner).length ≤ 16 then some ⟨0, (c :: cs).takeWhile inner, 0⟩ else none) ∧ (k : Nat) = k ∧ (n : Nat) = n := fun k n => by
    refine ⟨?_, rfl, rfl⟩
    have e := (takeWhile_app r hall).1; rw [r1, List.append_nil] at e; generalize hw2 : (c :: cs).takeWhile inner = w at *
    subst hw; rw [List.cons_append] at e ⊢
    simp only [one]
    rw [if_pos h1, e]
   have k1 := (key 0 0).1; by_cases h2 : (c :: cs).takeWhile inner ∈ words
   ·rw [if_pos h2] at h k1; obtain rfl := Option.some.inj h; exact ⟨k1, c, _, hw, letter_gap (letter_inner h1)⟩
   ·rw [if_neg h2] at h k1
    by_cases h3 : ((c :: cs).takeWhile inner).length ≤ 16
    ·rw [if_pos h3] at h k1; obtain rfl := Option.some.inj h; exact ⟨k1, c, _, hw, letter_gap (letter_inner h1)⟩
    ·rw [if_neg h3] at h; cases h
  ·rw [if_neg h1] at h; by_cases h2 : digit c = true
   ·rw [if_pos h2] at h; have hw : (c :: cs).takeWhile digit = c :: cs.takeWhile digit := List.takeWhile_cons_of_pos h2
    have hall := all_takeWhile digit (c :: cs); obtain ⟨r1, r2⟩ := hr.take (p := digit) fun _ h => digit_inner h
    have e := takeWhile_app r hall; rw [r1, r2, List.append_nil] at e; cases hv : value 0 ((c :: cs).takeWhile digit) with
    | none => rw [hv] at h; cases h
    | some n =>
     rw [hv] at h; simp only at h
     by_cases h3 : ends ((c :: cs).dropWhile digit) = true
     ·rw [if_pos h3] at h; obtain rfl := Option.some.inj h; refine ⟨?_, c, _, hw, letter_gap (digit_inner h2)⟩
      show one ((c :: cs).takeWhile digit ++ r) = some ⟨1, (c :: cs).takeWhile digit, n⟩
      generalize hw2 : (c :: cs).takeWhile digit = w at *
      subst hw; rw [List.cons_append] at e ⊢
      simp only [one]
      rw [if_neg h1, if_pos h2, e.1, e.2, hv]; simp only
      rw [if_pos hr.ends]
     ·rw [if_neg h3] at h; cases h
   ·rw [if_neg h2] at h; obtain ⟨s, hs, rfl⟩ := Option.map_eq_some_iff.1 h; obtain ⟨hp, as_, bs, hl, hb⟩ := List.find?_eq_some_iff_append.1 hs; have hm : s ∈ signs := by rw [hl]; simp
    have hg := List.all_eq_true.1 (signs_gap s hm); have hsp : s <+: c :: cs := List.isPrefixOf_iff_prefix.1 hp
    obtain ⟨d, w, hsd⟩ := List.exists_cons_of_ne_nil (signs_ne s hm).1; have hd := hg d (by rw [hsd]; exact List.mem_cons_self)
    simp only [Bool.and_eq_true, Bool.not_eq_true'] at hd
    show one (s ++ r) = some ⟨2, s, 0⟩ ∧ ∃ c w, s = c :: w ∧ gapc c = false
    refine ⟨?_, d, w, hsd, hd.1⟩
    have hdl : letter d = false ∧ digit d = false := by
     have := hd.2
     simp only [inner, Bool.or_eq_false_iff] at this
     exact ⟨this.1.1, this.1.2⟩
    have hf : (signs.find? fun s' => s'.isPrefixOf (s ++ r)) = some s := by
     refine List.find?_eq_some_iff_append.2 ⟨List.isPrefixOf_iff_prefix.2 (List.prefix_append _ _), as_, bs, hl, fun s' hs' => ?_⟩
     have hn := hb s' hs'; have hm' : s' ∈ signs := by rw [hl]; exact List.mem_append_left _ hs'
     simp only [Bool.not_eq_true'] at hn ⊢
     cases e : s'.isPrefixOf (s ++ r) with
     | false => rfl
     | true =>
      exfalso
      have hp' := List.isPrefixOf_iff_prefix.1 e
      by_cases hle : s'.length ≤ s.length
      ·have : s' <+: s := List.prefix_of_prefix_length_le hp' (List.prefix_append _ _) hle
       rw [List.isPrefixOf_iff_prefix.2 (this.trans hsp)] at hn; cases hn
      ·-- s' goes on into the rest, which begins with a blank
       have : s <+: s' := List.prefix_of_prefix_length_le (List.prefix_append _ _) hp' (by omega)
       obtain ⟨x, hx⟩ := this; rw [← hx] at hp'
       have hxr : x <+: r := List.prefix_append_right_inj _ |>.1 hp'
       have hxn : x ≠ [] := fun e => hle (by rw [← hx, e]; simp)
       obtain ⟨y, ys, rfl⟩ := List.exists_cons_of_ne_nil hxn; rcases hr with rfl | ⟨q, r', rfl, hq⟩
       ·have := hxr.length_le; simp at this
       ·obtain ⟨z, hz⟩ := hxr; rw [List.cons_append] at hz; injection hz with h5 h6
        have := List.all_eq_true.1 (signs_gap s' hm') y (by rw [← hx]; simp)
        rw [h5, hq] at this; simp at this
    rw [hsd] at hf ⊢
    rw [List.cons_append] at hf ⊢
    simp only [one]
    rw [if_neg (by rw [hdl.1]; simp), if_neg (by rw [hdl.2]; simp), hf]
    rfl
def Gap (g : List By) : Prop := ∀ (a : Nat) (r : List By) (ts : List (Nat × Tk)), Lx (a + g.length) r ts → Lx a (g ++ r) ts
theorem Gap.blank {c : By} (h : blank c = true) : Gap [c] := fun _ _ _ hl => Lx.skip h hl
theorem Gap.app {g g' : List By} (h : Gap g) (h' : Gap g') : Gap (g ++ g') := fun a r ts hl => by
 rw [List.append_assoc]; exact h a _ ts (h' _ r ts (by rw [List.length_append, ← Nat.add_assoc] at hl; exact hl))
theorem Gap.note {w : List By} (h : ∀ x ∈ w, (x != 10) = true) : Gap (35 :: (w ++ [10])) := fun a r ts hl => by
 rw [List.cons_append, List.append_assoc]; obtain ⟨e1, e2⟩ := takeWhile_app (p := fun c => c != 10) ([10] ++ r) h
 have e3 : ([10] ++ r : List By).takeWhile (fun c => c != 10) = [] := by simp
 have e4 : ([10] ++ r : List By).dropWhile (fun c => c != 10) = 10 :: r := by simp
 refine Lx.note ?_
 rw [e1, e2, e3, e4, List.append_nil]; refine Lx.skip (by decide) ?_
 have : a + 1 + w.length + 1 = a + (35 :: (w ++ [10])).length := by simp; omega
 rw [this]; exact hl
theorem lx_tok {a : Nat} {l r : List By} {t : Tk} {ts : List (Nat × Tk)} (ht : one l = some t) (hr : Sep r) (h : Lx (a + t.text.length) r ts) : Lx a (t.text ++ r) ((a, t) :: ts) := by
 obtain ⟨h1, c, w, hc, hg⟩ := one_stable ht hr; have h2 : (t.text ++ r).drop t.text.length = r := by simp
 rw [hc, List.cons_append] at h1 h2 ⊢
 refine Lx.tok hg h1 ?_
 rw [hc, h2, ← hc]; exact h
theorem Lx.toks {a : Nat} {l : List By} {ts : List (Nat × Tk)} (h : Lx a l ts) : ∀ p ∈ ts, ∃ l', one l' = some p.2 := by
 induction h with
 | nil => intro p hp; cases hp
 | note _ ih => exact ih
 | skip _ _ ih => exact ih
 | tok _ h1 _ ih =>
  intro p hp
  rcases List.mem_cons.1 hp with rfl | hp
  ·exact ⟨_, h1⟩
  ·exact ih p hp
theorem Lx.det {a : Nat} {l : List By} {ts ts' : List (Nat × Tk)} (h : Lx a l ts) (h' : Lx a l ts') : ts = ts' := by
 induction h generalizing ts' with
 | nil => cases h'; rfl
 | note _ ih =>
  cases h' with
  | note h => exact ih h
  | skip h _ => exact absurd h (by decide)
  | tok h _ _ => exact absurd h (by decide)
 | skip hb _ ih =>
  cases h' with
  | note _ => exact absurd hb (by decide)
  | skip _ h => exact ih h
  | tok h _ _ => simp [gapc, hb] at h
 | tok hg h1 _ ih =>
  cases h' with
  | note _ => exact absurd hg (by decide)
  | skip h _ => simp [gapc, h] at hg
  | tok _ h2 h3 =>
   rw [h1] at h2; obtain rfl := Option.some.inj h2; rw [ih h3]
def weave (G : Nat → List By) : Nat → List Tk → List By
 | i, [] => G i
 | i, t :: ts => G i ++ (t.text ++ weave G (i + 1) ts)
def Gapped (g : List By) : Prop := Gap g ∧ ∃ c r, g = c :: r ∧ gapc c = true
theorem Gapped.sep {g : List By} (h : Gapped g) (r : List By) : Sep (g ++ r) := by
 obtain ⟨_, c, r', rfl, hc⟩ := h; exact .inr ⟨c, _, rfl, hc⟩
theorem weave_lx {G : Nat → List By} (hG : ∀ i, Gapped (G i)) : ∀ (ts : List Tk) (i a : Nat), (∀ t ∈ ts, ∃ l, one l = some t) → ∃ us, Lx a (weave G i ts) us ∧ us.map Prod.snd = ts
 | [], i, a, _ => ⟨[], by have := (hG i).1 a [] [] Lx.nil; rwa [List.append_nil] at this, rfl⟩
 | t :: ts, i, a, ht => by
  obtain ⟨l, hl⟩ := ht t List.mem_cons_self; obtain ⟨us, h1, h2⟩ := weave_lx hG ts (i + 1) (a + (G i).length + t.text.length) fun t' h => ht t' (List.mem_cons_of_mem _ h)
  refine ⟨(a + (G i).length, t) :: us, (hG i).1 a _ _ (lx_tok hl ?_ h1), by simp [h2]⟩
  cases ts with
  | nil =>
   have := (hG (i + 1)).sep []
   rw [List.append_nil] at this; exact this
  | cons t' ts' => exact (hG (i + 1)).sep _
def joined (g : List By) : List Tk → List By
 | [] => []
 | t :: ts => t.text ++ (match ts with
  | [] => []
  | _ => g ++ joined g ts)
theorem joined_lx {g : List By} (hG : Gapped g) : ∀ (ts : List Tk) (a : Nat), (∀ t ∈ ts, ∃ l, one l = some t) → ∃ us, Lx a (joined g ts) us ∧ us.map Prod.snd = ts
 | [], a, _ => ⟨[], Lx.nil, rfl⟩
 | [t], a, ht => by
  obtain ⟨l, hl⟩ := ht t List.mem_cons_self; exact ⟨[(a, t)], lx_tok hl (.inl rfl) Lx.nil, rfl⟩
 | t :: t' :: ts, a, ht => by
  obtain ⟨l, hl⟩ := ht t List.mem_cons_self; obtain ⟨us, h1, h2⟩ := joined_lx hG (t' :: ts) (a + t.text.length + g.length) fun t' h => ht t' (List.mem_cons_of_mem _ h)
  exact ⟨(a, t) :: us, lx_tok hl (hG.sep _) (hG.1 _ _ _ h1), by simp [h2]⟩
theorem signs_down : signs.Pairwise fun x y => y.length ≤ x.length := by decide
theorem dropWhile_head {p : By → Bool} : ∀ {l : List By} {d : By} {r : List By}, l.dropWhile p = d :: r → p d = false
 | [], _, _, h => by simp at h
 | c :: cs, d, r, h => by
  by_cases e : p c = true
  ·rw [List.dropWhile_cons_of_pos e] at h; exact dropWhile_head h
  ·rw [List.dropWhile_cons_of_neg e] at h; injection h with h1 _
   rw [← h1]; simpa using e
theorem drop_takeWhile (p : By → Bool) (l : List By) : l.drop (l.takeWhile p).length = l.dropWhile p := by
 have h : (l.takeWhile p ++ l.dropWhile p).drop (l.takeWhile p).length = l.dropWhile p := List.drop_left
 rwa [List.takeWhile_append_dropWhile] at h
theorem one_longest {l r : List By} {t : Tk} {d : By} (h : one l = some t) (hr : l.drop t.text.length = d :: r) : (∀ c w, t.text = c :: w → ¬ (inner c = true ∧ inner d = true)) ∧ t.text ++ [d] ∉ signs := by
 cases l with
 | nil => cases h
 | cons c cs =>
  simp only [one] at h
  have out : ∀ {c : By} {w : List By}, inner c = true → (c :: w) ++ [d] ∉ signs := fun {c w} hc hm => by
   have := List.all_eq_true.1 (signs_gap _ hm) c (by simp)
   rw [hc] at this; simp at this
  by_cases h1 : letter c = true
  ·rw [if_pos h1] at h; have hw : (c :: cs).takeWhile inner = c :: cs.takeWhile inner := List.takeWhile_cons_of_pos (letter_inner h1)
   have fin : t.text = (c :: cs).takeWhile inner → (∀ c w, t.text = c :: w → ¬ (inner c = true ∧ inner d = true)) ∧ t.text ++ [d] ∉ signs := fun e => by
    rw [e, drop_takeWhile] at hr; have hd := dropWhile_head hr; refine ⟨fun _ _ _ h => (by rw [hd] at h; simp at h), ?_⟩
    rw [e, hw]; exact out (letter_inner h1)
   by_cases h2 : (c :: cs).takeWhile inner ∈ words
   ·rw [if_pos h2] at h; obtain rfl := Option.some.inj h; exact fin rfl
   ·rw [if_neg h2] at h; by_cases h3 : ((c :: cs).takeWhile inner).length ≤ 16
    ·rw [if_pos h3] at h; obtain rfl := Option.some.inj h; exact fin rfl
    ·rw [if_neg h3] at h; cases h
  ·rw [if_neg h1] at h; by_cases h2 : digit c = true
   ·rw [if_pos h2] at h; have hw : (c :: cs).takeWhile digit = c :: cs.takeWhile digit := List.takeWhile_cons_of_pos h2
    cases hv : value 0 ((c :: cs).takeWhile digit) with
    | none => rw [hv] at h; cases h
    | some n =>
     rw [hv] at h; simp only at h
     by_cases h3 : ends ((c :: cs).dropWhile digit) = true
     ·rw [if_pos h3] at h; obtain rfl := Option.some.inj h; simp only at hr ⊢
      rw [drop_takeWhile] at hr; rw [hr] at h3; have hd : inner d = false := by simpa [ends] using h3
      refine ⟨fun _ _ _ h => (by rw [hd] at h; simp at h), ?_⟩
      rw [hw]; exact out (digit_inner h2)
     ·rw [if_neg h3] at h; cases h
   ·rw [if_neg h2] at h; obtain ⟨s, hs, rfl⟩ := Option.map_eq_some_iff.1 h; obtain ⟨hp, as_, bs, hl, hb⟩ := List.find?_eq_some_iff_append.1 hs; have hm : s ∈ signs := by rw [hl]; simp
    simp only at hr ⊢
    refine ⟨fun c' w' e hcd => ?_, fun hm' => ?_⟩
    ·have := List.all_eq_true.1 (signs_gap s hm) c' (by rw [e]; simp)
     rw [hcd.1] at this; simp at this
    ·have hsp : s <+: c :: cs := List.isPrefixOf_iff_prefix.1 hp
     have hpre : s ++ [d] <+: c :: cs := by
      obtain ⟨x, hx⟩ := hsp; rw [← hx, List.drop_left] at hr; rw [← hx, hr]; exact ⟨r, by simp⟩
     have hpw := signs_down; rw [hl] at hm' hpw
     rcases List.mem_append.1 hm' with h4 | h4
     ·have := hb _ h4
      rw [List.isPrefixOf_iff_prefix.2 hpre] at this; simp at this
     ·rcases List.mem_cons.1 h4 with h4 | h4
      ·have := congrArg List.length h4
       simp at this
      ·have := (List.pairwise_append.1 hpw).2.1
       have := (List.pairwise_cons.1 this).1 _ h4
       simp at this
       omega
def gapsB (opn last : Bool) : List By → Bool
 | [] => last || !opn
 | c :: cs => if c == 10 then gapsB false last cs else if c == 35 then gapsB true last cs else if !opn && !blank c then false else gapsB opn last cs
def covered (s : List By) : Nat → List (Nat × Tk) → Prop
 | n, [] => gapsB false true (s.drop n) = true
 | n, (p, t) :: ts => n ≤ p ∧ t.text ≠ [] ∧ p + t.text.length ≤ s.length ∧ (s.drop p).take t.text.length = t.text ∧ gapsB false false ((s.drop n).take (p - n)) = true ∧ covered s (p + t.text.length) ts
theorem gapsB_note (last : Bool) : ∀ (w more : List By), (∀ x ∈ w, (x != 10) = true) → gapsB true last (w ++ more) = gapsB true last more
 | [], _, _ => rfl
 | c :: w, more, h => by
  have hc := h c List.mem_cons_self; have ih := gapsB_note last w more fun x hx => h x (List.mem_cons_of_mem _ hx)
  rw [List.cons_append, gapsB]; have : (c == 10) = false := by simpa using hc
  rw [this, if_neg (by simp)]
  split
  ·exact ih
  ·simpa using ih
theorem piece_app (s : List By) (n a k : Nat) (h : n ≤ a) : (s.drop n).take (a + k - n) = (s.drop n).take (a - n) ++ (s.drop a).take k := by
 have e : a + k - n = (a - n) + k := by omega
 rw [e, List.take_add, List.drop_drop]; congr 2
 congr 1
 omega
theorem lx_cov (s : List By) {a : Nat} {l : List By} {ts : List (Nat × Tk)} (h : Lx a l ts) : l = s.drop a → ∀ n, n ≤ a → ((∀ last more, gapsB false last ((s.drop n).take (a - n) ++ more) = gapsB false last more) ∨ ((∀ last more, gapsB false last ((s.drop n).take (a - n) ++ more) = gapsB true last more) ∧ (l = [] ∨ ∃ r, l = 10 :: r))) → covered s n ts := by
 induction h with
 | @nil a =>
  intro hl n hn hg
  have e : s.drop n = (s.drop n).take (a - n) ++ [] := by
   rw [List.append_nil, List.take_of_length_le]; have := congrArg List.length hl
   simp at this ⊢
   omega
  show gapsB false true (s.drop n) = true
  rw [e]; rcases hg with hg | ⟨hg, _⟩
  ·rw [hg]; rfl
  ·rw [hg]; rfl
 | @note a l ts _ ih =>
  intro hl n hn hg
  rcases hg with hg | ⟨_, hg | ⟨r, hg⟩⟩
  ·have hd : l = s.drop (a + 1) := by
    have := congrArg List.tail hl
    simpa [List.tail_drop] using this
   have hk : l.dropWhile (fun c => c != 10) = s.drop (a + 1 + (l.takeWhile fun c => c != 10).length) := by
    rw [← drop_takeWhile, ← List.drop_drop, ← hd]
   refine ih hk n (by omega) (.inr ⟨fun last more => ?_, ?_⟩)
   ·have e1 : a + 1 + (l.takeWhile fun c => c != 10).length = a + (1 + (l.takeWhile fun c => c != 10).length) := by omega
    have e2 : (s.drop a).take (1 + (l.takeWhile fun c => c != 10).length) = 35 :: l.takeWhile fun c => c != 10 := by
     rw [← hl, Nat.add_comm, List.take_succ_cons]; congr 1
     have : (l.takeWhile (fun c => c != 10) ++ l.dropWhile fun c => c != 10).take (l.takeWhile fun c => c != 10).length = l.takeWhile fun c => c != 10 := List.take_left
     rwa [List.takeWhile_append_dropWhile] at this
    rw [e1, piece_app s n a _ hn, e2, List.append_assoc, hg, List.cons_append]; rw [gapsB, if_neg (by decide), if_pos (by decide)]
    exact gapsB_note last _ _ (all_takeWhile _ _)
   ·cases e : l.dropWhile (fun c => c != 10) with
    | nil => exact .inl rfl
    | cons d r =>
     have := dropWhile_head e
     have hd10 : d = 10 := by simpa using this
     exact .inr ⟨r, by rw [hd10]⟩
  ·cases hg
  ·injection hg with h1 _; cases h1
 | @skip a c l ts hb _ ih =>
  intro hl n hn hg
  have hd : l = s.drop (a + 1) := by
   have := congrArg List.tail hl
   simpa [List.tail_drop] using this
  have e2 : (s.drop a).take 1 = [c] := by rw [← hl]; rfl
  refine ih hd n (by omega) (.inl fun last more => ?_)
  rw [piece_app s n a 1 hn, e2, List.append_assoc]; rcases hg with hg | ⟨hg, hg2 | ⟨r, hg2⟩⟩
  ·rw [hg, List.singleton_append, gapsB]; split
   ·rfl
   ·rw [if_neg (by intro h; obtain rfl := beq_iff_eq.1 h; revert hb; decide), hb]
    simp
  ·cases hg2
  ·injection hg2 with h1 _
   subst h1; rw [hg, List.singleton_append, gapsB, if_pos (by decide)]
 | @tok a c l t ts hgc h1 _ ih =>
  intro hl n hn hg
  obtain ⟨hp, hne⟩ := one_prefix h1; have hlen := hp.length_le; have hL : (c :: l).length = s.length - a := by rw [hl]; simp
  rcases hg with hg | ⟨_, hg | ⟨r, hg⟩⟩
  ·refine ⟨hn, hne, by simp only [List.length_cons] at hL hlen; omega, ?_, ?_, ?_⟩
   ·rw [← hl]; exact (List.prefix_iff_eq_take.1 hp).symm
   ·have := hg false []
    rw [List.append_nil] at this; rw [this]; rfl
   ·refine ih (by rw [hl, List.drop_drop]) _ (Nat.le_refl _) (.inl fun last more => ?_)
    rw [Nat.sub_self, List.take_zero, List.nil_append]
  ·cases hg
  ·injection hg with h1 _
   subst h1; exact absurd hgc (by decide)
inductive Er : Nat → List By → Nat → Prop
 | note {a e : Nat} {l : List By} : Er (a + 1 + (l.takeWhile fun c => c != 10).length) (l.dropWhile fun c => c != 10) e → Er a (35 :: l) e
 | skip {a e : Nat} {c : By} {l : List By} : blank c = true → Er (a + 1) l e → Er a (c :: l) e
 | tok {a e : Nat} {c : By} {l : List By} {t : Tk} : gapc c = false → one (c :: l) = some t → Er (a + t.text.length) ((c :: l).drop t.text.length) e → Er a (c :: l) e
 | here {a : Nat} {c : By} {l : List By} : gapc c = false → one (c :: l) = none → Er a (c :: l) a
theorem lx_or_er : ∀ (n : Nat) (a : Nat) (l : List By), l.length ≤ n → (∃ ts, Lx a l ts) ∨ ∃ e, Er a l e
 | _, a, [], _ => .inl ⟨[], Lx.nil⟩
 | 0, a, c :: l, h => by simp at h
 | n + 1, a, c :: l, h => by
  simp only [List.length_cons] at h
  by_cases h1 : c = 35
  ·subst h1; have hd : (l.dropWhile fun c => c != 10).length ≤ l.length := (List.dropWhile_sublist _).length_le
   rcases lx_or_er n (a + 1 + (l.takeWhile fun c => c != 10).length) (l.dropWhile fun c => c != 10) (by omega) with ⟨ts, h⟩ | ⟨e, h⟩
   ·exact .inl ⟨ts, Lx.note h⟩
   ·exact .inr ⟨e, Er.note h⟩
  ·by_cases h2 : blank c = true
   ·rcases lx_or_er n (a + 1) l (by omega) with ⟨ts, h⟩ | ⟨e, h⟩
    ·exact .inl ⟨ts, Lx.skip h2 h⟩
    ·exact .inr ⟨e, Er.skip h2 h⟩
   ·have hg : gapc c = false := by
     simp only [gapc, Bool.or_eq_false_iff]
     exact ⟨by simpa using h2, by simpa using h1⟩
    cases ht : one (c :: l) with
    | none => exact .inr ⟨a, Er.here hg ht⟩
    | some t =>
     have hne := (one_prefix ht).2; have hpos : 0 < t.text.length := List.length_pos_iff.2 hne
     rcases lx_or_er n (a + t.text.length) ((c :: l).drop t.text.length) (by simp; omega) with ⟨ts, h⟩ | ⟨e, h⟩
     ·exact .inl ⟨_, Lx.tok hg ht h⟩
     ·exact .inr ⟨e, Er.tok hg ht h⟩
def isName (l : List By) : Bool := (match l with
 | [] => false
 | c :: _ => letter c) && l.all inner && decide (l.length ≤ 16) && !(words.contains l)
end LexM
end
section
namespace Go.Proofs.YtplcemlennloaaaDoor.B
open Go Go.RowKit Go.Shelf Go.Proofs.YtplcemlennloaaaDoorW.PrintWords Go.Proofs.YtplcemlennloaaaDoorW.PrintLast Go.Proofs.YtplcemlennloaaaDoorW.PrintMore Go.Proofs.YtplcemlennloaaaDoor Go.Proofs.YtplcemlennloaaaDoor.A
open Go.Maps (Keyed)
theorem law : Keyed Tryd.prog 9 := Go.Maps.string_keyed Tryd.underlying9
def wbytes : ByteArray := ⟨([102, 117, 110, 99, 32, 107, 101, 114, 110, 101, 108, 32, 98, 117, 102, 102, 101, 114, 32, 105, 110, 116, 32, 115, 104, 97, 114, 101, 100, 32, 108, 101, 116, 32, 105, 102, 32, 101, 108, 115, 101, 32, 119, 104, 105, 108, 101, 32, 98, 114, 101, 97, 107, 32, 99, 111, 110, 116, 105, 110, 117, 101, 32, 114, 101, 116, 117, 114, 110, 32, 98, 97, 114, 114, 105, 101, 114, 32, 97, 116, 111, 109, 105, 99, 32, 99, 111, 108, 108, 101, 99, 116, 32, 116, 105, 100, 32, 98, 105, 100, 32, 100, 105, 109, 32, 103, 114, 105, 100, 32, 109, 105, 110, 32, 109, 97, 120, 32, 97, 100, 100, 32, 97, 110, 100, 32, 111, 114, 32, 120, 111, 114] : List UInt8).toArray⟩
theorem wfields : (Lib.fields wbytes.data.toList) = LexM.words := by decide +kernel
def WordsD {H : Type} (D : DataW H) (j : Nat) : Prop := ∀ l : List UInt8, D.atKey (.string l) (.lit (.bool false)) = .lit (.bool ((LexM.words.take j).contains l))
theorem wascii : ∀ (j : Nat) b, wbytes.data.toList[j]? = some b → b.toNat < 128 := fun j b h => by
 have : ∀ b ∈ wbytes.data.toList, b.toNat < 128 := by decide +kernel
 exact this b (List.mem_of_getElem? h)
set_option maxHeartbeats 2000000 in
set_option maxRecDepth 100000 in
theorem words_calls {H : Type} (w : World) (hT : Tab w) : Calls Tryd.prog 23 #[] w fun e w' => ∃ (mb n : Nat) (D : DataW H), e = .returned (.map (some mb)) ∧ w.heap.size ≤ mb ∧ w'.ownsMap Tryd.prog 9 (plainElem Tryd.prog 4) mb n D ∧ WordsD D 25 ∧ Below w.heap.size w w' := by
 have cF := fields_calls wbytes (w.alloc (.map #[] 0)) (by decide) wascii (hT.below (below_alloc (Below.refl _ _) _))
 rw [wfields, show LexM.words.length = 25 from rfl] at cF; have hmm := @run_makeMap Tryd.prog; go_enter Tryd.func23, Tryd.ntmps23
 go_wp2_with (first | (go_at_call 37; refine cF.mono ?_; rintro e w' ⟨rfl, rfl⟩))
 clear cF hmm; go_loopg [7] 25 (fun g v7 wx => ∃ (j : Nat) (D : DataW H), j + g = 25 ∧ v7 = .int .i64 j ∧ Aside0 (WordsD D j) ∧ Aside0 (wx.ownsMap Tryd.prog 9 (plainElem Tryd.prog 4) w.heap.size j D) ∧ Aside0 (((w.alloc (.map #[] 0)).alloc (.cells (LexM.words.map fun l => Value.string ⟨l.toArray⟩).toArray 9)).grownBy wx (some w.heap.size)))
 case atStart => exact ⟨0, .map [], by omega, rfl, ⟨fun l => rfl⟩, ⟨(World.ownsMap_made _ _ _ _).alloc _⟩, ⟨World.grownBy.refl _ _⟩⟩
 case round =>
  obtain ⟨j, D, hj, rfl, HD, HM, HG⟩ := hrel; cases gk with
  | zero =>
   obtain rfl : j = 25 := by omega
   go_wp2
   go_ret
   refine ⟨w.heap.size, rfl, Nat.le_refl _, ?_⟩
   exact ⟨25, D, HM.out, HD.out, (below_alloc (below_alloc (Below.refl _ _) _) _).grown HG.out (by simp; omega) (fun k hk => by injection hk with hk; omega)⟩
  | succ gk =>
   have hjl : j < 25 := by omega
   obtain ⟨l, hl⟩ : ∃ l : List UInt8, l = LexM.words[j]'(show j < LexM.words.length from hjl) := ⟨_, rfl⟩; obtain ⟨x, hx⟩ : ∃ x : ByteArray, x = ⟨l.toArray⟩ := ⟨_, rfl⟩; have hcell : wr.cell? ⟨w.heap.size + 1, j, none⟩ = some (.string x) := by
    refine cell_grown HG.out ((blk_cell (new_at _ (by simp)) j).trans ?_) (by simp)
    rw [hx, hl]; rw [List.getElem?_toArray, List.getElem?_map, List.getElem?_eq_getElem (show j < LexM.words.length from hjl)]; rfl
   have hxl : x.data.toList = l := by rw [hx]
   have hxs : x.size ≤ maxLen := by
    have h1 : ∀ l ∈ LexM.words, l.length ≤ 10 := by decide
    have h2 := h1 l (hl ▸ List.getElem_mem (show j < LexM.words.length from hjl)); rw [← hxl, data_length] at h2; unfold maxLen; omega
   have hkey : keyOf Tryd.prog 9 (.string x) = some (.string x.data.toList) := Go.WideMaps.keyOf_string_mk Tryd.underlying9 hxs
   clear hx; go_wp2_with (first | (at_mapUpdate; refine wpList_mapUpdate_own _ rfl _ _ _ 41 rfl 9 4 law Tryd.underlying41 _ w.heap.size j _ rfl HM.out (by unfold maxLen; omega) _ _ _ rfl rfl hkey _ [] (plainElem_bool Tryd.underlying4 true) ?_; intro w1 hown1 hg1))
   go_roundg gk
   case rel =>
    refine ⟨j + 1, _, by omega, by go_num, ⟨fun l' => ?_⟩, ⟨hown1⟩, ⟨HG.out.trans hg1⟩⟩
    have ht : LexM.words.take (j + 1) = LexM.words.take j ++ [l] := by rw [List.take_succ_eq_append_getElem (show j < LexM.words.length from hjl), hl]
    have hKl : WideAt.IsKeyLit (.string x.data.toList) := law.key hkey
    by_cases e : l' = l
    ·subst e; rw [ht, ← hxl, Maps.atKey_put_same HM.out.isMap hKl]; simp
    ·have e2 : (Lit.string l') ≠ Lit.string x.data.toList := fun h => e (by rw [hxl] at h; injection h)
     rw [Maps.atKey_put_other e2, HD.out l', ht]; simp [e]
   case measure => omega
end Go.Proofs.YtplcemlennloaaaDoor.B
end
section
namespace Go.Proofs.YtplcemlennloaaaDoor.B
open Go Go.RowKit Go.Proofs.YtplcemlennloaaaDoorW.PrintWords Go.Proofs.YtplcemlennloaaaDoor Go.Proofs.YtplcemlennloaaaDoor.A
def lex_isWord.f (a0 : ByteArray) : Option Bool := if a0.size ≤ maxLen then some (LexM.words.contains a0.data.toList) else none
theorem look_word {H : Type} {w : World} {mb n : Nat} {D : DataW H} (hown : w.ownsMap Tryd.prog 9 (plainElem Tryd.prog 4) mb n D) (hD : WordsD D 25) (s : ByteArray) (hs : s.size ≤ maxLen) :
  (Instr.lookup 41 (.map (some mb)) (.string s) false).run Tryd.prog w = .ok (.bool (LexM.words.contains s.data.toList)) w := by
 obtain ⟨v, ps, hrun, hv⟩ := hown.lookup law Tryd.underlying41 (z := .bool false) rfl (plainElem_bool Tryd.underlying4 false) (Go.WideMaps.keyOf_string_mk Tryd.underlying9 hs); rw [hD] at hv; rw [show LexM.words.take 25 = LexM.words from rfl] at hv; rw [hrun]; congr 1
 unfold plainElem at hv
 cases v <;> simp_all
end Go.Proofs.YtplcemlennloaaaDoor.B
end
section
namespace Go.Proofs.YtplcemlennloaaaDoor.B
open Go Go.RowKit Go.Proofs.YtplcemlennloaaaDoorW.PrintWords Go.Proofs.YtplcemlennloaaaDoor Go.Proofs.YtplcemlennloaaaDoor.A
def Known (w : World) (mb : Nat) : Prop := ∃ (n : Nat) (D : DataW Unit), w.ownsMap Tryd.prog 9 (plainElem Tryd.prog 4) mb n D ∧ WordsD D 25
theorem Known.lt {w : World} {mb : Nat} (h : Known w mb) : mb < w.heap.size := by
 obtain ⟨n, D, h, _⟩ := h; exact h.lt
theorem Known.belowB {w w' : World} {mb B : Nat} (h : Known w mb) (hb : Below B w w') (hm : mb < B) : Known w' mb := by
 obtain ⟨n, D, ⟨es, clock, hk, F, hs, hD⟩, hW⟩ := h; exact ⟨n, D, ⟨es, clock, (hb.block mb hm).trans hk, F, hs, hD⟩, hW⟩
theorem Known.below {w w' : World} {mb : Nat} (h : Known w mb) (hb : Below w.heap.size w w') : Known w' mb := h.belowB hb h.lt
theorem words_known (w : World) (hT : Tab w) : Calls Tryd.prog 23 #[] w fun e w' => ∃ mb : Nat, e = .returned (.map (some mb)) ∧ w.heap.size ≤ mb ∧ Known w' mb ∧ Below w.heap.size w w' :=
 (words_calls (H := Unit) w hT).mono fun _ _ ⟨mb, n, D, he, hl, ho, hD, hb⟩ => ⟨mb, he, hl, ⟨n, D, ho, hD⟩, hb⟩
theorem known_look {w : World} {ops : Array Oper} {rest : List Oper} {o : Oper} {a : Act} {Q : Exit → Act → World → Prop}
  (hg : o.guard = none) (m x : Operand) (hop : o.op = Op.lookup 41 m x false) (mb : Nat) (hm : a.eval m = .map (some mb)) (hk : Known w mb) (s : ByteArray) (hx : a.eval x = .string s) (b : Bool) (hb : lex_isWord.f s = some b)
  (hK : wpList Tryd.prog ops Q rest (a.put o.dst (.bool b)) w) : wpList Tryd.prog ops Q (o :: rest) a w := by
 unfold lex_isWord.f at hb
 by_cases hs : s.size ≤ maxLen
 case neg => rw [if_neg hs] at hb; cases hb
 rw [if_pos hs] at hb; obtain rfl := Option.some.inj hb; obtain ⟨n, D, ho, hD⟩ := hk; refine wpList_plain hg fun K' hK' => ?_
 have hrun := look_word ho hD s hs; unfold Oper.wp
 simp [execOp, hop, hm, hx, hrun, Result.andThen]
 exact hK' _ _ (by simpa using hK)
end Go.Proofs.YtplcemlennloaaaDoor.B
namespace Go.Proofs.YtplcemlennloaaaDoor.B
open Go Go.RowKit Go.Proofs.YtplcemlennloaaaDoorW.PrintWords Go.Proofs.YtplcemlennloaaaDoor Go.Proofs.YtplcemlennloaaaDoor.A
def lex_words.f : Option Int := some 0
theorem toks_post {wq w w' : World} {v : Value} {r : List S30} (hq : Below wq.heap.size wq w) (h2 : Kd.R k30 30 w' w.heap.size (fun _ => True) v r) (h3 : Below w.heap.size w w') :
  Kd.R k30 30 w' wq.heap.size (fun _ => True) v r ∧ Below wq.heap.size wq w' := ⟨Kd.R_lower h2 hq.size, hq.trans (h3.mono hq.size)⟩
end Go.Proofs.YtplcemlennloaaaDoor.B
namespace Go.Proofs.YtplcemlennloaaaDoor.B
open Go Go.RowKit Go.Proofs.YtplcemlennloaaaDoorW.PrintWords Go.Proofs.YtplcemlennloaaaDoor Go.Proofs.YtplcemlennloaaaDoor.A
theorem known_run {w : World} {mb : Nat} (hk : Known w mb) (s : ByteArray) {b : Bool} (hb : lex_isWord.f s = some b) : (Instr.lookup 41 (.map (some mb)) (.string s) false).run Tryd.prog w = .ok (.bool b) w := by
 unfold lex_isWord.f at hb
 by_cases hs : s.size ≤ maxLen
 case neg => rw [if_neg hs] at hb; cases hb
 rw [if_pos hs] at hb; obtain rfl := Option.some.inj hb; obtain ⟨n, D, ho, hD⟩ := hk; exact look_word ho hD s hs
end Go.Proofs.YtplcemlennloaaaDoor.B
end
section
namespace Go.Proofs.YtplcemlennloaaaDoor.N
open Go.RowKit Go.Proofs.YtplcemlennloaaaDoorW.PrintWords Go.Proofs.YtplcemlennloaaaDoorW.PrintLast Go.Proofs.YtplcemlennloaaaDoorW.PrintMore Go.Proofs.YtplcemlennloaaaDoor Go.Proofs.YtplcemlennloaaaDoor.A Go.Proofs.YtplcemlennloaaaDoor.B Go.Proofs.YtplcemlennloaaaDoor.S
set_option linter.unusedVariables false
set_option linter.unusedSimpArgs false
mutual
def lex_Name.j0 : Nat → ByteArray → Bool → Option (Bool)
 | 0, _, _ => none
 | k + 1, x0, x21 => if x21 = true then (some false) else (lex_Name.l0 k x0 (x0.size : Int) 0)
def lex_Name.l0 : Nat → ByteArray → Int → Int → Option (Bool)
 | 0, _, _, _ => none
 | k + 1, x0, x23, x24 => if x24 < x23 then (if 0 ≤ x24 then (if x24 < (x0.size : Int) then ((lex_inner.f (bt x0 x24)).bind fun t104 => (if t104 = true then (lex_Name.l0 k x0 x23 (wrap64 (x24 + 1))) else (some false))) else (none)) else (none)) else (some true)
end
def lex_Name.f (k : Nat) (a0 : ByteArray) : Option (Bool) := if a0.toList = ([] : List UInt8) then (lex_Name.j0 k a0 true) else (if (a0.size : Int) > 16 then (lex_Name.j0 k a0 true) else (if 0 < (a0.size : Int) then ((lex_letter.f (bt a0 0)).bind fun t101 => (if t101 = true then ((lex_words.f).bind fun t102 => ((lex_isWord.f a0).bind fun t103 => (lex_Name.j0 k a0 t103))) else (lex_Name.j0 k a0 true))) else (none)))
theorem lex_Name.mono_l : ∀ k, (∀ y0 y1, LeO (lex_Name.j0 k y0 y1) (lex_Name.j0 (k + 1) y0 y1)) ∧ (∀ y0 y1 y2, LeO (lex_Name.l0 k y0 y1 y2) (lex_Name.l0 (k + 1) y0 y1 y2))
 | 0 => ⟨fun _ _ r h => by simp [lex_Name.j0] at h, fun _ _ _ r h => by simp [lex_Name.l0] at h⟩
 | k + 1 => by
  obtain ⟨ih0, ih1⟩ := lex_Name.mono_l k; refine ⟨?_, ?_⟩
  ·intro y0 y1
   unfold lex_Name.j0
   repeat' first
   | (with_reducible exact ih0 _ _)
   | (with_reducible exact ih1 _ _ _)
   | (with_reducible exact LeO.refl _)
   | (with_reducible exact LeO.none _)
   | (with_reducible refine LeO.ite ?_ ?_)
   | (with_reducible refine LeO.bind ?_ (fun _ => ?_))
  ·intro y0 y1 y2
   unfold lex_Name.l0
   repeat' first
   | (with_reducible exact ih0 _ _)
   | (with_reducible exact ih1 _ _ _)
   | (with_reducible exact LeO.refl _)
   | (with_reducible exact LeO.none _)
   | (with_reducible refine LeO.ite ?_ ?_)
   | (with_reducible refine LeO.bind ?_ (fun _ => ?_))
theorem lex_Name.mono : ∀ a0 k, LeO (lex_Name.f k a0) (lex_Name.f (k + 1) a0) := by
 intro a0 k
 obtain ⟨ih0, ih1⟩ := lex_Name.mono_l k; unfold lex_Name.f
 repeat' first
   | (with_reducible exact ih0 _ _)
   | (with_reducible exact ih1 _ _ _)
   | (with_reducible exact LeO.refl _)
   | (with_reducible exact LeO.none _)
   | (with_reducible refine LeO.ite ?_ ?_)
   | (with_reducible refine LeO.bind ?_ (fun _ => ?_))
set_option maxHeartbeats 8000000 in
set_option maxRecDepth 100000 in
theorem lex_Name.calls (k : Nat) (a0 : ByteArray) (r : Bool) (w : World) (h : lex_Name.f k a0 = some r) (hT : Tab w) :
  Calls Tryd.prog 14 #[.string a0] w fun e w' => e = .returned (.bool r) ∧ Below w.heap.size w w' := by
 have HT := Aside0.mk hT; clear hT; have HB := Aside0.mk (Below.refl w.heap.size w); have H : (if a0.toList = ([] : List UInt8) then (lex_Name.j0 k a0 true) else (if (a0.size : Int) > 16 then (lex_Name.j0 k a0 true) else (if 0 < (a0.size : Int) then ((lex_letter.f (bt a0 0)).bind fun t101 => (if t101 = true then ((lex_words.f).bind fun t102 => ((lex_isWord.f a0).bind fun t103 => (lex_Name.j0 k a0 t103))) else (lex_Name.j0 k a0 true))) else (none)))) = some r := h
 clear h; have HC2 := Aside0.mk H; clear H; go_enter Tryd.func14, Tryd.ntmps14
 go_upto_region 1 with (fail)
 go_cut [21] (fun v21 wc => ∃ (kq : Nat) (x21_1 : Bool), v21 = .bool x21_1 ∧ Aside0 (lex_Name.j0 kq a0 x21_1 = some r) ∧ Aside0 (kq ≤ k) ∧ Aside0 (Below w.heap.size w wc))
 case first =>
  have H := HC2.out; clear HC2; by_cases c3 : a0.toList = ([] : List UInt8)
  ·rw [if_pos c3] at H; have c3b0 : (a0.toList == ([] : List UInt8)) = true := beq_iff_eq.mpr c3
   have c3b1 : (a0.toList != ([] : List UInt8)) = false := bne_eq_false_iff_eq.mpr c3
   clear c3; (first | rw [c3b0] | (simp only [i64_w, i32_w]; rw [c3b0]) | skip)
   have H' := Aside0.mk H
   clear H; go_wp2
   go_meet
   case rel => exact ⟨_, (true), (by first | rfl | (simp; done) | (simp [*]; done)), H', ⟨by first | omega | exact Nat.le_refl _⟩, ⟨by repeat (first | (with_reducible first | exact HB.out | apply below_alloc | apply pw_below_drewN | apply below_drew1) | exact HB.out)⟩⟩
  ·rw [if_neg c3] at H; have c3b0 : (a0.toList == ([] : List UInt8)) = false := beq_eq_false_iff_ne.mpr c3
   have c3b1 : (a0.toList != ([] : List UInt8)) = true := bne_iff_ne.mpr c3
   (first | rw [c3b0] | (simp only [i64_w, i32_w]; rw [c3b0]) | skip)
   by_cases c4 : (a0.size : Int) > 16
   ·rw [if_pos c4] at H; have c4b0 : decide (16 < (a0.size : Int)) = true := decide_eq_true c4
    have c4b1 : decide (16 < a0.size) = true := decide_eq_true (by omega)
    clear c4; have H' := Aside0.mk H
    clear H; go_wp2
    go_meet
    case rel => exact ⟨_, (true), (by first | rfl | (simp; done) | (simp [*]; done)), H', ⟨by first | omega | exact Nat.le_refl _⟩, ⟨by repeat (first | (with_reducible first | exact HB.out | apply below_alloc | apply pw_below_drewN | apply below_drew1) | exact HB.out)⟩⟩
   ·rw [if_neg c4] at H; have c4b0 : decide (16 < (a0.size : Int)) = false := decide_eq_false c4
    have c4b1 : decide (16 < a0.size) = false := decide_eq_false (by omega)
    clear c4; by_cases c5 : 0 < (a0.size : Int)
    ·rw [if_pos c5] at H; have c5b0 : decide (0 < (a0.size : Int)) = true := decide_eq_true c5
     have c5b1 : decide (0 < a0.size) = true := decide_eq_true (by omega)
     clear c5; replace H := Option.bind_eq_some_iff.mp H; obtain ⟨t101, A70, H⟩ := H; replace H : (if t101 = true then ((lex_words.f).bind fun t102 => ((lex_isWord.f a0).bind fun t103 => (lex_Name.j0 k a0 t103))) else (lex_Name.j0 k a0 true)) = some r := H
     have A7 := Aside0.mk A70; clear A70; by_cases c8 : t101 = true
     ·subst c8; have H1 : ((lex_words.f).bind fun t102 => ((lex_isWord.f a0).bind fun t103 => (lex_Name.j0 k a0 t103))) = some r := by rw [if_pos rfl] at H; exact H
      clear H; have H := H1; clear H1; replace H := Option.bind_eq_some_iff.mp H; obtain ⟨t102, A90, H⟩ := H; replace H : ((lex_isWord.f a0).bind fun t103 => (lex_Name.j0 k a0 t103)) = some r := H
      have A9 := Aside0.mk A90; clear A90; replace H := Option.bind_eq_some_iff.mp H; obtain ⟨t103, A100, H⟩ := H; replace H : (lex_Name.j0 k a0 t103) = some r := H; have A10 := Aside0.mk A100; clear A100; have H' := Aside0.mk H
      clear H; have p6 : 0 ≤ (0 : Int) := (by omega)
      have q6 : 0 < a0.size := (by have : (0 : Int) < (a0.size : Int) := of_decide_eq_true (by with_reducible assumption); omega)
      have hx6 : ∀ h : 0 < a0.size, ((a0[0]'h).toNat : Int) = bt a0 0 := bt_at a0 0
      clear p6; have qi6 : (0 < (a0.size : Int)) = True := eq_true (of_decide_eq_true (by with_reducible assumption))
      replace q6 := eq_true q6; go_wp2_with (first | (go_at_call 28; (with_reducible refine (lex_letter.calls (bt a0 0) true _ A7.out).mono ?_); rintro e w' ⟨rfl, ⟨nd, rfl⟩⟩) | (go_at_call 23; (with_reducible refine (words_known _ (HT.out.below (by repeat (first | (with_reducible first | exact HB.out | apply below_alloc | apply pw_below_drewN | apply below_drew1 | refine below_set ?_ (by assumption)) | exact HB.out)))).mono ?_); rintro e w11 ⟨mb, rfl, hmb_, hkn_, hb⟩; have HKn := Aside0.mk hkn_; clear hkn_ hmb_; have hlk_ := known_run HKn.out a0 A10.out; have n0_ := Aside0.mk (below_step (by repeat (first | (with_reducible first | exact HB.out | apply below_alloc | apply pw_below_drewN | apply below_drew1) | exact HB.out)) hb); clear HB; have HB := n0_; clear n0_; (try clear hb); (try clear hb2); (try clear hk); (try clear hi)) | (at_lookup; refine known_look rfl _ _ rfl _ rfl HKn.out _ rfl _ A10.out ?_))
      go_meet
      case rel => exact ⟨_, (t103), (by first | rfl | (simp; done) | (simp [*]; done)), H', ⟨by first | omega | exact Nat.le_refl _⟩, ⟨by repeat (first | (with_reducible first | exact HB.out | apply below_alloc | apply pw_below_drewN | apply below_drew1) | exact HB.out)⟩⟩
     ·replace c8 := Bool.eq_false_iff.mpr c8; subst c8; have H1 : (lex_Name.j0 k a0 true) = some r := by rw [if_neg (show ¬ (false = true) by decide)] at H; exact H
      clear H; have H := H1; clear H1; have H' := Aside0.mk H
      clear H; have p6 : 0 ≤ (0 : Int) := (by omega)
      have q6 : 0 < a0.size := (by have : (0 : Int) < (a0.size : Int) := of_decide_eq_true (by with_reducible assumption); omega)
      have hx6 : ∀ h : 0 < a0.size, ((a0[0]'h).toNat : Int) = bt a0 0 := bt_at a0 0
      clear p6; have qi6 : (0 < (a0.size : Int)) = True := eq_true (of_decide_eq_true (by with_reducible assumption))
      replace q6 := eq_true q6; go_wp2_with (first | (go_at_call 28; (with_reducible refine (lex_letter.calls (bt a0 0) false _ A7.out).mono ?_); rintro e w' ⟨rfl, ⟨nd, rfl⟩⟩))
      go_meet
      case rel => exact ⟨_, (true), (by first | rfl | (simp; done) | (simp [*]; done)), H', ⟨by first | omega | exact Nat.le_refl _⟩, ⟨by repeat (first | (with_reducible first | exact HB.out | apply below_alloc | apply pw_below_drewN | apply below_drew1) | exact HB.out)⟩⟩
    ·rw [if_neg c5] at H; exact absurd H (by simp)
 case rest =>
  clear HC2; try clear c1
  try clear p2
  try clear c3
  try clear c3b0
  try clear c3b1
  try clear c4
  try clear c4b0
  try clear c4b1
  try clear c5
  try clear c5b0
  try clear c5b1
  try clear p6
  try clear q6
  try clear hx6
  try clear qi6
  try clear c8
  try clear p6
  try clear q6
  obtain ⟨kq, x21_1, rfl, HA, HJ1, HB⟩ := hcut; cases kq with
  | zero => exact absurd HA.out (by simp [lex_Name.j0])
  | succ kj1 =>
   have H := HA.out; clear HA; simp only [lex_Name.j0] at H
   by_cases c12 : x21_1 = true
   ·subst c12; have H1 : (some false) = some r := by rw [if_pos rfl] at H; exact H
    clear H; have H := H1; clear H1; obtain rfl := Option.some.inj H; go_wp2
    go_ret
    exact ⟨by first | rfl | (simp [errW_none, errW_some] <;> rfl) | (simp [*, errW_none, errW_some] <;> rfl), by repeat (first | (with_reducible first | exact HB.out | apply below_alloc | apply pw_below_drewN | apply below_drew1) | exact HB.out)⟩
   ·replace c12 := Bool.eq_false_iff.mpr c12; subst c12; have H1 : (lex_Name.l0 kj1 a0 (a0.size : Int) 0) = some r := by rw [if_neg (show ¬ (false = true) by decide)] at H; exact H
    clear H; have H := H1; clear H1; have H' := Aside0.mk H
    clear H; go_wp2
    go_loopg [24] kj1 (fun kq v24 w' => ∃ (x24_2 : Int), v24 = .int .i64 x24_2 ∧ Aside0 (lex_Name.l0 kq a0 (a0.size : Int) x24_2 = some r) ∧ Aside0 (kq ≤ kj1) ∧ Aside0 (Below w.heap.size w w'))
    case atStart => exact ⟨(0), (by first | rfl | (simp; done) | (simp [*]; done)), H', ⟨Nat.le_refl _⟩, ⟨by repeat (first | (with_reducible first | exact HB.out | apply below_alloc | apply pw_below_drewN | apply below_drew1) | exact HB.out)⟩⟩
    case round =>
     clear H'; try clear c1
     try clear p2
     try clear c3
     try clear c3b0
     try clear c3b1
     try clear c4
     try clear c4b0
     try clear c4b1
     try clear c5
     try clear c5b0
     try clear c5b1
     try clear p6
     try clear q6
     try clear hx6
     try clear qi6
     try clear c8
     try clear c12
     try clear p2
     try clear p6
     try clear q6
     obtain ⟨x24_2, rfl, HA, HK2, HB⟩ := hrel; cases gk with
     | zero => exact absurd HA.out (by simp [lex_Name.l0])
     | succ k2 =>
      have H := HA.out; clear HA; simp only [lex_Name.l0] at H
      by_cases c13 : x24_2 < (a0.size : Int)
      ·rw [if_pos c13] at H; have c13b0 : decide (x24_2 < (a0.size : Int)) = true := decide_eq_true c13
       clear c13; by_cases c14 : 0 ≤ x24_2
       ·rw [if_pos c14] at H; have c14b0 : decide (0 ≤ x24_2) = true := decide_eq_true c14
        clear c14; by_cases c15 : x24_2 < (a0.size : Int)
        ·rw [if_pos c15] at H; have c15b0 : decide (x24_2 < (a0.size : Int)) = true := decide_eq_true c15
         clear c15; replace H := Option.bind_eq_some_iff.mp H; obtain ⟨t104, A170, H⟩ := H; replace H : (if t104 = true then (lex_Name.l0 k2 a0 (a0.size : Int) (wrap64 (x24_2 + 1))) else (some false)) = some r := H
         have A17 := Aside0.mk A170; clear A170; by_cases c18 : t104 = true
         ·subst c18; have H1 : (lex_Name.l0 k2 a0 (a0.size : Int) (wrap64 (x24_2 + 1))) = some r := by rw [if_pos rfl] at H; exact H
          clear H; have H := H1; clear H1; have H' := Aside0.mk H
          clear H; have p16 : 0 ≤ (x24_2 : Int) := of_decide_eq_true (by with_reducible assumption)
          have q16 : x24_2 < (a0.size : Int) := of_decide_eq_true (by with_reducible assumption)
          have hx16 := bt_at a0 x24_2; replace p16 := eq_true p16; replace q16 := eq_true q16; go_wp2_with (first | ((with_reducible refine gate_callee (f := 29) rfl ?_); refine goesL_ (some 30) rfl rfl Tryd.func29 (by kernel_rfl) rfl #[.int .u8 (bt a0 x24_2)] rfl (by (try simp only [List.map_toArray, List.map_cons, List.map_nil]); first | done | rfl | (simp only [List.length_drop, List.length_take]; rfl)) ?_; (with_reducible refine (lex_inner.calls (bt a0 x24_2) true _ A17.out).mono ?_); rintro e w' ⟨rfl, ⟨nd, rfl⟩⟩; refine ⟨_, rfl, ?_⟩))
          go_roundg k2
          case measure => have := HJ1.out; have := HK2.out; omega
          case rel => exact ⟨(wrap64 (x24_2 + 1)), (by first | rfl | (simp; done) | (simp [*]; done)), H', ⟨by have := HJ1.out; have := HK2.out; omega⟩, ⟨by repeat (first | (with_reducible first | exact HB.out | apply below_alloc | apply pw_below_drewN | apply below_drew1) | exact HB.out)⟩⟩
         ·replace c18 := Bool.eq_false_iff.mpr c18; subst c18; have H1 : (some false) = some r := by rw [if_neg (show ¬ (false = true) by decide)] at H; exact H
          clear H; have H := H1; clear H1; obtain rfl := Option.some.inj H; have p16 : 0 ≤ (x24_2 : Int) := of_decide_eq_true (by with_reducible assumption)
          have q16 : x24_2 < (a0.size : Int) := of_decide_eq_true (by with_reducible assumption)
          have hx16 := bt_at a0 x24_2; replace p16 := eq_true p16; replace q16 := eq_true q16; go_wp2_with (first | ((with_reducible refine gate_callee (f := 29) rfl ?_); refine goesL_ (some 30) rfl rfl Tryd.func29 (by kernel_rfl) rfl #[.int .u8 (bt a0 x24_2)] rfl (by (try simp only [List.map_toArray, List.map_cons, List.map_nil]); first | done | rfl | (simp only [List.length_drop, List.length_take]; rfl)) ?_; (with_reducible refine (lex_inner.calls (bt a0 x24_2) false _ A17.out).mono ?_); rintro e w' ⟨rfl, ⟨nd, rfl⟩⟩; refine ⟨_, rfl, ?_⟩))
          go_ret
          exact ⟨by first | rfl | (simp [errW_none, errW_some] <;> rfl) | (simp [*, errW_none, errW_some] <;> rfl), by repeat (first | (with_reducible first | exact HB.out | apply below_alloc | apply pw_below_drewN | apply below_drew1) | exact HB.out)⟩
        ·rw [if_neg c15] at H; exact absurd H (by simp)
       ·rw [if_neg c14] at H; exact absurd H (by simp)
      ·rw [if_neg c13] at H; have c13b0 : decide (x24_2 < (a0.size : Int)) = false := decide_eq_false c13
       clear c13; obtain rfl := Option.some.inj H; go_wp2
       go_ret
       exact ⟨by first | rfl | (simp [errW_none, errW_some] <;> rfl) | (simp [*, errW_none, errW_some] <;> rfl), by repeat (first | (with_reducible first | exact HB.out | apply below_alloc | apply pw_below_drewN | apply below_drew1) | exact HB.out)⟩
end Go.Proofs.YtplcemlennloaaaDoor.N
end
section
namespace Go.Proofs.YtplcemlennloaaaDoor.N
open Go.RowKit Go.Proofs.YtplcemlennloaaaDoorW.PrintWords Go.Proofs.YtplcemlennloaaaDoorW.PrintLast Go.Proofs.YtplcemlennloaaaDoorW.PrintMore Go.Proofs.YtplcemlennloaaaDoor Go.Proofs.YtplcemlennloaaaDoor.A Go.Proofs.YtplcemlennloaaaDoor.B Go.Proofs.YtplcemlennloaaaDoor.S
set_option linter.unusedVariables false
set_option linter.unusedSimpArgs false
mutual
def lex_next.j1 : Nat → ByteArray → Int → Int → Option (Int × Int × ByteArray × Int × Bool)
 | 0, _, _, _ => none
 | k + 1, x0, x1, x8 => if 0 ≤ x1 then (if x1 ≤ x8 then (if x8 ≤ (x0.size : Int) then ((lex_isWord.f (x0.extract (x1 : Int).toNat (x8 : Int).toNat)).bind fun t108 => (if t108 = true then (some (2, x1, x0.extract (x1 : Int).toNat (x8 : Int).toNat, 0, true)) else (some (0, x1, x0.extract (x1 : Int).toNat (x8 : Int).toNat, 0, decide (((x0.extract (x1 : Int).toNat (x8 : Int).toNat).size : Int) ≤ 16))))) else (none)) else (none)) else (none)
def lex_next.l0 : Nat → ByteArray → Int → Int → Option (Int × Int × ByteArray × Int × Bool)
 | 0, _, _, _ => none
 | k + 1, x0, x1, x8 => if x8 < (x0.size : Int) then (if 0 ≤ x8 then ((lex_inner.f (bt x0 x8)).bind fun t107 => (if t107 = true then (lex_next.l0 k x0 x1 (wrap64 (x8 + 1))) else (lex_next.j1 k x0 x1 x8))) else (none)) else (lex_next.j1 k x0 x1 x8)
def lex_next.l1 : Nat → ByteArray → Int → Int → Option (Int × Int × ByteArray × Int × Bool)
 | 0, _, _, _ => none
 | k + 1, x0, x1, x8 => if x8 < (x0.size : Int) then (if 0 ≤ x8 then ((lex_digit.f (bt x0 x8)).bind fun t110 => (if t110 = true then (lex_next.l1 k x0 x1 (wrap64 (x8 + 1))) else (if 0 ≤ x1 then (if x1 ≤ x8 then (if x8 ≤ (x0.size : Int) then ((lex_integer.f k (x0.extract (x1 : Int).toNat (x8 : Int).toNat)).bind fun bt111 => (if bt111.2 = true then (if x8 = (x0.size : Int) then (some (1, x1, x0.extract (x1 : Int).toNat (x8 : Int).toNat, bt111.1, true)) else ((lex_inner.f (bt x0 x8)).bind fun t113 => (some (1, x1, x0.extract (x1 : Int).toNat (x8 : Int).toNat, bt111.1, !t113)))) else (some (1, x1, x0.extract (x1 : Int).toNat (x8 : Int).toNat, bt111.1, false)))) else (none)) else (none)) else (none)))) else (none)) else (if 0 ≤ x1 then (if x1 ≤ x8 then (if x8 ≤ (x0.size : Int) then ((lex_integer.f k (x0.extract (x1 : Int).toNat (x8 : Int).toNat)).bind fun bt114 => (if bt114.2 = true then (if x8 = (x0.size : Int) then (some (1, x1, x0.extract (x1 : Int).toNat (x8 : Int).toNat, bt114.1, true)) else (if 0 ≤ x8 then (none) else (none))) else (some (1, x1, x0.extract (x1 : Int).toNat (x8 : Int).toNat, bt114.1, false)))) else (none)) else (none)) else (none))
end
def lex_next.f (k : Nat) (a0 : ByteArray) (a1 : Int) (a2 : Int) : Option (Int × Int × ByteArray × Int × Bool) := if 0 ≤ a1 then (if a1 < (a0.size : Int) then ((lex_letter.f (bt a0 a1)).bind fun t106 => (if t106 = true then (lex_next.l0 k a0 a1 a1) else ((lex_digit.f (bt a0 a1)).bind fun t109 => (if t109 = true then (lex_next.l1 k a0 a1 a1) else ((lex_sign.f k a0 a1).bind fun t116 => (some (2, a1, t116, 0, (t116.toList != ([] : List UInt8))))))))) else (none)) else (none)
theorem lex_next.mono_l : ∀ k, (∀ y0 y1 y2, LeO (lex_next.j1 k y0 y1 y2) (lex_next.j1 (k + 1) y0 y1 y2)) ∧ (∀ y0 y1 y2, LeO (lex_next.l0 k y0 y1 y2) (lex_next.l0 (k + 1) y0 y1 y2)) ∧ (∀ y0 y1 y2, LeO (lex_next.l1 k y0 y1 y2) (lex_next.l1 (k + 1) y0 y1 y2))
 | 0 => ⟨fun _ _ _ r h => by simp [lex_next.j1] at h, fun _ _ _ r h => by simp [lex_next.l0] at h, fun _ _ _ r h => by simp [lex_next.l1] at h⟩
 | k + 1 => by
  obtain ⟨ih0, ih1, ih2⟩ := lex_next.mono_l k; refine ⟨?_, ?_, ?_⟩
  ·intro y0 y1 y2
   unfold lex_next.j1
   repeat' first
   | (with_reducible exact ih0 _ _ _)
   | (with_reducible exact ih1 _ _ _)
   | (with_reducible exact ih2 _ _ _)
   | (with_reducible exact lex_integer.mono _ _)
   | (with_reducible exact lex_sign.mono _ _ _)
   | (with_reducible exact LeO.refl _)
   | (with_reducible exact LeO.none _)
   | (with_reducible refine LeO.ite ?_ ?_)
   | (with_reducible refine LeO.bind ?_ (fun _ => ?_))
  ·intro y0 y1 y2
   unfold lex_next.l0
   repeat' first
   | (with_reducible exact ih0 _ _ _)
   | (with_reducible exact ih1 _ _ _)
   | (with_reducible exact ih2 _ _ _)
   | (with_reducible exact lex_integer.mono _ _)
   | (with_reducible exact lex_sign.mono _ _ _)
   | (with_reducible exact LeO.refl _)
   | (with_reducible exact LeO.none _)
   | (with_reducible refine LeO.ite ?_ ?_)
   | (with_reducible refine LeO.bind ?_ (fun _ => ?_))
  ·intro y0 y1 y2
   unfold lex_next.l1
   repeat' first
   | (with_reducible exact ih0 _ _ _)
   | (with_reducible exact ih1 _ _ _)
   | (with_reducible exact ih2 _ _ _)
   | (with_reducible exact lex_integer.mono _ _)
   | (with_reducible exact lex_sign.mono _ _ _)
   | (with_reducible exact LeO.refl _)
   | (with_reducible exact LeO.none _)
   | (with_reducible refine LeO.ite ?_ ?_)
   | (with_reducible refine LeO.bind ?_ (fun _ => ?_))
theorem lex_next.mono : ∀ a0 a1 a2 k, LeO (lex_next.f k a0 a1 a2) (lex_next.f (k + 1) a0 a1 a2) := by
 intro a0 a1 a2 k
 obtain ⟨ih0, ih1, ih2⟩ := lex_next.mono_l k; unfold lex_next.f
 repeat' first
   | (with_reducible exact ih0 _ _ _)
   | (with_reducible exact ih1 _ _ _)
   | (with_reducible exact ih2 _ _ _)
   | (with_reducible exact lex_integer.mono _ _)
   | (with_reducible exact lex_sign.mono _ _ _)
   | (with_reducible exact LeO.refl _)
   | (with_reducible exact LeO.none _)
   | (with_reducible refine LeO.ite ?_ ?_)
   | (with_reducible refine LeO.bind ?_ (fun _ => ?_))
def lex_next.T14 : Bool × List (List Nat × List Nat) := (true, [([], []), ([], []), ([], []), ([], []), ([1, 2, 3], [1, 2, 3]), ([], []), ([0, 4, 5], [0, 4, 5]), ([], []), ([7], [7]), ([8], [8]), ([8], [8]), ([10, 8], [8, 10]), ([9, 11, 8], [8, 9, 11]), ([12, 8, 8], [8, 12]), ([13], [13]), ([13], [13]), ([14, 15, 13], [13, 14, 15]), ([16, 13, 13], [13, 16]), ([17, 13], [13, 17]), ([13, 18, 8], [8, 13, 18]), ([8, 19], [8, 19]), ([6, 17, 0, 1, 2, 3, 4, 5, 6], [6]), ([20, 21, 0, 1, 2, 3, 4, 5, 6, 7, 8, 9, 10, 11, 12, 13, 14, 15, 16, 17, 18, 19, 20, 21], [20])])
def lex_next.B14 : List Nat := [0, 0, 0, 0, 14, 0, 63, 0, 128, 384, 384, 1408, 3968, 8064, 16256, 16256, 65408, 130944, 262016, 524160, 1048448, 262143, 4194303]
theorem lex_next.tab14 : rtab .any (opsOf Tryd.f25 14) = lex_next.T14 := by kernel_rfl
theorem lex_next.bits14 : waitsOk lex_next.T14.2 lex_next.B14 = true := by kernel_rfl
set_option maxHeartbeats 8000000 in
set_option maxRecDepth 100000 in
theorem lex_next.calls (k : Nat) (a0 : ByteArray) (a1 : Int) (a2 : Int) (r1 : Int) (r2 : Int) (r3 : ByteArray) (r4 : Int) (r5 : Bool) (w : World) (h : lex_next.f k a0 a1 a2 = some (r1, r2, r3, r4, r5)) (mb : Nat) (hKn : Known w mb) (hT : Tab w) :
  Calls Tryd.prog 25 #[.string a0, .int .i64 a1, .map (some mb)] w fun e w' => e = .returned (.tuple #[.agg #[.int .i64 r1, .int .i64 r2, .string r3, .int .i32 r4], .bool r5]) ∧ Below w.heap.size w w' := by
 have HT := Aside0.mk hT; have HKn := Aside0.mk hKn; clear hT hKn; have hu30 := Tryd.underlying30; have HB := Aside0.mk (Below.refl w.heap.size w); have H : (if 0 ≤ a1 then (if a1 < (a0.size : Int) then ((lex_letter.f (bt a0 a1)).bind fun t106 => (if t106 = true then (lex_next.l0 k a0 a1 a1) else ((lex_digit.f (bt a0 a1)).bind fun t109 => (if t109 = true then (lex_next.l1 k a0 a1 a1) else ((lex_sign.f k a0 a1).bind fun t116 => (some (2, a1, t116, 0, (t116.toList != ([] : List UInt8))))))))) else (none)) else (none)) = some (r1, r2, r3, r4, r5) := h
 clear h; by_cases c4 : 0 ≤ a1
 ·rw [if_pos c4] at H; have c4b0 : decide (0 ≤ a1) = true := decide_eq_true c4
  clear c4; by_cases c5 : a1 < (a0.size : Int)
  ·rw [if_pos c5] at H; have c5b0 : decide (a1 < (a0.size : Int)) = true := decide_eq_true c5
   clear c5; replace H := Option.bind_eq_some_iff.mp H; obtain ⟨t106, A70, H⟩ := H; replace H : (if t106 = true then (lex_next.l0 k a0 a1 a1) else ((lex_digit.f (bt a0 a1)).bind fun t109 => (if t109 = true then (lex_next.l1 k a0 a1 a1) else ((lex_sign.f k a0 a1).bind fun t116 => (some (2, a1, t116, 0, (t116.toList != ([] : List UInt8)))))))) = some (r1, r2, r3, r4, r5) := H
   have A7 := Aside0.mk A70; clear A70; by_cases c8 : t106 = true
   ·subst c8; have H1 : (lex_next.l0 k a0 a1 a1) = some (r1, r2, r3, r4, r5) := by rw [if_pos rfl] at H; exact H
    clear H; have H := H1; clear H1; have HC9 := Aside0.mk H; clear H; go_enter Tryd.func25, Tryd.ntmps25
    go_upto_block 1 with (first | ((with_reducible refine gate_dst (N := 6) rfl ?_); (try (refine gate_guard (by rfl) ?_; dsimp only)); refine box_event ?hg (N := 6) ?hd (cs := #[.int .i64 0, .int .i64 0, .string (⟨#[]⟩ : ByteArray), .int .i32 0]) (t := 30) ?hr ?_; (case hd => rfl); (case hg => rfl); (case hr => first | (go_simp; done) | (go_simp; rfl)); intro gb105 hg w10 hbox hb; have n0_ := Aside0.mk (below_step (by repeat (first | (with_reducible first | exact HB.out | apply below_alloc | apply pw_below_drewN | apply below_drew1) | exact HB.out)) hb); have n1_ := Aside0.mk (hbox); have n2_ := Aside0.mk ((by rw [hg]; exact (below_size (by repeat (first | (with_reducible first | exact HB.out | apply below_alloc | apply pw_below_drewN | apply below_drew1) | exact HB.out))) : w.heap.size ≤ gb105)); have n3_ := Aside0.mk ((by rw [hg]; exact (below_size (by repeat (first | (with_reducible first | exact HB.out | apply below_alloc | apply pw_below_drewN | apply below_drew1) | exact HB.out))) : w.heap.size ≤ gb105)); clear HB; have HB := n0_; have BK105 := n1_; have GW105 := n2_; have GE105 := n3_; clear n0_ n1_ n2_ n3_; clear hb hbox hg; have p6 : 0 ≤ (a1 : Int) := of_decide_eq_true (by with_reducible assumption); have q6 : a1 < (a0.size : Int) := of_decide_eq_true (by with_reducible assumption); have hx6 := bt_at a0 a1; replace p6 := eq_true p6; replace q6 := eq_true q6) | ((with_reducible refine gate_callee (f := 28) rfl ?_); refine goesL_ (some 20) rfl rfl Tryd.func28 (by kernel_rfl) rfl #[.int .u8 (bt a0 a1)] rfl (by (try simp only [List.map_toArray, List.map_cons, List.map_nil]); first | done | rfl | (simp only [List.length_drop, List.length_take]; rfl)) ?_; (with_reducible refine (lex_letter.calls (bt a0 a1) true _ A7.out).mono ?_); rintro e w' ⟨rfl, ⟨nd, rfl⟩⟩; refine ⟨_, rfl, ?_⟩))
    (try simp only [Act.put, List.setIfInBounds_toArray, List.set_cons_zero, List.set_cons_succ])
    go_cut [8] (fun v8 wc => ∃ (kq : Nat) (x8_8 : Int), v8 = .int .i64 x8_8 ∧ Aside0 (lex_next.j1 kq a0 a1 x8_8 = some (r1, r2, r3, r4, r5)) ∧ Aside0 (kq ≤ k) ∧ Aside0 (wc.heap[gb105]? = some (.cells #[.int .i64 0, .int .i64 0, .string (⟨#[]⟩ : ByteArray), .int .i32 0] 30 (0, 0))) ∧ Aside0 (Below w.heap.size w wc))
    case first =>
     have H := HC9.out; clear HC9; have H' := Aside0.mk H
     clear H; go_wp2
     go_loopg [8] k (fun kq v8 w' => ∃ (x8_1 : Int), v8 = .int .i64 x8_1 ∧ Aside0 (lex_next.l0 kq a0 a1 x8_1 = some (r1, r2, r3, r4, r5)) ∧ Aside0 (kq ≤ k) ∧ Aside0 (w'.heap[gb105]? = some (.cells #[.int .i64 0, .int .i64 0, .string (⟨#[]⟩ : ByteArray), .int .i32 0] 30 (0, 0))) ∧ Aside0 (Below w.heap.size w w'))
     case atStart => exact ⟨(a1), (by first | rfl | (simp; done) | (simp [*]; done)), H', ⟨Nat.le_refl _⟩, ⟨by (with_reducible repeat (first | refine blk_drewN ?_ _ | refine blk_drew ?_ | refine blk_alloc ?_ _)); exact BK105.out⟩, ⟨by repeat (first | (with_reducible first | exact HB.out | apply below_alloc | apply pw_below_drewN | apply below_drew1 | refine below_set ?_ GE105.out) | exact HB.out)⟩⟩
     case round =>
      clear H'; try clear c2
      try clear p2
      try clear c4
      try clear c4b0
      try clear c5
      try clear c5b0
      try clear p6
      try clear q6
      try clear hx6
      try clear c8
      try clear p6
      try clear q6
      obtain ⟨x8_1, rfl, HA, HK1, BK105, HB⟩ := hrel; cases gk with
      | zero => exact absurd HA.out (by simp [lex_next.l0])
      | succ k1 =>
       have H := HA.out; clear HA; simp only [lex_next.l0] at H
       by_cases c11 : x8_1 < (a0.size : Int)
       ·rw [if_pos c11] at H; have c11b0 : decide (x8_1 < (a0.size : Int)) = true := decide_eq_true c11
        clear c11; (first | rw [c11b0] | (simp only [i64_w, i32_w]; rw [c11b0]) | skip)
        by_cases c12 : 0 ≤ x8_1
        ·rw [if_pos c12] at H; have c12b0 : decide (0 ≤ x8_1) = true := decide_eq_true c12
         clear c12; replace H := Option.bind_eq_some_iff.mp H; obtain ⟨t107, A140, H⟩ := H; replace H : (if t107 = true then (lex_next.l0 k1 a0 a1 (wrap64 (x8_1 + 1))) else (lex_next.j1 k1 a0 a1 x8_1)) = some (r1, r2, r3, r4, r5) := H
         have A14 := Aside0.mk A140; clear A140; by_cases c15 : t107 = true
         ·subst c15; have H1 : (lex_next.l0 k1 a0 a1 (wrap64 (x8_1 + 1))) = some (r1, r2, r3, r4, r5) := by rw [if_pos rfl] at H; exact H
          clear H; have H := H1; clear H1; have H' := Aside0.mk H
          clear H; have p13 : 0 ≤ (x8_1 : Int) := of_decide_eq_true (by with_reducible assumption)
          have q13 : x8_1 < (a0.size : Int) := of_decide_eq_true (by with_reducible assumption)
          have hx13 := bt_at a0 x8_1; replace p13 := eq_true p13; replace q13 := eq_true q13; go_wp2_with (first | (go_at_call 29; (with_reducible refine (lex_inner.calls (bt a0 x8_1) true _ A14.out).mono ?_); rintro e w' ⟨rfl, ⟨nd, rfl⟩⟩))
          go_roundg k1
          case measure => have := HK1.out; omega
          case rel => exact ⟨(wrap64 (x8_1 + 1)), (by first | rfl | (simp; done) | (simp [*]; done)), H', ⟨by have := HK1.out; omega⟩, ⟨by (with_reducible repeat (first | refine blk_drewN ?_ _ | refine blk_drew ?_ | refine blk_alloc ?_ _)); exact BK105.out⟩, ⟨by repeat (first | (with_reducible first | exact HB.out | apply below_alloc | apply pw_below_drewN | apply below_drew1 | refine below_set ?_ GE105.out) | exact HB.out)⟩⟩
         ·replace c15 := Bool.eq_false_iff.mpr c15; subst c15; have H1 : (lex_next.j1 k1 a0 a1 x8_1) = some (r1, r2, r3, r4, r5) := by rw [if_neg (show ¬ (false = true) by decide)] at H; exact H
          clear H; have H := H1; clear H1; have H' := Aside0.mk H
          clear H; have p13 : 0 ≤ (x8_1 : Int) := of_decide_eq_true (by with_reducible assumption)
          have q13 : x8_1 < (a0.size : Int) := of_decide_eq_true (by with_reducible assumption)
          have hx13 := bt_at a0 x8_1; replace p13 := eq_true p13; replace q13 := eq_true q13; go_wp2_with (first | (go_at_call 29; (with_reducible refine (lex_inner.calls (bt a0 x8_1) false _ A14.out).mono ?_); rintro e w' ⟨rfl, ⟨nd, rfl⟩⟩))
          go_meet
          case rel => exact ⟨_, (x8_1), (by first | rfl | (simp; done) | (simp [*]; done)), H', ⟨by have := HK1.out; first | omega | exact Nat.le_refl _⟩, ⟨by (with_reducible repeat (first | refine blk_drewN ?_ _ | refine blk_drew ?_ | refine blk_alloc ?_ _)); exact BK105.out⟩, ⟨by repeat (first | (with_reducible first | exact HB.out | apply below_alloc | apply pw_below_drewN | apply below_drew1 | refine below_set ?_ GE105.out) | exact HB.out)⟩⟩
        ·rw [if_neg c12] at H; exact absurd H (by simp)
       ·rw [if_neg c11] at H; have c11b0 : decide (x8_1 < (a0.size : Int)) = false := decide_eq_false c11
        clear c11; (first | rw [c11b0] | (simp only [i64_w, i32_w]; rw [c11b0]) | skip)
        have H' := Aside0.mk H
        clear H; go_wp2
        go_meet
        case rel => exact ⟨_, (x8_1), (by first | rfl | (simp; done) | (simp [*]; done)), H', ⟨by have := HK1.out; first | omega | exact Nat.le_refl _⟩, ⟨by (with_reducible repeat (first | refine blk_drewN ?_ _ | refine blk_drew ?_ | refine blk_alloc ?_ _)); exact BK105.out⟩, ⟨by repeat (first | (with_reducible first | exact HB.out | apply below_alloc | apply pw_below_drewN | apply below_drew1 | refine below_set ?_ GE105.out) | exact HB.out)⟩⟩
    case rest =>
     clear HC9; try clear c1
     try clear p1
     try clear q1
     try clear hx1
     try clear c2
     try clear p2
     try clear c4
     try clear c4b0
     try clear c5
     try clear c5b0
     try clear p6
     try clear q6
     try clear hx6
     try clear c8
     try clear c11
     try clear c11b0
     try clear c12
     try clear c12b0
     try clear p13
     try clear q13
     try clear hx13
     try clear c15
     try clear p13
     try clear p2
     try clear p6
     try clear q13
     try clear q6
     obtain ⟨kq, x8_8, rfl, HA, HJ8, BK105, HB⟩ := hcut; cases kq with
     | zero => exact absurd HA.out (by simp [lex_next.j1])
     | succ kj8 =>
      have H := HA.out; clear HA; simp only [lex_next.j1] at H
      by_cases c16 : 0 ≤ a1
      ·rw [if_pos c16] at H; have c16b0 := eq_true c16; have c16b1 : decide (0 ≤ a1) = true := decide_eq_true c16
       clear c16; by_cases c17 : a1 ≤ x8_8
       ·rw [if_pos c17] at H; have c17b0 := eq_true c17; have c17b1 : decide (a1 ≤ x8_8) = true := decide_eq_true c17
        clear c17; by_cases c18 : x8_8 ≤ (a0.size : Int)
        ·rw [if_pos c18] at H; have c18b0 := eq_true c18; have c18b1 : decide (x8_8 ≤ (a0.size : Int)) = true := decide_eq_true c18
         clear c18; replace H := Option.bind_eq_some_iff.mp H; obtain ⟨t108, A190, H⟩ := H; replace H : (if t108 = true then (some (2, a1, a0.extract (a1 : Int).toNat (x8_8 : Int).toNat, 0, true)) else (some (0, a1, a0.extract (a1 : Int).toNat (x8_8 : Int).toNat, 0, decide (((a0.extract (a1 : Int).toNat (x8_8 : Int).toNat).size : Int) ≤ 16)))) = some (r1, r2, r3, r4, r5) := H
         have A19 := Aside0.mk A190; clear A190; by_cases c20 : t108 = true
         ·subst c20; have H1 : (some (2, a1, a0.extract (a1 : Int).toNat (x8_8 : Int).toNat, 0, true)) = some (r1, r2, r3, r4, r5) := by rw [if_pos rfl] at H; exact H
          clear H; have H := H1; clear H1; simp only [Option.some.injEq, Prod.mk.injEq] at H
          obtain ⟨rfl, rfl, rfl, rfl, rfl⟩ := H; go_wp2_with (first | (at_lookup; refine known_look rfl _ _ rfl _ rfl (HKn.out.below (by repeat (first | (with_reducible first | exact HB.out | apply below_alloc | apply pw_below_drewN | apply below_drew1 | refine below_set ?_ (by assumption)) | exact HB.out))) _ rfl _ A19.out ?_; have hcz21_0 : wc.cell? ⟨gb105, 0, none⟩ = some (.int .i64 0) := (blk_cell BK105.out 0).trans rfl; have hcz21_1 : wc.cell? ⟨gb105, 1, none⟩ = some (.int .i64 0) := (blk_cell BK105.out 1).trans rfl; have hcz21_2 : wc.cell? ⟨gb105, 2, none⟩ = some (.string (⟨#[]⟩ : ByteArray)) := (blk_cell BK105.out 2).trans rfl; have hcz21_3 : wc.cell? ⟨gb105, 3, none⟩ = some (.int .i32 0) := (blk_cell BK105.out 3).trans rfl; have hfz21_0 := blk_frozen BK105.out 0; have hfz21_1 := blk_frozen BK105.out 1; have hfz21_2 := blk_frozen BK105.out 2; have hfz21_3 := blk_frozen BK105.out 3))
          refine bodyPost_ret (results_ct rfl _ _ gb105 30 #[.int .i64 2, .int .i64 a1, .string (a0.extract (a1 : Int).toNat (x8_8 : Int).toNat), .int .i32 0] (0, 0) _ rfl (by (with_reducible repeat (first | refine blk_drewN ?_ _ | refine blk_drew ?_ | refine blk_alloc ?_ _)); refine blk_put (cs := #[.int .i64 2, .int .i64 a1, .string (a0.extract (a1 : Int).toNat (x8_8 : Int).toNat), .int .i32 0]) ?_ 3 _ rfl; (with_reducible repeat (first | refine blk_drewN ?_ _ | refine blk_drew ?_ | refine blk_alloc ?_ _)); refine blk_put (cs := #[.int .i64 2, .int .i64 a1, .string (⟨#[]⟩ : ByteArray), .int .i32 0]) ?_ 2 _ rfl; (with_reducible repeat (first | refine blk_drewN ?_ _ | refine blk_drew ?_ | refine blk_alloc ?_ _)); refine blk_put (cs := #[.int .i64 2, .int .i64 0, .string (⟨#[]⟩ : ByteArray), .int .i32 0]) ?_ 1 _ rfl; (with_reducible repeat (first | refine blk_drewN ?_ _ | refine blk_drew ?_ | refine blk_alloc ?_ _)); refine blk_put (cs := #[.int .i64 0, .int .i64 0, .string (⟨#[]⟩ : ByteArray), .int .i32 0]) ?_ 0 _ rfl; (with_reducible repeat (first | refine blk_drewN ?_ _ | refine blk_drew ?_ | refine blk_alloc ?_ _)); exact BK105.out) Tryd.underlying30 rfl (by kernel_rfl)) rfl ?_
          exact ⟨by first | rfl | (simp [errW_none, errW_some] <;> rfl) | (simp [*, errW_none, errW_some] <;> rfl), by repeat (first | (with_reducible first | exact HB.out | apply below_alloc | apply pw_below_drewN | apply below_drew1 | refine below_set ?_ GE105.out) | exact HB.out)⟩
         ·replace c20 := Bool.eq_false_iff.mpr c20; subst c20; have H1 : (some (0, a1, a0.extract (a1 : Int).toNat (x8_8 : Int).toNat, 0, decide (((a0.extract (a1 : Int).toNat (x8_8 : Int).toNat).size : Int) ≤ 16))) = some (r1, r2, r3, r4, r5) := by rw [if_neg (show ¬ (false = true) by decide)] at H; exact H
          clear H; have H := H1; clear H1; simp only [Option.some.injEq, Prod.mk.injEq] at H
          obtain ⟨rfl, rfl, rfl, rfl, rfl⟩ := H; go_wp2_with (first | (at_lookup; refine known_look rfl _ _ rfl _ rfl (HKn.out.below (by repeat (first | (with_reducible first | exact HB.out | apply below_alloc | apply pw_below_drewN | apply below_drew1 | refine below_set ?_ (by assumption)) | exact HB.out))) _ rfl _ A19.out ?_; have hcz22_0 : wc.cell? ⟨gb105, 0, none⟩ = some (.int .i64 0) := (blk_cell BK105.out 0).trans rfl; have hcz22_1 : wc.cell? ⟨gb105, 1, none⟩ = some (.int .i64 0) := (blk_cell BK105.out 1).trans rfl; have hcz22_2 : wc.cell? ⟨gb105, 2, none⟩ = some (.string (⟨#[]⟩ : ByteArray)) := (blk_cell BK105.out 2).trans rfl; have hcz22_3 : wc.cell? ⟨gb105, 3, none⟩ = some (.int .i32 0) := (blk_cell BK105.out 3).trans rfl; have hfz22_0 := blk_frozen BK105.out 0; have hfz22_1 := blk_frozen BK105.out 1; have hfz22_2 := blk_frozen BK105.out 2; have hfz22_3 := blk_frozen BK105.out 3))
          refine bodyPost_ret (results_ct rfl _ _ gb105 30 #[.int .i64 0, .int .i64 a1, .string (a0.extract (a1 : Int).toNat (x8_8 : Int).toNat), .int .i32 0] (0, 0) _ rfl (by (with_reducible repeat (first | refine blk_drewN ?_ _ | refine blk_drew ?_ | refine blk_alloc ?_ _)); refine blk_put (cs := #[.int .i64 0, .int .i64 a1, .string (a0.extract (a1 : Int).toNat (x8_8 : Int).toNat), .int .i32 0]) ?_ 3 _ rfl; (with_reducible repeat (first | refine blk_drewN ?_ _ | refine blk_drew ?_ | refine blk_alloc ?_ _)); refine blk_put (cs := #[.int .i64 0, .int .i64 a1, .string (⟨#[]⟩ : ByteArray), .int .i32 0]) ?_ 2 _ rfl; (with_reducible repeat (first | refine blk_drewN ?_ _ | refine blk_drew ?_ | refine blk_alloc ?_ _)); refine blk_put (cs := #[.int .i64 0, .int .i64 0, .string (⟨#[]⟩ : ByteArray), .int .i32 0]) ?_ 1 _ rfl; (with_reducible repeat (first | refine blk_drewN ?_ _ | refine blk_drew ?_ | refine blk_alloc ?_ _)); refine blk_put (cs := #[.int .i64 0, .int .i64 0, .string (⟨#[]⟩ : ByteArray), .int .i32 0]) ?_ 0 _ rfl; (with_reducible repeat (first | refine blk_drewN ?_ _ | refine blk_drew ?_ | refine blk_alloc ?_ _)); exact BK105.out) Tryd.underlying30 rfl (by kernel_rfl)) rfl ?_
          exact ⟨by first | rfl | (simp [errW_none, errW_some] <;> rfl) | (simp [*, errW_none, errW_some] <;> rfl), by repeat (first | (with_reducible first | exact HB.out | apply below_alloc | apply pw_below_drewN | apply below_drew1 | refine below_set ?_ GE105.out) | exact HB.out)⟩
        ·rw [if_neg c18] at H; exact absurd H (by simp)
       ·rw [if_neg c17] at H; exact absurd H (by simp)
      ·rw [if_neg c16] at H; exact absurd H (by simp)
   ·replace c8 := Bool.eq_false_iff.mpr c8; subst c8; have H1 : ((lex_digit.f (bt a0 a1)).bind fun t109 => (if t109 = true then (lex_next.l1 k a0 a1 a1) else ((lex_sign.f k a0 a1).bind fun t116 => (some (2, a1, t116, 0, (t116.toList != ([] : List UInt8))))))) = some (r1, r2, r3, r4, r5) := by rw [if_neg (show ¬ (false = true) by decide)] at H; exact H
    clear H; have H := H1; clear H1; replace H := Option.bind_eq_some_iff.mp H; obtain ⟨t109, A230, H⟩ := H; replace H : (if t109 = true then (lex_next.l1 k a0 a1 a1) else ((lex_sign.f k a0 a1).bind fun t116 => (some (2, a1, t116, 0, (t116.toList != ([] : List UInt8)))))) = some (r1, r2, r3, r4, r5) := H
    have A23 := Aside0.mk A230; clear A230; by_cases c24 : t109 = true
    ·subst c24; have H1 : (lex_next.l1 k a0 a1 a1) = some (r1, r2, r3, r4, r5) := by rw [if_pos rfl] at H; exact H
     clear H; have H := H1; clear H1; have H' := Aside0.mk H
     clear H; go_enter Tryd.func25, Tryd.ntmps25
     go_wp2_with (first | ((with_reducible refine gate_dst (N := 6) rfl ?_); (try (refine gate_guard (by rfl) ?_; dsimp only)); refine box_event ?hg (N := 6) ?hd (cs := #[.int .i64 0, .int .i64 0, .string (⟨#[]⟩ : ByteArray), .int .i32 0]) (t := 30) ?hr ?_; (case hd => rfl); (case hg => rfl); (case hr => first | (go_simp; done) | (go_simp; rfl)); intro gb105 hg w25 hbox hb; have n0_ := Aside0.mk (below_step (by repeat (first | (with_reducible first | exact HB.out | apply below_alloc | apply pw_below_drewN | apply below_drew1) | exact HB.out)) hb); have n1_ := Aside0.mk (hbox); have n2_ := Aside0.mk ((by rw [hg]; exact (below_size (by repeat (first | (with_reducible first | exact HB.out | apply below_alloc | apply pw_below_drewN | apply below_drew1) | exact HB.out))) : w.heap.size ≤ gb105)); have n3_ := Aside0.mk ((by rw [hg]; exact (below_size (by repeat (first | (with_reducible first | exact HB.out | apply below_alloc | apply pw_below_drewN | apply below_drew1) | exact HB.out))) : w.heap.size ≤ gb105)); clear HB; have HB := n0_; have BK105 := n1_; have GW105 := n2_; have GE105 := n3_; clear n0_ n1_ n2_ n3_; clear hb hbox hg; have p6 : 0 ≤ (a1 : Int) := of_decide_eq_true (by with_reducible assumption); have q6 : a1 < (a0.size : Int) := of_decide_eq_true (by with_reducible assumption); have hx6 := bt_at a0 a1; replace p6 := eq_true p6; replace q6 := eq_true q6) | ((with_reducible refine gate_callee (f := 28) rfl ?_); refine goesL_ (some 20) rfl rfl Tryd.func28 (by kernel_rfl) rfl #[.int .u8 (bt a0 a1)] rfl (by (try simp only [List.map_toArray, List.map_cons, List.map_nil]); first | done | rfl | (simp only [List.length_drop, List.length_take]; rfl)) ?_; (with_reducible refine (lex_letter.calls (bt a0 a1) false _ A7.out).mono ?_); rintro e w' ⟨rfl, ⟨nd, rfl⟩⟩; refine ⟨_, rfl, ?_⟩) | ((with_reducible refine gate_callee (f := 38) rfl ?_); refine goesL_ (some 51) rfl rfl Tryd.func38 (by kernel_rfl) rfl #[.int .u8 (bt a0 a1)] rfl (by (try simp only [List.map_toArray, List.map_cons, List.map_nil]); first | done | rfl | (simp only [List.length_drop, List.length_take]; rfl)) ?_; (with_reducible refine (lex_digit.calls (bt a0 a1) true _ A23.out).mono ?_); rintro e w' ⟨rfl, ⟨nd, rfl⟩⟩; refine ⟨_, rfl, ?_⟩))
     go_loopg [8] k (fun kq v8 w' => ∃ (x8_1 : Int), v8 = .int .i64 x8_1 ∧ Aside0 (lex_next.l1 kq a0 a1 x8_1 = some (r1, r2, r3, r4, r5)) ∧ Aside0 (kq ≤ k) ∧ Aside0 (w'.heap[gb105]? = some (.cells #[.int .i64 0, .int .i64 0, .string (⟨#[]⟩ : ByteArray), .int .i32 0] 30 (0, 0))) ∧ Aside0 (Below w.heap.size w w'))
     case atStart => exact ⟨(a1), (by first | rfl | (simp; done) | (simp [*]; done)), H', ⟨Nat.le_refl _⟩, ⟨by (with_reducible repeat (first | refine blk_drewN ?_ _ | refine blk_drew ?_ | refine blk_alloc ?_ _)); exact BK105.out⟩, ⟨by repeat (first | (with_reducible first | exact HB.out | apply below_alloc | apply pw_below_drewN | apply below_drew1 | refine below_set ?_ GE105.out) | exact HB.out)⟩⟩
     case round =>
      clear H'; try clear c1
      try clear p1
      try clear q1
      try clear hx1
      try clear c2
      try clear p2
      try clear c3
      try clear c4
      try clear c4b0
      try clear c5
      try clear c5b0
      try clear p6
      try clear q6
      try clear hx6
      try clear c7
      try clear c8
      try clear c11
      try clear c11b0
      try clear c12
      try clear c12b0
      try clear p13
      try clear q13
      try clear hx13
      try clear c15
      try clear c16
      try clear c16b0
      try clear c16b1
      try clear c17
      try clear c17b0
      try clear c17b1
      try clear c18
      try clear c18b0
      try clear c18b1
      try clear c20
      try clear c24
      try clear c25
      try clear hcz21_0
      try clear hcz21_1
      try clear hcz21_2
      try clear hcz21_3
      try clear hcz22_0
      try clear hcz22_1
      try clear hcz22_2
      try clear hcz22_3
      try clear hfz21_0
      try clear hfz21_1
      try clear hfz21_2
      try clear hfz21_3
      try clear hfz22_0
      try clear hfz22_1
      try clear hfz22_2
      try clear hfz22_3
      try clear p1
      try clear p13
      try clear p2
      try clear p6
      try clear q1
      try clear q13
      try clear q6
      obtain ⟨x8_1, rfl, HA, HK1, BK105, HB⟩ := hrel; cases gk with
      | zero => exact absurd HA.out (by simp [lex_next.l1])
      | succ k1 =>
       have H := HA.out; clear HA; simp only [lex_next.l1] at H
       by_cases c26 : x8_1 < (a0.size : Int)
       ·rw [if_pos c26] at H; have c26b0 : decide (x8_1 < (a0.size : Int)) = true := decide_eq_true c26
        clear c26; by_cases c27 : 0 ≤ x8_1
        ·rw [if_pos c27] at H; have c27b0 : decide (0 ≤ x8_1) = true := decide_eq_true c27
         clear c27; replace H := Option.bind_eq_some_iff.mp H; obtain ⟨t110, A290, H⟩ := H; replace H : (if t110 = true then (lex_next.l1 k1 a0 a1 (wrap64 (x8_1 + 1))) else (if 0 ≤ a1 then (if a1 ≤ x8_1 then (if x8_1 ≤ (a0.size : Int) then ((lex_integer.f k1 (a0.extract (a1 : Int).toNat (x8_1 : Int).toNat)).bind fun bt111 => (if bt111.2 = true then (if x8_1 = (a0.size : Int) then (some (1, a1, a0.extract (a1 : Int).toNat (x8_1 : Int).toNat, bt111.1, true)) else ((lex_inner.f (bt a0 x8_1)).bind fun t113 => (some (1, a1, a0.extract (a1 : Int).toNat (x8_1 : Int).toNat, bt111.1, !t113)))) else (some (1, a1, a0.extract (a1 : Int).toNat (x8_1 : Int).toNat, bt111.1, false)))) else (none)) else (none)) else (none))) = some (r1, r2, r3, r4, r5) := H
         have A29 := Aside0.mk A290; clear A290; by_cases c30 : t110 = true
         ·subst c30; have H1 : (lex_next.l1 k1 a0 a1 (wrap64 (x8_1 + 1))) = some (r1, r2, r3, r4, r5) := by rw [if_pos rfl] at H; exact H
          clear H; have H := H1; clear H1; have H' := Aside0.mk H
          clear H; have p28 : 0 ≤ (x8_1 : Int) := of_decide_eq_true (by with_reducible assumption)
          have q28 : x8_1 < (a0.size : Int) := of_decide_eq_true (by with_reducible assumption)
          have hx28 := bt_at a0 x8_1; replace p28 := eq_true p28; replace q28 := eq_true q28; go_wp2_with (first | (go_at_call 38; (with_reducible refine (lex_digit.calls (bt a0 x8_1) true _ A29.out).mono ?_); rintro e w' ⟨rfl, ⟨nd, rfl⟩⟩))
          go_roundg k1
          case measure => have := HK1.out; omega
          case rel => exact ⟨(wrap64 (x8_1 + 1)), (by first | rfl | (simp; done) | (simp [*]; done)), H', ⟨by have := HK1.out; omega⟩, ⟨by (with_reducible repeat (first | refine blk_drewN ?_ _ | refine blk_drew ?_ | refine blk_alloc ?_ _)); exact BK105.out⟩, ⟨by repeat (first | (with_reducible first | exact HB.out | apply below_alloc | apply pw_below_drewN | apply below_drew1 | refine below_set ?_ GE105.out) | exact HB.out)⟩⟩
         ·replace c30 := Bool.eq_false_iff.mpr c30; subst c30; have H1 : (if 0 ≤ a1 then (if a1 ≤ x8_1 then (if x8_1 ≤ (a0.size : Int) then ((lex_integer.f k1 (a0.extract (a1 : Int).toNat (x8_1 : Int).toNat)).bind fun bt111 => (if bt111.2 = true then (if x8_1 = (a0.size : Int) then (some (1, a1, a0.extract (a1 : Int).toNat (x8_1 : Int).toNat, bt111.1, true)) else ((lex_inner.f (bt a0 x8_1)).bind fun t113 => (some (1, a1, a0.extract (a1 : Int).toNat (x8_1 : Int).toNat, bt111.1, !t113)))) else (some (1, a1, a0.extract (a1 : Int).toNat (x8_1 : Int).toNat, bt111.1, false)))) else (none)) else (none)) else (none)) = some (r1, r2, r3, r4, r5) := by rw [if_neg (show ¬ (false = true) by decide)] at H; exact H
          clear H; have H := H1; clear H1; by_cases c31 : 0 ≤ a1
          ·rw [if_pos c31] at H; have c31b0 := eq_true c31; have c31b1 : decide (0 ≤ a1) = true := decide_eq_true c31
           clear c31; by_cases c32 : a1 ≤ x8_1
           ·rw [if_pos c32] at H; have c32b0 := eq_true c32; have c32b1 : decide (a1 ≤ x8_1) = true := decide_eq_true c32
            clear c32; by_cases c33 : x8_1 ≤ (a0.size : Int)
            ·rw [if_pos c33] at H; have c33b0 := eq_true c33; have c33b1 : decide (x8_1 ≤ (a0.size : Int)) = true := decide_eq_true c33
             clear c33; replace H := Option.bind_eq_some_iff.mp H; obtain ⟨⟨t111, t112⟩, A340, H⟩ := H; replace H : (if t112 = true then (if x8_1 = (a0.size : Int) then (some (1, a1, a0.extract (a1 : Int).toNat (x8_1 : Int).toNat, t111, true)) else ((lex_inner.f (bt a0 x8_1)).bind fun t113 => (some (1, a1, a0.extract (a1 : Int).toNat (x8_1 : Int).toNat, t111, !t113)))) else (some (1, a1, a0.extract (a1 : Int).toNat (x8_1 : Int).toNat, t111, false))) = some (r1, r2, r3, r4, r5) := H
             have A34 := Aside0.mk A340; clear A340; have c35b0 := eq_true (of_decide_eq_true (by with_reducible assumption) : 0 ≤ a1)
             have c36b0 := eq_true (of_decide_eq_true (by with_reducible assumption) : a1 ≤ x8_1)
             have c37b0 := eq_true (of_decide_eq_true (by with_reducible assumption) : x8_1 ≤ (a0.size : Int))
             by_cases c38 : t112 = true
             ·subst c38; have H1 : (if x8_1 = (a0.size : Int) then (some (1, a1, a0.extract (a1 : Int).toNat (x8_1 : Int).toNat, t111, true)) else ((lex_inner.f (bt a0 x8_1)).bind fun t113 => (some (1, a1, a0.extract (a1 : Int).toNat (x8_1 : Int).toNat, t111, !t113)))) = some (r1, r2, r3, r4, r5) := by rw [if_pos rfl] at H; exact H
              clear H; have H := H1; clear H1; by_cases c39 : x8_1 = (a0.size : Int)
              ·rw [if_pos c39] at H; have c39b0 : (x8_1 == (a0.size : Int)) = true := beq_iff_eq.mpr c39
               have c39b1 : (x8_1 != (a0.size : Int)) = false := bne_eq_false_iff_eq.mpr c39
               clear c39; simp only [Option.some.injEq, Prod.mk.injEq] at H
               obtain ⟨rfl, rfl, rfl, rfl, rfl⟩ := H; have p28 : 0 ≤ (x8_1 : Int) := of_decide_eq_true (by with_reducible assumption)
               have q28 : x8_1 < (a0.size : Int) := of_decide_eq_true (by with_reducible assumption)
               have hx28 := bt_at a0 x8_1; replace p28 := eq_true p28; replace q28 := eq_true q28; try go_wp2_with (first | (go_at_call 38; (with_reducible refine (lex_digit.calls (bt a0 x8_1) false _ A29.out).mono ?_); rintro e w' ⟨rfl, ⟨nd, rfl⟩⟩; (try (rw [drewN_self wr]; generalize hq_ : World.drewN wr _ = wr; have n0_ : Aside0 (wr.heap[gb105]? = some (.cells #[.int .i64 0, .int .i64 0, .string (⟨#[]⟩ : ByteArray), .int .i32 0] 30 (0, 0))) := ⟨by rw [← hq_]; exact (by (with_reducible repeat (first | refine blk_drewN ?_ _ | refine blk_drew ?_ | refine blk_alloc ?_ _)); exact BK105.out)⟩; have n1_ : Aside0 (Below w.heap.size w wr) := ⟨by rw [← hq_]; exact (by repeat (first | (with_reducible first | exact HB.out | apply below_alloc | apply pw_below_drewN | apply below_drew1 | refine below_set ?_ GE105.out) | exact HB.out))⟩; clear BK105 HB hq_; have BK105 := n0_; have HB := n1_; clear n0_ n1_))) | ((with_reducible refine gate_callee (f := 39) rfl ?_); refine goesL_ (some 69) rfl rfl Tryd.func39 (by kernel_rfl) rfl #[.string (a0.extract (a1 : Int).toNat (x8_1 : Int).toNat)] rfl (by (try simp only [List.map_toArray, List.map_cons, List.map_nil]); first | done | rfl | (simp only [List.length_drop, List.length_take]; rfl)) ?_; (with_reducible refine (lex_integer.calls k1 (a0.extract (a1 : Int).toNat (x8_1 : Int).toNat) t111 true _ A34.out).mono ?_); rintro e w' ⟨rfl, ⟨nd, rfl⟩⟩; refine ⟨_, rfl, ?_⟩; (try (rw [drewN_self wr]; generalize hq_ : World.drewN wr _ = wr; have n0_ : Aside0 (wr.heap[gb105]? = some (.cells #[.int .i64 0, .int .i64 0, .string (⟨#[]⟩ : ByteArray), .int .i32 0] 30 (0, 0))) := ⟨by rw [← hq_]; exact (by (with_reducible repeat (first | refine blk_drewN ?_ _ | refine blk_drew ?_ | refine blk_alloc ?_ _)); exact BK105.out)⟩; have n1_ : Aside0 (Below w.heap.size w wr) := ⟨by rw [← hq_]; exact (by repeat (first | (with_reducible first | exact HB.out | apply below_alloc | apply pw_below_drewN | apply below_drew1 | refine below_set ?_ GE105.out) | exact HB.out))⟩; clear BK105 HB hq_; have BK105 := n0_; have HB := n1_; clear n0_ n1_))))
               have n0_ := Aside0.mk (blk_drew BK105.out); have n1_ := Aside0.mk (below_drew1 HB.out); clear BK105; clear HB; have BK105 := n0_; have HB := n1_; clear n0_ n1_; refine start_ (n := 23) (S := fun w' => True) (ds := []) #[false, false, false, false, false, false, false, false, false, false, false, false, false, false, false, false, false, false, false, false, false, false, false] (by kernel_rfl) rfl rfl trivial (fun hHeld => ?_); refine with_tabW lex_next.tab14 lex_next.bits14 (fun HT_ HW_ => ?_)
               generalize wr.drew = w40 at BK105 HB hHeld ⊢
               refine pure_ (i := 0) (N := some 72) (v := ?_) (a' := ?_) #[true, false, false, false, false, false, false, false, false, false, false, false, false, false, false, false, false, false, false, false, false, false, false] rfl rfl (any_of HT_.out (by kernel_rfl)) (fun _ _ _ h => h) (Or.inl ⟨by rfl, ?_⟩) ?_ ?_
               rotate_left
               ·intro w'
                go_simp
                with_reducible rfl
               rotate_left
               ·simp only [Act.put, List.setIfInBounds_toArray, List.set_cons_zero, List.set_cons_succ, i64_w, i32_w]
                rfl
               refine pure_ (i := 1) (N := some 73) (v := ?_) (a' := ?_) #[true, true, false, false, false, false, false, false, false, false, false, false, false, false, false, false, false, false, false, false, false, false, false] rfl rfl (any_of HT_.out (by kernel_rfl)) (fun _ _ _ h => h) (Or.inl ⟨by rfl, ?_⟩) ?_ ?_
               rotate_left
               ·intro w'
                go_simp
                with_reducible rfl
               rotate_left
               ·simp only [Act.put, List.setIfInBounds_toArray, List.set_cons_zero, List.set_cons_succ, i64_w, i32_w]
                rfl
               refine pure_ (i := 2) (N := some 74) (v := ?_) (a' := ?_) #[true, true, true, false, false, false, false, false, false, false, false, false, false, false, false, false, false, false, false, false, false, false, false] rfl rfl (any_of HT_.out (by kernel_rfl)) (fun _ _ _ h => h) (Or.inl ⟨by rfl, ?_⟩) ?_ ?_
               rotate_left
               ·intro w'
                go_simp
                with_reducible rfl
               rotate_left
               ·simp only [Act.put, List.setIfInBounds_toArray, List.set_cons_zero, List.set_cons_succ, i64_w, i32_w]
                rfl
               refine pure_ (i := 3) (N := some 75) (v := ?_) (a' := ?_) #[true, true, true, true, false, false, false, false, false, false, false, false, false, false, false, false, false, false, false, false, false, false, false] rfl rfl (any_of HT_.out (by kernel_rfl)) (fun _ _ _ h => h) (Or.inl ⟨by rfl, ?_⟩) ?_ ?_
               rotate_left
               ·intro w'
                go_simp
                with_reducible rfl
               rotate_left
               ·simp only [Act.put, List.setIfInBounds_toArray, List.set_cons_zero, List.set_cons_succ, i64_w, i32_w]
                rfl
               refine pure_ (i := 4) (N := some 76) (v := ?_) (a' := ?_) #[true, true, true, true, true, false, false, false, false, false, false, false, false, false, false, false, false, false, false, false, false, false, false] rfl rfl (any_of HT_.out (by kernel_rfl)) (fun _ _ _ h => h) (Or.inl ⟨by rfl, ?_⟩) ?_ ?_
               rotate_left
               ·intro w'
                go_simp
                with_reducible rfl
               rotate_left
               ·simp only [Act.put, List.setIfInBounds_toArray, List.set_cons_zero, List.set_cons_succ, i64_w, i32_w]
                rfl
               refine pure_ (i := 5) (N := some 77) (v := ?_) (a' := ?_) #[true, true, true, true, true, true, false, false, false, false, false, false, false, false, false, false, false, false, false, false, false, false, false] rfl rfl (any_of HT_.out (by kernel_rfl)) (fun _ _ _ h => h) (Or.inl ⟨by rfl, ?_⟩) ?_ ?_
               rotate_left
               ·intro w'
                go_simp
                with_reducible rfl
               rotate_left
               ·simp only [Act.put, List.setIfInBounds_toArray, List.set_cons_zero, List.set_cons_succ, i64_w, i32_w]
                rfl
               refine pure_ (i := 6) (N := some 78) (v := ?_) (a' := ?_) #[true, true, true, true, true, true, true, false, false, false, false, false, false, false, false, false, false, false, false, false, false, false, false] rfl rfl (any_of HT_.out (by kernel_rfl)) (fun _ _ _ h => h) (Or.inl ⟨by rfl, ?_⟩) ?_ ?_
               rotate_left
               ·intro w'
                go_simp
                with_reducible rfl
               rotate_left
               ·simp only [Act.put, List.setIfInBounds_toArray, List.set_cons_zero, List.set_cons_succ, i64_w, i32_w]
                rfl
               refine pure_ (i := 7) (N := some 79) (v := ?_) (a' := ?_) #[true, true, true, true, true, true, true, true, false, false, false, false, false, false, false, false, false, false, false, false, false, false, false] rfl rfl (any_of HT_.out (by kernel_rfl)) (fun _ _ _ h => h) (Or.inl ⟨by rfl, ?_⟩) ?_ ?_
               rotate_left
               ·intro w'
                go_simp
                with_reducible rfl
               rotate_left
               ·simp only [Act.put, List.setIfInBounds_toArray, List.set_cons_zero, List.set_cons_succ, i64_w, i32_w]
                rfl
               refine pure_ (i := 8) (N := some 80) (v := ?_) (a' := ?_) #[true, true, true, true, true, true, true, true, true, false, false, false, false, false, false, false, false, false, false, false, false, false, false] rfl rfl (any_of HT_.out (by kernel_rfl)) (fun _ _ _ h => h) (Or.inl ⟨by rfl, ?_⟩) ?_ ?_
               rotate_left
               ·intro w'
                go_simp
                with_reducible rfl
               rotate_left
               ·simp only [Act.put, List.setIfInBounds_toArray, List.set_cons_zero, List.set_cons_succ, i64_w, i32_w]
                rfl
               refine pure_ (i := 9) (N := some 81) (v := ?_) (a' := ?_) #[true, true, true, true, true, true, true, true, true, true, false, false, false, false, false, false, false, false, false, false, false, false, false] rfl rfl (any_of HT_.out (by kernel_rfl)) (fun _ _ _ h => h) (Or.inl ⟨by rfl, ?_⟩) ?_ ?_
               rotate_left
               ·intro w'
                go_simp
                with_reducible rfl
               rotate_left
               ·simp only [Act.put, List.setIfInBounds_toArray, List.set_cons_zero, List.set_cons_succ, i64_w, i32_w]
                rfl
               refine pure_ (i := 10) (N := some 82) (v := ?_) (a' := ?_) #[true, true, true, true, true, true, true, true, true, true, true, false, false, false, false, false, false, false, false, false, false, false, false] rfl rfl (any_of HT_.out (by kernel_rfl)) (fun _ _ _ h => h) (Or.inl ⟨by rfl, ?_⟩) ?_ ?_
               rotate_left
               ·intro w'
                go_simp
                with_reducible rfl
               rotate_left
               ·simp only [Act.put, List.setIfInBounds_toArray, List.set_cons_zero, List.set_cons_succ, i64_w, i32_w]
                rfl
               refine pure_ (i := 11) (N := some 83) (v := ?_) (a' := ?_) #[true, true, true, true, true, true, true, true, true, true, true, true, false, false, false, false, false, false, false, false, false, false, false] rfl rfl (any_of HT_.out (by kernel_rfl)) (fun _ _ _ h => h) (Or.inl ⟨by rfl, ?_⟩) ?_ ?_
               rotate_left
               ·intro w'
                go_simp
                with_reducible rfl
               rotate_left
               ·simp only [Act.put, List.setIfInBounds_toArray, List.set_cons_zero, List.set_cons_succ, i64_w, i32_w]
                rfl
               refine pure_ (i := 12) (N := some 84) (v := ?_) (a' := ?_) #[true, true, true, true, true, true, true, true, true, true, true, true, true, false, false, false, false, false, false, false, false, false, false] rfl rfl (any_of HT_.out (by kernel_rfl)) (fun _ _ _ h => h) (Or.inl ⟨by rfl, ?_⟩) ?_ ?_
               rotate_left
               ·intro w'
                go_simp
                with_reducible rfl
               rotate_left
               ·simp only [Act.put, List.setIfInBounds_toArray, List.set_cons_zero, List.set_cons_succ, i64_w, i32_w]
                rfl
               refine pure_ (i := 13) (N := some 85) (v := ?_) (a' := ?_) #[true, true, true, true, true, true, true, true, true, true, true, true, true, true, false, false, false, false, false, false, false, false, false] rfl rfl (any_of HT_.out (by kernel_rfl)) (fun _ _ _ h => h) (Or.inl ⟨by rfl, ?_⟩) ?_ ?_
               rotate_left
               ·intro w'
                go_simp
                with_reducible rfl
               rotate_left
               ·simp only [Act.put, List.setIfInBounds_toArray, List.set_cons_zero, List.set_cons_succ, i64_w, i32_w]
                rfl
               refine pure_ (i := 14) (N := some 86) (v := undef) (a' := ?_) #[true, true, true, true, true, true, true, true, true, true, true, true, true, true, true, false, false, false, false, false, false, false, false] rfl rfl (any_of HT_.out (by kernel_rfl)) (fun _ _ _ h => h) (Or.inr ⟨by rfl, rfl⟩) ?_ ?_
               rotate_left
               ·simp only [Act.put, List.setIfInBounds_toArray, List.set_cons_zero, List.set_cons_succ, i64_w, i32_w]
                rfl
               refine pure_ (i := 15) (N := some 87) (v := undef) (a' := ?_) #[true, true, true, true, true, true, true, true, true, true, true, true, true, true, true, true, false, false, false, false, false, false, false] rfl rfl (any_of HT_.out (by kernel_rfl)) (fun _ _ _ h => h) (Or.inr ⟨by rfl, rfl⟩) ?_ ?_
               rotate_left
               ·simp only [Act.put, List.setIfInBounds_toArray, List.set_cons_zero, List.set_cons_succ, i64_w, i32_w]
                rfl
               refine pure_ (i := 16) (N := some 88) (v := undef) (a' := ?_) #[true, true, true, true, true, true, true, true, true, true, true, true, true, true, true, true, true, false, false, false, false, false, false] rfl rfl (any_of HT_.out (by kernel_rfl)) (fun _ _ _ h => h) (Or.inr ⟨by rfl, rfl⟩) ?_ ?_
               rotate_left
               ·simp only [Act.put, List.setIfInBounds_toArray, List.set_cons_zero, List.set_cons_succ, i64_w, i32_w]
                rfl
               refine pure_ (i := 17) (N := some 89) (v := undef) (a' := ?_) #[true, true, true, true, true, true, true, true, true, true, true, true, true, true, true, true, true, true, false, false, false, false, false] rfl rfl (any_of HT_.out (by kernel_rfl)) (fun _ _ _ h => h) (Or.inr ⟨by rfl, rfl⟩) ?_ ?_
               rotate_left
               ·simp only [Act.put, List.setIfInBounds_toArray, List.set_cons_zero, List.set_cons_succ, i64_w, i32_w]
                rfl
               refine pure_ (i := 18) (N := some 90) (v := undef) (a' := ?_) #[true, true, true, true, true, true, true, true, true, true, true, true, true, true, true, true, true, true, true, false, false, false, false] rfl rfl (any_of HT_.out (by kernel_rfl)) (fun _ _ _ h => h) (Or.inr ⟨by rfl, rfl⟩) ?_ ?_
               rotate_left
               ·simp only [Act.put, List.setIfInBounds_toArray, List.set_cons_zero, List.set_cons_succ, i64_w, i32_w]
                rfl
               refine pure_ (i := 19) (N := some 91) (v := ?_) (a' := ?_) #[true, true, true, true, true, true, true, true, true, true, true, true, true, true, true, true, true, true, true, true, false, false, false] rfl rfl (any_of HT_.out (by kernel_rfl)) (fun _ _ _ h => h) (Or.inl ⟨by rfl, ?_⟩) ?_ ?_
               rotate_left
               ·intro w'
                go_simp
                with_reducible rfl
               rotate_left
               ·simp only [Act.put, List.setIfInBounds_toArray, List.set_cons_zero, List.set_cons_succ, i64_w, i32_w]
                rfl
               refine pure_ (i := 20) (N := some 92) (v := ?_) (a' := ?_) #[true, true, true, true, true, true, true, true, true, true, true, true, true, true, true, true, true, true, true, true, true, false, false] rfl rfl (any_of HT_.out (by kernel_rfl)) (fun _ _ _ h => h) (Or.inl ⟨by rfl, ?_⟩) ?_ ?_
               rotate_left
               ·intro w'
                go_simp
                with_reducible rfl
               rotate_left
               ·simp only [Act.put, List.setIfInBounds_toArray, List.set_cons_zero, List.set_cons_succ, i64_w, i32_w]
                rfl
               refine one_ (i := 21) (N := none) #[true, true, true, true, true, true, true, true, true, true, true, true, true, true, true, true, true, true, true, true, true, true, false] rfl rfl (one_of HT_.out (by kernel_rfl)) (by decide) (fun K hK => ?_)
               have hs41 : w40.cell? ⟨gb105, 0, none⟩ = some (.int .i64 0) := (blk_cell BK105.out 0).trans rfl
               have hfs41 := blk_frozen BK105.out 0; have hs42 : w40.cell? ⟨gb105, 1, none⟩ = some (.int .i64 0) := (blk_cell BK105.out 1).trans rfl
               have hfs42 := blk_frozen BK105.out 1; have hs43 : w40.cell? ⟨gb105, 2, none⟩ = some (.string (⟨#[]⟩ : ByteArray)) := (blk_cell BK105.out 2).trans rfl
               have hfs43 := blk_frozen BK105.out 2; have hs44 : w40.cell? ⟨gb105, 3, none⟩ = some (.int .i32 0) := (blk_cell BK105.out 3).trans rfl
               have hfs44 := blk_frozen BK105.out 3; refine skip_ (w1 := ?_) (by rfl) rfl ?_ ?_
               rotate_left
               ·go_simp
                rfl
               refine hK.out _ _ trivial (fun hHeld => ?_)
               clear hK K; refine pure_ (i := 22) (N := some 7) (v := ?_) (a' := ?_) #[true, true, true, true, true, true, true, true, true, true, true, true, true, true, true, true, true, true, true, true, true, true, true] rfl rfl (any_of HT_.out (by kernel_rfl)) (fun _ _ _ h => h) (Or.inl ⟨by rfl, ?_⟩) ?_ ?_
               rotate_left
               ·intro w'
                go_simp
                with_reducible rfl
               rotate_left
               ·simp only [Act.put, List.setIfInBounds_toArray, List.set_cons_zero, List.set_cons_succ, i64_w, i32_w]
                rfl
               refine done_ (done_of HT_.out (by kernel_rfl)) ?_
               try go_wp2
               refine bodyPost_ret (results_ct rfl _ _ gb105 30 #[.int .i64 1, .int .i64 a1, .string (a0.extract (a1 : Int).toNat (x8_1 : Int).toNat), .int .i32 t111] (0, 0) _ rfl (by (with_reducible repeat (first | refine blk_drewN ?_ _ | refine blk_drew ?_ | refine blk_alloc ?_ _)); refine blk_put (cs := #[.int .i64 1, .int .i64 a1, .string (a0.extract (a1 : Int).toNat (x8_1 : Int).toNat), .int .i32 0]) ?_ 3 _ rfl; (with_reducible repeat (first | refine blk_drewN ?_ _ | refine blk_drew ?_ | refine blk_alloc ?_ _)); refine blk_put (cs := #[.int .i64 1, .int .i64 a1, .string (⟨#[]⟩ : ByteArray), .int .i32 0]) ?_ 2 _ rfl; (with_reducible repeat (first | refine blk_drewN ?_ _ | refine blk_drew ?_ | refine blk_alloc ?_ _)); refine blk_put (cs := #[.int .i64 1, .int .i64 0, .string (⟨#[]⟩ : ByteArray), .int .i32 0]) ?_ 1 _ rfl; (with_reducible repeat (first | refine blk_drewN ?_ _ | refine blk_drew ?_ | refine blk_alloc ?_ _)); refine blk_put (cs := #[.int .i64 0, .int .i64 0, .string (⟨#[]⟩ : ByteArray), .int .i32 0]) ?_ 0 _ rfl; (with_reducible repeat (first | refine blk_drewN ?_ _ | refine blk_drew ?_ | refine blk_alloc ?_ _)); exact BK105.out) Tryd.underlying30 rfl (by kernel_rfl)) rfl ?_
               exact ⟨by first | rfl | (simp [errW_none, errW_some] <;> rfl) | (simp [*, errW_none, errW_some] <;> rfl), by repeat (first | (with_reducible first | exact HB.out | apply below_alloc | apply pw_below_drewN | apply below_drew1 | refine below_set ?_ GE105.out) | exact HB.out)⟩
              ·rw [if_neg c39] at H; have c39b0 : (x8_1 == (a0.size : Int)) = false := beq_eq_false_iff_ne.mpr c39
               have c39b1 : (x8_1 != (a0.size : Int)) = true := bne_iff_ne.mpr c39
               replace H := Option.bind_eq_some_iff.mp H; obtain ⟨t113, A460, H⟩ := H; replace H : (some (1, a1, a0.extract (a1 : Int).toNat (x8_1 : Int).toNat, t111, !t113)) = some (r1, r2, r3, r4, r5) := H; have A46 := Aside0.mk A460; clear A460; simp only [Option.some.injEq, Prod.mk.injEq] at H
               obtain ⟨rfl, rfl, rfl, rfl, rfl⟩ := H; have p28 : 0 ≤ (x8_1 : Int) := of_decide_eq_true (by with_reducible assumption)
               have q28 : x8_1 < (a0.size : Int) := of_decide_eq_true (by with_reducible assumption)
               have hx28 := bt_at a0 x8_1; replace p28 := eq_true p28; replace q28 := eq_true q28; try go_wp2_with (first | (go_at_call 38; (with_reducible refine (lex_digit.calls (bt a0 x8_1) false _ A29.out).mono ?_); rintro e w' ⟨rfl, ⟨nd, rfl⟩⟩; (try (rw [drewN_self wr]; generalize hq_ : World.drewN wr _ = wr; have n0_ : Aside0 (wr.heap[gb105]? = some (.cells #[.int .i64 0, .int .i64 0, .string (⟨#[]⟩ : ByteArray), .int .i32 0] 30 (0, 0))) := ⟨by rw [← hq_]; exact (by (with_reducible repeat (first | refine blk_drewN ?_ _ | refine blk_drew ?_ | refine blk_alloc ?_ _)); exact BK105.out)⟩; have n1_ : Aside0 (Below w.heap.size w wr) := ⟨by rw [← hq_]; exact (by repeat (first | (with_reducible first | exact HB.out | apply below_alloc | apply pw_below_drewN | apply below_drew1 | refine below_set ?_ GE105.out) | exact HB.out))⟩; clear BK105 HB hq_; have BK105 := n0_; have HB := n1_; clear n0_ n1_))) | ((with_reducible refine gate_callee (f := 39) rfl ?_); refine goesL_ (some 69) rfl rfl Tryd.func39 (by kernel_rfl) rfl #[.string (a0.extract (a1 : Int).toNat (x8_1 : Int).toNat)] rfl (by (try simp only [List.map_toArray, List.map_cons, List.map_nil]); first | done | rfl | (simp only [List.length_drop, List.length_take]; rfl)) ?_; (with_reducible refine (lex_integer.calls k1 (a0.extract (a1 : Int).toNat (x8_1 : Int).toNat) t111 true _ A34.out).mono ?_); rintro e w' ⟨rfl, ⟨nd, rfl⟩⟩; refine ⟨_, rfl, ?_⟩; (try (rw [drewN_self wr]; generalize hq_ : World.drewN wr _ = wr; have n0_ : Aside0 (wr.heap[gb105]? = some (.cells #[.int .i64 0, .int .i64 0, .string (⟨#[]⟩ : ByteArray), .int .i32 0] 30 (0, 0))) := ⟨by rw [← hq_]; exact (by (with_reducible repeat (first | refine blk_drewN ?_ _ | refine blk_drew ?_ | refine blk_alloc ?_ _)); exact BK105.out)⟩; have n1_ : Aside0 (Below w.heap.size w wr) := ⟨by rw [← hq_]; exact (by repeat (first | (with_reducible first | exact HB.out | apply below_alloc | apply pw_below_drewN | apply below_drew1 | refine below_set ?_ GE105.out) | exact HB.out))⟩; clear BK105 HB hq_; have BK105 := n0_; have HB := n1_; clear n0_ n1_))))
               have n0_ := Aside0.mk (blk_drew BK105.out); have n1_ := Aside0.mk (below_drew1 HB.out); clear BK105; clear HB; have BK105 := n0_; have HB := n1_; clear n0_ n1_; have p45 : 0 ≤ (x8_1 : Int) := of_decide_eq_true (by with_reducible assumption)
               have q45 : x8_1 < (a0.size : Int) := of_decide_eq_true (by with_reducible assumption)
               have hx45 := bt_at a0 x8_1; replace p45 := eq_true p45; replace q45 := eq_true q45; refine start_ (n := 23) (S := fun w' => True) (ds := []) #[false, false, false, false, false, false, false, false, false, false, false, false, false, false, false, false, false, false, false, false, false, false, false] (by kernel_rfl) rfl rfl trivial (fun hHeld => ?_); refine with_tabW lex_next.tab14 lex_next.bits14 (fun HT_ HW_ => ?_)
               generalize wr.drew = w47 at BK105 HB hHeld ⊢
               refine pure_ (i := 0) (N := some 72) (v := ?_) (a' := ?_) #[true, false, false, false, false, false, false, false, false, false, false, false, false, false, false, false, false, false, false, false, false, false, false] rfl rfl (any_of HT_.out (by kernel_rfl)) (fun _ _ _ h => h) (Or.inl ⟨by rfl, ?_⟩) ?_ ?_
               rotate_left
               ·intro w'
                go_simp
                with_reducible rfl
               rotate_left
               ·simp only [Act.put, List.setIfInBounds_toArray, List.set_cons_zero, List.set_cons_succ, i64_w, i32_w]
                rfl
               refine pure_ (i := 1) (N := some 73) (v := ?_) (a' := ?_) #[true, true, false, false, false, false, false, false, false, false, false, false, false, false, false, false, false, false, false, false, false, false, false] rfl rfl (any_of HT_.out (by kernel_rfl)) (fun _ _ _ h => h) (Or.inl ⟨by rfl, ?_⟩) ?_ ?_
               rotate_left
               ·intro w'
                go_simp
                with_reducible rfl
               rotate_left
               ·simp only [Act.put, List.setIfInBounds_toArray, List.set_cons_zero, List.set_cons_succ, i64_w, i32_w]
                rfl
               refine pure_ (i := 2) (N := some 74) (v := ?_) (a' := ?_) #[true, true, true, false, false, false, false, false, false, false, false, false, false, false, false, false, false, false, false, false, false, false, false] rfl rfl (any_of HT_.out (by kernel_rfl)) (fun _ _ _ h => h) (Or.inl ⟨by rfl, ?_⟩) ?_ ?_
               rotate_left
               ·intro w'
                go_simp
                with_reducible rfl
               rotate_left
               ·simp only [Act.put, List.setIfInBounds_toArray, List.set_cons_zero, List.set_cons_succ, i64_w, i32_w]
                rfl
               refine pure_ (i := 3) (N := some 75) (v := ?_) (a' := ?_) #[true, true, true, true, false, false, false, false, false, false, false, false, false, false, false, false, false, false, false, false, false, false, false] rfl rfl (any_of HT_.out (by kernel_rfl)) (fun _ _ _ h => h) (Or.inl ⟨by rfl, ?_⟩) ?_ ?_
               rotate_left
               ·intro w'
                go_simp
                with_reducible rfl
               rotate_left
               ·simp only [Act.put, List.setIfInBounds_toArray, List.set_cons_zero, List.set_cons_succ, i64_w, i32_w]
                rfl
               refine pure_ (i := 4) (N := some 76) (v := ?_) (a' := ?_) #[true, true, true, true, true, false, false, false, false, false, false, false, false, false, false, false, false, false, false, false, false, false, false] rfl rfl (any_of HT_.out (by kernel_rfl)) (fun _ _ _ h => h) (Or.inl ⟨by rfl, ?_⟩) ?_ ?_
               rotate_left
               ·intro w'
                go_simp
                with_reducible rfl
               rotate_left
               ·simp only [Act.put, List.setIfInBounds_toArray, List.set_cons_zero, List.set_cons_succ, i64_w, i32_w]
                rfl
               refine pure_ (i := 5) (N := some 77) (v := ?_) (a' := ?_) #[true, true, true, true, true, true, false, false, false, false, false, false, false, false, false, false, false, false, false, false, false, false, false] rfl rfl (any_of HT_.out (by kernel_rfl)) (fun _ _ _ h => h) (Or.inl ⟨by rfl, ?_⟩) ?_ ?_
               rotate_left
               ·intro w'
                go_simp
                with_reducible rfl
               rotate_left
               ·simp only [Act.put, List.setIfInBounds_toArray, List.set_cons_zero, List.set_cons_succ, i64_w, i32_w]
                rfl
               refine pure_ (i := 6) (N := some 78) (v := ?_) (a' := ?_) #[true, true, true, true, true, true, true, false, false, false, false, false, false, false, false, false, false, false, false, false, false, false, false] rfl rfl (any_of HT_.out (by kernel_rfl)) (fun _ _ _ h => h) (Or.inl ⟨by rfl, ?_⟩) ?_ ?_
               rotate_left
               ·intro w'
                go_simp
                with_reducible rfl
               rotate_left
               ·simp only [Act.put, List.setIfInBounds_toArray, List.set_cons_zero, List.set_cons_succ, i64_w, i32_w]
                rfl
               refine pure_ (i := 7) (N := some 79) (v := ?_) (a' := ?_) #[true, true, true, true, true, true, true, true, false, false, false, false, false, false, false, false, false, false, false, false, false, false, false] rfl rfl (any_of HT_.out (by kernel_rfl)) (fun _ _ _ h => h) (Or.inl ⟨by rfl, ?_⟩) ?_ ?_
               rotate_left
               ·intro w'
                go_simp
                with_reducible rfl
               rotate_left
               ·simp only [Act.put, List.setIfInBounds_toArray, List.set_cons_zero, List.set_cons_succ, i64_w, i32_w]
                rfl
               refine pure_ (i := 8) (N := some 80) (v := ?_) (a' := ?_) #[true, true, true, true, true, true, true, true, true, false, false, false, false, false, false, false, false, false, false, false, false, false, false] rfl rfl (any_of HT_.out (by kernel_rfl)) (fun _ _ _ h => h) (Or.inl ⟨by rfl, ?_⟩) ?_ ?_
               rotate_left
               ·intro w'
                go_simp
                with_reducible rfl
               rotate_left
               ·simp only [Act.put, List.setIfInBounds_toArray, List.set_cons_zero, List.set_cons_succ, i64_w, i32_w]
                rfl
               refine pure_ (i := 9) (N := some 81) (v := ?_) (a' := ?_) #[true, true, true, true, true, true, true, true, true, true, false, false, false, false, false, false, false, false, false, false, false, false, false] rfl rfl (any_of HT_.out (by kernel_rfl)) (fun _ _ _ h => h) (Or.inl ⟨by rfl, ?_⟩) ?_ ?_
               rotate_left
               ·intro w'
                go_simp
                with_reducible rfl
               rotate_left
               ·simp only [Act.put, List.setIfInBounds_toArray, List.set_cons_zero, List.set_cons_succ, i64_w, i32_w]
                rfl
               refine pure_ (i := 10) (N := some 82) (v := ?_) (a' := ?_) #[true, true, true, true, true, true, true, true, true, true, true, false, false, false, false, false, false, false, false, false, false, false, false] rfl rfl (any_of HT_.out (by kernel_rfl)) (fun _ _ _ h => h) (Or.inl ⟨by rfl, ?_⟩) ?_ ?_
               rotate_left
               ·intro w'
                go_simp
                with_reducible rfl
               rotate_left
               ·simp only [Act.put, List.setIfInBounds_toArray, List.set_cons_zero, List.set_cons_succ, i64_w, i32_w]
                rfl
               refine pure_ (i := 11) (N := some 83) (v := ?_) (a' := ?_) #[true, true, true, true, true, true, true, true, true, true, true, true, false, false, false, false, false, false, false, false, false, false, false] rfl rfl (any_of HT_.out (by kernel_rfl)) (fun _ _ _ h => h) (Or.inl ⟨by rfl, ?_⟩) ?_ ?_
               rotate_left
               ·intro w'
                go_simp
                with_reducible rfl
               rotate_left
               ·simp only [Act.put, List.setIfInBounds_toArray, List.set_cons_zero, List.set_cons_succ, i64_w, i32_w]
                rfl
               refine pure_ (i := 12) (N := some 84) (v := ?_) (a' := ?_) #[true, true, true, true, true, true, true, true, true, true, true, true, true, false, false, false, false, false, false, false, false, false, false] rfl rfl (any_of HT_.out (by kernel_rfl)) (fun _ _ _ h => h) (Or.inl ⟨by rfl, ?_⟩) ?_ ?_
               rotate_left
               ·intro w'
                go_simp
                with_reducible rfl
               rotate_left
               ·simp only [Act.put, List.setIfInBounds_toArray, List.set_cons_zero, List.set_cons_succ, i64_w, i32_w]
                rfl
               refine pure_ (i := 13) (N := some 85) (v := ?_) (a' := ?_) #[true, true, true, true, true, true, true, true, true, true, true, true, true, true, false, false, false, false, false, false, false, false, false] rfl rfl (any_of HT_.out (by kernel_rfl)) (fun _ _ _ h => h) (Or.inl ⟨by rfl, ?_⟩) ?_ ?_
               rotate_left
               ·intro w'
                go_simp
                with_reducible rfl
               rotate_left
               ·simp only [Act.put, List.setIfInBounds_toArray, List.set_cons_zero, List.set_cons_succ, i64_w, i32_w]
                rfl
               refine pure_ (i := 14) (N := some 86) (v := ?_) (a' := ?_) #[true, true, true, true, true, true, true, true, true, true, true, true, true, true, true, false, false, false, false, false, false, false, false] rfl rfl (any_of HT_.out (by kernel_rfl)) (fun _ _ _ h => h) (Or.inl ⟨by rfl, ?_⟩) ?_ ?_
               rotate_left
               ·intro w'
                go_simp
                with_reducible rfl
               rotate_left
               ·simp only [Act.put, List.setIfInBounds_toArray, List.set_cons_zero, List.set_cons_succ, i64_w, i32_w]
                rfl
               refine pure_ (i := 15) (N := some 87) (v := ?_) (a' := ?_) #[true, true, true, true, true, true, true, true, true, true, true, true, true, true, true, true, false, false, false, false, false, false, false] rfl rfl (any_of HT_.out (by kernel_rfl)) (fun _ _ _ h => h) (Or.inl ⟨by rfl, ?_⟩) ?_ ?_
               rotate_left
               ·intro w'
                go_simp
                with_reducible rfl
               rotate_left
               ·simp only [Act.put, List.setIfInBounds_toArray, List.set_cons_zero, List.set_cons_succ, i64_w, i32_w]
                rfl
               refine take_ (i := 16) (N := some 88) (v := ?_) (a' := ?_) #[true, true, true, true, true, true, true, true, true, true, true, true, true, true, true, true, true, false, false, false, false, false, false] rfl rfl (take_ofW HT_.out HW_.out (by kernel_rfl)) (fun _ _ _ h => h) (Or.inl ⟨by rfl, ?_⟩) hHeld ?_ ?_
               rotate_left
               ·intro w' _
                go_simp
                with_reducible rfl
               rotate_left
               ·simp only [Act.put, List.setIfInBounds_toArray, List.set_cons_zero, List.set_cons_succ, i64_w, i32_w]
                rfl
               refine one_ (i := 17) (N := some 89) #[true, true, true, true, true, true, true, true, true, true, true, true, true, true, true, true, true, true, false, false, false, false, false] rfl rfl (one_of HT_.out (by kernel_rfl)) (by decide) (fun K hK => ?_)
               refine goes_ Tryd.func29 (by kernel_rfl) rfl #[.int .u8 (bt a0 x8_1)] (by rfl) rfl rfl (by (try simp only [List.map_toArray, List.map_cons, List.map_nil]); first | done | rfl | (simp only [List.length_drop, List.length_take]; rfl)) ?_
               with_reducible refine (lex_inner.calls (bt a0 x8_1) t113 _ A46.out).mono ?_
               rintro e w' ⟨rfl, ⟨nd, rfl⟩⟩
               refine ⟨_, rfl, ?_⟩
               refine hK.out _ _ trivial (fun hHeld => ?_)
               clear hK K; refine norm_ (a' := ?_) ?_ ?_
               rotate_left
               ·show Act.put _ (some 89) _ = _
                simp only [Act.put, List.setIfInBounds_toArray, List.set_cons_zero, List.set_cons_succ, i64_w, i32_w]
                rfl
               refine pure_ (i := 18) (N := some 90) (v := ?_) (a' := ?_) #[true, true, true, true, true, true, true, true, true, true, true, true, true, true, true, true, true, true, true, false, false, false, false] rfl rfl (any_of HT_.out (by kernel_rfl)) (fun _ _ _ h => h) (Or.inl ⟨by rfl, ?_⟩) ?_ ?_
               rotate_left
               ·intro w'
                go_simp
                with_reducible rfl
               rotate_left
               ·simp only [Act.put, List.setIfInBounds_toArray, List.set_cons_zero, List.set_cons_succ, i64_w, i32_w]
                rfl
               refine pure_ (i := 19) (N := some 91) (v := ?_) (a' := ?_) #[true, true, true, true, true, true, true, true, true, true, true, true, true, true, true, true, true, true, true, true, false, false, false] rfl rfl (any_of HT_.out (by kernel_rfl)) (fun _ _ _ h => h) (Or.inl ⟨by rfl, ?_⟩) ?_ ?_
               rotate_left
               ·intro w'
                go_simp
                with_reducible rfl
               rotate_left
               ·simp only [Act.put, List.setIfInBounds_toArray, List.set_cons_zero, List.set_cons_succ, i64_w, i32_w]
                rfl
               refine pure_ (i := 20) (N := some 92) (v := ?_) (a' := ?_) #[true, true, true, true, true, true, true, true, true, true, true, true, true, true, true, true, true, true, true, true, true, false, false] rfl rfl (any_of HT_.out (by kernel_rfl)) (fun _ _ _ h => h) (Or.inl ⟨by rfl, ?_⟩) ?_ ?_
               rotate_left
               ·intro w'
                go_simp
                with_reducible rfl
               rotate_left
               ·simp only [Act.put, List.setIfInBounds_toArray, List.set_cons_zero, List.set_cons_succ, i64_w, i32_w]
                rfl
               refine one_ (i := 21) (N := none) #[true, true, true, true, true, true, true, true, true, true, true, true, true, true, true, true, true, true, true, true, true, true, false] rfl rfl (one_of HT_.out (by kernel_rfl)) (by decide) (fun K hK => ?_)
               have hs48 : w47.cell? ⟨gb105, 0, none⟩ = some (.int .i64 0) := (blk_cell BK105.out 0).trans rfl
               have hfs48 := blk_frozen BK105.out 0; have hs49 : w47.cell? ⟨gb105, 1, none⟩ = some (.int .i64 0) := (blk_cell BK105.out 1).trans rfl
               have hfs49 := blk_frozen BK105.out 1; have hs50 : w47.cell? ⟨gb105, 2, none⟩ = some (.string (⟨#[]⟩ : ByteArray)) := (blk_cell BK105.out 2).trans rfl
               have hfs50 := blk_frozen BK105.out 2; have hs51 : w47.cell? ⟨gb105, 3, none⟩ = some (.int .i32 0) := (blk_cell BK105.out 3).trans rfl
               have hfs51 := blk_frozen BK105.out 3; refine skip_ (w1 := ?_) (by rfl) rfl ?_ ?_
               rotate_left
               ·go_simp
                rfl
               refine hK.out _ _ trivial (fun hHeld => ?_)
               clear hK K; refine pure_ (i := 22) (N := some 7) (v := ?_) (a' := ?_) #[true, true, true, true, true, true, true, true, true, true, true, true, true, true, true, true, true, true, true, true, true, true, true] rfl rfl (any_of HT_.out (by kernel_rfl)) (fun _ _ _ h => h) (Or.inl ⟨by rfl, ?_⟩) ?_ ?_
               rotate_left
               ·intro w'
                go_simp
                with_reducible rfl
               rotate_left
               ·simp only [Act.put, List.setIfInBounds_toArray, List.set_cons_zero, List.set_cons_succ, i64_w, i32_w]
                rfl
               refine done_ (done_of HT_.out (by kernel_rfl)) ?_
               try go_wp2
               refine bodyPost_ret (results_ct rfl _ _ gb105 30 #[.int .i64 1, .int .i64 a1, .string (a0.extract (a1 : Int).toNat (x8_1 : Int).toNat), .int .i32 t111] (0, 0) _ rfl (by (with_reducible repeat (first | refine blk_drewN ?_ _ | refine blk_drew ?_ | refine blk_alloc ?_ _)); refine blk_put (cs := #[.int .i64 1, .int .i64 a1, .string (a0.extract (a1 : Int).toNat (x8_1 : Int).toNat), .int .i32 0]) ?_ 3 _ rfl; (with_reducible repeat (first | refine blk_drewN ?_ _ | refine blk_drew ?_ | refine blk_alloc ?_ _)); refine blk_put (cs := #[.int .i64 1, .int .i64 a1, .string (⟨#[]⟩ : ByteArray), .int .i32 0]) ?_ 2 _ rfl; (with_reducible repeat (first | refine blk_drewN ?_ _ | refine blk_drew ?_ | refine blk_alloc ?_ _)); refine blk_put (cs := #[.int .i64 1, .int .i64 0, .string (⟨#[]⟩ : ByteArray), .int .i32 0]) ?_ 1 _ rfl; (with_reducible repeat (first | refine blk_drewN ?_ _ | refine blk_drew ?_ | refine blk_alloc ?_ _)); refine blk_put (cs := #[.int .i64 0, .int .i64 0, .string (⟨#[]⟩ : ByteArray), .int .i32 0]) ?_ 0 _ rfl; (with_reducible repeat (first | refine blk_drewN ?_ _ | refine blk_drew ?_ | refine blk_alloc ?_ _)); exact BK105.out) Tryd.underlying30 rfl (by kernel_rfl)) rfl ?_
               exact ⟨by first | rfl | (simp [errW_none, errW_some] <;> rfl) | (simp [*, errW_none, errW_some] <;> rfl), by repeat (first | (with_reducible first | exact HB.out | apply below_alloc | apply pw_below_drewN | apply below_drew1 | refine below_set ?_ GE105.out) | exact HB.out)⟩
             ·replace c38 := Bool.eq_false_iff.mpr c38; subst c38; have H1 : (some (1, a1, a0.extract (a1 : Int).toNat (x8_1 : Int).toNat, t111, false)) = some (r1, r2, r3, r4, r5) := by rw [if_neg (show ¬ (false = true) by decide)] at H; exact H
              clear H; have H := H1; clear H1; simp only [Option.some.injEq, Prod.mk.injEq] at H
              obtain ⟨rfl, rfl, rfl, rfl, rfl⟩ := H; have p28 : 0 ≤ (x8_1 : Int) := of_decide_eq_true (by with_reducible assumption)
              have q28 : x8_1 < (a0.size : Int) := of_decide_eq_true (by with_reducible assumption)
              have hx28 := bt_at a0 x8_1; replace p28 := eq_true p28; replace q28 := eq_true q28; try go_wp2_with (first | (go_at_call 38; (with_reducible refine (lex_digit.calls (bt a0 x8_1) false _ A29.out).mono ?_); rintro e w' ⟨rfl, ⟨nd, rfl⟩⟩; (try (rw [drewN_self wr]; generalize hq_ : World.drewN wr _ = wr; have n0_ : Aside0 (wr.heap[gb105]? = some (.cells #[.int .i64 0, .int .i64 0, .string (⟨#[]⟩ : ByteArray), .int .i32 0] 30 (0, 0))) := ⟨by rw [← hq_]; exact (by (with_reducible repeat (first | refine blk_drewN ?_ _ | refine blk_drew ?_ | refine blk_alloc ?_ _)); exact BK105.out)⟩; have n1_ : Aside0 (Below w.heap.size w wr) := ⟨by rw [← hq_]; exact (by repeat (first | (with_reducible first | exact HB.out | apply below_alloc | apply pw_below_drewN | apply below_drew1 | refine below_set ?_ GE105.out) | exact HB.out))⟩; clear BK105 HB hq_; have BK105 := n0_; have HB := n1_; clear n0_ n1_))) | ((with_reducible refine gate_callee (f := 39) rfl ?_); refine goesL_ (some 69) rfl rfl Tryd.func39 (by kernel_rfl) rfl #[.string (a0.extract (a1 : Int).toNat (x8_1 : Int).toNat)] rfl (by (try simp only [List.map_toArray, List.map_cons, List.map_nil]); first | done | rfl | (simp only [List.length_drop, List.length_take]; rfl)) ?_; (with_reducible refine (lex_integer.calls k1 (a0.extract (a1 : Int).toNat (x8_1 : Int).toNat) t111 false _ A34.out).mono ?_); rintro e w' ⟨rfl, ⟨nd, rfl⟩⟩; refine ⟨_, rfl, ?_⟩; (try (rw [drewN_self wr]; generalize hq_ : World.drewN wr _ = wr; have n0_ : Aside0 (wr.heap[gb105]? = some (.cells #[.int .i64 0, .int .i64 0, .string (⟨#[]⟩ : ByteArray), .int .i32 0] 30 (0, 0))) := ⟨by rw [← hq_]; exact (by (with_reducible repeat (first | refine blk_drewN ?_ _ | refine blk_drew ?_ | refine blk_alloc ?_ _)); exact BK105.out)⟩; have n1_ : Aside0 (Below w.heap.size w wr) := ⟨by rw [← hq_]; exact (by repeat (first | (with_reducible first | exact HB.out | apply below_alloc | apply pw_below_drewN | apply below_drew1 | refine below_set ?_ GE105.out) | exact HB.out))⟩; clear BK105 HB hq_; have BK105 := n0_; have HB := n1_; clear n0_ n1_))))
              have n0_ := Aside0.mk (blk_drew BK105.out); have n1_ := Aside0.mk (below_drew1 HB.out); clear BK105; clear HB; have BK105 := n0_; have HB := n1_; clear n0_ n1_; refine start_ (n := 23) (S := fun w' => True) (ds := []) #[false, false, false, false, false, false, false, false, false, false, false, false, false, false, false, false, false, false, false, false, false, false, false] (by kernel_rfl) rfl rfl trivial (fun hHeld => ?_); refine with_tabW lex_next.tab14 lex_next.bits14 (fun HT_ HW_ => ?_)
              generalize wr.drew = w52 at BK105 HB hHeld ⊢
              refine pure_ (i := 0) (N := some 72) (v := ?_) (a' := ?_) #[true, false, false, false, false, false, false, false, false, false, false, false, false, false, false, false, false, false, false, false, false, false, false] rfl rfl (any_of HT_.out (by kernel_rfl)) (fun _ _ _ h => h) (Or.inl ⟨by rfl, ?_⟩) ?_ ?_
              rotate_left
              ·intro w'
               go_simp
               with_reducible rfl
              rotate_left
              ·simp only [Act.put, List.setIfInBounds_toArray, List.set_cons_zero, List.set_cons_succ, i64_w, i32_w]
               rfl
              refine pure_ (i := 1) (N := some 73) (v := ?_) (a' := ?_) #[true, true, false, false, false, false, false, false, false, false, false, false, false, false, false, false, false, false, false, false, false, false, false] rfl rfl (any_of HT_.out (by kernel_rfl)) (fun _ _ _ h => h) (Or.inl ⟨by rfl, ?_⟩) ?_ ?_
              rotate_left
              ·intro w'
               go_simp
               with_reducible rfl
              rotate_left
              ·simp only [Act.put, List.setIfInBounds_toArray, List.set_cons_zero, List.set_cons_succ, i64_w, i32_w]
               rfl
              refine pure_ (i := 2) (N := some 74) (v := ?_) (a' := ?_) #[true, true, true, false, false, false, false, false, false, false, false, false, false, false, false, false, false, false, false, false, false, false, false] rfl rfl (any_of HT_.out (by kernel_rfl)) (fun _ _ _ h => h) (Or.inl ⟨by rfl, ?_⟩) ?_ ?_
              rotate_left
              ·intro w'
               go_simp
               with_reducible rfl
              rotate_left
              ·simp only [Act.put, List.setIfInBounds_toArray, List.set_cons_zero, List.set_cons_succ, i64_w, i32_w]
               rfl
              refine pure_ (i := 3) (N := some 75) (v := ?_) (a' := ?_) #[true, true, true, true, false, false, false, false, false, false, false, false, false, false, false, false, false, false, false, false, false, false, false] rfl rfl (any_of HT_.out (by kernel_rfl)) (fun _ _ _ h => h) (Or.inl ⟨by rfl, ?_⟩) ?_ ?_
              rotate_left
              ·intro w'
               go_simp
               with_reducible rfl
              rotate_left
              ·simp only [Act.put, List.setIfInBounds_toArray, List.set_cons_zero, List.set_cons_succ, i64_w, i32_w]
               rfl
              refine pure_ (i := 4) (N := some 76) (v := ?_) (a' := ?_) #[true, true, true, true, true, false, false, false, false, false, false, false, false, false, false, false, false, false, false, false, false, false, false] rfl rfl (any_of HT_.out (by kernel_rfl)) (fun _ _ _ h => h) (Or.inl ⟨by rfl, ?_⟩) ?_ ?_
              rotate_left
              ·intro w'
               go_simp
               with_reducible rfl
              rotate_left
              ·simp only [Act.put, List.setIfInBounds_toArray, List.set_cons_zero, List.set_cons_succ, i64_w, i32_w]
               rfl
              refine pure_ (i := 5) (N := some 77) (v := ?_) (a' := ?_) #[true, true, true, true, true, true, false, false, false, false, false, false, false, false, false, false, false, false, false, false, false, false, false] rfl rfl (any_of HT_.out (by kernel_rfl)) (fun _ _ _ h => h) (Or.inl ⟨by rfl, ?_⟩) ?_ ?_
              rotate_left
              ·intro w'
               go_simp
               with_reducible rfl
              rotate_left
              ·simp only [Act.put, List.setIfInBounds_toArray, List.set_cons_zero, List.set_cons_succ, i64_w, i32_w]
               rfl
              refine pure_ (i := 6) (N := some 78) (v := ?_) (a' := ?_) #[true, true, true, true, true, true, true, false, false, false, false, false, false, false, false, false, false, false, false, false, false, false, false] rfl rfl (any_of HT_.out (by kernel_rfl)) (fun _ _ _ h => h) (Or.inl ⟨by rfl, ?_⟩) ?_ ?_
              rotate_left
              ·intro w'
               go_simp
               with_reducible rfl
              rotate_left
              ·simp only [Act.put, List.setIfInBounds_toArray, List.set_cons_zero, List.set_cons_succ, i64_w, i32_w]
               rfl
              refine pure_ (i := 7) (N := some 79) (v := ?_) (a' := ?_) #[true, true, true, true, true, true, true, true, false, false, false, false, false, false, false, false, false, false, false, false, false, false, false] rfl rfl (any_of HT_.out (by kernel_rfl)) (fun _ _ _ h => h) (Or.inl ⟨by rfl, ?_⟩) ?_ ?_
              rotate_left
              ·intro w'
               go_simp
               with_reducible rfl
              rotate_left
              ·simp only [Act.put, List.setIfInBounds_toArray, List.set_cons_zero, List.set_cons_succ, i64_w, i32_w]
               rfl
              refine pure_ (i := 8) (N := some 80) (v := ?_) (a' := ?_) #[true, true, true, true, true, true, true, true, true, false, false, false, false, false, false, false, false, false, false, false, false, false, false] rfl rfl (any_of HT_.out (by kernel_rfl)) (fun _ _ _ h => h) (Or.inl ⟨by rfl, ?_⟩) ?_ ?_
              rotate_left
              ·intro w'
               go_simp
               with_reducible rfl
              rotate_left
              ·simp only [Act.put, List.setIfInBounds_toArray, List.set_cons_zero, List.set_cons_succ, i64_w, i32_w]
               rfl
              refine pure_ (i := 9) (N := some 81) (v := undef) (a' := ?_) #[true, true, true, true, true, true, true, true, true, true, false, false, false, false, false, false, false, false, false, false, false, false, false] rfl rfl (any_of HT_.out (by kernel_rfl)) (fun _ _ _ h => h) (Or.inr ⟨by rfl, rfl⟩) ?_ ?_
              rotate_left
              ·simp only [Act.put, List.setIfInBounds_toArray, List.set_cons_zero, List.set_cons_succ, i64_w, i32_w]
               rfl
              refine pure_ (i := 10) (N := some 82) (v := undef) (a' := ?_) #[true, true, true, true, true, true, true, true, true, true, true, false, false, false, false, false, false, false, false, false, false, false, false] rfl rfl (any_of HT_.out (by kernel_rfl)) (fun _ _ _ h => h) (Or.inr ⟨by rfl, rfl⟩) ?_ ?_
              rotate_left
              ·simp only [Act.put, List.setIfInBounds_toArray, List.set_cons_zero, List.set_cons_succ, i64_w, i32_w]
               rfl
              refine pure_ (i := 11) (N := some 83) (v := undef) (a' := ?_) #[true, true, true, true, true, true, true, true, true, true, true, true, false, false, false, false, false, false, false, false, false, false, false] rfl rfl (any_of HT_.out (by kernel_rfl)) (fun _ _ _ h => h) (Or.inr ⟨by rfl, rfl⟩) ?_ ?_
              rotate_left
              ·simp only [Act.put, List.setIfInBounds_toArray, List.set_cons_zero, List.set_cons_succ, i64_w, i32_w]
               rfl
              refine pure_ (i := 12) (N := some 84) (v := undef) (a' := ?_) #[true, true, true, true, true, true, true, true, true, true, true, true, true, false, false, false, false, false, false, false, false, false, false] rfl rfl (any_of HT_.out (by kernel_rfl)) (fun _ _ _ h => h) (Or.inr ⟨by rfl, rfl⟩) ?_ ?_
              rotate_left
              ·simp only [Act.put, List.setIfInBounds_toArray, List.set_cons_zero, List.set_cons_succ, i64_w, i32_w]
               rfl
              refine pure_ (i := 13) (N := some 85) (v := undef) (a' := ?_) #[true, true, true, true, true, true, true, true, true, true, true, true, true, true, false, false, false, false, false, false, false, false, false] rfl rfl (any_of HT_.out (by kernel_rfl)) (fun _ _ _ h => h) (Or.inr ⟨by rfl, rfl⟩) ?_ ?_
              rotate_left
              ·simp only [Act.put, List.setIfInBounds_toArray, List.set_cons_zero, List.set_cons_succ, i64_w, i32_w]
               rfl
              refine pure_ (i := 14) (N := some 86) (v := undef) (a' := ?_) #[true, true, true, true, true, true, true, true, true, true, true, true, true, true, true, false, false, false, false, false, false, false, false] rfl rfl (any_of HT_.out (by kernel_rfl)) (fun _ _ _ h => h) (Or.inr ⟨by rfl, rfl⟩) ?_ ?_
              rotate_left
              ·simp only [Act.put, List.setIfInBounds_toArray, List.set_cons_zero, List.set_cons_succ, i64_w, i32_w]
               rfl
              refine pure_ (i := 15) (N := some 87) (v := undef) (a' := ?_) #[true, true, true, true, true, true, true, true, true, true, true, true, true, true, true, true, false, false, false, false, false, false, false] rfl rfl (any_of HT_.out (by kernel_rfl)) (fun _ _ _ h => h) (Or.inr ⟨by rfl, rfl⟩) ?_ ?_
              rotate_left
              ·simp only [Act.put, List.setIfInBounds_toArray, List.set_cons_zero, List.set_cons_succ, i64_w, i32_w]
               rfl
              refine pure_ (i := 16) (N := some 88) (v := undef) (a' := ?_) #[true, true, true, true, true, true, true, true, true, true, true, true, true, true, true, true, true, false, false, false, false, false, false] rfl rfl (any_of HT_.out (by kernel_rfl)) (fun _ _ _ h => h) (Or.inr ⟨by rfl, rfl⟩) ?_ ?_
              rotate_left
              ·simp only [Act.put, List.setIfInBounds_toArray, List.set_cons_zero, List.set_cons_succ, i64_w, i32_w]
               rfl
              refine pure_ (i := 17) (N := some 89) (v := undef) (a' := ?_) #[true, true, true, true, true, true, true, true, true, true, true, true, true, true, true, true, true, true, false, false, false, false, false] rfl rfl (any_of HT_.out (by kernel_rfl)) (fun _ _ _ h => h) (Or.inr ⟨by rfl, rfl⟩) ?_ ?_
              rotate_left
              ·simp only [Act.put, List.setIfInBounds_toArray, List.set_cons_zero, List.set_cons_succ, i64_w, i32_w]
               rfl
              refine pure_ (i := 18) (N := some 90) (v := undef) (a' := ?_) #[true, true, true, true, true, true, true, true, true, true, true, true, true, true, true, true, true, true, true, false, false, false, false] rfl rfl (any_of HT_.out (by kernel_rfl)) (fun _ _ _ h => h) (Or.inr ⟨by rfl, rfl⟩) ?_ ?_
              rotate_left
              ·simp only [Act.put, List.setIfInBounds_toArray, List.set_cons_zero, List.set_cons_succ, i64_w, i32_w]
               rfl
              refine pure_ (i := 19) (N := some 91) (v := undef) (a' := ?_) #[true, true, true, true, true, true, true, true, true, true, true, true, true, true, true, true, true, true, true, true, false, false, false] rfl rfl (any_of HT_.out (by kernel_rfl)) (fun _ _ _ h => h) (Or.inr ⟨by rfl, rfl⟩) ?_ ?_
              rotate_left
              ·simp only [Act.put, List.setIfInBounds_toArray, List.set_cons_zero, List.set_cons_succ, i64_w, i32_w]
               rfl
              refine pure_ (i := 20) (N := some 92) (v := ?_) (a' := ?_) #[true, true, true, true, true, true, true, true, true, true, true, true, true, true, true, true, true, true, true, true, true, false, false] rfl rfl (any_of HT_.out (by kernel_rfl)) (fun _ _ _ h => h) (Or.inl ⟨by rfl, ?_⟩) ?_ ?_
              rotate_left
              ·intro w'
               go_simp
               with_reducible rfl
              rotate_left
              ·simp only [Act.put, List.setIfInBounds_toArray, List.set_cons_zero, List.set_cons_succ, i64_w, i32_w]
               rfl
              refine one_ (i := 21) (N := none) #[true, true, true, true, true, true, true, true, true, true, true, true, true, true, true, true, true, true, true, true, true, true, false] rfl rfl (one_of HT_.out (by kernel_rfl)) (by decide) (fun K hK => ?_)
              have hs53 : w52.cell? ⟨gb105, 0, none⟩ = some (.int .i64 0) := (blk_cell BK105.out 0).trans rfl
              have hfs53 := blk_frozen BK105.out 0; have hs54 : w52.cell? ⟨gb105, 1, none⟩ = some (.int .i64 0) := (blk_cell BK105.out 1).trans rfl
              have hfs54 := blk_frozen BK105.out 1; have hs55 : w52.cell? ⟨gb105, 2, none⟩ = some (.string (⟨#[]⟩ : ByteArray)) := (blk_cell BK105.out 2).trans rfl
              have hfs55 := blk_frozen BK105.out 2; have hs56 : w52.cell? ⟨gb105, 3, none⟩ = some (.int .i32 0) := (blk_cell BK105.out 3).trans rfl
              have hfs56 := blk_frozen BK105.out 3; refine skip_ (w1 := ?_) (by rfl) rfl ?_ ?_
              rotate_left
              ·go_simp
               rfl
              refine hK.out _ _ trivial (fun hHeld => ?_)
              clear hK K; refine pure_ (i := 22) (N := some 7) (v := ?_) (a' := ?_) #[true, true, true, true, true, true, true, true, true, true, true, true, true, true, true, true, true, true, true, true, true, true, true] rfl rfl (any_of HT_.out (by kernel_rfl)) (fun _ _ _ h => h) (Or.inl ⟨by rfl, ?_⟩) ?_ ?_
              rotate_left
              ·intro w'
               go_simp
               with_reducible rfl
              rotate_left
              ·simp only [Act.put, List.setIfInBounds_toArray, List.set_cons_zero, List.set_cons_succ, i64_w, i32_w]
               rfl
              refine done_ (done_of HT_.out (by kernel_rfl)) ?_
              try go_wp2
              refine bodyPost_ret (results_ct rfl _ _ gb105 30 #[.int .i64 1, .int .i64 a1, .string (a0.extract (a1 : Int).toNat (x8_1 : Int).toNat), .int .i32 t111] (0, 0) _ rfl (by (with_reducible repeat (first | refine blk_drewN ?_ _ | refine blk_drew ?_ | refine blk_alloc ?_ _)); refine blk_put (cs := #[.int .i64 1, .int .i64 a1, .string (a0.extract (a1 : Int).toNat (x8_1 : Int).toNat), .int .i32 0]) ?_ 3 _ rfl; (with_reducible repeat (first | refine blk_drewN ?_ _ | refine blk_drew ?_ | refine blk_alloc ?_ _)); refine blk_put (cs := #[.int .i64 1, .int .i64 a1, .string (⟨#[]⟩ : ByteArray), .int .i32 0]) ?_ 2 _ rfl; (with_reducible repeat (first | refine blk_drewN ?_ _ | refine blk_drew ?_ | refine blk_alloc ?_ _)); refine blk_put (cs := #[.int .i64 1, .int .i64 0, .string (⟨#[]⟩ : ByteArray), .int .i32 0]) ?_ 1 _ rfl; (with_reducible repeat (first | refine blk_drewN ?_ _ | refine blk_drew ?_ | refine blk_alloc ?_ _)); refine blk_put (cs := #[.int .i64 0, .int .i64 0, .string (⟨#[]⟩ : ByteArray), .int .i32 0]) ?_ 0 _ rfl; (with_reducible repeat (first | refine blk_drewN ?_ _ | refine blk_drew ?_ | refine blk_alloc ?_ _)); exact BK105.out) Tryd.underlying30 rfl (by kernel_rfl)) rfl ?_
              exact ⟨by first | rfl | (simp [errW_none, errW_some] <;> rfl) | (simp [*, errW_none, errW_some] <;> rfl), by repeat (first | (with_reducible first | exact HB.out | apply below_alloc | apply pw_below_drewN | apply below_drew1 | refine below_set ?_ GE105.out) | exact HB.out)⟩
            ·rw [if_neg c33] at H; exact absurd H (by simp)
           ·rw [if_neg c32] at H; exact absurd H (by simp)
          ·rw [if_neg c31] at H; exact absurd H (by simp)
        ·rw [if_neg c27] at H; exact absurd H (by simp)
       ·rw [if_neg c26] at H; have c26b0 : decide (x8_1 < (a0.size : Int)) = false := decide_eq_false c26
        clear c26; by_cases c57 : 0 ≤ a1
        ·rw [if_pos c57] at H; have c57b0 := eq_true c57; have c57b1 : decide (0 ≤ a1) = true := decide_eq_true c57
         clear c57; by_cases c58 : a1 ≤ x8_1
         ·rw [if_pos c58] at H; have c58b0 := eq_true c58; have c58b1 : decide (a1 ≤ x8_1) = true := decide_eq_true c58
          clear c58; by_cases c59 : x8_1 ≤ (a0.size : Int)
          ·rw [if_pos c59] at H; have c59b0 := eq_true c59; have c59b1 : decide (x8_1 ≤ (a0.size : Int)) = true := decide_eq_true c59
           clear c59; replace H := Option.bind_eq_some_iff.mp H; obtain ⟨⟨t114, t115⟩, A600, H⟩ := H; replace H : (if t115 = true then (if x8_1 = (a0.size : Int) then (some (1, a1, a0.extract (a1 : Int).toNat (x8_1 : Int).toNat, t114, true)) else (if 0 ≤ x8_1 then (none) else (none))) else (some (1, a1, a0.extract (a1 : Int).toNat (x8_1 : Int).toNat, t114, false))) = some (r1, r2, r3, r4, r5) := H
           have A60 := Aside0.mk A600; clear A600; have c61b0 := eq_true (of_decide_eq_true (by with_reducible assumption) : 0 ≤ a1)
           have c62b0 := eq_true (of_decide_eq_true (by with_reducible assumption) : a1 ≤ x8_1)
           have c63b0 := eq_true (of_decide_eq_true (by with_reducible assumption) : x8_1 ≤ (a0.size : Int))
           by_cases c64 : t115 = true
           ·subst c64; have H1 : (if x8_1 = (a0.size : Int) then (some (1, a1, a0.extract (a1 : Int).toNat (x8_1 : Int).toNat, t114, true)) else (if 0 ≤ x8_1 then (none) else (none))) = some (r1, r2, r3, r4, r5) := by rw [if_pos rfl] at H; exact H
            clear H; have H := H1; clear H1; by_cases c65 : x8_1 = (a0.size : Int)
            ·rw [if_pos c65] at H; have c65b0 : (x8_1 == (a0.size : Int)) = true := beq_iff_eq.mpr c65
             have c65b1 : (x8_1 != (a0.size : Int)) = false := bne_eq_false_iff_eq.mpr c65
             clear c65; simp only [Option.some.injEq, Prod.mk.injEq] at H
             obtain ⟨rfl, rfl, rfl, rfl, rfl⟩ := H; try go_wp2_with (first | ((with_reducible refine gate_callee (f := 39) rfl ?_); refine goesL_ (some 69) rfl rfl Tryd.func39 (by kernel_rfl) rfl #[.string (a0.extract (a1 : Int).toNat (x8_1 : Int).toNat)] rfl (by (try simp only [List.map_toArray, List.map_cons, List.map_nil]); first | done | rfl | (simp only [List.length_drop, List.length_take]; rfl)) ?_; (with_reducible refine (lex_integer.calls k1 (a0.extract (a1 : Int).toNat (x8_1 : Int).toNat) t114 true _ A60.out).mono ?_); rintro e w' ⟨rfl, ⟨nd, rfl⟩⟩; refine ⟨_, rfl, ?_⟩; (try (rw [drewN_self wr]; generalize hq_ : World.drewN wr _ = wr; have n0_ : Aside0 (wr.heap[gb105]? = some (.cells #[.int .i64 0, .int .i64 0, .string (⟨#[]⟩ : ByteArray), .int .i32 0] 30 (0, 0))) := ⟨by rw [← hq_]; exact (by (with_reducible repeat (first | refine blk_drewN ?_ _ | refine blk_drew ?_ | refine blk_alloc ?_ _)); exact BK105.out)⟩; have n1_ : Aside0 (Below w.heap.size w wr) := ⟨by rw [← hq_]; exact (by repeat (first | (with_reducible first | exact HB.out | apply below_alloc | apply pw_below_drewN | apply below_drew1 | refine below_set ?_ GE105.out) | exact HB.out))⟩; clear BK105 HB hq_; have BK105 := n0_; have HB := n1_; clear n0_ n1_))))
             have n0_ := Aside0.mk (blk_drew BK105.out); have n1_ := Aside0.mk (below_drew1 HB.out); clear BK105; clear HB; have BK105 := n0_; have HB := n1_; clear n0_ n1_; refine start_ (n := 23) (S := fun w' => True) (ds := []) #[false, false, false, false, false, false, false, false, false, false, false, false, false, false, false, false, false, false, false, false, false, false, false] (by kernel_rfl) rfl rfl trivial (fun hHeld => ?_); refine with_tabW lex_next.tab14 lex_next.bits14 (fun HT_ HW_ => ?_)
             generalize wr.drew = w66 at BK105 HB hHeld ⊢
             refine pure_ (i := 0) (N := some 72) (v := ?_) (a' := ?_) #[true, false, false, false, false, false, false, false, false, false, false, false, false, false, false, false, false, false, false, false, false, false, false] rfl rfl (any_of HT_.out (by kernel_rfl)) (fun _ _ _ h => h) (Or.inl ⟨by rfl, ?_⟩) ?_ ?_
             rotate_left
             ·intro w'
              go_simp
              with_reducible rfl
             rotate_left
             ·simp only [Act.put, List.setIfInBounds_toArray, List.set_cons_zero, List.set_cons_succ, i64_w, i32_w]
              rfl
             refine pure_ (i := 1) (N := some 73) (v := ?_) (a' := ?_) #[true, true, false, false, false, false, false, false, false, false, false, false, false, false, false, false, false, false, false, false, false, false, false] rfl rfl (any_of HT_.out (by kernel_rfl)) (fun _ _ _ h => h) (Or.inl ⟨by rfl, ?_⟩) ?_ ?_
             rotate_left
             ·intro w'
              go_simp
              with_reducible rfl
             rotate_left
             ·simp only [Act.put, List.setIfInBounds_toArray, List.set_cons_zero, List.set_cons_succ, i64_w, i32_w]
              rfl
             refine pure_ (i := 2) (N := some 74) (v := ?_) (a' := ?_) #[true, true, true, false, false, false, false, false, false, false, false, false, false, false, false, false, false, false, false, false, false, false, false] rfl rfl (any_of HT_.out (by kernel_rfl)) (fun _ _ _ h => h) (Or.inl ⟨by rfl, ?_⟩) ?_ ?_
             rotate_left
             ·intro w'
              go_simp
              with_reducible rfl
             rotate_left
             ·simp only [Act.put, List.setIfInBounds_toArray, List.set_cons_zero, List.set_cons_succ, i64_w, i32_w]
              rfl
             refine pure_ (i := 3) (N := some 75) (v := ?_) (a' := ?_) #[true, true, true, true, false, false, false, false, false, false, false, false, false, false, false, false, false, false, false, false, false, false, false] rfl rfl (any_of HT_.out (by kernel_rfl)) (fun _ _ _ h => h) (Or.inl ⟨by rfl, ?_⟩) ?_ ?_
             rotate_left
             ·intro w'
              go_simp
              with_reducible rfl
             rotate_left
             ·simp only [Act.put, List.setIfInBounds_toArray, List.set_cons_zero, List.set_cons_succ, i64_w, i32_w]
              rfl
             refine pure_ (i := 4) (N := some 76) (v := ?_) (a' := ?_) #[true, true, true, true, true, false, false, false, false, false, false, false, false, false, false, false, false, false, false, false, false, false, false] rfl rfl (any_of HT_.out (by kernel_rfl)) (fun _ _ _ h => h) (Or.inl ⟨by rfl, ?_⟩) ?_ ?_
             rotate_left
             ·intro w'
              go_simp
              with_reducible rfl
             rotate_left
             ·simp only [Act.put, List.setIfInBounds_toArray, List.set_cons_zero, List.set_cons_succ, i64_w, i32_w]
              rfl
             refine pure_ (i := 5) (N := some 77) (v := ?_) (a' := ?_) #[true, true, true, true, true, true, false, false, false, false, false, false, false, false, false, false, false, false, false, false, false, false, false] rfl rfl (any_of HT_.out (by kernel_rfl)) (fun _ _ _ h => h) (Or.inl ⟨by rfl, ?_⟩) ?_ ?_
             rotate_left
             ·intro w'
              go_simp
              with_reducible rfl
             rotate_left
             ·simp only [Act.put, List.setIfInBounds_toArray, List.set_cons_zero, List.set_cons_succ, i64_w, i32_w]
              rfl
             refine pure_ (i := 6) (N := some 78) (v := ?_) (a' := ?_) #[true, true, true, true, true, true, true, false, false, false, false, false, false, false, false, false, false, false, false, false, false, false, false] rfl rfl (any_of HT_.out (by kernel_rfl)) (fun _ _ _ h => h) (Or.inl ⟨by rfl, ?_⟩) ?_ ?_
             rotate_left
             ·intro w'
              go_simp
              with_reducible rfl
             rotate_left
             ·simp only [Act.put, List.setIfInBounds_toArray, List.set_cons_zero, List.set_cons_succ, i64_w, i32_w]
              rfl
             refine pure_ (i := 7) (N := some 79) (v := ?_) (a' := ?_) #[true, true, true, true, true, true, true, true, false, false, false, false, false, false, false, false, false, false, false, false, false, false, false] rfl rfl (any_of HT_.out (by kernel_rfl)) (fun _ _ _ h => h) (Or.inl ⟨by rfl, ?_⟩) ?_ ?_
             rotate_left
             ·intro w'
              go_simp
              with_reducible rfl
             rotate_left
             ·simp only [Act.put, List.setIfInBounds_toArray, List.set_cons_zero, List.set_cons_succ, i64_w, i32_w]
              rfl
             refine pure_ (i := 8) (N := some 80) (v := ?_) (a' := ?_) #[true, true, true, true, true, true, true, true, true, false, false, false, false, false, false, false, false, false, false, false, false, false, false] rfl rfl (any_of HT_.out (by kernel_rfl)) (fun _ _ _ h => h) (Or.inl ⟨by rfl, ?_⟩) ?_ ?_
             rotate_left
             ·intro w'
              go_simp
              with_reducible rfl
             rotate_left
             ·simp only [Act.put, List.setIfInBounds_toArray, List.set_cons_zero, List.set_cons_succ, i64_w, i32_w]
              rfl
             refine pure_ (i := 9) (N := some 81) (v := ?_) (a' := ?_) #[true, true, true, true, true, true, true, true, true, true, false, false, false, false, false, false, false, false, false, false, false, false, false] rfl rfl (any_of HT_.out (by kernel_rfl)) (fun _ _ _ h => h) (Or.inl ⟨by rfl, ?_⟩) ?_ ?_
             rotate_left
             ·intro w'
              go_simp
              with_reducible rfl
             rotate_left
             ·simp only [Act.put, List.setIfInBounds_toArray, List.set_cons_zero, List.set_cons_succ, i64_w, i32_w]
              rfl
             refine pure_ (i := 10) (N := some 82) (v := ?_) (a' := ?_) #[true, true, true, true, true, true, true, true, true, true, true, false, false, false, false, false, false, false, false, false, false, false, false] rfl rfl (any_of HT_.out (by kernel_rfl)) (fun _ _ _ h => h) (Or.inl ⟨by rfl, ?_⟩) ?_ ?_
             rotate_left
             ·intro w'
              go_simp
              with_reducible rfl
             rotate_left
             ·simp only [Act.put, List.setIfInBounds_toArray, List.set_cons_zero, List.set_cons_succ, i64_w, i32_w]
              rfl
             refine pure_ (i := 11) (N := some 83) (v := ?_) (a' := ?_) #[true, true, true, true, true, true, true, true, true, true, true, true, false, false, false, false, false, false, false, false, false, false, false] rfl rfl (any_of HT_.out (by kernel_rfl)) (fun _ _ _ h => h) (Or.inl ⟨by rfl, ?_⟩) ?_ ?_
             rotate_left
             ·intro w'
              go_simp
              with_reducible rfl
             rotate_left
             ·simp only [Act.put, List.setIfInBounds_toArray, List.set_cons_zero, List.set_cons_succ, i64_w, i32_w]
              rfl
             refine pure_ (i := 12) (N := some 84) (v := ?_) (a' := ?_) #[true, true, true, true, true, true, true, true, true, true, true, true, true, false, false, false, false, false, false, false, false, false, false] rfl rfl (any_of HT_.out (by kernel_rfl)) (fun _ _ _ h => h) (Or.inl ⟨by rfl, ?_⟩) ?_ ?_
             rotate_left
             ·intro w'
              go_simp
              with_reducible rfl
             rotate_left
             ·simp only [Act.put, List.setIfInBounds_toArray, List.set_cons_zero, List.set_cons_succ, i64_w, i32_w]
              rfl
             refine pure_ (i := 13) (N := some 85) (v := ?_) (a' := ?_) #[true, true, true, true, true, true, true, true, true, true, true, true, true, true, false, false, false, false, false, false, false, false, false] rfl rfl (any_of HT_.out (by kernel_rfl)) (fun _ _ _ h => h) (Or.inl ⟨by rfl, ?_⟩) ?_ ?_
             rotate_left
             ·intro w'
              go_simp
              with_reducible rfl
             rotate_left
             ·simp only [Act.put, List.setIfInBounds_toArray, List.set_cons_zero, List.set_cons_succ, i64_w, i32_w]
              rfl
             refine pure_ (i := 14) (N := some 86) (v := undef) (a' := ?_) #[true, true, true, true, true, true, true, true, true, true, true, true, true, true, true, false, false, false, false, false, false, false, false] rfl rfl (any_of HT_.out (by kernel_rfl)) (fun _ _ _ h => h) (Or.inr ⟨by rfl, rfl⟩) ?_ ?_
             rotate_left
             ·simp only [Act.put, List.setIfInBounds_toArray, List.set_cons_zero, List.set_cons_succ, i64_w, i32_w]
              rfl
             refine pure_ (i := 15) (N := some 87) (v := undef) (a' := ?_) #[true, true, true, true, true, true, true, true, true, true, true, true, true, true, true, true, false, false, false, false, false, false, false] rfl rfl (any_of HT_.out (by kernel_rfl)) (fun _ _ _ h => h) (Or.inr ⟨by rfl, rfl⟩) ?_ ?_
             rotate_left
             ·simp only [Act.put, List.setIfInBounds_toArray, List.set_cons_zero, List.set_cons_succ, i64_w, i32_w]
              rfl
             refine pure_ (i := 16) (N := some 88) (v := undef) (a' := ?_) #[true, true, true, true, true, true, true, true, true, true, true, true, true, true, true, true, true, false, false, false, false, false, false] rfl rfl (any_of HT_.out (by kernel_rfl)) (fun _ _ _ h => h) (Or.inr ⟨by rfl, rfl⟩) ?_ ?_
             rotate_left
             ·simp only [Act.put, List.setIfInBounds_toArray, List.set_cons_zero, List.set_cons_succ, i64_w, i32_w]
              rfl
             refine pure_ (i := 17) (N := some 89) (v := undef) (a' := ?_) #[true, true, true, true, true, true, true, true, true, true, true, true, true, true, true, true, true, true, false, false, false, false, false] rfl rfl (any_of HT_.out (by kernel_rfl)) (fun _ _ _ h => h) (Or.inr ⟨by rfl, rfl⟩) ?_ ?_
             rotate_left
             ·simp only [Act.put, List.setIfInBounds_toArray, List.set_cons_zero, List.set_cons_succ, i64_w, i32_w]
              rfl
             refine pure_ (i := 18) (N := some 90) (v := undef) (a' := ?_) #[true, true, true, true, true, true, true, true, true, true, true, true, true, true, true, true, true, true, true, false, false, false, false] rfl rfl (any_of HT_.out (by kernel_rfl)) (fun _ _ _ h => h) (Or.inr ⟨by rfl, rfl⟩) ?_ ?_
             rotate_left
             ·simp only [Act.put, List.setIfInBounds_toArray, List.set_cons_zero, List.set_cons_succ, i64_w, i32_w]
              rfl
             refine pure_ (i := 19) (N := some 91) (v := ?_) (a' := ?_) #[true, true, true, true, true, true, true, true, true, true, true, true, true, true, true, true, true, true, true, true, false, false, false] rfl rfl (any_of HT_.out (by kernel_rfl)) (fun _ _ _ h => h) (Or.inl ⟨by rfl, ?_⟩) ?_ ?_
             rotate_left
             ·intro w'
              go_simp
              with_reducible rfl
             rotate_left
             ·simp only [Act.put, List.setIfInBounds_toArray, List.set_cons_zero, List.set_cons_succ, i64_w, i32_w]
              rfl
             refine pure_ (i := 20) (N := some 92) (v := ?_) (a' := ?_) #[true, true, true, true, true, true, true, true, true, true, true, true, true, true, true, true, true, true, true, true, true, false, false] rfl rfl (any_of HT_.out (by kernel_rfl)) (fun _ _ _ h => h) (Or.inl ⟨by rfl, ?_⟩) ?_ ?_
             rotate_left
             ·intro w'
              go_simp
              with_reducible rfl
             rotate_left
             ·simp only [Act.put, List.setIfInBounds_toArray, List.set_cons_zero, List.set_cons_succ, i64_w, i32_w]
              rfl
             refine one_ (i := 21) (N := none) #[true, true, true, true, true, true, true, true, true, true, true, true, true, true, true, true, true, true, true, true, true, true, false] rfl rfl (one_of HT_.out (by kernel_rfl)) (by decide) (fun K hK => ?_)
             have hs67 : w66.cell? ⟨gb105, 0, none⟩ = some (.int .i64 0) := (blk_cell BK105.out 0).trans rfl
             have hfs67 := blk_frozen BK105.out 0; have hs68 : w66.cell? ⟨gb105, 1, none⟩ = some (.int .i64 0) := (blk_cell BK105.out 1).trans rfl
             have hfs68 := blk_frozen BK105.out 1; have hs69 : w66.cell? ⟨gb105, 2, none⟩ = some (.string (⟨#[]⟩ : ByteArray)) := (blk_cell BK105.out 2).trans rfl
             have hfs69 := blk_frozen BK105.out 2; have hs70 : w66.cell? ⟨gb105, 3, none⟩ = some (.int .i32 0) := (blk_cell BK105.out 3).trans rfl
             have hfs70 := blk_frozen BK105.out 3; refine skip_ (w1 := ?_) (by rfl) rfl ?_ ?_
             rotate_left
             ·go_simp
              rfl
             refine hK.out _ _ trivial (fun hHeld => ?_)
             clear hK K; refine pure_ (i := 22) (N := some 7) (v := ?_) (a' := ?_) #[true, true, true, true, true, true, true, true, true, true, true, true, true, true, true, true, true, true, true, true, true, true, true] rfl rfl (any_of HT_.out (by kernel_rfl)) (fun _ _ _ h => h) (Or.inl ⟨by rfl, ?_⟩) ?_ ?_
             rotate_left
             ·intro w'
              go_simp
              with_reducible rfl
             rotate_left
             ·simp only [Act.put, List.setIfInBounds_toArray, List.set_cons_zero, List.set_cons_succ, i64_w, i32_w]
              rfl
             refine done_ (done_of HT_.out (by kernel_rfl)) ?_
             try go_wp2
             refine bodyPost_ret (results_ct rfl _ _ gb105 30 #[.int .i64 1, .int .i64 a1, .string (a0.extract (a1 : Int).toNat (x8_1 : Int).toNat), .int .i32 t114] (0, 0) _ rfl (by (with_reducible repeat (first | refine blk_drewN ?_ _ | refine blk_drew ?_ | refine blk_alloc ?_ _)); refine blk_put (cs := #[.int .i64 1, .int .i64 a1, .string (a0.extract (a1 : Int).toNat (x8_1 : Int).toNat), .int .i32 0]) ?_ 3 _ rfl; (with_reducible repeat (first | refine blk_drewN ?_ _ | refine blk_drew ?_ | refine blk_alloc ?_ _)); refine blk_put (cs := #[.int .i64 1, .int .i64 a1, .string (⟨#[]⟩ : ByteArray), .int .i32 0]) ?_ 2 _ rfl; (with_reducible repeat (first | refine blk_drewN ?_ _ | refine blk_drew ?_ | refine blk_alloc ?_ _)); refine blk_put (cs := #[.int .i64 1, .int .i64 0, .string (⟨#[]⟩ : ByteArray), .int .i32 0]) ?_ 1 _ rfl; (with_reducible repeat (first | refine blk_drewN ?_ _ | refine blk_drew ?_ | refine blk_alloc ?_ _)); refine blk_put (cs := #[.int .i64 0, .int .i64 0, .string (⟨#[]⟩ : ByteArray), .int .i32 0]) ?_ 0 _ rfl; (with_reducible repeat (first | refine blk_drewN ?_ _ | refine blk_drew ?_ | refine blk_alloc ?_ _)); exact BK105.out) Tryd.underlying30 rfl (by kernel_rfl)) rfl ?_
             exact ⟨by first | rfl | (simp [errW_none, errW_some] <;> rfl) | (simp [*, errW_none, errW_some] <;> rfl), by repeat (first | (with_reducible first | exact HB.out | apply below_alloc | apply pw_below_drewN | apply below_drew1 | refine below_set ?_ GE105.out) | exact HB.out)⟩
            ·rw [if_neg c65] at H; have c65b0 : (x8_1 == (a0.size : Int)) = false := beq_eq_false_iff_ne.mpr c65
             have c65b1 : (x8_1 != (a0.size : Int)) = true := bne_iff_ne.mpr c65
             by_cases c71 : 0 ≤ x8_1
             ·rw [if_pos c71] at H; exact absurd H (by simp)
             ·rw [if_neg c71] at H; exact absurd H (by simp)
           ·replace c64 := Bool.eq_false_iff.mpr c64; subst c64; have H1 : (some (1, a1, a0.extract (a1 : Int).toNat (x8_1 : Int).toNat, t114, false)) = some (r1, r2, r3, r4, r5) := by rw [if_neg (show ¬ (false = true) by decide)] at H; exact H
            clear H; have H := H1; clear H1; simp only [Option.some.injEq, Prod.mk.injEq] at H
            obtain ⟨rfl, rfl, rfl, rfl, rfl⟩ := H; try go_wp2_with (first | ((with_reducible refine gate_callee (f := 39) rfl ?_); refine goesL_ (some 69) rfl rfl Tryd.func39 (by kernel_rfl) rfl #[.string (a0.extract (a1 : Int).toNat (x8_1 : Int).toNat)] rfl (by (try simp only [List.map_toArray, List.map_cons, List.map_nil]); first | done | rfl | (simp only [List.length_drop, List.length_take]; rfl)) ?_; (with_reducible refine (lex_integer.calls k1 (a0.extract (a1 : Int).toNat (x8_1 : Int).toNat) t114 false _ A60.out).mono ?_); rintro e w' ⟨rfl, ⟨nd, rfl⟩⟩; refine ⟨_, rfl, ?_⟩; (try (rw [drewN_self wr]; generalize hq_ : World.drewN wr _ = wr; have n0_ : Aside0 (wr.heap[gb105]? = some (.cells #[.int .i64 0, .int .i64 0, .string (⟨#[]⟩ : ByteArray), .int .i32 0] 30 (0, 0))) := ⟨by rw [← hq_]; exact (by (with_reducible repeat (first | refine blk_drewN ?_ _ | refine blk_drew ?_ | refine blk_alloc ?_ _)); exact BK105.out)⟩; have n1_ : Aside0 (Below w.heap.size w wr) := ⟨by rw [← hq_]; exact (by repeat (first | (with_reducible first | exact HB.out | apply below_alloc | apply pw_below_drewN | apply below_drew1 | refine below_set ?_ GE105.out) | exact HB.out))⟩; clear BK105 HB hq_; have BK105 := n0_; have HB := n1_; clear n0_ n1_))))
            have n0_ := Aside0.mk (blk_drew BK105.out); have n1_ := Aside0.mk (below_drew1 HB.out); clear BK105; clear HB; have BK105 := n0_; have HB := n1_; clear n0_ n1_; refine start_ (n := 23) (S := fun w' => True) (ds := []) #[false, false, false, false, false, false, false, false, false, false, false, false, false, false, false, false, false, false, false, false, false, false, false] (by kernel_rfl) rfl rfl trivial (fun hHeld => ?_); refine with_tabW lex_next.tab14 lex_next.bits14 (fun HT_ HW_ => ?_)
            generalize wr.drew = w72 at BK105 HB hHeld ⊢
            refine pure_ (i := 0) (N := some 72) (v := ?_) (a' := ?_) #[true, false, false, false, false, false, false, false, false, false, false, false, false, false, false, false, false, false, false, false, false, false, false] rfl rfl (any_of HT_.out (by kernel_rfl)) (fun _ _ _ h => h) (Or.inl ⟨by rfl, ?_⟩) ?_ ?_
            rotate_left
            ·intro w'
             go_simp
             with_reducible rfl
            rotate_left
            ·simp only [Act.put, List.setIfInBounds_toArray, List.set_cons_zero, List.set_cons_succ, i64_w, i32_w]
             rfl
            refine pure_ (i := 1) (N := some 73) (v := ?_) (a' := ?_) #[true, true, false, false, false, false, false, false, false, false, false, false, false, false, false, false, false, false, false, false, false, false, false] rfl rfl (any_of HT_.out (by kernel_rfl)) (fun _ _ _ h => h) (Or.inl ⟨by rfl, ?_⟩) ?_ ?_
            rotate_left
            ·intro w'
             go_simp
             with_reducible rfl
            rotate_left
            ·simp only [Act.put, List.setIfInBounds_toArray, List.set_cons_zero, List.set_cons_succ, i64_w, i32_w]
             rfl
            refine pure_ (i := 2) (N := some 74) (v := ?_) (a' := ?_) #[true, true, true, false, false, false, false, false, false, false, false, false, false, false, false, false, false, false, false, false, false, false, false] rfl rfl (any_of HT_.out (by kernel_rfl)) (fun _ _ _ h => h) (Or.inl ⟨by rfl, ?_⟩) ?_ ?_
            rotate_left
            ·intro w'
             go_simp
             with_reducible rfl
            rotate_left
            ·simp only [Act.put, List.setIfInBounds_toArray, List.set_cons_zero, List.set_cons_succ, i64_w, i32_w]
             rfl
            refine pure_ (i := 3) (N := some 75) (v := ?_) (a' := ?_) #[true, true, true, true, false, false, false, false, false, false, false, false, false, false, false, false, false, false, false, false, false, false, false] rfl rfl (any_of HT_.out (by kernel_rfl)) (fun _ _ _ h => h) (Or.inl ⟨by rfl, ?_⟩) ?_ ?_
            rotate_left
            ·intro w'
             go_simp
             with_reducible rfl
            rotate_left
            ·simp only [Act.put, List.setIfInBounds_toArray, List.set_cons_zero, List.set_cons_succ, i64_w, i32_w]
             rfl
            refine pure_ (i := 4) (N := some 76) (v := ?_) (a' := ?_) #[true, true, true, true, true, false, false, false, false, false, false, false, false, false, false, false, false, false, false, false, false, false, false] rfl rfl (any_of HT_.out (by kernel_rfl)) (fun _ _ _ h => h) (Or.inl ⟨by rfl, ?_⟩) ?_ ?_
            rotate_left
            ·intro w'
             go_simp
             with_reducible rfl
            rotate_left
            ·simp only [Act.put, List.setIfInBounds_toArray, List.set_cons_zero, List.set_cons_succ, i64_w, i32_w]
             rfl
            refine pure_ (i := 5) (N := some 77) (v := ?_) (a' := ?_) #[true, true, true, true, true, true, false, false, false, false, false, false, false, false, false, false, false, false, false, false, false, false, false] rfl rfl (any_of HT_.out (by kernel_rfl)) (fun _ _ _ h => h) (Or.inl ⟨by rfl, ?_⟩) ?_ ?_
            rotate_left
            ·intro w'
             go_simp
             with_reducible rfl
            rotate_left
            ·simp only [Act.put, List.setIfInBounds_toArray, List.set_cons_zero, List.set_cons_succ, i64_w, i32_w]
             rfl
            refine pure_ (i := 6) (N := some 78) (v := ?_) (a' := ?_) #[true, true, true, true, true, true, true, false, false, false, false, false, false, false, false, false, false, false, false, false, false, false, false] rfl rfl (any_of HT_.out (by kernel_rfl)) (fun _ _ _ h => h) (Or.inl ⟨by rfl, ?_⟩) ?_ ?_
            rotate_left
            ·intro w'
             go_simp
             with_reducible rfl
            rotate_left
            ·simp only [Act.put, List.setIfInBounds_toArray, List.set_cons_zero, List.set_cons_succ, i64_w, i32_w]
             rfl
            refine pure_ (i := 7) (N := some 79) (v := ?_) (a' := ?_) #[true, true, true, true, true, true, true, true, false, false, false, false, false, false, false, false, false, false, false, false, false, false, false] rfl rfl (any_of HT_.out (by kernel_rfl)) (fun _ _ _ h => h) (Or.inl ⟨by rfl, ?_⟩) ?_ ?_
            rotate_left
            ·intro w'
             go_simp
             with_reducible rfl
            rotate_left
            ·simp only [Act.put, List.setIfInBounds_toArray, List.set_cons_zero, List.set_cons_succ, i64_w, i32_w]
             rfl
            refine pure_ (i := 8) (N := some 80) (v := ?_) (a' := ?_) #[true, true, true, true, true, true, true, true, true, false, false, false, false, false, false, false, false, false, false, false, false, false, false] rfl rfl (any_of HT_.out (by kernel_rfl)) (fun _ _ _ h => h) (Or.inl ⟨by rfl, ?_⟩) ?_ ?_
            rotate_left
            ·intro w'
             go_simp
             with_reducible rfl
            rotate_left
            ·simp only [Act.put, List.setIfInBounds_toArray, List.set_cons_zero, List.set_cons_succ, i64_w, i32_w]
             rfl
            refine pure_ (i := 9) (N := some 81) (v := undef) (a' := ?_) #[true, true, true, true, true, true, true, true, true, true, false, false, false, false, false, false, false, false, false, false, false, false, false] rfl rfl (any_of HT_.out (by kernel_rfl)) (fun _ _ _ h => h) (Or.inr ⟨by rfl, rfl⟩) ?_ ?_
            rotate_left
            ·simp only [Act.put, List.setIfInBounds_toArray, List.set_cons_zero, List.set_cons_succ, i64_w, i32_w]
             rfl
            refine pure_ (i := 10) (N := some 82) (v := undef) (a' := ?_) #[true, true, true, true, true, true, true, true, true, true, true, false, false, false, false, false, false, false, false, false, false, false, false] rfl rfl (any_of HT_.out (by kernel_rfl)) (fun _ _ _ h => h) (Or.inr ⟨by rfl, rfl⟩) ?_ ?_
            rotate_left
            ·simp only [Act.put, List.setIfInBounds_toArray, List.set_cons_zero, List.set_cons_succ, i64_w, i32_w]
             rfl
            refine pure_ (i := 11) (N := some 83) (v := undef) (a' := ?_) #[true, true, true, true, true, true, true, true, true, true, true, true, false, false, false, false, false, false, false, false, false, false, false] rfl rfl (any_of HT_.out (by kernel_rfl)) (fun _ _ _ h => h) (Or.inr ⟨by rfl, rfl⟩) ?_ ?_
            rotate_left
            ·simp only [Act.put, List.setIfInBounds_toArray, List.set_cons_zero, List.set_cons_succ, i64_w, i32_w]
             rfl
            refine pure_ (i := 12) (N := some 84) (v := undef) (a' := ?_) #[true, true, true, true, true, true, true, true, true, true, true, true, true, false, false, false, false, false, false, false, false, false, false] rfl rfl (any_of HT_.out (by kernel_rfl)) (fun _ _ _ h => h) (Or.inr ⟨by rfl, rfl⟩) ?_ ?_
            rotate_left
            ·simp only [Act.put, List.setIfInBounds_toArray, List.set_cons_zero, List.set_cons_succ, i64_w, i32_w]
             rfl
            refine pure_ (i := 13) (N := some 85) (v := undef) (a' := ?_) #[true, true, true, true, true, true, true, true, true, true, true, true, true, true, false, false, false, false, false, false, false, false, false] rfl rfl (any_of HT_.out (by kernel_rfl)) (fun _ _ _ h => h) (Or.inr ⟨by rfl, rfl⟩) ?_ ?_
            rotate_left
            ·simp only [Act.put, List.setIfInBounds_toArray, List.set_cons_zero, List.set_cons_succ, i64_w, i32_w]
             rfl
            refine pure_ (i := 14) (N := some 86) (v := undef) (a' := ?_) #[true, true, true, true, true, true, true, true, true, true, true, true, true, true, true, false, false, false, false, false, false, false, false] rfl rfl (any_of HT_.out (by kernel_rfl)) (fun _ _ _ h => h) (Or.inr ⟨by rfl, rfl⟩) ?_ ?_
            rotate_left
            ·simp only [Act.put, List.setIfInBounds_toArray, List.set_cons_zero, List.set_cons_succ, i64_w, i32_w]
             rfl
            refine pure_ (i := 15) (N := some 87) (v := undef) (a' := ?_) #[true, true, true, true, true, true, true, true, true, true, true, true, true, true, true, true, false, false, false, false, false, false, false] rfl rfl (any_of HT_.out (by kernel_rfl)) (fun _ _ _ h => h) (Or.inr ⟨by rfl, rfl⟩) ?_ ?_
            rotate_left
            ·simp only [Act.put, List.setIfInBounds_toArray, List.set_cons_zero, List.set_cons_succ, i64_w, i32_w]
             rfl
            refine pure_ (i := 16) (N := some 88) (v := undef) (a' := ?_) #[true, true, true, true, true, true, true, true, true, true, true, true, true, true, true, true, true, false, false, false, false, false, false] rfl rfl (any_of HT_.out (by kernel_rfl)) (fun _ _ _ h => h) (Or.inr ⟨by rfl, rfl⟩) ?_ ?_
            rotate_left
            ·simp only [Act.put, List.setIfInBounds_toArray, List.set_cons_zero, List.set_cons_succ, i64_w, i32_w]
             rfl
            refine pure_ (i := 17) (N := some 89) (v := undef) (a' := ?_) #[true, true, true, true, true, true, true, true, true, true, true, true, true, true, true, true, true, true, false, false, false, false, false] rfl rfl (any_of HT_.out (by kernel_rfl)) (fun _ _ _ h => h) (Or.inr ⟨by rfl, rfl⟩) ?_ ?_
            rotate_left
            ·simp only [Act.put, List.setIfInBounds_toArray, List.set_cons_zero, List.set_cons_succ, i64_w, i32_w]
             rfl
            refine pure_ (i := 18) (N := some 90) (v := undef) (a' := ?_) #[true, true, true, true, true, true, true, true, true, true, true, true, true, true, true, true, true, true, true, false, false, false, false] rfl rfl (any_of HT_.out (by kernel_rfl)) (fun _ _ _ h => h) (Or.inr ⟨by rfl, rfl⟩) ?_ ?_
            rotate_left
            ·simp only [Act.put, List.setIfInBounds_toArray, List.set_cons_zero, List.set_cons_succ, i64_w, i32_w]
             rfl
            refine pure_ (i := 19) (N := some 91) (v := undef) (a' := ?_) #[true, true, true, true, true, true, true, true, true, true, true, true, true, true, true, true, true, true, true, true, false, false, false] rfl rfl (any_of HT_.out (by kernel_rfl)) (fun _ _ _ h => h) (Or.inr ⟨by rfl, rfl⟩) ?_ ?_
            rotate_left
            ·simp only [Act.put, List.setIfInBounds_toArray, List.set_cons_zero, List.set_cons_succ, i64_w, i32_w]
             rfl
            refine pure_ (i := 20) (N := some 92) (v := ?_) (a' := ?_) #[true, true, true, true, true, true, true, true, true, true, true, true, true, true, true, true, true, true, true, true, true, false, false] rfl rfl (any_of HT_.out (by kernel_rfl)) (fun _ _ _ h => h) (Or.inl ⟨by rfl, ?_⟩) ?_ ?_
            rotate_left
            ·intro w'
             go_simp
             with_reducible rfl
            rotate_left
            ·simp only [Act.put, List.setIfInBounds_toArray, List.set_cons_zero, List.set_cons_succ, i64_w, i32_w]
             rfl
            refine one_ (i := 21) (N := none) #[true, true, true, true, true, true, true, true, true, true, true, true, true, true, true, true, true, true, true, true, true, true, false] rfl rfl (one_of HT_.out (by kernel_rfl)) (by decide) (fun K hK => ?_)
            have hs73 : w72.cell? ⟨gb105, 0, none⟩ = some (.int .i64 0) := (blk_cell BK105.out 0).trans rfl
            have hfs73 := blk_frozen BK105.out 0; have hs74 : w72.cell? ⟨gb105, 1, none⟩ = some (.int .i64 0) := (blk_cell BK105.out 1).trans rfl
            have hfs74 := blk_frozen BK105.out 1; have hs75 : w72.cell? ⟨gb105, 2, none⟩ = some (.string (⟨#[]⟩ : ByteArray)) := (blk_cell BK105.out 2).trans rfl
            have hfs75 := blk_frozen BK105.out 2; have hs76 : w72.cell? ⟨gb105, 3, none⟩ = some (.int .i32 0) := (blk_cell BK105.out 3).trans rfl
            have hfs76 := blk_frozen BK105.out 3; refine skip_ (w1 := ?_) (by rfl) rfl ?_ ?_
            rotate_left
            ·go_simp
             rfl
            refine hK.out _ _ trivial (fun hHeld => ?_)
            clear hK K; refine pure_ (i := 22) (N := some 7) (v := ?_) (a' := ?_) #[true, true, true, true, true, true, true, true, true, true, true, true, true, true, true, true, true, true, true, true, true, true, true] rfl rfl (any_of HT_.out (by kernel_rfl)) (fun _ _ _ h => h) (Or.inl ⟨by rfl, ?_⟩) ?_ ?_
            rotate_left
            ·intro w'
             go_simp
             with_reducible rfl
            rotate_left
            ·simp only [Act.put, List.setIfInBounds_toArray, List.set_cons_zero, List.set_cons_succ, i64_w, i32_w]
             rfl
            refine done_ (done_of HT_.out (by kernel_rfl)) ?_
            try go_wp2
            refine bodyPost_ret (results_ct rfl _ _ gb105 30 #[.int .i64 1, .int .i64 a1, .string (a0.extract (a1 : Int).toNat (x8_1 : Int).toNat), .int .i32 t114] (0, 0) _ rfl (by (with_reducible repeat (first | refine blk_drewN ?_ _ | refine blk_drew ?_ | refine blk_alloc ?_ _)); refine blk_put (cs := #[.int .i64 1, .int .i64 a1, .string (a0.extract (a1 : Int).toNat (x8_1 : Int).toNat), .int .i32 0]) ?_ 3 _ rfl; (with_reducible repeat (first | refine blk_drewN ?_ _ | refine blk_drew ?_ | refine blk_alloc ?_ _)); refine blk_put (cs := #[.int .i64 1, .int .i64 a1, .string (⟨#[]⟩ : ByteArray), .int .i32 0]) ?_ 2 _ rfl; (with_reducible repeat (first | refine blk_drewN ?_ _ | refine blk_drew ?_ | refine blk_alloc ?_ _)); refine blk_put (cs := #[.int .i64 1, .int .i64 0, .string (⟨#[]⟩ : ByteArray), .int .i32 0]) ?_ 1 _ rfl; (with_reducible repeat (first | refine blk_drewN ?_ _ | refine blk_drew ?_ | refine blk_alloc ?_ _)); refine blk_put (cs := #[.int .i64 0, .int .i64 0, .string (⟨#[]⟩ : ByteArray), .int .i32 0]) ?_ 0 _ rfl; (with_reducible repeat (first | refine blk_drewN ?_ _ | refine blk_drew ?_ | refine blk_alloc ?_ _)); exact BK105.out) Tryd.underlying30 rfl (by kernel_rfl)) rfl ?_
            exact ⟨by first | rfl | (simp [errW_none, errW_some] <;> rfl) | (simp [*, errW_none, errW_some] <;> rfl), by repeat (first | (with_reducible first | exact HB.out | apply below_alloc | apply pw_below_drewN | apply below_drew1 | refine below_set ?_ GE105.out) | exact HB.out)⟩
          ·rw [if_neg c59] at H; exact absurd H (by simp)
         ·rw [if_neg c58] at H; exact absurd H (by simp)
        ·rw [if_neg c57] at H; exact absurd H (by simp)
    ·replace c24 := Bool.eq_false_iff.mpr c24; subst c24; have H1 : ((lex_sign.f k a0 a1).bind fun t116 => (some (2, a1, t116, 0, (t116.toList != ([] : List UInt8))))) = some (r1, r2, r3, r4, r5) := by rw [if_neg (show ¬ (false = true) by decide)] at H; exact H
     clear H; have H := H1; clear H1; replace H := Option.bind_eq_some_iff.mp H; obtain ⟨t116, A770, H⟩ := H; replace H : (some (2, a1, t116, 0, (t116.toList != ([] : List UInt8)))) = some (r1, r2, r3, r4, r5) := H; have A77 := Aside0.mk A770; clear A770; simp only [Option.some.injEq, Prod.mk.injEq] at H
     obtain ⟨rfl, rfl, rfl, rfl, rfl⟩ := H; go_enter Tryd.func25, Tryd.ntmps25
     go_wp2_with (first | ((with_reducible refine gate_dst (N := 6) rfl ?_); (try (refine gate_guard (by rfl) ?_; dsimp only)); refine box_event ?hg (N := 6) ?hd (cs := #[.int .i64 0, .int .i64 0, .string (⟨#[]⟩ : ByteArray), .int .i32 0]) (t := 30) ?hr ?_; (case hd => rfl); (case hg => rfl); (case hr => first | (go_simp; done) | (go_simp; rfl)); intro gb105 hg w78 hbox hb; have n0_ := Aside0.mk (below_step (by repeat (first | (with_reducible first | exact HB.out | apply below_alloc | apply pw_below_drewN | apply below_drew1) | exact HB.out)) hb); have n1_ := Aside0.mk (hbox); have n2_ := Aside0.mk ((by rw [hg]; exact (below_size (by repeat (first | (with_reducible first | exact HB.out | apply below_alloc | apply pw_below_drewN | apply below_drew1) | exact HB.out))) : w.heap.size ≤ gb105)); have n3_ := Aside0.mk ((by rw [hg]; exact (below_size (by repeat (first | (with_reducible first | exact HB.out | apply below_alloc | apply pw_below_drewN | apply below_drew1) | exact HB.out))) : w.heap.size ≤ gb105)); clear HB; have HB := n0_; have BK105 := n1_; have GW105 := n2_; have GE105 := n3_; clear n0_ n1_ n2_ n3_; clear hb hbox hg; have p6 : 0 ≤ (a1 : Int) := of_decide_eq_true (by with_reducible assumption); have q6 : a1 < (a0.size : Int) := of_decide_eq_true (by with_reducible assumption); have hx6 := bt_at a0 a1; replace p6 := eq_true p6; replace q6 := eq_true q6) | ((with_reducible refine gate_callee (f := 28) rfl ?_); refine goesL_ (some 20) rfl rfl Tryd.func28 (by kernel_rfl) rfl #[.int .u8 (bt a0 a1)] rfl (by (try simp only [List.map_toArray, List.map_cons, List.map_nil]); first | done | rfl | (simp only [List.length_drop, List.length_take]; rfl)) ?_; (with_reducible refine (lex_letter.calls (bt a0 a1) false _ A7.out).mono ?_); rintro e w' ⟨rfl, ⟨nd, rfl⟩⟩; refine ⟨_, rfl, ?_⟩; (try (rw [drewN_self w78]; generalize hq_ : World.drewN w78 _ = w78; have n0_ : Aside0 (w78.heap[gb105]? = some (.cells #[.int .i64 0, .int .i64 0, .string (⟨#[]⟩ : ByteArray), .int .i32 0] 30 (0, 0))) := ⟨by rw [← hq_]; exact (by (with_reducible repeat (first | refine blk_drewN ?_ _ | refine blk_drew ?_ | refine blk_alloc ?_ _)); exact BK105.out)⟩; have n1_ : Aside0 (Below w.heap.size w w78) := ⟨by rw [← hq_]; exact (by repeat (first | (with_reducible first | exact HB.out | apply below_alloc | apply pw_below_drewN | apply below_drew1 | refine below_set ?_ GE105.out) | exact HB.out))⟩; clear BK105 HB hq_; have BK105 := n0_; have HB := n1_; clear n0_ n1_))) | ((with_reducible refine gate_callee (f := 38) rfl ?_); refine goesL_ (some 51) rfl rfl Tryd.func38 (by kernel_rfl) rfl #[.int .u8 (bt a0 a1)] rfl (by (try simp only [List.map_toArray, List.map_cons, List.map_nil]); first | done | rfl | (simp only [List.length_drop, List.length_take]; rfl)) ?_; (with_reducible refine (lex_digit.calls (bt a0 a1) false _ A23.out).mono ?_); rintro e w' ⟨rfl, ⟨nd, rfl⟩⟩; refine ⟨_, rfl, ?_⟩; (try (rw [drewN_self w78]; generalize hq_ : World.drewN w78 _ = w78; have n0_ : Aside0 (w78.heap[gb105]? = some (.cells #[.int .i64 0, .int .i64 0, .string (⟨#[]⟩ : ByteArray), .int .i32 0] 30 (0, 0))) := ⟨by rw [← hq_]; exact (by (with_reducible repeat (first | refine blk_drewN ?_ _ | refine blk_drew ?_ | refine blk_alloc ?_ _)); exact BK105.out)⟩; have n1_ : Aside0 (Below w.heap.size w w78) := ⟨by rw [← hq_]; exact (by repeat (first | (with_reducible first | exact HB.out | apply below_alloc | apply pw_below_drewN | apply below_drew1 | refine below_set ?_ GE105.out) | exact HB.out))⟩; clear BK105 HB hq_; have BK105 := n0_; have HB := n1_; clear n0_ n1_))) | ((with_reducible refine gate_callee (f := 40) rfl ?_); refine goesL_ (some 95) rfl rfl Tryd.func40 (by kernel_rfl) rfl #[.string a0, .int .i64 a1] rfl (by (try simp only [List.map_toArray, List.map_cons, List.map_nil]); first | done | rfl | (simp only [List.length_drop, List.length_take]; rfl)) ?_; (with_reducible refine (lex_sign.calls k a0 a1 t116 _ A77.out (HT.out.below (by repeat (first | (with_reducible first | exact HB.out | apply below_alloc | apply pw_below_drewN | apply below_drew1 | refine below_set ?_ (by assumption)) | exact HB.out)))).mono ?_); rintro e w79 ⟨rfl, hb⟩; refine ⟨_, rfl, ?_⟩; have n0_ := Aside0.mk (blk_below (g := gb105) (o := .cells #[.int .i64 0, .int .i64 0, .string (⟨#[]⟩ : ByteArray), .int .i32 0] 30 (0, 0)) (by (with_reducible repeat (first | refine blk_drewN ?_ _ | refine blk_drew ?_ | refine blk_alloc ?_ _)); exact BK105.out) hb); have n1_ := Aside0.mk (below_step (by repeat (first | (with_reducible first | exact HB.out | apply below_alloc | apply pw_below_drewN | apply below_drew1 | refine below_set ?_ GE105.out) | exact HB.out)) hb); clear BK105; clear HB; have BK105 := n0_; have HB := n1_; clear n0_ n1_; (try clear hb); (try clear hb2); (try clear hk); (try clear hi); have hcz80_0 : w79.cell? ⟨gb105, 0, none⟩ = some (.int .i64 0) := (blk_cell BK105.out 0).trans rfl; have hcz80_1 : w79.cell? ⟨gb105, 1, none⟩ = some (.int .i64 0) := (blk_cell BK105.out 1).trans rfl; have hcz80_2 : w79.cell? ⟨gb105, 2, none⟩ = some (.string (⟨#[]⟩ : ByteArray)) := (blk_cell BK105.out 2).trans rfl; have hcz80_3 : w79.cell? ⟨gb105, 3, none⟩ = some (.int .i32 0) := (blk_cell BK105.out 3).trans rfl; have hfz80_0 := blk_frozen BK105.out 0; have hfz80_1 := blk_frozen BK105.out 1; have hfz80_2 := blk_frozen BK105.out 2; have hfz80_3 := blk_frozen BK105.out 3))
     refine bodyPost_ret (results_ct rfl _ _ gb105 30 #[.int .i64 2, .int .i64 a1, .string t116, .int .i32 0] (0, 0) _ rfl (by (with_reducible repeat (first | refine blk_drewN ?_ _ | refine blk_drew ?_ | refine blk_alloc ?_ _)); refine blk_put (cs := #[.int .i64 2, .int .i64 a1, .string t116, .int .i32 0]) ?_ 3 _ rfl; (with_reducible repeat (first | refine blk_drewN ?_ _ | refine blk_drew ?_ | refine blk_alloc ?_ _)); refine blk_put (cs := #[.int .i64 2, .int .i64 a1, .string (⟨#[]⟩ : ByteArray), .int .i32 0]) ?_ 2 _ rfl; (with_reducible repeat (first | refine blk_drewN ?_ _ | refine blk_drew ?_ | refine blk_alloc ?_ _)); refine blk_put (cs := #[.int .i64 2, .int .i64 0, .string (⟨#[]⟩ : ByteArray), .int .i32 0]) ?_ 1 _ rfl; (with_reducible repeat (first | refine blk_drewN ?_ _ | refine blk_drew ?_ | refine blk_alloc ?_ _)); refine blk_put (cs := #[.int .i64 0, .int .i64 0, .string (⟨#[]⟩ : ByteArray), .int .i32 0]) ?_ 0 _ rfl; (with_reducible repeat (first | refine blk_drewN ?_ _ | refine blk_drew ?_ | refine blk_alloc ?_ _)); exact BK105.out) Tryd.underlying30 rfl (by kernel_rfl)) rfl ?_
     exact ⟨by first | rfl | (simp; generalize t116.toList = q_; cases q_ <;> rfl) | (simp [errW_none, errW_some] <;> rfl) | (simp [*, errW_none, errW_some] <;> rfl), by repeat (first | (with_reducible first | exact HB.out | apply below_alloc | apply pw_below_drewN | apply below_drew1 | refine below_set ?_ GE105.out) | exact HB.out)⟩
  ·rw [if_neg c5] at H; exact absurd H (by simp)
 ·rw [if_neg c4] at H; exact absurd H (by simp)
end Go.Proofs.YtplcemlennloaaaDoor.N
end
section
namespace Go.Proofs.YtplcemlennloaaaDoor.N
open Go.RowKit Go.Proofs.YtplcemlennloaaaDoorW.PrintWords Go.Proofs.YtplcemlennloaaaDoorW.PrintLast Go.Proofs.YtplcemlennloaaaDoorW.PrintMore Go.Proofs.YtplcemlennloaaaDoor Go.Proofs.YtplcemlennloaaaDoor.A Go.Proofs.YtplcemlennloaaaDoor.B Go.Proofs.YtplcemlennloaaaDoor.S
set_option linter.unusedVariables false
set_option linter.unusedSimpArgs false
def lex_Tokens.l0 : Nat → ByteArray → Int → List (S30) → Int → Option ((List (S30)) × Int × Int)
 | 0, _, _, _, _ => none
 | k + 1, x0, x5, x6, x7 => if x7 < (x0.size : Int) then ((lex_next.f k x0 x7 x5).bind fun bt119 => (if bt119.2.2.2.2 = true then (if x6.length < 3518437208883 then ((lex_skip.f k x0 (wrap64 (x7 + (bt119.2.2.1.size : Int)))).bind fun t128 => (lex_Tokens.l0 k x0 x5 (x6 ++ [(⟨bt119.1, bt119.2.1, bt119.2.2.1, bt119.2.2.2.1⟩ : S30)]) t128)) else (none)) else (some (([] : List (S30)), x7, 2)))) else (some (x6, 0, 0))
def lex_Tokens.f (k : Nat) (a0 : ByteArray) : Option ((List (S30)) × Int × Int) := if (a0.size : Int) > 4000 then (some (([] : List (S30)), 0, 5)) else ((lex_words.f).bind fun t117 => ((lex_skip.f k a0 0).bind fun t118 => (lex_Tokens.l0 k a0 t117 ([] : List (S30)) t118)))
theorem lex_Tokens.mono_l : ∀ k, (∀ y0 y1 y2 y3, LeO (lex_Tokens.l0 k y0 y1 y2 y3) (lex_Tokens.l0 (k + 1) y0 y1 y2 y3))
 | 0 => fun _ _ _ _ r h => by simp [lex_Tokens.l0] at h
 | k + 1 => by
  have ih0 := lex_Tokens.mono_l k
  ·intro y0 y1 y2 y3
   unfold lex_Tokens.l0
   repeat' first
   | (with_reducible exact ih0 _ _ _ _)
   | (with_reducible exact lex_next.mono _ _ _ _)
   | (with_reducible exact lex_skip.mono _ _ _)
   | (with_reducible exact LeO.refl _)
   | (with_reducible exact LeO.none _)
   | (with_reducible refine LeO.ite ?_ ?_)
   | (with_reducible refine LeO.bind ?_ (fun _ => ?_))
theorem lex_Tokens.mono : ∀ a0 k, LeO (lex_Tokens.f k a0) (lex_Tokens.f (k + 1) a0) := by
 intro a0 k
 have ih0 := lex_Tokens.mono_l k; unfold lex_Tokens.f
 repeat' first
   | (with_reducible exact ih0 _ _ _ _)
   | (with_reducible exact lex_next.mono _ _ _ _)
   | (with_reducible exact lex_skip.mono _ _ _)
   | (with_reducible exact LeO.refl _)
   | (with_reducible exact LeO.none _)
   | (with_reducible refine LeO.ite ?_ ?_)
   | (with_reducible refine LeO.bind ?_ (fun _ => ?_))
set_option maxHeartbeats 8000000 in
set_option maxRecDepth 100000 in
theorem lex_Tokens.calls (k : Nat) (a0 : ByteArray) (r1 : List (S30)) (r2 : Int) (r3 : Int) (wq : World) (h : lex_Tokens.f k a0 = some (r1, r2, r3)) (hT : Tab wq) :
  Calls Tryd.prog 11 #[.string a0] wq fun e w' => ∃ v0_ : Value, e = .returned (.tuple #[v0_, .int .i64 r2, .int .i64 r3]) ∧ Kd.R k30 30 w' wq.heap.size (fun _ => True) v0_ r1 ∧ Below wq.heap.size wq w' := by
 have HT := Aside0.mk hT; clear hT; have hu30 := Tryd.underlying30; have HB := Aside0.mk (Below.refl wq.heap.size wq); have H : (if (a0.size : Int) > 4000 then (some (([] : List (S30)), 0, 5)) else ((lex_words.f).bind fun t117 => ((lex_skip.f k a0 0).bind fun t118 => (lex_Tokens.l0 k a0 t117 ([] : List (S30)) t118)))) = some (r1, r2, r3) := h
 clear h; by_cases c2 : (a0.size : Int) > 4000
 ·rw [if_pos c2] at H; have c2b0 : decide (4000 < (a0.size : Int)) = true := decide_eq_true c2
  have c2b1 : decide (4000 < a0.size) = true := decide_eq_true (by omega)
  clear c2; simp only [Option.some.injEq, Prod.mk.injEq] at H
  obtain ⟨rfl, rfl, rfl⟩ := H; go_enter Tryd.func11, Tryd.ntmps11
  go_wp2
  go_ret3
  exact ⟨_, by first | rfl | (simp [errW_none, errW_some] <;> rfl) | (simp [*, errW_none, errW_some] <;> rfl), by first | exact Kd.R_nil _ _ _ _ _ | exact Kd.N_nil _ _ _ _ _ | exact Kd.V_nil _ _ _ _ _ | exact Kd.Q_nil _ _ _ _ _ | exact Kd.S_nil _ _ _ _ _, by repeat (first | (with_reducible first | exact HB.out | apply below_alloc | apply pw_below_drewN | apply below_drew1) | exact HB.out)⟩
 ·rw [if_neg c2] at H; have c2b0 : decide (4000 < (a0.size : Int)) = false := decide_eq_false c2
  have c2b1 : decide (4000 < a0.size) = false := decide_eq_false (by omega)
  clear c2; replace H := Option.bind_eq_some_iff.mp H; obtain ⟨t117, A30, H⟩ := H; replace H : ((lex_skip.f k a0 0).bind fun t118 => (lex_Tokens.l0 k a0 t117 ([] : List (S30)) t118)) = some (r1, r2, r3) := H
  have A3 := Aside0.mk A30; clear A30; replace H := Option.bind_eq_some_iff.mp H; obtain ⟨t118, A40, H⟩ := H; replace H : (lex_Tokens.l0 k a0 t117 ([] : List (S30)) t118) = some (r1, r2, r3) := H; have A4 := Aside0.mk A40; clear A40; have H' := Aside0.mk H
  clear H; go_enter Tryd.func11, Tryd.ntmps11
  go_wp2_with (first | ((with_reducible refine gate_callee (f := 23) rfl ?_); refine goesL_ (some 13) rfl rfl Tryd.func23 (by kernel_rfl) rfl #[] rfl (by (try simp only [List.map_toArray, List.map_cons, List.map_nil]); first | done | rfl | (simp only [List.length_drop, List.length_take]; rfl)) ?_; (with_reducible refine (words_known _ (HT.out.below (by repeat (first | (with_reducible first | exact HB.out | apply below_alloc | apply pw_below_drewN | apply below_drew1) | exact HB.out)))).mono ?_); rintro e w ⟨mb, rfl, hmb_, hkn_, hb⟩; refine ⟨_, rfl, ?_⟩; have HKn := Aside0.mk hkn_; have HBq := Aside0.mk (below_step (by repeat (first | (with_reducible first | exact HB.out | apply below_alloc | apply pw_below_drewN | apply below_drew1) | exact HB.out)) hb); have n0_ := Aside0.mk (HT.out.below HBq.out); clear HT HB hkn_ hmb_; have HT := n0_; clear n0_; have HB := Aside0.mk (Below.refl w.heap.size w); (try clear hb); (try clear hb2); (try clear hk); (try clear hi)) | ((with_reducible refine gate_callee (f := 24) rfl ?_); refine goesL_ (some 15) rfl rfl Tryd.func24 (by kernel_rfl) rfl #[.string a0, .int .i64 0] rfl (by (try simp only [List.map_toArray, List.map_cons, List.map_nil]); first | done | rfl | (simp only [List.length_drop, List.length_take]; rfl)) ?_; (with_reducible refine (lex_skip.calls k a0 0 t118 _ A4.out).mono ?_); rintro e w' ⟨rfl, ⟨nd, rfl⟩⟩; refine ⟨_, rfl, ?_⟩))
  go_loopg [6, 7] k (fun kq v6 v7 w' => ∃ (x6_1 : List (S30)) (x7_1 : Int), v7 = .int .i64 x7_1 ∧ Aside0 (lex_Tokens.l0 kq a0 t117 x6_1 x7_1 = some (r1, r2, r3)) ∧ Aside0 (kq ≤ k) ∧ Aside0 (Kd.R k30 30 w' w.heap.size (fun _ => True) v6 x6_1) ∧ Aside0 (Below w.heap.size w w'))
  case atStart => exact ⟨(([] : List (S30))), (t118), (by first | rfl | (simp; done) | (simp [*]; done)), H', ⟨Nat.le_refl _⟩, ⟨by first | exact Kd.R_nil _ _ _ _ _ | exact Kd.N_nil _ _ _ _ _ | exact Kd.V_nil _ _ _ _ _ | exact Kd.Q_nil _ _ _ _ _ | exact Kd.S_nil _ _ _ _ _⟩, ⟨by repeat (first | (with_reducible first | exact HB.out | apply below_alloc | apply pw_below_drewN | apply below_drew1) | exact HB.out)⟩⟩
  case round =>
   clear H'; try clear c1
   try clear c2
   try clear c2b0
   try clear c2b1
   try clear p2
   obtain ⟨x6_1, x7_1, rfl, HA, HK1, HO_6, HB⟩ := hrel; cases gk with
   | zero => exact absurd HA.out (by simp [lex_Tokens.l0])
   | succ k1 =>
    have H := HA.out; clear HA; simp only [lex_Tokens.l0] at H
    by_cases c6 : x7_1 < (a0.size : Int)
    ·rw [if_pos c6] at H; have c6b0 : decide (x7_1 < (a0.size : Int)) = true := decide_eq_true c6
     clear c6; replace H := Option.bind_eq_some_iff.mp H; obtain ⟨⟨t119, t120, t121, t122, t123⟩, A70, H⟩ := H; replace H : (if t123 = true then (if x6_1.length < 3518437208883 then ((lex_skip.f k1 a0 (wrap64 (x7_1 + (t121.size : Int)))).bind fun t128 => (lex_Tokens.l0 k1 a0 t117 (x6_1 ++ [(⟨t119, t120, t121, t122⟩ : S30)]) t128)) else (none)) else (some (([] : List (S30)), x7_1, 2))) = some (r1, r2, r3) := H
     have A7 := Aside0.mk A70; clear A70; by_cases c8 : t123 = true
     ·subst c8; have H1 : (if x6_1.length < 3518437208883 then ((lex_skip.f k1 a0 (wrap64 (x7_1 + (t121.size : Int)))).bind fun t128 => (lex_Tokens.l0 k1 a0 t117 (x6_1 ++ [(⟨t119, t120, t121, t122⟩ : S30)]) t128)) else (none)) = some (r1, r2, r3) := by rw [if_pos rfl] at H; exact H
      clear H; have H := H1; clear H1; by_cases c9 : x6_1.length < 3518437208883
      ·rw [if_pos c9] at H; have LMc9 := Aside0.mk c9; clear c9; obtain ⟨y125, hy125⟩ : ∃ y_ : List (S30), y_ = (x6_1 ++ [(⟨t119, t120, t121, t122⟩ : S30)]) := ⟨_, rfl⟩; replace H : ((lex_skip.f k1 a0 (wrap64 (x7_1 + (t121.size : Int)))).bind fun t128 => (lex_Tokens.l0 k1 a0 t117 y125 t128)) = some (r1, r2, r3) := by first | (with_reducible first | (rw [hy125]; exact H) | exact H) | (have H2_ := (Option.bind_some _ _).symm.trans H; first | with_reducible exact H2_ | (rw [hy125]; exact H2_)) | (rw [hy125]; exact H) | exact H
       have Ny125 := Aside0.mk hy125; clear hy125; replace H := Option.bind_eq_some_iff.mp H; obtain ⟨t128, A100, H⟩ := H; replace H : (lex_Tokens.l0 k1 a0 t117 y125 t128) = some (r1, r2, r3) := H; have A10 := Aside0.mk A100; clear A100; have H' := Aside0.mk H
       clear H; go_wp2_with (first | ((with_reducible refine gate_callee (f := 25) rfl ?_); refine goesL_ (some 27) rfl rfl Tryd.func25 (by kernel_rfl) rfl #[.string a0, .int .i64 x7_1, .map (some mb)] rfl (by (try simp only [List.map_toArray, List.map_cons, List.map_nil]); first | done | rfl | (simp only [List.length_drop, List.length_take]; rfl)) ?_; (with_reducible refine (lex_next.calls k1 a0 x7_1 t117 t119 t120 t121 t122 true _ A7.out mb ?hkn ?htt).mono ?_); (case hkn => exact HKn.out.below (by repeat (first | (with_reducible first | exact HB.out | apply below_alloc | apply pw_below_drewN | apply below_drew1 | refine below_set ?_ (by assumption)) | exact HB.out))); (case htt => exact HT.out.below (by repeat (first | (with_reducible first | exact HB.out | apply below_alloc | apply pw_below_drewN | apply below_drew1 | refine below_set ?_ (by assumption)) | exact HB.out))); rintro e w11 ⟨rfl, hb⟩; refine ⟨_, rfl, ?_⟩; have n0_ := Aside0.mk (Kd.R_below (by (with_reducible repeat (first | apply Kd.R_alloc | apply Kd.R_drewN | apply Kd.R_drew)); exact HO_6.out) hb); have n1_ := Aside0.mk (below_step (by repeat (first | (with_reducible first | exact HB.out | apply below_alloc | apply pw_below_drewN | apply below_drew1) | exact HB.out)) hb); clear HO_6; clear HB; have HO_6 := n0_; have HB := n1_; clear n0_ n1_; (try clear hb); (try clear hb2); (try clear hk); (try clear hi)) | ((with_reducible refine gate_dst (N := 8) rfl ?_); refine box_event ?hg (N := 8) ?hd (cs := #[.int .i64 0, .int .i64 0, .string (⟨#[]⟩ : ByteArray), .int .i32 0]) (t := 30) ?hr ?_; (case hd => rfl); (case hg => rfl); (case hr => first | (go_simp; done) | (go_simp; rfl)); intro gb124 hg w12 hbox hb; have n0_ := Aside0.mk (Kd.R_below (Kd.R_elderB (by (with_reducible repeat (first | apply Kd.R_alloc | apply Kd.R_drewN | apply Kd.R_drew)); exact HO_6.out) gb124 (Nat.le_of_eq hg.symm)) hb); have n1_ := Aside0.mk (below_step (by repeat (first | (with_reducible first | exact HB.out | apply below_alloc | apply pw_below_drewN | apply below_drew1) | exact HB.out)) hb); have n2_ := Aside0.mk (hbox); have n3_ := Aside0.mk ((by rw [hg]; exact (below_size (by repeat (first | (with_reducible first | exact HB.out | apply below_alloc | apply pw_below_drewN | apply below_drew1) | exact HB.out))) : w.heap.size ≤ gb124)); have n4_ := Aside0.mk ((by rw [hg]; exact (below_size (by repeat (first | (with_reducible first | exact HB.out | apply below_alloc | apply pw_below_drewN | apply below_drew1) | exact HB.out))) : w.heap.size ≤ gb124)); clear HO_6; clear HB; have HO_6 := n0_; have HB := n1_; have BK124 := n2_; have GW124 := n3_; have GE124 := n4_; clear n0_ n1_ n2_ n3_ n4_; clear hb hbox hg; have hcz13_0 : w12.cell? ⟨gb124, 0, none⟩ = some (.int .i64 0) := (blk_cell BK124.out 0).trans rfl; have hcz13_1 : w12.cell? ⟨gb124, 1, none⟩ = some (.int .i64 0) := (blk_cell BK124.out 1).trans rfl; have hcz13_2 : w12.cell? ⟨gb124, 2, none⟩ = some (.string (⟨#[]⟩ : ByteArray)) := (blk_cell BK124.out 2).trans rfl; have hcz13_3 : w12.cell? ⟨gb124, 3, none⟩ = some (.int .i32 0) := (blk_cell BK124.out 3).trans rfl; have hfz13_0 := blk_frozen BK124.out 0; have hfz13_1 := blk_frozen BK124.out 1; have hfz13_2 := blk_frozen BK124.out 2; have hfz13_3 := blk_frozen BK124.out 3) | ((with_reducible refine gate_builtin (b := .append) (xs := #[.tmp 33, .tmp 35]) rfl ?_); at_builtin; refine Kd.R_append k30 (w0 := w) w.heap.size rfl (.tmp 33) (.tmp 35) 23 30 (.agg #[(.int .i64 0), (.int .i64 0), (.string ⟨#[]⟩), (.int .i32 0)]) 40 rfl Tryd.underlying23 info30 rfl (by decide) (by omega) u6 x6_1 (⟨t119, t120, t121, t122⟩ : S30) [.int .i64 t119, .int .i64 t120, .string t121, .int .i32 t122] (fun k_ => k_ ≠ gb124) (fun _ => False) rfl (by first | (go_simp; done) | (go_simp; rfl)) ?aP (fun _ hk => hk.elim) ?aF ?aO ?aB ?aS ?aL ?_; (case aP => exact k30_mkM _ _ _ (⟨t119, t120, t121, t122⟩ : S30)); (case aB => exact (by repeat (first | (with_reducible first | exact HB.out | apply below_alloc | apply pw_below_drewN | apply below_drew1 | refine below_set ?_ GE124.out) | exact HB.out))); (case aF => exact (fun k_ hk => Kd.freshB (g := gb124) (o := .cells #[.int .i64 t119, .int .i64 t120, .string t121, .int .i32 t122] 30 (0, 0)) (by (with_reducible repeat (first | refine blk_drewN ?_ _ | refine blk_drew ?_ | refine blk_alloc ?_ _)); refine blk_put (cs := #[.int .i64 t119, .int .i64 t120, .string t121, .int .i32 0]) ?_ 3 _ rfl; (with_reducible repeat (first | refine blk_drewN ?_ _ | refine blk_drew ?_ | refine blk_alloc ?_ _)); refine blk_put (cs := #[.int .i64 t119, .int .i64 t120, .string (⟨#[]⟩ : ByteArray), .int .i32 0]) ?_ 2 _ rfl; (with_reducible repeat (first | refine blk_drewN ?_ _ | refine blk_drew ?_ | refine blk_alloc ?_ _)); refine blk_put (cs := #[.int .i64 t119, .int .i64 0, .string (⟨#[]⟩ : ByteArray), .int .i32 0]) ?_ 1 _ rfl; (with_reducible repeat (first | refine blk_drewN ?_ _ | refine blk_drew ?_ | refine blk_alloc ?_ _)); refine blk_put (cs := #[.int .i64 0, .int .i64 0, .string (⟨#[]⟩ : ByteArray), .int .i32 0]) ?_ 0 _ rfl; (with_reducible repeat (first | refine blk_drewN ?_ _ | refine blk_drew ?_ | refine blk_alloc ?_ _)); exact BK124.out) k_ hk)); (case aO => exact (by (with_reducible repeat (first | apply Kd.R_alloc | apply Kd.R_drewN | apply Kd.R_drew)); exact Kd.R_mono (Kd.R_far (p := ⟨gb124, 3, none⟩) (Kd.R_far (p := ⟨gb124, 2, none⟩) (Kd.R_far (p := ⟨gb124, 1, none⟩) (Kd.R_far (p := ⟨gb124, 0, none⟩) (Kd.R_mono HO_6.out (fun k_ hk => (⟨hk, hk.2⟩ : _ ∧ k_ ≠ gb124))) (fun _ hk => hk.2) (.int .i64 t119)) (fun _ hk => hk.2) (.int .i64 t120)) (fun _ hk => hk.2) (.string t121)) (fun _ hk => hk.2) (.int .i32 t122)) (fun _ hk => hk.1.2))); (case aS => exact (below_size (by repeat (first | (with_reducible first | exact HB.out | apply below_alloc | apply pw_below_drewN | apply below_drew1 | refine below_set ?_ GE124.out) | exact HB.out)))); (case aL => have := LMc9.out; omega); intro v126 w14 ho hb hg hat; rw [← Ny125.out] at ho; have n0_ := Aside0.mk (blk_grown (g := gb124) (o := .cells #[.int .i64 t119, .int .i64 t120, .string t121, .int .i32 t122] 30 (0, 0)) (by (with_reducible repeat (first | refine blk_drewN ?_ _ | refine blk_drew ?_ | refine blk_alloc ?_ _)); refine blk_put (cs := #[.int .i64 t119, .int .i64 t120, .string t121, .int .i32 0]) ?_ 3 _ rfl; (with_reducible repeat (first | refine blk_drewN ?_ _ | refine blk_drew ?_ | refine blk_alloc ?_ _)); refine blk_put (cs := #[.int .i64 t119, .int .i64 t120, .string (⟨#[]⟩ : ByteArray), .int .i32 0]) ?_ 2 _ rfl; (with_reducible repeat (first | refine blk_drewN ?_ _ | refine blk_drew ?_ | refine blk_alloc ?_ _)); refine blk_put (cs := #[.int .i64 t119, .int .i64 0, .string (⟨#[]⟩ : ByteArray), .int .i32 0]) ?_ 1 _ rfl; (with_reducible repeat (first | refine blk_drewN ?_ _ | refine blk_drew ?_ | refine blk_alloc ?_ _)); refine blk_put (cs := #[.int .i64 0, .int .i64 0, .string (⟨#[]⟩ : ByteArray), .int .i32 0]) ?_ 0 _ rfl; (with_reducible repeat (first | refine blk_drewN ?_ _ | refine blk_drew ?_ | refine blk_alloc ?_ _)); exact BK124.out) hg (Kd.R_away HO_6.out (fun _ hk => hk.2))); have n1_ := Aside0.mk (hb); have n2_ := Aside0.mk (ho); clear BK124; clear HB; clear HO_6; have BK124 := n0_; have HB := n1_; have HO127 := n2_; clear n0_ n1_ n2_; clear ho hb hg hat; have hcz15_0 : w14.cell? ⟨gb124, 0, none⟩ = some (.int .i64 t119) := (blk_cell BK124.out 0).trans rfl; have hcz15_1 : w14.cell? ⟨gb124, 1, none⟩ = some (.int .i64 t120) := (blk_cell BK124.out 1).trans rfl; have hcz15_2 : w14.cell? ⟨gb124, 2, none⟩ = some (.string t121) := (blk_cell BK124.out 2).trans rfl; have hcz15_3 : w14.cell? ⟨gb124, 3, none⟩ = some (.int .i32 t122) := (blk_cell BK124.out 3).trans rfl; have hfz15_0 := blk_frozen BK124.out 0; have hfz15_1 := blk_frozen BK124.out 1; have hfz15_2 := blk_frozen BK124.out 2; have hfz15_3 := blk_frozen BK124.out 3) | ((with_reducible refine gate_callee (f := 24) rfl ?_); refine goesL_ (some 22) rfl rfl Tryd.func24 (by kernel_rfl) rfl #[.string a0, .int .i64 (wrap64 (x7_1 + (t121.size : Int)))] rfl (by (try simp only [List.map_toArray, List.map_cons, List.map_nil]); first | done | rfl | (simp only [List.length_drop, List.length_take]; rfl)) ?_; (with_reducible refine (lex_skip.calls k1 a0 (wrap64 (x7_1 + (t121.size : Int))) t128 _ A10.out).mono ?_); rintro e w' ⟨rfl, ⟨nd, rfl⟩⟩; refine ⟨_, rfl, ?_⟩))
       go_roundg k1
       case measure => have := HK1.out; omega
       case rel => exact ⟨(y125), (t128), (by first | rfl | (simp; done) | (simp [*]; done)), H', ⟨by have := HK1.out; omega⟩, ⟨by (with_reducible repeat (first | apply Kd.R_alloc | apply Kd.R_drewN | apply Kd.R_drew)); exact Kd.R_mono HO127.out (fun _ hk => trivial)⟩, ⟨by repeat (first | (with_reducible first | exact HB.out | apply below_alloc | apply pw_below_drewN | apply below_drew1 | refine below_set ?_ GE124.out) | exact HB.out)⟩⟩
      ·rw [if_neg c9] at H; exact absurd H (by simp)
     ·replace c8 := Bool.eq_false_iff.mpr c8; subst c8; have H1 : (some (([] : List (S30)), x7_1, 2)) = some (r1, r2, r3) := by rw [if_neg (show ¬ (false = true) by decide)] at H; exact H
      clear H; have H := H1; clear H1; simp only [Option.some.injEq, Prod.mk.injEq] at H
      obtain ⟨rfl, rfl, rfl⟩ := H; go_wp2_with (first | ((with_reducible refine gate_callee (f := 25) rfl ?_); refine goesL_ (some 27) rfl rfl Tryd.func25 (by kernel_rfl) rfl #[.string a0, .int .i64 x7_1, .map (some mb)] rfl (by (try simp only [List.map_toArray, List.map_cons, List.map_nil]); first | done | rfl | (simp only [List.length_drop, List.length_take]; rfl)) ?_; (with_reducible refine (lex_next.calls k1 a0 x7_1 t117 t119 t120 t121 t122 false _ A7.out mb ?hkn ?htt).mono ?_); (case hkn => exact HKn.out.below (by repeat (first | (with_reducible first | exact HB.out | apply below_alloc | apply pw_below_drewN | apply below_drew1 | refine below_set ?_ (by assumption)) | exact HB.out))); (case htt => exact HT.out.below (by repeat (first | (with_reducible first | exact HB.out | apply below_alloc | apply pw_below_drewN | apply below_drew1 | refine below_set ?_ (by assumption)) | exact HB.out))); rintro e w16 ⟨rfl, hb⟩; refine ⟨_, rfl, ?_⟩; have n0_ := Aside0.mk (Kd.R_below (by (with_reducible repeat (first | apply Kd.R_alloc | apply Kd.R_drewN | apply Kd.R_drew)); exact HO_6.out) hb); have n1_ := Aside0.mk (below_step (by repeat (first | (with_reducible first | exact HB.out | apply below_alloc | apply pw_below_drewN | apply below_drew1) | exact HB.out)) hb); clear HO_6; clear HB; have HO_6 := n0_; have HB := n1_; clear n0_ n1_; (try clear hb); (try clear hb2); (try clear hk); (try clear hi)) | ((with_reducible refine gate_dst (N := 8) rfl ?_); refine box_event ?hg (N := 8) ?hd (cs := #[.int .i64 0, .int .i64 0, .string (⟨#[]⟩ : ByteArray), .int .i32 0]) (t := 30) ?hr ?_; (case hd => rfl); (case hg => rfl); (case hr => first | (go_simp; done) | (go_simp; rfl)); intro gb124 hg w17 hbox hb; have n0_ := Aside0.mk (Kd.R_below (Kd.R_elderB (by (with_reducible repeat (first | apply Kd.R_alloc | apply Kd.R_drewN | apply Kd.R_drew)); exact HO_6.out) gb124 (Nat.le_of_eq hg.symm)) hb); have n1_ := Aside0.mk (below_step (by repeat (first | (with_reducible first | exact HB.out | apply below_alloc | apply pw_below_drewN | apply below_drew1) | exact HB.out)) hb); have n2_ := Aside0.mk (hbox); have n3_ := Aside0.mk ((by rw [hg]; exact (below_size (by repeat (first | (with_reducible first | exact HB.out | apply below_alloc | apply pw_below_drewN | apply below_drew1) | exact HB.out))) : w.heap.size ≤ gb124)); have n4_ := Aside0.mk ((by rw [hg]; exact (below_size (by repeat (first | (with_reducible first | exact HB.out | apply below_alloc | apply pw_below_drewN | apply below_drew1) | exact HB.out))) : w.heap.size ≤ gb124)); clear HO_6; clear HB; have HO_6 := n0_; have HB := n1_; have BK124 := n2_; have GW124 := n3_; have GE124 := n4_; clear n0_ n1_ n2_ n3_ n4_; clear hb hbox hg; have hcz18_0 : w17.cell? ⟨gb124, 0, none⟩ = some (.int .i64 0) := (blk_cell BK124.out 0).trans rfl; have hcz18_1 : w17.cell? ⟨gb124, 1, none⟩ = some (.int .i64 0) := (blk_cell BK124.out 1).trans rfl; have hcz18_2 : w17.cell? ⟨gb124, 2, none⟩ = some (.string (⟨#[]⟩ : ByteArray)) := (blk_cell BK124.out 2).trans rfl; have hcz18_3 : w17.cell? ⟨gb124, 3, none⟩ = some (.int .i32 0) := (blk_cell BK124.out 3).trans rfl; have hfz18_0 := blk_frozen BK124.out 0; have hfz18_1 := blk_frozen BK124.out 1; have hfz18_2 := blk_frozen BK124.out 2; have hfz18_3 := blk_frozen BK124.out 3))
      go_ret3
      refine ⟨_, by first | rfl | (simp [errW_none, errW_some] <;> rfl) | (simp [*, errW_none, errW_some] <;> rfl), ?_⟩
      refine toks_post HBq.out ?_ ?_
      ·exact (by first | exact Kd.R_nil _ _ _ _ _ | exact Kd.N_nil _ _ _ _ _ | exact Kd.V_nil _ _ _ _ _ | exact Kd.Q_nil _ _ _ _ _ | exact Kd.S_nil _ _ _ _ _)
      ·exact (by repeat (first | (with_reducible first | exact HB.out | apply below_alloc | apply pw_below_drewN | apply below_drew1 | refine below_set ?_ GE124.out) | exact HB.out))
    ·rw [if_neg c6] at H; have c6b0 : decide (x7_1 < (a0.size : Int)) = false := decide_eq_false c6
     clear c6; simp only [Option.some.injEq, Prod.mk.injEq] at H
     obtain ⟨rfl, rfl, rfl⟩ := H; go_wp2
     go_ret3
     refine ⟨_, by first | rfl | (simp [errW_none, errW_some] <;> rfl) | (simp [*, errW_none, errW_some] <;> rfl), ?_⟩
     refine toks_post HBq.out ?_ ?_
     ·exact (by (with_reducible repeat (first | apply Kd.R_alloc | apply Kd.R_drewN | apply Kd.R_drew)); exact HO_6.out)
     ·exact (by repeat (first | (with_reducible first | exact HB.out | apply below_alloc | apply pw_below_drewN | apply below_drew1) | exact HB.out))
end Go.Proofs.YtplcemlennloaaaDoor.N
end
