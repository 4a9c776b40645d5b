/- Texts of this claim, cut down to what its theorem uses and laid end to end (wip/shake.py). -/
import Derived.ArgAppend
import Derived.Below
import Derived.BigQuiet
import Derived.ChangeOld
import Derived.ChangeVars
import Derived.Deep.AppendLies
import Derived.Deep.CutBlock
import Derived.Deep.DeepCutAuto
import Derived.Deep.Draws
import Derived.Deep.LoopGhost
import Derived.Deep.OwnRows
import Derived.Deep.QuietTactic
import Derived.Deep.RegionHeld3
import Derived.Deep.Slices
import Derived.KernelRfl
import Derived.LaidLaws
import Derived.LaidMore
import Derived.Laws.BitsLemmas
import Derived.Laws.BytesArg
import Derived.Laws.IdiomCopy
import Derived.Laws.MakeOwn
import Derived.Laws.OwnMore
import Derived.Laws.Rows
import Derived.Laws.Slices
import Derived.Laws.StructEq
import Derived.Lay
import Derived.Lib.AppendStr
import Derived.Lib.ConvBytes
import Derived.Lib.LaidTab
import Derived.Maps.AppendAt
import Derived.Maps.OwnOps
import Derived.Maps.OwnSet
import Derived.OpenShut
import Derived.OrdersHeld
import Derived.OwnWalk
import Derived.ProofKit
import Derived.RowKit
import Derived.RowKit3
import Derived.SevenTiedAt
import Derived.Shelf.Strings.BuilderK
import Derived.Shelf.Strings.Fields
import Derived.ShutString
import Derived.SizedLaws
import Derived.Stop.Joined
import Derived.StringKeys
import Derived.Tactics
import Derived.Test.YtplcemlennloaaaDoorCards
import Derived.Test.YtplcemlennloaaaDoorProg
import Derived.Test.YtplcemlennloaaaDoorRows
import Derived.Test.YtplcemlennloaaaDoorTie
import Derived.WalkKit
import Derived.WideLaws
import Derived.Test.YtplcemlennloaaaDoorKB0
section
namespace Go.Proofs.YtplcemlennloaaaDoor.N
open Go.RowKit Go.Proofs.YtplcemlennloaaaDoorW.PrintWords Go.Proofs.YtplcemlennloaaaDoorW.PrintLast Go.Proofs.YtplcemlennloaaaDoorW.PrintMore Go.Proofs.YtplcemlennloaaaDoor Go.Proofs.YtplcemlennloaaaDoor.A Go.Proofs.YtplcemlennloaaaDoor.B Go.Proofs.YtplcemlennloaaaDoor.S
set_option linter.unusedVariables false
set_option linter.unusedSimpArgs false
mutual
def lex_next.j1 : Nat → ByteArray → Int → Int → Option (Int × Int × ByteArray × Int × Bool)
 | 0, _, _, _ => none
 | k + 1, x0, x1, x8 => if 0 ≤ x1 then (if x1 ≤ x8 then (if x8 ≤ (x0.size : Int) then ((lex_isWord.f (x0.extract (x1 : Int).toNat (x8 : Int).toNat)).bind fun t108 => (if t108 = true then (some (2, x1, x0.extract (x1 : Int).toNat (x8 : Int).toNat, 0, true)) else (some (0, x1, x0.extract (x1 : Int).toNat (x8 : Int).toNat, 0, decide (((x0.extract (x1 : Int).toNat (x8 : Int).toNat).size : Int) ≤ 16))))) else (none)) else (none)) else (none)
def lex_next.l0 : Nat → ByteArray → Int → Int → Option (Int × Int × ByteArray × Int × Bool)
 | 0, _, _, _ => none
 | k + 1, x0, x1, x8 => if x8 < (x0.size : Int) then (if 0 ≤ x8 then ((lex_inner.f (bt x0 x8)).bind fun t107 => (if t107 = true then (lex_next.l0 k x0 x1 (wrap64 (x8 + 1))) else (lex_next.j1 k x0 x1 x8))) else (none)) else (lex_next.j1 k x0 x1 x8)
def lex_next.l1 : Nat → ByteArray → Int → Int → Option (Int × Int × ByteArray × Int × Bool)
 | 0, _, _, _ => none
 | k + 1, x0, x1, x8 => if x8 < (x0.size : Int) then (if 0 ≤ x8 then ((lex_digit.f (bt x0 x8)).bind fun t110 => (if t110 = true then (lex_next.l1 k x0 x1 (wrap64 (x8 + 1))) else (if 0 ≤ x1 then (if x1 ≤ x8 then (if x8 ≤ (x0.size : Int) then ((lex_integer.f k (x0.extract (x1 : Int).toNat (x8 : Int).toNat)).bind fun bt111 => (if bt111.2 = true then (if x8 = (x0.size : Int) then (some (1, x1, x0.extract (x1 : Int).toNat (x8 : Int).toNat, bt111.1, true)) else ((lex_inner.f (bt x0 x8)).bind fun t113 => (some (1, x1, x0.extract (x1 : Int).toNat (x8 : Int).toNat, bt111.1, !t113)))) else (some (1, x1, x0.extract (x1 : Int).toNat (x8 : Int).toNat, bt111.1, false)))) else (none)) else (none)) else (none)))) else (none)) else (if 0 ≤ x1 then (if x1 ≤ x8 then (if x8 ≤ (x0.size : Int) then ((lex_integer.f k (x0.extract (x1 : Int).toNat (x8 : Int).toNat)).bind fun bt114 => (if bt114.2 = true then (if x8 = (x0.size : Int) then (some (1, x1, x0.extract (x1 : Int).toNat (x8 : Int).toNat, bt114.1, true)) else (if 0 ≤ x8 then (none) else (none))) else (some (1, x1, x0.extract (x1 : Int).toNat (x8 : Int).toNat, bt114.1, false)))) else (none)) else (none)) else (none))
end
def lex_next.f (k : Nat) (a0 : ByteArray) (a1 : Int) (a2 : Int) : Option (Int × Int × ByteArray × Int × Bool) := if 0 ≤ a1 then (if a1 < (a0.size : Int) then ((lex_letter.f (bt a0 a1)).bind fun t106 => (if t106 = true then (lex_next.l0 k a0 a1 a1) else ((lex_digit.f (bt a0 a1)).bind fun t109 => (if t109 = true then (lex_next.l1 k a0 a1 a1) else ((lex_sign.f k a0 a1).bind fun t116 => (some (2, a1, t116, 0, (t116.toList != ([] : List UInt8))))))))) else (none)) else (none)
theorem lex_next.mono_l : ∀ k, (∀ y0 y1 y2, LeO (lex_next.j1 k y0 y1 y2) (lex_next.j1 (k + 1) y0 y1 y2)) ∧ (∀ y0 y1 y2, LeO (lex_next.l0 k y0 y1 y2) (lex_next.l0 (k + 1) y0 y1 y2)) ∧ (∀ y0 y1 y2, LeO (lex_next.l1 k y0 y1 y2) (lex_next.l1 (k + 1) y0 y1 y2))
 | 0 => ⟨fun _ _ _ r h => by simp [lex_next.j1] at h, fun _ _ _ r h => by simp [lex_next.l0] at h, fun _ _ _ r h => by simp [lex_next.l1] at h⟩
 | k + 1 => by
  obtain ⟨ih0, ih1, ih2⟩ := lex_next.mono_l k; refine ⟨?_, ?_, ?_⟩
  ·intro y0 y1 y2
   unfold lex_next.j1
   repeat' first
   | (with_reducible exact ih0 _ _ _)
   | (with_reducible exact ih1 _ _ _)
   | (with_reducible exact ih2 _ _ _)
   | (with_reducible exact lex_integer.mono _ _)
   | (with_reducible exact lex_sign.mono _ _ _)
   | (with_reducible exact LeO.refl _)
   | (with_reducible exact LeO.none _)
   | (with_reducible refine LeO.ite ?_ ?_)
   | (with_reducible refine LeO.bind ?_ (fun _ => ?_))
  ·intro y0 y1 y2
   unfold lex_next.l0
   repeat' first
   | (with_reducible exact ih0 _ _ _)
   | (with_reducible exact ih1 _ _ _)
   | (with_reducible exact ih2 _ _ _)
   | (with_reducible exact lex_integer.mono _ _)
   | (with_reducible exact lex_sign.mono _ _ _)
   | (with_reducible exact LeO.refl _)
   | (with_reducible exact LeO.none _)
   | (with_reducible refine LeO.ite ?_ ?_)
   | (with_reducible refine LeO.bind ?_ (fun _ => ?_))
  ·intro y0 y1 y2
   unfold lex_next.l1
   repeat' first
   | (with_reducible exact ih0 _ _ _)
   | (with_reducible exact ih1 _ _ _)
   | (with_reducible exact ih2 _ _ _)
   | (with_reducible exact lex_integer.mono _ _)
   | (with_reducible exact lex_sign.mono _ _ _)
   | (with_reducible exact LeO.refl _)
   | (with_reducible exact LeO.none _)
   | (with_reducible refine LeO.ite ?_ ?_)
   | (with_reducible refine LeO.bind ?_ (fun _ => ?_))
theorem lex_next.mono : ∀ a0 a1 a2 k, LeO (lex_next.f k a0 a1 a2) (lex_next.f (k + 1) a0 a1 a2) := by
 intro a0 a1 a2 k
 obtain ⟨ih0, ih1, ih2⟩ := lex_next.mono_l k; unfold lex_next.f
 repeat' first
   | (with_reducible exact ih0 _ _ _)
   | (with_reducible exact ih1 _ _ _)
   | (with_reducible exact ih2 _ _ _)
   | (with_reducible exact lex_integer.mono _ _)
   | (with_reducible exact lex_sign.mono _ _ _)
   | (with_reducible exact LeO.refl _)
   | (with_reducible exact LeO.none _)
   | (with_reducible refine LeO.ite ?_ ?_)
   | (with_reducible refine LeO.bind ?_ (fun _ => ?_))
def lex_next.T14 : Bool × List (List Nat × List Nat) := (true, [([], []), ([], []), ([], []), ([], []), ([1, 2, 3], [1, 2, 3]), ([], []), ([0, 4, 5], [0, 4, 5]), ([], []), ([7], [7]), ([8], [8]), ([8], [8]), ([10, 8], [8, 10]), ([9, 11, 8], [8, 9, 11]), ([12, 8, 8], [8, 12]), ([13], [13]), ([13], [13]), ([14, 15, 13], [13, 14, 15]), ([16, 13, 13], [13, 16]), ([17, 13], [13, 17]), ([13, 18, 8], [8, 13, 18]), ([8, 19], [8, 19]), ([6, 17, 0, 1, 2, 3, 4, 5, 6], [6]), ([20, 21, 0, 1, 2, 3, 4, 5, 6, 7, 8, 9, 10, 11, 12, 13, 14, 15, 16, 17, 18, 19, 20, 21], [20])])
def lex_next.B14 : List Nat := [0, 0, 0, 0, 14, 0, 63, 0, 128, 384, 384, 1408, 3968, 8064, 16256, 16256, 65408, 130944, 262016, 524160, 1048448, 262143, 4194303]
theorem lex_next.tab14 : rtab .any (opsOf Tryd.f25 14) = lex_next.T14 := by kernel_rfl
theorem lex_next.bits14 : waitsOk lex_next.T14.2 lex_next.B14 = true := by kernel_rfl
set_option maxHeartbeats 8000000 in
set_option maxRecDepth 100000 in
theorem lex_next.calls (k : Nat) (a0 : ByteArray) (a1 : Int) (a2 : Int) (r1 : Int) (r2 : Int) (r3 : ByteArray) (r4 : Int) (r5 : Bool) (w : World) (h : lex_next.f k a0 a1 a2 = some (r1, r2, r3, r4, r5)) (mb : Nat) (hKn : Known w mb) (hT : Tab w) :
  Calls Tryd.prog 25 #[.string a0, .int .i64 a1, .map (some mb)] w fun e w' => e = .returned (.tuple #[.agg #[.int .i64 r1, .int .i64 r2, .string r3, .int .i32 r4], .bool r5]) ∧ Below w.heap.size w w' := by
 have HT := Aside0.mk hT; have HKn := Aside0.mk hKn; clear hT hKn; have hu30 := Tryd.underlying30; have HB := Aside0.mk (Below.refl w.heap.size w); have H : (if 0 ≤ a1 then (if a1 < (a0.size : Int) then ((lex_letter.f (bt a0 a1)).bind fun t106 => (if t106 = true then (lex_next.l0 k a0 a1 a1) else ((lex_digit.f (bt a0 a1)).bind fun t109 => (if t109 = true then (lex_next.l1 k a0 a1 a1) else ((lex_sign.f k a0 a1).bind fun t116 => (some (2, a1, t116, 0, (t116.toList != ([] : List UInt8))))))))) else (none)) else (none)) = some (r1, r2, r3, r4, r5) := h
 clear h; by_cases c4 : 0 ≤ a1
 ·rw [if_pos c4] at H; have c4b0 : decide (0 ≤ a1) = true := decide_eq_true c4
  clear c4; by_cases c5 : a1 < (a0.size : Int)
  ·rw [if_pos c5] at H; have c5b0 : decide (a1 < (a0.size : Int)) = true := decide_eq_true c5
   clear c5; replace H := Option.bind_eq_some_iff.mp H; obtain ⟨t106, A70, H⟩ := H; replace H : (if t106 = true then (lex_next.l0 k a0 a1 a1) else ((lex_digit.f (bt a0 a1)).bind fun t109 => (if t109 = true then (lex_next.l1 k a0 a1 a1) else ((lex_sign.f k a0 a1).bind fun t116 => (some (2, a1, t116, 0, (t116.toList != ([] : List UInt8)))))))) = some (r1, r2, r3, r4, r5) := H
   have A7 := Aside0.mk A70; clear A70; by_cases c8 : t106 = true
   ·subst c8; have H1 : (lex_next.l0 k a0 a1 a1) = some (r1, r2, r3, r4, r5) := by rw [if_pos rfl] at H; exact H
    clear H; have H := H1; clear H1; have HC9 := Aside0.mk H; clear H; go_enter Tryd.func25, Tryd.ntmps25
    go_upto_block 1 with (first | ((with_reducible refine gate_dst (N := 6) rfl ?_); (try (refine gate_guard (by rfl) ?_; dsimp only)); refine box_event ?hg (N := 6) ?hd (cs := #[.int .i64 0, .int .i64 0, .string (⟨#[]⟩ : ByteArray), .int .i32 0]) (t := 30) ?hr ?_; (case hd => rfl); (case hg => rfl); (case hr => first | (go_simp; done) | (go_simp; rfl)); intro gb105 hg w10 hbox hb; have n0_ := Aside0.mk (below_step (by repeat (first | (with_reducible first | exact HB.out | apply below_alloc | apply pw_below_drewN | apply below_drew1) | exact HB.out)) hb); have n1_ := Aside0.mk (hbox); have n2_ := Aside0.mk ((by rw [hg]; exact (below_size (by repeat (first | (with_reducible first | exact HB.out | apply below_alloc | apply pw_below_drewN | apply below_drew1) | exact HB.out))) : w.heap.size ≤ gb105)); have n3_ := Aside0.mk ((by rw [hg]; exact (below_size (by repeat (first | (with_reducible first | exact HB.out | apply below_alloc | apply pw_below_drewN | apply below_drew1) | exact HB.out))) : w.heap.size ≤ gb105)); clear HB; have HB := n0_; have BK105 := n1_; have GW105 := n2_; have GE105 := n3_; clear n0_ n1_ n2_ n3_; clear hb hbox hg; have p6 : 0 ≤ (a1 : Int) := of_decide_eq_true (by with_reducible assumption); have q6 : a1 < (a0.size : Int) := of_decide_eq_true (by with_reducible assumption); have hx6 := bt_at a0 a1; replace p6 := eq_true p6; replace q6 := eq_true q6) | ((with_reducible refine gate_callee (f := 28) rfl ?_); refine goesL_ (some 20) rfl rfl Tryd.func28 (by kernel_rfl) rfl #[.int .u8 (bt a0 a1)] rfl (by (try simp only [List.map_toArray, List.map_cons, List.map_nil]); first | done | rfl | (simp only [List.length_drop, List.length_take]; rfl)) ?_; (with_reducible refine (lex_letter.calls (bt a0 a1) true _ A7.out).mono ?_); rintro e w' ⟨rfl, ⟨nd, rfl⟩⟩; refine ⟨_, rfl, ?_⟩))
    (try simp only [Act.put, List.setIfInBounds_toArray, List.set_cons_zero, List.set_cons_succ])
    go_cut [8] (fun v8 wc => ∃ (kq : Nat) (x8_8 : Int), v8 = .int .i64 x8_8 ∧ Aside0 (lex_next.j1 kq a0 a1 x8_8 = some (r1, r2, r3, r4, r5)) ∧ Aside0 (kq ≤ k) ∧ Aside0 (wc.heap[gb105]? = some (.cells #[.int .i64 0, .int .i64 0, .string (⟨#[]⟩ : ByteArray), .int .i32 0] 30 (0, 0))) ∧ Aside0 (Below w.heap.size w wc))
    case first =>
     have H := HC9.out; clear HC9; have H' := Aside0.mk H
     clear H; go_wp2
     go_loopg [8] k (fun kq v8 w' => ∃ (x8_1 : Int), v8 = .int .i64 x8_1 ∧ Aside0 (lex_next.l0 kq a0 a1 x8_1 = some (r1, r2, r3, r4, r5)) ∧ Aside0 (kq ≤ k) ∧ Aside0 (w'.heap[gb105]? = some (.cells #[.int .i64 0, .int .i64 0, .string (⟨#[]⟩ : ByteArray), .int .i32 0] 30 (0, 0))) ∧ Aside0 (Below w.heap.size w w'))
     case atStart => exact ⟨(a1), (by first | rfl | (simp; done) | (simp [*]; done)), H', ⟨Nat.le_refl _⟩, ⟨by (with_reducible repeat (first | refine blk_drewN ?_ _ | refine blk_drew ?_ | refine blk_alloc ?_ _)); exact BK105.out⟩, ⟨by repeat (first | (with_reducible first | exact HB.out | apply below_alloc | apply pw_below_drewN | apply below_drew1 | refine below_set ?_ GE105.out) | exact HB.out)⟩⟩
     case round =>
      clear H'; try clear c2
      try clear p2
      try clear c4
      try clear c4b0
      try clear c5
      try clear c5b0
      try clear p6
      try clear q6
      try clear hx6
      try clear c8
      try clear p6
      try clear q6
      obtain ⟨x8_1, rfl, HA, HK1, BK105, HB⟩ := hrel; cases gk with
      | zero => exact absurd HA.out (by simp [lex_next.l0])
      | succ k1 =>
       have H := HA.out; clear HA; simp only [lex_next.l0] at H
       by_cases c11 : x8_1 < (a0.size : Int)
       ·rw [if_pos c11] at H; have c11b0 : decide (x8_1 < (a0.size : Int)) = true := decide_eq_true c11
        clear c11; (first | rw [c11b0] | (simp only [i64_w, i32_w]; rw [c11b0]) | skip)
        by_cases c12 : 0 ≤ x8_1
        ·rw [if_pos c12] at H; have c12b0 : decide (0 ≤ x8_1) = true := decide_eq_true c12
         clear c12; replace H := Option.bind_eq_some_iff.mp H; obtain ⟨t107, A140, H⟩ := H; replace H : (if t107 = true then (lex_next.l0 k1 a0 a1 (wrap64 (x8_1 + 1))) else (lex_next.j1 k1 a0 a1 x8_1)) = some (r1, r2, r3, r4, r5) := H
         have A14 := Aside0.mk A140; clear A140; by_cases c15 : t107 = true
         ·subst c15; have H1 : (lex_next.l0 k1 a0 a1 (wrap64 (x8_1 + 1))) = some (r1, r2, r3, r4, r5) := by rw [if_pos rfl] at H; exact H
          clear H; have H := H1; clear H1; have H' := Aside0.mk H
          clear H; have p13 : 0 ≤ (x8_1 : Int) := of_decide_eq_true (by with_reducible assumption)
          have q13 : x8_1 < (a0.size : Int) := of_decide_eq_true (by with_reducible assumption)
          have hx13 := bt_at a0 x8_1; replace p13 := eq_true p13; replace q13 := eq_true q13; go_wp2_with (first | (go_at_call 29; (with_reducible refine (lex_inner.calls (bt a0 x8_1) true _ A14.out).mono ?_); rintro e w' ⟨rfl, ⟨nd, rfl⟩⟩))
          go_roundg k1
          case measure => have := HK1.out; omega
          case rel => exact ⟨(wrap64 (x8_1 + 1)), (by first | rfl | (simp; done) | (simp [*]; done)), H', ⟨by have := HK1.out; omega⟩, ⟨by (with_reducible repeat (first | refine blk_drewN ?_ _ | refine blk_drew ?_ | refine blk_alloc ?_ _)); exact BK105.out⟩, ⟨by repeat (first | (with_reducible first | exact HB.out | apply below_alloc | apply pw_below_drewN | apply below_drew1 | refine below_set ?_ GE105.out) | exact HB.out)⟩⟩
         ·replace c15 := Bool.eq_false_iff.mpr c15; subst c15; have H1 : (lex_next.j1 k1 a0 a1 x8_1) = some (r1, r2, r3, r4, r5) := by rw [if_neg (show ¬ (false = true) by decide)] at H; exact H
          clear H; have H := H1; clear H1; have H' := Aside0.mk H
          clear H; have p13 : 0 ≤ (x8_1 : Int) := of_decide_eq_true (by with_reducible assumption)
          have q13 : x8_1 < (a0.size : Int) := of_decide_eq_true (by with_reducible assumption)
          have hx13 := bt_at a0 x8_1; replace p13 := eq_true p13; replace q13 := eq_true q13; go_wp2_with (first | (go_at_call 29; (with_reducible refine (lex_inner.calls (bt a0 x8_1) false _ A14.out).mono ?_); rintro e w' ⟨rfl, ⟨nd, rfl⟩⟩))
          go_meet
          case rel => exact ⟨_, (x8_1), (by first | rfl | (simp; done) | (simp [*]; done)), H', ⟨by have := HK1.out; first | omega | exact Nat.le_refl _⟩, ⟨by (with_reducible repeat (first | refine blk_drewN ?_ _ | refine blk_drew ?_ | refine blk_alloc ?_ _)); exact BK105.out⟩, ⟨by repeat (first | (with_reducible first | exact HB.out | apply below_alloc | apply pw_below_drewN | apply below_drew1 | refine below_set ?_ GE105.out) | exact HB.out)⟩⟩
        ·rw [if_neg c12] at H; exact absurd H (by simp)
       ·rw [if_neg c11] at H; have c11b0 : decide (x8_1 < (a0.size : Int)) = false := decide_eq_false c11
        clear c11; (first | rw [c11b0] | (simp only [i64_w, i32_w]; rw [c11b0]) | skip)
        have H' := Aside0.mk H
        clear H; go_wp2
        go_meet
        case rel => exact ⟨_, (x8_1), (by first | rfl | (simp; done) | (simp [*]; done)), H', ⟨by have := HK1.out; first | omega | exact Nat.le_refl _⟩, ⟨by (with_reducible repeat (first | refine blk_drewN ?_ _ | refine blk_drew ?_ | refine blk_alloc ?_ _)); exact BK105.out⟩, ⟨by repeat (first | (with_reducible first | exact HB.out | apply below_alloc | apply pw_below_drewN | apply below_drew1 | refine below_set ?_ GE105.out) | exact HB.out)⟩⟩
    case rest =>
     clear HC9; try clear c1
     try clear p1
     try clear q1
     try clear hx1
     try clear c2
     try clear p2
     try clear c4
     try clear c4b0
     try clear c5
     try clear c5b0
     try clear p6
     try clear q6
     try clear hx6
     try clear c8
     try clear c11
     try clear c11b0
     try clear c12
     try clear c12b0
     try clear p13
     try clear q13
     try clear hx13
     try clear c15
     try clear p13
     try clear p2
     try clear p6
     try clear q13
     try clear q6
     obtain ⟨kq, x8_8, rfl, HA, HJ8, BK105, HB⟩ := hcut; cases kq with
     | zero => exact absurd HA.out (by simp [lex_next.j1])
     | succ kj8 =>
      have H := HA.out; clear HA; simp only [lex_next.j1] at H
      by_cases c16 : 0 ≤ a1
      ·rw [if_pos c16] at H; have c16b0 := eq_true c16; have c16b1 : decide (0 ≤ a1) = true := decide_eq_true c16
       clear c16; by_cases c17 : a1 ≤ x8_8
       ·rw [if_pos c17] at H; have c17b0 := eq_true c17; have c17b1 : decide (a1 ≤ x8_8) = true := decide_eq_true c17
        clear c17; by_cases c18 : x8_8 ≤ (a0.size : Int)
        ·rw [if_pos c18] at H; have c18b0 := eq_true c18; have c18b1 : decide (x8_8 ≤ (a0.size : Int)) = true := decide_eq_true c18
         clear c18; replace H := Option.bind_eq_some_iff.mp H; obtain ⟨t108, A190, H⟩ := H; replace H : (if t108 = true then (some (2, a1, a0.extract (a1 : Int).toNat (x8_8 : Int).toNat, 0, true)) else (some (0, a1, a0.extract (a1 : Int).toNat (x8_8 : Int).toNat, 0, decide (((a0.extract (a1 : Int).toNat (x8_8 : Int).toNat).size : Int) ≤ 16)))) = some (r1, r2, r3, r4, r5) := H
         have A19 := Aside0.mk A190; clear A190; by_cases c20 : t108 = true
         ·subst c20; have H1 : (some (2, a1, a0.extract (a1 : Int).toNat (x8_8 : Int).toNat, 0, true)) = some (r1, r2, r3, r4, r5) := by rw [if_pos rfl] at H; exact H
          clear H; have H := H1; clear H1; simp only [Option.some.injEq, Prod.mk.injEq] at H
          obtain ⟨rfl, rfl, rfl, rfl, rfl⟩ := H; go_wp2_with (first | (at_lookup; refine known_look rfl _ _ rfl _ rfl (HKn.out.below (by repeat (first | (with_reducible first | exact HB.out | apply below_alloc | apply pw_below_drewN | apply below_drew1 | refine below_set ?_ (by assumption)) | exact HB.out))) _ rfl _ A19.out ?_; have hcz21_0 : wc.cell? ⟨gb105, 0, none⟩ = some (.int .i64 0) := (blk_cell BK105.out 0).trans rfl; have hcz21_1 : wc.cell? ⟨gb105, 1, none⟩ = some (.int .i64 0) := (blk_cell BK105.out 1).trans rfl; have hcz21_2 : wc.cell? ⟨gb105, 2, none⟩ = some (.string (⟨#[]⟩ : ByteArray)) := (blk_cell BK105.out 2).trans rfl; have hcz21_3 : wc.cell? ⟨gb105, 3, none⟩ = some (.int .i32 0) := (blk_cell BK105.out 3).trans rfl; have hfz21_0 := blk_frozen BK105.out 0; have hfz21_1 := blk_frozen BK105.out 1; have hfz21_2 := blk_frozen BK105.out 2; have hfz21_3 := blk_frozen BK105.out 3))
          refine bodyPost_ret (results_ct rfl _ _ gb105 30 #[.int .i64 2, .int .i64 a1, .string (a0.extract (a1 : Int).toNat (x8_8 : Int).toNat), .int .i32 0] (0, 0) _ rfl (by (with_reducible repeat (first | refine blk_drewN ?_ _ | refine blk_drew ?_ | refine blk_alloc ?_ _)); refine blk_put (cs := #[.int .i64 2, .int .i64 a1, .string (a0.extract (a1 : Int).toNat (x8_8 : Int).toNat), .int .i32 0]) ?_ 3 _ rfl; (with_reducible repeat (first | refine blk_drewN ?_ _ | refine blk_drew ?_ | refine blk_alloc ?_ _)); refine blk_put (cs := #[.int .i64 2, .int .i64 a1, .string (⟨#[]⟩ : ByteArray), .int .i32 0]) ?_ 2 _ rfl; (with_reducible repeat (first | refine blk_drewN ?_ _ | refine blk_drew ?_ | refine blk_alloc ?_ _)); refine blk_put (cs := #[.int .i64 2, .int .i64 0, .string (⟨#[]⟩ : ByteArray), .int .i32 0]) ?_ 1 _ rfl; (with_reducible repeat (first | refine blk_drewN ?_ _ | refine blk_drew ?_ | refine blk_alloc ?_ _)); refine blk_put (cs := #[.int .i64 0, .int .i64 0, .string (⟨#[]⟩ : ByteArray), .int .i32 0]) ?_ 0 _ rfl; (with_reducible repeat (first | refine blk_drewN ?_ _ | refine blk_drew ?_ | refine blk_alloc ?_ _)); exact BK105.out) Tryd.underlying30 rfl (by kernel_rfl)) rfl ?_
          exact ⟨by first | rfl | (simp [errW_none, errW_some] <;> rfl) | (simp [*, errW_none, errW_some] <;> rfl), by repeat (first | (with_reducible first | exact HB.out | apply below_alloc | apply pw_below_drewN | apply below_drew1 | refine below_set ?_ GE105.out) | exact HB.out)⟩
         ·replace c20 := Bool.eq_false_iff.mpr c20; subst c20; have H1 : (some (0, a1, a0.extract (a1 : Int).toNat (x8_8 : Int).toNat, 0, decide (((a0.extract (a1 : Int).toNat (x8_8 : Int).toNat).size : Int) ≤ 16))) = some (r1, r2, r3, r4, r5) := by rw [if_neg (show ¬ (false = true) by decide)] at H; exact H
          clear H; have H := H1; clear H1; simp only [Option.some.injEq, Prod.mk.injEq] at H
          obtain ⟨rfl, rfl, rfl, rfl, rfl⟩ := H; go_wp2_with (first | (at_lookup; refine known_look rfl _ _ rfl _ rfl (HKn.out.below (by repeat (first | (with_reducible first | exact HB.out | apply below_alloc | apply pw_below_drewN | apply below_drew1 | refine below_set ?_ (by assumption)) | exact HB.out))) _ rfl _ A19.out ?_; have hcz22_0 : wc.cell? ⟨gb105, 0, none⟩ = some (.int .i64 0) := (blk_cell BK105.out 0).trans rfl; have hcz22_1 : wc.cell? ⟨gb105, 1, none⟩ = some (.int .i64 0) := (blk_cell BK105.out 1).trans rfl; have hcz22_2 : wc.cell? ⟨gb105, 2, none⟩ = some (.string (⟨#[]⟩ : ByteArray)) := (blk_cell BK105.out 2).trans rfl; have hcz22_3 : wc.cell? ⟨gb105, 3, none⟩ = some (.int .i32 0) := (blk_cell BK105.out 3).trans rfl; have hfz22_0 := blk_frozen BK105.out 0; have hfz22_1 := blk_frozen BK105.out 1; have hfz22_2 := blk_frozen BK105.out 2; have hfz22_3 := blk_frozen BK105.out 3))
          refine bodyPost_ret (results_ct rfl _ _ gb105 30 #[.int .i64 0, .int .i64 a1, .string (a0.extract (a1 : Int).toNat (x8_8 : Int).toNat), .int .i32 0] (0, 0) _ rfl (by (with_reducible repeat (first | refine blk_drewN ?_ _ | refine blk_drew ?_ | refine blk_alloc ?_ _)); refine blk_put (cs := #[.int .i64 0, .int .i64 a1, .string (a0.extract (a1 : Int).toNat (x8_8 : Int).toNat), .int .i32 0]) ?_ 3 _ rfl; (with_reducible repeat (first | refine blk_drewN ?_ _ | refine blk_drew ?_ | refine blk_alloc ?_ _)); refine blk_put (cs := #[.int .i64 0, .int .i64 a1, .string (⟨#[]⟩ : ByteArray), .int .i32 0]) ?_ 2 _ rfl; (with_reducible repeat (first | refine blk_drewN ?_ _ | refine blk_drew ?_ | refine blk_alloc ?_ _)); refine blk_put (cs := #[.int .i64 0, .int .i64 0, .string (⟨#[]⟩ : ByteArray), .int .i32 0]) ?_ 1 _ rfl; (with_reducible repeat (first | refine blk_drewN ?_ _ | refine blk_drew ?_ | refine blk_alloc ?_ _)); refine blk_put (cs := #[.int .i64 0, .int .i64 0, .string (⟨#[]⟩ : ByteArray), .int .i32 0]) ?_ 0 _ rfl; (with_reducible repeat (first | refine blk_drewN ?_ _ | refine blk_drew ?_ | refine blk_alloc ?_ _)); exact BK105.out) Tryd.underlying30 rfl (by kernel_rfl)) rfl ?_
          exact ⟨by first | rfl | (simp [errW_none, errW_some] <;> rfl) | (simp [*, errW_none, errW_some] <;> rfl), by repeat (first | (with_reducible first | exact HB.out | apply below_alloc | apply pw_below_drewN | apply below_drew1 | refine below_set ?_ GE105.out) | exact HB.out)⟩
        ·rw [if_neg c18] at H; exact absurd H (by simp)
       ·rw [if_neg c17] at H; exact absurd H (by simp)
      ·rw [if_neg c16] at H; exact absurd H (by simp)
   ·replace c8 := Bool.eq_false_iff.mpr c8; subst c8; have H1 : ((lex_digit.f (bt a0 a1)).bind fun t109 => (if t109 = true then (lex_next.l1 k a0 a1 a1) else ((lex_sign.f k a0 a1).bind fun t116 => (some (2, a1, t116, 0, (t116.toList != ([] : List UInt8))))))) = some (r1, r2, r3, r4, r5) := by rw [if_neg (show ¬ (false = true) by decide)] at H; exact H
    clear H; have H := H1; clear H1; replace H := Option.bind_eq_some_iff.mp H; obtain ⟨t109, A230, H⟩ := H; replace H : (if t109 = true then (lex_next.l1 k a0 a1 a1) else ((lex_sign.f k a0 a1).bind fun t116 => (some (2, a1, t116, 0, (t116.toList != ([] : List UInt8)))))) = some (r1, r2, r3, r4, r5) := H
    have A23 := Aside0.mk A230; clear A230; by_cases c24 : t109 = true
    ·subst c24; have H1 : (lex_next.l1 k a0 a1 a1) = some (r1, r2, r3, r4, r5) := by rw [if_pos rfl] at H; exact H
     clear H; have H := H1; clear H1; have H' := Aside0.mk H
     clear H; go_enter Tryd.func25, Tryd.ntmps25
     go_wp2_with (first | ((with_reducible refine gate_dst (N := 6) rfl ?_); (try (refine gate_guard (by rfl) ?_; dsimp only)); refine box_event ?hg (N := 6) ?hd (cs := #[.int .i64 0, .int .i64 0, .string (⟨#[]⟩ : ByteArray), .int .i32 0]) (t := 30) ?hr ?_; (case hd => rfl); (case hg => rfl); (case hr => first | (go_simp; done) | (go_simp; rfl)); intro gb105 hg w25 hbox hb; have n0_ := Aside0.mk (below_step (by repeat (first | (with_reducible first | exact HB.out | apply below_alloc | apply pw_below_drewN | apply below_drew1) | exact HB.out)) hb); have n1_ := Aside0.mk (hbox); have n2_ := Aside0.mk ((by rw [hg]; exact (below_size (by repeat (first | (with_reducible first | exact HB.out | apply below_alloc | apply pw_below_drewN | apply below_drew1) | exact HB.out))) : w.heap.size ≤ gb105)); have n3_ := Aside0.mk ((by rw [hg]; exact (below_size (by repeat (first | (with_reducible first | exact HB.out | apply below_alloc | apply pw_below_drewN | apply below_drew1) | exact HB.out))) : w.heap.size ≤ gb105)); clear HB; have HB := n0_; have BK105 := n1_; have GW105 := n2_; have GE105 := n3_; clear n0_ n1_ n2_ n3_; clear hb hbox hg; have p6 : 0 ≤ (a1 : Int) := of_decide_eq_true (by with_reducible assumption); have q6 : a1 < (a0.size : Int) := of_decide_eq_true (by with_reducible assumption); have hx6 := bt_at a0 a1; replace p6 := eq_true p6; replace q6 := eq_true q6) | ((with_reducible refine gate_callee (f := 28) rfl ?_); refine goesL_ (some 20) rfl rfl Tryd.func28 (by kernel_rfl) rfl #[.int .u8 (bt a0 a1)] rfl (by (try simp only [List.map_toArray, List.map_cons, List.map_nil]); first | done | rfl | (simp only [List.length_drop, List.length_take]; rfl)) ?_; (with_reducible refine (lex_letter.calls (bt a0 a1) false _ A7.out).mono ?_); rintro e w' ⟨rfl, ⟨nd, rfl⟩⟩; refine ⟨_, rfl, ?_⟩) | ((with_reducible refine gate_callee (f := 38) rfl ?_); refine goesL_ (some 51) rfl rfl Tryd.func38 (by kernel_rfl) rfl #[.int .u8 (bt a0 a1)] rfl (by (try simp only [List.map_toArray, List.map_cons, List.map_nil]); first | done | rfl | (simp only [List.length_drop, List.length_take]; rfl)) ?_; (with_reducible refine (lex_digit.calls (bt a0 a1) true _ A23.out).mono ?_); rintro e w' ⟨rfl, ⟨nd, rfl⟩⟩; refine ⟨_, rfl, ?_⟩))
     go_loopg [8] k (fun kq v8 w' => ∃ (x8_1 : Int), v8 = .int .i64 x8_1 ∧ Aside0 (lex_next.l1 kq a0 a1 x8_1 = some (r1, r2, r3, r4, r5)) ∧ Aside0 (kq ≤ k) ∧ Aside0 (w'.heap[gb105]? = some (.cells #[.int .i64 0, .int .i64 0, .string (⟨#[]⟩ : ByteArray), .int .i32 0] 30 (0, 0))) ∧ Aside0 (Below w.heap.size w w'))
     case atStart => exact ⟨(a1), (by first | rfl | (simp; done) | (simp [*]; done)), H', ⟨Nat.le_refl _⟩, ⟨by (with_reducible repeat (first | refine blk_drewN ?_ _ | refine blk_drew ?_ | refine blk_alloc ?_ _)); exact BK105.out⟩, ⟨by repeat (first | (with_reducible first | exact HB.out | apply below_alloc | apply pw_below_drewN | apply below_drew1 | refine below_set ?_ GE105.out) | exact HB.out)⟩⟩
     case round =>
      clear H'; try clear c1
      try clear p1
      try clear q1
      try clear hx1
      try clear c2
      try clear p2
      try clear c3
      try clear c4
      try clear c4b0
      try clear c5
      try clear c5b0
      try clear p6
      try clear q6
      try clear hx6
      try clear c7
      try clear c8
      try clear c11
      try clear c11b0
      try clear c12
      try clear c12b0
      try clear p13
      try clear q13
      try clear hx13
      try clear c15
      try clear c16
      try clear c16b0
      try clear c16b1
      try clear c17
      try clear c17b0
      try clear c17b1
      try clear c18
      try clear c18b0
      try clear c18b1
      try clear c20
      try clear c24
      try clear c25
      try clear hcz21_0
      try clear hcz21_1
      try clear hcz21_2
      try clear hcz21_3
      try clear hcz22_0
      try clear hcz22_1
      try clear hcz22_2
      try clear hcz22_3
      try clear hfz21_0
      try clear hfz21_1
      try clear hfz21_2
      try clear hfz21_3
      try clear hfz22_0
      try clear hfz22_1
      try clear hfz22_2
      try clear hfz22_3
      try clear p1
      try clear p13
      try clear p2
      try clear p6
      try clear q1
      try clear q13
      try clear q6
      obtain ⟨x8_1, rfl, HA, HK1, BK105, HB⟩ := hrel; cases gk with
      | zero => exact absurd HA.out (by simp [lex_next.l1])
      | succ k1 =>
       have H := HA.out; clear HA; simp only [lex_next.l1] at H
       by_cases c26 : x8_1 < (a0.size : Int)
       ·rw [if_pos c26] at H; have c26b0 : decide (x8_1 < (a0.size : Int)) = true := decide_eq_true c26
        clear c26; by_cases c27 : 0 ≤ x8_1
        ·rw [if_pos c27] at H; have c27b0 : decide (0 ≤ x8_1) = true := decide_eq_true c27
         clear c27; replace H := Option.bind_eq_some_iff.mp H; obtain ⟨t110, A290, H⟩ := H; replace H : (if t110 = true then (lex_next.l1 k1 a0 a1 (wrap64 (x8_1 + 1))) else (if 0 ≤ a1 then (if a1 ≤ x8_1 then (if x8_1 ≤ (a0.size : Int) then ((lex_integer.f k1 (a0.extract (a1 : Int).toNat (x8_1 : Int).toNat)).bind fun bt111 => (if bt111.2 = true then (if x8_1 = (a0.size : Int) then (some (1, a1, a0.extract (a1 : Int).toNat (x8_1 : Int).toNat, bt111.1, true)) else ((lex_inner.f (bt a0 x8_1)).bind fun t113 => (some (1, a1, a0.extract (a1 : Int).toNat (x8_1 : Int).toNat, bt111.1, !t113)))) else (some (1, a1, a0.extract (a1 : Int).toNat (x8_1 : Int).toNat, bt111.1, false)))) else (none)) else (none)) else (none))) = some (r1, r2, r3, r4, r5) := H
         have A29 := Aside0.mk A290; clear A290; by_cases c30 : t110 = true
         ·subst c30; have H1 : (lex_next.l1 k1 a0 a1 (wrap64 (x8_1 + 1))) = some (r1, r2, r3, r4, r5) := by rw [if_pos rfl] at H; exact H
          clear H; have H := H1; clear H1; have H' := Aside0.mk H
          clear H; have p28 : 0 ≤ (x8_1 : Int) := of_decide_eq_true (by with_reducible assumption)
          have q28 : x8_1 < (a0.size : Int) := of_decide_eq_true (by with_reducible assumption)
          have hx28 := bt_at a0 x8_1; replace p28 := eq_true p28; replace q28 := eq_true q28; go_wp2_with (first | (go_at_call 38; (with_reducible refine (lex_digit.calls (bt a0 x8_1) true _ A29.out).mono ?_); rintro e w' ⟨rfl, ⟨nd, rfl⟩⟩))
          go_roundg k1
          case measure => have := HK1.out; omega
          case rel => exact ⟨(wrap64 (x8_1 + 1)), (by first | rfl | (simp; done) | (simp [*]; done)), H', ⟨by have := HK1.out; omega⟩, ⟨by (with_reducible repeat (first | refine blk_drewN ?_ _ | refine blk_drew ?_ | refine blk_alloc ?_ _)); exact BK105.out⟩, ⟨by repeat (first | (with_reducible first | exact HB.out | apply below_alloc | apply pw_below_drewN | apply below_drew1 | refine below_set ?_ GE105.out) | exact HB.out)⟩⟩
         ·replace c30 := Bool.eq_false_iff.mpr c30; subst c30; have H1 : (if 0 ≤ a1 then (if a1 ≤ x8_1 then (if x8_1 ≤ (a0.size : Int) then ((lex_integer.f k1 (a0.extract (a1 : Int).toNat (x8_1 : Int).toNat)).bind fun bt111 => (if bt111.2 = true then (if x8_1 = (a0.size : Int) then (some (1, a1, a0.extract (a1 : Int).toNat (x8_1 : Int).toNat, bt111.1, true)) else ((lex_inner.f (bt a0 x8_1)).bind fun t113 => (some (1, a1, a0.extract (a1 : Int).toNat (x8_1 : Int).toNat, bt111.1, !t113)))) else (some (1, a1, a0.extract (a1 : Int).toNat (x8_1 : Int).toNat, bt111.1, false)))) else (none)) else (none)) else (none)) = some (r1, r2, r3, r4, r5) := by rw [if_neg (show ¬ (false = true) by decide)] at H; exact H
          clear H; have H := H1; clear H1; by_cases c31 : 0 ≤ a1
          ·rw [if_pos c31] at H; have c31b0 := eq_true c31; have c31b1 : decide (0 ≤ a1) = true := decide_eq_true c31
           clear c31; by_cases c32 : a1 ≤ x8_1
           ·rw [if_pos c32] at H; have c32b0 := eq_true c32; have c32b1 : decide (a1 ≤ x8_1) = true := decide_eq_true c32
            clear c32; by_cases c33 : x8_1 ≤ (a0.size : Int)
            ·rw [if_pos c33] at H; have c33b0 := eq_true c33; have c33b1 : decide (x8_1 ≤ (a0.size : Int)) = true := decide_eq_true c33
             clear c33; replace H := Option.bind_eq_some_iff.mp H; obtain ⟨⟨t111, t112⟩, A340, H⟩ := H; replace H : (if t112 = true then (if x8_1 = (a0.size : Int) then (some (1, a1, a0.extract (a1 : Int).toNat (x8_1 : Int).toNat, t111, true)) else ((lex_inner.f (bt a0 x8_1)).bind fun t113 => (some (1, a1, a0.extract (a1 : Int).toNat (x8_1 : Int).toNat, t111, !t113)))) else (some (1, a1, a0.extract (a1 : Int).toNat (x8_1 : Int).toNat, t111, false))) = some (r1, r2, r3, r4, r5) := H
             have A34 := Aside0.mk A340; clear A340; have c35b0 := eq_true (of_decide_eq_true (by with_reducible assumption) : 0 ≤ a1)
             have c36b0 := eq_true (of_decide_eq_true (by with_reducible assumption) : a1 ≤ x8_1)
             have c37b0 := eq_true (of_decide_eq_true (by with_reducible assumption) : x8_1 ≤ (a0.size : Int))
             by_cases c38 : t112 = true
             ·subst c38; have H1 : (if x8_1 = (a0.size : Int) then (some (1, a1, a0.extract (a1 : Int).toNat (x8_1 : Int).toNat, t111, true)) else ((lex_inner.f (bt a0 x8_1)).bind fun t113 => (some (1, a1, a0.extract (a1 : Int).toNat (x8_1 : Int).toNat, t111, !t113)))) = some (r1, r2, r3, r4, r5) := by rw [if_pos rfl] at H; exact H
              clear H; have H := H1; clear H1; by_cases c39 : x8_1 = (a0.size : Int)
              ·rw [if_pos c39] at H; have c39b0 : (x8_1 == (a0.size : Int)) = true := beq_iff_eq.mpr c39
               have c39b1 : (x8_1 != (a0.size : Int)) = false := bne_eq_false_iff_eq.mpr c39
               clear c39; simp only [Option.some.injEq, Prod.mk.injEq] at H
               obtain ⟨rfl, rfl, rfl, rfl, rfl⟩ := H; have p28 : 0 ≤ (x8_1 : Int) := of_decide_eq_true (by with_reducible assumption)
               have q28 : x8_1 < (a0.size : Int) := of_decide_eq_true (by with_reducible assumption)
               have hx28 := bt_at a0 x8_1; replace p28 := eq_true p28; replace q28 := eq_true q28; try go_wp2_with (first | (go_at_call 38; (with_reducible refine (lex_digit.calls (bt a0 x8_1) false _ A29.out).mono ?_); rintro e w' ⟨rfl, ⟨nd, rfl⟩⟩; (try (rw [drewN_self wr]; generalize hq_ : World.drewN wr _ = wr; have n0_ : Aside0 (wr.heap[gb105]? = some (.cells #[.int .i64 0, .int .i64 0, .string (⟨#[]⟩ : ByteArray), .int .i32 0] 30 (0, 0))) := ⟨by rw [← hq_]; exact (by (with_reducible repeat (first | refine blk_drewN ?_ _ | refine blk_drew ?_ | refine blk_alloc ?_ _)); exact BK105.out)⟩; have n1_ : Aside0 (Below w.heap.size w wr) := ⟨by rw [← hq_]; exact (by repeat (first | (with_reducible first | exact HB.out | apply below_alloc | apply pw_below_drewN | apply below_drew1 | refine below_set ?_ GE105.out) | exact HB.out))⟩; clear BK105 HB hq_; have BK105 := n0_; have HB := n1_; clear n0_ n1_))) | ((with_reducible refine gate_callee (f := 39) rfl ?_); refine goesL_ (some 69) rfl rfl Tryd.func39 (by kernel_rfl) rfl #[.string (a0.extract (a1 : Int).toNat (x8_1 : Int).toNat)] rfl (by (try simp only [List.map_toArray, List.map_cons, List.map_nil]); first | done | rfl | (simp only [List.length_drop, List.length_take]; rfl)) ?_; (with_reducible refine (lex_integer.calls k1 (a0.extract (a1 : Int).toNat (x8_1 : Int).toNat) t111 true _ A34.out).mono ?_); rintro e w' ⟨rfl, ⟨nd, rfl⟩⟩; refine ⟨_, rfl, ?_⟩; (try (rw [drewN_self wr]; generalize hq_ : World.drewN wr _ = wr; have n0_ : Aside0 (wr.heap[gb105]? = some (.cells #[.int .i64 0, .int .i64 0, .string (⟨#[]⟩ : ByteArray), .int .i32 0] 30 (0, 0))) := ⟨by rw [← hq_]; exact (by (with_reducible repeat (first | refine blk_drewN ?_ _ | refine blk_drew ?_ | refine blk_alloc ?_ _)); exact BK105.out)⟩; have n1_ : Aside0 (Below w.heap.size w wr) := ⟨by rw [← hq_]; exact (by repeat (first | (with_reducible first | exact HB.out | apply below_alloc | apply pw_below_drewN | apply below_drew1 | refine below_set ?_ GE105.out) | exact HB.out))⟩; clear BK105 HB hq_; have BK105 := n0_; have HB := n1_; clear n0_ n1_))))
               have n0_ := Aside0.mk (blk_drew BK105.out); have n1_ := Aside0.mk (below_drew1 HB.out); clear BK105; clear HB; have BK105 := n0_; have HB := n1_; clear n0_ n1_; refine start_ (n := 23) (S := fun w' => True) (ds := []) #[false, false, false, false, false, false, false, false, false, false, false, false, false, false, false, false, false, false, false, false, false, false, false] (by kernel_rfl) rfl rfl trivial (fun hHeld => ?_); refine with_tabW lex_next.tab14 lex_next.bits14 (fun HT_ HW_ => ?_)
               generalize wr.drew = w40 at BK105 HB hHeld ⊢
               refine pure_ (i := 0) (N := some 72) (v := ?_) (a' := ?_) #[true, false, false, false, false, false, false, false, false, false, false, false, false, false, false, false, false, false, false, false, false, false, false] rfl rfl (any_of HT_.out (by kernel_rfl)) (fun _ _ _ h => h) (Or.inl ⟨by rfl, ?_⟩) ?_ ?_
               rotate_left
               ·intro w'
                go_simp
                with_reducible rfl
               rotate_left
               ·simp only [Act.put, List.setIfInBounds_toArray, List.set_cons_zero, List.set_cons_succ, i64_w, i32_w]
                rfl
               refine pure_ (i := 1) (N := some 73) (v := ?_) (a' := ?_) #[true, true, false, false, false, false, false, false, false, false, false, false, false, false, false, false, false, false, false, false, false, false, false] rfl rfl (any_of HT_.out (by kernel_rfl)) (fun _ _ _ h => h) (Or.inl ⟨by rfl, ?_⟩) ?_ ?_
               rotate_left
               ·intro w'
                go_simp
                with_reducible rfl
               rotate_left
               ·simp only [Act.put, List.setIfInBounds_toArray, List.set_cons_zero, List.set_cons_succ, i64_w, i32_w]
                rfl
               refine pure_ (i := 2) (N := some 74) (v := ?_) (a' := ?_) #[true, true, true, false, false, false, false, false, false, false, false, false, false, false, false, false, false, false, false, false, false, false, false] rfl rfl (any_of HT_.out (by kernel_rfl)) (fun _ _ _ h => h) (Or.inl ⟨by rfl, ?_⟩) ?_ ?_
               rotate_left
               ·intro w'
                go_simp
                with_reducible rfl
               rotate_left
               ·simp only [Act.put, List.setIfInBounds_toArray, List.set_cons_zero, List.set_cons_succ, i64_w, i32_w]
                rfl
               refine pure_ (i := 3) (N := some 75) (v := ?_) (a' := ?_) #[true, true, true, true, false, false, false, false, false, false, false, false, false, false, false, false, false, false, false, false, false, false, false] rfl rfl (any_of HT_.out (by kernel_rfl)) (fun _ _ _ h => h) (Or.inl ⟨by rfl, ?_⟩) ?_ ?_
               rotate_left
               ·intro w'
                go_simp
                with_reducible rfl
               rotate_left
               ·simp only [Act.put, List.setIfInBounds_toArray, List.set_cons_zero, List.set_cons_succ, i64_w, i32_w]
                rfl
               refine pure_ (i := 4) (N := some 76) (v := ?_) (a' := ?_) #[true, true, true, true, true, false, false, false, false, false, false, false, false, false, false, false, false, false, false, false, false, false, false] rfl rfl (any_of HT_.out (by kernel_rfl)) (fun _ _ _ h => h) (Or.inl ⟨by rfl, ?_⟩) ?_ ?_
               rotate_left
               ·intro w'
                go_simp
                with_reducible rfl
               rotate_left
               ·simp only [Act.put, List.setIfInBounds_toArray, List.set_cons_zero, List.set_cons_succ, i64_w, i32_w]
                rfl
               refine pure_ (i := 5) (N := some 77) (v := ?_) (a' := ?_) #[true, true, true, true, true, true, false, false, false, false, false, false, false, false, false, false, false, false, false, false, false, false, false] rfl rfl (any_of HT_.out (by kernel_rfl)) (fun _ _ _ h => h) (Or.inl ⟨by rfl, ?_⟩) ?_ ?_
               rotate_left
               ·intro w'
                go_simp
                with_reducible rfl
               rotate_left
               ·simp only [Act.put, List.setIfInBounds_toArray, List.set_cons_zero, List.set_cons_succ, i64_w, i32_w]
                rfl
               refine pure_ (i := 6) (N := some 78) (v := ?_) (a' := ?_) #[true, true, true, true, true, true, true, false, false, false, false, false, false, false, false, false, false, false, false, false, false, false, false] rfl rfl (any_of HT_.out (by kernel_rfl)) (fun _ _ _ h => h) (Or.inl ⟨by rfl, ?_⟩) ?_ ?_
               rotate_left
               ·intro w'
                go_simp
                with_reducible rfl
               rotate_left
               ·simp only [Act.put, List.setIfInBounds_toArray, List.set_cons_zero, List.set_cons_succ, i64_w, i32_w]
                rfl
               refine pure_ (i := 7) (N := some 79) (v := ?_) (a' := ?_) #[true, true, true, true, true, true, true, true, false, false, false, false, false, false, false, false, false, false, false, false, false, false, false] rfl rfl (any_of HT_.out (by kernel_rfl)) (fun _ _ _ h => h) (Or.inl ⟨by rfl, ?_⟩) ?_ ?_
               rotate_left
               ·intro w'
                go_simp
                with_reducible rfl
               rotate_left
               ·simp only [Act.put, List.setIfInBounds_toArray, List.set_cons_zero, List.set_cons_succ, i64_w, i32_w]
                rfl
               refine pure_ (i := 8) (N := some 80) (v := ?_) (a' := ?_) #[true, true, true, true, true, true, true, true, true, false, false, false, false, false, false, false, false, false, false, false, false, false, false] rfl rfl (any_of HT_.out (by kernel_rfl)) (fun _ _ _ h => h) (Or.inl ⟨by rfl, ?_⟩) ?_ ?_
               rotate_left
               ·intro w'
                go_simp
                with_reducible rfl
               rotate_left
               ·simp only [Act.put, List.setIfInBounds_toArray, List.set_cons_zero, List.set_cons_succ, i64_w, i32_w]
                rfl
               refine pure_ (i := 9) (N := some 81) (v := ?_) (a' := ?_) #[true, true, true, true, true, true, true, true, true, true, false, false, false, false, false, false, false, false, false, false, false, false, false] rfl rfl (any_of HT_.out (by kernel_rfl)) (fun _ _ _ h => h) (Or.inl ⟨by rfl, ?_⟩) ?_ ?_
               rotate_left
               ·intro w'
                go_simp
                with_reducible rfl
               rotate_left
               ·simp only [Act.put, List.setIfInBounds_toArray, List.set_cons_zero, List.set_cons_succ, i64_w, i32_w]
                rfl
               refine pure_ (i := 10) (N := some 82) (v := ?_) (a' := ?_) #[true, true, true, true, true, true, true, true, true, true, true, false, false, false, false, false, false, false, false, false, false, false, false] rfl rfl (any_of HT_.out (by kernel_rfl)) (fun _ _ _ h => h) (Or.inl ⟨by rfl, ?_⟩) ?_ ?_
               rotate_left
               ·intro w'
                go_simp
                with_reducible rfl
               rotate_left
               ·simp only [Act.put, List.setIfInBounds_toArray, List.set_cons_zero, List.set_cons_succ, i64_w, i32_w]
                rfl
               refine pure_ (i := 11) (N := some 83) (v := ?_) (a' := ?_) #[true, true, true, true, true, true, true, true, true, true, true, true, false, false, false, false, false, false, false, false, false, false, false] rfl rfl (any_of HT_.out (by kernel_rfl)) (fun _ _ _ h => h) (Or.inl ⟨by rfl, ?_⟩) ?_ ?_
               rotate_left
               ·intro w'
                go_simp
                with_reducible rfl
               rotate_left
               ·simp only [Act.put, List.setIfInBounds_toArray, List.set_cons_zero, List.set_cons_succ, i64_w, i32_w]
                rfl
               refine pure_ (i := 12) (N := some 84) (v := ?_) (a' := ?_) #[true, true, true, true, true, true, true, true, true, true, true, true, true, false, false, false, false, false, false, false, false, false, false] rfl rfl (any_of HT_.out (by kernel_rfl)) (fun _ _ _ h => h) (Or.inl ⟨by rfl, ?_⟩) ?_ ?_
               rotate_left
               ·intro w'
                go_simp
                with_reducible rfl
               rotate_left
               ·simp only [Act.put, List.setIfInBounds_toArray, List.set_cons_zero, List.set_cons_succ, i64_w, i32_w]
                rfl
               refine pure_ (i := 13) (N := some 85) (v := ?_) (a' := ?_) #[true, true, true, true, true, true, true, true, true, true, true, true, true, true, false, false, false, false, false, false, false, false, false] rfl rfl (any_of HT_.out (by kernel_rfl)) (fun _ _ _ h => h) (Or.inl ⟨by rfl, ?_⟩) ?_ ?_
               rotate_left
               ·intro w'
                go_simp
                with_reducible rfl
               rotate_left
               ·simp only [Act.put, List.setIfInBounds_toArray, List.set_cons_zero, List.set_cons_succ, i64_w, i32_w]
                rfl
               refine pure_ (i := 14) (N := some 86) (v := undef) (a' := ?_) #[true, true, true, true, true, true, true, true, true, true, true, true, true, true, true, false, false, false, false, false, false, false, false] rfl rfl (any_of HT_.out (by kernel_rfl)) (fun _ _ _ h => h) (Or.inr ⟨by rfl, rfl⟩) ?_ ?_
               rotate_left
               ·simp only [Act.put, List.setIfInBounds_toArray, List.set_cons_zero, List.set_cons_succ, i64_w, i32_w]
                rfl
               refine pure_ (i := 15) (N := some 87) (v := undef) (a' := ?_) #[true, true, true, true, true, true, true, true, true, true, true, true, true, true, true, true, false, false, false, false, false, false, false] rfl rfl (any_of HT_.out (by kernel_rfl)) (fun _ _ _ h => h) (Or.inr ⟨by rfl, rfl⟩) ?_ ?_
               rotate_left
               ·simp only [Act.put, List.setIfInBounds_toArray, List.set_cons_zero, List.set_cons_succ, i64_w, i32_w]
                rfl
               refine pure_ (i := 16) (N := some 88) (v := undef) (a' := ?_) #[true, true, true, true, true, true, true, true, true, true, true, true, true, true, true, true, true, false, false, false, false, false, false] rfl rfl (any_of HT_.out (by kernel_rfl)) (fun _ _ _ h => h) (Or.inr ⟨by rfl, rfl⟩) ?_ ?_
               rotate_left
               ·simp only [Act.put, List.setIfInBounds_toArray, List.set_cons_zero, List.set_cons_succ, i64_w, i32_w]
                rfl
               refine pure_ (i := 17) (N := some 89) (v := undef) (a' := ?_) #[true, true, true, true, true, true, true, true, true, true, true, true, true, true, true, true, true, true, false, false, false, false, false] rfl rfl (any_of HT_.out (by kernel_rfl)) (fun _ _ _ h => h) (Or.inr ⟨by rfl, rfl⟩) ?_ ?_
               rotate_left
               ·simp only [Act.put, List.setIfInBounds_toArray, List.set_cons_zero, List.set_cons_succ, i64_w, i32_w]
                rfl
               refine pure_ (i := 18) (N := some 90) (v := undef) (a' := ?_) #[true, true, true, true, true, true, true, true, true, true, true, true, true, true, true, true, true, true, true, false, false, false, false] rfl rfl (any_of HT_.out (by kernel_rfl)) (fun _ _ _ h => h) (Or.inr ⟨by rfl, rfl⟩) ?_ ?_
               rotate_left
               ·simp only [Act.put, List.setIfInBounds_toArray, List.set_cons_zero, List.set_cons_succ, i64_w, i32_w]
                rfl
               refine pure_ (i := 19) (N := some 91) (v := ?_) (a' := ?_) #[true, true, true, true, true, true, true, true, true, true, true, true, true, true, true, true, true, true, true, true, false, false, false] rfl rfl (any_of HT_.out (by kernel_rfl)) (fun _ _ _ h => h) (Or.inl ⟨by rfl, ?_⟩) ?_ ?_
               rotate_left
               ·intro w'
                go_simp
                with_reducible rfl
               rotate_left
               ·simp only [Act.put, List.setIfInBounds_toArray, List.set_cons_zero, List.set_cons_succ, i64_w, i32_w]
                rfl
               refine pure_ (i := 20) (N := some 92) (v := ?_) (a' := ?_) #[true, true, true, true, true, true, true, true, true, true, true, true, true, true, true, true, true, true, true, true, true, false, false] rfl rfl (any_of HT_.out (by kernel_rfl)) (fun _ _ _ h => h) (Or.inl ⟨by rfl, ?_⟩) ?_ ?_
               rotate_left
               ·intro w'
                go_simp
                with_reducible rfl
               rotate_left
               ·simp only [Act.put, List.setIfInBounds_toArray, List.set_cons_zero, List.set_cons_succ, i64_w, i32_w]
                rfl
               refine one_ (i := 21) (N := none) #[true, true, true, true, true, true, true, true, true, true, true, true, true, true, true, true, true, true, true, true, true, true, false] rfl rfl (one_of HT_.out (by kernel_rfl)) (by decide) (fun K hK => ?_)
               have hs41 : w40.cell? ⟨gb105, 0, none⟩ = some (.int .i64 0) := (blk_cell BK105.out 0).trans rfl
               have hfs41 := blk_frozen BK105.out 0; have hs42 : w40.cell? ⟨gb105, 1, none⟩ = some (.int .i64 0) := (blk_cell BK105.out 1).trans rfl
               have hfs42 := blk_frozen BK105.out 1; have hs43 : w40.cell? ⟨gb105, 2, none⟩ = some (.string (⟨#[]⟩ : ByteArray)) := (blk_cell BK105.out 2).trans rfl
               have hfs43 := blk_frozen BK105.out 2; have hs44 : w40.cell? ⟨gb105, 3, none⟩ = some (.int .i32 0) := (blk_cell BK105.out 3).trans rfl
               have hfs44 := blk_frozen BK105.out 3; refine skip_ (w1 := ?_) (by rfl) rfl ?_ ?_
               rotate_left
               ·go_simp
                rfl
               refine hK.out _ _ trivial (fun hHeld => ?_)
               clear hK K; refine pure_ (i := 22) (N := some 7) (v := ?_) (a' := ?_) #[true, true, true, true, true, true, true, true, true, true, true, true, true, true, true, true, true, true, true, true, true, true, true] rfl rfl (any_of HT_.out (by kernel_rfl)) (fun _ _ _ h => h) (Or.inl ⟨by rfl, ?_⟩) ?_ ?_
               rotate_left
               ·intro w'
                go_simp
                with_reducible rfl
               rotate_left
               ·simp only [Act.put, List.setIfInBounds_toArray, List.set_cons_zero, List.set_cons_succ, i64_w, i32_w]
                rfl
               refine done_ (done_of HT_.out (by kernel_rfl)) ?_
               try go_wp2
               refine bodyPost_ret (results_ct rfl _ _ gb105 30 #[.int .i64 1, .int .i64 a1, .string (a0.extract (a1 : Int).toNat (x8_1 : Int).toNat), .int .i32 t111] (0, 0) _ rfl (by (with_reducible repeat (first | refine blk_drewN ?_ _ | refine blk_drew ?_ | refine blk_alloc ?_ _)); refine blk_put (cs := #[.int .i64 1, .int .i64 a1, .string (a0.extract (a1 : Int).toNat (x8_1 : Int).toNat), .int .i32 0]) ?_ 3 _ rfl; (with_reducible repeat (first | refine blk_drewN ?_ _ | refine blk_drew ?_ | refine blk_alloc ?_ _)); refine blk_put (cs := #[.int .i64 1, .int .i64 a1, .string (⟨#[]⟩ : ByteArray), .int .i32 0]) ?_ 2 _ rfl; (with_reducible repeat (first | refine blk_drewN ?_ _ | refine blk_drew ?_ | refine blk_alloc ?_ _)); refine blk_put (cs := #[.int .i64 1, .int .i64 0, .string (⟨#[]⟩ : ByteArray), .int .i32 0]) ?_ 1 _ rfl; (with_reducible repeat (first | refine blk_drewN ?_ _ | refine blk_drew ?_ | refine blk_alloc ?_ _)); refine blk_put (cs := #[.int .i64 0, .int .i64 0, .string (⟨#[]⟩ : ByteArray), .int .i32 0]) ?_ 0 _ rfl; (with_reducible repeat (first | refine blk_drewN ?_ _ | refine blk_drew ?_ | refine blk_alloc ?_ _)); exact BK105.out) Tryd.underlying30 rfl (by kernel_rfl)) rfl ?_
               exact ⟨by first | rfl | (simp [errW_none, errW_some] <;> rfl) | (simp [*, errW_none, errW_some] <;> rfl), by repeat (first | (with_reducible first | exact HB.out | apply below_alloc | apply pw_below_drewN | apply below_drew1 | refine below_set ?_ GE105.out) | exact HB.out)⟩
              ·rw [if_neg c39] at H; have c39b0 : (x8_1 == (a0.size : Int)) = false := beq_eq_false_iff_ne.mpr c39
               have c39b1 : (x8_1 != (a0.size : Int)) = true := bne_iff_ne.mpr c39
               replace H := Option.bind_eq_some_iff.mp H; obtain ⟨t113, A460, H⟩ := H; replace H : (some (1, a1, a0.extract (a1 : Int).toNat (x8_1 : Int).toNat, t111, !t113)) = some (r1, r2, r3, r4, r5) := H; have A46 := Aside0.mk A460; clear A460; simp only [Option.some.injEq, Prod.mk.injEq] at H
               obtain ⟨rfl, rfl, rfl, rfl, rfl⟩ := H; have p28 : 0 ≤ (x8_1 : Int) := of_decide_eq_true (by with_reducible assumption)
               have q28 : x8_1 < (a0.size : Int) := of_decide_eq_true (by with_reducible assumption)
               have hx28 := bt_at a0 x8_1; replace p28 := eq_true p28; replace q28 := eq_true q28; try go_wp2_with (first | (go_at_call 38; (with_reducible refine (lex_digit.calls (bt a0 x8_1) false _ A29.out).mono ?_); rintro e w' ⟨rfl, ⟨nd, rfl⟩⟩; (try (rw [drewN_self wr]; generalize hq_ : World.drewN wr _ = wr; have n0_ : Aside0 (wr.heap[gb105]? = some (.cells #[.int .i64 0, .int .i64 0, .string (⟨#[]⟩ : ByteArray), .int .i32 0] 30 (0, 0))) := ⟨by rw [← hq_]; exact (by (with_reducible repeat (first | refine blk_drewN ?_ _ | refine blk_drew ?_ | refine blk_alloc ?_ _)); exact BK105.out)⟩; have n1_ : Aside0 (Below w.heap.size w wr) := ⟨by rw [← hq_]; exact (by repeat (first | (with_reducible first | exact HB.out | apply below_alloc | apply pw_below_drewN | apply below_drew1 | refine below_set ?_ GE105.out) | exact HB.out))⟩; clear BK105 HB hq_; have BK105 := n0_; have HB := n1_; clear n0_ n1_))) | ((with_reducible refine gate_callee (f := 39) rfl ?_); refine goesL_ (some 69) rfl rfl Tryd.func39 (by kernel_rfl) rfl #[.string (a0.extract (a1 : Int).toNat (x8_1 : Int).toNat)] rfl (by (try simp only [List.map_toArray, List.map_cons, List.map_nil]); first | done | rfl | (simp only [List.length_drop, List.length_take]; rfl)) ?_; (with_reducible refine (lex_integer.calls k1 (a0.extract (a1 : Int).toNat (x8_1 : Int).toNat) t111 true _ A34.out).mono ?_); rintro e w' ⟨rfl, ⟨nd, rfl⟩⟩; refine ⟨_, rfl, ?_⟩; (try (rw [drewN_self wr]; generalize hq_ : World.drewN wr _ = wr; have n0_ : Aside0 (wr.heap[gb105]? = some (.cells #[.int .i64 0, .int .i64 0, .string (⟨#[]⟩ : ByteArray), .int .i32 0] 30 (0, 0))) := ⟨by rw [← hq_]; exact (by (with_reducible repeat (first | refine blk_drewN ?_ _ | refine blk_drew ?_ | refine blk_alloc ?_ _)); exact BK105.out)⟩; have n1_ : Aside0 (Below w.heap.size w wr) := ⟨by rw [← hq_]; exact (by repeat (first | (with_reducible first | exact HB.out | apply below_alloc | apply pw_below_drewN | apply below_drew1 | refine below_set ?_ GE105.out) | exact HB.out))⟩; clear BK105 HB hq_; have BK105 := n0_; have HB := n1_; clear n0_ n1_))))
               have n0_ := Aside0.mk (blk_drew BK105.out); have n1_ := Aside0.mk (below_drew1 HB.out); clear BK105; clear HB; have BK105 := n0_; have HB := n1_; clear n0_ n1_; have p45 : 0 ≤ (x8_1 : Int) := of_decide_eq_true (by with_reducible assumption)
               have q45 : x8_1 < (a0.size : Int) := of_decide_eq_true (by with_reducible assumption)
               have hx45 := bt_at a0 x8_1; replace p45 := eq_true p45; replace q45 := eq_true q45; refine start_ (n := 23) (S := fun w' => True) (ds := []) #[false, false, false, false, false, false, false, false, false, false, false, false, false, false, false, false, false, false, false, false, false, false, false] (by kernel_rfl) rfl rfl trivial (fun hHeld => ?_); refine with_tabW lex_next.tab14 lex_next.bits14 (fun HT_ HW_ => ?_)
               generalize wr.drew = w47 at BK105 HB hHeld ⊢
               refine pure_ (i := 0) (N := some 72) (v := ?_) (a' := ?_) #[true, false, false, false, false, false, false, false, false, false, false, false, false, false, false, false, false, false, false, false, false, false, false] rfl rfl (any_of HT_.out (by kernel_rfl)) (fun _ _ _ h => h) (Or.inl ⟨by rfl, ?_⟩) ?_ ?_
               rotate_left
               ·intro w'
                go_simp
                with_reducible rfl
               rotate_left
               ·simp only [Act.put, List.setIfInBounds_toArray, List.set_cons_zero, List.set_cons_succ, i64_w, i32_w]
                rfl
               refine pure_ (i := 1) (N := some 73) (v := ?_) (a' := ?_) #[true, true, false, false, false, false, false, false, false, false, false, false, false, false, false, false, false, false, false, false, false, false, false] rfl rfl (any_of HT_.out (by kernel_rfl)) (fun _ _ _ h => h) (Or.inl ⟨by rfl, ?_⟩) ?_ ?_
               rotate_left
               ·intro w'
                go_simp
                with_reducible rfl
               rotate_left
               ·simp only [Act.put, List.setIfInBounds_toArray, List.set_cons_zero, List.set_cons_succ, i64_w, i32_w]
                rfl
               refine pure_ (i := 2) (N := some 74) (v := ?_) (a' := ?_) #[true, true, true, false, false, false, false, false, false, false, false, false, false, false, false, false, false, false, false, false, false, false, false] rfl rfl (any_of HT_.out (by kernel_rfl)) (fun _ _ _ h => h) (Or.inl ⟨by rfl, ?_⟩) ?_ ?_
               rotate_left
               ·intro w'
                go_simp
                with_reducible rfl
               rotate_left
               ·simp only [Act.put, List.setIfInBounds_toArray, List.set_cons_zero, List.set_cons_succ, i64_w, i32_w]
                rfl
               refine pure_ (i := 3) (N := some 75) (v := ?_) (a' := ?_) #[true, true, true, true, false, false, false, false, false, false, false, false, false, false, false, false, false, false, false, false, false, false, false] rfl rfl (any_of HT_.out (by kernel_rfl)) (fun _ _ _ h => h) (Or.inl ⟨by rfl, ?_⟩) ?_ ?_
               rotate_left
               ·intro w'
                go_simp
                with_reducible rfl
               rotate_left
               ·simp only [Act.put, List.setIfInBounds_toArray, List.set_cons_zero, List.set_cons_succ, i64_w, i32_w]
                rfl
               refine pure_ (i := 4) (N := some 76) (v := ?_) (a' := ?_) #[true, true, true, true, true, false, false, false, false, false, false, false, false, false, false, false, false, false, false, false, false, false, false] rfl rfl (any_of HT_.out (by kernel_rfl)) (fun _ _ _ h => h) (Or.inl ⟨by rfl, ?_⟩) ?_ ?_
               rotate_left
               ·intro w'
                go_simp
                with_reducible rfl
               rotate_left
               ·simp only [Act.put, List.setIfInBounds_toArray, List.set_cons_zero, List.set_cons_succ, i64_w, i32_w]
                rfl
               refine pure_ (i := 5) (N := some 77) (v := ?_) (a' := ?_) #[true, true, true, true, true, true, false, false, false, false, false, false, false, false, false, false, false, false, false, false, false, false, false] rfl rfl (any_of HT_.out (by kernel_rfl)) (fun _ _ _ h => h) (Or.inl ⟨by rfl, ?_⟩) ?_ ?_
               rotate_left
               ·intro w'
                go_simp
                with_reducible rfl
               rotate_left
               ·simp only [Act.put, List.setIfInBounds_toArray, List.set_cons_zero, List.set_cons_succ, i64_w, i32_w]
                rfl
               refine pure_ (i := 6) (N := some 78) (v := ?_) (a' := ?_) #[true, true, true, true, true, true, true, false, false, false, false, false, false, false, false, false, false, false, false, false, false, false, false] rfl rfl (any_of HT_.out (by kernel_rfl)) (fun _ _ _ h => h) (Or.inl ⟨by rfl, ?_⟩) ?_ ?_
               rotate_left
               ·intro w'
                go_simp
                with_reducible rfl
               rotate_left
               ·simp only [Act.put, List.setIfInBounds_toArray, List.set_cons_zero, List.set_cons_succ, i64_w, i32_w]
                rfl
               refine pure_ (i := 7) (N := some 79) (v := ?_) (a' := ?_) #[true, true, true, true, true, true, true, true, false, false, false, false, false, false, false, false, false, false, false, false, false, false, false] rfl rfl (any_of HT_.out (by kernel_rfl)) (fun _ _ _ h => h) (Or.inl ⟨by rfl, ?_⟩) ?_ ?_
               rotate_left
               ·intro w'
                go_simp
                with_reducible rfl
               rotate_left
               ·simp only [Act.put, List.setIfInBounds_toArray, List.set_cons_zero, List.set_cons_succ, i64_w, i32_w]
                rfl
               refine pure_ (i := 8) (N := some 80) (v := ?_) (a' := ?_) #[true, true, true, true, true, true, true, true, true, false, false, false, false, false, false, false, false, false, false, false, false, false, false] rfl rfl (any_of HT_.out (by kernel_rfl)) (fun _ _ _ h => h) (Or.inl ⟨by rfl, ?_⟩) ?_ ?_
               rotate_left
               ·intro w'
                go_simp
                with_reducible rfl
               rotate_left
               ·simp only [Act.put, List.setIfInBounds_toArray, List.set_cons_zero, List.set_cons_succ, i64_w, i32_w]
                rfl
               refine pure_ (i := 9) (N := some 81) (v := ?_) (a' := ?_) #[true, true, true, true, true, true, true, true, true, true, false, false, false, false, false, false, false, false, false, false, false, false, false] rfl rfl (any_of HT_.out (by kernel_rfl)) (fun _ _ _ h => h) (Or.inl ⟨by rfl, ?_⟩) ?_ ?_
               rotate_left
               ·intro w'
                go_simp
                with_reducible rfl
               rotate_left
               ·simp only [Act.put, List.setIfInBounds_toArray, List.set_cons_zero, List.set_cons_succ, i64_w, i32_w]
                rfl
               refine pure_ (i := 10) (N := some 82) (v := ?_) (a' := ?_) #[true, true, true, true, true, true, true, true, true, true, true, false, false, false, false, false, false, false, false, false, false, false, false] rfl rfl (any_of HT_.out (by kernel_rfl)) (fun _ _ _ h => h) (Or.inl ⟨by rfl, ?_⟩) ?_ ?_
               rotate_left
               ·intro w'
                go_simp
                with_reducible rfl
               rotate_left
               ·simp only [Act.put, List.setIfInBounds_toArray, List.set_cons_zero, List.set_cons_succ, i64_w, i32_w]
                rfl
               refine pure_ (i := 11) (N := some 83) (v := ?_) (a' := ?_) #[true, true, true, true, true, true, true, true, true, true, true, true, false, false, false, false, false, false, false, false, false, false, false] rfl rfl (any_of HT_.out (by kernel_rfl)) (fun _ _ _ h => h) (Or.inl ⟨by rfl, ?_⟩) ?_ ?_
               rotate_left
               ·intro w'
                go_simp
                with_reducible rfl
               rotate_left
               ·simp only [Act.put, List.setIfInBounds_toArray, List.set_cons_zero, List.set_cons_succ, i64_w, i32_w]
                rfl
               refine pure_ (i := 12) (N := some 84) (v := ?_) (a' := ?_) #[true, true, true, true, true, true, true, true, true, true, true, true, true, false, false, false, false, false, false, false, false, false, false] rfl rfl (any_of HT_.out (by kernel_rfl)) (fun _ _ _ h => h) (Or.inl ⟨by rfl, ?_⟩) ?_ ?_
               rotate_left
               ·intro w'
                go_simp
                with_reducible rfl
               rotate_left
               ·simp only [Act.put, List.setIfInBounds_toArray, List.set_cons_zero, List.set_cons_succ, i64_w, i32_w]
                rfl
               refine pure_ (i := 13) (N := some 85) (v := ?_) (a' := ?_) #[true, true, true, true, true, true, true, true, true, true, true, true, true, true, false, false, false, false, false, false, false, false, false] rfl rfl (any_of HT_.out (by kernel_rfl)) (fun _ _ _ h => h) (Or.inl ⟨by rfl, ?_⟩) ?_ ?_
               rotate_left
               ·intro w'
                go_simp
                with_reducible rfl
               rotate_left
               ·simp only [Act.put, List.setIfInBounds_toArray, List.set_cons_zero, List.set_cons_succ, i64_w, i32_w]
                rfl
               refine pure_ (i := 14) (N := some 86) (v := ?_) (a' := ?_) #[true, true, true, true, true, true, true, true, true, true, true, true, true, true, true, false, false, false, false, false, false, false, false] rfl rfl (any_of HT_.out (by kernel_rfl)) (fun _ _ _ h => h) (Or.inl ⟨by rfl, ?_⟩) ?_ ?_
               rotate_left
               ·intro w'
                go_simp
                with_reducible rfl
               rotate_left
               ·simp only [Act.put, List.setIfInBounds_toArray, List.set_cons_zero, List.set_cons_succ, i64_w, i32_w]
                rfl
               refine pure_ (i := 15) (N := some 87) (v := ?_) (a' := ?_) #[true, true, true, true, true, true, true, true, true, true, true, true, true, true, true, true, false, false, false, false, false, false, false] rfl rfl (any_of HT_.out (by kernel_rfl)) (fun _ _ _ h => h) (Or.inl ⟨by rfl, ?_⟩) ?_ ?_
               rotate_left
               ·intro w'
                go_simp
                with_reducible rfl
               rotate_left
               ·simp only [Act.put, List.setIfInBounds_toArray, List.set_cons_zero, List.set_cons_succ, i64_w, i32_w]
                rfl
               refine take_ (i := 16) (N := some 88) (v := ?_) (a' := ?_) #[true, true, true, true, true, true, true, true, true, true, true, true, true, true, true, true, true, false, false, false, false, false, false] rfl rfl (take_ofW HT_.out HW_.out (by kernel_rfl)) (fun _ _ _ h => h) (Or.inl ⟨by rfl, ?_⟩) hHeld ?_ ?_
               rotate_left
               ·intro w' _
                go_simp
                with_reducible rfl
               rotate_left
               ·simp only [Act.put, List.setIfInBounds_toArray, List.set_cons_zero, List.set_cons_succ, i64_w, i32_w]
                rfl
               refine one_ (i := 17) (N := some 89) #[true, true, true, true, true, true, true, true, true, true, true, true, true, true, true, true, true, true, false, false, false, false, false] rfl rfl (one_of HT_.out (by kernel_rfl)) (by decide) (fun K hK => ?_)
               refine goes_ Tryd.func29 (by kernel_rfl) rfl #[.int .u8 (bt a0 x8_1)] (by rfl) rfl rfl (by (try simp only [List.map_toArray, List.map_cons, List.map_nil]); first | done | rfl | (simp only [List.length_drop, List.length_take]; rfl)) ?_
               with_reducible refine (lex_inner.calls (bt a0 x8_1) t113 _ A46.out).mono ?_
               rintro e w' ⟨rfl, ⟨nd, rfl⟩⟩
               refine ⟨_, rfl, ?_⟩
               refine hK.out _ _ trivial (fun hHeld => ?_)
               clear hK K; refine norm_ (a' := ?_) ?_ ?_
               rotate_left
               ·show Act.put _ (some 89) _ = _
                simp only [Act.put, List.setIfInBounds_toArray, List.set_cons_zero, List.set_cons_succ, i64_w, i32_w]
                rfl
               refine pure_ (i := 18) (N := some 90) (v := ?_) (a' := ?_) #[true, true, true, true, true, true, true, true, true, true, true, true, true, true, true, true, true, true, true, false, false, false, false] rfl rfl (any_of HT_.out (by kernel_rfl)) (fun _ _ _ h => h) (Or.inl ⟨by rfl, ?_⟩) ?_ ?_
               rotate_left
               ·intro w'
                go_simp
                with_reducible rfl
               rotate_left
               ·simp only [Act.put, List.setIfInBounds_toArray, List.set_cons_zero, List.set_cons_succ, i64_w, i32_w]
                rfl
               refine pure_ (i := 19) (N := some 91) (v := ?_) (a' := ?_) #[true, true, true, true, true, true, true, true, true, true, true, true, true, true, true, true, true, true, true, true, false, false, false] rfl rfl (any_of HT_.out (by kernel_rfl)) (fun _ _ _ h => h) (Or.inl ⟨by rfl, ?_⟩) ?_ ?_
               rotate_left
               ·intro w'
                go_simp
                with_reducible rfl
               rotate_left
               ·simp only [Act.put, List.setIfInBounds_toArray, List.set_cons_zero, List.set_cons_succ, i64_w, i32_w]
                rfl
               refine pure_ (i := 20) (N := some 92) (v := ?_) (a' := ?_) #[true, true, true, true, true, true, true, true, true, true, true, true, true, true, true, true, true, true, true, true, true, false, false] rfl rfl (any_of HT_.out (by kernel_rfl)) (fun _ _ _ h => h) (Or.inl ⟨by rfl, ?_⟩) ?_ ?_
               rotate_left
               ·intro w'
                go_simp
                with_reducible rfl
               rotate_left
               ·simp only [Act.put, List.setIfInBounds_toArray, List.set_cons_zero, List.set_cons_succ, i64_w, i32_w]
                rfl
               refine one_ (i := 21) (N := none) #[true, true, true, true, true, true, true, true, true, true, true, true, true, true, true, true, true, true, true, true, true, true, false] rfl rfl (one_of HT_.out (by kernel_rfl)) (by decide) (fun K hK => ?_)
               have hs48 : w47.cell? ⟨gb105, 0, none⟩ = some (.int .i64 0) := (blk_cell BK105.out 0).trans rfl
               have hfs48 := blk_frozen BK105.out 0; have hs49 : w47.cell? ⟨gb105, 1, none⟩ = some (.int .i64 0) := (blk_cell BK105.out 1).trans rfl
               have hfs49 := blk_frozen BK105.out 1; have hs50 : w47.cell? ⟨gb105, 2, none⟩ = some (.string (⟨#[]⟩ : ByteArray)) := (blk_cell BK105.out 2).trans rfl
               have hfs50 := blk_frozen BK105.out 2; have hs51 : w47.cell? ⟨gb105, 3, none⟩ = some (.int .i32 0) := (blk_cell BK105.out 3).trans rfl
               have hfs51 := blk_frozen BK105.out 3; refine skip_ (w1 := ?_) (by rfl) rfl ?_ ?_
               rotate_left
               ·go_simp
                rfl
               refine hK.out _ _ trivial (fun hHeld => ?_)
               clear hK K; refine pure_ (i := 22) (N := some 7) (v := ?_) (a' := ?_) #[true, true, true, true, true, true, true, true, true, true, true, true, true, true, true, true, true, true, true, true, true, true, true] rfl rfl (any_of HT_.out (by kernel_rfl)) (fun _ _ _ h => h) (Or.inl ⟨by rfl, ?_⟩) ?_ ?_
               rotate_left
               ·intro w'
                go_simp
                with_reducible rfl
               rotate_left
               ·simp only [Act.put, List.setIfInBounds_toArray, List.set_cons_zero, List.set_cons_succ, i64_w, i32_w]
                rfl
               refine done_ (done_of HT_.out (by kernel_rfl)) ?_
               try go_wp2
               refine bodyPost_ret (results_ct rfl _ _ gb105 30 #[.int .i64 1, .int .i64 a1, .string (a0.extract (a1 : Int).toNat (x8_1 : Int).toNat), .int .i32 t111] (0, 0) _ rfl (by (with_reducible repeat (first | refine blk_drewN ?_ _ | refine blk_drew ?_ | refine blk_alloc ?_ _)); refine blk_put (cs := #[.int .i64 1, .int .i64 a1, .string (a0.extract (a1 : Int).toNat (x8_1 : Int).toNat), .int .i32 0]) ?_ 3 _ rfl; (with_reducible repeat (first | refine blk_drewN ?_ _ | refine blk_drew ?_ | refine blk_alloc ?_ _)); refine blk_put (cs := #[.int .i64 1, .int .i64 a1, .string (⟨#[]⟩ : ByteArray), .int .i32 0]) ?_ 2 _ rfl; (with_reducible repeat (first | refine blk_drewN ?_ _ | refine blk_drew ?_ | refine blk_alloc ?_ _)); refine blk_put (cs := #[.int .i64 1, .int .i64 0, .string (⟨#[]⟩ : ByteArray), .int .i32 0]) ?_ 1 _ rfl; (with_reducible repeat (first | refine blk_drewN ?_ _ | refine blk_drew ?_ | refine blk_alloc ?_ _)); refine blk_put (cs := #[.int .i64 0, .int .i64 0, .string (⟨#[]⟩ : ByteArray), .int .i32 0]) ?_ 0 _ rfl; (with_reducible repeat (first | refine blk_drewN ?_ _ | refine blk_drew ?_ | refine blk_alloc ?_ _)); exact BK105.out) Tryd.underlying30 rfl (by kernel_rfl)) rfl ?_
               exact ⟨by first | rfl | (simp [errW_none, errW_some] <;> rfl) | (simp [*, errW_none, errW_some] <;> rfl), by repeat (first | (with_reducible first | exact HB.out | apply below_alloc | apply pw_below_drewN | apply below_drew1 | refine below_set ?_ GE105.out) | exact HB.out)⟩
             ·replace c38 := Bool.eq_false_iff.mpr c38; subst c38; have H1 : (some (1, a1, a0.extract (a1 : Int).toNat (x8_1 : Int).toNat, t111, false)) = some (r1, r2, r3, r4, r5) := by rw [if_neg (show ¬ (false = true) by decide)] at H; exact H
              clear H; have H := H1; clear H1; simp only [Option.some.injEq, Prod.mk.injEq] at H
              obtain ⟨rfl, rfl, rfl, rfl, rfl⟩ := H; have p28 : 0 ≤ (x8_1 : Int) := of_decide_eq_true (by with_reducible assumption)
              have q28 : x8_1 < (a0.size : Int) := of_decide_eq_true (by with_reducible assumption)
              have hx28 := bt_at a0 x8_1; replace p28 := eq_true p28; replace q28 := eq_true q28; try go_wp2_with (first | (go_at_call 38; (with_reducible refine (lex_digit.calls (bt a0 x8_1) false _ A29.out).mono ?_); rintro e w' ⟨rfl, ⟨nd, rfl⟩⟩; (try (rw [drewN_self wr]; generalize hq_ : World.drewN wr _ = wr; have n0_ : Aside0 (wr.heap[gb105]? = some (.cells #[.int .i64 0, .int .i64 0, .string (⟨#[]⟩ : ByteArray), .int .i32 0] 30 (0, 0))) := ⟨by rw [← hq_]; exact (by (with_reducible repeat (first | refine blk_drewN ?_ _ | refine blk_drew ?_ | refine blk_alloc ?_ _)); exact BK105.out)⟩; have n1_ : Aside0 (Below w.heap.size w wr) := ⟨by rw [← hq_]; exact (by repeat (first | (with_reducible first | exact HB.out | apply below_alloc | apply pw_below_drewN | apply below_drew1 | refine below_set ?_ GE105.out) | exact HB.out))⟩; clear BK105 HB hq_; have BK105 := n0_; have HB := n1_; clear n0_ n1_))) | ((with_reducible refine gate_callee (f := 39) rfl ?_); refine goesL_ (some 69) rfl rfl Tryd.func39 (by kernel_rfl) rfl #[.string (a0.extract (a1 : Int).toNat (x8_1 : Int).toNat)] rfl (by (try simp only [List.map_toArray, List.map_cons, List.map_nil]); first | done | rfl | (simp only [List.length_drop, List.length_take]; rfl)) ?_; (with_reducible refine (lex_integer.calls k1 (a0.extract (a1 : Int).toNat (x8_1 : Int).toNat) t111 false _ A34.out).mono ?_); rintro e w' ⟨rfl, ⟨nd, rfl⟩⟩; refine ⟨_, rfl, ?_⟩; (try (rw [drewN_self wr]; generalize hq_ : World.drewN wr _ = wr; have n0_ : Aside0 (wr.heap[gb105]? = some (.cells #[.int .i64 0, .int .i64 0, .string (⟨#[]⟩ : ByteArray), .int .i32 0] 30 (0, 0))) := ⟨by rw [← hq_]; exact (by (with_reducible repeat (first | refine blk_drewN ?_ _ | refine blk_drew ?_ | refine blk_alloc ?_ _)); exact BK105.out)⟩; have n1_ : Aside0 (Below w.heap.size w wr) := ⟨by rw [← hq_]; exact (by repeat (first | (with_reducible first | exact HB.out | apply below_alloc | apply pw_below_drewN | apply below_drew1 | refine below_set ?_ GE105.out) | exact HB.out))⟩; clear BK105 HB hq_; have BK105 := n0_; have HB := n1_; clear n0_ n1_))))
              have n0_ := Aside0.mk (blk_drew BK105.out); have n1_ := Aside0.mk (below_drew1 HB.out); clear BK105; clear HB; have BK105 := n0_; have HB := n1_; clear n0_ n1_; refine start_ (n := 23) (S := fun w' => True) (ds := []) #[false, false, false, false, false, false, false, false, false, false, false, false, false, false, false, false, false, false, false, false, false, false, false] (by kernel_rfl) rfl rfl trivial (fun hHeld => ?_); refine with_tabW lex_next.tab14 lex_next.bits14 (fun HT_ HW_ => ?_)
              generalize wr.drew = w52 at BK105 HB hHeld ⊢
              refine pure_ (i := 0) (N := some 72) (v := ?_) (a' := ?_) #[true, false, false, false, false, false, false, false, false, false, false, false, false, false, false, false, false, false, false, false, false, false, false] rfl rfl (any_of HT_.out (by kernel_rfl)) (fun _ _ _ h => h) (Or.inl ⟨by rfl, ?_⟩) ?_ ?_
              rotate_left
              ·intro w'
               go_simp
               with_reducible rfl
              rotate_left
              ·simp only [Act.put, List.setIfInBounds_toArray, List.set_cons_zero, List.set_cons_succ, i64_w, i32_w]
               rfl
              refine pure_ (i := 1) (N := some 73) (v := ?_) (a' := ?_) #[true, true, false, false, false, false, false, false, false, false, false, false, false, false, false, false, false, false, false, false, false, false, false] rfl rfl (any_of HT_.out (by kernel_rfl)) (fun _ _ _ h => h) (Or.inl ⟨by rfl, ?_⟩) ?_ ?_
              rotate_left
              ·intro w'
               go_simp
               with_reducible rfl
              rotate_left
              ·simp only [Act.put, List.setIfInBounds_toArray, List.set_cons_zero, List.set_cons_succ, i64_w, i32_w]
               rfl
              refine pure_ (i := 2) (N := some 74) (v := ?_) (a' := ?_) #[true, true, true, false, false, false, false, false, false, false, false, false, false, false, false, false, false, false, false, false, false, false, false] rfl rfl (any_of HT_.out (by kernel_rfl)) (fun _ _ _ h => h) (Or.inl ⟨by rfl, ?_⟩) ?_ ?_
              rotate_left
              ·intro w'
               go_simp
               with_reducible rfl
              rotate_left
              ·simp only [Act.put, List.setIfInBounds_toArray, List.set_cons_zero, List.set_cons_succ, i64_w, i32_w]
               rfl
              refine pure_ (i := 3) (N := some 75) (v := ?_) (a' := ?_) #[true, true, true, true, false, false, false, false, false, false, false, false, false, false, false, false, false, false, false, false, false, false, false] rfl rfl (any_of HT_.out (by kernel_rfl)) (fun _ _ _ h => h) (Or.inl ⟨by rfl, ?_⟩) ?_ ?_
              rotate_left
              ·intro w'
               go_simp
               with_reducible rfl
              rotate_left
              ·simp only [Act.put, List.setIfInBounds_toArray, List.set_cons_zero, List.set_cons_succ, i64_w, i32_w]
               rfl
              refine pure_ (i := 4) (N := some 76) (v := ?_) (a' := ?_) #[true, true, true, true, true, false, false, false, false, false, false, false, false, false, false, false, false, false, false, false, false, false, false] rfl rfl (any_of HT_.out (by kernel_rfl)) (fun _ _ _ h => h) (Or.inl ⟨by rfl, ?_⟩) ?_ ?_
              rotate_left
              ·intro w'
               go_simp
               with_reducible rfl
              rotate_left
              ·simp only [Act.put, List.setIfInBounds_toArray, List.set_cons_zero, List.set_cons_succ, i64_w, i32_w]
               rfl
              refine pure_ (i := 5) (N := some 77) (v := ?_) (a' := ?_) #[true, true, true, true, true, true, false, false, false, false, false, false, false, false, false, false, false, false, false, false, false, false, false] rfl rfl (any_of HT_.out (by kernel_rfl)) (fun _ _ _ h => h) (Or.inl ⟨by rfl, ?_⟩) ?_ ?_
              rotate_left
              ·intro w'
               go_simp
               with_reducible rfl
              rotate_left
              ·simp only [Act.put, List.setIfInBounds_toArray, List.set_cons_zero, List.set_cons_succ, i64_w, i32_w]
               rfl
              refine pure_ (i := 6) (N := some 78) (v := ?_) (a' := ?_) #[true, true, true, true, true, true, true, false, false, false, false, false, false, false, false, false, false, false, false, false, false, false, false] rfl rfl (any_of HT_.out (by kernel_rfl)) (fun _ _ _ h => h) (Or.inl ⟨by rfl, ?_⟩) ?_ ?_
              rotate_left
              ·intro w'
               go_simp
               with_reducible rfl
              rotate_left
              ·simp only [Act.put, List.setIfInBounds_toArray, List.set_cons_zero, List.set_cons_succ, i64_w, i32_w]
               rfl
              refine pure_ (i := 7) (N := some 79) (v := ?_) (a' := ?_) #[true, true, true, true, true, true, true, true, false, false, false, false, false, false, false, false, false, false, false, false, false, false, false] rfl rfl (any_of HT_.out (by kernel_rfl)) (fun _ _ _ h => h) (Or.inl ⟨by rfl, ?_⟩) ?_ ?_
              rotate_left
              ·intro w'
               go_simp
               with_reducible rfl
              rotate_left
              ·simp only [Act.put, List.setIfInBounds_toArray, List.set_cons_zero, List.set_cons_succ, i64_w, i32_w]
               rfl
              refine pure_ (i := 8) (N := some 80) (v := ?_) (a' := ?_) #[true, true, true, true, true, true, true, true, true, false, false, false, false, false, false, false, false, false, false, false, false, false, false] rfl rfl (any_of HT_.out (by kernel_rfl)) (fun _ _ _ h => h) (Or.inl ⟨by rfl, ?_⟩) ?_ ?_
              rotate_left
              ·intro w'
               go_simp
               with_reducible rfl
              rotate_left
              ·simp only [Act.put, List.setIfInBounds_toArray, List.set_cons_zero, List.set_cons_succ, i64_w, i32_w]
               rfl
              refine pure_ (i := 9) (N := some 81) (v := undef) (a' := ?_) #[true, true, true, true, true, true, true, true, true, true, false, false, false, false, false, false, false, false, false, false, false, false, false] rfl rfl (any_of HT_.out (by kernel_rfl)) (fun _ _ _ h => h) (Or.inr ⟨by rfl, rfl⟩) ?_ ?_
              rotate_left
              ·simp only [Act.put, List.setIfInBounds_toArray, List.set_cons_zero, List.set_cons_succ, i64_w, i32_w]
               rfl
              refine pure_ (i := 10) (N := some 82) (v := undef) (a' := ?_) #[true, true, true, true, true, true, true, true, true, true, true, false, false, false, false, false, false, false, false, false, false, false, false] rfl rfl (any_of HT_.out (by kernel_rfl)) (fun _ _ _ h => h) (Or.inr ⟨by rfl, rfl⟩) ?_ ?_
              rotate_left
              ·simp only [Act.put, List.setIfInBounds_toArray, List.set_cons_zero, List.set_cons_succ, i64_w, i32_w]
               rfl
              refine pure_ (i := 11) (N := some 83) (v := undef) (a' := ?_) #[true, true, true, true, true, true, true, true, true, true, true, true, false, false, false, false, false, false, false, false, false, false, false] rfl rfl (any_of HT_.out (by kernel_rfl)) (fun _ _ _ h => h) (Or.inr ⟨by rfl, rfl⟩) ?_ ?_
              rotate_left
              ·simp only [Act.put, List.setIfInBounds_toArray, List.set_cons_zero, List.set_cons_succ, i64_w, i32_w]
               rfl
              refine pure_ (i := 12) (N := some 84) (v := undef) (a' := ?_) #[true, true, true, true, true, true, true, true, true, true, true, true, true, false, false, false, false, false, false, false, false, false, false] rfl rfl (any_of HT_.out (by kernel_rfl)) (fun _ _ _ h => h) (Or.inr ⟨by rfl, rfl⟩) ?_ ?_
              rotate_left
              ·simp only [Act.put, List.setIfInBounds_toArray, List.set_cons_zero, List.set_cons_succ, i64_w, i32_w]
               rfl
              refine pure_ (i := 13) (N := some 85) (v := undef) (a' := ?_) #[true, true, true, true, true, true, true, true, true, true, true, true, true, true, false, false, false, false, false, false, false, false, false] rfl rfl (any_of HT_.out (by kernel_rfl)) (fun _ _ _ h => h) (Or.inr ⟨by rfl, rfl⟩) ?_ ?_
              rotate_left
              ·simp only [Act.put, List.setIfInBounds_toArray, List.set_cons_zero, List.set_cons_succ, i64_w, i32_w]
               rfl
              refine pure_ (i := 14) (N := some 86) (v := undef) (a' := ?_) #[true, true, true, true, true, true, true, true, true, true, true, true, true, true, true, false, false, false, false, false, false, false, false] rfl rfl (any_of HT_.out (by kernel_rfl)) (fun _ _ _ h => h) (Or.inr ⟨by rfl, rfl⟩) ?_ ?_
              rotate_left
              ·simp only [Act.put, List.setIfInBounds_toArray, List.set_cons_zero, List.set_cons_succ, i64_w, i32_w]
               rfl
              refine pure_ (i := 15) (N := some 87) (v := undef) (a' := ?_) #[true, true, true, true, true, true, true, true, true, true, true, true, true, true, true, true, false, false, false, false, false, false, false] rfl rfl (any_of HT_.out (by kernel_rfl)) (fun _ _ _ h => h) (Or.inr ⟨by rfl, rfl⟩) ?_ ?_
              rotate_left
              ·simp only [Act.put, List.setIfInBounds_toArray, List.set_cons_zero, List.set_cons_succ, i64_w, i32_w]
               rfl
              refine pure_ (i := 16) (N := some 88) (v := undef) (a' := ?_) #[true, true, true, true, true, true, true, true, true, true, true, true, true, true, true, true, true, false, false, false, false, false, false] rfl rfl (any_of HT_.out (by kernel_rfl)) (fun _ _ _ h => h) (Or.inr ⟨by rfl, rfl⟩) ?_ ?_
              rotate_left
              ·simp only [Act.put, List.setIfInBounds_toArray, List.set_cons_zero, List.set_cons_succ, i64_w, i32_w]
               rfl
              refine pure_ (i := 17) (N := some 89) (v := undef) (a' := ?_) #[true, true, true, true, true, true, true, true, true, true, true, true, true, true, true, true, true, true, false, false, false, false, false] rfl rfl (any_of HT_.out (by kernel_rfl)) (fun _ _ _ h => h) (Or.inr ⟨by rfl, rfl⟩) ?_ ?_
              rotate_left
              ·simp only [Act.put, List.setIfInBounds_toArray, List.set_cons_zero, List.set_cons_succ, i64_w, i32_w]
               rfl
              refine pure_ (i := 18) (N := some 90) (v := undef) (a' := ?_) #[true, true, true, true, true, true, true, true, true, true, true, true, true, true, true, true, true, true, true, false, false, false, false] rfl rfl (any_of HT_.out (by kernel_rfl)) (fun _ _ _ h => h) (Or.inr ⟨by rfl, rfl⟩) ?_ ?_
              rotate_left
              ·simp only [Act.put, List.setIfInBounds_toArray, List.set_cons_zero, List.set_cons_succ, i64_w, i32_w]
               rfl
              refine pure_ (i := 19) (N := some 91) (v := undef) (a' := ?_) #[true, true, true, true, true, true, true, true, true, true, true, true, true, true, true, true, true, true, true, true, false, false, false] rfl rfl (any_of HT_.out (by kernel_rfl)) (fun _ _ _ h => h) (Or.inr ⟨by rfl, rfl⟩) ?_ ?_
              rotate_left
              ·simp only [Act.put, List.setIfInBounds_toArray, List.set_cons_zero, List.set_cons_succ, i64_w, i32_w]
               rfl
              refine pure_ (i := 20) (N := some 92) (v := ?_) (a' := ?_) #[true, true, true, true, true, true, true, true, true, true, true, true, true, true, true, true, true, true, true, true, true, false, false] rfl rfl (any_of HT_.out (by kernel_rfl)) (fun _ _ _ h => h) (Or.inl ⟨by rfl, ?_⟩) ?_ ?_
              rotate_left
              ·intro w'
               go_simp
               with_reducible rfl
              rotate_left
              ·simp only [Act.put, List.setIfInBounds_toArray, List.set_cons_zero, List.set_cons_succ, i64_w, i32_w]
               rfl
              refine one_ (i := 21) (N := none) #[true, true, true, true, true, true, true, true, true, true, true, true, true, true, true, true, true, true, true, true, true, true, false] rfl rfl (one_of HT_.out (by kernel_rfl)) (by decide) (fun K hK => ?_)
              have hs53 : w52.cell? ⟨gb105, 0, none⟩ = some (.int .i64 0) := (blk_cell BK105.out 0).trans rfl
              have hfs53 := blk_frozen BK105.out 0; have hs54 : w52.cell? ⟨gb105, 1, none⟩ = some (.int .i64 0) := (blk_cell BK105.out 1).trans rfl
              have hfs54 := blk_frozen BK105.out 1; have hs55 : w52.cell? ⟨gb105, 2, none⟩ = some (.string (⟨#[]⟩ : ByteArray)) := (blk_cell BK105.out 2).trans rfl
              have hfs55 := blk_frozen BK105.out 2; have hs56 : w52.cell? ⟨gb105, 3, none⟩ = some (.int .i32 0) := (blk_cell BK105.out 3).trans rfl
              have hfs56 := blk_frozen BK105.out 3; refine skip_ (w1 := ?_) (by rfl) rfl ?_ ?_
              rotate_left
              ·go_simp
               rfl
              refine hK.out _ _ trivial (fun hHeld => ?_)
              clear hK K; refine pure_ (i := 22) (N := some 7) (v := ?_) (a' := ?_) #[true, true, true, true, true, true, true, true, true, true, true, true, true, true, true, true, true, true, true, true, true, true, true] rfl rfl (any_of HT_.out (by kernel_rfl)) (fun _ _ _ h => h) (Or.inl ⟨by rfl, ?_⟩) ?_ ?_
              rotate_left
              ·intro w'
               go_simp
               with_reducible rfl
              rotate_left
              ·simp only [Act.put, List.setIfInBounds_toArray, List.set_cons_zero, List.set_cons_succ, i64_w, i32_w]
               rfl
              refine done_ (done_of HT_.out (by kernel_rfl)) ?_
              try go_wp2
              refine bodyPost_ret (results_ct rfl _ _ gb105 30 #[.int .i64 1, .int .i64 a1, .string (a0.extract (a1 : Int).toNat (x8_1 : Int).toNat), .int .i32 t111] (0, 0) _ rfl (by (with_reducible repeat (first | refine blk_drewN ?_ _ | refine blk_drew ?_ | refine blk_alloc ?_ _)); refine blk_put (cs := #[.int .i64 1, .int .i64 a1, .string (a0.extract (a1 : Int).toNat (x8_1 : Int).toNat), .int .i32 0]) ?_ 3 _ rfl; (with_reducible repeat (first | refine blk_drewN ?_ _ | refine blk_drew ?_ | refine blk_alloc ?_ _)); refine blk_put (cs := #[.int .i64 1, .int .i64 a1, .string (⟨#[]⟩ : ByteArray), .int .i32 0]) ?_ 2 _ rfl; (with_reducible repeat (first | refine blk_drewN ?_ _ | refine blk_drew ?_ | refine blk_alloc ?_ _)); refine blk_put (cs := #[.int .i64 1, .int .i64 0, .string (⟨#[]⟩ : ByteArray), .int .i32 0]) ?_ 1 _ rfl; (with_reducible repeat (first | refine blk_drewN ?_ _ | refine blk_drew ?_ | refine blk_alloc ?_ _)); refine blk_put (cs := #[.int .i64 0, .int .i64 0, .string (⟨#[]⟩ : ByteArray), .int .i32 0]) ?_ 0 _ rfl; (with_reducible repeat (first | refine blk_drewN ?_ _ | refine blk_drew ?_ | refine blk_alloc ?_ _)); exact BK105.out) Tryd.underlying30 rfl (by kernel_rfl)) rfl ?_
              exact ⟨by first | rfl | (simp [errW_none, errW_some] <;> rfl) | (simp [*, errW_none, errW_some] <;> rfl), by repeat (first | (with_reducible first | exact HB.out | apply below_alloc | apply pw_below_drewN | apply below_drew1 | refine below_set ?_ GE105.out) | exact HB.out)⟩
            ·rw [if_neg c33] at H; exact absurd H (by simp)
           ·rw [if_neg c32] at H; exact absurd H (by simp)
          ·rw [if_neg c31] at H; exact absurd H (by simp)
        ·rw [if_neg c27] at H; exact absurd H (by simp)
       ·rw [if_neg c26] at H; have c26b0 : decide (x8_1 < (a0.size : Int)) = false := decide_eq_false c26
        clear c26; by_cases c57 : 0 ≤ a1
        ·rw [if_pos c57] at H; have c57b0 := eq_true c57; have c57b1 : decide (0 ≤ a1) = true := decide_eq_true c57
         clear c57; by_cases c58 : a1 ≤ x8_1
         ·rw [if_pos c58] at H; have c58b0 := eq_true c58; have c58b1 : decide (a1 ≤ x8_1) = true := decide_eq_true c58
          clear c58; by_cases c59 : x8_1 ≤ (a0.size : Int)
          ·rw [if_pos c59] at H; have c59b0 := eq_true c59; have c59b1 : decide (x8_1 ≤ (a0.size : Int)) = true := decide_eq_true c59
           clear c59; replace H := Option.bind_eq_some_iff.mp H; obtain ⟨⟨t114, t115⟩, A600, H⟩ := H; replace H : (if t115 = true then (if x8_1 = (a0.size : Int) then (some (1, a1, a0.extract (a1 : Int).toNat (x8_1 : Int).toNat, t114, true)) else (if 0 ≤ x8_1 then (none) else (none))) else (some (1, a1, a0.extract (a1 : Int).toNat (x8_1 : Int).toNat, t114, false))) = some (r1, r2, r3, r4, r5) := H
           have A60 := Aside0.mk A600; clear A600; have c61b0 := eq_true (of_decide_eq_true (by with_reducible assumption) : 0 ≤ a1)
           have c62b0 := eq_true (of_decide_eq_true (by with_reducible assumption) : a1 ≤ x8_1)
           have c63b0 := eq_true (of_decide_eq_true (by with_reducible assumption) : x8_1 ≤ (a0.size : Int))
           by_cases c64 : t115 = true
           ·subst c64; have H1 : (if x8_1 = (a0.size : Int) then (some (1, a1, a0.extract (a1 : Int).toNat (x8_1 : Int).toNat, t114, true)) else (if 0 ≤ x8_1 then (none) else (none))) = some (r1, r2, r3, r4, r5) := by rw [if_pos rfl] at H; exact H
            clear H; have H := H1; clear H1; by_cases c65 : x8_1 = (a0.size : Int)
            ·rw [if_pos c65] at H; have c65b0 : (x8_1 == (a0.size : Int)) = true := beq_iff_eq.mpr c65
             have c65b1 : (x8_1 != (a0.size : Int)) = false := bne_eq_false_iff_eq.mpr c65
             clear c65; simp only [Option.some.injEq, Prod.mk.injEq] at H
             obtain ⟨rfl, rfl, rfl, rfl, rfl⟩ := H; try go_wp2_with (first | ((with_reducible refine gate_callee (f := 39) rfl ?_); refine goesL_ (some 69) rfl rfl Tryd.func39 (by kernel_rfl) rfl #[.string (a0.extract (a1 : Int).toNat (x8_1 : Int).toNat)] rfl (by (try simp only [List.map_toArray, List.map_cons, List.map_nil]); first | done | rfl | (simp only [List.length_drop, List.length_take]; rfl)) ?_; (with_reducible refine (lex_integer.calls k1 (a0.extract (a1 : Int).toNat (x8_1 : Int).toNat) t114 true _ A60.out).mono ?_); rintro e w' ⟨rfl, ⟨nd, rfl⟩⟩; refine ⟨_, rfl, ?_⟩; (try (rw [drewN_self wr]; generalize hq_ : World.drewN wr _ = wr; have n0_ : Aside0 (wr.heap[gb105]? = some (.cells #[.int .i64 0, .int .i64 0, .string (⟨#[]⟩ : ByteArray), .int .i32 0] 30 (0, 0))) := ⟨by rw [← hq_]; exact (by (with_reducible repeat (first | refine blk_drewN ?_ _ | refine blk_drew ?_ | refine blk_alloc ?_ _)); exact BK105.out)⟩; have n1_ : Aside0 (Below w.heap.size w wr) := ⟨by rw [← hq_]; exact (by repeat (first | (with_reducible first | exact HB.out | apply below_alloc | apply pw_below_drewN | apply below_drew1 | refine below_set ?_ GE105.out) | exact HB.out))⟩; clear BK105 HB hq_; have BK105 := n0_; have HB := n1_; clear n0_ n1_))))
             have n0_ := Aside0.mk (blk_drew BK105.out); have n1_ := Aside0.mk (below_drew1 HB.out); clear BK105; clear HB; have BK105 := n0_; have HB := n1_; clear n0_ n1_; refine start_ (n := 23) (S := fun w' => True) (ds := []) #[false, false, false, false, false, false, false, false, false, false, false, false, false, false, false, false, false, false, false, false, false, false, false] (by kernel_rfl) rfl rfl trivial (fun hHeld => ?_); refine with_tabW lex_next.tab14 lex_next.bits14 (fun HT_ HW_ => ?_)
             generalize wr.drew = w66 at BK105 HB hHeld ⊢
             refine pure_ (i := 0) (N := some 72) (v := ?_) (a' := ?_) #[true, false, false, false, false, false, false, false, false, false, false, false, false, false, false, false, false, false, false, false, false, false, false] rfl rfl (any_of HT_.out (by kernel_rfl)) (fun _ _ _ h => h) (Or.inl ⟨by rfl, ?_⟩) ?_ ?_
             rotate_left
             ·intro w'
              go_simp
              with_reducible rfl
             rotate_left
             ·simp only [Act.put, List.setIfInBounds_toArray, List.set_cons_zero, List.set_cons_succ, i64_w, i32_w]
              rfl
             refine pure_ (i := 1) (N := some 73) (v := ?_) (a' := ?_) #[true, true, false, false, false, false, false, false, false, false, false, false, false, false, false, false, false, false, false, false, false, false, false] rfl rfl (any_of HT_.out (by kernel_rfl)) (fun _ _ _ h => h) (Or.inl ⟨by rfl, ?_⟩) ?_ ?_
             rotate_left
             ·intro w'
              go_simp
              with_reducible rfl
             rotate_left
             ·simp only [Act.put, List.setIfInBounds_toArray, List.set_cons_zero, List.set_cons_succ, i64_w, i32_w]
              rfl
             refine pure_ (i := 2) (N := some 74) (v := ?_) (a' := ?_) #[true, true, true, false, false, false, false, false, false, false, false, false, false, false, false, false, false, false, false, false, false, false, false] rfl rfl (any_of HT_.out (by kernel_rfl)) (fun _ _ _ h => h) (Or.inl ⟨by rfl, ?_⟩) ?_ ?_
             rotate_left
             ·intro w'
              go_simp
              with_reducible rfl
             rotate_left
             ·simp only [Act.put, List.setIfInBounds_toArray, List.set_cons_zero, List.set_cons_succ, i64_w, i32_w]
              rfl
             refine pure_ (i := 3) (N := some 75) (v := ?_) (a' := ?_) #[true, true, true, true, false, false, false, false, false, false, false, false, false, false, false, false, false, false, false, false, false, false, false] rfl rfl (any_of HT_.out (by kernel_rfl)) (fun _ _ _ h => h) (Or.inl ⟨by rfl, ?_⟩) ?_ ?_
             rotate_left
             ·intro w'
              go_simp
              with_reducible rfl
             rotate_left
             ·simp only [Act.put, List.setIfInBounds_toArray, List.set_cons_zero, List.set_cons_succ, i64_w, i32_w]
              rfl
             refine pure_ (i := 4) (N := some 76) (v := ?_) (a' := ?_) #[true, true, true, true, true, false, false, false, false, false, false, false, false, false, false, false, false, false, false, false, false, false, false] rfl rfl (any_of HT_.out (by kernel_rfl)) (fun _ _ _ h => h) (Or.inl ⟨by rfl, ?_⟩) ?_ ?_
             rotate_left
             ·intro w'
              go_simp
              with_reducible rfl
             rotate_left
             ·simp only [Act.put, List.setIfInBounds_toArray, List.set_cons_zero, List.set_cons_succ, i64_w, i32_w]
              rfl
             refine pure_ (i := 5) (N := some 77) (v := ?_) (a' := ?_) #[true, true, true, true, true, true, false, false, false, false, false, false, false, false, false, false, false, false, false, false, false, false, false] rfl rfl (any_of HT_.out (by kernel_rfl)) (fun _ _ _ h => h) (Or.inl ⟨by rfl, ?_⟩) ?_ ?_
             rotate_left
             ·intro w'
              go_simp
              with_reducible rfl
             rotate_left
             ·simp only [Act.put, List.setIfInBounds_toArray, List.set_cons_zero, List.set_cons_succ, i64_w, i32_w]
              rfl
             refine pure_ (i := 6) (N := some 78) (v := ?_) (a' := ?_) #[true, true, true, true, true, true, true, false, false, false, false, false, false, false, false, false, false, false, false, false, false, false, false] rfl rfl (any_of HT_.out (by kernel_rfl)) (fun _ _ _ h => h) (Or.inl ⟨by rfl, ?_⟩) ?_ ?_
             rotate_left
             ·intro w'
              go_simp
              with_reducible rfl
             rotate_left
             ·simp only [Act.put, List.setIfInBounds_toArray, List.set_cons_zero, List.set_cons_succ, i64_w, i32_w]
              rfl
             refine pure_ (i := 7) (N := some 79) (v := ?_) (a' := ?_) #[true, true, true, true, true, true, true, true, false, false, false, false, false, false, false, false, false, false, false, false, false, false, false] rfl rfl (any_of HT_.out (by kernel_rfl)) (fun _ _ _ h => h) (Or.inl ⟨by rfl, ?_⟩) ?_ ?_
             rotate_left
             ·intro w'
              go_simp
              with_reducible rfl
             rotate_left
             ·simp only [Act.put, List.setIfInBounds_toArray, List.set_cons_zero, List.set_cons_succ, i64_w, i32_w]
              rfl
             refine pure_ (i := 8) (N := some 80) (v := ?_) (a' := ?_) #[true, true, true, true, true, true, true, true, true, false, false, false, false, false, false, false, false, false, false, false, false, false, false] rfl rfl (any_of HT_.out (by kernel_rfl)) (fun _ _ _ h => h) (Or.inl ⟨by rfl, ?_⟩) ?_ ?_
             rotate_left
             ·intro w'
              go_simp
              with_reducible rfl
             rotate_left
             ·simp only [Act.put, List.setIfInBounds_toArray, List.set_cons_zero, List.set_cons_succ, i64_w, i32_w]
              rfl
             refine pure_ (i := 9) (N := some 81) (v := ?_) (a' := ?_) #[true, true, true, true, true, true, true, true, true, true, false, false, false, false, false, false, false, false, false, false, false, false, false] rfl rfl (any_of HT_.out (by kernel_rfl)) (fun _ _ _ h => h) (Or.inl ⟨by rfl, ?_⟩) ?_ ?_
             rotate_left
             ·intro w'
              go_simp
              with_reducible rfl
             rotate_left
             ·simp only [Act.put, List.setIfInBounds_toArray, List.set_cons_zero, List.set_cons_succ, i64_w, i32_w]
              rfl
             refine pure_ (i := 10) (N := some 82) (v := ?_) (a' := ?_) #[true, true, true, true, true, true, true, true, true, true, true, false, false, false, false, false, false, false, false, false, false, false, false] rfl rfl (any_of HT_.out (by kernel_rfl)) (fun _ _ _ h => h) (Or.inl ⟨by rfl, ?_⟩) ?_ ?_
             rotate_left
             ·intro w'
              go_simp
              with_reducible rfl
             rotate_left
             ·simp only [Act.put, List.setIfInBounds_toArray, List.set_cons_zero, List.set_cons_succ, i64_w, i32_w]
              rfl
             refine pure_ (i := 11) (N := some 83) (v := ?_) (a' := ?_) #[true, true, true, true, true, true, true, true, true, true, true, true, false, false, false, false, false, false, false, false, false, false, false] rfl rfl (any_of HT_.out (by kernel_rfl)) (fun _ _ _ h => h) (Or.inl ⟨by rfl, ?_⟩) ?_ ?_
             rotate_left
             ·intro w'
              go_simp
              with_reducible rfl
             rotate_left
             ·simp only [Act.put, List.setIfInBounds_toArray, List.set_cons_zero, List.set_cons_succ, i64_w, i32_w]
              rfl
             refine pure_ (i := 12) (N := some 84) (v := ?_) (a' := ?_) #[true, true, true, true, true, true, true, true, true, true, true, true, true, false, false, false, false, false, false, false, false, false, false] rfl rfl (any_of HT_.out (by kernel_rfl)) (fun _ _ _ h => h) (Or.inl ⟨by rfl, ?_⟩) ?_ ?_
             rotate_left
             ·intro w'
              go_simp
              with_reducible rfl
             rotate_left
             ·simp only [Act.put, List.setIfInBounds_toArray, List.set_cons_zero, List.set_cons_succ, i64_w, i32_w]
              rfl
             refine pure_ (i := 13) (N := some 85) (v := ?_) (a' := ?_) #[true, true, true, true, true, true, true, true, true, true, true, true, true, true, false, false, false, false, false, false, false, false, false] rfl rfl (any_of HT_.out (by kernel_rfl)) (fun _ _ _ h => h) (Or.inl ⟨by rfl, ?_⟩) ?_ ?_
             rotate_left
             ·intro w'
              go_simp
              with_reducible rfl
             rotate_left
             ·simp only [Act.put, List.setIfInBounds_toArray, List.set_cons_zero, List.set_cons_succ, i64_w, i32_w]
              rfl
             refine pure_ (i := 14) (N := some 86) (v := undef) (a' := ?_) #[true, true, true, true, true, true, true, true, true, true, true, true, true, true, true, false, false, false, false, false, false, false, false] rfl rfl (any_of HT_.out (by kernel_rfl)) (fun _ _ _ h => h) (Or.inr ⟨by rfl, rfl⟩) ?_ ?_
             rotate_left
             ·simp only [Act.put, List.setIfInBounds_toArray, List.set_cons_zero, List.set_cons_succ, i64_w, i32_w]
              rfl
             refine pure_ (i := 15) (N := some 87) (v := undef) (a' := ?_) #[true, true, true, true, true, true, true, true, true, true, true, true, true, true, true, true, false, false, false, false, false, false, false] rfl rfl (any_of HT_.out (by kernel_rfl)) (fun _ _ _ h => h) (Or.inr ⟨by rfl, rfl⟩) ?_ ?_
             rotate_left
             ·simp only [Act.put, List.setIfInBounds_toArray, List.set_cons_zero, List.set_cons_succ, i64_w, i32_w]
              rfl
             refine pure_ (i := 16) (N := some 88) (v := undef) (a' := ?_) #[true, true, true, true, true, true, true, true, true, true, true, true, true, true, true, true, true, false, false, false, false, false, false] rfl rfl (any_of HT_.out (by kernel_rfl)) (fun _ _ _ h => h) (Or.inr ⟨by rfl, rfl⟩) ?_ ?_
             rotate_left
             ·simp only [Act.put, List.setIfInBounds_toArray, List.set_cons_zero, List.set_cons_succ, i64_w, i32_w]
              rfl
             refine pure_ (i := 17) (N := some 89) (v := undef) (a' := ?_) #[true, true, true, true, true, true, true, true, true, true, true, true, true, true, true, true, true, true, false, false, false, false, false] rfl rfl (any_of HT_.out (by kernel_rfl)) (fun _ _ _ h => h) (Or.inr ⟨by rfl, rfl⟩) ?_ ?_
             rotate_left
             ·simp only [Act.put, List.setIfInBounds_toArray, List.set_cons_zero, List.set_cons_succ, i64_w, i32_w]
              rfl
             refine pure_ (i := 18) (N := some 90) (v := undef) (a' := ?_) #[true, true, true, true, true, true, true, true, true, true, true, true, true, true, true, true, true, true, true, false, false, false, false] rfl rfl (any_of HT_.out (by kernel_rfl)) (fun _ _ _ h => h) (Or.inr ⟨by rfl, rfl⟩) ?_ ?_
             rotate_left
             ·simp only [Act.put, List.setIfInBounds_toArray, List.set_cons_zero, List.set_cons_succ, i64_w, i32_w]
              rfl
             refine pure_ (i := 19) (N := some 91) (v := ?_) (a' := ?_) #[true, true, true, true, true, true, true, true, true, true, true, true, true, true, true, true, true, true, true, true, false, false, false] rfl rfl (any_of HT_.out (by kernel_rfl)) (fun _ _ _ h => h) (Or.inl ⟨by rfl, ?_⟩) ?_ ?_
             rotate_left
             ·intro w'
              go_simp
              with_reducible rfl
             rotate_left
             ·simp only [Act.put, List.setIfInBounds_toArray, List.set_cons_zero, List.set_cons_succ, i64_w, i32_w]
              rfl
             refine pure_ (i := 20) (N := some 92) (v := ?_) (a' := ?_) #[true, true, true, true, true, true, true, true, true, true, true, true, true, true, true, true, true, true, true, true, true, false, false] rfl rfl (any_of HT_.out (by kernel_rfl)) (fun _ _ _ h => h) (Or.inl ⟨by rfl, ?_⟩) ?_ ?_
             rotate_left
             ·intro w'
              go_simp
              with_reducible rfl
             rotate_left
             ·simp only [Act.put, List.setIfInBounds_toArray, List.set_cons_zero, List.set_cons_succ, i64_w, i32_w]
              rfl
             refine one_ (i := 21) (N := none) #[true, true, true, true, true, true, true, true, true, true, true, true, true, true, true, true, true, true, true, true, true, true, false] rfl rfl (one_of HT_.out (by kernel_rfl)) (by decide) (fun K hK => ?_)
             have hs67 : w66.cell? ⟨gb105, 0, none⟩ = some (.int .i64 0) := (blk_cell BK105.out 0).trans rfl
             have hfs67 := blk_frozen BK105.out 0; have hs68 : w66.cell? ⟨gb105, 1, none⟩ = some (.int .i64 0) := (blk_cell BK105.out 1).trans rfl
             have hfs68 := blk_frozen BK105.out 1; have hs69 : w66.cell? ⟨gb105, 2, none⟩ = some (.string (⟨#[]⟩ : ByteArray)) := (blk_cell BK105.out 2).trans rfl
             have hfs69 := blk_frozen BK105.out 2; have hs70 : w66.cell? ⟨gb105, 3, none⟩ = some (.int .i32 0) := (blk_cell BK105.out 3).trans rfl
             have hfs70 := blk_frozen BK105.out 3; refine skip_ (w1 := ?_) (by rfl) rfl ?_ ?_
             rotate_left
             ·go_simp
              rfl
             refine hK.out _ _ trivial (fun hHeld => ?_)
             clear hK K; refine pure_ (i := 22) (N := some 7) (v := ?_) (a' := ?_) #[true, true, true, true, true, true, true, true, true, true, true, true, true, true, true, true, true, true, true, true, true, true, true] rfl rfl (any_of HT_.out (by kernel_rfl)) (fun _ _ _ h => h) (Or.inl ⟨by rfl, ?_⟩) ?_ ?_
             rotate_left
             ·intro w'
              go_simp
              with_reducible rfl
             rotate_left
             ·simp only [Act.put, List.setIfInBounds_toArray, List.set_cons_zero, List.set_cons_succ, i64_w, i32_w]
              rfl
             refine done_ (done_of HT_.out (by kernel_rfl)) ?_
             try go_wp2
             refine bodyPost_ret (results_ct rfl _ _ gb105 30 #[.int .i64 1, .int .i64 a1, .string (a0.extract (a1 : Int).toNat (x8_1 : Int).toNat), .int .i32 t114] (0, 0) _ rfl (by (with_reducible repeat (first | refine blk_drewN ?_ _ | refine blk_drew ?_ | refine blk_alloc ?_ _)); refine blk_put (cs := #[.int .i64 1, .int .i64 a1, .string (a0.extract (a1 : Int).toNat (x8_1 : Int).toNat), .int .i32 0]) ?_ 3 _ rfl; (with_reducible repeat (first | refine blk_drewN ?_ _ | refine blk_drew ?_ | refine blk_alloc ?_ _)); refine blk_put (cs := #[.int .i64 1, .int .i64 a1, .string (⟨#[]⟩ : ByteArray), .int .i32 0]) ?_ 2 _ rfl; (with_reducible repeat (first | refine blk_drewN ?_ _ | refine blk_drew ?_ | refine blk_alloc ?_ _)); refine blk_put (cs := #[.int .i64 1, .int .i64 0, .string (⟨#[]⟩ : ByteArray), .int .i32 0]) ?_ 1 _ rfl; (with_reducible repeat (first | refine blk_drewN ?_ _ | refine blk_drew ?_ | refine blk_alloc ?_ _)); refine blk_put (cs := #[.int .i64 0, .int .i64 0, .string (⟨#[]⟩ : ByteArray), .int .i32 0]) ?_ 0 _ rfl; (with_reducible repeat (first | refine blk_drewN ?_ _ | refine blk_drew ?_ | refine blk_alloc ?_ _)); exact BK105.out) Tryd.underlying30 rfl (by kernel_rfl)) rfl ?_
             exact ⟨by first | rfl | (simp [errW_none, errW_some] <;> rfl) | (simp [*, errW_none, errW_some] <;> rfl), by repeat (first | (with_reducible first | exact HB.out | apply below_alloc | apply pw_below_drewN | apply below_drew1 | refine below_set ?_ GE105.out) | exact HB.out)⟩
            ·rw [if_neg c65] at H; have c65b0 : (x8_1 == (a0.size : Int)) = false := beq_eq_false_iff_ne.mpr c65
             have c65b1 : (x8_1 != (a0.size : Int)) = true := bne_iff_ne.mpr c65
             by_cases c71 : 0 ≤ x8_1
             ·rw [if_pos c71] at H; exact absurd H (by simp)
             ·rw [if_neg c71] at H; exact absurd H (by simp)
           ·replace c64 := Bool.eq_false_iff.mpr c64; subst c64; have H1 : (some (1, a1, a0.extract (a1 : Int).toNat (x8_1 : Int).toNat, t114, false)) = some (r1, r2, r3, r4, r5) := by rw [if_neg (show ¬ (false = true) by decide)] at H; exact H
            clear H; have H := H1; clear H1; simp only [Option.some.injEq, Prod.mk.injEq] at H
            obtain ⟨rfl, rfl, rfl, rfl, rfl⟩ := H; try go_wp2_with (first | ((with_reducible refine gate_callee (f := 39) rfl ?_); refine goesL_ (some 69) rfl rfl Tryd.func39 (by kernel_rfl) rfl #[.string (a0.extract (a1 : Int).toNat (x8_1 : Int).toNat)] rfl (by (try simp only [List.map_toArray, List.map_cons, List.map_nil]); first | done | rfl | (simp only [List.length_drop, List.length_take]; rfl)) ?_; (with_reducible refine (lex_integer.calls k1 (a0.extract (a1 : Int).toNat (x8_1 : Int).toNat) t114 false _ A60.out).mono ?_); rintro e w' ⟨rfl, ⟨nd, rfl⟩⟩; refine ⟨_, rfl, ?_⟩; (try (rw [drewN_self wr]; generalize hq_ : World.drewN wr _ = wr; have n0_ : Aside0 (wr.heap[gb105]? = some (.cells #[.int .i64 0, .int .i64 0, .string (⟨#[]⟩ : ByteArray), .int .i32 0] 30 (0, 0))) := ⟨by rw [← hq_]; exact (by (with_reducible repeat (first | refine blk_drewN ?_ _ | refine blk_drew ?_ | refine blk_alloc ?_ _)); exact BK105.out)⟩; have n1_ : Aside0 (Below w.heap.size w wr) := ⟨by rw [← hq_]; exact (by repeat (first | (with_reducible first | exact HB.out | apply below_alloc | apply pw_below_drewN | apply below_drew1 | refine below_set ?_ GE105.out) | exact HB.out))⟩; clear BK105 HB hq_; have BK105 := n0_; have HB := n1_; clear n0_ n1_))))
            have n0_ := Aside0.mk (blk_drew BK105.out); have n1_ := Aside0.mk (below_drew1 HB.out); clear BK105; clear HB; have BK105 := n0_; have HB := n1_; clear n0_ n1_; refine start_ (n := 23) (S := fun w' => True) (ds := []) #[false, false, false, false, false, false, false, false, false, false, false, false, false, false, false, false, false, false, false, false, false, false, false] (by kernel_rfl) rfl rfl trivial (fun hHeld => ?_); refine with_tabW lex_next.tab14 lex_next.bits14 (fun HT_ HW_ => ?_)
            generalize wr.drew = w72 at BK105 HB hHeld ⊢
            refine pure_ (i := 0) (N := some 72) (v := ?_) (a' := ?_) #[true, false, false, false, false, false, false, false, false, false, false, false, false, false, false, false, false, false, false, false, false, false, false] rfl rfl (any_of HT_.out (by kernel_rfl)) (fun _ _ _ h => h) (Or.inl ⟨by rfl, ?_⟩) ?_ ?_
            rotate_left
            ·intro w'
             go_simp
             with_reducible rfl
            rotate_left
            ·simp only [Act.put, List.setIfInBounds_toArray, List.set_cons_zero, List.set_cons_succ, i64_w, i32_w]
             rfl
            refine pure_ (i := 1) (N := some 73) (v := ?_) (a' := ?_) #[true, true, false, false, false, false, false, false, false, false, false, false, false, false, false, false, false, false, false, false, false, false, false] rfl rfl (any_of HT_.out (by kernel_rfl)) (fun _ _ _ h => h) (Or.inl ⟨by rfl, ?_⟩) ?_ ?_
            rotate_left
            ·intro w'
             go_simp
             with_reducible rfl
            rotate_left
            ·simp only [Act.put, List.setIfInBounds_toArray, List.set_cons_zero, List.set_cons_succ, i64_w, i32_w]
             rfl
            refine pure_ (i := 2) (N := some 74) (v := ?_) (a' := ?_) #[true, true, true, false, false, false, false, false, false, false, false, false, false, false, false, false, false, false, false, false, false, false, false] rfl rfl (any_of HT_.out (by kernel_rfl)) (fun _ _ _ h => h) (Or.inl ⟨by rfl, ?_⟩) ?_ ?_
            rotate_left
            ·intro w'
             go_simp
             with_reducible rfl
            rotate_left
            ·simp only [Act.put, List.setIfInBounds_toArray, List.set_cons_zero, List.set_cons_succ, i64_w, i32_w]
             rfl
            refine pure_ (i := 3) (N := some 75) (v := ?_) (a' := ?_) #[true, true, true, true, false, false, false, false, false, false, false, false, false, false, false, false, false, false, false, false, false, false, false] rfl rfl (any_of HT_.out (by kernel_rfl)) (fun _ _ _ h => h) (Or.inl ⟨by rfl, ?_⟩) ?_ ?_
            rotate_left
            ·intro w'
             go_simp
             with_reducible rfl
            rotate_left
            ·simp only [Act.put, List.setIfInBounds_toArray, List.set_cons_zero, List.set_cons_succ, i64_w, i32_w]
             rfl
            refine pure_ (i := 4) (N := some 76) (v := ?_) (a' := ?_) #[true, true, true, true, true, false, false, false, false, false, false, false, false, false, false, false, false, false, false, false, false, false, false] rfl rfl (any_of HT_.out (by kernel_rfl)) (fun _ _ _ h => h) (Or.inl ⟨by rfl, ?_⟩) ?_ ?_
            rotate_left
            ·intro w'
             go_simp
             with_reducible rfl
            rotate_left
            ·simp only [Act.put, List.setIfInBounds_toArray, List.set_cons_zero, List.set_cons_succ, i64_w, i32_w]
             rfl
            refine pure_ (i := 5) (N := some 77) (v := ?_) (a' := ?_) #[true, true, true, true, true, true, false, false, false, false, false, false, false, false, false, false, false, false, false, false, false, false, false] rfl rfl (any_of HT_.out (by kernel_rfl)) (fun _ _ _ h => h) (Or.inl ⟨by rfl, ?_⟩) ?_ ?_
            rotate_left
            ·intro w'
             go_simp
             with_reducible rfl
            rotate_left
            ·simp only [Act.put, List.setIfInBounds_toArray, List.set_cons_zero, List.set_cons_succ, i64_w, i32_w]
             rfl
            refine pure_ (i := 6) (N := some 78) (v := ?_) (a' := ?_) #[true, true, true, true, true, true, true, false, false, false, false, false, false, false, false, false, false, false, false, false, false, false, false] rfl rfl (any_of HT_.out (by kernel_rfl)) (fun _ _ _ h => h) (Or.inl ⟨by rfl, ?_⟩) ?_ ?_
            rotate_left
            ·intro w'
             go_simp
             with_reducible rfl
            rotate_left
            ·simp only [Act.put, List.setIfInBounds_toArray, List.set_cons_zero, List.set_cons_succ, i64_w, i32_w]
             rfl
            refine pure_ (i := 7) (N := some 79) (v := ?_) (a' := ?_) #[true, true, true, true, true, true, true, true, false, false, false, false, false, false, false, false, false, false, false, false, false, false, false] rfl rfl (any_of HT_.out (by kernel_rfl)) (fun _ _ _ h => h) (Or.inl ⟨by rfl, ?_⟩) ?_ ?_
            rotate_left
            ·intro w'
             go_simp
             with_reducible rfl
            rotate_left
            ·simp only [Act.put, List.setIfInBounds_toArray, List.set_cons_zero, List.set_cons_succ, i64_w, i32_w]
             rfl
            refine pure_ (i := 8) (N := some 80) (v := ?_) (a' := ?_) #[true, true, true, true, true, true, true, true, true, false, false, false, false, false, false, false, false, false, false, false, false, false, false] rfl rfl (any_of HT_.out (by kernel_rfl)) (fun _ _ _ h => h) (Or.inl ⟨by rfl, ?_⟩) ?_ ?_
            rotate_left
            ·intro w'
             go_simp
             with_reducible rfl
            rotate_left
            ·simp only [Act.put, List.setIfInBounds_toArray, List.set_cons_zero, List.set_cons_succ, i64_w, i32_w]
             rfl
            refine pure_ (i := 9) (N := some 81) (v := undef) (a' := ?_) #[true, true, true, true, true, true, true, true, true, true, false, false, false, false, false, false, false, false, false, false, false, false, false] rfl rfl (any_of HT_.out (by kernel_rfl)) (fun _ _ _ h => h) (Or.inr ⟨by rfl, rfl⟩) ?_ ?_
            rotate_left
            ·simp only [Act.put, List.setIfInBounds_toArray, List.set_cons_zero, List.set_cons_succ, i64_w, i32_w]
             rfl
            refine pure_ (i := 10) (N := some 82) (v := undef) (a' := ?_) #[true, true, true, true, true, true, true, true, true, true, true, false, false, false, false, false, false, false, false, false, false, false, false] rfl rfl (any_of HT_.out (by kernel_rfl)) (fun _ _ _ h => h) (Or.inr ⟨by rfl, rfl⟩) ?_ ?_
            rotate_left
            ·simp only [Act.put, List.setIfInBounds_toArray, List.set_cons_zero, List.set_cons_succ, i64_w, i32_w]
             rfl
            refine pure_ (i := 11) (N := some 83) (v := undef) (a' := ?_) #[true, true, true, true, true, true, true, true, true, true, true, true, false, false, false, false, false, false, false, false, false, false, false] rfl rfl (any_of HT_.out (by kernel_rfl)) (fun _ _ _ h => h) (Or.inr ⟨by rfl, rfl⟩) ?_ ?_
            rotate_left
            ·simp only [Act.put, List.setIfInBounds_toArray, List.set_cons_zero, List.set_cons_succ, i64_w, i32_w]
             rfl
            refine pure_ (i := 12) (N := some 84) (v := undef) (a' := ?_) #[true, true, true, true, true, true, true, true, true, true, true, true, true, false, false, false, false, false, false, false, false, false, false] rfl rfl (any_of HT_.out (by kernel_rfl)) (fun _ _ _ h => h) (Or.inr ⟨by rfl, rfl⟩) ?_ ?_
            rotate_left
            ·simp only [Act.put, List.setIfInBounds_toArray, List.set_cons_zero, List.set_cons_succ, i64_w, i32_w]
             rfl
            refine pure_ (i := 13) (N := some 85) (v := undef) (a' := ?_) #[true, true, true, true, true, true, true, true, true, true, true, true, true, true, false, false, false, false, false, false, false, false, false] rfl rfl (any_of HT_.out (by kernel_rfl)) (fun _ _ _ h => h) (Or.inr ⟨by rfl, rfl⟩) ?_ ?_
            rotate_left
            ·simp only [Act.put, List.setIfInBounds_toArray, List.set_cons_zero, List.set_cons_succ, i64_w, i32_w]
             rfl
            refine pure_ (i := 14) (N := some 86) (v := undef) (a' := ?_) #[true, true, true, true, true, true, true, true, true, true, true, true, true, true, true, false, false, false, false, false, false, false, false] rfl rfl (any_of HT_.out (by kernel_rfl)) (fun _ _ _ h => h) (Or.inr ⟨by rfl, rfl⟩) ?_ ?_
            rotate_left
            ·simp only [Act.put, List.setIfInBounds_toArray, List.set_cons_zero, List.set_cons_succ, i64_w, i32_w]
             rfl
            refine pure_ (i := 15) (N := some 87) (v := undef) (a' := ?_) #[true, true, true, true, true, true, true, true, true, true, true, true, true, true, true, true, false, false, false, false, false, false, false] rfl rfl (any_of HT_.out (by kernel_rfl)) (fun _ _ _ h => h) (Or.inr ⟨by rfl, rfl⟩) ?_ ?_
            rotate_left
            ·simp only [Act.put, List.setIfInBounds_toArray, List.set_cons_zero, List.set_cons_succ, i64_w, i32_w]
             rfl
            refine pure_ (i := 16) (N := some 88) (v := undef) (a' := ?_) #[true, true, true, true, true, true, true, true, true, true, true, true, true, true, true, true, true, false, false, false, false, false, false] rfl rfl (any_of HT_.out (by kernel_rfl)) (fun _ _ _ h => h) (Or.inr ⟨by rfl, rfl⟩) ?_ ?_
            rotate_left
            ·simp only [Act.put, List.setIfInBounds_toArray, List.set_cons_zero, List.set_cons_succ, i64_w, i32_w]
             rfl
            refine pure_ (i := 17) (N := some 89) (v := undef) (a' := ?_) #[true, true, true, true, true, true, true, true, true, true, true, true, true, true, true, true, true, true, false, false, false, false, false] rfl rfl (any_of HT_.out (by kernel_rfl)) (fun _ _ _ h => h) (Or.inr ⟨by rfl, rfl⟩) ?_ ?_
            rotate_left
            ·simp only [Act.put, List.setIfInBounds_toArray, List.set_cons_zero, List.set_cons_succ, i64_w, i32_w]
             rfl
            refine pure_ (i := 18) (N := some 90) (v := undef) (a' := ?_) #[true, true, true, true, true, true, true, true, true, true, true, true, true, true, true, true, true, true, true, false, false, false, false] rfl rfl (any_of HT_.out (by kernel_rfl)) (fun _ _ _ h => h) (Or.inr ⟨by rfl, rfl⟩) ?_ ?_
            rotate_left
            ·simp only [Act.put, List.setIfInBounds_toArray, List.set_cons_zero, List.set_cons_succ, i64_w, i32_w]
             rfl
            refine pure_ (i := 19) (N := some 91) (v := undef) (a' := ?_) #[true, true, true, true, true, true, true, true, true, true, true, true, true, true, true, true, true, true, true, true, false, false, false] rfl rfl (any_of HT_.out (by kernel_rfl)) (fun _ _ _ h => h) (Or.inr ⟨by rfl, rfl⟩) ?_ ?_
            rotate_left
            ·simp only [Act.put, List.setIfInBounds_toArray, List.set_cons_zero, List.set_cons_succ, i64_w, i32_w]
             rfl
            refine pure_ (i := 20) (N := some 92) (v := ?_) (a' := ?_) #[true, true, true, true, true, true, true, true, true, true, true, true, true, true, true, true, true, true, true, true, true, false, false] rfl rfl (any_of HT_.out (by kernel_rfl)) (fun _ _ _ h => h) (Or.inl ⟨by rfl, ?_⟩) ?_ ?_
            rotate_left
            ·intro w'
             go_simp
             with_reducible rfl
            rotate_left
            ·simp only [Act.put, List.setIfInBounds_toArray, List.set_cons_zero, List.set_cons_succ, i64_w, i32_w]
             rfl
            refine one_ (i := 21) (N := none) #[true, true, true, true, true, true, true, true, true, true, true, true, true, true, true, true, true, true, true, true, true, true, false] rfl rfl (one_of HT_.out (by kernel_rfl)) (by decide) (fun K hK => ?_)
            have hs73 : w72.cell? ⟨gb105, 0, none⟩ = some (.int .i64 0) := (blk_cell BK105.out 0).trans rfl
            have hfs73 := blk_frozen BK105.out 0; have hs74 : w72.cell? ⟨gb105, 1, none⟩ = some (.int .i64 0) := (blk_cell BK105.out 1).trans rfl
            have hfs74 := blk_frozen BK105.out 1; have hs75 : w72.cell? ⟨gb105, 2, none⟩ = some (.string (⟨#[]⟩ : ByteArray)) := (blk_cell BK105.out 2).trans rfl
            have hfs75 := blk_frozen BK105.out 2; have hs76 : w72.cell? ⟨gb105, 3, none⟩ = some (.int .i32 0) := (blk_cell BK105.out 3).trans rfl
            have hfs76 := blk_frozen BK105.out 3; refine skip_ (w1 := ?_) (by rfl) rfl ?_ ?_
            rotate_left
            ·go_simp
             rfl
            refine hK.out _ _ trivial (fun hHeld => ?_)
            clear hK K; refine pure_ (i := 22) (N := some 7) (v := ?_) (a' := ?_) #[true, true, true, true, true, true, true, true, true, true, true, true, true, true, true, true, true, true, true, true, true, true, true] rfl rfl (any_of HT_.out (by kernel_rfl)) (fun _ _ _ h => h) (Or.inl ⟨by rfl, ?_⟩) ?_ ?_
            rotate_left
            ·intro w'
             go_simp
             with_reducible rfl
            rotate_left
            ·simp only [Act.put, List.setIfInBounds_toArray, List.set_cons_zero, List.set_cons_succ, i64_w, i32_w]
             rfl
            refine done_ (done_of HT_.out (by kernel_rfl)) ?_
            try go_wp2
            refine bodyPost_ret (results_ct rfl _ _ gb105 30 #[.int .i64 1, .int .i64 a1, .string (a0.extract (a1 : Int).toNat (x8_1 : Int).toNat), .int .i32 t114] (0, 0) _ rfl (by (with_reducible repeat (first | refine blk_drewN ?_ _ | refine blk_drew ?_ | refine blk_alloc ?_ _)); refine blk_put (cs := #[.int .i64 1, .int .i64 a1, .string (a0.extract (a1 : Int).toNat (x8_1 : Int).toNat), .int .i32 0]) ?_ 3 _ rfl; (with_reducible repeat (first | refine blk_drewN ?_ _ | refine blk_drew ?_ | refine blk_alloc ?_ _)); refine blk_put (cs := #[.int .i64 1, .int .i64 a1, .string (⟨#[]⟩ : ByteArray), .int .i32 0]) ?_ 2 _ rfl; (with_reducible repeat (first | refine blk_drewN ?_ _ | refine blk_drew ?_ | refine blk_alloc ?_ _)); refine blk_put (cs := #[.int .i64 1, .int .i64 0, .string (⟨#[]⟩ : ByteArray), .int .i32 0]) ?_ 1 _ rfl; (with_reducible repeat (first | refine blk_drewN ?_ _ | refine blk_drew ?_ | refine blk_alloc ?_ _)); refine blk_put (cs := #[.int .i64 0, .int .i64 0, .string (⟨#[]⟩ : ByteArray), .int .i32 0]) ?_ 0 _ rfl; (with_reducible repeat (first | refine blk_drewN ?_ _ | refine blk_drew ?_ | refine blk_alloc ?_ _)); exact BK105.out) Tryd.underlying30 rfl (by kernel_rfl)) rfl ?_
            exact ⟨by first | rfl | (simp [errW_none, errW_some] <;> rfl) | (simp [*, errW_none, errW_some] <;> rfl), by repeat (first | (with_reducible first | exact HB.out | apply below_alloc | apply pw_below_drewN | apply below_drew1 | refine below_set ?_ GE105.out) | exact HB.out)⟩
          ·rw [if_neg c59] at H; exact absurd H (by simp)
         ·rw [if_neg c58] at H; exact absurd H (by simp)
        ·rw [if_neg c57] at H; exact absurd H (by simp)
    ·replace c24 := Bool.eq_false_iff.mpr c24; subst c24; have H1 : ((lex_sign.f k a0 a1).bind fun t116 => (some (2, a1, t116, 0, (t116.toList != ([] : List UInt8))))) = some (r1, r2, r3, r4, r5) := by rw [if_neg (show ¬ (false = true) by decide)] at H; exact H
     clear H; have H := H1; clear H1; replace H := Option.bind_eq_some_iff.mp H; obtain ⟨t116, A770, H⟩ := H; replace H : (some (2, a1, t116, 0, (t116.toList != ([] : List UInt8)))) = some (r1, r2, r3, r4, r5) := H; have A77 := Aside0.mk A770; clear A770; simp only [Option.some.injEq, Prod.mk.injEq] at H
     obtain ⟨rfl, rfl, rfl, rfl, rfl⟩ := H; go_enter Tryd.func25, Tryd.ntmps25
     go_wp2_with (first | ((with_reducible refine gate_dst (N := 6) rfl ?_); (try (refine gate_guard (by rfl) ?_; dsimp only)); refine box_event ?hg (N := 6) ?hd (cs := #[.int .i64 0, .int .i64 0, .string (⟨#[]⟩ : ByteArray), .int .i32 0]) (t := 30) ?hr ?_; (case hd => rfl); (case hg => rfl); (case hr => first | (go_simp; done) | (go_simp; rfl)); intro gb105 hg w78 hbox hb; have n0_ := Aside0.mk (below_step (by repeat (first | (with_reducible first | exact HB.out | apply below_alloc | apply pw_below_drewN | apply below_drew1) | exact HB.out)) hb); have n1_ := Aside0.mk (hbox); have n2_ := Aside0.mk ((by rw [hg]; exact (below_size (by repeat (first | (with_reducible first | exact HB.out | apply below_alloc | apply pw_below_drewN | apply below_drew1) | exact HB.out))) : w.heap.size ≤ gb105)); have n3_ := Aside0.mk ((by rw [hg]; exact (below_size (by repeat (first | (with_reducible first | exact HB.out | apply below_alloc | apply pw_below_drewN | apply below_drew1) | exact HB.out))) : w.heap.size ≤ gb105)); clear HB; have HB := n0_; have BK105 := n1_; have GW105 := n2_; have GE105 := n3_; clear n0_ n1_ n2_ n3_; clear hb hbox hg; have p6 : 0 ≤ (a1 : Int) := of_decide_eq_true (by with_reducible assumption); have q6 : a1 < (a0.size : Int) := of_decide_eq_true (by with_reducible assumption); have hx6 := bt_at a0 a1; replace p6 := eq_true p6; replace q6 := eq_true q6) | ((with_reducible refine gate_callee (f := 28) rfl ?_); refine goesL_ (some 20) rfl rfl Tryd.func28 (by kernel_rfl) rfl #[.int .u8 (bt a0 a1)] rfl (by (try simp only [List.map_toArray, List.map_cons, List.map_nil]); first | done | rfl | (simp only [List.length_drop, List.length_take]; rfl)) ?_; (with_reducible refine (lex_letter.calls (bt a0 a1) false _ A7.out).mono ?_); rintro e w' ⟨rfl, ⟨nd, rfl⟩⟩; refine ⟨_, rfl, ?_⟩; (try (rw [drewN_self w78]; generalize hq_ : World.drewN w78 _ = w78; have n0_ : Aside0 (w78.heap[gb105]? = some (.cells #[.int .i64 0, .int .i64 0, .string (⟨#[]⟩ : ByteArray), .int .i32 0] 30 (0, 0))) := ⟨by rw [← hq_]; exact (by (with_reducible repeat (first | refine blk_drewN ?_ _ | refine blk_drew ?_ | refine blk_alloc ?_ _)); exact BK105.out)⟩; have n1_ : Aside0 (Below w.heap.size w w78) := ⟨by rw [← hq_]; exact (by repeat (first | (with_reducible first | exact HB.out | apply below_alloc | apply pw_below_drewN | apply below_drew1 | refine below_set ?_ GE105.out) | exact HB.out))⟩; clear BK105 HB hq_; have BK105 := n0_; have HB := n1_; clear n0_ n1_))) | ((with_reducible refine gate_callee (f := 38) rfl ?_); refine goesL_ (some 51) rfl rfl Tryd.func38 (by kernel_rfl) rfl #[.int .u8 (bt a0 a1)] rfl (by (try simp only [List.map_toArray, List.map_cons, List.map_nil]); first | done | rfl | (simp only [List.length_drop, List.length_take]; rfl)) ?_; (with_reducible refine (lex_digit.calls (bt a0 a1) false _ A23.out).mono ?_); rintro e w' ⟨rfl, ⟨nd, rfl⟩⟩; refine ⟨_, rfl, ?_⟩; (try (rw [drewN_self w78]; generalize hq_ : World.drewN w78 _ = w78; have n0_ : Aside0 (w78.heap[gb105]? = some (.cells #[.int .i64 0, .int .i64 0, .string (⟨#[]⟩ : ByteArray), .int .i32 0] 30 (0, 0))) := ⟨by rw [← hq_]; exact (by (with_reducible repeat (first | refine blk_drewN ?_ _ | refine blk_drew ?_ | refine blk_alloc ?_ _)); exact BK105.out)⟩; have n1_ : Aside0 (Below w.heap.size w w78) := ⟨by rw [← hq_]; exact (by repeat (first | (with_reducible first | exact HB.out | apply below_alloc | apply pw_below_drewN | apply below_drew1 | refine below_set ?_ GE105.out) | exact HB.out))⟩; clear BK105 HB hq_; have BK105 := n0_; have HB := n1_; clear n0_ n1_))) | ((with_reducible refine gate_callee (f := 40) rfl ?_); refine goesL_ (some 95) rfl rfl Tryd.func40 (by kernel_rfl) rfl #[.string a0, .int .i64 a1] rfl (by (try simp only [List.map_toArray, List.map_cons, List.map_nil]); first | done | rfl | (simp only [List.length_drop, List.length_take]; rfl)) ?_; (with_reducible refine (lex_sign.calls k a0 a1 t116 _ A77.out (HT.out.below (by repeat (first | (with_reducible first | exact HB.out | apply below_alloc | apply pw_below_drewN | apply below_drew1 | refine below_set ?_ (by assumption)) | exact HB.out)))).mono ?_); rintro e w79 ⟨rfl, hb⟩; refine ⟨_, rfl, ?_⟩; have n0_ := Aside0.mk (blk_below (g := gb105) (o := .cells #[.int .i64 0, .int .i64 0, .string (⟨#[]⟩ : ByteArray), .int .i32 0] 30 (0, 0)) (by (with_reducible repeat (first | refine blk_drewN ?_ _ | refine blk_drew ?_ | refine blk_alloc ?_ _)); exact BK105.out) hb); have n1_ := Aside0.mk (below_step (by repeat (first | (with_reducible first | exact HB.out | apply below_alloc | apply pw_below_drewN | apply below_drew1 | refine below_set ?_ GE105.out) | exact HB.out)) hb); clear BK105; clear HB; have BK105 := n0_; have HB := n1_; clear n0_ n1_; (try clear hb); (try clear hb2); (try clear hk); (try clear hi); have hcz80_0 : w79.cell? ⟨gb105, 0, none⟩ = some (.int .i64 0) := (blk_cell BK105.out 0).trans rfl; have hcz80_1 : w79.cell? ⟨gb105, 1, none⟩ = some (.int .i64 0) := (blk_cell BK105.out 1).trans rfl; have hcz80_2 : w79.cell? ⟨gb105, 2, none⟩ = some (.string (⟨#[]⟩ : ByteArray)) := (blk_cell BK105.out 2).trans rfl; have hcz80_3 : w79.cell? ⟨gb105, 3, none⟩ = some (.int .i32 0) := (blk_cell BK105.out 3).trans rfl; have hfz80_0 := blk_frozen BK105.out 0; have hfz80_1 := blk_frozen BK105.out 1; have hfz80_2 := blk_frozen BK105.out 2; have hfz80_3 := blk_frozen BK105.out 3))
     refine bodyPost_ret (results_ct rfl _ _ gb105 30 #[.int .i64 2, .int .i64 a1, .string t116, .int .i32 0] (0, 0) _ rfl (by (with_reducible repeat (first | refine blk_drewN ?_ _ | refine blk_drew ?_ | refine blk_alloc ?_ _)); refine blk_put (cs := #[.int .i64 2, .int .i64 a1, .string t116, .int .i32 0]) ?_ 3 _ rfl; (with_reducible repeat (first | refine blk_drewN ?_ _ | refine blk_drew ?_ | refine blk_alloc ?_ _)); refine blk_put (cs := #[.int .i64 2, .int .i64 a1, .string (⟨#[]⟩ : ByteArray), .int .i32 0]) ?_ 2 _ rfl; (with_reducible repeat (first | refine blk_drewN ?_ _ | refine blk_drew ?_ | refine blk_alloc ?_ _)); refine blk_put (cs := #[.int .i64 2, .int .i64 0, .string (⟨#[]⟩ : ByteArray), .int .i32 0]) ?_ 1 _ rfl; (with_reducible repeat (first | refine blk_drewN ?_ _ | refine blk_drew ?_ | refine blk_alloc ?_ _)); refine blk_put (cs := #[.int .i64 0, .int .i64 0, .string (⟨#[]⟩ : ByteArray), .int .i32 0]) ?_ 0 _ rfl; (with_reducible repeat (first | refine blk_drewN ?_ _ | refine blk_drew ?_ | refine blk_alloc ?_ _)); exact BK105.out) Tryd.underlying30 rfl (by kernel_rfl)) rfl ?_
     exact ⟨by first | rfl | (simp; generalize t116.toList = q_; cases q_ <;> rfl) | (simp [errW_none, errW_some] <;> rfl) | (simp [*, errW_none, errW_some] <;> rfl), by repeat (first | (with_reducible first | exact HB.out | apply below_alloc | apply pw_below_drewN | apply below_drew1 | refine below_set ?_ GE105.out) | exact HB.out)⟩
  ·rw [if_neg c5] at H; exact absurd H (by simp)
 ·rw [if_neg c4] at H; exact absurd H (by simp)
end Go.Proofs.YtplcemlennloaaaDoor.N
end
section
namespace Go.Proofs.YtplcemlennloaaaDoor.N
open Go.RowKit Go.Proofs.YtplcemlennloaaaDoorW.PrintWords Go.Proofs.YtplcemlennloaaaDoorW.PrintLast Go.Proofs.YtplcemlennloaaaDoorW.PrintMore Go.Proofs.YtplcemlennloaaaDoor Go.Proofs.YtplcemlennloaaaDoor.A Go.Proofs.YtplcemlennloaaaDoor.B Go.Proofs.YtplcemlennloaaaDoor.S
set_option linter.unusedVariables false
set_option linter.unusedSimpArgs false
def lex_Tokens.l0 : Nat → ByteArray → Int → List (S30) → Int → Option ((List (S30)) × Int × Int)
 | 0, _, _, _, _ => none
 | k + 1, x0, x5, x6, x7 => if x7 < (x0.size : Int) then ((lex_next.f k x0 x7 x5).bind fun bt119 => (if bt119.2.2.2.2 = true then (if x6.length < 3518437208883 then ((lex_skip.f k x0 (wrap64 (x7 + (bt119.2.2.1.size : Int)))).bind fun t128 => (lex_Tokens.l0 k x0 x5 (x6 ++ [(⟨bt119.1, bt119.2.1, bt119.2.2.1, bt119.2.2.2.1⟩ : S30)]) t128)) else (none)) else (some (([] : List (S30)), x7, 2)))) else (some (x6, 0, 0))
def lex_Tokens.f (k : Nat) (a0 : ByteArray) : Option ((List (S30)) × Int × Int) := if (a0.size : Int) > 4000 then (some (([] : List (S30)), 0, 5)) else ((lex_words.f).bind fun t117 => ((lex_skip.f k a0 0).bind fun t118 => (lex_Tokens.l0 k a0 t117 ([] : List (S30)) t118)))
theorem lex_Tokens.mono_l : ∀ k, (∀ y0 y1 y2 y3, LeO (lex_Tokens.l0 k y0 y1 y2 y3) (lex_Tokens.l0 (k + 1) y0 y1 y2 y3))
 | 0 => fun _ _ _ _ r h => by simp [lex_Tokens.l0] at h
 | k + 1 => by
  have ih0 := lex_Tokens.mono_l k
  ·intro y0 y1 y2 y3
   unfold lex_Tokens.l0
   repeat' first
   | (with_reducible exact ih0 _ _ _ _)
   | (with_reducible exact lex_next.mono _ _ _ _)
   | (with_reducible exact lex_skip.mono _ _ _)
   | (with_reducible exact LeO.refl _)
   | (with_reducible exact LeO.none _)
   | (with_reducible refine LeO.ite ?_ ?_)
   | (with_reducible refine LeO.bind ?_ (fun _ => ?_))
theorem lex_Tokens.mono : ∀ a0 k, LeO (lex_Tokens.f k a0) (lex_Tokens.f (k + 1) a0) := by
 intro a0 k
 have ih0 := lex_Tokens.mono_l k; unfold lex_Tokens.f
 repeat' first
   | (with_reducible exact ih0 _ _ _ _)
   | (with_reducible exact lex_next.mono _ _ _ _)
   | (with_reducible exact lex_skip.mono _ _ _)
   | (with_reducible exact LeO.refl _)
   | (with_reducible exact LeO.none _)
   | (with_reducible refine LeO.ite ?_ ?_)
   | (with_reducible refine LeO.bind ?_ (fun _ => ?_))
set_option maxHeartbeats 8000000 in
set_option maxRecDepth 100000 in
theorem lex_Tokens.calls (k : Nat) (a0 : ByteArray) (r1 : List (S30)) (r2 : Int) (r3 : Int) (wq : World) (h : lex_Tokens.f k a0 = some (r1, r2, r3)) (hT : Tab wq) :
  Calls Tryd.prog 11 #[.string a0] wq fun e w' => ∃ v0_ : Value, e = .returned (.tuple #[v0_, .int .i64 r2, .int .i64 r3]) ∧ Kd.R k30 30 w' wq.heap.size (fun _ => True) v0_ r1 ∧ Below wq.heap.size wq w' := by
 have HT := Aside0.mk hT; clear hT; have hu30 := Tryd.underlying30; have HB := Aside0.mk (Below.refl wq.heap.size wq); have H : (if (a0.size : Int) > 4000 then (some (([] : List (S30)), 0, 5)) else ((lex_words.f).bind fun t117 => ((lex_skip.f k a0 0).bind fun t118 => (lex_Tokens.l0 k a0 t117 ([] : List (S30)) t118)))) = some (r1, r2, r3) := h
 clear h; by_cases c2 : (a0.size : Int) > 4000
 ·rw [if_pos c2] at H; have c2b0 : decide (4000 < (a0.size : Int)) = true := decide_eq_true c2
  have c2b1 : decide (4000 < a0.size) = true := decide_eq_true (by omega)
  clear c2; simp only [Option.some.injEq, Prod.mk.injEq] at H
  obtain ⟨rfl, rfl, rfl⟩ := H; go_enter Tryd.func11, Tryd.ntmps11
  go_wp2
  go_ret3
  exact ⟨_, by first | rfl | (simp [errW_none, errW_some] <;> rfl) | (simp [*, errW_none, errW_some] <;> rfl), by first | exact Kd.R_nil _ _ _ _ _ | exact Kd.N_nil _ _ _ _ _ | exact Kd.V_nil _ _ _ _ _ | exact Kd.Q_nil _ _ _ _ _ | exact Kd.S_nil _ _ _ _ _, by repeat (first | (with_reducible first | exact HB.out | apply below_alloc | apply pw_below_drewN | apply below_drew1) | exact HB.out)⟩
 ·rw [if_neg c2] at H; have c2b0 : decide (4000 < (a0.size : Int)) = false := decide_eq_false c2
  have c2b1 : decide (4000 < a0.size) = false := decide_eq_false (by omega)
  clear c2; replace H := Option.bind_eq_some_iff.mp H; obtain ⟨t117, A30, H⟩ := H; replace H : ((lex_skip.f k a0 0).bind fun t118 => (lex_Tokens.l0 k a0 t117 ([] : List (S30)) t118)) = some (r1, r2, r3) := H
  have A3 := Aside0.mk A30; clear A30; replace H := Option.bind_eq_some_iff.mp H; obtain ⟨t118, A40, H⟩ := H; replace H : (lex_Tokens.l0 k a0 t117 ([] : List (S30)) t118) = some (r1, r2, r3) := H; have A4 := Aside0.mk A40; clear A40; have H' := Aside0.mk H
  clear H; go_enter Tryd.func11, Tryd.ntmps11
  go_wp2_with (first | ((with_reducible refine gate_callee (f := 23) rfl ?_); refine goesL_ (some 13) rfl rfl Tryd.func23 (by kernel_rfl) rfl #[] rfl (by (try simp only [List.map_toArray, List.map_cons, List.map_nil]); first | done | rfl | (simp only [List.length_drop, List.length_take]; rfl)) ?_; (with_reducible refine (words_known _ (HT.out.below (by repeat (first | (with_reducible first | exact HB.out | apply below_alloc | apply pw_below_drewN | apply below_drew1) | exact HB.out)))).mono ?_); rintro e w ⟨mb, rfl, hmb_, hkn_, hb⟩; refine ⟨_, rfl, ?_⟩; have HKn := Aside0.mk hkn_; have HBq := Aside0.mk (below_step (by repeat (first | (with_reducible first | exact HB.out | apply below_alloc | apply pw_below_drewN | apply below_drew1) | exact HB.out)) hb); have n0_ := Aside0.mk (HT.out.below HBq.out); clear HT HB hkn_ hmb_; have HT := n0_; clear n0_; have HB := Aside0.mk (Below.refl w.heap.size w); (try clear hb); (try clear hb2); (try clear hk); (try clear hi)) | ((with_reducible refine gate_callee (f := 24) rfl ?_); refine goesL_ (some 15) rfl rfl Tryd.func24 (by kernel_rfl) rfl #[.string a0, .int .i64 0] rfl (by (try simp only [List.map_toArray, List.map_cons, List.map_nil]); first | done | rfl | (simp only [List.length_drop, List.length_take]; rfl)) ?_; (with_reducible refine (lex_skip.calls k a0 0 t118 _ A4.out).mono ?_); rintro e w' ⟨rfl, ⟨nd, rfl⟩⟩; refine ⟨_, rfl, ?_⟩))
  go_loopg [6, 7] k (fun kq v6 v7 w' => ∃ (x6_1 : List (S30)) (x7_1 : Int), v7 = .int .i64 x7_1 ∧ Aside0 (lex_Tokens.l0 kq a0 t117 x6_1 x7_1 = some (r1, r2, r3)) ∧ Aside0 (kq ≤ k) ∧ Aside0 (Kd.R k30 30 w' w.heap.size (fun _ => True) v6 x6_1) ∧ Aside0 (Below w.heap.size w w'))
  case atStart => exact ⟨(([] : List (S30))), (t118), (by first | rfl | (simp; done) | (simp [*]; done)), H', ⟨Nat.le_refl _⟩, ⟨by first | exact Kd.R_nil _ _ _ _ _ | exact Kd.N_nil _ _ _ _ _ | exact Kd.V_nil _ _ _ _ _ | exact Kd.Q_nil _ _ _ _ _ | exact Kd.S_nil _ _ _ _ _⟩, ⟨by repeat (first | (with_reducible first | exact HB.out | apply below_alloc | apply pw_below_drewN | apply below_drew1) | exact HB.out)⟩⟩
  case round =>
   clear H'; try clear c1
   try clear c2
   try clear c2b0
   try clear c2b1
   try clear p2
   obtain ⟨x6_1, x7_1, rfl, HA, HK1, HO_6, HB⟩ := hrel; cases gk with
   | zero => exact absurd HA.out (by simp [lex_Tokens.l0])
   | succ k1 =>
    have H := HA.out; clear HA; simp only [lex_Tokens.l0] at H
    by_cases c6 : x7_1 < (a0.size : Int)
    ·rw [if_pos c6] at H; have c6b0 : decide (x7_1 < (a0.size : Int)) = true := decide_eq_true c6
     clear c6; replace H := Option.bind_eq_some_iff.mp H; obtain ⟨⟨t119, t120, t121, t122, t123⟩, A70, H⟩ := H; replace H : (if t123 = true then (if x6_1.length < 3518437208883 then ((lex_skip.f k1 a0 (wrap64 (x7_1 + (t121.size : Int)))).bind fun t128 => (lex_Tokens.l0 k1 a0 t117 (x6_1 ++ [(⟨t119, t120, t121, t122⟩ : S30)]) t128)) else (none)) else (some (([] : List (S30)), x7_1, 2))) = some (r1, r2, r3) := H
     have A7 := Aside0.mk A70; clear A70; by_cases c8 : t123 = true
     ·subst c8; have H1 : (if x6_1.length < 3518437208883 then ((lex_skip.f k1 a0 (wrap64 (x7_1 + (t121.size : Int)))).bind fun t128 => (lex_Tokens.l0 k1 a0 t117 (x6_1 ++ [(⟨t119, t120, t121, t122⟩ : S30)]) t128)) else (none)) = some (r1, r2, r3) := by rw [if_pos rfl] at H; exact H
      clear H; have H := H1; clear H1; by_cases c9 : x6_1.length < 3518437208883
      ·rw [if_pos c9] at H; have LMc9 := Aside0.mk c9; clear c9; obtain ⟨y125, hy125⟩ : ∃ y_ : List (S30), y_ = (x6_1 ++ [(⟨t119, t120, t121, t122⟩ : S30)]) := ⟨_, rfl⟩; replace H : ((lex_skip.f k1 a0 (wrap64 (x7_1 + (t121.size : Int)))).bind fun t128 => (lex_Tokens.l0 k1 a0 t117 y125 t128)) = some (r1, r2, r3) := by first | (with_reducible first | (rw [hy125]; exact H) | exact H) | (have H2_ := (Option.bind_some _ _).symm.trans H; first | with_reducible exact H2_ | (rw [hy125]; exact H2_)) | (rw [hy125]; exact H) | exact H
       have Ny125 := Aside0.mk hy125; clear hy125; replace H := Option.bind_eq_some_iff.mp H; obtain ⟨t128, A100, H⟩ := H; replace H : (lex_Tokens.l0 k1 a0 t117 y125 t128) = some (r1, r2, r3) := H; have A10 := Aside0.mk A100; clear A100; have H' := Aside0.mk H
       clear H; go_wp2_with (first | ((with_reducible refine gate_callee (f := 25) rfl ?_); refine goesL_ (some 27) rfl rfl Tryd.func25 (by kernel_rfl) rfl #[.string a0, .int .i64 x7_1, .map (some mb)] rfl (by (try simp only [List.map_toArray, List.map_cons, List.map_nil]); first | done | rfl | (simp only [List.length_drop, List.length_take]; rfl)) ?_; (with_reducible refine (lex_next.calls k1 a0 x7_1 t117 t119 t120 t121 t122 true _ A7.out mb ?hkn ?htt).mono ?_); (case hkn => exact HKn.out.below (by repeat (first | (with_reducible first | exact HB.out | apply below_alloc | apply pw_below_drewN | apply below_drew1 | refine below_set ?_ (by assumption)) | exact HB.out))); (case htt => exact HT.out.below (by repeat (first | (with_reducible first | exact HB.out | apply below_alloc | apply pw_below_drewN | apply below_drew1 | refine below_set ?_ (by assumption)) | exact HB.out))); rintro e w11 ⟨rfl, hb⟩; refine ⟨_, rfl, ?_⟩; have n0_ := Aside0.mk (Kd.R_below (by (with_reducible repeat (first | apply Kd.R_alloc | apply Kd.R_drewN | apply Kd.R_drew)); exact HO_6.out) hb); have n1_ := Aside0.mk (below_step (by repeat (first | (with_reducible first | exact HB.out | apply below_alloc | apply pw_below_drewN | apply below_drew1) | exact HB.out)) hb); clear HO_6; clear HB; have HO_6 := n0_; have HB := n1_; clear n0_ n1_; (try clear hb); (try clear hb2); (try clear hk); (try clear hi)) | ((with_reducible refine gate_dst (N := 8) rfl ?_); refine box_event ?hg (N := 8) ?hd (cs := #[.int .i64 0, .int .i64 0, .string (⟨#[]⟩ : ByteArray), .int .i32 0]) (t := 30) ?hr ?_; (case hd => rfl); (case hg => rfl); (case hr => first | (go_simp; done) | (go_simp; rfl)); intro gb124 hg w12 hbox hb; have n0_ := Aside0.mk (Kd.R_below (Kd.R_elderB (by (with_reducible repeat (first | apply Kd.R_alloc | apply Kd.R_drewN | apply Kd.R_drew)); exact HO_6.out) gb124 (Nat.le_of_eq hg.symm)) hb); have n1_ := Aside0.mk (below_step (by repeat (first | (with_reducible first | exact HB.out | apply below_alloc | apply pw_below_drewN | apply below_drew1) | exact HB.out)) hb); have n2_ := Aside0.mk (hbox); have n3_ := Aside0.mk ((by rw [hg]; exact (below_size (by repeat (first | (with_reducible first | exact HB.out | apply below_alloc | apply pw_below_drewN | apply below_drew1) | exact HB.out))) : w.heap.size ≤ gb124)); have n4_ := Aside0.mk ((by rw [hg]; exact (below_size (by repeat (first | (with_reducible first | exact HB.out | apply below_alloc | apply pw_below_drewN | apply below_drew1) | exact HB.out))) : w.heap.size ≤ gb124)); clear HO_6; clear HB; have HO_6 := n0_; have HB := n1_; have BK124 := n2_; have GW124 := n3_; have GE124 := n4_; clear n0_ n1_ n2_ n3_ n4_; clear hb hbox hg; have hcz13_0 : w12.cell? ⟨gb124, 0, none⟩ = some (.int .i64 0) := (blk_cell BK124.out 0).trans rfl; have hcz13_1 : w12.cell? ⟨gb124, 1, none⟩ = some (.int .i64 0) := (blk_cell BK124.out 1).trans rfl; have hcz13_2 : w12.cell? ⟨gb124, 2, none⟩ = some (.string (⟨#[]⟩ : ByteArray)) := (blk_cell BK124.out 2).trans rfl; have hcz13_3 : w12.cell? ⟨gb124, 3, none⟩ = some (.int .i32 0) := (blk_cell BK124.out 3).trans rfl; have hfz13_0 := blk_frozen BK124.out 0; have hfz13_1 := blk_frozen BK124.out 1; have hfz13_2 := blk_frozen BK124.out 2; have hfz13_3 := blk_frozen BK124.out 3) | ((with_reducible refine gate_builtin (b := .append) (xs := #[.tmp 33, .tmp 35]) rfl ?_); at_builtin; refine Kd.R_append k30 (w0 := w) w.heap.size rfl (.tmp 33) (.tmp 35) 23 30 (.agg #[(.int .i64 0), (.int .i64 0), (.string ⟨#[]⟩), (.int .i32 0)]) 40 rfl Tryd.underlying23 info30 rfl (by decide) (by omega) u6 x6_1 (⟨t119, t120, t121, t122⟩ : S30) [.int .i64 t119, .int .i64 t120, .string t121, .int .i32 t122] (fun k_ => k_ ≠ gb124) (fun _ => False) rfl (by first | (go_simp; done) | (go_simp; rfl)) ?aP (fun _ hk => hk.elim) ?aF ?aO ?aB ?aS ?aL ?_; (case aP => exact k30_mkM _ _ _ (⟨t119, t120, t121, t122⟩ : S30)); (case aB => exact (by repeat (first | (with_reducible first | exact HB.out | apply below_alloc | apply pw_below_drewN | apply below_drew1 | refine below_set ?_ GE124.out) | exact HB.out))); (case aF => exact (fun k_ hk => Kd.freshB (g := gb124) (o := .cells #[.int .i64 t119, .int .i64 t120, .string t121, .int .i32 t122] 30 (0, 0)) (by (with_reducible repeat (first | refine blk_drewN ?_ _ | refine blk_drew ?_ | refine blk_alloc ?_ _)); refine blk_put (cs := #[.int .i64 t119, .int .i64 t120, .string t121, .int .i32 0]) ?_ 3 _ rfl; (with_reducible repeat (first | refine blk_drewN ?_ _ | refine blk_drew ?_ | refine blk_alloc ?_ _)); refine blk_put (cs := #[.int .i64 t119, .int .i64 t120, .string (⟨#[]⟩ : ByteArray), .int .i32 0]) ?_ 2 _ rfl; (with_reducible repeat (first | refine blk_drewN ?_ _ | refine blk_drew ?_ | refine blk_alloc ?_ _)); refine blk_put (cs := #[.int .i64 t119, .int .i64 0, .string (⟨#[]⟩ : ByteArray), .int .i32 0]) ?_ 1 _ rfl; (with_reducible repeat (first | refine blk_drewN ?_ _ | refine blk_drew ?_ | refine blk_alloc ?_ _)); refine blk_put (cs := #[.int .i64 0, .int .i64 0, .string (⟨#[]⟩ : ByteArray), .int .i32 0]) ?_ 0 _ rfl; (with_reducible repeat (first | refine blk_drewN ?_ _ | refine blk_drew ?_ | refine blk_alloc ?_ _)); exact BK124.out) k_ hk)); (case aO => exact (by (with_reducible repeat (first | apply Kd.R_alloc | apply Kd.R_drewN | apply Kd.R_drew)); exact Kd.R_mono (Kd.R_far (p := ⟨gb124, 3, none⟩) (Kd.R_far (p := ⟨gb124, 2, none⟩) (Kd.R_far (p := ⟨gb124, 1, none⟩) (Kd.R_far (p := ⟨gb124, 0, none⟩) (Kd.R_mono HO_6.out (fun k_ hk => (⟨hk, hk.2⟩ : _ ∧ k_ ≠ gb124))) (fun _ hk => hk.2) (.int .i64 t119)) (fun _ hk => hk.2) (.int .i64 t120)) (fun _ hk => hk.2) (.string t121)) (fun _ hk => hk.2) (.int .i32 t122)) (fun _ hk => hk.1.2))); (case aS => exact (below_size (by repeat (first | (with_reducible first | exact HB.out | apply below_alloc | apply pw_below_drewN | apply below_drew1 | refine below_set ?_ GE124.out) | exact HB.out)))); (case aL => have := LMc9.out; omega); intro v126 w14 ho hb hg hat; rw [← Ny125.out] at ho; have n0_ := Aside0.mk (blk_grown (g := gb124) (o := .cells #[.int .i64 t119, .int .i64 t120, .string t121, .int .i32 t122] 30 (0, 0)) (by (with_reducible repeat (first | refine blk_drewN ?_ _ | refine blk_drew ?_ | refine blk_alloc ?_ _)); refine blk_put (cs := #[.int .i64 t119, .int .i64 t120, .string t121, .int .i32 0]) ?_ 3 _ rfl; (with_reducible repeat (first | refine blk_drewN ?_ _ | refine blk_drew ?_ | refine blk_alloc ?_ _)); refine blk_put (cs := #[.int .i64 t119, .int .i64 t120, .string (⟨#[]⟩ : ByteArray), .int .i32 0]) ?_ 2 _ rfl; (with_reducible repeat (first | refine blk_drewN ?_ _ | refine blk_drew ?_ | refine blk_alloc ?_ _)); refine blk_put (cs := #[.int .i64 t119, .int .i64 0, .string (⟨#[]⟩ : ByteArray), .int .i32 0]) ?_ 1 _ rfl; (with_reducible repeat (first | refine blk_drewN ?_ _ | refine blk_drew ?_ | refine blk_alloc ?_ _)); refine blk_put (cs := #[.int .i64 0, .int .i64 0, .string (⟨#[]⟩ : ByteArray), .int .i32 0]) ?_ 0 _ rfl; (with_reducible repeat (first | refine blk_drewN ?_ _ | refine blk_drew ?_ | refine blk_alloc ?_ _)); exact BK124.out) hg (Kd.R_away HO_6.out (fun _ hk => hk.2))); have n1_ := Aside0.mk (hb); have n2_ := Aside0.mk (ho); clear BK124; clear HB; clear HO_6; have BK124 := n0_; have HB := n1_; have HO127 := n2_; clear n0_ n1_ n2_; clear ho hb hg hat; have hcz15_0 : w14.cell? ⟨gb124, 0, none⟩ = some (.int .i64 t119) := (blk_cell BK124.out 0).trans rfl; have hcz15_1 : w14.cell? ⟨gb124, 1, none⟩ = some (.int .i64 t120) := (blk_cell BK124.out 1).trans rfl; have hcz15_2 : w14.cell? ⟨gb124, 2, none⟩ = some (.string t121) := (blk_cell BK124.out 2).trans rfl; have hcz15_3 : w14.cell? ⟨gb124, 3, none⟩ = some (.int .i32 t122) := (blk_cell BK124.out 3).trans rfl; have hfz15_0 := blk_frozen BK124.out 0; have hfz15_1 := blk_frozen BK124.out 1; have hfz15_2 := blk_frozen BK124.out 2; have hfz15_3 := blk_frozen BK124.out 3) | ((with_reducible refine gate_callee (f := 24) rfl ?_); refine goesL_ (some 22) rfl rfl Tryd.func24 (by kernel_rfl) rfl #[.string a0, .int .i64 (wrap64 (x7_1 + (t121.size : Int)))] rfl (by (try simp only [List.map_toArray, List.map_cons, List.map_nil]); first | done | rfl | (simp only [List.length_drop, List.length_take]; rfl)) ?_; (with_reducible refine (lex_skip.calls k1 a0 (wrap64 (x7_1 + (t121.size : Int))) t128 _ A10.out).mono ?_); rintro e w' ⟨rfl, ⟨nd, rfl⟩⟩; refine ⟨_, rfl, ?_⟩))
       go_roundg k1
       case measure => have := HK1.out; omega
       case rel => exact ⟨(y125), (t128), (by first | rfl | (simp; done) | (simp [*]; done)), H', ⟨by have := HK1.out; omega⟩, ⟨by (with_reducible repeat (first | apply Kd.R_alloc | apply Kd.R_drewN | apply Kd.R_drew)); exact Kd.R_mono HO127.out (fun _ hk => trivial)⟩, ⟨by repeat (first | (with_reducible first | exact HB.out | apply below_alloc | apply pw_below_drewN | apply below_drew1 | refine below_set ?_ GE124.out) | exact HB.out)⟩⟩
      ·rw [if_neg c9] at H; exact absurd H (by simp)
     ·replace c8 := Bool.eq_false_iff.mpr c8; subst c8; have H1 : (some (([] : List (S30)), x7_1, 2)) = some (r1, r2, r3) := by rw [if_neg (show ¬ (false = true) by decide)] at H; exact H
      clear H; have H := H1; clear H1; simp only [Option.some.injEq, Prod.mk.injEq] at H
      obtain ⟨rfl, rfl, rfl⟩ := H; go_wp2_with (first | ((with_reducible refine gate_callee (f := 25) rfl ?_); refine goesL_ (some 27) rfl rfl Tryd.func25 (by kernel_rfl) rfl #[.string a0, .int .i64 x7_1, .map (some mb)] rfl (by (try simp only [List.map_toArray, List.map_cons, List.map_nil]); first | done | rfl | (simp only [List.length_drop, List.length_take]; rfl)) ?_; (with_reducible refine (lex_next.calls k1 a0 x7_1 t117 t119 t120 t121 t122 false _ A7.out mb ?hkn ?htt).mono ?_); (case hkn => exact HKn.out.below (by repeat (first | (with_reducible first | exact HB.out | apply below_alloc | apply pw_below_drewN | apply below_drew1 | refine below_set ?_ (by assumption)) | exact HB.out))); (case htt => exact HT.out.below (by repeat (first | (with_reducible first | exact HB.out | apply below_alloc | apply pw_below_drewN | apply below_drew1 | refine below_set ?_ (by assumption)) | exact HB.out))); rintro e w16 ⟨rfl, hb⟩; refine ⟨_, rfl, ?_⟩; have n0_ := Aside0.mk (Kd.R_below (by (with_reducible repeat (first | apply Kd.R_alloc | apply Kd.R_drewN | apply Kd.R_drew)); exact HO_6.out) hb); have n1_ := Aside0.mk (below_step (by repeat (first | (with_reducible first | exact HB.out | apply below_alloc | apply pw_below_drewN | apply below_drew1) | exact HB.out)) hb); clear HO_6; clear HB; have HO_6 := n0_; have HB := n1_; clear n0_ n1_; (try clear hb); (try clear hb2); (try clear hk); (try clear hi)) | ((with_reducible refine gate_dst (N := 8) rfl ?_); refine box_event ?hg (N := 8) ?hd (cs := #[.int .i64 0, .int .i64 0, .string (⟨#[]⟩ : ByteArray), .int .i32 0]) (t := 30) ?hr ?_; (case hd => rfl); (case hg => rfl); (case hr => first | (go_simp; done) | (go_simp; rfl)); intro gb124 hg w17 hbox hb; have n0_ := Aside0.mk (Kd.R_below (Kd.R_elderB (by (with_reducible repeat (first | apply Kd.R_alloc | apply Kd.R_drewN | apply Kd.R_drew)); exact HO_6.out) gb124 (Nat.le_of_eq hg.symm)) hb); have n1_ := Aside0.mk (below_step (by repeat (first | (with_reducible first | exact HB.out | apply below_alloc | apply pw_below_drewN | apply below_drew1) | exact HB.out)) hb); have n2_ := Aside0.mk (hbox); have n3_ := Aside0.mk ((by rw [hg]; exact (below_size (by repeat (first | (with_reducible first | exact HB.out | apply below_alloc | apply pw_below_drewN | apply below_drew1) | exact HB.out))) : w.heap.size ≤ gb124)); have n4_ := Aside0.mk ((by rw [hg]; exact (below_size (by repeat (first | (with_reducible first | exact HB.out | apply below_alloc | apply pw_below_drewN | apply below_drew1) | exact HB.out))) : w.heap.size ≤ gb124)); clear HO_6; clear HB; have HO_6 := n0_; have HB := n1_; have BK124 := n2_; have GW124 := n3_; have GE124 := n4_; clear n0_ n1_ n2_ n3_ n4_; clear hb hbox hg; have hcz18_0 : w17.cell? ⟨gb124, 0, none⟩ = some (.int .i64 0) := (blk_cell BK124.out 0).trans rfl; have hcz18_1 : w17.cell? ⟨gb124, 1, none⟩ = some (.int .i64 0) := (blk_cell BK124.out 1).trans rfl; have hcz18_2 : w17.cell? ⟨gb124, 2, none⟩ = some (.string (⟨#[]⟩ : ByteArray)) := (blk_cell BK124.out 2).trans rfl; have hcz18_3 : w17.cell? ⟨gb124, 3, none⟩ = some (.int .i32 0) := (blk_cell BK124.out 3).trans rfl; have hfz18_0 := blk_frozen BK124.out 0; have hfz18_1 := blk_frozen BK124.out 1; have hfz18_2 := blk_frozen BK124.out 2; have hfz18_3 := blk_frozen BK124.out 3))
      go_ret3
      refine ⟨_, by first | rfl | (simp [errW_none, errW_some] <;> rfl) | (simp [*, errW_none, errW_some] <;> rfl), ?_⟩
      refine toks_post HBq.out ?_ ?_
      ·exact (by first | exact Kd.R_nil _ _ _ _ _ | exact Kd.N_nil _ _ _ _ _ | exact Kd.V_nil _ _ _ _ _ | exact Kd.Q_nil _ _ _ _ _ | exact Kd.S_nil _ _ _ _ _)
      ·exact (by repeat (first | (with_reducible first | exact HB.out | apply below_alloc | apply pw_below_drewN | apply below_drew1 | refine below_set ?_ GE124.out) | exact HB.out))
    ·rw [if_neg c6] at H; have c6b0 : decide (x7_1 < (a0.size : Int)) = false := decide_eq_false c6
     clear c6; simp only [Option.some.injEq, Prod.mk.injEq] at H
     obtain ⟨rfl, rfl, rfl⟩ := H; go_wp2
     go_ret3
     refine ⟨_, by first | rfl | (simp [errW_none, errW_some] <;> rfl) | (simp [*, errW_none, errW_some] <;> rfl), ?_⟩
     refine toks_post HBq.out ?_ ?_
     ·exact (by (with_reducible repeat (first | apply Kd.R_alloc | apply Kd.R_drewN | apply Kd.R_drew)); exact HO_6.out)
     ·exact (by repeat (first | (with_reducible first | exact HB.out | apply below_alloc | apply pw_below_drewN | apply below_drew1) | exact HB.out))
end Go.Proofs.YtplcemlennloaaaDoor.N
end
section
namespace Go.Proofs.YtplcemlennloaaaDoor
open Go Go.Shelf Go.RowKit
def renB : Ren where
 f := fun x => match x with
  | 166 => 35
  | 167 => 34
  | 169 => 36
  | 199 => 46
  | 206 => 50
  | 229 => 45
  | 240 => 44
  | 261 => 49
  | 276 => 48
  | 311 => 51
  | 312 => 52
  | n => n
 t := fun x => match x with
  | 0 => 0
  | 1 => 1
  | 2 => 2
  | 3 => 3
  | 4 => 4
  | 5 => 5
  | 6 => 6
  | 7 => 7
  | 8 => 8
  | 9 => 9
  | 10 => 10
  | 11 => 11
  | 12 => 12
  | 13 => 13
  | 14 => 14
  | 15 => 15
  | 16 => 16
  | 17 => 17
  | 18 => 18
  | 19 => 19
  | 20 => 20
  | 21 => 21
  | 22 => 69
  | 26 => 59
  | 31 => 34
  | 37 => 36
  | 40 => 67
  | 41 => 32
  | 46 => 89
  | 49 => 81
  | 51 => 68
  | 68 => 56
  | 70 => 47
  | 71 => 48
  | 72 => 49
  | 74 => 50
  | 75 => 51
  | 76 => 53
  | 77 => 54
  | 78 => 52
  | 80 => 55
  | 81 => 96
  | 104 => 28
  | 119 => 65
  | 120 => 66
  | 127 => 64
  | 140 => 75
  | 141 => 76
  | 152 => 72
  | 153 => 73
  | 154 => 74
  | 164 => 70
  | 165 => 71
  | 193 => 77
  | 194 => 78
  | 195 => 79
  | 196 => 80
  | 197 => 82
  | 198 => 83
  | 199 => 84
  | 200 => 85
  | 201 => 86
  | 202 => 87
  | 203 => 57
  | 226 => 88
  | 227 => 90
  | 238 => 91
  | 239 => 92
  | 240 => 93
  | 241 => 94
  | 242 => 95
  | 243 => 97
  | 244 => 98
  | 245 => 99
  | 246 => 100
  | 247 => 101
  | 248 => 102
  | 249 => 103
  | n => n
 g := fun x => x
theorem lays166 : Lays.n166 Tryd.prog renB := by
 constructor <;> first | kernel_rfl | (intro w; rfl) | rfl
theorem lays167 : Lays.n167 Tryd.prog renB := by
 constructor <;> first | kernel_rfl | (intro w; rfl) | rfl
theorem lays169 : Lays.n169 Tryd.prog renB := by
 constructor <;> first | kernel_rfl | (intro w; rfl) | rfl
theorem builderX : Builder.Extra Tryd.prog renB where
 sizeBuilder := by kernel_rfl
 liesBuilder := by kernel_rfl
 t5 := Tryd.underlying5
 a5 := Tryd.isAgg5
 z5 := Tryd.sizeOf5
 v5 := Tryd.zeroValue5
 infoByte := by kernel_rfl
 cellsByte := by kernel_rfl
 sizeByte := by kernel_rfl
 neB5 := by decide
theorem writeByte_calls (B b : Nat) (bs : List Value) (c : Int) (w : World) (h : Lib.IsBuilderF 49 5 B b bs w) (hlen : bs.length + 1 ≤ 140737488355328) (hBw : B ≤ w.heap.size) :
  Calls Tryd.prog 34 #[.pointer (some ⟨b, 0, none⟩), .int .u8 c] w fun e w' => e = .returned .nilIface ∧ (Lib.BuilderAtF 49 5 B b (.pointer (some ⟨b, 0, none⟩)) (bs ++ [.int .u8 c]) w' ∧ Below B w w' ∧ Lib.OthersKept 5 (some b) w w') := Any.Builder_WriteByte_k lays167 builderX B b bs c w h hlen hBw
theorem writeString_calls (B b : Nat) (bs : List Value) (s : ByteArray) (w : World) (h : Lib.IsBuilderF 49 5 B b bs w) (hlen : bs.length + s.size ≤ 140737488355328) (hBw : B ≤ w.heap.size) :
  Calls Tryd.prog 35 #[.pointer (some ⟨b, 0, none⟩), .string s] w fun e w' => e = .returned (.tuple #[.int .i64 s.size, .nilIface]) ∧ (Lib.BuilderAtF 49 5 B b (.pointer (some ⟨b, 0, none⟩)) (bs ++ Lib.strCells s) w' ∧ Below B w w' ∧ Lib.OthersKept 5 (some b) w w') := Any.Builder_WriteString_k lays166 builderX B b bs s w h hlen hBw
theorem string_calls (B b : Nat) (l : List UInt8) (w : World) (h : Lib.IsBuilderF 49 5 B b (Lib.byteCells l) w) (hBw : B ≤ w.heap.size) :
  Calls Tryd.prog 36 #[.pointer (some ⟨b, 0, none⟩)] w fun e w' => e = .returned (.string ⟨l.toArray⟩) ∧ (Lib.IsBuilderF 49 5 B b (Lib.byteCells l) w' ∧ Below B w w' ∧ Lib.OthersKept 5 (some b) w w') := Any.Builder_String_any_k lays169 builderX B b l w h hBw
end Go.Proofs.YtplcemlennloaaaDoor
end
section
namespace Go.Proofs.YtplcemlennloaaaDoor.B
open Go Go.RowKit Go.Shelf Go.Proofs.YtplcemlennloaaaDoorW.PrintWords Go.Proofs.YtplcemlennloaaaDoorW.PrintLast Go.Proofs.YtplcemlennloaaaDoorW.PrintMore Go.Proofs.YtplcemlennloaaaDoor Go.Proofs.YtplcemlennloaaaDoor.A
set_option linter.unusedVariables false
def joinTo (l : List S30) : Nat → List UInt8
 | 0 => []
 | i + 1 => joinTo l i ++ (if 0 < i then [32] else []) ++ (rd_T30 l (i : Int)).f2.data.toList
theorem joinTo_le (l : List S30) : ∀ {i j : Nat}, i ≤ j → (joinTo l i).length ≤ (joinTo l j).length
 | i, 0, h => by
  obtain rfl : i = 0 := by omega
  exact Nat.le_refl _
 | i, j + 1, h => by
  rcases Nat.lt_or_ge i (j + 1) with h1 | h1
  ·have := joinTo_le l (show i ≤ j by omega)
   simp only [joinTo, List.length_append]
   omega
  ·obtain rfl : i = j + 1 := by omega
   exact Nat.le_refl _
def lex_Join.f (_k : Nat) (l : List S30) : Option ByteArray := if (joinTo l l.length).length ≤ 140737488355328 ∧ l.length ≤ 9223372036854775807 then some ⟨(joinTo l l.length).toArray⟩ else none
theorem cell_old {w w' : World} {p : Addr} {v : Value} (h : w.cell? p = some v) (hb : Below w.heap.size w w') : w'.cell? p = some v := (hb.cell (World.block_lt_of_cell? w _ h)).trans h
theorem used_b {B b : Nat} {bs : List Value} {w : World} (h : Lib.BuilderAtF 49 5 B b (.pointer (some ⟨b, 0, none⟩)) bs w) : Lib.IsBuilderF 49 5 B b bs w := .inr h
theorem fresh_builder (w : World) : Lib.IsBuilderF 49 5 w.heap.size w.heap.size [] (w.alloc (.cells #[.pointer none, .slice none 0 0] 49 (0, 0))) :=
 .inl ⟨Nat.le_refl _, .slice none 0 0, heap_alloc_new _ _, ⟨rfl, .inl ⟨rfl, rfl⟩⟩, by simp [Value.ownBlock]⟩
set_option maxHeartbeats 2000000 in
set_option maxRecDepth 100000 in
theorem lex_Join.calls (k : Nat) (A0 : Option Addr) (c0 : Nat) (l0 : List (S30)) (r : ByteArray) (w : World) (hr0 : Kd.C k30 w A0 l0.length l0) (hc0 : l0.length ≤ c0) (h : lex_Join.f k l0 = some r) :
  Calls Tryd.prog 21 #[.slice A0 l0.length c0] w fun e w' => e = .returned (.string r) ∧ Below w.heap.size w w' := by
 have HR0 := Aside0.mk hr0; clear hr0; unfold lex_Join.f at h
 by_cases hc : (joinTo l0 l0.length).length ≤ 140737488355328 ∧ l0.length ≤ 9223372036854775807
 case neg => rw [if_neg hc] at h; cases h
 rw [if_pos hc] at h; obtain rfl := Option.some.inj h; obtain ⟨hj0, hl0⟩ := hc; have HJ := Aside0.mk hj0; clear h hj0; go_enter Tryd.func21, Tryd.ntmps21
 go_wp2
 go_loopg [8] l0.length (fun gk v8 wx => ∃ (x : Int), v8 = .int .i64 x ∧ Aside0 (∃ i : Nat, x = (i : Int) ∧ i + gk = l0.length ∧ Lib.IsBuilderF 49 5 w.heap.size w.heap.size (Lib.byteCells (joinTo l0 i)) wx) ∧ Aside0 (Below w.heap.size w wx))
 case atStart => exact ⟨0, rfl, ⟨0, rfl, by omega, fresh_builder w⟩, ⟨below_alloc (Below.refl _ _) _⟩⟩
 case round =>
  obtain ⟨x, rfl, ⟨i, hxi, hi, HI0⟩, HB⟩ := hrel; have HX := Aside0.mk hxi; have HI := Aside0.mk HI0; have HN := Aside0.mk hi; cases gk with
  | zero =>
   have c1 : decide (x < (l0.length : Int)) = false := decide_eq_false (by omega)
   obtain rfl : i = l0.length := by omega
   clear hxi hi HI0; go_wp2_with (first | (go_at_call 36; (with_reducible refine (string_calls _ _ (joinTo l0 l0.length) _ HI.out HB.out.size).mono ?_); rintro e w' ⟨rfl, _, hb, _⟩))
   go_ret
   exact ⟨rfl, HB.out.trans hb⟩
  | succ gk =>
   have c1 : decide (x < (l0.length : Int)) = true := decide_eq_true (by omega)
   have p0 : 0 ≤ x := by omega
   have q0 : x < (l0.length : Int) := by omega
   obtain ⟨ad, e, hx0, hx1, hx2, hx3⟩ := at_T30 HR0.out x p0 q0; cases e; replace hx0 := cell_old hx0 HB.out; replace hx1 := cell_old hx1 HB.out; replace hx2 := cell_old hx2 HB.out; replace hx3 := cell_old hx3 HB.out; have hlt : w.heap.size < wr.heap.size := by
    rcases HI.out with h | h <;> obtain ⟨_, v, hb, _⟩ := h <;> exact blk_lt hb
   have hmono := joinTo_le l0 (show i + 1 ≤ l0.length by omega)
   have hlj : (joinTo l0 (i + 1)).length ≤ 140737488355328 := Nat.le_trans hmono HJ.out
   have hss : (rd_T30 l0 x).f2.data.toList.length = (rd_T30 l0 x).f2.size := data_length _
   have hBX := below_alloc HB.out (.cells #[.int .i64 (rd_T30 l0 x).f0, .int .i64 (rd_T30 l0 x).f1, .string (rd_T30 l0 x).f2, .int .i32 (rd_T30 l0 x).f3] 30 (0, 0)); have HBX := Aside0.mk hBX; have HSZ := Aside0.mk hBX.size; clear hBX; by_cases h0 : 0 < x
   ·have c2 : decide (0 < x) = true := decide_eq_true h0
    have hji : joinTo l0 (i + 1) = joinTo l0 i ++ [32] ++ (rd_T30 l0 x).f2.data.toList := by
     rw [joinTo, if_pos (by omega), hxi]
    rw [hji] at hlj; simp only [List.length_append, List.length_cons, List.length_nil, hss] at hlj
    have L1 : Aside0 ((Lib.byteCells (joinTo l0 i)).length + 1 ≤ 140737488355328) := ⟨by rw [Lib.byteCells_length]; omega⟩
    have L2 : Aside0 ((Lib.byteCells (joinTo l0 i) ++ [Value.int .u8 32]).length + (rd_T30 l0 x).f2.size ≤ 140737488355328) := ⟨by rw [List.length_append, Lib.byteCells_length]; simp only [List.length_cons, List.length_nil]; omega⟩
    have HLT := Aside0.mk hlt; have HJI := Aside0.mk hji; replace p0 := eq_true p0; replace q0 := eq_true q0; clear hxi hi HI0 h0 hlt hmono hlj hss hji; go_wp2_with (first | (go_at_call 34; (with_reducible refine (writeByte_calls _ _ _ 32 _ (HI.out.alloc _) L1.out HSZ.out).mono ?_); rintro e w1 ⟨rfl, hA, hb, ho⟩; have HA := Aside0.mk hA; have HB1 := Aside0.mk (HBX.out.trans hb); have HBOX := Aside0.mk (ho _ _ (heap_alloc_new wr _) (by have := HLT.out; intro h; injection h with h; omega) (by intro c fz h; injection h with _ h; exact absurd h (by decide))); have hc3 : w1.cell? ⟨wr.heap.size, 2, none⟩ = some (.string (rd_T30 l0 x).f2) := by rw [Lib.cell_of_heap HBOX.out]; rfl) | (go_at_call 35; (with_reducible refine (writeString_calls _ _ _ _ _ (used_b HA.out) L2.out HB1.out.size).mono ?_); rintro e w2 ⟨rfl, hA2, hb2, _⟩))
    go_roundg gk
    case measure => omega
    case rel => exact ⟨wrap64 (x + 1), by first | rfl | simp, ⟨i + 1, by have := HX.out; have := HN.out; unfold wrap64; omega, by have := HN.out; omega, by rw [HJI.out, Lib.byteCells_append, Lib.byteCells_append]; exact .inr hA2⟩, ⟨HB1.out.trans hb2⟩⟩
   ·have c2 : decide (0 < x) = false := decide_eq_false h0
    have hji : joinTo l0 (i + 1) = joinTo l0 i ++ (rd_T30 l0 x).f2.data.toList := by
     rw [joinTo, if_neg (by omega), hxi, List.append_nil]
    rw [hji] at hlj; simp only [List.length_append, hss] at hlj
    have L2 : Aside0 ((Lib.byteCells (joinTo l0 i)).length + (rd_T30 l0 x).f2.size ≤ 140737488355328) := ⟨by rw [Lib.byteCells_length]; omega⟩
    have HJI := Aside0.mk hji; replace p0 := eq_true p0; replace q0 := eq_true q0; clear hxi hi HI0 h0 hlt hmono hlj hss hji; go_wp2_with (first | (go_at_call 35; (with_reducible refine (writeString_calls _ _ _ _ _ (HI.out.alloc _) L2.out HSZ.out).mono ?_); rintro e w2 ⟨rfl, hA2, hb2, _⟩))
    go_roundg gk
    case measure => omega
    case rel => exact ⟨wrap64 (x + 1), by first | rfl | simp, ⟨i + 1, by have := HX.out; have := HN.out; unfold wrap64; omega, by have := HN.out; omega, by rw [HJI.out, Lib.byteCells_append]; exact .inr hA2⟩, ⟨HBX.out.trans hb2⟩⟩
end Go.Proofs.YtplcemlennloaaaDoor.B
end
section
namespace Go.Proofs.YtplcemlennloaaaDoor.M
open Go.RowKit Go.Proofs.YtplcemlennloaaaDoorW.PrintWords Go.Proofs.YtplcemlennloaaaDoorW.PrintLast Go.Proofs.YtplcemlennloaaaDoorW.PrintMore Go.Proofs.YtplcemlennloaaaDoor.A
open LexM (letter digit inner gapc value ends one words signs Tk Lx Er)
def Evt {α : Type} (f : Nat → Option α) (r : α) : Prop := ∃ K, ∀ k, K ≤ k → f k = some r
section
variable {α β : Type} {f g : Nat → Option α} {r a : α} {b : β}
theorem Evt.const (r : α) : Evt (fun _ => some r) r := ⟨0, fun _ _ => rfl⟩
theorem Evt.succ (h : Evt (fun k => f (k + 1)) r) : Evt f r := by
 obtain ⟨K, h⟩ := h; refine ⟨K + 1, fun k hk => ?_⟩
 obtain ⟨j, rfl⟩ : ∃ j, k = j + 1 := ⟨k - 1, by omega⟩
 exact h j (by omega)
theorem Evt.bind {h : Nat → α → Option β} (h1 : Evt f a) (h2 : Evt (fun k => h k a) b) : Evt (fun k => (f k).bind (h k)) b := by
 obtain ⟨K, h1⟩ := h1; obtain ⟨L, h2⟩ := h2; refine ⟨max K L, fun k hk => ?_⟩
 simp only [h1 k (by omega), Option.bind_some]
 exact h2 k (by omega)
theorem Evt.pos {c : Prop} [Decidable c] (hc : c) (h : Evt f r) : Evt (fun k => if c then f k else g k) r := by
 simpa only [if_pos hc] using h
theorem Evt.neg {c : Prop} [Decidable c] (hc : ¬ c) (h : Evt g r) : Evt (fun k => if c then f k else g k) r := by
 simpa only [if_neg hc] using h
theorem Evt.of_mono (hm : ∀ k, LeO (f k) (f (k + 1))) {k : Nat} (h : f k = some r) : Evt f r := by
 refine ⟨k, fun j hj => ?_⟩
 obtain ⟨d, rfl⟩ := Nat.exists_eq_add_of_le hj; induction d with
 | zero => exact h
 | succ d ih => exact hm _ r (ih (by omega))
theorem Evt.get (h : Evt f r) : ∃ k, f k = some r := by
 obtain ⟨K, h⟩ := h; exact ⟨K, h K (Nat.le_refl _)⟩
end
theorem wrap64_id {x : Int} (h0 : -9223372036854775808 ≤ x) (h1 : x < 9223372036854775808) : wrap64 x = x := by
 unfold wrap64; omega
theorem wrap_succ (i : Nat) (h : i < 9223372036854775807) : wrap64 ((i : Int) + 1) = ((i + 1 : Nat) : Int) := by
 rw [wrap64_id (by omega) (by omega)]; omega
abbrev bs (s : ByteArray) : List UInt8 := s.data.toList
theorem bs_len (s : ByteArray) : (bs s).length = s.size := data_length s
theorem bt_nat (s : ByteArray) (i : Nat) (h : i < s.size) : bt s (i : Int) = ((bs s)[i]'(by rw [bs_len]; exact h)).toNat := by
 unfold bt
 rw [dif_pos (by simpa using h)]
 simp only [Int.toNat_natCast, bs, Array.getElem_toList]
 rfl
theorem bt_drop (s : ByteArray) (i : Nat) {c : UInt8} {l : List UInt8} (h : (bs s).drop i = c :: l) : i < s.size ∧ bt s (i : Int) = c.toNat := by
 have hi : i < (bs s).length := by
  rcases Nat.lt_or_ge i (bs s).length with h1 | h1
  ·exact h1
  ·rw [List.drop_of_length_le h1] at h; cases h
 have e := List.drop_eq_getElem_cons hi; rw [h] at e; injection e with e1 _
 rw [bs_len] at hi; exact ⟨hi, by rw [bt_nat s i hi, e1]⟩
theorem bt_end (s : ByteArray) (i : Nat) (h : (bs s).drop i = []) : s.size ≤ i := by
 have := congrArg List.length h
 rw [List.length_drop, bs_len] at this; simp at this
 omega
theorem drop_next {s : ByteArray} {i : Nat} {c : UInt8} {l : List UInt8} (h : (bs s).drop i = c :: l) : (bs s).drop (i + 1) = l := by
 have := congrArg List.tail h
 simpa [List.tail_drop] using this
theorem letter_r (c : UInt8) : r2_letter.f (c.toNat : Int) = some (letter c) := by
 unfold r2_letter.f letter
 have e1 : ((c.toNat : Int) ≥ 97) ↔ 97 ≤ c.toNat := by omega
 have e2 : ((c.toNat : Int) ≤ 122) ↔ c.toNat ≤ 122 := by omega
 have e3 : ((c.toNat : Int) ≥ 65) ↔ 65 ≤ c.toNat := by omega
 have e4 : ((c.toNat : Int) ≤ 90) ↔ c.toNat ≤ 90 := by omega
 simp only [e1, e2, e3, e4]
 by_cases h1 : 97 ≤ c.toNat <;> by_cases h2 : c.toNat ≤ 122 <;> by_cases h3 : 65 ≤ c.toNat <;> simp [h1, h2, h3]
theorem digit_r (c : UInt8) : r2_digit.f (c.toNat : Int) = some (digit c) := by
 unfold r2_digit.f digit
 by_cases h1 : 48 ≤ c.toNat <;> by_cases h2 : c.toNat ≤ 57 <;> (repeat' split) <;> simp_all <;> omega
theorem eq_byte (c : UInt8) (n : Nat) (hn : n < 256) : ((c.toNat : Int) = (n : Int)) ↔ c = UInt8.ofNat n := by
 constructor
 ·intro h
  have h2 : c.toNat = n := by omega
  apply UInt8.toNat_inj.1
  rw [h2, UInt8.toNat_ofNat']; omega
 ·rintro rfl
  rw [UInt8.toNat_ofNat']; have : n % 2 ^ 8 = n := by omega
  omega
theorem beq_byte (c : UInt8) (n : Nat) (hn : n < 256) : ((c.toNat : Int) == (n : Int)) = (c == UInt8.ofNat n) := by
 rw [Bool.eq_iff_iff]; simp only [beq_iff_eq]
 exact eq_byte c n hn
theorem inner_r (c : UInt8) : r2_Inner.f (c.toNat : Int) = some (inner c) := by
 unfold r2_Inner.f inner
 rw [letter_r, digit_r]; have h := beq_byte c 95 (by omega)
 cases letter c <;> cases digit c <;> simp_all
theorem blank_r (c : UInt8) : r2_Blank.f (c.toNat : Int) = some (LexM.blank c) := by
 unfold r2_Blank.f LexM.blank
 have h1 : ((c.toNat : Int) = 32) ↔ c = 32 := eq_byte c 32 (by omega)
 have h2 : ((c.toNat : Int) = 9) ↔ c = 9 := eq_byte c 9 (by omega)
 have h3 : ((c.toNat : Int) = 10) ↔ c = 10 := eq_byte c 10 (by omega)
 have h4 : ((c.toNat : Int) == 13) = (c == 13) := beq_byte c 13 (by omega)
 by_cases e1 : c = 32
 ·rw [if_pos (h1.2 e1)]; simp [e1]
 ·rw [if_neg (fun h => e1 (h1.1 h))]
  by_cases e2 : c = 9
  ·rw [if_pos (h2.2 e2)]; simp [e2]
  ·rw [if_neg (fun h => e2 (h2.1 h))]
   by_cases e3 : c = 10
   ·rw [if_pos (h3.2 e3)]; simp [e3]
   ·rw [if_neg (fun h => e3 (h3.1 h))]
    rw [h4]; simp [e1, e2, e3]
theorem end_word (s : ByteArray) (hs : s.size ≤ 100000) : ∀ (l : List UInt8) (i : Nat), (bs s).drop i = l → Evt (fun k => r2_end.l0 k s (i : Int) false) ((i + (l.takeWhile inner).length : Nat) : Int)
 | [], i, h => by
  have := bt_end s i h
  refine Evt.succ ?_
  simp only [r2_end.l0]
  exact Evt.neg (by omega) (Evt.const _)
 | c :: l, i, h => by
  obtain ⟨hi, hb⟩ := bt_drop s i h; have ih := end_word s hs l (i + 1) (drop_next h); refine Evt.succ ?_
  simp only [r2_end.l0, hb, digit_r, inner_r, Option.bind_some, wrap_succ i (by omega)]
  refine Evt.pos (by omega) (Evt.pos (by omega) ?_)
  by_cases hd : digit c = true
  ·refine Evt.pos hd ?_
   rw [List.takeWhile_cons_of_pos (LexM.digit_inner hd), List.length_cons]; have e : i + ((l.takeWhile inner).length + 1) = i + 1 + (l.takeWhile inner).length := by omega
   rw [e]; exact ih
  ·refine Evt.neg hd (Evt.neg (by simp) ?_)
   by_cases hn : inner c = true
   ·refine Evt.pos hn ?_
    rw [List.takeWhile_cons_of_pos hn, List.length_cons]; have e : i + ((l.takeWhile inner).length + 1) = i + 1 + (l.takeWhile inner).length := by omega
    rw [e]; exact ih
   ·refine Evt.neg hn ?_
    rw [List.takeWhile_cons_of_neg hn]; exact Evt.const _
theorem end_num (s : ByteArray) (hs : s.size ≤ 100000) : ∀ (l : List UInt8) (i : Nat), (bs s).drop i = l → Evt (fun k => r2_end.l0 k s (i : Int) true) ((i + (l.takeWhile digit).length : Nat) : Int)
 | [], i, h => by
  have := bt_end s i h
  refine Evt.succ ?_
  simp only [r2_end.l0]
  exact Evt.neg (by omega) (Evt.const _)
 | c :: l, i, h => by
  obtain ⟨hi, hb⟩ := bt_drop s i h; have ih := end_num s hs l (i + 1) (drop_next h); refine Evt.succ ?_
  simp only [r2_end.l0, hb, digit_r, inner_r, Option.bind_some, wrap_succ i (by omega)]
  refine Evt.pos (by omega) (Evt.pos (by omega) ?_)
  by_cases hd : digit c = true
  ·refine Evt.pos hd ?_
   rw [List.takeWhile_cons_of_pos hd, List.length_cons]; have e : i + ((l.takeWhile digit).length + 1) = i + 1 + (l.takeWhile digit).length := by omega
   rw [e]; exact ih
  ·refine Evt.neg hd (Evt.pos (by first | rfl | trivial) ?_)
   rw [List.takeWhile_cons_of_neg hd]; exact Evt.const _
theorem bs_extract (s : ByteArray) (a b : Nat) : bs (s.extract a b) = ((bs s).drop a).take (b - a) := by
 simp [bs, ByteArray.data_extract]
theorem value_ev (s : ByteArray) (hs : s.size ≤ 100000) : ∀ (l : List UInt8) (i n : Nat), (bs s).drop i = l → (∀ c ∈ l, digit c = true) → n ≤ 2147483648 →
  Evt (fun k => r2_Value.l0 k s (n : Int) (i : Int)) (match value n l with
   | none => (0, false)
   | some m => ((m : Int), true))
 | [], i, n, h, _, _ => by
  have := bt_end s i h
  refine Evt.succ ?_
  simp only [r2_Value.l0]
  exact Evt.neg (by omega) (Evt.const _)
 | c :: l, i, n, h, hd, hn => by
  obtain ⟨hi, hb⟩ := bt_drop s i h; have hc := hd c List.mem_cons_self; simp only [digit, Bool.and_eq_true, decide_eq_true_eq] at hc
  have e1 : wrap64 (10 * (n : Int)) = 10 * (n : Int) := wrap64_id (by omega) (by omega)
  have e2 : ((c.toNat : Int) - 48) % 256 = ((c.toNat - 48 : Nat) : Int) := by omega
  have e3 : wrap64 (10 * (n : Int) + ((c.toNat - 48 : Nat) : Int)) = ((10 * n + (c.toNat - 48) : Nat) : Int) := by rw [wrap64_id (by omega) (by omega)]; omega
  refine Evt.succ ?_
  simp only [r2_Value.l0, hb, e1, e2, e3, wrap_succ i (by omega)]
  refine Evt.pos (by omega) (Evt.pos (by omega) ?_)
  by_cases hg : 10 * n + (c.toNat - 48) > 2147483648
  ·rw [value, if_pos hg]; exact Evt.pos (by omega) (Evt.const _)
  ·rw [value, if_neg hg]; exact Evt.neg (by omega) (value_ev s hs l (i + 1) _ (drop_next h) (fun x hx => hd x (List.mem_cons_of_mem _ hx)) (by omega))
theorem starts_r (s t : ByteArray) (i : Nat) (hs : s.size ≤ 100000) (ht : t.size ≤ 100000) (hi : i ≤ s.size) : r2_starts.f s (i : Int) t = some ((bs t).isPrefixOf ((bs s).drop i)) := by
 unfold r2_starts.f
 have e : wrap64 ((i : Int) + (t.size : Int)) = ((i + t.size : Nat) : Int) := by rw [wrap64_id (by omega) (by omega)]; omega
 rw [e]; by_cases h : ((i + t.size : Nat) : Int) ≤ (s.size : Int)
 ·rw [if_pos h, if_pos (by omega), if_pos (by omega)]
  congr 1
  rw [Bool.eq_iff_iff, beq_iff_eq, List.isPrefixOf_iff_prefix, List.prefix_iff_eq_take]; have e1 : (s.extract (i : Int).toNat (((i + t.size : Nat) : Int)).toNat).toList = ((bs s).drop i).take t.size := by
   rw [ByteArray.toList_eq]; show bs _ = _
   rw [bs_extract, Int.toNat_natCast, Int.toNat_natCast, Nat.add_sub_cancel_left]
  rw [e1, ByteArray.toList_eq, bs_len]; exact ⟨fun h => h.symm, fun h => h.symm⟩
 ·rw [if_neg h]; congr 1
  symm
  rw [Bool.eq_false_iff]; intro hp
  have := (List.isPrefixOf_iff_prefix.1 hp).length_le
  rw [List.length_drop, bs_len, bs_len] at this; omega
end Go.Proofs.YtplcemlennloaaaDoor.M
end
section
namespace Go.Proofs.YtplcemlennloaaaDoor.M
open Go.RowKit Go.Proofs.YtplcemlennloaaaDoorW.PrintWords Go.Proofs.YtplcemlennloaaaDoorW.PrintLast Go.Proofs.YtplcemlennloaaaDoorW.PrintMore Go.Proofs.YtplcemlennloaaaDoor.A
open LexM (letter digit inner gapc value ends one words signs Tk Lx Er)
theorem rdOf_nat {α : Type} (d : α) (xs : List α) (i : Nat) (h : i < xs.length) : rdOf d xs (i : Int) = xs[i] := by simp [rdOf, h]
theorem bs_inj {s t : ByteArray} (h : bs s = bs t) : s = t := ByteArray.ext (Array.toList_inj.mp h)
theorem in_ev (s : ByteArray) (L : List ByteArray) (hL : L.length ≤ 100000) : ∀ (m j : Nat), j + m = L.length → Evt (fun k => r2_In.l0 k s L (j : Int)) (decide (bs s ∈ (L.drop j).map bs))
 | 0, j, hm => by
  refine Evt.succ ?_
  simp only [r2_In.l0]
  rw [List.drop_of_length_le (show L.length ≤ j by omega)]
  exact Evt.neg (by omega) (Evt.const _)
 | m + 1, j, hm => by
  have ih := in_ev s L hL m (j + 1) (by omega)
  have hj : j < L.length := by omega
  refine Evt.succ ?_
  simp only [r2_In.l0, rdOf_nat ByteArray.empty L j hj, wrap_succ j (by omega), ByteArray.toList_eq]
  refine Evt.pos (by omega) (Evt.pos (by omega) ?_)
  rw [List.drop_eq_getElem_cons hj, List.map_cons]; by_cases e : L[j].data.toList = s.data.toList
  ·have : bs s ∈ bs L[j] :: (L.drop (j + 1)).map bs := by rw [show bs s = bs L[j] from e.symm]; exact List.mem_cons_self
   rw [decide_eq_true this]; exact Evt.pos e (Evt.const _)
  ·have : (bs s ∈ bs L[j] :: (L.drop (j + 1)).map bs) ↔ bs s ∈ (L.drop (j + 1)).map bs := by
    rw [List.mem_cons]; exact ⟨fun h => h.resolve_left (fun h => e h.symm), .inr⟩
   simp only [this]
   exact Evt.neg e ih
theorem sgn_ev (s : ByteArray) (hs : s.size ≤ 100000) (i : Nat) (hi : i ≤ s.size) (L : List ByteArray) (hL : L.length ≤ 100000) (ht : ∀ t ∈ L, t.size ≤ 100000) : ∀ (m j : Nat), j + m = L.length → Evt (fun k => r2_one.l0 k s (i : Int) L (j : Int)) (match (L.drop j).find? (fun t => (bs t).isPrefixOf ((bs s).drop i)) with
   | some t => (2, (i : Int), t, 0, true)
   | none => (0, 0, (⟨#[]⟩ : ByteArray), 0, false))
 | 0, j, hm => by
  refine Evt.succ ?_
  simp only [r2_one.l0]
  rw [List.drop_of_length_le (show L.length ≤ j by omega)]
  exact Evt.neg (by omega) (Evt.const _)
 | m + 1, j, hm => by
  have ih := sgn_ev s hs i hi L hL ht m (j + 1) (by omega)
  have hj : j < L.length := by omega
  refine Evt.succ ?_
  simp only [r2_one.l0, rdOf_nat ByteArray.empty L j hj, wrap_succ j (by omega), starts_r s L[j] i hs (ht _ (List.getElem_mem hj)) hi, Option.bind_some]
  refine Evt.pos (by omega) (Evt.pos (by omega) ?_)
  rw [List.drop_eq_getElem_cons hj, List.find?_cons]; by_cases e : (bs L[j]).isPrefixOf ((bs s).drop i) = true
  ·rw [e]; exact Evt.pos (by first | rfl | trivial) (Evt.const _)
  ·rw [Bool.eq_false_iff.2 e]; exact Evt.neg (by simp) ih
theorem words_r : ∃ L, r2_Words.f = some L ∧ L.map bs = words := ⟨_, rfl, rfl⟩
theorem signs_r : ∃ L, r2_Signs.f = some L ∧ L.map bs = signs := ⟨_, rfl, rfl⟩
theorem wrap32_0 : wrap32 0 = 0 := by first | rfl | (unfold wrap32; omega) | simp [wrap32]
theorem piece_take (s : ByteArray) (i : Nat) {l w : List UInt8} (h : (bs s).drop i = l) (hw : w <+: l) : bs (s.extract (i : Int).toNat (((i + w.length : Nat) : Int)).toNat) = w ∧ i + w.length ≤ s.size ∨ l = [] := by
 cases l with
 | nil => exact .inr rfl
 | cons c l =>
  left
  have hl := congrArg List.length h; rw [List.length_drop, bs_len] at hl; have := hw.length_le
  simp only [List.length_cons] at hl this
  refine ⟨?_, by omega⟩
  rw [bs_extract, Int.toNat_natCast, Int.toNat_natCast, Nat.add_sub_cancel_left, h]; exact (List.prefix_iff_eq_take.1 hw).symm
theorem one_ev (s : ByteArray) (hs : s.size ≤ 100000) (i : Nat) {c : UInt8} {l : List UInt8} (h : (bs s).drop i = c :: l) : ∃ (k a : Int) (txt : ByteArray) (v : Int) (ok : Bool), Evt (fun q => r2_one.f q s (i : Int)) (k, a, txt, v, ok) ∧
  (match one (c :: l) with
   | some t => ok = true ∧ bs txt = t.text ∧ k = (t.kind : Int) ∧ v = wrap32 (t.num : Int) ∧ a = (i : Int)
   | none => ok = false) := by
 obtain ⟨hi, hb⟩ := bt_drop s i h; obtain ⟨WL, hW, hWm⟩ := words_r; obtain ⟨SL, hS, hSm⟩ := signs_r; have hWl : WL.length ≤ 100000 := by
  have := congrArg List.length hWm
  rw [List.length_map] at this; rw [this]; decide
 have hSl : SL.length ≤ 100000 := by
  have := congrArg List.length hSm
  rw [List.length_map] at this; rw [this]; decide
 have hSt : ∀ t ∈ SL, t.size ≤ 100000 := fun t ht => by
  have h1 : bs t ∈ signs := by rw [← hSm]; exact List.mem_map_of_mem ht
  have := (LexM.signs_ne _ h1).2
  rw [bs_len] at this; omega
 have pre : ∀ r : Int × Int × ByteArray × Int × Bool, Evt (fun q => (r2_letter.f (bt s (i : Int))).bind fun t115 => (if t115 = true then ((r2_end.f q s (i : Int) false).bind fun t116 => (if (i : Int) ≤ t116 then (if t116 ≤ (s.size : Int) then ((r2_Words.f).bind fun t117 => ((r2_In.f q (s.extract (i : Int).toNat (t116 : Int).toNat) t117).bind fun t120 => (if t120 = true then (some (2, (i : Int), s.extract (i : Int).toNat (t116 : Int).toNat, 0, true)) else (some (0, (i : Int), s.extract (i : Int).toNat (t116 : Int).toNat, 0, decide (((s.extract (i : Int).toNat (t116 : Int).toNat).size : Int) ≤ 16)))))) else (none)) else (none))) else ((r2_digit.f (bt s (i : Int))).bind fun t121 => (if t121 = true then ((r2_end.f q s (i : Int) true).bind fun t122 => (if (i : Int) ≤ t122 then (if t122 ≤ (s.size : Int) then ((r2_Value.f q (s.extract (i : Int).toNat (t122 : Int).toNat)).bind fun bt123 => (if bt123.2 = true then (if t122 = (s.size : Int) then (some (1, (i : Int), s.extract (i : Int).toNat (t122 : Int).toNat, wrap32 (bt123.1), true)) else (if 0 ≤ t122 then (if t122 < (s.size : Int) then ((r2_Inner.f (bt s t122)).bind fun t125 => (some (1, (i : Int), s.extract (i : Int).toNat (t122 : Int).toNat, wrap32 (bt123.1), !t125))) else (none)) else (none))) else (some (1, (i : Int), s.extract (i : Int).toNat (t122 : Int).toNat, wrap32 (bt123.1), false)))) else (none)) else (none))) else ((r2_Signs.f).bind fun t126 => (r2_one.l0 q s (i : Int) t126 0)))))) r → Evt (fun q => r2_one.f q s (i : Int)) r := fun r hr => by
  unfold r2_one.f
  exact Evt.pos (by omega) (Evt.pos (by omega) hr)
 rw [hb, letter_r, digit_r, hW, hS] at pre; simp only [Option.bind_some] at pre
 by_cases h1 : letter c = true
 ·have hp : (c :: l).takeWhile inner <+: c :: l := List.takeWhile_prefix _
  obtain ⟨e1, e2⟩ := (piece_take s i h hp).resolve_right (by simp)
  have he := end_word s hs (c :: l) i h; have hin := in_ev (s.extract (i : Int).toNat (((i + ((c :: l).takeWhile inner).length : Nat) : Int)).toNat) WL hWl WL.length 0 (Nat.zero_add _); rw [List.drop_zero, hWm, e1] at hin; simp only [one]
  rw [if_pos h1]; by_cases h2 : (c :: l).takeWhile inner ∈ words
  ·rw [if_pos h2]; rw [decide_eq_true h2] at hin; exact ⟨_, _, _, _, _, pre _ (Evt.pos h1 (Evt.bind (show Evt (fun q => r2_end.f q s (i : Int) false) _ from he) (Evt.pos (by omega) (Evt.pos (by omega) (Evt.bind (show Evt (fun q => r2_In.f q _ WL) _ from hin) (Evt.pos rfl (Evt.const _))))))), rfl, e1, rfl, by rw [show ((0 : Nat) : Int) = 0 from rfl, wrap32_0], rfl⟩
  ·rw [if_neg h2]; rw [decide_eq_false h2] at hin; refine ⟨_, _, _, _, _, pre _ (Evt.pos h1 (Evt.bind (show Evt (fun q => r2_end.f q s (i : Int) false) _ from he) (Evt.pos (by omega) (Evt.pos (by omega) (Evt.bind (show Evt (fun q => r2_In.f q _ WL) _ from hin) (Evt.neg (by simp) (Evt.const _))))))), ?_⟩
   have hsz : ((s.extract (i : Int).toNat (((i + ((c :: l).takeWhile inner).length : Nat) : Int)).toNat).size : Int) = (((c :: l).takeWhile inner).length : Int) := by rw [← bs_len, e1]
   rw [hsz]; by_cases h3 : ((c :: l).takeWhile inner).length ≤ 16
   ·rw [if_pos h3]; exact ⟨decide_eq_true (by omega), e1, rfl, by rw [show ((0 : Nat) : Int) = 0 from rfl, wrap32_0], rfl⟩
   ·rw [if_neg h3]; exact decide_eq_false (by omega)
 ·simp only [one]
  rw [if_neg h1]; by_cases h2 : digit c = true
  ·rw [if_pos h2]; have hp : (c :: l).takeWhile digit <+: c :: l := List.takeWhile_prefix _
   obtain ⟨e1, e2⟩ := (piece_take s i h hp).resolve_right (by simp)
   have he := end_num s hs (c :: l) i h; have hv := value_ev (s.extract (i : Int).toNat (((i + ((c :: l).takeWhile digit).length : Nat) : Int)).toNat) (by rw [← bs_len, e1]; omega) ((c :: l).takeWhile digit) 0 0 (by rw [List.drop_zero, e1]) (LexM.all_takeWhile digit _) (by omega)
   have hdr : (bs s).drop (i + ((c :: l).takeWhile digit).length) = (c :: l).dropWhile digit := by rw [← List.drop_drop, h, LexM.drop_takeWhile]
   cases hvn : value 0 ((c :: l).takeWhile digit) with
   | none =>
    rw [hvn] at hv; exact ⟨_, _, _, _, _, pre _ (Evt.neg h1 (Evt.pos h2 (Evt.bind (show Evt (fun q => r2_end.f q s (i : Int) true) _ from he) (Evt.pos (by omega) (Evt.pos (by omega) (Evt.bind (show Evt (fun q => r2_Value.f q _) _ from hv) (Evt.neg (by simp) (Evt.const _)))))))), rfl⟩
   | some n =>
    rw [hvn] at hv; simp only
    by_cases h3 : i + ((c :: l).takeWhile digit).length = s.size
    ·have : (c :: l).dropWhile digit = [] := by rw [← hdr, List.drop_of_length_le (by rw [bs_len]; omega)]
     rw [this, if_pos (show ends [] = true from rfl)]
     exact ⟨_, _, _, _, _, pre _ (Evt.neg h1 (Evt.pos h2 (Evt.bind (show Evt (fun q => r2_end.f q s (i : Int) true) _ from he) (Evt.pos (by omega) (Evt.pos (by omega) (Evt.bind (show Evt (fun q => r2_Value.f q _) _ from hv) (Evt.pos rfl (Evt.pos (by omega) (Evt.const _))))))))), rfl, e1, rfl, rfl, rfl⟩
    ·cases hd : (c :: l).dropWhile digit with
     | nil =>
      rw [hd] at hdr; have := bt_end s _ hdr
      omega
     | cons d r =>
      rw [hd] at hdr; obtain ⟨_, hbd⟩ := bt_drop s _ hdr; have hin2 : r2_Inner.f (bt s ((i + ((c :: l).takeWhile digit).length : Nat) : Int)) = some (inner d) := by rw [hbd, inner_r]
      refine ⟨_, _, _, _, _, pre _ (Evt.neg h1 (Evt.pos h2 (Evt.bind (show Evt (fun q => r2_end.f q s (i : Int) true) _ from he) (Evt.pos (by omega) (Evt.pos (by omega) (Evt.bind (show Evt (fun q => r2_Value.f q _) _ from hv) (Evt.pos rfl (Evt.neg (by omega) (Evt.pos (by omega) (Evt.pos (by omega) (Evt.bind (a := inner d) ⟨0, fun _ _ => hin2⟩ (Evt.const _)))))))))))), ?_⟩
      cases hn : inner d with
      | true => simp [ends, hn]
      | false =>
       rw [if_pos (by simp [ends, hn])]
       exact ⟨rfl, e1, rfl, rfl, rfl⟩
  ·rw [if_neg h2]; have hf := sgn_ev s hs i (by omega) SL hSl hSt SL.length 0 (Nat.zero_add _)
   rw [List.drop_zero, h] at hf; have hm : signs.find? (fun t => t.isPrefixOf (c :: l)) = (SL.find? fun t => (bs t).isPrefixOf (c :: l)).map bs := by
    rw [← hSm, List.find?_map]; rfl
   rw [hm]; cases hq : SL.find? (fun t => (bs t).isPrefixOf (c :: l)) with
   | none =>
    rw [hq] at hf; exact ⟨_, _, _, _, _, pre _ (Evt.neg h1 (Evt.neg h2 hf)), rfl⟩
   | some t =>
    rw [hq] at hf; exact ⟨_, _, _, _, _, pre _ (Evt.neg h1 (Evt.neg h2 hf)), rfl, rfl, rfl, by rw [show ((0 : Nat) : Int) = 0 from rfl, wrap32_0], rfl⟩
end Go.Proofs.YtplcemlennloaaaDoor.M
end
section
namespace Go.Proofs.YtplcemlennloaaaDoor.M
open Go.RowKit Go.Proofs.YtplcemlennloaaaDoorW.PrintWords Go.Proofs.YtplcemlennloaaaDoorW.PrintLast Go.Proofs.YtplcemlennloaaaDoorW.PrintMore Go.Proofs.YtplcemlennloaaaDoor.A
open LexM (letter digit inner gapc value ends one words signs Tk Lx Er)
def tkS (p : Nat × Tk) : S30 := ⟨(p.2.kind : Int), (p.1 : Int), ⟨p.2.text.toArray⟩, wrap32 (p.2.num : Int)⟩
theorem bs_mk (l : List UInt8) : bs ⟨l.toArray⟩ = l := by simp [bs]
theorem ten_byte (c : UInt8) : ((c.toNat : Int) = 10) ↔ c = 10 := eq_byte c 10 (by omega)
theorem hash_byte (c : UInt8) : ((c.toNat : Int) = 35) ↔ c = 35 := eq_byte c 35 (by omega)
theorem note_ev (s : ByteArray) (hs : s.size ≤ 100000) (out : List S30) (r : List S30 × Int × Int) : ∀ (l : List UInt8) (i : Nat), (bs s).drop i = l → Evt (fun k => r2_Tokens.l0 k s out ((i + (l.takeWhile fun c => c != 10).length : Nat) : Int)) r → Evt (fun k => r2_Tokens.l1 k s out (i : Int)) r
 | [], i, h, hr => by
  have := bt_end s i h
  refine Evt.succ ?_
  simp only [r2_Tokens.l1]
  exact Evt.neg (by omega) (by simpa using hr)
 | c :: l, i, h, hr => by
  obtain ⟨hi, hb⟩ := bt_drop s i h; refine Evt.succ ?_
  simp only [r2_Tokens.l1, hb, wrap_succ i (by omega)]
  refine Evt.pos (by omega) (Evt.pos (by omega) ?_)
  by_cases e : c = 10
  ·subst e; exact Evt.pos ((ten_byte 10).2 rfl) (by simpa using hr)
  ·refine Evt.neg (fun h => e ((ten_byte c).1 h)) ?_
   have e2 : (c != 10) = true := by simpa using e
   rw [List.takeWhile_cons_of_pos (p := fun c => c != 10) e2, List.length_cons] at hr
   have e3 : i + ((l.takeWhile fun c => c != 10).length + 1) = i + 1 + (l.takeWhile fun c => c != 10).length := by omega
   rw [e3] at hr; exact note_ev s hs out r l (i + 1) (drop_next h) hr
theorem drop_add {s : ByteArray} {a n : Nat} {l : List UInt8} (h : l = (bs s).drop a) : l.drop n = (bs s).drop (a + n) := by rw [h, List.drop_drop]
theorem take_ev (s : ByteArray) (hs : s.size ≤ 100000) {a : Nat} {c : UInt8} {l : List UInt8} {t : Tk} (h : (bs s).drop a = c :: l) (hg : gapc c = false) (ht : one (c :: l) = some t) (out : List S30) (ho : out.length ≤ 100000) (r : List S30 × Int × Int)
  (hr : Evt (fun k => r2_Tokens.l0 k s (out ++ [tkS (a, t)]) ((a + t.text.length : Nat) : Int)) r) : Evt (fun k => r2_Tokens.l0 k s out (a : Int)) r := by
 obtain ⟨hi, hb⟩ := bt_drop s a h; obtain ⟨k, a', txt, v, ok, he, hm⟩ := one_ev s hs a h; rw [ht] at hm; obtain ⟨rfl, h2, rfl, rfl, rfl⟩ := hm; have htx : txt = ⟨t.text.toArray⟩ := bs_inj (by rw [h2, bs_mk])
 have hlen : txt.size = t.text.length := by rw [← bs_len, h2]
 have hle := (LexM.one_prefix ht).1.length_le; have hL := congrArg List.length h; rw [List.length_drop, bs_len] at hL; simp only [gapc, Bool.or_eq_false_iff] at hg
 refine Evt.succ ?_
 simp only [r2_Tokens.l0, hb, blank_r, hg.1, Option.bind_some]
 refine Evt.pos (by omega) (Evt.pos (by omega) (Evt.neg (fun e => ?_) (Evt.neg (by simp) (Evt.bind he (Evt.pos rfl (Evt.pos (by omega) ?_))))))
 ·have := hg.2
  rw [(hash_byte c).1 e] at this; exact absurd this (by decide)
 ·have e2 : wrap64 ((a : Int) + (txt.size : Int)) = ((a + t.text.length : Nat) : Int) := by rw [hlen, wrap64_id (by omega) (by omega)]; omega
  subst htx; show Evt (fun k => r2_Tokens.l0 k s (out ++ [tkS (a, t)]) (wrap64 ((a : Int) + ((⟨t.text.toArray⟩ : ByteArray).size : Int)))) r
  rw [e2]; exact hr
theorem rtokens_ok (s : ByteArray) (hs : s.size ≤ 100000) {a : Nat} {l : List UInt8} {ts : List (Nat × Tk)} (h : Lx a l ts) : l = (bs s).drop a → ∀ out : List S30, out.length ≤ a → Evt (fun k => r2_Tokens.l0 k s out (a : Int)) (out ++ ts.map tkS, 0, 0) := by
 induction h with
 | @nil a =>
  intro hl out _
  have := bt_end s a hl.symm
  refine Evt.succ ?_
  simp only [r2_Tokens.l0]
  refine Evt.neg (by omega) ?_
  simpa using Evt.const _
 | @note a l ts _ ih =>
  intro hl out ho
  obtain ⟨hi, hb⟩ := bt_drop s a hl.symm; have hn := drop_next hl.symm; refine Evt.succ ?_
  simp only [r2_Tokens.l0, hb]
  refine Evt.pos (by omega) (Evt.pos (by omega) (Evt.pos ((hash_byte 35).2 rfl) ?_))
  refine note_ev s hs out _ (35 :: l) a hl.symm ?_
  have e : a + ((35 :: l : List UInt8).takeWhile fun c => c != 10).length = a + 1 + (l.takeWhile fun c => c != 10).length := by
   rw [List.takeWhile_cons_of_pos (p := fun c => c != 10) (by decide), List.length_cons]
   exact (show ∀ x : Nat, a + (x + 1) = a + 1 + x from fun x => by omega) _
  rw [e]; exact ih (by rw [← LexM.drop_takeWhile]; exact drop_add hn.symm) out (by omega)
 | @skip a c l ts hb' _ ih =>
  intro hl out ho
  obtain ⟨hi, hb⟩ := bt_drop s a hl.symm; have hne : c ≠ 35 := fun e => by subst e; exact absurd hb' (by decide)
  refine Evt.succ ?_
  simp only [r2_Tokens.l0, hb, blank_r, hb', Option.bind_some, wrap_succ a (by omega)]
  exact Evt.pos (by omega) (Evt.pos (by omega) (Evt.neg (fun e => hne ((hash_byte c).1 e)) (Evt.pos (by first | rfl | trivial) (ih (drop_next hl.symm).symm out (by omega)))))
 | @tok a c l t ts hg ht _ ih =>
  intro hl out ho
  obtain ⟨hi, _⟩ := bt_drop s a hl.symm; have hne := List.length_pos_iff.2 (LexM.one_prefix ht).2; refine take_ev s hs hl.symm hg ht out (by omega) _ ?_
  have := ih (drop_add hl) (out ++ [tkS (a, t)]) (by simp; omega)
  simpa using this
theorem rtokens_er (s : ByteArray) (hs : s.size ≤ 100000) {a e : Nat} {l : List UInt8} (h : Er a l e) : l = (bs s).drop a → ∀ out : List S30, out.length ≤ a → Evt (fun k => r2_Tokens.l0 k s out (a : Int)) ([], (e : Int), 2) := by
 induction h with
 | @note a e l _ ih =>
  intro hl out ho
  obtain ⟨hi, hb⟩ := bt_drop s a hl.symm; have hn := drop_next hl.symm; refine Evt.succ ?_
  simp only [r2_Tokens.l0, hb]
  refine Evt.pos (by omega) (Evt.pos (by omega) (Evt.pos ((hash_byte 35).2 rfl) ?_))
  refine note_ev s hs out _ (35 :: l) a hl.symm ?_
  have e : a + ((35 :: l : List UInt8).takeWhile fun c => c != 10).length = a + 1 + (l.takeWhile fun c => c != 10).length := by
   rw [List.takeWhile_cons_of_pos (p := fun c => c != 10) (by decide), List.length_cons]
   exact (show ∀ x : Nat, a + (x + 1) = a + 1 + x from fun x => by omega) _
  rw [e]; exact ih (by rw [← LexM.drop_takeWhile]; exact drop_add hn.symm) out (by omega)
 | @skip a e c l hb' _ ih =>
  intro hl out ho
  obtain ⟨hi, hb⟩ := bt_drop s a hl.symm; have hne : c ≠ 35 := fun e => by subst e; exact absurd hb' (by decide)
  refine Evt.succ ?_
  simp only [r2_Tokens.l0, hb, blank_r, hb', Option.bind_some, wrap_succ a (by omega)]
  exact Evt.pos (by omega) (Evt.pos (by omega) (Evt.neg (fun e => hne ((hash_byte c).1 e)) (Evt.pos (by first | rfl | trivial) (ih (drop_next hl.symm).symm out (by omega)))))
 | @tok a e c l t hg ht _ ih =>
  intro hl out ho
  obtain ⟨hi, _⟩ := bt_drop s a hl.symm; have hne := List.length_pos_iff.2 (LexM.one_prefix ht).2; exact take_ev s hs hl.symm hg ht out (by omega) _ (ih (drop_add hl) (out ++ [tkS (a, t)]) (by simp; omega))
 | @here a c l hg ht =>
  intro hl out ho
  obtain ⟨hi, hb⟩ := bt_drop s a hl.symm; obtain ⟨k, a', txt, v, ok, he, hm⟩ := one_ev s hs a hl.symm; rw [ht] at hm; simp only at hm
  subst hm; simp only [gapc, Bool.or_eq_false_iff] at hg
  refine Evt.succ ?_
  simp only [r2_Tokens.l0, hb, blank_r, hg.1, Option.bind_some]
  refine Evt.pos (by omega) (Evt.pos (by omega) (Evt.neg (fun e => ?_) (Evt.neg (by simp) (Evt.bind he (Evt.neg (by simp) (Evt.const _))))))
  have := hg.2
  rw [(hash_byte c).1 e] at this; exact absurd this (by decide)
end Go.Proofs.YtplcemlennloaaaDoor.M
end
section
namespace Go.Proofs.YtplcemlennloaaaDoor.M
open Go.RowKit Go.Proofs.YtplcemlennloaaaDoorW.PrintWords Go.Proofs.YtplcemlennloaaaDoorW.PrintLast Go.Proofs.YtplcemlennloaaaDoorW.PrintMore Go.Proofs.YtplcemlennloaaaDoor.A
open LexM (letter digit inner gapc value ends one words signs Tk Lx Er)
theorem skip_notes (s : ByteArray) (hs : s.size ≤ 100000) (r : Int) : ∀ (l : List UInt8) (i : Nat), (bs s).drop i = l → Evt (fun k => lex_skip.l0 k s ((i + (l.takeWhile fun c => c != 10).length : Nat) : Int)) r → Evt (fun k => lex_skip.l1 k s (i : Int)) r
 | [], i, h, hr => by
  have := bt_end s i h
  refine Evt.succ ?_
  simp only [lex_skip.l1]
  exact Evt.neg (by omega) (by simpa using hr)
 | c :: l, i, h, hr => by
  obtain ⟨hi, hb⟩ := bt_drop s i h; refine Evt.succ ?_
  simp only [lex_skip.l1, hb, wrap_succ i (by omega)]
  refine Evt.pos (by omega) (Evt.pos (by omega) ?_)
  by_cases e : c = 10
  ·subst e; exact Evt.pos ((ten_byte 10).2 rfl) (by simpa using hr)
  ·refine Evt.neg (fun h => e ((ten_byte c).1 h)) ?_
   have e2 : (c != 10) = true := by simpa using e
   rw [List.takeWhile_cons_of_pos (p := fun c => c != 10) e2, List.length_cons] at hr
   have e3 : i + ((l.takeWhile fun c => c != 10).length + 1) = i + 1 + (l.takeWhile fun c => c != 10).length := by omega
   rw [e3] at hr; exact skip_notes s hs r l (i + 1) (drop_next h) hr
theorem skip_end (s : ByteArray) (i : Nat) (h : (bs s).drop i = []) : Evt (fun k => lex_skip.l0 k s (i : Int)) (i : Int) := by
 have := bt_end s i h
 refine Evt.succ ?_
 simp only [lex_skip.l0]
 exact Evt.neg (by omega) (Evt.const _)
theorem skip_head (s : ByteArray) (i : Nat) {c : UInt8} {l : List UInt8} (h : (bs s).drop i = c :: l) (r : Int) (hr : Evt (fun k => lex_skip.j1 k s (i : Int) (c.toNat : Int) (LexM.blank c)) r) : Evt (fun k => lex_skip.l0 k s (i : Int)) r := by
 obtain ⟨hi, hb⟩ := bt_drop s i h; have h1 : ((c.toNat : Int) = 32) ↔ c = 32 := eq_byte c 32 (by omega)
 have h2 : ((c.toNat : Int) = 9) ↔ c = 9 := eq_byte c 9 (by omega)
 have h3 : ((c.toNat : Int) = 10) ↔ c = 10 := eq_byte c 10 (by omega)
 have h4 : ((c.toNat : Int) == 13) = (c == 13) := beq_byte c 13 (by omega)
 refine Evt.succ ?_
 simp only [lex_skip.l0, hb, h4]
 refine Evt.pos (by omega) (Evt.pos (by omega) ?_)
 by_cases e1 : c = 32
 ·exact Evt.pos (h1.2 e1) (by rw [e1] at hr ⊢; exact hr)
 ·refine Evt.neg (fun h => e1 (h1.1 h)) ?_
  by_cases e2 : c = 9
  ·exact Evt.pos (h2.2 e2) (by rw [e2] at hr ⊢; exact hr)
  ·refine Evt.neg (fun h => e2 (h2.1 h)) ?_
   by_cases e3 : c = 10
   ·exact Evt.pos (h3.2 e3) (by rw [e3] at hr ⊢; exact hr)
   ·refine Evt.neg (fun h => e3 (h3.1 h)) ?_
    have e : LexM.blank c = (c == 13) := by simp [LexM.blank, e1, e2, e3]
    rw [e] at hr; exact hr
theorem skip_blank (s : ByteArray) (hs : s.size ≤ 100000) (i : Nat) {c : UInt8} {l : List UInt8} (h : (bs s).drop i = c :: l) (hb : LexM.blank c = true) (r : Int) (hr : Evt (fun k => lex_skip.l0 k s ((i + 1 : Nat) : Int)) r) : Evt (fun k => lex_skip.l0 k s (i : Int)) r := by
 obtain ⟨hi, _⟩ := bt_drop s i h; refine skip_head s i h r ?_
 rw [hb]; refine Evt.succ ?_
 simp only [lex_skip.j1, wrap_succ i (by omega)]
 exact Evt.pos (by first | rfl | trivial) hr
theorem skip_note (s : ByteArray) (hs : s.size ≤ 100000) (i : Nat) {l : List UInt8} (h : (bs s).drop i = 35 :: l) (r : Int) (hr : Evt (fun k => lex_skip.l0 k s ((i + 1 + (l.takeWhile fun c => c != 10).length : Nat) : Int)) r) : Evt (fun k => lex_skip.l0 k s (i : Int)) r := by
 refine skip_head s i h r ?_
 refine Evt.succ ?_
 simp only [lex_skip.j1]
 refine Evt.neg (by decide) (Evt.pos ((hash_byte 35).2 rfl) (skip_notes s hs r (35 :: l) i h ?_))
 have e : i + ((35 :: l : List UInt8).takeWhile fun c => c != 10).length = i + 1 + (l.takeWhile fun c => c != 10).length := by
  rw [List.takeWhile_cons_of_pos (p := fun c => c != 10) (by decide), List.length_cons]
  exact (show ∀ x : Nat, i + (x + 1) = i + 1 + x from fun x => by omega) _
 rw [e]; exact hr
theorem skip_here (s : ByteArray) (i : Nat) {c : UInt8} {l : List UInt8} (h : (bs s).drop i = c :: l) (hg : gapc c = false) : Evt (fun k => lex_skip.l0 k s (i : Int)) (i : Int) := by
 simp only [gapc, Bool.or_eq_false_iff] at hg
 refine skip_head s i h _ ?_
 rw [hg.1]; refine Evt.succ ?_
 simp only [lex_skip.j1]
 refine Evt.neg (by simp) (Evt.neg (fun e => ?_) (Evt.const _))
 have := hg.2
 rw [(hash_byte c).1 e] at this; exact absurd this (by decide)
end Go.Proofs.YtplcemlennloaaaDoor.M
end
section
namespace Go.Proofs.YtplcemlennloaaaDoor.M
open Go Go.RowKit Go.Proofs.YtplcemlennloaaaDoorW.PrintWords Go.Proofs.YtplcemlennloaaaDoorW.PrintLast Go.Proofs.YtplcemlennloaaaDoorW.PrintMore Go.Proofs.YtplcemlennloaaaDoor.A Go.Proofs.YtplcemlennloaaaDoor.B Go.Proofs.YtplcemlennloaaaDoor.S
open LexM (letter digit inner gapc value ends one words signs Tk Lx Er)
theorem letter_l (c : UInt8) : lex_letter.f (c.toNat : Int) = some (letter c) := letter_r c
theorem digit_l (c : UInt8) : lex_digit.f (c.toNat : Int) = some (digit c) := digit_r c
theorem inner_l (c : UInt8) : lex_inner.f (c.toNat : Int) = some (inner c) := inner_r c
theorem hasPrefix_r (s t : ByteArray) : strings_HasPrefix.f s t = some ((bs t).isPrefixOf (bs s)) := by
 unfold strings_HasPrefix.f stringslite_HasPrefix.f
 by_cases h : t.size ≤ s.size
 ·rw [if_pos (by omega), if_pos (by omega), if_pos (by omega)]
  simp only [Option.bind_some]
  congr 1
  rw [Bool.eq_iff_iff, beq_iff_eq, List.isPrefixOf_iff_prefix, List.prefix_iff_eq_take, ByteArray.toList_eq, ByteArray.toList_eq]; have e1 : (s.extract 0 ((t.size : Int) : Int).toNat).data.toList = (bs s).take t.size := by
   show bs _ = _
   rw [bs_extract, Int.toNat_natCast, List.drop_zero, Nat.sub_zero]
  rw [e1, bs_len]; exact ⟨fun h => h.symm, fun h => h.symm⟩
 ·rw [if_neg (by omega)]
  simp only [Option.bind_some]
  congr 1
  symm
  rw [Bool.eq_false_iff]; intro hp
  have := (List.isPrefixOf_iff_prefix.1 hp).length_le
  rw [bs_len, bs_len] at this; omega
theorem extract_end (s : ByteArray) (i : Nat) : bs (s.extract (i : Int).toNat s.size) = (bs s).drop i := by
 rw [bs_extract, Int.toNat_natCast]; exact List.take_of_length_le (by rw [List.length_drop, bs_len]; omega)
theorem sign1_ev (s : ByteArray) (i : Nat) (hi : i ≤ s.size) (Y : List ByteArray) (y : Int) (q : Int) (W : List ByteArray) (hW : W.length ≤ 100000) (r : ByteArray) (hr : Evt (fun k => lex_sign.l0 k s (i : Int) Y y (wrap64 (q + 1))) r) : ∀ (m j : Nat), j + m = W.length →
  Evt (fun k => lex_sign.l1 k s (i : Int) Y y q W (W.length : Int) (j : Int)) (((W.drop j).find? (fun t => (bs t).isPrefixOf ((bs s).drop i))).getD r)
 | 0, j, hm => by
  refine Evt.succ ?_
  simp only [lex_sign.l1]
  rw [List.drop_of_length_le (show W.length ≤ j by omega)]
  exact Evt.neg (by omega) hr
 | m + 1, j, hm => by
  have ih := sign1_ev s i hi Y y q W hW r hr m (j + 1) (by omega)
  have hj : j < W.length := by omega
  refine Evt.succ ?_
  simp only [lex_sign.l1, rdOf_nat ByteArray.empty W j hj, wrap_succ j (by omega), hasPrefix_r, extract_end, Option.bind_some]
  refine Evt.pos (by omega) (Evt.pos (by omega) (Evt.pos (by omega) (Evt.pos (by omega) (Evt.pos (by omega) ?_))))
  rw [List.drop_eq_getElem_cons hj, List.find?_cons]; by_cases e : (bs W[j]).isPrefixOf ((bs s).drop i) = true
  ·rw [e]; exact Evt.pos (by first | rfl | trivial) (Evt.const _)
  ·rw [Bool.eq_false_iff.2 e]; exact Evt.neg (by simp) ih
def flds (b : ByteArray) : List ByteArray := (Lib.fields b.data.toList).map fun l => ⟨l.toArray⟩
theorem fields_r (b : ByteArray) (h : b.size < 4294967281 ∧ b.data.toList.all (fun b => decide (b.toNat < 128)) = true ∧ (Lib.fields b.data.toList).length ≤ maxLen) (k : Nat) : strings_Fields.f k b = some (flds b) := by
 unfold strings_Fields.f
 rw [if_pos h]; rfl
def sl : List ByteArray := [(⟨#[62, 62, 62]⟩ : ByteArray), (⟨#[60, 60, 32, 62, 62, 32, 60, 61, 32, 62, 61, 32, 61, 61, 32, 33, 61, 32, 60, 58, 32, 38, 38, 32, 124, 124]⟩ : ByteArray), (⟨#[40, 32, 41, 32, 123, 32, 125, 32, 91, 32, 93, 32, 44, 32, 59, 32, 61, 32, 43, 32, 45, 32, 42, 32, 47, 32, 37, 32, 38, 32, 124, 32, 94, 32, 126, 32, 33, 32, 60, 32, 62]⟩ : ByteArray)]
def sl0 : ByteArray := ⟨#[62, 62, 62]⟩
def sl1 : ByteArray := ⟨#[60, 60, 32, 62, 62, 32, 60, 61, 32, 62, 61, 32, 61, 61, 32, 33, 61, 32, 60, 58, 32, 38, 38, 32, 124, 124]⟩
def sl2 : ByteArray := ⟨#[40, 32, 41, 32, 123, 32, 125, 32, 91, 32, 93, 32, 44, 32, 59, 32, 61, 32, 43, 32, 45, 32, 42, 32, 47, 32, 37, 32, 38, 32, 124, 32, 94, 32, 126, 32, 33, 32, 60, 32, 62]⟩
theorem f0 : (flds sl0).map bs = [[62, 62, 62]] := by decide +kernel
theorem f1 : (flds sl1).map bs = [[60, 60], [62, 62], [60, 61], [62, 61], [61, 61], [33, 61], [60, 58], [38, 38], [124, 124]] := by decide +kernel
theorem f2 : (flds sl2).map bs = [[40], [41], [123], [125], [91], [93], [44], [59], [61], [43], [45], [42], [47], [37], [38], [124], [94], [126], [33], [60], [62]] := by decide +kernel
theorem o0 : sl0.size < 4294967281 ∧ sl0.data.toList.all (fun b => decide (b.toNat < 128)) = true ∧ (Lib.fields sl0.data.toList).length ≤ maxLen := by
 refine ⟨by decide +kernel, by decide +kernel, ?_⟩
 have := congrArg List.length f0
 simp only [flds, List.length_map] at this
 rw [this]; decide
theorem o1 : sl1.size < 4294967281 ∧ sl1.data.toList.all (fun b => decide (b.toNat < 128)) = true ∧ (Lib.fields sl1.data.toList).length ≤ maxLen := by
 refine ⟨by decide +kernel, by decide +kernel, ?_⟩
 have := congrArg List.length f1
 simp only [flds, List.length_map] at this
 rw [this]; decide
theorem o2 : sl2.size < 4294967281 ∧ sl2.data.toList.all (fun b => decide (b.toNat < 128)) = true ∧ (Lib.fields sl2.data.toList).length ≤ maxLen := by
 refine ⟨by decide +kernel, by decide +kernel, ?_⟩
 have := congrArg List.length f2
 simp only [flds, List.length_map] at this
 rw [this]; decide
theorem sign0_end (s : ByteArray) (i : Int) : Evt (fun k => lex_sign.l0 k s i sl 3 3) (⟨#[]⟩ : ByteArray) := by
 refine Evt.succ ?_
 simp only [lex_sign.l0]
 exact Evt.neg (by omega) (Evt.const _)
theorem sign0_step (s : ByteArray) (i : Nat) (hi : i ≤ s.size) (q : Nat) (hq : q < 3) (W : ByteArray) (hw : sl[q]'hq = W) (hW : W.size < 4294967281 ∧ W.data.toList.all (fun b => decide (b.toNat < 128)) = true ∧ (Lib.fields W.data.toList).length ≤ maxLen) (hl : (flds W).length ≤ 100000) (r : ByteArray)
  (hr : Evt (fun k => lex_sign.l0 k s (i : Int) sl 3 ((q + 1 : Nat) : Int)) r) :
  Evt (fun k => lex_sign.l0 k s (i : Int) sl 3 (q : Int)) (((flds W).find? (fun t => (bs t).isPrefixOf ((bs s).drop i))).getD r) := by
 refine Evt.succ ?_
 simp only [lex_sign.l0, rdOf_nat ByteArray.empty sl q hq, hw, fields_r W hW, Option.bind_some]
 refine Evt.pos (by omega) (Evt.pos (by omega) (Evt.pos (by show (q : Int) < (3 : Int); omega) ?_))
 have := sign1_ev s i hi sl 3 (q : Int) (flds W) hl r (by rw [wrap_succ q (by omega)]; exact hr) (flds W).length 0 (Nat.zero_add _)
 rw [List.drop_zero] at this; exact this
theorem getD_app {α : Type} (o p : Option α) (r : α) : (o.getD (p.getD r)) = (o.or p).getD r := by cases o <;> cases p <;> rfl
theorem sign_ev (s : ByteArray) (i : Nat) (hi : i ≤ s.size) : ∃ t : ByteArray, Evt (fun k => lex_sign.f k s (i : Int)) t ∧ bs t = ((signs.find? fun x => x.isPrefixOf ((bs s).drop i)).getD []) := by
 have l0 : (flds sl0).length ≤ 100000 := by have := congrArg List.length f0; rw [List.length_map] at this; rw [this]; decide
 have l1 : (flds sl1).length ≤ 100000 := by have := congrArg List.length f1; rw [List.length_map] at this; rw [this]; decide
 have l2 : (flds sl2).length ≤ 100000 := by have := congrArg List.length f2; rw [List.length_map] at this; rw [this]; decide
 have e2 := sign0_step s i hi 2 (by omega) sl2 rfl o2 l2 _ (sign0_end s i)
 have e1 := sign0_step s i hi 1 (by omega) sl1 rfl o1 l1 _ e2
 have e0 := sign0_step s i hi 0 (by omega) sl0 rfl o0 l0 _ e1
 refine ⟨_, (e0 : Evt (fun k => lex_sign.f k s (i : Int)) _), ?_⟩
 ·rw [getD_app, getD_app]; have e : signs = ((flds sl0) ++ (flds sl1) ++ (flds sl2)).map bs := by
   rw [List.map_append, List.map_append, f0, f1, f2]; rfl
  rw [e, List.find?_map, List.find?_append, List.find?_append, Option.or_assoc]; generalize hX : (flds sl0).find? _ = X
  have hX' : (flds sl0).find? ((fun x => x.isPrefixOf ((bs s).drop i)) ∘ bs) = X := hX
  rw [hX']; generalize hY : (flds sl1).find? _ = Y
  have hY' : (flds sl1).find? ((fun x => x.isPrefixOf ((bs s).drop i)) ∘ bs) = Y := hY
  rw [hY']; generalize hZ : (flds sl2).find? _ = Z
  have hZ' : (flds sl2).find? ((fun x => x.isPrefixOf ((bs s).drop i)) ∘ bs) = Z := hZ
  rw [hZ']; cases X <;> cases Y <;> cases Z <;> rfl
theorem integer_ev (s : ByteArray) (hs : s.size ≤ 100000) : ∀ (l : List UInt8) (i n : Nat), (bs s).drop i = l → (∀ c ∈ l, digit c = true) → n ≤ 2147483648 →
  Evt (fun k => lex_integer.l0 k s (n : Int) (s.size : Int) (i : Int)) (match value n l with
   | none => (0, false)
   | some m => (wrap32 (m : Int), true))
 | [], i, n, h, _, hn => by
  have := bt_end s i h
  refine Evt.succ ?_
  simp only [lex_integer.l0]
  have e : (n : Int) % 4294967296 = (n : Int) := by omega
  rw [e]; exact Evt.neg (by omega) (Evt.const _)
 | c :: l, i, n, h, hd, hn => by
  obtain ⟨hi, hb⟩ := bt_drop s i h; have hc := hd c List.mem_cons_self; simp only [digit, Bool.and_eq_true, decide_eq_true_eq] at hc
  have e1 : wrap64 (10 * (n : Int)) = 10 * (n : Int) := wrap64_id (by omega) (by omega)
  have e2 : ((c.toNat : Int) - 48) % 256 = ((c.toNat - 48 : Nat) : Int) := by omega
  have e3 : wrap64 (10 * (n : Int) + ((c.toNat - 48 : Nat) : Int)) = ((10 * n + (c.toNat - 48) : Nat) : Int) := by rw [wrap64_id (by omega) (by omega)]; omega
  refine Evt.succ ?_
  simp only [lex_integer.l0, hb, e1, e2, e3, wrap_succ i (by omega)]
  refine Evt.pos (by omega) (Evt.pos (by omega) (Evt.pos (by omega) ?_))
  by_cases hg : 10 * n + (c.toNat - 48) > 2147483648
  ·rw [value, if_pos hg]; exact Evt.pos (by omega) (Evt.const _)
  ·rw [value, if_neg hg]; exact Evt.neg (by omega) (integer_ev s hs l (i + 1) _ (drop_next h) (fun x hx => hd x (List.mem_cons_of_mem _ hx)) (by omega))
end Go.Proofs.YtplcemlennloaaaDoor.M
end
section
namespace Go.Proofs.YtplcemlennloaaaDoor.M
open Go Go.RowKit Go.Proofs.YtplcemlennloaaaDoorW.PrintWords Go.Proofs.YtplcemlennloaaaDoorW.PrintLast Go.Proofs.YtplcemlennloaaaDoorW.PrintMore Go.Proofs.YtplcemlennloaaaDoor.A Go.Proofs.YtplcemlennloaaaDoor.B Go.Proofs.YtplcemlennloaaaDoor.S Go.Proofs.YtplcemlennloaaaDoor.N
open LexM (letter digit inner gapc value ends one words signs Tk Lx Er)
theorem word_ev (s : ByteArray) (hs : s.size ≤ 100000) (i : Int) (r : Int × Int × ByteArray × Int × Bool) : ∀ (l : List UInt8) (j : Nat), (bs s).drop j = l → Evt (fun k => lex_next.j1 k s i ((j + (l.takeWhile inner).length : Nat) : Int)) r → Evt (fun k => lex_next.l0 k s i (j : Int)) r
 | [], j, h, hr => by
  have := bt_end s j h
  refine Evt.succ ?_
  simp only [lex_next.l0]
  exact Evt.neg (by omega) (by simpa using hr)
 | c :: l, j, h, hr => by
  obtain ⟨hj, hb⟩ := bt_drop s j h; refine Evt.succ ?_
  simp only [lex_next.l0, hb, inner_l, Option.bind_some, wrap_succ j (by omega)]
  refine Evt.pos (by omega) (Evt.pos (by omega) ?_)
  by_cases hn : inner c = true
  ·refine Evt.pos hn ?_
   rw [List.takeWhile_cons_of_pos hn, List.length_cons] at hr; have e : j + ((l.takeWhile inner).length + 1) = j + 1 + (l.takeWhile inner).length := by omega
   rw [e] at hr; exact word_ev s hs i r l (j + 1) (drop_next h) hr
  ·refine Evt.neg hn ?_
   rw [List.takeWhile_cons_of_neg hn] at hr; exact hr
theorem num_ev (s : ByteArray) (hs : s.size ≤ 100000) (i e : Nat) (hie : i ≤ e) (hes : e ≤ s.size) (v : Int) (ok : Bool) (hv : Evt (fun k => lex_integer.f k (s.extract (i : Int).toNat (e : Int).toNat)) (v, ok)) : ∀ (l : List UInt8) (j : Nat), (bs s).drop j = l → j + (l.takeWhile digit).length = e →
  Evt (fun k => lex_next.l1 k s (i : Int) (j : Int)) (1, (i : Int), s.extract (i : Int).toNat (e : Int).toNat, v, ok && ends (l.dropWhile digit))
 | [], j, h, he => by
  have := bt_end s j h
  obtain rfl : j = e := by simpa using he
  refine Evt.succ ?_
  simp only [lex_next.l1]
  refine Evt.neg (by omega) (Evt.pos (by omega) (Evt.pos (by omega) (Evt.pos (by omega) (Evt.bind hv ?_))))
  cases ok with
  | true => exact Evt.pos rfl (Evt.pos (by omega) (Evt.const _))
  | false => exact Evt.neg (by simp) (Evt.const _)
 | c :: l, j, h, he => by
  obtain ⟨hj, hb⟩ := bt_drop s j h; refine Evt.succ ?_
  simp only [lex_next.l1, hb, digit_l, inner_l, Option.bind_some, wrap_succ j (by omega)]
  refine Evt.pos (by omega) (Evt.pos (by omega) ?_)
  by_cases hd : digit c = true
  ·refine Evt.pos hd ?_
   rw [List.takeWhile_cons_of_pos hd, List.length_cons] at he; have := num_ev s hs i e hie hes v ok hv l (j + 1) (drop_next h) (by omega)
   rw [List.dropWhile_cons_of_pos hd]; exact this
  ·rw [List.takeWhile_cons_of_neg hd] at he; rw [List.dropWhile_cons_of_neg hd]; obtain rfl : j = e := by simpa using he
   refine Evt.neg hd (Evt.pos (by omega) (Evt.pos (by omega) (Evt.pos (by omega) (Evt.bind hv ?_))))
   cases ok with
   | true =>
    refine Evt.pos rfl (Evt.neg (by omega) ?_)
    simpa [ends] using Evt.const _
   | false => exact Evt.neg (by simp) (Evt.const _)
theorem isWord_r (t : ByteArray) (h : t.size ≤ 100000) : lex_isWord.f t = some (decide (bs t ∈ words)) := by
 unfold lex_isWord.f
 rw [if_pos (by unfold maxLen; omega)]
 simp [bs]
theorem next_ev (s : ByteArray) (hs : s.size ≤ 100000) (i : Nat) {c : UInt8} {l : List UInt8} (h : (bs s).drop i = c :: l) : ∃ (k a : Int) (txt : ByteArray) (v : Int) (ok : Bool), Evt (fun q => lex_next.f q s (i : Int) 0) (k, a, txt, v, ok) ∧
  (match one (c :: l) with
   | some t => ok = true ∧ bs txt = t.text ∧ k = (t.kind : Int) ∧ v = wrap32 (t.num : Int) ∧ a = (i : Int)
   | none => ok = false) := by
 obtain ⟨hi, hb⟩ := bt_drop s i h; have pre : ∀ r : Int × Int × ByteArray × Int × Bool, Evt (fun q => (lex_letter.f (bt s (i : Int))).bind fun t114 => (if t114 = true then (lex_next.l0 q s (i : Int) (i : Int)) else ((lex_digit.f (bt s (i : Int))).bind fun t117 => (if t117 = true then (lex_next.l1 q s (i : Int) (i : Int)) else ((lex_sign.f q s (i : Int)).bind fun t124 => (some (2, (i : Int), t124, 0, (t124.toList != ([] : List UInt8))))))))) r → Evt (fun q => lex_next.f q s (i : Int) 0) r := fun r hr => by
  unfold lex_next.f
  exact Evt.pos (by omega) (Evt.pos (by omega) hr)
 rw [hb, letter_l, digit_l] at pre; simp only [Option.bind_some] at pre
 by_cases h1 : letter c = true
 ·have hp : (c :: l).takeWhile inner <+: c :: l := List.takeWhile_prefix _
  obtain ⟨e1, e2⟩ := (piece_take s i h hp).resolve_right (by simp)
  have hx : (s.extract (i : Int).toNat (((i + ((c :: l).takeWhile inner).length : Nat) : Int)).toNat).size = ((c :: l).takeWhile inner).length := by rw [← bs_len, e1]
  have hj : ∀ r, Evt (fun q => if decide ((c :: l).takeWhile inner ∈ words) = true then (some (2, (i : Int), s.extract (i : Int).toNat (((i + ((c :: l).takeWhile inner).length : Nat) : Int)).toNat, 0, true)) else (some (0, (i : Int), s.extract (i : Int).toNat (((i + ((c :: l).takeWhile inner).length : Nat) : Int)).toNat, 0, decide (((s.extract (i : Int).toNat (((i + ((c :: l).takeWhile inner).length : Nat) : Int)).toNat).size : Int) ≤ 16)))) r → Evt (fun q => lex_next.f q s (i : Int) 0) r := fun r hr => by
   refine pre r (Evt.pos h1 (word_ev s hs (i : Int) r (c :: l) i h (Evt.succ ?_)))
   simp only [lex_next.j1, isWord_r _ (show (s.extract (i : Int).toNat (((i + ((c :: l).takeWhile inner).length : Nat) : Int)).toNat).size ≤ 100000 by omega), e1, Option.bind_some]
   exact Evt.pos (by omega) (Evt.pos (by omega) (Evt.pos (by omega) hr))
  simp only [one]
  rw [if_pos h1]; by_cases h2 : (c :: l).takeWhile inner ∈ words
  ·rw [if_pos h2]; exact ⟨_, _, _, _, _, hj _ (Evt.pos (decide_eq_true h2) (Evt.const _)), rfl, e1, rfl, by rw [show ((0 : Nat) : Int) = 0 from rfl, wrap32_0], rfl⟩
  ·rw [if_neg h2]; refine ⟨_, _, _, _, _, hj _ (Evt.neg (by simp [h2]) (Evt.const _)), ?_⟩
   rw [hx]; by_cases h3 : ((c :: l).takeWhile inner).length ≤ 16
   ·rw [if_pos h3]; exact ⟨decide_eq_true (by omega), e1, rfl, by rw [show ((0 : Nat) : Int) = 0 from rfl, wrap32_0], rfl⟩
   ·rw [if_neg h3]; exact decide_eq_false (by omega)
 ·simp only [one]
  rw [if_neg h1]; by_cases h2 : digit c = true
  ·rw [if_pos h2]; have hp : (c :: l).takeWhile digit <+: c :: l := List.takeWhile_prefix _
   obtain ⟨e1, e2⟩ := (piece_take s i h hp).resolve_right (by simp)
   have hv := integer_ev (s.extract (i : Int).toNat (((i + ((c :: l).takeWhile digit).length : Nat) : Int)).toNat) (by rw [← bs_len, e1]; omega) ((c :: l).takeWhile digit) 0 0 (by rw [List.drop_zero, e1]) (LexM.all_takeWhile digit _) (by omega)
   cases hvn : value 0 ((c :: l).takeWhile digit) with
   | none =>
    rw [hvn] at hv; have hn := num_ev s hs i (i + ((c :: l).takeWhile digit).length) (by omega) e2 0 false hv (c :: l) i h rfl
    exact ⟨_, _, _, _, _, pre _ (Evt.neg h1 (Evt.pos h2 hn)), by simp⟩
   | some n =>
    rw [hvn] at hv; have hn := num_ev s hs i (i + ((c :: l).takeWhile digit).length) (by omega) e2 (wrap32 (n : Int)) true hv (c :: l) i h rfl
    refine ⟨_, _, _, _, _, pre _ (Evt.neg h1 (Evt.pos h2 hn)), ?_⟩
    cases he : ends ((c :: l).dropWhile digit) with
    | true => exact ⟨rfl, e1, rfl, rfl, rfl⟩
    | false => rfl
  ·rw [if_neg h2]; obtain ⟨t, ht, htt⟩ := sign_ev s i (by omega)
   rw [h] at htt; refine ⟨_, _, _, _, _, pre _ (Evt.neg h1 (Evt.neg h2 (Evt.bind ht (Evt.const _)))), ?_⟩
   cases hq : signs.find? (fun x => x.isPrefixOf (c :: l)) with
   | none =>
    rw [hq] at htt; have htt : bs t = [] := htt
    simp only [Option.map_none]
    rw [ByteArray.toList_eq, show t.data.toList = [] from htt]
    rfl
   | some x =>
    rw [hq] at htt; have htt : bs t = x := htt
    have hne := (LexM.signs_ne x (List.mem_of_find?_eq_some hq)).1; simp only [Option.map_some]
    refine ⟨?_, htt, rfl, by rw [show ((0 : Nat) : Int) = 0 from rfl, wrap32_0], by first | rfl | trivial⟩
    rw [ByteArray.toList_eq, show t.data.toList = x from htt]; simpa using hne
theorem ltake_ev (s : ByteArray) (hs : s.size ≤ 100000) {a : Nat} {c : UInt8} {l : List UInt8} {t : Tk} (h : (bs s).drop a = c :: l) (ht : one (c :: l) = some t) (out : List S30) (ho : out.length ≤ 100000) (b : Int) (hb : Evt (fun k => lex_skip.l0 k s ((a + t.text.length : Nat) : Int)) b) (r : List S30 × Int × Int)
  (hr : Evt (fun k => lex_Tokens.l0 k s 0 (out ++ [tkS (a, t)]) b) r) : Evt (fun k => lex_Tokens.l0 k s 0 out (a : Int)) r := by
 obtain ⟨hi, _⟩ := bt_drop s a h; obtain ⟨k, a', txt, v, ok, he, hm⟩ := next_ev s hs a h; rw [ht] at hm; obtain ⟨rfl, h2, rfl, rfl, rfl⟩ := hm; have htx : txt = ⟨t.text.toArray⟩ := bs_inj (by rw [h2, bs_mk])
 have hlen : txt.size = t.text.length := by rw [← bs_len, h2]
 have hle := (LexM.one_prefix ht).1.length_le; have hL := congrArg List.length h; rw [List.length_drop, bs_len] at hL; refine Evt.succ ?_
 simp only [lex_Tokens.l0]
 refine Evt.pos (by omega) (Evt.bind he (Evt.pos rfl (Evt.pos (by omega) ?_)))
 have e2 : wrap64 ((a : Int) + (txt.size : Int)) = ((a + t.text.length : Nat) : Int) := by rw [hlen, wrap64_id (by omega) (by omega)]; omega
 subst htx; show Evt (fun k => (lex_skip.f k s (wrap64 ((a : Int) + ((⟨t.text.toArray⟩ : ByteArray).size : Int)))).bind fun t135 => lex_Tokens.l0 k s 0 (out ++ [tkS (a, t)]) t135) r
 rw [e2]; exact Evt.bind hb hr
theorem ltokens_ok (s : ByteArray) (hs : s.size ≤ 100000) {a : Nat} {l : List UInt8} {ts : List (Nat × Tk)} (h : Lx a l ts) : l = (bs s).drop a → ∃ b, Evt (fun k => lex_skip.l0 k s (a : Int)) b ∧ ∀ out : List S30, out.length ≤ a → Evt (fun k => lex_Tokens.l0 k s 0 out b) (out ++ ts.map tkS, 0, 0) := by
 induction h with
 | @nil a =>
  intro hl
  refine ⟨_, skip_end s a hl.symm, fun out _ => ?_⟩
  have := bt_end s a hl.symm
  refine Evt.succ ?_
  simp only [lex_Tokens.l0]
  refine Evt.neg (by omega) ?_
  simpa using Evt.const _
 | @note a l ts _ ih =>
  intro hl
  have hn := drop_next hl.symm; obtain ⟨b, hb, ho⟩ := ih (by rw [← LexM.drop_takeWhile]; exact drop_add hn.symm)
  exact ⟨b, skip_note s hs a hl.symm b hb, fun out h => ho out (by omega)⟩
 | @skip a c l ts hb' _ ih =>
  intro hl
  obtain ⟨b, hb, ho⟩ := ih (drop_next hl.symm).symm; exact ⟨b, skip_blank s hs a hl.symm hb' b hb, fun out h => ho out (by omega)⟩
 | @tok a c l t ts hg ht _ ih =>
  intro hl
  have hne := List.length_pos_iff.2 (LexM.one_prefix ht).2; obtain ⟨hi, _⟩ := bt_drop s a hl.symm; obtain ⟨b, hb, ho⟩ := ih (drop_add hl); refine ⟨_, skip_here s a hl.symm hg, fun out h => ltake_ev s hs hl.symm ht out (by omega) b hb _ ?_⟩
  have := ho (out ++ [tkS (a, t)]) (by simp; omega)
  simpa using this
theorem ltokens_er (s : ByteArray) (hs : s.size ≤ 100000) {a e : Nat} {l : List UInt8} (h : Er a l e) : l = (bs s).drop a → ∃ b, Evt (fun k => lex_skip.l0 k s (a : Int)) b ∧ ∀ out : List S30, out.length ≤ a → Evt (fun k => lex_Tokens.l0 k s 0 out b) ([], (e : Int), 2) := by
 induction h with
 | @note a e l _ ih =>
  intro hl
  have hn := drop_next hl.symm; obtain ⟨b, hb, ho⟩ := ih (by rw [← LexM.drop_takeWhile]; exact drop_add hn.symm)
  exact ⟨b, skip_note s hs a hl.symm b hb, fun out h => ho out (by omega)⟩
 | @skip a e c l hb' _ ih =>
  intro hl
  obtain ⟨b, hb, ho⟩ := ih (drop_next hl.symm).symm; exact ⟨b, skip_blank s hs a hl.symm hb' b hb, fun out h => ho out (by omega)⟩
 | @tok a e c l t hg ht _ ih =>
  intro hl
  have hne := List.length_pos_iff.2 (LexM.one_prefix ht).2; obtain ⟨hi, _⟩ := bt_drop s a hl.symm; obtain ⟨b, hb, ho⟩ := ih (drop_add hl); exact ⟨_, skip_here s a hl.symm hg, fun out h => ltake_ev s hs hl.symm ht out (by omega) b hb _ (ho (out ++ [tkS (a, t)]) (by simp; omega))⟩
 | @here a c l hg ht =>
  intro hl
  obtain ⟨hi, _⟩ := bt_drop s a hl.symm; refine ⟨_, skip_here s a hl.symm hg, fun out h => ?_⟩
  obtain ⟨k, a', txt, v, ok, he, hm⟩ := next_ev s hs a hl.symm; rw [ht] at hm; simp only at hm
  subst hm; refine Evt.succ ?_
  simp only [lex_Tokens.l0]
  exact Evt.pos (by omega) (Evt.bind he (Evt.neg (by simp) (Evt.const _)))
def TokR (s : ByteArray) (r : List S30 × Int × Int) : Prop := (s.size > 4000 ∧ r = ([], 0, 5)) ∨ (s.size ≤ 4000 ∧ ∃ ts, Lx 0 (bs s) ts ∧ r = (ts.map tkS, 0, 0)) ∨ (s.size ≤ 4000 ∧ ∃ e, Er 0 (bs s) e ∧ r = ([], (e : Int), 2))
theorem tokens_r (s : ByteArray) : ∃ r, Evt (fun k => lex_Tokens.f k s) r ∧ Evt (fun k => r2_Tokens.f k s) r ∧ TokR s r := by
 by_cases h : s.size > 4000
 ·refine ⟨_, ?_, ?_, .inl ⟨h, rfl⟩⟩
  ·unfold lex_Tokens.f
   exact Evt.pos (by omega) (Evt.const _)
  ·unfold r2_Tokens.f
   exact Evt.pos (by omega) (Evt.const _)
 ·rcases LexM.lx_or_er _ 0 (bs s) (Nat.le_refl _) with ⟨ts, hl⟩ | ⟨e, hl⟩
  ·refine ⟨_, ?_, ?_, .inr (.inl ⟨by omega, ts, hl, rfl⟩)⟩
   ·obtain ⟨b, hb, ho⟩ := ltokens_ok s (by omega) hl (List.drop_zero).symm
    have := ho [] (Nat.zero_le _)
    rw [List.nil_append] at this; unfold lex_Tokens.f lex_words.f
    exact Evt.neg (by omega) (Evt.bind (Evt.const 0) (Evt.bind hb this))
   ·have := rtokens_ok s (by omega) hl (List.drop_zero).symm [] (Nat.zero_le _)
    rw [List.nil_append] at this; unfold r2_Tokens.f
    exact Evt.neg (by omega) this
  ·refine ⟨_, ?_, ?_, .inr (.inr ⟨by omega, e, hl, rfl⟩)⟩
   ·obtain ⟨b, hb, ho⟩ := ltokens_er s (by omega) hl (List.drop_zero).symm
    have := ho [] (Nat.zero_le _)
    unfold lex_Tokens.f lex_words.f
    exact Evt.neg (by omega) (Evt.bind (Evt.const 0) (Evt.bind hb this))
   ·have := rtokens_er s (by omega) hl (List.drop_zero).symm [] (Nat.zero_le _)
    unfold r2_Tokens.f
    exact Evt.neg (by omega) this
end Go.Proofs.YtplcemlennloaaaDoor.M
end
section
namespace Go.Proofs.YtplcemlennloaaaDoor.M
open Go Go.RowKit Go.Proofs.YtplcemlennloaaaDoorW.PrintWords Go.Proofs.YtplcemlennloaaaDoorW.PrintLast Go.Proofs.YtplcemlennloaaaDoorW.PrintMore Go.Proofs.YtplcemlennloaaaDoor.A Go.Proofs.YtplcemlennloaaaDoor.B Go.Proofs.YtplcemlennloaaaDoor.S Go.Proofs.YtplcemlennloaaaDoor.N
open LexM (letter digit inner gapc value ends one words signs Tk Lx Er)
theorem lx_len {a : Nat} {l : List UInt8} {ts : List (Nat × Tk)} (h : Lx a l ts) : ts.length ≤ l.length := by
 induction h with
 | nil => exact Nat.le_refl _
 | @note a l ts _ ih =>
  have := (List.dropWhile_suffix (l := l) fun c => c != 10).length_le
  simp only [List.length_cons]
  omega
 | skip _ _ ih => simp only [List.length_cons]; omega
 | @tok a c l t ts _ ht _ ih =>
  have hne := List.length_pos_iff.2 (LexM.one_prefix ht).2; simp only [List.length_drop, List.length_cons] at ih ⊢
  omega
theorem rd_nat (xs : List S30) (i : Nat) (h : i < xs.length) : rd_T30 xs (i : Int) = xs[i] := by simp [rd_T30, h]
theorem same_loop (A B : List S30) (m : Bool) (hl : A.length = B.length) (hA : A.length ≤ 100000)
  (h : ∀ i (h1 : i < A.length) (h2 : i < B.length), A[i].f0 = B[i].f0 ∧ A[i].f2 = B[i].f2 ∧ A[i].f3 = B[i].f3 ∧ (m = true → A[i].f1 = B[i].f1)) :
  ∀ n j : Nat, j + n = A.length → Evt (fun k => r2_Same.l0 k A B m (j : Int)) true
 | 0, j, hj => by
  refine Evt.succ ?_
  simp only [r2_Same.l0]
  exact Evt.neg (by omega) (Evt.const _)
 | n + 1, j, hj => by
  have ih := same_loop A B m hl hA h n (j + 1) (by omega)
  obtain ⟨h0, h2, h3, h1⟩ := h j (by omega) (by omega)
  refine Evt.succ ?_
  simp only [r2_Same.l0, rd_nat A j (by omega), rd_nat B j (by omega), wrap_succ j (by omega)]
  refine Evt.pos (by omega) (Evt.pos (by omega) (Evt.pos (by omega) (Evt.pos h0 (Evt.pos (by rw [h2]) (Evt.pos h3 ?_)))))
  cases m with
  | true => exact Evt.pos (by first | rfl | trivial) (Evt.pos (h1 rfl) ih)
  | false => exact Evt.neg (by simp) ih
theorem same_true (A B : List S30) (m : Bool) (hl : A.length = B.length) (hA : A.length ≤ 100000)
  (h : ∀ i (h1 : i < A.length) (h2 : i < B.length), A[i].f0 = B[i].f0 ∧ A[i].f2 = B[i].f2 ∧ A[i].f3 = B[i].f3 ∧ (m = true → A[i].f1 = B[i].f1)) :
  Evt (fun k => r2_Same.f k A B m) true := by
 unfold r2_Same.f
 exact Evt.pos (by omega) (same_loop A B m hl hA h A.length 0 (Nat.zero_add _))
theorem same_snd (ts us : List (Nat × Tk)) (h : ts.map Prod.snd = us.map Prod.snd) (hA : ts.length ≤ 100000) : Evt (fun k => r2_Same.f k (ts.map tkS) (us.map tkS) false) true := by
 have hl := congrArg List.length h; simp only [List.length_map] at hl
 refine same_true _ _ false (by simpa using hl) (by simpa using hA) fun i h1 h2 => ?_
 simp only [List.length_map] at h1 h2
 have e : (ts[i]'h1).2 = (us[i]'h2).2 := by
  have : (ts.map Prod.snd)[i]? = (us.map Prod.snd)[i]? := by rw [h]
  rw [List.getElem?_map, List.getElem?_map, List.getElem?_eq_getElem h1, List.getElem?_eq_getElem h2] at this; simpa using this
 simp only [List.getElem_map, tkS, e]
 simp
theorem tokens_lx (s : ByteArray) (hs : s.size ≤ 4000) {ts : List (Nat × Tk)} (h : Lx 0 (bs s) ts) : Evt (fun k => lex_Tokens.f k s) (ts.map tkS, 0, 0) := by
 obtain ⟨b, hb, ho⟩ := ltokens_ok s (by omega) h (List.drop_zero).symm
 have := ho [] (Nat.zero_le _)
 rw [List.nil_append] at this; unfold lex_Tokens.f lex_words.f
 exact Evt.neg (by omega) (Evt.bind (Evt.const 0) (Evt.bind hb this))
end Go.Proofs.YtplcemlennloaaaDoor.M
end
