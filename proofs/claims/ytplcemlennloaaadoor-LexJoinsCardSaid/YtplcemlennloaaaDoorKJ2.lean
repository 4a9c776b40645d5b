/- Texts of this claim, cut down to what its theorem uses and laid end to end (wip/shake.py). -/
import Derived.ArgAppend
import Derived.Below
import Derived.BigQuiet
import Derived.ChangeOld
import Derived.ChangeVars
import Derived.Deep.AppendLies
import Derived.Deep.CutBlock
import Derived.Deep.DeepCutAuto
import Derived.Deep.Draws
import Derived.Deep.LoopGhost
import Derived.Deep.OwnRows
import Derived.Deep.QuietTactic
import Derived.Deep.RegionHeld3
import Derived.Deep.Slices
import Derived.KernelRfl
import Derived.LaidLaws
import Derived.LaidMore
import Derived.Laws.BitsLemmas
import Derived.Laws.BytesArg
import Derived.Laws.IdiomCopy
import Derived.Laws.MakeOwn
import Derived.Laws.OwnMore
import Derived.Laws.Rows
import Derived.Laws.Slices
import Derived.Laws.StructEq
import Derived.Lay
import Derived.Lib.AppendStr
import Derived.Lib.ConvBytes
import Derived.Lib.LaidTab
import Derived.Maps.AppendAt
import Derived.Maps.OwnOps
import Derived.Maps.OwnSet
import Derived.OpenShut
import Derived.OrdersHeld
import Derived.OwnWalk
import Derived.ProofKit
import Derived.RowKit
import Derived.RowKit3
import Derived.SevenTiedAt
import Derived.Shelf.Strings.BuilderK
import Derived.Shelf.Strings.Fields
import Derived.ShutString
import Derived.SizedLaws
import Derived.Stop.Joined
import Derived.StringKeys
import Derived.Tactics
import Derived.Test.YtplcemlennloaaaDoorCards
import Derived.Test.YtplcemlennloaaaDoorProg
import Derived.Test.YtplcemlennloaaaDoorRows
import Derived.Test.YtplcemlennloaaaDoorTie
import Derived.WalkKit
import Derived.WideLaws
import Derived.Test.YtplcemlennloaaaDoorKJ1
section
namespace Go.Proofs.YtplcemlennloaaaDoor.C
open Go.RowKit Go.Proofs.YtplcemlennloaaaDoorW.PrintWords Go.Proofs.YtplcemlennloaaaDoorW.PrintLast Go.Proofs.YtplcemlennloaaaDoorW.PrintMore Go.Proofs.YtplcemlennloaaaDoor Go.Proofs.YtplcemlennloaaaDoor.A Go.Proofs.YtplcemlennloaaaDoor.B Go.Proofs.YtplcemlennloaaaDoor.N
set_option linter.unusedVariables false
set_option linter.unusedSimpArgs false
def l2_LexJoins.l0 : Nat → List (S30) → Int → Option (Bool)
 | 0, _, _ => none
 | k + 1, x0, x3 => if x3 < (x0.length : Int) then (if (x0.length : Int) > 200 then ((l2_awake.f k).bind fun t201 => (some t201)) else (if 0 ≤ x3 then (if (((rd_T30 x0 x3).f2).size : Int) > 100 then ((l2_awake.f k).bind fun t203 => (some t203)) else (l2_LexJoins.l0 k x0 (wrap64 (x3 + 1)))) else (none))) else ((lex_Join.f k x0).bind fun t204 => ((r2_Join.f k x0).bind fun t205 => (if t204.toList = t205.toList then ((l2_awake.f k).bind fun t206 => (some t206)) else (some false))))
def l2_LexJoins.f (k : Nat) (l0 : List (S30)) : Option (Bool) := l2_LexJoins.l0 k l0 0
set_option maxHeartbeats 8000000 in
set_option maxRecDepth 100000 in
theorem l2_LexJoins.calls (k : Nat) (A0 : Option Addr) (c0 : Nat) (l0 : List (S30)) (r : Bool) (w : World) (hr0 : Kd.C k30 w A0 l0.length l0) (hc0 : l0.length ≤ c0) (h : l2_LexJoins.f k l0 = some r) (hT : Tab w) :
  Calls Tryd.prog 8 #[.slice A0 l0.length c0] w fun e w' => e = .returned (.bool r) ∧ Below w.heap.size w w' := by
 have HT := Aside0.mk hT; clear hT; have HR0 := Aside0.mk hr0; have HC0 := Aside0.mk hc0; clear hr0 hc0; have HB := Aside0.mk (Below.refl w.heap.size w); have H : (l2_LexJoins.l0 k l0 0) = some r := h
 clear h; have H' := Aside0.mk H
 clear H; go_enter Tryd.func8, Tryd.ntmps8
 go_wp2
 go_loopg [3] k (fun kq v3 w' => ∃ (x3_1 : Int), v3 = .int .i64 x3_1 ∧ Aside0 (l2_LexJoins.l0 kq l0 x3_1 = some r) ∧ Aside0 (kq ≤ k) ∧ Aside0 (Below w.heap.size w w'))
 case atStart => exact ⟨(0), (by first | rfl | (simp; done) | (simp [*]; done)), H', ⟨Nat.le_refl _⟩, ⟨by repeat (first | (with_reducible first | exact HB.out | apply below_alloc | apply pw_below_drewN | apply below_drew1) | exact HB.out)⟩⟩
 case round =>
  clear H'; obtain ⟨x3_1, rfl, HA, HK1, HB⟩ := hrel; cases gk with
  | zero => exact absurd HA.out (by simp [l2_LexJoins.l0])
  | succ k1 =>
   have H := HA.out; clear HA; simp only [l2_LexJoins.l0] at H
   by_cases c2 : x3_1 < (l0.length : Int)
   ·rw [if_pos c2] at H; have c2b0 : decide (x3_1 < (l0.length : Int)) = true := decide_eq_true c2
    clear c2; by_cases c3 : (l0.length : Int) > 200
    ·rw [if_pos c3] at H; have c3b0 : decide (200 < (l0.length : Int)) = true := decide_eq_true c3
     have c3b1 : decide (200 < l0.length) = true := decide_eq_true (by omega)
     clear c3; replace H := Option.bind_eq_some_iff.mp H; obtain ⟨t201, A40, H⟩ := H; replace H : (some t201) = some r := H; have A4 := Aside0.mk A40; clear A40; obtain rfl := Option.some.inj H; go_wp2_with (first | ((with_reducible refine gate_callee (f := 10) rfl ?_); refine goesL_ (some 22) rfl rfl Tryd.func10 (by kernel_rfl) rfl #[] rfl (by (try simp only [List.map_toArray, List.map_cons, List.map_nil]); first | done | rfl | (simp only [List.length_drop, List.length_take]; rfl)) ?_; (with_reducible refine (l2_awake.calls k1 t201 _ A4.out ?hTab).mono ?_); (case hTab => exact HT.out.below (by repeat (first | (with_reducible first | exact HB.out | apply below_alloc | apply pw_below_drewN | apply below_drew1) | exact HB.out))); rintro e w5 ⟨rfl, hb⟩; refine ⟨_, rfl, ?_⟩; have n0_ := Aside0.mk (below_step (by repeat (first | (with_reducible first | exact HB.out | apply below_alloc | apply pw_below_drewN | apply below_drew1) | exact HB.out)) hb); clear HB; have HB := n0_; clear n0_; (try clear hb); (try clear hb2); (try clear hk); (try clear hi)))
     go_ret
     exact ⟨by first | rfl | (simp [errW_none, errW_some] <;> rfl) | (simp [*, errW_none, errW_some] <;> rfl), by repeat (first | (with_reducible first | exact HB.out | apply below_alloc | apply pw_below_drewN | apply below_drew1) | exact HB.out)⟩
    ·rw [if_neg c3] at H; have c3b0 : decide (200 < (l0.length : Int)) = false := decide_eq_false c3
     have c3b1 : decide (200 < l0.length) = false := decide_eq_false (by omega)
     clear c3; by_cases c6 : 0 ≤ x3_1
     ·rw [if_pos c6] at H; have c6b0 : decide (0 ≤ x3_1) = true := decide_eq_true c6
      clear c6; by_cases c7 : (((rd_T30 l0 x3_1).f2).size : Int) > 100
      ·rw [if_pos c7] at H; have c7b0 : decide (100 < (((rd_T30 l0 x3_1).f2).size : Int)) = true := decide_eq_true c7
       have c7b1 : decide (100 < ((rd_T30 l0 x3_1).f2).size) = true := decide_eq_true (by omega)
       clear c7; replace H := Option.bind_eq_some_iff.mp H; obtain ⟨t203, A80, H⟩ := H; replace H : (some t203) = some r := H; have A8 := Aside0.mk A80; clear A80; obtain rfl := Option.some.inj H; have p202 : 0 ≤ (x3_1 : Int) := of_decide_eq_true (by with_reducible assumption)
       have q202 : x3_1 < (l0.length : Int) := of_decide_eq_true (by with_reducible assumption)
       obtain ⟨ad202, e202, hx202_0, hx202_1, hx202_2, hx202_3⟩ := at_T30 HR0.out x3_1 p202 q202; cases e202; replace hx202_0 := (HB.out.cell (World.block_lt_of_cell? w _ hx202_0)).trans hx202_0; replace hx202_1 := (HB.out.cell (World.block_lt_of_cell? w _ hx202_1)).trans hx202_1; replace hx202_2 := (HB.out.cell (World.block_lt_of_cell? w _ hx202_2)).trans hx202_2; replace hx202_3 := (HB.out.cell (World.block_lt_of_cell? w _ hx202_3)).trans hx202_3; replace p202 := eq_true p202; replace q202 := eq_true q202; go_wp2_with (first | ((with_reducible refine gate_callee (f := 10) rfl ?_); refine goesL_ (some 22) rfl rfl Tryd.func10 (by kernel_rfl) rfl #[] rfl (by (try simp only [List.map_toArray, List.map_cons, List.map_nil]); first | done | rfl | (simp only [List.length_drop, List.length_take]; rfl)) ?_; (with_reducible refine (l2_awake.calls k1 t203 _ A8.out ?hTab).mono ?_); (case hTab => exact HT.out.below (by repeat (first | (with_reducible first | exact HB.out | apply below_alloc | apply pw_below_drewN | apply below_drew1) | exact HB.out))); rintro e w9 ⟨rfl, hb⟩; refine ⟨_, rfl, ?_⟩; have n0_ := Aside0.mk (below_step (by repeat (first | (with_reducible first | exact HB.out | apply below_alloc | apply pw_below_drewN | apply below_drew1) | exact HB.out)) hb); clear HB; have HB := n0_; clear n0_; (try clear hb); (try clear hb2); (try clear hk); (try clear hi)))
       go_ret
       exact ⟨by first | rfl | (simp [errW_none, errW_some] <;> rfl) | (simp [*, errW_none, errW_some] <;> rfl), by repeat (first | (with_reducible first | exact HB.out | apply below_alloc | apply pw_below_drewN | apply below_drew1) | exact HB.out)⟩
      ·rw [if_neg c7] at H; have c7b0 : decide (100 < (((rd_T30 l0 x3_1).f2).size : Int)) = false := decide_eq_false c7
       have c7b1 : decide (100 < ((rd_T30 l0 x3_1).f2).size) = false := decide_eq_false (by omega)
       clear c7; have H' := Aside0.mk H
       clear H; have p202 : 0 ≤ (x3_1 : Int) := of_decide_eq_true (by with_reducible assumption)
       have q202 : x3_1 < (l0.length : Int) := of_decide_eq_true (by with_reducible assumption)
       obtain ⟨ad202, e202, hx202_0, hx202_1, hx202_2, hx202_3⟩ := at_T30 HR0.out x3_1 p202 q202; cases e202; replace hx202_0 := (HB.out.cell (World.block_lt_of_cell? w _ hx202_0)).trans hx202_0; replace hx202_1 := (HB.out.cell (World.block_lt_of_cell? w _ hx202_1)).trans hx202_1; replace hx202_2 := (HB.out.cell (World.block_lt_of_cell? w _ hx202_2)).trans hx202_2; replace hx202_3 := (HB.out.cell (World.block_lt_of_cell? w _ hx202_3)).trans hx202_3; replace p202 := eq_true p202; replace q202 := eq_true q202; go_wp2
       go_roundg k1
       case measure => have := HK1.out; omega
       case rel => exact ⟨(wrap64 (x3_1 + 1)), (by first | rfl | (simp; done) | (simp [*]; done)), H', ⟨by have := HK1.out; omega⟩, ⟨by repeat (first | (with_reducible first | exact HB.out | apply below_alloc | apply pw_below_drewN | apply below_drew1) | exact HB.out)⟩⟩
     ·rw [if_neg c6] at H; exact absurd H (by simp)
   ·rw [if_neg c2] at H; have c2b0 : decide (x3_1 < (l0.length : Int)) = false := decide_eq_false c2
    clear c2; replace H := Option.bind_eq_some_iff.mp H; obtain ⟨t204, A100, H⟩ := H; replace H : ((r2_Join.f k1 l0).bind fun t205 => (if t204.toList = t205.toList then ((l2_awake.f k1).bind fun t206 => (some t206)) else (some false))) = some r := H
    have A10 := Aside0.mk A100; clear A100; replace H := Option.bind_eq_some_iff.mp H; obtain ⟨t205, A110, H⟩ := H; replace H : (if t204.toList = t205.toList then ((l2_awake.f k1).bind fun t206 => (some t206)) else (some false)) = some r := H
    have A11 := Aside0.mk A110; clear A110; by_cases c12 : t204.toList = t205.toList
    ·rw [if_pos c12] at H; have c12b0 : (t204.toList == t205.toList) = true := beq_iff_eq.mpr c12
     have c12b1 : (t204.toList != t205.toList) = false := bne_eq_false_iff_eq.mpr c12
     clear c12; replace H := Option.bind_eq_some_iff.mp H; obtain ⟨t206, A130, H⟩ := H; replace H : (some t206) = some r := H; have A13 := Aside0.mk A130; clear A130; obtain rfl := Option.some.inj H; go_wp2_with (first | ((with_reducible refine gate_callee (f := 21) rfl ?_); refine goesL_ (some 24) rfl rfl Tryd.func21 (by kernel_rfl) rfl #[.slice A0 l0.length c0] rfl (by (try simp only [List.map_toArray, List.map_cons, List.map_nil]); first | done | rfl | (simp only [List.length_drop, List.length_take]; rfl)) ?_; (with_reducible refine (lex_Join.calls k1 _ _ l0 t204 _ ?side1 ?side2 A10.out).mono ?_); (case side1 => repeat (first | exact (Kd.C_below HR0.out HB.out) | with_reducible first | refine Kd.C_alloc ?_ _ | refine Kd.C_drewN ?_ _ | refine Kd.C_drew ?_)); (case side2 => exact HC0.out); rintro e w14 ⟨rfl, hb⟩; refine ⟨_, rfl, ?_⟩; have n0_ := Aside0.mk (below_step (by repeat (first | (with_reducible first | exact HB.out | apply below_alloc | apply pw_below_drewN | apply below_drew1) | exact HB.out)) hb); clear HB; have HB := n0_; clear n0_; (try clear hb); (try clear hb2); (try clear hk); (try clear hi)) | ((with_reducible refine gate_callee (f := 22) rfl ?_); refine goesL_ (some 26) rfl rfl Tryd.func22 (by kernel_rfl) rfl #[.slice A0 l0.length c0] rfl (by (try simp only [List.map_toArray, List.map_cons, List.map_nil]); first | done | rfl | (simp only [List.length_drop, List.length_take]; rfl)) ?_; (with_reducible refine (r2_Join.calls k1 _ _ l0 t205 _ ?side1 ?side2 A11.out).mono ?_); (case side1 => repeat (first | exact (Kd.C_below HR0.out HB.out) | with_reducible first | refine Kd.C_alloc ?_ _ | refine Kd.C_drewN ?_ _ | refine Kd.C_drew ?_)); (case side2 => exact HC0.out); rintro e w' ⟨rfl, ⟨nd, rfl⟩⟩; refine ⟨_, rfl, ?_⟩) | (go_at_call 10; (with_reducible refine (l2_awake.calls k1 t206 _ A13.out ?hTab).mono ?_); (case hTab => exact HT.out.below (by repeat (first | (with_reducible first | exact HB.out | apply below_alloc | apply pw_below_drewN | apply below_drew1) | exact HB.out))); rintro e w15 ⟨rfl, hb⟩; have n0_ := Aside0.mk (below_step (by repeat (first | (with_reducible first | exact HB.out | apply below_alloc | apply pw_below_drewN | apply below_drew1) | exact HB.out)) hb); clear HB; have HB := n0_; clear n0_; (try clear hb); (try clear hb2); (try clear hk); (try clear hi)))
     go_ret
     exact ⟨by first | rfl | (simp [errW_none, errW_some] <;> rfl) | (simp [*, errW_none, errW_some] <;> rfl), by repeat (first | (with_reducible first | exact HB.out | apply below_alloc | apply pw_below_drewN | apply below_drew1) | exact HB.out)⟩
    ·rw [if_neg c12] at H; have c12b0 : (t204.toList == t205.toList) = false := beq_eq_false_iff_ne.mpr c12
     have c12b1 : (t204.toList != t205.toList) = true := bne_iff_ne.mpr c12
     obtain rfl := Option.some.inj H; go_wp2_with (first | ((with_reducible refine gate_callee (f := 21) rfl ?_); refine goesL_ (some 24) rfl rfl Tryd.func21 (by kernel_rfl) rfl #[.slice A0 l0.length c0] rfl (by (try simp only [List.map_toArray, List.map_cons, List.map_nil]); first | done | rfl | (simp only [List.length_drop, List.length_take]; rfl)) ?_; (with_reducible refine (lex_Join.calls k1 _ _ l0 t204 _ ?side1 ?side2 A10.out).mono ?_); (case side1 => repeat (first | exact (Kd.C_below HR0.out HB.out) | with_reducible first | refine Kd.C_alloc ?_ _ | refine Kd.C_drewN ?_ _ | refine Kd.C_drew ?_)); (case side2 => exact HC0.out); rintro e w16 ⟨rfl, hb⟩; refine ⟨_, rfl, ?_⟩; have n0_ := Aside0.mk (below_step (by repeat (first | (with_reducible first | exact HB.out | apply below_alloc | apply pw_below_drewN | apply below_drew1) | exact HB.out)) hb); clear HB; have HB := n0_; clear n0_; (try clear hb); (try clear hb2); (try clear hk); (try clear hi)) | ((with_reducible refine gate_callee (f := 22) rfl ?_); refine goesL_ (some 26) rfl rfl Tryd.func22 (by kernel_rfl) rfl #[.slice A0 l0.length c0] rfl (by (try simp only [List.map_toArray, List.map_cons, List.map_nil]); first | done | rfl | (simp only [List.length_drop, List.length_take]; rfl)) ?_; (with_reducible refine (r2_Join.calls k1 _ _ l0 t205 _ ?side1 ?side2 A11.out).mono ?_); (case side1 => repeat (first | exact (Kd.C_below HR0.out HB.out) | with_reducible first | refine Kd.C_alloc ?_ _ | refine Kd.C_drewN ?_ _ | refine Kd.C_drew ?_)); (case side2 => exact HC0.out); rintro e w' ⟨rfl, ⟨nd, rfl⟩⟩; refine ⟨_, rfl, ?_⟩))
     go_ret
     exact ⟨by first | rfl | (simp [errW_none, errW_some] <;> rfl) | (simp [*, errW_none, errW_some] <;> rfl), by repeat (first | (with_reducible first | exact HB.out | apply below_alloc | apply pw_below_drewN | apply below_drew1) | exact HB.out)⟩
end Go.Proofs.YtplcemlennloaaaDoor.C
end
section
namespace Go.Proofs.YtplcemlennloaaaDoor.M
open Go Go.RowKit Go.Proofs.YtplcemlennloaaaDoorW.PrintWords Go.Proofs.YtplcemlennloaaaDoorW.PrintLast Go.Proofs.YtplcemlennloaaaDoorW.PrintMore Go.Proofs.YtplcemlennloaaaDoor.A Go.Proofs.YtplcemlennloaaaDoor.B Go.Proofs.YtplcemlennloaaaDoor.S Go.Proofs.YtplcemlennloaaaDoor.N Go.Proofs.YtplcemlennloaaaDoor.C
theorem awake_r : l2_awake.f 60 = some true := by decide +kernel
theorem awake_ev : Evt (fun k => l2_awake.f k) true := Evt.of_mono (fun k => l2_awake.mono k) awake_r
end Go.Proofs.YtplcemlennloaaaDoor.M
end
section
namespace Go.Proofs.YtplcemlennloaaaDoor.M
open Go Go.RowKit Go.Proofs.YtplcemlennloaaaDoorW.PrintWords Go.Proofs.YtplcemlennloaaaDoorW.PrintLast Go.Proofs.YtplcemlennloaaaDoorW.PrintMore Go.Proofs.YtplcemlennloaaaDoor.A Go.Proofs.YtplcemlennloaaaDoor.B Go.Proofs.YtplcemlennloaaaDoor.S Go.Proofs.YtplcemlennloaaaDoor.N Go.Proofs.YtplcemlennloaaaDoor.C
open LexM (letter digit inner gapc value ends one words signs Tk Lx Er)
theorem append_bytes (a b : ByteArray) : bs (a ++ b) = bs a ++ bs b := by
 show (a ++ b).data.toList = _
 rw [ByteArray.data_append, Array.toList_append]
theorem rjoin_ev (l : List S30) (hl : l.length ≤ 200) (hs : ∀ (i : Nat) (h : i < l.length), l[i].f2.size ≤ 100) : ∀ (n j : Nat) (x : ByteArray), j + n = l.length → bs x = joinTo l j → x.size ≤ 101 * j → ∃ y : ByteArray, Evt (fun k => r2_Join.l0 k l x (j : Int)) y ∧ bs y = joinTo l l.length ∧ y.size ≤ 101 * l.length
 | 0, j, x, hj, hx, hz => by
  obtain rfl : j = l.length := by omega
  refine ⟨x, Evt.succ ?_, hx, hz⟩
  simp only [r2_Join.l0]
  exact Evt.neg (by omega) (Evt.const _)
 | n + 1, j, x, hj, hx, hz => by
  have hjl : j < l.length := by omega
  have hsj := hs j hjl; have e0 : rd_T30 l (j : Int) = l[j] := rd_nat l j hjl
  have e32 : ((⟨#[32]⟩ : ByteArray)).size = 1 := rfl
  have happ : ∀ a b : ByteArray, (a ++ b).size = a.size + b.size := fun a b => by rw [← bs_len, append_bytes, List.length_append, bs_len, bs_len]
  by_cases h0 : 0 < j
  ·obtain ⟨y, h1, h2, h3⟩ := rjoin_ev l hl hs n (j + 1) ((x ++ (⟨#[32]⟩ : ByteArray)) ++ l[j].f2) (by omega) (by rw [append_bytes, append_bytes, hx, joinTo, if_pos h0, e0]) (by rw [happ, happ, e32]; omega)
   refine ⟨y, Evt.succ ?_, h2, h3⟩
   simp only [r2_Join.l0, e0, wrap_succ j (by omega)]
   exact Evt.pos (by omega) (Evt.pos (by omega) (Evt.pos (by omega) (Evt.pos (by omega) (Evt.pos (by rw [happ, e32]; omega) h1))))
  ·obtain ⟨y, h1, h2, h3⟩ := rjoin_ev l hl hs n (j + 1) (x ++ l[j].f2) (by omega) (by rw [append_bytes, hx, joinTo, if_neg h0, e0, List.append_nil]) (by rw [happ]; omega)
   refine ⟨y, Evt.succ ?_, h2, h3⟩
   simp only [r2_Join.l0, e0, wrap_succ j (by omega)]
   exact Evt.pos (by omega) (Evt.neg (by omega) (Evt.pos (by omega) (Evt.pos (by omega) h1)))
theorem joins_ev (l : List S30) (hl : l.length ≤ 200) : ∀ n j : Nat, j + n = l.length → (∀ (i : Nat) (h : i < l.length), i < j → l[i].f2.size ≤ 100) → Evt (fun k => l2_LexJoins.l0 k l (j : Int)) true
 | 0, j, hj, hs => by
  obtain rfl : j = l.length := by omega
  obtain ⟨y, h1, h2, h3⟩ := rjoin_ev l hl (fun i h => hs i h h) l.length 0 ⟨#[]⟩ (Nat.zero_add _) rfl (Nat.zero_le _)
  refine Evt.succ ?_
  simp only [l2_LexJoins.l0]
  have hz : (joinTo l l.length).length ≤ 140737488355328 := by rw [← h2, bs_len]; omega
  refine Evt.neg (by omega) (Evt.bind (a := ⟨(joinTo l l.length).toArray⟩) ⟨0, fun k _ => ?_⟩ (Evt.bind (show Evt (fun k => r2_Join.f k l) y from h1) (Evt.pos ?_ (Evt.bind awake_ev (Evt.const _)))))
  ·show lex_Join.f k l = _
   unfold lex_Join.f
   rw [if_pos ⟨hz, by omega⟩]
  ·rw [ByteArray.toList_eq, ByteArray.toList_eq]; show bs _ = bs y
   rw [h2, bs_mk]
 | n + 1, j, hj, hs => by
  have hjl : j < l.length := by omega
  refine Evt.succ ?_
  simp only [l2_LexJoins.l0, rd_nat l j hjl, wrap_succ j (by omega)]
  refine Evt.pos (by omega) (Evt.neg (by omega) (Evt.pos (by omega) ?_))
  by_cases h : l[j].f2.size > 100
  ·exact Evt.pos (by omega) (Evt.bind awake_ev (Evt.const _))
  ·refine Evt.neg (by omega) (joins_ev l hl n (j + 1) (by omega) fun i h1 h2 => ?_)
   rcases Nat.lt_or_ge i j with h3 | h3
   ·exact hs i h1 h3
   ·obtain rfl : i = j := by omega
    omega
theorem Pure.LexJoins (l0 : List S30) : ∃ k, l2_LexJoins.f k l0 = some true := by
 refine Evt.get (r := true) ?_
 unfold l2_LexJoins.f
 by_cases h : l0.length ≤ 200
 ·exact joins_ev l0 h l0.length 0 (Nat.zero_add _) fun i _ h => absurd h (by omega)
 ·refine Evt.succ ?_
  simp only [l2_LexJoins.l0]
  exact Evt.pos (by omega) (Evt.pos (by omega) (Evt.bind awake_ev (Evt.const _)))
end Go.Proofs.YtplcemlennloaaaDoor.M
end
