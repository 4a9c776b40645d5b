/- Texts of this claim, cut down to what its theorem uses and laid end to end (wip/shake.py). -/
import Derived.ArgAppend
import Derived.Below
import Derived.BigQuiet
import Derived.ChangeOld
import Derived.ChangeSlices
import Derived.Deep.AppendLies
import Derived.Deep.CutBlock
import Derived.Deep.DeepCutAuto
import Derived.Deep.Draws
import Derived.Deep.LoopGhost
import Derived.Deep.Matrix
import Derived.Deep.OwnRows
import Derived.Deep.QuietTactic
import Derived.Deep.RegionHeld3
import Derived.KernelRfl
import Derived.Laws.BitsLemmas
import Derived.Laws.BytesArg
import Derived.Laws.CopyOwn
import Derived.Laws.IdiomCopy
import Derived.Laws.MakeOwn
import Derived.Laws.OwnMore
import Derived.Laws.Rows
import Derived.Laws.Slices
import Derived.Laws.StructEq
import Derived.Lib.AppendStr
import Derived.Lib.ConvBytes
import Derived.LoopIn
import Derived.LoopNIn
import Derived.Maps.AppendAt
import Derived.OpenShut
import Derived.OrdersHeld
import Derived.OwnWalk
import Derived.OwnWalkIn
import Derived.ProofKit
import Derived.RangeFuncBound
import Derived.RangeFuncBox
import Derived.RangeFuncCalls
import Derived.RangeFuncFrom
import Derived.RangeFuncLeaves
import Derived.RangeFuncNested
import Derived.RowKit
import Derived.RowKit3
import Derived.Shelf.Abstract
import Derived.ShutString
import Derived.SizedLaws
import Derived.Tactics
import Derived.TacticsInMore
import Derived.Test.YtjjedbcgkljdeaaProg
import Derived.WalkKit
import Derived.WideLaws
import GoSem.ClaimData
import Derived.Test.YtjjedbcgkljdeaaKRenamed1
section
namespace Go.Proofs.Ytjjedbcgkljdeaa.B
open Go.RowKit Go.Proofs.YtjjedbcgkljdeaaW.PrintWords Go.Proofs.YtjjedbcgkljdeaaW.PrintLast Go.Proofs.YtjjedbcgkljdeaaW.PrintMore Go.Proofs.Ytjjedbcgkljdeaa.A
set_option linter.unusedVariables false
set_option linter.unusedSimpArgs false
-- NOT PRINTED: function 61 (graph_posts)
mutual
def graph_backs.l0 : Nat → List (List Int) → List Int → List Bool → List (List Int) → Int → Int → Option ((List (List Int)))
 | 0, _, _, _, _, _, _ => none
 | k + 1, x3, x4, x5, x18, x19, x20 => if x20 < x19 then (if 0 ≤ x20 then (if x20 < (x18.length : Int) then (graph_backs.l1 k x3 x4 x5 x20 x18 x19 x20 (rd_L2 x18 x20) ((rd_L2 x18 x20).length : Int) 0) else (none)) else (none)) else (some x3)
def graph_backs.l1 : Nat → List (List Int) → List Int → List Bool → Int → List (List Int) → Int → Int → List Int → Int → Int → Option ((List (List Int)))
 | 0, _, _, _, _, _, _, _, _, _, _ => none
 | k + 1, x3, x4, x5, x6, x18, x19, x20, x25, x26, x27 => if x27 < x26 then (if 0 ≤ x27 then (if x27 < (x25.length : Int) then (if 0 ≤ x6 then (if x6 < (x5.length : Int) then (if rdOf false x5 x6 = true then ((graph_above.f k x4 (rd x25 x27) x6).bind fun t190 => (if t190 = true then (if 0 ≤ (rd x25 x27) then (if (rd x25 x27) < (x3.length : Int) then (if (rd_L2 x3 (rd x25 x27)).length < 17592186044416 then (graph_backs.l1 k (x3.set ((rd x25 x27) : Int).toNat ((rd_L2 x3 (rd x25 x27)) ++ [x6])) x4 x5 x6 x18 x19 x20 x25 x26 (wrap64 (x27 + 1))) else (none)) else (none)) else (none)) else (graph_backs.l1 k x3 x4 x5 x6 x18 x19 x20 x25 x26 (wrap64 (x27 + 1))))) else (graph_backs.l1 k x3 x4 x5 x6 x18 x19 x20 x25 x26 (wrap64 (x27 + 1)))) else (none)) else (none)) else (none)) else (none)) else (graph_backs.l0 k x3 x4 x5 x18 x19 (wrap64 (x20 + 1)))
end
def graph_backs.f (k : Nat) (l0 : List (List Int)) : Option ((List (List Int))) := if 0 ≤ (l0.length : Int) then (if ((l0.length : Int) : Int).toNat ≤ 11728124029610 then ((graph_tree.f k l0 0).bind fun t178 => ((graph_fromOpen.f k l0 (([0] : List Int))).bind fun t184 => (graph_backs.l0 k (List.replicate ((l0.length : Int) : Int).toNat []) t178 t184 l0 (l0.length : Int) 0))) else (none)) else (none)
theorem graph_backs.mono_l : ∀ k, (∀ y0 y1 y2 y3 y4 y5, LeO (graph_backs.l0 k y0 y1 y2 y3 y4 y5) (graph_backs.l0 (k + 1) y0 y1 y2 y3 y4 y5)) ∧ (∀ y0 y1 y2 y3 y4 y5 y6 y7 y8 y9, LeO (graph_backs.l1 k y0 y1 y2 y3 y4 y5 y6 y7 y8 y9) (graph_backs.l1 (k + 1) y0 y1 y2 y3 y4 y5 y6 y7 y8 y9))
 | 0 => ⟨fun _ _ _ _ _ _ r h => by simp [graph_backs.l0] at h, fun _ _ _ _ _ _ _ _ _ _ r h => by simp [graph_backs.l1] at h⟩
 | k + 1 => by
  obtain ⟨ih0, ih1⟩ := graph_backs.mono_l k; refine ⟨?_, ?_⟩
  ·intro y0 y1 y2 y3 y4 y5
   unfold graph_backs.l0
   repeat' first
   | (with_reducible exact ih0 _ _ _ _ _ _)
   | (with_reducible exact ih1 _ _ _ _ _ _ _ _ _ _)
   | (with_reducible exact graph_above.mono _ _ _ _)
   | (with_reducible exact graph_fromOpen.mono _ _ _)
   | (with_reducible exact graph_tree.mono _ _ _)
   | (with_reducible exact LeO.refl _)
   | (with_reducible exact LeO.none _)
   | (with_reducible refine LeO.ite ?_ ?_)
   | (with_reducible refine LeO.bind ?_ (fun _ => ?_))
  ·intro y0 y1 y2 y3 y4 y5 y6 y7 y8 y9
   unfold graph_backs.l1
   repeat' first
   | (with_reducible exact ih0 _ _ _ _ _ _)
   | (with_reducible exact ih1 _ _ _ _ _ _ _ _ _ _)
   | (with_reducible exact graph_above.mono _ _ _ _)
   | (with_reducible exact graph_fromOpen.mono _ _ _)
   | (with_reducible exact graph_tree.mono _ _ _)
   | (with_reducible exact LeO.refl _)
   | (with_reducible exact LeO.none _)
   | (with_reducible refine LeO.ite ?_ ?_)
   | (with_reducible refine LeO.bind ?_ (fun _ => ?_))
theorem graph_backs.mono : ∀ a0 k, LeO (graph_backs.f k a0) (graph_backs.f (k + 1) a0) := by
 intro a0 k
 obtain ⟨ih0, ih1⟩ := graph_backs.mono_l k; unfold graph_backs.f
 repeat' first
   | (with_reducible exact ih0 _ _ _ _ _ _)
   | (with_reducible exact ih1 _ _ _ _ _ _ _ _ _ _)
   | (with_reducible exact graph_above.mono _ _ _ _)
   | (with_reducible exact graph_fromOpen.mono _ _ _)
   | (with_reducible exact graph_tree.mono _ _ _)
   | (with_reducible exact LeO.refl _)
   | (with_reducible exact LeO.none _)
   | (with_reducible refine LeO.ite ?_ ?_)
   | (with_reducible refine LeO.bind ?_ (fun _ => ?_))
set_option maxHeartbeats 8000000 in
set_option maxRecDepth 100000 in
theorem graph_backs.calls (k : Nat) (A0 : Option Addr) (c0 : Nat) (l0 : List (List Int)) (r : List (List Int)) (w : World) (hr0 : Kd.C (Kd.slice 3 (Kd.int .i64)) w A0 l0.length l0) (hc0 : l0.length ≤ c0) (h : graph_backs.f k l0 = some r) :
  Calls Try.prog 52 #[.slice A0 l0.length c0] w fun e w' => ∃ v0_ : Value, e = .returned (v0_) ∧ Kd.S (Kd.slice 3 (Kd.int .i64)) 33 w' w.heap.size (fun _ => True) v0_ r ∧ Below w.heap.size w w' := by
 have HR0 := Aside0.mk hr0; have HC0 := Aside0.mk hc0; clear hr0 hc0; have HB := Aside0.mk (Below.refl w.heap.size w); have H : (if 0 ≤ (l0.length : Int) then (if ((l0.length : Int) : Int).toNat ≤ 11728124029610 then ((graph_tree.f k l0 0).bind fun t178 => ((graph_fromOpen.f k l0 (([0] : List Int))).bind fun t184 => (graph_backs.l0 k (List.replicate ((l0.length : Int) : Int).toNat []) t178 t184 l0 (l0.length : Int) 0))) else (none)) else (none)) = some r := h
 clear h; by_cases c2 : 0 ≤ (l0.length : Int)
 ·rw [if_pos c2] at H; have c2b0 := eq_true c2; have c2b1 : decide (0 ≤ (l0.length : Int)) = true := decide_eq_true c2
  clear c2; by_cases c3 : ((l0.length : Int) : Int).toNat ≤ 11728124029610
  ·rw [if_pos c3] at H; have c3b0 := eq_true c3; have c3b1 : decide (((l0.length : Int) : Int).toNat ≤ 11728124029610) = true := decide_eq_true c3
   clear c3; obtain ⟨y175, hy175⟩ : ∃ y_ : List (List Int), y_ = (List.replicate ((l0.length : Int) : Int).toNat []) := ⟨_, rfl⟩; replace H : ((graph_tree.f k l0 0).bind fun t178 => ((graph_fromOpen.f k l0 (([0] : List Int))).bind fun t184 => (graph_backs.l0 k y175 t178 t184 l0 (l0.length : Int) 0))) = some r := by first | (with_reducible first | (rw [hy175]; exact H) | exact H) | (have H2_ := (Option.bind_some _ _).symm.trans H; first | with_reducible exact H2_ | (rw [hy175]; exact H2_)) | (rw [hy175]; exact H) | exact H
   have Ny175 := Aside0.mk hy175; clear hy175; replace H := Option.bind_eq_some_iff.mp H; obtain ⟨t178, A40, H⟩ := H; replace H : ((graph_fromOpen.f k l0 (([0] : List Int))).bind fun t184 => (graph_backs.l0 k y175 t178 t184 l0 (l0.length : Int) 0)) = some r := H
   have A4 := Aside0.mk A40; clear A40; obtain ⟨y181, hy181⟩ : ∃ y_ : List Int, y_ = (([0] : List Int)) := ⟨_, rfl⟩; replace H : ((graph_fromOpen.f k l0 y181).bind fun t184 => (graph_backs.l0 k y175 t178 t184 l0 (l0.length : Int) 0)) = some r := by first | (with_reducible first | (rw [hy181]; exact H) | exact H) | (have H2_ := (Option.bind_some _ _).symm.trans H; first | with_reducible exact H2_ | (rw [hy181]; exact H2_)) | (rw [hy181]; exact H) | exact H
   have Ny181 := Aside0.mk hy181; clear hy181; replace H := Option.bind_eq_some_iff.mp H; obtain ⟨t184, A50, H⟩ := H; replace H : (graph_backs.l0 k y175 t178 t184 l0 (l0.length : Int) 0) = some r := H; have A5 := Aside0.mk A50; clear A50; have H' := Aside0.mk H
   clear H; go_enter Try.func52, Try.ntmps52
   go_wp2_with (first | ((with_reducible refine gate_dst (N := 12) rfl ?_); refine Kd.S_make (Kd.slice 3 (Kd.int .i64)) _ 33 rfl (N := 12) rfl 22 _ _ rfl (l0.length : Int) rfl rfl Try.underlying22 (.slice none 0 0) 24 info33 rfl (by decide) (by omega) [] (ok := fun _ => True) (okp := fun _ => True) ⟨_, rfl, Kd.R_nil _ _ _ _ _⟩ (fun _ hk => hk) trivial (of_decide_eq_true (by with_reducible assumption)) (Nat.le_trans (Nat.mul_le_mul_right _ (of_decide_eq_true (by with_reducible assumption) : (l0.length : Int).toNat ≤ 11728124029610)) (by omega)) (Below.refl _ _) (Nat.le_refl _) ?_; intro v176 w6 ho7 hb hg_ hnew_; clear hg_ hnew_; (first | rw [← Ny175.out] at ho7 | (simp only [Int.reduceToNat] at ho7; rw [← Ny175.out] at ho7)); have n0_ := Aside0.mk (Kd.S_lower ho7 (below_size (by repeat (first | (with_reducible first | exact HB.out | apply below_alloc | apply pw_below_drewN | apply below_drew1) | exact HB.out)))); have n1_ := Aside0.mk (below_step (by repeat (first | (with_reducible first | exact HB.out | apply below_alloc | apply pw_below_drewN | apply below_drew1) | exact HB.out)) hb); clear HB; have HO177 := n0_; have HB := n1_; clear n0_ n1_; clear hb ho7) | ((with_reducible refine gate_callee (f := 48) rfl ?_); refine goesL_ (some 14) rfl rfl Try.func48 (by kernel_rfl) rfl #[.slice A0 l0.length c0, .int .i64 0] rfl (by (try simp only [List.map_toArray, List.map_cons, List.map_nil]); first | done | rfl | (simp only [List.length_drop, List.length_take]; rfl)) ?_; (with_reducible refine (graph_tree.calls k _ _ l0 0 t178 _ ?side1 ?side2 A4.out).mono ?_); (case side1 => repeat (first | exact (Kd.C_below HR0.out HB.out) | with_reducible first | refine Kd.C_alloc ?_ _ | refine Kd.C_drewN ?_ _ | refine Kd.C_drew ?_)); (case side2 => exact HC0.out); rintro e w8 ⟨v179, rfl, ho0, hb⟩; refine ⟨_, rfl, ?_⟩; have n0_ := Aside0.mk (Kd.S_elder' (by (with_reducible repeat (first | apply Kd.S_alloc | apply Kd.S_drewN | apply Kd.S_drew)); exact HO177.out) (Kd.R_base ho0) hb); have n1_ := Aside0.mk (Kd.R_lower ho0 (below_size (by repeat (first | (with_reducible first | exact HB.out | apply below_alloc | apply pw_below_drewN | apply below_drew1) | exact HB.out)))); have n2_ := Aside0.mk (below_step (by repeat (first | (with_reducible first | exact HB.out | apply below_alloc | apply pw_below_drewN | apply below_drew1) | exact HB.out)) hb); clear HO177; clear HB; have HO177 := n0_; have HO180 := n1_; have HB := n2_; clear n0_ n1_ n2_; (try clear hb); (try clear hb2); (try clear hk); (try clear hi); (try clear ho0)) | ((with_reducible refine gate_dst (N := 16) rfl ?_); refine Kd.R_lit (Kd.int .i64) _ 3 ?hg (N := 16) ?hd (xs := ([0] : List Int)) (inner := [.int .i64 0]) (ok := fun _ => True) (okp := fun _ => True) ?hr ?hp (fun _ hk => hk) trivial (Below.refl _ _) (Nat.le_refl _) (by simp) ?_; (case hd => rfl); (case hg => rfl); (case hr => first | (go_simp; done) | (go_simp; rfl)); (case hp => exact (Reps.one (show Kd.M (Kd.int .i64) _ _ _ 0 [.int .i64 0] from rfl) (Reps.none _ _))); intro v182 w9 ho10 hb hg_ hnew_; clear hg_ hnew_; (first | rw [← Ny181.out] at ho10 | (simp only [Int.reduceToNat] at ho10; rw [← Ny181.out] at ho10)); have n0_ := Aside0.mk (Kd.S_elder' (by (with_reducible repeat (first | apply Kd.S_alloc | apply Kd.S_drewN | apply Kd.S_drew)); exact HO177.out) (Kd.R_base ho10) hb); have n1_ := Aside0.mk (Kd.R_elder' (by (with_reducible repeat (first | apply Kd.R_alloc | apply Kd.R_drewN | apply Kd.R_drew)); exact HO180.out) (Kd.R_base ho10) hb); have n2_ := Aside0.mk (Kd.R_lower (Kd.R_new' ho10 (Kd.R_lt (by (with_reducible repeat (first | apply Kd.R_alloc | apply Kd.R_drewN | apply Kd.R_drew)); exact HO180.out))) (below_size (by repeat (first | (with_reducible first | exact HB.out | apply below_alloc | apply pw_below_drewN | apply below_drew1) | exact HB.out)))); have n3_ := Aside0.mk (below_step (by repeat (first | (with_reducible first | exact HB.out | apply below_alloc | apply pw_below_drewN | apply below_drew1) | exact HB.out)) hb); clear HO177; clear HO180; clear HB; have HO177 := n0_; have HO180 := n1_; have HO183 := n2_; have HB := n3_; clear n0_ n1_ n2_ n3_; clear hb ho10; obtain ⟨Ao11, co11, eo11⟩ := Kd.R_slice HO183.out; subst eo11) | ((with_reducible refine gate_callee (f := 49) rfl ?_); refine goesL_ (some 17) rfl rfl Try.func49 (by kernel_rfl) rfl #[.slice A0 l0.length c0, .slice Ao11 y181.length co11, .func (.func 50) #[] #[]] rfl (by (try simp only [List.map_toArray, List.map_cons, List.map_nil]); first | done | rfl | (simp only [List.length_drop, List.length_take]; rfl)) ?_; (with_reducible refine (graph_fromOpen.calls k _ _ l0 _ _ y181 t184 _ ?side1 ?side2 ?side3 ?side4 A5.out).mono ?_); (case side1 => repeat (first | exact (Kd.C_below HR0.out HB.out) | with_reducible first | refine Kd.C_alloc ?_ _ | refine Kd.C_drewN ?_ _ | refine Kd.C_drew ?_)); (case side2 => exact HC0.out); (case side3 => repeat (first | exact (Kd.R_reads' HO183.out).2.2 | with_reducible first | refine Kd.C_alloc ?_ _ | refine Kd.C_drewN ?_ _ | refine Kd.C_drew ?_)); (case side4 => exact (Kd.R_reads' HO183.out).2.1); rintro e w12 ⟨v185, rfl, ho0, hb⟩; refine ⟨_, rfl, ?_⟩; have n0_ := Aside0.mk (Kd.S_below (by (with_reducible repeat (first | apply Kd.S_alloc | apply Kd.S_drewN | apply Kd.S_drew)); exact HO177.out) hb); have n1_ := Aside0.mk (Kd.R_below (by (with_reducible repeat (first | apply Kd.R_alloc | apply Kd.R_drewN | apply Kd.R_drew)); exact HO180.out) hb); have n2_ := Aside0.mk (Kd.R_below (by (with_reducible repeat (first | apply Kd.R_alloc | apply Kd.R_drewN | apply Kd.R_drew)); exact HO183.out) hb); have n3_ := Aside0.mk (Kd.R_lower ho0 (below_size (by repeat (first | (with_reducible first | exact HB.out | apply below_alloc | apply pw_below_drewN | apply below_drew1) | exact HB.out)))); have n4_ := Aside0.mk (below_step (by repeat (first | (with_reducible first | exact HB.out | apply below_alloc | apply pw_below_drewN | apply below_drew1) | exact HB.out)) hb); clear HO177; clear HO180; clear HO183; clear HB; have HO177 := n0_; have HO180 := n1_; have HO183 := n2_; have HO186 := n3_; have HB := n4_; clear n0_ n1_ n2_ n3_ n4_; (try clear hb); (try clear hb2); (try clear hk); (try clear hi); (try clear ho0)))
   go_loopg [20] k (fun kq v20 w' => ∃ (x3_1 : List (List Int)) (x20_1 : Int), v20 = .int .i64 x20_1 ∧ Aside0 (graph_backs.l0 kq x3_1 t178 t184 l0 (l0.length : Int) x20_1 = some r) ∧ Aside0 (kq ≤ k) ∧ Aside0 (Kd.S (Kd.slice 3 (Kd.int .i64)) 33 w' w.heap.size (fun k_ => some k_ ≠ (v179 : Value).ownBlock) v176 x3_1) ∧ Aside0 (Kd.R (Kd.int .i64) 3 w' w.heap.size (fun _ => True) v179 t178) ∧ Aside0 (Kd.R Kd.bool 4 w' w.heap.size (fun _ => True) v185 t184) ∧ Aside0 (Below w.heap.size w w'))
   case atStart => exact ⟨(y175), (0), (by first | rfl | (simp; done) | (simp [*]; done)), H', ⟨Nat.le_refl _⟩, ⟨by (with_reducible repeat (first | apply Kd.S_alloc | apply Kd.S_drewN | apply Kd.S_drew)); exact Kd.S_mono HO177.out (fun _ hk => hk.1.2)⟩, ⟨by (with_reducible repeat (first | apply Kd.R_alloc | apply Kd.R_drewN | apply Kd.R_drew)); exact Kd.R_mono HO180.out (fun _ hk => trivial)⟩, ⟨by (with_reducible repeat (first | apply Kd.R_alloc | apply Kd.R_drewN | apply Kd.R_drew)); exact HO186.out⟩, ⟨by repeat (first | (with_reducible first | exact HB.out | apply below_alloc | apply pw_below_drewN | apply below_drew1) | exact HB.out)⟩⟩
   case round =>
    clear H'; try clear c2
    try clear c2b0
    try clear c2b1
    try clear p2
    try clear c3
    try clear c3b0
    try clear c3b1
    try clear c4
    try clear c5
    try clear c8
    obtain ⟨x3_1, x20_1, rfl, HA, HK1, HO_3, HO_4, HO_5, HB⟩ := hrel; cases gk with
    | zero => exact absurd HA.out (by simp [graph_backs.l0])
    | succ k1 =>
     have H := HA.out; clear HA; simp only [graph_backs.l0] at H
     by_cases c13 : x20_1 < (l0.length : Int)
     ·rw [if_pos c13] at H; have c13b0 : decide (x20_1 < (l0.length : Int)) = true := decide_eq_true c13
      clear c13; by_cases c14 : 0 ≤ x20_1
      ·rw [if_pos c14] at H; have c14b0 : decide (0 ≤ x20_1) = true := decide_eq_true c14
       clear c14; by_cases c15 : x20_1 < (l0.length : Int)
       ·rw [if_pos c15] at H; have c15b0 : decide (x20_1 < (l0.length : Int)) = true := decide_eq_true c15
        clear c15; have H' := Aside0.mk H
        clear H; have p187 : 0 ≤ (x20_1 : Int) := of_decide_eq_true (by with_reducible assumption)
        have q187 : x20_1 < (l0.length : Int) := of_decide_eq_true (by with_reducible assumption)
        obtain ⟨ad187, A187_0, c187_0, e187, hx187_0, hl187_0, hi187_0⟩ := at_L2 HR0.out x20_1 p187 q187; cases e187; replace hx187_0 := (HB.out.cell (World.block_lt_of_cell? w _ hx187_0)).trans hx187_0; have HR187_0 := Aside0.mk hi187_0; have HC187_0 := Aside0.mk hl187_0; clear hi187_0 hl187_0; replace p187 := eq_true p187; replace q187 := eq_true q187; go_wp2
        go_loopg [27] k1 (fun kq v27 w' => ∃ (x3_2 : List (List Int)) (x27_2 : Int), v27 = .int .i64 x27_2 ∧ Aside0 (graph_backs.l1 kq x3_2 t178 t184 x20_1 l0 (l0.length : Int) x20_1 (rd_L2 l0 x20_1) ((rd_L2 l0 x20_1).length : Int) x27_2 = some r) ∧ Aside0 (kq ≤ k1) ∧ Aside0 (Kd.S (Kd.slice 3 (Kd.int .i64)) 33 w' w.heap.size (fun k_ => some k_ ≠ (v179 : Value).ownBlock) v176 x3_2) ∧ Aside0 (Kd.R (Kd.int .i64) 3 w' w.heap.size (fun _ => True) v179 t178) ∧ Aside0 (Kd.R Kd.bool 4 w' w.heap.size (fun _ => True) v185 t184) ∧ Aside0 (Below w.heap.size w w'))
        case atStart => exact ⟨(x3_1), (0), (by first | rfl | (simp; done) | (simp [*]; done)), H', ⟨Nat.le_refl _⟩, ⟨by (with_reducible repeat (first | apply Kd.S_alloc | apply Kd.S_drewN | apply Kd.S_drew)); exact HO_3.out⟩, ⟨by (with_reducible repeat (first | apply Kd.R_alloc | apply Kd.R_drewN | apply Kd.R_drew)); exact HO_4.out⟩, ⟨by (with_reducible repeat (first | apply Kd.R_alloc | apply Kd.R_drewN | apply Kd.R_drew)); exact HO_5.out⟩, ⟨by repeat (first | (with_reducible first | exact HB.out | apply below_alloc | apply pw_below_drewN | apply below_drew1) | exact HB.out)⟩⟩
        case round =>
         clear H'; try clear c1
         try clear p1
         try clear q1
         try clear hx1
         try clear c2
         try clear c2b0
         try clear c2b1
         try clear p2
         try clear c3
         try clear c3b0
         try clear c3b1
         try clear c4
         try clear c5
         try clear c8
         try clear c13
         try clear c13b0
         try clear c14
         try clear c14b0
         try clear c15
         try clear c15b0
         try clear hx187_0
         try clear p187
         try clear p2
         try clear q187
         obtain ⟨x3_2, x27_2, rfl, HA, HK2, HO_3, HO_4, HO_5, HB⟩ := hrel; cases gk with
         | zero => exact absurd HA.out (by simp [graph_backs.l1])
         | succ k2 =>
          have H := HA.out; clear HA; simp only [graph_backs.l1] at H
          by_cases c16 : x27_2 < ((rd_L2 l0 x20_1).length : Int)
          ·rw [if_pos c16] at H; have c16b0 : decide (x27_2 < ((rd_L2 l0 x20_1).length : Int)) = true := decide_eq_true c16
           clear c16; by_cases c17 : 0 ≤ x27_2
           ·rw [if_pos c17] at H; have c17b0 : decide (0 ≤ x27_2) = true := decide_eq_true c17
            clear c17; by_cases c18 : x27_2 < ((rd_L2 l0 x20_1).length : Int)
            ·rw [if_pos c18] at H; have c18b0 : decide (x27_2 < ((rd_L2 l0 x20_1).length : Int)) = true := decide_eq_true c18
             clear c18; by_cases c19 : 0 ≤ x20_1
             ·rw [if_pos c19] at H; have c19b0 : decide (0 ≤ x20_1) = true := decide_eq_true c19
              clear c19; by_cases c20 : x20_1 < (t184.length : Int)
              ·rw [if_pos c20] at H; have c20b0 : decide (x20_1 < (t184.length : Int)) = true := decide_eq_true c20
               clear c20; obtain ⟨bq21, hbq21⟩ : ∃ b_ : Bool, b_ = (rdOf false t184 x20_1) := ⟨_, rfl⟩; replace H : (if bq21 = true then ((graph_above.f k2 t178 (rd (rd_L2 l0 x20_1) x27_2) x20_1).bind fun t190 => (if t190 = true then (if 0 ≤ (rd (rd_L2 l0 x20_1) x27_2) then (if (rd (rd_L2 l0 x20_1) x27_2) < (x3_2.length : Int) then (if (rd_L2 x3_2 (rd (rd_L2 l0 x20_1) x27_2)).length < 17592186044416 then (graph_backs.l1 k2 (x3_2.set ((rd (rd_L2 l0 x20_1) x27_2) : Int).toNat ((rd_L2 x3_2 (rd (rd_L2 l0 x20_1) x27_2)) ++ [x20_1])) t178 t184 x20_1 l0 (l0.length : Int) x20_1 (rd_L2 l0 x20_1) ((rd_L2 l0 x20_1).length : Int) (wrap64 (x27_2 + 1))) else (none)) else (none)) else (none)) else (graph_backs.l1 k2 x3_2 t178 t184 x20_1 l0 (l0.length : Int) x20_1 (rd_L2 l0 x20_1) ((rd_L2 l0 x20_1).length : Int) (wrap64 (x27_2 + 1))))) else (graph_backs.l1 k2 x3_2 t178 t184 x20_1 l0 (l0.length : Int) x20_1 (rd_L2 l0 x20_1) ((rd_L2 l0 x20_1).length : Int) (wrap64 (x27_2 + 1)))) = some r := by rw [← hbq21] at H; exact H
               have Nbq21 := Aside0.mk hbq21; clear hbq21; by_cases c22 : bq21 = true
               ·subst c22; have H1 : ((graph_above.f k2 t178 (rd (rd_L2 l0 x20_1) x27_2) x20_1).bind fun t190 => (if t190 = true then (if 0 ≤ (rd (rd_L2 l0 x20_1) x27_2) then (if (rd (rd_L2 l0 x20_1) x27_2) < (x3_2.length : Int) then (if (rd_L2 x3_2 (rd (rd_L2 l0 x20_1) x27_2)).length < 17592186044416 then (graph_backs.l1 k2 (x3_2.set ((rd (rd_L2 l0 x20_1) x27_2) : Int).toNat ((rd_L2 x3_2 (rd (rd_L2 l0 x20_1) x27_2)) ++ [x20_1])) t178 t184 x20_1 l0 (l0.length : Int) x20_1 (rd_L2 l0 x20_1) ((rd_L2 l0 x20_1).length : Int) (wrap64 (x27_2 + 1))) else (none)) else (none)) else (none)) else (graph_backs.l1 k2 x3_2 t178 t184 x20_1 l0 (l0.length : Int) x20_1 (rd_L2 l0 x20_1) ((rd_L2 l0 x20_1).length : Int) (wrap64 (x27_2 + 1))))) = some r := by rw [if_pos rfl] at H; exact H
                clear H; have H := H1; clear H1; replace H := Option.bind_eq_some_iff.mp H; obtain ⟨t190, A230, H⟩ := H; replace H : (if t190 = true then (if 0 ≤ (rd (rd_L2 l0 x20_1) x27_2) then (if (rd (rd_L2 l0 x20_1) x27_2) < (x3_2.length : Int) then (if (rd_L2 x3_2 (rd (rd_L2 l0 x20_1) x27_2)).length < 17592186044416 then (graph_backs.l1 k2 (x3_2.set ((rd (rd_L2 l0 x20_1) x27_2) : Int).toNat ((rd_L2 x3_2 (rd (rd_L2 l0 x20_1) x27_2)) ++ [x20_1])) t178 t184 x20_1 l0 (l0.length : Int) x20_1 (rd_L2 l0 x20_1) ((rd_L2 l0 x20_1).length : Int) (wrap64 (x27_2 + 1))) else (none)) else (none)) else (none)) else (graph_backs.l1 k2 x3_2 t178 t184 x20_1 l0 (l0.length : Int) x20_1 (rd_L2 l0 x20_1) ((rd_L2 l0 x20_1).length : Int) (wrap64 (x27_2 + 1)))) = some r := H
                have A23 := Aside0.mk A230; clear A230; by_cases c24 : t190 = true
                ·subst c24; have H1 : (if 0 ≤ (rd (rd_L2 l0 x20_1) x27_2) then (if (rd (rd_L2 l0 x20_1) x27_2) < (x3_2.length : Int) then (if (rd_L2 x3_2 (rd (rd_L2 l0 x20_1) x27_2)).length < 17592186044416 then (graph_backs.l1 k2 (x3_2.set ((rd (rd_L2 l0 x20_1) x27_2) : Int).toNat ((rd_L2 x3_2 (rd (rd_L2 l0 x20_1) x27_2)) ++ [x20_1])) t178 t184 x20_1 l0 (l0.length : Int) x20_1 (rd_L2 l0 x20_1) ((rd_L2 l0 x20_1).length : Int) (wrap64 (x27_2 + 1))) else (none)) else (none)) else (none)) = some r := by rw [if_pos rfl] at H; exact H
                 clear H; have H := H1; clear H1; by_cases c25 : 0 ≤ (rd (rd_L2 l0 x20_1) x27_2)
                 ·rw [if_pos c25] at H; have c25b0 : decide (0 ≤ (rd (rd_L2 l0 x20_1) x27_2)) = true := decide_eq_true c25
                  clear c25; by_cases c26 : (rd (rd_L2 l0 x20_1) x27_2) < (x3_2.length : Int)
                  ·rw [if_pos c26] at H; have c26b0 : decide ((rd (rd_L2 l0 x20_1) x27_2) < (x3_2.length : Int)) = true := decide_eq_true c26
                   clear c26; by_cases c27 : (rd_L2 x3_2 (rd (rd_L2 l0 x20_1) x27_2)).length < 17592186044416
                   ·rw [if_pos c27] at H; have LMc27 := Aside0.mk c27; clear c27; obtain ⟨y192, hy192⟩ : ∃ y_ : List Int, y_ = ((rd_L2 x3_2 (rd (rd_L2 l0 x20_1) x27_2)) ++ [x20_1]) := ⟨_, rfl⟩; replace H : (graph_backs.l1 k2 (x3_2.set ((rd (rd_L2 l0 x20_1) x27_2) : Int).toNat y192) t178 t184 x20_1 l0 (l0.length : Int) x20_1 (rd_L2 l0 x20_1) ((rd_L2 l0 x20_1).length : Int) (wrap64 (x27_2 + 1))) = some r := by first | (with_reducible first | (rw [hy192]; exact H) | exact H) | (have H2_ := (Option.bind_some _ _).symm.trans H; first | with_reducible exact H2_ | (rw [hy192]; exact H2_)) | (rw [hy192]; exact H) | exact H
                    have Ny192 := Aside0.mk hy192; clear hy192; obtain ⟨y195, hy195⟩ : ∃ y_ : List (List Int), y_ = (x3_2.set ((rd (rd_L2 l0 x20_1) x27_2) : Int).toNat y192) := ⟨_, rfl⟩; replace H : (graph_backs.l1 k2 y195 t178 t184 x20_1 l0 (l0.length : Int) x20_1 (rd_L2 l0 x20_1) ((rd_L2 l0 x20_1).length : Int) (wrap64 (x27_2 + 1))) = some r := by first | (with_reducible first | (rw [hy195]; exact H) | exact H) | (have H2_ := (Option.bind_some _ _).symm.trans H; first | with_reducible exact H2_ | (rw [hy195]; exact H2_)) | (rw [hy195]; exact H) | exact H
                    have Ny195 := Aside0.mk hy195; clear hy195; have H' := Aside0.mk H
                    clear H; have p188 : 0 ≤ (x27_2 : Int) := of_decide_eq_true (by with_reducible assumption)
                    have q188 : x27_2 < ((rd_L2 l0 x20_1).length : Int) := of_decide_eq_true (by with_reducible assumption)
                    obtain ⟨ad188, e188, hx188_0⟩ := Kd.at_int HR187_0.out x27_2 p188 q188; cases e188; replace hx188_0 := (HB.out.cell (World.block_lt_of_cell? w _ hx188_0)).trans hx188_0; replace p188 := eq_true p188; replace q188 := eq_true q188; obtain ⟨Ao29, co29, eo29⟩ := Kd.R_slice HO_5.out; subst eo29; have p189 : 0 ≤ (x20_1 : Int) := of_decide_eq_true (by with_reducible assumption)
                    have q189 : x20_1 < (t184.length : Int) := of_decide_eq_true (by with_reducible assumption)
                    obtain ⟨ad189, e189, hx189_0⟩ := Kd.at_bool (Kd.R_reads' HO_5.out).2.2 x20_1 p189 q189; (try rw [← Nbq21.out] at hx189_0)
                    cases e189; replace p189 := eq_true p189; replace q189 := eq_true q189; obtain ⟨Ao30, co30, eo30⟩ := Kd.R_slice HO_4.out; subst eo30; go_wp2_with (first | (go_at_call 63; (with_reducible refine (graph_above.calls k2 _ _ t178 (rd (rd_L2 l0 x20_1) x27_2) x20_1 true _ ?side1 ?side2 A23.out).mono ?_); (case side1 => repeat (first | exact (Kd.R_reads' HO_4.out).2.2 | with_reducible first | refine Kd.C_alloc ?_ _ | refine Kd.C_drewN ?_ _ | refine Kd.C_drew ?_)); (case side2 => exact (Kd.R_reads' HO_4.out).2.1); rintro e w' ⟨rfl, ⟨nd, rfl⟩⟩; (try (rw [drewN_self wr]; generalize hq_ : World.drewN wr _ = wr; have n0_ : Aside0 (Kd.S (Kd.slice 3 (Kd.int .i64)) 33 wr w.heap.size (fun k_ => some k_ ≠ (.slice Ao30 t178.length co30 : Value).ownBlock) v176 x3_2) := ⟨by rw [← hq_]; exact (by (with_reducible repeat (first | apply Kd.S_alloc | apply Kd.S_drewN | apply Kd.S_drew)); exact HO_3.out)⟩; have n1_ : Aside0 (Kd.R (Kd.int .i64) 3 wr w.heap.size (fun _ => True) (.slice Ao30 t178.length co30) t178) := ⟨by rw [← hq_]; exact (by (with_reducible repeat (first | apply Kd.R_alloc | apply Kd.R_drewN | apply Kd.R_drew)); exact HO_4.out)⟩; have n2_ : Aside0 (Kd.R Kd.bool 4 wr w.heap.size (fun _ => True) (.slice (some ad189) t184.length co29) t184) := ⟨by rw [← hq_]; exact (by (with_reducible repeat (first | apply Kd.R_alloc | apply Kd.R_drewN | apply Kd.R_drew)); exact HO_5.out)⟩; have n3_ : Aside0 (Below w.heap.size w wr) := ⟨by rw [← hq_]; exact (by repeat (first | (with_reducible first | exact HB.out | apply below_alloc | apply pw_below_drewN | apply below_drew1) | exact HB.out))⟩; clear HO_3 HO_4 HO_5 HB hq_; have HO_3 := n0_; have HO_4 := n1_; have HO_5 := n2_; have HB := n3_; clear n0_ n1_ n2_ n3_)); obtain ⟨Ao31, co31, eo31⟩ := Kd.S_slice HO_3.out; subst eo31; have p191 : 0 ≤ ((rd (rd_L2 l0 x20_1) x27_2) : Int) := of_decide_eq_true (by with_reducible assumption); have q191 : (rd (rd_L2 l0 x20_1) x27_2) < (x3_2.length : Int) := of_decide_eq_true (by with_reducible assumption); obtain ⟨ad191, A191_0, c191_0, e191, hx191_0, hl191_0, hi191_0⟩ := at_L2 (Kd.S_reads' HO_3.out).2.2 (rd (rd_L2 l0 x20_1) x27_2) p191 q191; cases e191; obtain ⟨ce191, hce191, hMe191, hcc191⟩ := Kd.S_get HO_3.out [] (rd (rd_L2 l0 x20_1) x27_2) p191 (by first | exact q191 | exact of_decide_eq_true (by with_reducible assumption) | (have e_ := (Kd.S_reads' HO_3.out).1; omega)); obtain ⟨ve191_0, rfl, ge191_0⟩ := hMe191; have hv191_0 := hcc191 0 _ rfl; rw [Nat.add_zero, show ((Kd.slice 3 (Kd.int .i64))).sz = 1 from rfl, Nat.mul_one] at hv191_0; replace hv191_0 := Option.some.inj (hv191_0.symm.trans hx191_0); rw [hv191_0] at ge191_0; have HL191_0 := Aside0.mk (show Kd.R (Kd.int .i64) 3 _ _ _ _ (rd_L2 x3_2 (rd (rd_L2 l0 x20_1) x27_2)) from ge191_0); clear hv191_0 ge191_0; have HX191_0 := Aside0.mk hx191_0; clear hcc191 hce191; have HR191_0 := Aside0.mk hi191_0; have HC191_0 := Aside0.mk hl191_0; clear hi191_0 hl191_0; replace p191 := eq_true p191; replace q191 := eq_true q191; obtain ⟨go32, co32, eo32, gb32, gl32, cl32, HG32⟩ := Kd.S_form HO_3.out (by have h_ : ((rd (rd_L2 l0 x20_1) x27_2) : Int) < ((x3_2.length : Int) : Int) := of_decide_eq_true (by with_reducible assumption); have h2_ : 0 ≤ ((rd (rd_L2 l0 x20_1) x27_2) : Int) := (of_decide_eq_true (by with_reducible assumption)); omega); (first | cases eo32 | (injection eo32 with ea_ en_ ec_; (first | subst ea_ | (injection ea_ with ea_; subst ea_)); subst ec_; clear en_)); have GB32 := Aside0.mk gb32; have GG32 := Aside0.mk HG32; clear gb32 gl32 HG32; (first | simp only [add_plain] at hx191_0 | skip); obtain ⟨oki32, ce32, hcl32, hM32, hcc32, _, _, hH32⟩ := Kd.S_elem HO_3.out [] ((rd (rd_L2 l0 x20_1) x27_2) : Int) (of_decide_eq_true (by with_reducible assumption)) (by have h_ : ((rd (rd_L2 l0 x20_1) x27_2) : Int) < ((x3_2.length : Int) : Int) := of_decide_eq_true (by with_reducible assumption); first | exact h_ | (have e_ := (Kd.S_reads' HO_3.out).1; omega) | simpa using h_); obtain ⟨ve32_0, rfl, ge32_0⟩ := hM32; have hv32 := hcc32 0 _ rfl; have hX32 := HX191_0.out; (try simp only [add_plain] at hX32); (try simp only [Nat.add_zero] at hv32); (try rw [show ((Kd.slice 3 (Kd.int .i64))).sz = 1 from rfl, Nat.mul_one] at hv32); replace hv32 := Option.some.inj (hv32.symm.trans hX32); subst hv32; clear hX32 hcc32 hcl32; have UU32 := Aside0.mk (show Kd.R (Kd.int .i64) 3 _ w.heap.size oki32 (.slice A191_0 (rd_L2 x3_2 (rd (rd_L2 l0 x20_1) x27_2)).length c191_0) (rd_L2 x3_2 (rd (rd_L2 l0 x20_1) x27_2)) from ge32_0); have HH32 := Aside0.mk hH32; have HN32 := Aside0.mk (Kd.S_reads' HO_3.out).1; clear hH32 ge32_0) | ((with_reducible refine gate_builtin (b := .append) (xs := #[.tmp 46, .tmp 48]) rfl ?_); at_builtin; refine Kd.R_append (Kd.int .i64) (w0 := w) w.heap.size rfl (.tmp 46) (.tmp 48) 33 3 (.int .i64 0) 8 rfl Try.underlying33 info3 rfl (by decide) (by omega) (.slice A191_0 (rd_L2 x3_2 (rd (rd_L2 l0 x20_1) x27_2)).length c191_0) (rd_L2 x3_2 (rd (rd_L2 l0 x20_1) x27_2)) x20_1 [.int .i64 x20_1] (fun k_ => oki32 k_ ∨ ((fun k_ => some k_ ≠ (.slice Ao30 t178.length co30 : Value).ownBlock)) k_ ∧ wr.heap.size ≤ k_) (fun _ => False) rfl rfl ?aP (fun _ hk => hk.elim) ?aF ?aO ?aB ?aS ?aL ?_; (case aP => exact rfl); (case aB => exact (by repeat (first | (with_reducible first | exact HB.out | apply below_alloc | apply pw_below_drewN | apply below_drew1) | exact HB.out))); (case aF => exact (fun k_ hk => .inr ⟨Kd.fresh' (Kd.R_lt (by (with_reducible repeat (first | apply Kd.R_alloc | apply Kd.R_drewN | apply Kd.R_drew)); exact HO_4.out)) k_ hk, hk⟩)); (case aO => exact (by (with_reducible repeat (first | apply Kd.R_alloc | apply Kd.R_drewN | apply Kd.R_drew)); exact Kd.R_mono UU32.out (fun _ hk => .inl hk))); (case aS => exact (below_size (by repeat (first | (with_reducible first | exact HB.out | apply below_alloc | apply pw_below_drewN | apply below_drew1) | exact HB.out)))); (case aL => have := LMc27.out; omega); intro v193 w33 ho hb hg hat; rw [← Ny192.out] at ho; have n0_ := Aside0.mk (Kd.R_grown2 (by (with_reducible repeat (first | apply Kd.R_alloc | apply Kd.R_drewN | apply Kd.R_drew)); exact HO_4.out) rfl hg (fun k_ e_ => (HL191_0.out.1 k_ e_).1)); have n1_ := Aside0.mk (Kd.R_over' (v := (.slice A191_0 (rd_L2 x3_2 (rd (rd_L2 l0 x20_1) x27_2)).length c191_0)) (by (with_reducible repeat (first | apply Kd.R_alloc | apply Kd.R_drewN | apply Kd.R_drew)); exact HO_5.out) (Kd.R_typed HL191_0.out) (by decide) hg); have n2_ := Aside0.mk (hb); have n3_ := Aside0.mk (Kd.H_grown (Kd.H_widen (by repeat (first | exact HH32.out | refine Kd.H_alloc ?_ _ | refine Kd.H_drewN ?_ _ | refine Kd.H_drew ?_))) hg (fun k_ e_ => .inl (UU32.out.1 k_ e_))); have n4_ := Aside0.mk (ho); clear HO_4; clear HO_5; clear HB; clear HH32; clear HO_3; clear UU32; clear HL191_0; have HO_4 := n0_; have HO_5 := n1_; have HB := n2_; have HH32 := n3_; have HO194 := n4_; clear n0_ n1_ n2_ n3_ n4_; clear ho hb hg hat; have p28 : 0 ≤ ((rd (rd_L2 l0 x20_1) x27_2) : Int) := of_decide_eq_true (by with_reducible assumption); have q28 : ((rd (rd_L2 l0 x20_1) x27_2) : Int) < ((x3_2.length : Int) : Int) := of_decide_eq_true (by with_reducible assumption); replace p28 := eq_true p28; replace q28 := eq_true q28; obtain ⟨Ao36, co36, eo36⟩ := Kd.R_slice HO194.out; subst eo36; obtain ⟨_, _, hraw34, _, _, hcc34, _⟩ := Kd.H_raw HH32.out (of_decide_eq_true (by with_reducible assumption)) (by have h_ : ((rd (rd_L2 l0 x20_1) x27_2) : Int) < ((x3_2.length : Int) : Int) := of_decide_eq_true (by with_reducible assumption); first | exact h_ | (have e_ := (HN32.out); omega) | simpa using h_); obtain ⟨_, hfr34⟩ := Kd.H_at HH32.out (of_decide_eq_true (by with_reducible assumption)) (by have h_ : ((rd (rd_L2 l0 x20_1) x27_2) : Int) < ((x3_2.length : Int) : Int) := of_decide_eq_true (by with_reducible assumption); first | exact h_ | (have e_ := (HN32.out); omega) | simpa using h_); have hx34_0 := hcc34 0 _ rfl; have hf34_0 := hfr34 0; (try simp only [Nat.add_zero] at hx34_0 hf34_0); (try rw [show ((Kd.slice 3 (Kd.int .i64))).sz = 1 from rfl, Nat.mul_one] at hx34_0); (try rw [show ((Kd.slice 3 (Kd.int .i64))).sz = 1 from rfl, Nat.mul_one] at hf34_0); have HP34 := Kd.S_seg0 HH32.out (of_decide_eq_true (by with_reducible assumption)) (by have h_ : ((rd (rd_L2 l0 x20_1) x27_2) : Int) < ((x3_2.length : Int) : Int) := of_decide_eq_true (by with_reducible assumption); first | exact h_ | (have e_ := (HN32.out); omega) | simpa using h_) (seg := [.slice Ao36 y192.length co36]) (j := 0) (show 1 ≤ 1 from by decide) (x' := y192) (Kd.M_row HO194.out) (fun _ hk => hk); (try simp only [show ((Kd.slice 3 (Kd.int .i64))).sz = 1 from rfl, Nat.mul_one, Nat.add_zero] at HP34); clear hcc34 hfr34) | ((with_reducible refine gate_store (t := 33) (p := 50) rfl ?_); refine store_event (t := 33) (p := 50) (v := ?vo_w35) (w1 := (w33.setCell ⟨go32, ((rd (rd_L2 l0 x20_1) x27_2) : Int).toNat, none⟩ (.slice Ao36 y192.length co36))) ?hg ?ho ?hn ?hr ?_; (case ho => rfl); (case hg => rfl); (case hn => rfl); (case hr => first | (go_simp; done) | (go_simp; rfl)); intro w35 hw; have hg : w33.grownBy w35 (some go32) := (by rw [hw]; exact HP34.2); have hp_ : Kd.S (Kd.slice 3 (Kd.int .i64)) 33 w35 w.heap.size (fun k_ => some k_ ≠ (.slice Ao30 t178.length co30 : Value).ownBlock) (.slice (some ⟨go32, 0, none⟩) x3_2.length co31) y195 := (by rw [hw, Ny195.out]; exact HP34.1); clear HP34; have n0_ := Aside0.mk (Kd.R_over' (v := (.slice (some ⟨go32, 0, none⟩) x3_2.length co31)) (by (with_reducible repeat (first | apply Kd.R_alloc | apply Kd.R_drewN | apply Kd.R_drew)); exact HO_4.out) (Kd.R_typed hraw34) (by decide) hg); have n1_ := Aside0.mk (Kd.R_over' (v := (.slice (some ⟨go32, 0, none⟩) x3_2.length co31)) (by (with_reducible repeat (first | apply Kd.R_alloc | apply Kd.R_drewN | apply Kd.R_drew)); exact HO_5.out) (Kd.R_typed hraw34) (by decide) hg); have n2_ := Aside0.mk ((by rw [hw]; exact below_set HB.out GB32.out : Below w.heap.size w w35)); have n3_ := Aside0.mk (hp_); clear HO_4; clear HO_5; clear HB; clear HO194; clear HH32; have HO_4 := n0_; have HO_5 := n1_; have HB := n2_; have HO_3 := n3_; clear n0_ n1_ n2_ n3_; clear hg hw hp_ hraw34))
                    go_roundg k2
                    case measure => have := HK1.out; have := HK2.out; omega
                    case rel => exact ⟨(y195), (wrap64 (x27_2 + 1)), (by first | rfl | (simp; done) | (simp [*]; done)), H', ⟨by have := HK1.out; have := HK2.out; omega⟩, ⟨by (with_reducible repeat (first | apply Kd.S_alloc | apply Kd.S_drewN | apply Kd.S_drew)); exact HO_3.out⟩, ⟨by (with_reducible repeat (first | apply Kd.R_alloc | apply Kd.R_drewN | apply Kd.R_drew)); exact HO_4.out⟩, ⟨by (with_reducible repeat (first | apply Kd.R_alloc | apply Kd.R_drewN | apply Kd.R_drew)); exact HO_5.out⟩, ⟨by repeat (first | (with_reducible first | exact HB.out | apply below_alloc | apply pw_below_drewN | apply below_drew1) | exact HB.out)⟩⟩
                   ·rw [if_neg c27] at H; exact absurd H (by simp)
                  ·rw [if_neg c26] at H; exact absurd H (by simp)
                 ·rw [if_neg c25] at H; exact absurd H (by simp)
                ·replace c24 := Bool.eq_false_iff.mpr c24; subst c24; have H1 : (graph_backs.l1 k2 x3_2 t178 t184 x20_1 l0 (l0.length : Int) x20_1 (rd_L2 l0 x20_1) ((rd_L2 l0 x20_1).length : Int) (wrap64 (x27_2 + 1))) = some r := by rw [if_neg (show ¬ (false = true) by decide)] at H; exact H
                 clear H; have H := H1; clear H1; have H' := Aside0.mk H
                 clear H; have p188 : 0 ≤ (x27_2 : Int) := of_decide_eq_true (by with_reducible assumption)
                 have q188 : x27_2 < ((rd_L2 l0 x20_1).length : Int) := of_decide_eq_true (by with_reducible assumption)
                 obtain ⟨ad188, e188, hx188_0⟩ := Kd.at_int HR187_0.out x27_2 p188 q188; cases e188; replace hx188_0 := (HB.out.cell (World.block_lt_of_cell? w _ hx188_0)).trans hx188_0; replace p188 := eq_true p188; replace q188 := eq_true q188; obtain ⟨Ao37, co37, eo37⟩ := Kd.R_slice HO_5.out; subst eo37; have p189 : 0 ≤ (x20_1 : Int) := of_decide_eq_true (by with_reducible assumption)
                 have q189 : x20_1 < (t184.length : Int) := of_decide_eq_true (by with_reducible assumption)
                 obtain ⟨ad189, e189, hx189_0⟩ := Kd.at_bool (Kd.R_reads' HO_5.out).2.2 x20_1 p189 q189; (try rw [← Nbq21.out] at hx189_0)
                 cases e189; replace p189 := eq_true p189; replace q189 := eq_true q189; obtain ⟨Ao38, co38, eo38⟩ := Kd.R_slice HO_4.out; subst eo38; go_wp2_with (first | (go_at_call 63; (with_reducible refine (graph_above.calls k2 _ _ t178 (rd (rd_L2 l0 x20_1) x27_2) x20_1 false _ ?side1 ?side2 A23.out).mono ?_); (case side1 => repeat (first | exact (Kd.R_reads' HO_4.out).2.2 | with_reducible first | refine Kd.C_alloc ?_ _ | refine Kd.C_drewN ?_ _ | refine Kd.C_drew ?_)); (case side2 => exact (Kd.R_reads' HO_4.out).2.1); rintro e w' ⟨rfl, ⟨nd, rfl⟩⟩))
                 go_roundg k2
                 case measure => have := HK1.out; have := HK2.out; omega
                 case rel => exact ⟨(x3_2), (wrap64 (x27_2 + 1)), (by first | rfl | (simp; done) | (simp [*]; done)), H', ⟨by have := HK1.out; have := HK2.out; omega⟩, ⟨by (with_reducible repeat (first | apply Kd.S_alloc | apply Kd.S_drewN | apply Kd.S_drew)); exact HO_3.out⟩, ⟨by (with_reducible repeat (first | apply Kd.R_alloc | apply Kd.R_drewN | apply Kd.R_drew)); exact HO_4.out⟩, ⟨by (with_reducible repeat (first | apply Kd.R_alloc | apply Kd.R_drewN | apply Kd.R_drew)); exact HO_5.out⟩, ⟨by repeat (first | (with_reducible first | exact HB.out | apply below_alloc | apply pw_below_drewN | apply below_drew1) | exact HB.out)⟩⟩
               ·replace c22 := Bool.eq_false_iff.mpr c22; subst c22; have H1 : (graph_backs.l1 k2 x3_2 t178 t184 x20_1 l0 (l0.length : Int) x20_1 (rd_L2 l0 x20_1) ((rd_L2 l0 x20_1).length : Int) (wrap64 (x27_2 + 1))) = some r := by rw [if_neg (show ¬ (false = true) by decide)] at H; exact H
                clear H; have H := H1; clear H1; have H' := Aside0.mk H
                clear H; have p188 : 0 ≤ (x27_2 : Int) := of_decide_eq_true (by with_reducible assumption)
                have q188 : x27_2 < ((rd_L2 l0 x20_1).length : Int) := of_decide_eq_true (by with_reducible assumption)
                obtain ⟨ad188, e188, hx188_0⟩ := Kd.at_int HR187_0.out x27_2 p188 q188; cases e188; replace hx188_0 := (HB.out.cell (World.block_lt_of_cell? w _ hx188_0)).trans hx188_0; replace p188 := eq_true p188; replace q188 := eq_true q188; obtain ⟨Ao39, co39, eo39⟩ := Kd.R_slice HO_5.out; subst eo39; have p189 : 0 ≤ (x20_1 : Int) := of_decide_eq_true (by with_reducible assumption)
                have q189 : x20_1 < (t184.length : Int) := of_decide_eq_true (by with_reducible assumption)
                obtain ⟨ad189, e189, hx189_0⟩ := Kd.at_bool (Kd.R_reads' HO_5.out).2.2 x20_1 p189 q189; (try rw [← Nbq21.out] at hx189_0)
                cases e189; replace p189 := eq_true p189; replace q189 := eq_true q189; go_wp2
                go_roundg k2
                case measure => have := HK1.out; have := HK2.out; omega
                case rel => exact ⟨(x3_2), (wrap64 (x27_2 + 1)), (by first | rfl | (simp; done) | (simp [*]; done)), H', ⟨by have := HK1.out; have := HK2.out; omega⟩, ⟨by (with_reducible repeat (first | apply Kd.S_alloc | apply Kd.S_drewN | apply Kd.S_drew)); exact HO_3.out⟩, ⟨by (with_reducible repeat (first | apply Kd.R_alloc | apply Kd.R_drewN | apply Kd.R_drew)); exact HO_4.out⟩, ⟨by (with_reducible repeat (first | apply Kd.R_alloc | apply Kd.R_drewN | apply Kd.R_drew)); exact HO_5.out⟩, ⟨by repeat (first | (with_reducible first | exact HB.out | apply below_alloc | apply pw_below_drewN | apply below_drew1) | exact HB.out)⟩⟩
              ·rw [if_neg c20] at H; exact absurd H (by simp)
             ·rw [if_neg c19] at H; exact absurd H (by simp)
            ·rw [if_neg c18] at H; exact absurd H (by simp)
           ·rw [if_neg c17] at H; exact absurd H (by simp)
          ·rw [if_neg c16] at H; have c16b0 : decide (x27_2 < ((rd_L2 l0 x20_1).length : Int)) = false := decide_eq_false c16
           clear c16; have H' := Aside0.mk H
           clear H; go_wp2
           go_roundg k2
           case measure => have := HK1.out; have := HK2.out; omega
           case rel => exact ⟨(x3_2), (wrap64 (x20_1 + 1)), (by first | rfl | (simp; done) | (simp [*]; done)), H', ⟨by have := HK1.out; have := HK2.out; omega⟩, ⟨by (with_reducible repeat (first | apply Kd.S_alloc | apply Kd.S_drewN | apply Kd.S_drew)); exact HO_3.out⟩, ⟨by (with_reducible repeat (first | apply Kd.R_alloc | apply Kd.R_drewN | apply Kd.R_drew)); exact HO_4.out⟩, ⟨by (with_reducible repeat (first | apply Kd.R_alloc | apply Kd.R_drewN | apply Kd.R_drew)); exact HO_5.out⟩, ⟨by repeat (first | (with_reducible first | exact HB.out | apply below_alloc | apply pw_below_drewN | apply below_drew1) | exact HB.out)⟩⟩
       ·rw [if_neg c15] at H; exact absurd H (by simp)
      ·rw [if_neg c14] at H; exact absurd H (by simp)
     ·rw [if_neg c13] at H; have c13b0 : decide (x20_1 < (l0.length : Int)) = false := decide_eq_false c13
      clear c13; obtain rfl := Option.some.inj H; go_wp2
      go_ret
      exact ⟨_, by first | rfl | (simp [errW_none, errW_some] <;> rfl) | (simp [*, errW_none, errW_some] <;> rfl), by (with_reducible repeat (first | apply Kd.S_alloc | apply Kd.S_drewN | apply Kd.S_drew)); exact Kd.S_mono HO_3.out (fun _ hk => trivial), by repeat (first | (with_reducible first | exact HB.out | apply below_alloc | apply pw_below_drewN | apply below_drew1) | exact HB.out)⟩
  ·rw [if_neg c3] at H; exact absurd H (by simp)
 ·rw [if_neg c2] at H; exact absurd H (by simp)
-- NOT PRINTED: function 15 (graph_Frontier)
def graph_Dominators.f (k : Nat) (l0 : List (List Int)) : Option (List Int × Int) := (graph_valid.f k l0).bind fun t233 => (if t233 = true then ((graph_tree.f k l0 0).bind fun t234 => (some (t234, 0))) else (some (([] : List Int), 1)))
theorem graph_Dominators.mono : ∀ a0 k, LeO (graph_Dominators.f k a0) (graph_Dominators.f (k + 1) a0) := by
 intro a0 k
 unfold graph_Dominators.f
 repeat' first
   | (with_reducible exact graph_tree.mono _ _ _)
   | (with_reducible exact graph_valid.mono _ _)
   | (with_reducible exact LeO.refl _)
   | (with_reducible exact LeO.none _)
   | (with_reducible refine LeO.ite ?_ ?_)
   | (with_reducible refine LeO.bind ?_ (fun _ => ?_))
set_option maxHeartbeats 8000000 in
set_option maxRecDepth 100000 in
theorem graph_Dominators.calls (k : Nat) (A0 : Option Addr) (c0 : Nat) (l0 : List (List Int)) (r1 : List Int) (r2 : Int) (w : World) (hr0 : Kd.C (Kd.slice 3 (Kd.int .i64)) w A0 l0.length l0) (hc0 : l0.length ≤ c0) (h : graph_Dominators.f k l0 = some (r1, r2)) :
  Calls Try.prog 29 #[.slice A0 l0.length c0] w fun e w' => ∃ v0_ : Value, e = .returned (.tuple #[v0_, .int .i64 r2]) ∧ Kd.R (Kd.int .i64) 3 w' w.heap.size (fun _ => True) v0_ r1 ∧ Below w.heap.size w w' := by
 have HR0 := Aside0.mk hr0; have HC0 := Aside0.mk hc0; clear hr0 hc0; have HB := Aside0.mk (Below.refl w.heap.size w); have H : ((graph_valid.f k l0).bind fun t233 => (if t233 = true then ((graph_tree.f k l0 0).bind fun t234 => (some (t234, 0))) else (some (([] : List Int), 1)))) = some (r1, r2) := h
 clear h; replace H := Option.bind_eq_some_iff.mp H; obtain ⟨t233, A20, H⟩ := H; replace H : (if t233 = true then ((graph_tree.f k l0 0).bind fun t234 => (some (t234, 0))) else (some (([] : List Int), 1))) = some (r1, r2) := H
 have A2 := Aside0.mk A20; clear A20; by_cases c3 : t233 = true
 ·subst c3; have H1 : ((graph_tree.f k l0 0).bind fun t234 => (some (t234, 0))) = some (r1, r2) := by rw [if_pos rfl] at H; exact H
  clear H; have H := H1; clear H1; replace H := Option.bind_eq_some_iff.mp H; obtain ⟨t234, A40, H⟩ := H; replace H : (some (t234, 0)) = some (r1, r2) := H; have A4 := Aside0.mk A40; clear A40; simp only [Option.some.injEq, Prod.mk.injEq] at H
  obtain ⟨rfl, rfl⟩ := H; go_enter Try.func29, Try.ntmps29
  go_wp2_with (first | ((with_reducible refine gate_callee (f := 47) rfl ?_); refine goesL_ (some 5) rfl rfl Try.func47 (by kernel_rfl) rfl #[.slice A0 l0.length c0] rfl (by (try simp only [List.map_toArray, List.map_cons, List.map_nil]); first | done | rfl | (simp only [List.length_drop, List.length_take]; rfl)) ?_; (with_reducible refine (graph_valid.calls k _ _ l0 true _ ?side1 ?side2 A2.out).mono ?_); (case side1 => repeat (first | exact HR0.out | with_reducible first | refine Kd.C_alloc ?_ _ | refine Kd.C_drewN ?_ _ | refine Kd.C_drew ?_)); (case side2 => exact HC0.out); rintro e w' ⟨rfl, ⟨nd, rfl⟩⟩; refine ⟨_, rfl, ?_⟩) | ((with_reducible refine gate_callee (f := 48) rfl ?_); refine goesL_ (some 8) rfl rfl Try.func48 (by kernel_rfl) rfl #[.slice A0 l0.length c0, .int .i64 0] rfl (by (try simp only [List.map_toArray, List.map_cons, List.map_nil]); first | done | rfl | (simp only [List.length_drop, List.length_take]; rfl)) ?_; (with_reducible refine (graph_tree.calls k _ _ l0 0 t234 _ ?side1 ?side2 A4.out).mono ?_); (case side1 => repeat (first | exact HR0.out | with_reducible first | refine Kd.C_alloc ?_ _ | refine Kd.C_drewN ?_ _ | refine Kd.C_drew ?_)); (case side2 => exact HC0.out); rintro e w5 ⟨v235, rfl, ho0, hb⟩; refine ⟨_, rfl, ?_⟩; have n0_ := Aside0.mk (Kd.R_lower ho0 (below_size (by repeat (first | (with_reducible first | exact HB.out | apply below_alloc | apply pw_below_drewN | apply below_drew1) | exact HB.out)))); have n1_ := Aside0.mk (below_step (by repeat (first | (with_reducible first | exact HB.out | apply below_alloc | apply pw_below_drewN | apply below_drew1) | exact HB.out)) hb); clear HB; have HO236 := n0_; have HB := n1_; clear n0_ n1_; (try clear hb); (try clear hb2); (try clear hk); (try clear hi); (try clear ho0)))
  go_ret2
  exact ⟨_, by first | rfl | (simp [errW_none, errW_some] <;> rfl) | (simp [*, errW_none, errW_some] <;> rfl), by (with_reducible repeat (first | apply Kd.R_alloc | apply Kd.R_drewN | apply Kd.R_drew)); exact HO236.out, by repeat (first | (with_reducible first | exact HB.out | apply below_alloc | apply pw_below_drewN | apply below_drew1) | exact HB.out)⟩
 ·replace c3 := Bool.eq_false_iff.mpr c3; subst c3; have H1 : (some (([] : List Int), 1)) = some (r1, r2) := by rw [if_neg (show ¬ (false = true) by decide)] at H; exact H
  clear H; have H := H1; clear H1; simp only [Option.some.injEq, Prod.mk.injEq] at H
  obtain ⟨rfl, rfl⟩ := H; go_enter Try.func29, Try.ntmps29
  go_wp2_with (first | ((with_reducible refine gate_callee (f := 47) rfl ?_); refine goesL_ (some 5) rfl rfl Try.func47 (by kernel_rfl) rfl #[.slice A0 l0.length c0] rfl (by (try simp only [List.map_toArray, List.map_cons, List.map_nil]); first | done | rfl | (simp only [List.length_drop, List.length_take]; rfl)) ?_; (with_reducible refine (graph_valid.calls k _ _ l0 false _ ?side1 ?side2 A2.out).mono ?_); (case side1 => repeat (first | exact HR0.out | with_reducible first | refine Kd.C_alloc ?_ _ | refine Kd.C_drewN ?_ _ | refine Kd.C_drew ?_)); (case side2 => exact HC0.out); rintro e w' ⟨rfl, ⟨nd, rfl⟩⟩; refine ⟨_, rfl, ?_⟩))
  go_ret2
  exact ⟨_, by first | rfl | (simp [errW_none, errW_some] <;> rfl) | (simp [*, errW_none, errW_some] <;> rfl), by first | exact Kd.R_nil _ _ _ _ _ | exact Kd.N_nil _ _ _ _ _ | exact Kd.V_nil _ _ _ _ _ | exact Kd.Q_nil _ _ _ _ _ | exact Kd.S_nil _ _ _ _ _, by repeat (first | (with_reducible first | exact HB.out | apply below_alloc | apply pw_below_drewN | apply below_drew1) | exact HB.out)⟩
-- NOT PRINTED: function 27 (graph_Postdominators)
end Go.Proofs.Ytjjedbcgkljdeaa.B
end
section
namespace Go.Proofs.Ytjjedbcgkljdeaa.B
open Go Go.RowKit Go.Shelf Go.Proofs.YtjjedbcgkljdeaaW.PrintWords Go.Proofs.YtjjedbcgkljdeaaW.PrintLast Go.Proofs.YtjjedbcgkljdeaaW.PrintMore Go.Proofs.Ytjjedbcgkljdeaa.A
def graph_treeCut.f (k : Nat) (l0 : List (List Int)) (a1 a2 : Int) : Option (List Int) :=
 (graph_tree.f k l0 a1).bind fun u => if 0 ≤ a2 then if a2 ≤ (u.length : Int) then some (u.take a2.toNat) else none else none
theorem graph_treeCut.mono : ∀ a0 a1 a2 k, LeO (graph_treeCut.f k a0 a1 a2) (graph_treeCut.f (k + 1) a0 a1 a2) := fun a0 a1 a2 k => by
 unfold graph_treeCut.f
 exact LeO.bind (graph_tree.mono a0 a1 k) fun _ => LeO.refl _
theorem own_cut {W : World} {b : Nat} {e : TypeId} {A : Option Addr} {n c : Nat} {xs : List Int} (h : W.ownsRow b e 1 (.slice A n c) n (nums .i64 xs)) (j : Nat) (hj : j ≤ n) : W.ownsRow b e 1 (.slice A j c) j (nums .i64 (xs.take j)) := by
 have hl := h.1; simp only [nums, List.length_map, Nat.mul_one] at hl
 refine ⟨by simp [nums]; omega, ?_⟩
 rcases h.2 with ⟨e1, e2⟩ | ⟨g, cap, cur, e1, e2, e3, e4, e5, e6, e7⟩
 ·injection e1 with f1 f2 f3
  obtain rfl : j = 0 := by omega
  exact .inl ⟨by rw [f1, f3], rfl⟩
 ·injection e1 with f1 f2 f3
  subst f1 f3; refine .inr ⟨g, c, cur, rfl, e2, e3, by omega, e5, e6, ?_⟩
  have := congrArg (List.take j) e7
  rw [List.take_take, Nat.mul_one, Nat.min_eq_left hj] at this; rw [Nat.mul_one, this]; simp [nums, List.map_take]
theorem graph_treeCut.calls (k : Nat) (A0 : Option Addr) (c0 : Nat) (l0 : List (List Int)) (a1 a2 : Int) (r : List Int) (w : World) (hr0 : Kd.C (Kd.slice 3 (Kd.int .i64)) w A0 l0.length l0) (hc0 : l0.length ≤ c0) (h : graph_treeCut.f k l0 a1 a2 = some r) :
  Calls Try.prog 48 #[.slice A0 l0.length c0, .int .i64 a1] w fun e w' => ∃ (At : Option Addr) (mt ct : Nat), e = .returned (.slice At mt ct) ∧ Kd.R (Kd.int .i64) 3 w' w.heap.size (fun _ => True) (.slice At r.length ct) r ∧ Below w.heap.size w w' ∧ a2 = (r.length : Int) ∧ r.length ≤ ct ∧ ct ≤ maxLen := by
 unfold graph_treeCut.f at h
 obtain ⟨u, hu, h⟩ := Option.bind_eq_some_iff.mp h; split at h
 case isFalse => cases h
 next h0 =>
 split at h
 case isFalse => cases h
 next h1 =>
 obtain rfl := Option.some.inj h; refine (graph_tree.calls k A0 c0 l0 a1 u w hr0 hc0 hu).mono ?_
 rintro e w' ⟨v, rfl, hR, hB⟩
 obtain ⟨A, c, rfl⟩ := Kd.R_slice hR; obtain ⟨_, hnc, _⟩ := Kd.R_reads' hR; have ho := Kd.own_of_R hR; have hm : c ≤ maxLen := by
  rcases ho.2 with ⟨e1, _⟩ | ⟨g, cap, cur, e1, _, _, _, e5, _⟩
  ·injection e1 with _ _ f3; rw [f3]; exact Nat.zero_le _
  ·injection e1 with _ _ f3; rw [f3]; exact e5
 have hl : (u.take a2.toNat).length = a2.toNat := by rw [List.length_take]; omega
 refine ⟨A, u.length, c, rfl, ?_, hB, by rw [hl]; omega, by rw [hl]; omega, hm⟩
 have h2 := own_cut ho a2.toNat (by omega)
 refine Kd.R_of_own ?_ (fun _ _ => trivial)
 rw [hl]; exact h2
end Go.Proofs.Ytjjedbcgkljdeaa.B
end
section
namespace Go.Proofs.Ytjjedbcgkljdeaa
open Go.RowKit Go.Proofs.YtjjedbcgkljdeaaW.PrintWords Go.Proofs.YtjjedbcgkljdeaaW.PrintLast Go.Proofs.YtjjedbcgkljdeaaW.PrintMore Go.Proofs.Ytjjedbcgkljdeaa.A
def VisPost_reg {pe : Nat} (w : World) (B : Nat) (s' : List Bool) (t' : List Int) (e : Ending) (W' : World) : Prop :=
 e = .returned (.tuple #[]) ∧ ∃ tv', FromSt w W' B (.func (.func 62) #[] #[.pointer (some ⟨pe, 0, none⟩)]) s' t' tv'
def Closed_reg {pe : Nat} (w : World) (P : Int → Bool) (len : Nat) : Prop := ∀ W1, Below w.heap.size w W1 → ∀ n : Int, 0 ≤ n → n < (len : Int) → Calls Try.prog 62 #[.int .i64 n, .pointer (some ⟨pe, 0, none⟩)] W1 fun e W' => e = .returned (.bool (P n)) ∧ Drawn0 W1 W'
set_option maxHeartbeats 2000000 in
theorem visit_reg {pe : Nat} {w W : World} {B : Nat} {P : Int → Bool} {s : List Bool} {t : List Int} {tv : Value} (h : FromSt w W B (.func (.func 62) #[] #[.pointer (some ⟨pe, 0, none⟩)]) s t tv) (m : Int) (s' : List Bool) (t' : List Int) (hv : visF P s t m = some (s', t')) (hP : Closed_reg w P s.length (pe := pe)) :
  Calls Try.prog 69 #[.int .i64 m, .pointer (some ⟨B + 1 + 1, 0, none⟩), .pointer (some ⟨B, 0, none⟩), .pointer (some ⟨B + 1 + 1 + 1, 0, none⟩)] W (VisPost_reg w B s' t' (pe := pe)) := by
 unfold visF at hv
 by_cases h0 : 0 ≤ m
 case neg => rw [if_neg h0] at hv; cases hv
 rw [if_pos h0] at hv; by_cases h1 : m < (s.length : Int)
 case neg => rw [if_neg h1] at hv; cases hv
 rw [if_pos h1] at hv; obtain ⟨k, rfl⟩ := Int.eq_ofNat_of_zero_le h0; have hk : k < s.length := by omega
 have hrd : rdOf false s (k : Int) = s.getD k false := by unfold rdOf; rw [Int.toNat_natCast]
 rw [hrd] at hv; have H := Aside0.mk h; have c2 : W.cell? ⟨B + 1 + 1, 0, none⟩ = some (.slice (some ⟨B + 1, 0, none⟩) s.length s.length) := (blk_cell h.c2 0).trans rfl
 have c0 : W.cell? ⟨B, 0, none⟩ = some (.func (.func 62) #[] #[.pointer (some ⟨pe, 0, none⟩)]) := (blk_cell h.c0 0).trans rfl
 have c3 : W.cell? ⟨B + 1 + 1 + 1, 0, none⟩ = some tv := (blk_cell h.c3 0).trans rfl
 have c1 := h.cell1 k hk; have f1 := blk_frozen h.c1 k; clear h h0 hrd; by_cases hs : s.getD k false = true
 ·rw [if_pos hs] at hv; simp only [Option.some.injEq, Prod.mk.injEq] at hv
  obtain ⟨rfl, rfl⟩ := hv; rw [hs] at c1; clear hs; go_enter Try.func69, Try.ntmps69
  go_wp2
  go_end0
  exact ⟨rfl, _, H.out⟩
 ·rw [if_neg hs] at hv; have hs' : s.getD k false = false := Bool.eq_false_iff.mpr hs
  rw [hs'] at c1; clear hs hs'; have hp := hP W H.out.below (k : Int) (by omega) h1
  by_cases hPk : P (k : Int) = true
  ·rw [if_pos hPk] at hv; simp only [Option.some.injEq, Prod.mk.injEq] at hv
   obtain ⟨rfl, rfl⟩ := hv; rw [hPk] at hp; have HP := Aside0.mk hp; clear hp hP hPk; go_enter Try.func69, Try.ntmps69
   go_wp2_with fail
   refine HP.out.mono ?_
   rintro e w' ⟨rfl, ⟨nd, rfl⟩⟩
   go_wp2
   go_end0
   exact ⟨rfl, _, H.out.grown (pw_below_drewN (Below.refl _ _) nd)⟩
  ·rw [if_neg hPk] at hv; by_cases hl : t.length < 17592186044416
   case neg => rw [if_neg hl] at hv; cases hv
   rw [if_pos hl] at hv; simp only [Option.some.injEq, Prod.mk.injEq] at hv
   obtain ⟨rfl, rfl⟩ := hv; rw [Bool.eq_false_iff.mpr hPk] at hp; have HP := Aside0.mk hp; have HL := Aside0.mk hl; clear hp hP hPk hl; go_enter Try.func69, Try.ntmps69
   go_wp2_with fail
   refine HP.out.mono ?_
   rintro e w' ⟨rfl, ⟨nd, rfl⟩⟩
   have h2 := (H.out.grown (pw_below_drewN (Below.refl _ _) nd)).mark k; have H2 := Aside0.mk h2; clear h2; have hsz := blk_lt H2.out.c3; have hz := Aside0.mk hsz; clear hsz; go_wp2_with ((with_reducible refine gate_builtin (b := .append) (xs := #[.tmp 19, .tmp 21]) rfl ?_); at_builtin; refine print_append_num (w0 := (W.drewN nd).setCell ⟨B + 1, k, none⟩ (.bool true)) (B + 1 + 1 + 1 + 1) rfl (.tmp 19) (.tmp 21) 33 3 .i64 8 rfl Try.underlying33 info3 (by decide) tv t (k : Int) rfl (by first | (go_simp; done) | (go_simp; rfl)) H2.out.own (Below.refl _ _) hz.out (by have := HL.out; omega) ?_; intro tv1 w1 ho hb hg hat; obtain ⟨A1, cp1, rfl⟩ := own_slice ho; have hb3 := blk_grown H2.out.c3 hg (H2.out.ne 3 (by omega)); have g3 : w1.cell? ⟨B + 1 + 1 + 1, 0, none⟩ = some tv := (blk_cell hb3 0).trans rfl; have gf := blk_frozen hb3 0; have HO := Aside0.mk ho; have HG := Aside0.mk hg; clear ho hb hg hat hb3)
   go_end0
   exact ⟨rfl, _, H2.out.todo HG.out (H2.out.below.grown HG.out (by have := H2.out.hB; have := hz.out; omega) (fun j hj => by have := own_base H2.out.own _ hj; have := H2.out.hB; omega)) (by have h := HO.out; rwa [show (t ++ [(k : Int)]).length = t.length + 1 from by simp] at h ⊢)⟩
def FromPost_reg (w : World) (r : List Bool) (e : Ending) (w' : World) : Prop :=
 ∃ v0_ : Value, e = .returned v0_ ∧ Kd.R Kd.bool 4 w' w.heap.size (fun _ => True) v0_ r ∧ Below w.heap.size w w'
set_option maxHeartbeats 4000000 in
set_option maxRecDepth 100000 in
theorem from_reg {pe : Nat} (P : Int → Bool) (k : Nat) (A0 : Option Addr) (c0 : Nat) (l0 : List (List Int)) (A1 : Option Addr) (c1 : Nat) (l1 : List Int) (r : List Bool) (w : World) (hr0 : Kd.C (Kd.slice 3 (Kd.int .i64)) w A0 l0.length l0) (hr1 : Kd.C (Kd.int .i64) w A1 l1.length l1) (hP : Closed_reg w P l0.length (pe := pe)) (h : fromF P k l0 l1 = some r) :
  Calls Try.prog 49 #[.slice A0 l0.length c0, .slice A1 l1.length c1, (.func (.func 62) #[] #[.pointer (some ⟨pe, 0, none⟩)])] w (FromPost_reg w r) := by
 unfold fromF at h
 by_cases hlen : l0.length ≤ 281474976710656
 case neg => rw [if_neg hlen] at h; cases h
 rw [if_pos hlen] at h; replace h := Option.bind_eq_some_iff.mp h; obtain ⟨⟨s1, t1⟩, h1, h2⟩ := h; have HR0 := Aside0.mk hr0; have HR1 := Aside0.mk hr1; have HP := Aside0.mk hP; have H1 := Aside0.mk h1; have H2 : Aside0 (runF P l0 k s1 t1 = some r) := ⟨h2⟩
 have hm1 : l1.length ≤ 9223372036854775807 := Kd.C_max hr1
 clear hr0 hr1 hP h1 h2; have hmf : ∀ (fn : Fn) (first cap : Array Value) (w : World), (Instr.makeFunc fn first cap).run Try.prog w = .ok (.func fn first cap) w := fun _ _ _ _ => rfl
 have hmk := print_make_of (P := Try.prog) 46 4 (.bool false) 1 Try.underlying46 info4 rfl (by decide) l0.length (by omega)
 go_enter Try.func49, Try.ntmps49
 go_wp2
 clear hmf hmk; refine gen_world (P := fun W => FromSt w W w.heap.size (.func (.func 62) #[] #[.pointer (some ⟨pe, 0, none⟩)]) (List.replicate l0.length false) [] (.slice none 0 0)) ?_ ?_
 ·have e0 : (madeCells #[.bool false] l0.length) = bA (List.replicate l0.length false) := by
   apply Array.ext_getElem?
   intro i
   rw [bA_get]; simp only [madeCells, Array.getElem?_map]
   by_cases hi : i < l0.length
   ·rw [Array.getElem?_eq_getElem (by simpa using hi), List.getElem?_eq_getElem (by simpa using hi)]; simp [Nat.mod_one]
   ·rw [Array.getElem?_eq_none (by simpa using hi), List.getElem?_eq_none (by simpa using hi)]; rfl
  rw [e0]; refine ⟨?_, Nat.le_refl _, ?_, ?_, ?_, ?_, ?_⟩
  ·repeat (first | exact Below.refl _ _ | refine below_alloc ?_ _ | refine Below.setCell ?_ (by simp) _)
  ·repeat (first | exact new_at _ (by simp) | refine blk_alloc ?_ _ | refine blk_far ?_ (by simp) _)
  ·repeat (first | exact new_at _ (by simp) | refine blk_alloc ?_ _ | refine blk_far ?_ (by simp) _)
  ·rw [List.length_replicate]; refine blk_alloc (new_at _ ?_) _; first | rfl | simp
  ·exact new_at _ (by simp)
  ·exact own_nil _ _ _ _
 rintro W hF
 obtain ⟨B, hB⟩ : ∃ B, B = w.heap.size := ⟨_, rfl⟩; rw [← hB] at hF ⊢
 have HF := Aside0.mk hF; have HBw := Aside0.mk hB; clear hF hB; go_loopw [21] (fun i wr => ∃ (j : Nat) (s : List Bool) (t : List Int) (tv : Value), j ≤ l1.length ∧ i = .int .i64 j ∧ Aside0 (visL P (l1.drop j) s t = some (s1, t1)) ∧ Aside0 (FromSt w wr B (.func (.func 62) #[] #[.pointer (some ⟨pe, 0, none⟩)]) s t tv) ∧ Aside0 (s.length = l0.length)) (fun i _ => l1.length - (intOf i).toNat)
 case atStart => exact ⟨0, _, _, _, by omega, rfl, ⟨H1.out⟩, HF, ⟨List.length_replicate ..⟩⟩
 case round =>
  obtain ⟨j, s, t, tv, hj, rfl, HV, HF, HS⟩ := hrel; by_cases hlt : j < l1.length
  ·obtain ⟨ad, e, hx⟩ := Kd.at_int HR1.out (j : Int) (by omega) (by omega)
   cases e; rw [Int.toNat_natCast] at hx; have hx2 := (HF.out.below.cell (World.block_lt_of_cell? w _ hx)).trans hx; clear hx; have hv := HV.out; rw [List.drop_eq_getElem_cons hlt, visL] at hv; have hrd : rd l1 (j : Int) = l1[j] := by unfold rd; rw [Int.toNat_natCast, List.getD_eq_getElem?_getD, List.getElem?_eq_getElem hlt]; rfl
   rw [hrd] at hx2; obtain ⟨⟨s2, t2⟩, hv1, hv2⟩ := Option.bind_eq_some_iff.mp hv; obtain ⟨m, hm⟩ : ∃ m, m = l1[j] := ⟨_, rfl⟩; rw [← hm] at hx2 hv1
   have HM := Aside0.mk hm; have HV1 := Aside0.mk hv1; have HV2 := Aside0.mk hv2; clear hv hrd hv1 hv2 hm HV; go_wp2_with fail
   refine (visit_reg HF.out m s2 t2 HV1.out (by rw [HS.out]; exact HP.out)).mono ?_
   rintro e W' ⟨rfl, tv', hF2⟩
   have HF2 := Aside0.mk hF2; clear hF2; go_wp2
   go_roundw
   case rel => exact ⟨j + 1, s2, t2, tv', by omega, by go_num, HV2, HF2, ⟨by rw [visF_len HV1.out, HS.out]⟩⟩
   case measure => simp [intOf]; omega
  ·obtain rfl : j = l1.length := by omega
   have hv := HV.out; rw [List.drop_of_length_le (Nat.le_refl _), visL] at hv; simp only [Option.some.injEq, Prod.mk.injEq] at hv
   obtain ⟨rfl, rfl⟩ := hv; clear HV; have hd : decide (((l1.length : Nat) : Int) < ((l1.length : Nat) : Int)) = false := decide_eq_false (by omega)
   go_wp2
   go_loopg [] k (fun kq w' => ∃ (s : List Bool) (t : List Int) (tv : Value), Aside0 (runF P l0 kq s t = some r) ∧ Aside0 (kq ≤ k) ∧ Aside0 (FromSt w w' B (.func (.func 62) #[] #[.pointer (some ⟨pe, 0, none⟩)]) s t tv) ∧ Aside0 (s.length = l0.length))
   case atStart => exact ⟨_, _, _, H2, ⟨Nat.le_refl _⟩, HF, HS⟩
   case round =>
    clear HF HS H2 H1; obtain ⟨s, t, tv, HA, HK, HF, HS⟩ := hrel; cases gk with
    | zero => exact absurd HA.out (by simp [runF])
    | succ k1 =>
     obtain ⟨A, c, rfl⟩ := own_slice HF.out.own; have hb3 := HF.out.c3; have g3 : wr.cell? ⟨B + 1 + 1 + 1, 0, none⟩ = some (.slice A t.length c) := (blk_cell hb3 0).trans rfl
     have gf3 := blk_frozen hb3 0; have hA := HA.out; rw [runF] at hA; by_cases ht : t.length = 0
     ·rw [if_pos ht] at hA; obtain rfl := Option.some.inj hA; obtain rfl := List.eq_nil_of_length_eq_zero ht; have g2 : wr.cell? ⟨B + 1 + 1, 0, none⟩ = some (.slice (some ⟨B + 1, 0, none⟩) s.length s.length) := (blk_cell HF.out.c2 0).trans rfl
      clear hA ht hb3; go_wp2
      go_ret
      exact ⟨_, rfl, HF.out.row (by have := HS.out; unfold maxLen; omega), HF.out.below⟩
     ·rw [if_neg ht] at hA; obtain ⟨t0, x, rfl, hrd, htk⟩ := last_of ht; rw [hrd, htk] at hA; clear hrd htk ht; by_cases hx0 : 0 ≤ x
      case neg => rw [if_neg hx0] at hA; cases hA
      rw [if_pos hx0] at hA; by_cases hx1 : x < (l0.length : Int)
      case neg => rw [if_neg hx1] at hA; cases hA
      rw [if_pos hx1] at hA; obtain ⟨⟨s2, t2⟩, hv1, hv2⟩ := Option.bind_eq_some_iff.mp hA; have HV1 := Aside0.mk hv1; have HV2 := Aside0.mk hv2; clear hA hv1 hv2 HA; have hlen : (t0 ++ [x]).length = t0.length + 1 := by simp
      obtain ⟨Ag, cg, e1, hle, hrd⟩ := own_reads_of_le (d := (0 : Int)) (enc := Value.int .i64) (xs := t0 ++ [x]) HF.out.own; have hmx : t0.length + 1 ≤ 9223372036854775807 := by have := hrd.2.1; omega
      obtain ⟨ad, e2, hcx⟩ := hrd.at_ (t0.length : Int) (by omega) (by omega)
      injection e1 with e1a e1b e1c
      subst e1a; subst e1c; cases e2; rw [Int.toNat_natCast, show rdOf (0 : Int) (t0 ++ [x]) (t0.length : Int) = x from by unfold rdOf; rw [Int.toNat_natCast]; simp] at hcx
      obtain ⟨i3, hi3, _⟩ := info_parts info3; have hcut := cut_to (P := Try.prog) 33 3 .i64 Try.underlying33 hi3 (some ad) (t0.length + 1) c (t0.length : Int) (by omega) (by omega) (by omega)
      rw [Int.toNat_natCast] at hcut; rw [hlen] at g3 hle
      clear hrd hlen e1b; go_upto_region 12 with (fail)
      refine gen_world (P := fun W => FromSt w W B (.func (.func 62) #[] #[.pointer (some ⟨pe, 0, none⟩)]) s t0 (.slice (some ad) t0.length c)) ?_ ?_
      ·have ho := own_take HF.out.own (m := t0.length) (by simp)
       rw [Nat.mul_one] at ho; have e3 : (nums .i64 (t0 ++ [x])).take t0.length = nums .i64 t0 := by simp [nums]
       rw [e3] at ho; exact HF.out.todo (grown_of_below (Below.refl _ _) _) HF.out.below ho
      rintro W2 hF2
      have HF2 := Aside0.mk hF2; clear hF2 HF hcut hcx g3 gf3 hb3 hle hmx; obtain ⟨ad0, Ar, cr, e0, hxg, hlg, hig⟩ := at_L1 HR0.out x hx0 hx1; cases e0; have hxg2 := (HF2.out.below.cell (World.block_lt_of_cell? w _ hxg)).trans hxg; have HRr := Aside0.mk hig; clear hxg hlg hig; obtain ⟨row, hrow⟩ : ∃ row, row = rd_L1 l0 x := ⟨_, rfl⟩; rw [← hrow] at hxg2 HRr HV1
      have HROW := Aside0.mk hrow; clear hrow; have hmr : row.length ≤ 9223372036854775807 := Kd.C_max HRr.out
      go_wp2
      go_loopw [48] (fun i wr => ∃ (j : Nat) (s : List Bool) (t : List Int) (tv : Value), j ≤ row.length ∧ i = .int .i64 j ∧ Aside0 (visL P (row.drop j) s t = some (s2, t2)) ∧ Aside0 (FromSt w wr B (.func (.func 62) #[] #[.pointer (some ⟨pe, 0, none⟩)]) s t tv) ∧ Aside0 (s.length = l0.length)) (fun i _ => row.length - (intOf i).toNat)
      case atStart => exact ⟨0, _, _, _, by omega, rfl, ⟨HV1.out⟩, HF2, HS⟩
      case round =>
       clear HF2 HS HV1; obtain ⟨j, s3, t3, tv3, hj, rfl, HV, HF, HS⟩ := hrel; by_cases hlt : j < row.length
       ·obtain ⟨ad4, e, hx⟩ := Kd.at_int HRr.out (j : Int) (by omega) (by omega)
        cases e; rw [Int.toNat_natCast] at hx; have hx2 := (HF.out.below.cell (World.block_lt_of_cell? w _ hx)).trans hx; clear hx; have hv := HV.out; rw [List.drop_eq_getElem_cons hlt, visL] at hv; have hrd : rd row (j : Int) = row[j] := by unfold rd; rw [Int.toNat_natCast, List.getD_eq_getElem?_getD, List.getElem?_eq_getElem hlt]; rfl
        rw [hrd] at hx2; obtain ⟨⟨s4, t4⟩, hv1, hv2⟩ := Option.bind_eq_some_iff.mp hv; obtain ⟨m, hm⟩ : ∃ m, m = row[j] := ⟨_, rfl⟩; rw [← hm] at hx2 hv1
        have HV1 := Aside0.mk hv1; have HV3 := Aside0.mk hv2; clear hv hrd hv1 hv2 hm HV; go_wp2_with fail
        refine (visit_reg HF.out m s4 t4 HV1.out (by rw [HS.out]; exact HP.out)).mono ?_
        rintro e W' ⟨rfl, tv', hF2⟩
        have HF2 := Aside0.mk hF2; clear hF2; go_wp2
        go_roundw
        case rel => exact ⟨j + 1, s4, t4, tv', by omega, by go_num, HV3, HF2, ⟨by rw [visF_len HV1.out, HS.out]⟩⟩
        case measure => simp [intOf]; omega
       ·obtain rfl : j = row.length := by omega
        have hv := HV.out; rw [List.drop_of_length_le (Nat.le_refl _), visL] at hv; simp only [Option.some.injEq, Prod.mk.injEq] at hv
        obtain ⟨rfl, rfl⟩ := hv; clear HV; have hd : decide (((row.length : Nat) : Int) < ((row.length : Nat) : Int)) = false := decide_eq_false (by omega)
        go_wp2
        go_roundg k1
        case measure => have := HK.out; omega
        case rel => exact ⟨_, _, _, HV2, ⟨by have := HK.out; omega⟩, HF, HS⟩
end Go.Proofs.Ytjjedbcgkljdeaa
end
section
namespace Go.Proofs.Ytjjedbcgkljdeaa.A
open Go.RowKit Go.Proofs.YtjjedbcgkljdeaaW.PrintWords Go.Proofs.YtjjedbcgkljdeaaW.PrintLast Go.Proofs.YtjjedbcgkljdeaaW.PrintMore
set_option linter.unusedVariables false
set_option linter.unusedSimpArgs false
mutual
def r7_From.l0 : Nat → List (List Int) → List Int → Int → List Bool → List Int → Int → Option (List Bool)
 | 0, _, _, _, _, _, _ => none
 | k + 1, x0, x1, x2, x7, x8, x9 => if x9 < (x1.length : Int) then (if 0 ≤ x9 then (if (rd x1 x9) = x2 then (r7_From.l0 k x0 x1 x2 x7 x8 (wrap64 (x9 + 1))) else (if 0 ≤ (rd x1 x9) then (if (rd x1 x9) < (x7.length : Int) then (if (rdOf false x7 (rd x1 x9) = true) then (r7_From.l0 k x0 x1 x2 x7 x8 (wrap64 (x9 + 1))) else (if x8.length < 17592186044416 then (r7_From.l0 k x0 x1 x2 (x7.set ((rd x1 x9) : Int).toNat true) (x8 ++ [rd x1 x9]) (wrap64 (x9 + 1))) else (none))) else (none)) else (none))) else (none)) else (r7_From.l1 k x0 x2 x7 x8)
def r7_From.l1 : Nat → List (List Int) → Int → List Bool → List Int → Option (List Bool)
 | 0, _, _, _, _ => none
 | k + 1, x0, x2, x7, x8 => if (x8.length : Int) > 0 then (if 0 ≤ (wrap64 ((x8.length : Int) - 1)) then (if (wrap64 ((x8.length : Int) - 1)) < (x8.length : Int) then (if (wrap64 ((x8.length : Int) - 1)) ≤ (x8.length : Int) then (r7_From.l2 k x0 x2 x7 (x8.take ((wrap64 ((x8.length : Int) - 1)) : Int).toNat) (rd x8 (wrap64 ((x8.length : Int) - 1))) 0) else (none)) else (none)) else (none)) else (some x7)
def r7_From.l2 : Nat → List (List Int) → Int → List Bool → List Int → Int → Int → Option (List Bool)
 | 0, _, _, _, _, _, _ => none
 | k + 1, x0, x2, x7, x8, x10, x11 => if 0 ≤ x10 then (if x10 < (x0.length : Int) then (if x11 < ((rd_L1 x0 x10).length : Int) then (if 0 ≤ x11 then (if (rd (rd_L1 x0 x10) x11) = x2 then (r7_From.l2 k x0 x2 x7 x8 x10 (wrap64 (x11 + 1))) else (if 0 ≤ (rd (rd_L1 x0 x10) x11) then (if (rd (rd_L1 x0 x10) x11) < (x7.length : Int) then (if (rdOf false x7 (rd (rd_L1 x0 x10) x11) = true) then (r7_From.l2 k x0 x2 x7 x8 x10 (wrap64 (x11 + 1))) else (if x8.length < 17592186044416 then (r7_From.l2 k x0 x2 (x7.set ((rd (rd_L1 x0 x10) x11) : Int).toNat true) (x8 ++ [rd (rd_L1 x0 x10) x11]) x10 (wrap64 (x11 + 1))) else (none))) else (none)) else (none))) else (none)) else (r7_From.l1 k x0 x2 x7 x8)) else (none)) else (none)
end
def r7_From.f (k : Nat) (l0 : List (List Int)) (l1 : List Int) (a2 : Int) : Option (List Bool) := if 0 ≤ (l0.length : Int) then (if ((l0.length : Int) : Int).toNat ≤ 281474976710656 then (r7_From.l0 k l0 l1 a2 (List.replicate ((l0.length : Int) : Int).toNat false) ([] : List Int) 0) else (none)) else (none)
end Go.Proofs.Ytjjedbcgkljdeaa.A
end
section
namespace Go.Proofs.Ytjjedbcgkljdeaa.A
open Go.RowKit Go.Proofs.YtjjedbcgkljdeaaW.PrintWords Go.Proofs.YtjjedbcgkljdeaaW.PrintLast Go.Proofs.YtjjedbcgkljdeaaW.PrintMore
set_option linter.unusedVariables false
set_option linter.unusedSimpArgs false
mutual
def r7_Turned.l0 : Nat → List (List Int) → List (List Int) → Int → Option ((List (List Int)))
 | 0, _, _, _ => none
 | k + 1, x0, x3, x4 => if x4 < (x0.length : Int) then (r7_Turned.l1 k x0 x3 x4 0) else (some x3)
def r7_Turned.l1 : Nat → List (List Int) → List (List Int) → Int → Int → Option ((List (List Int)))
 | 0, _, _, _, _ => none
 | k + 1, x0, x3, x4, x5 => if 0 ≤ x4 then (if x4 < (x0.length : Int) then (if x5 < ((rd_L1 x0 x4).length : Int) then (if 0 ≤ x5 then (if 0 ≤ (rd (rd_L1 x0 x4) x5) then (if (rd (rd_L1 x0 x4) x5) < (x3.length : Int) then (if (rd_L1 x3 (rd (rd_L1 x0 x4) x5)).length < 17592186044416 then (r7_Turned.l1 k x0 (x3.set ((rd (rd_L1 x0 x4) x5) : Int).toNat ((rd_L1 x3 (rd (rd_L1 x0 x4) x5)) ++ [x4])) x4 (wrap64 (x5 + 1))) else (none)) else (none)) else (none)) else (none)) else (r7_Turned.l0 k x0 x3 (wrap64 (x4 + 1)))) else (none)) else (none)
end
def r7_Turned.f (k : Nat) (l0 : List (List Int)) : Option ((List (List Int))) := if 0 ≤ (l0.length : Int) then (if ((l0.length : Int) : Int).toNat ≤ 11728124029610 then (r7_Turned.l0 k l0 (List.replicate ((l0.length : Int) : Int).toNat []) 0) else (none)) else (none)
def r7_exits.l0 : Nat → List (List Int) → List Int → Int → Option (List Int)
 | 0, _, _, _ => none
 | k + 1, x0, x3, x4 => if x4 < (x0.length : Int) then (if 0 ≤ x4 then (if ((rd_L1 x0 x4).length : Int) = 0 then (if x3.length < 17592186044416 then (r7_exits.l0 k x0 (x3 ++ [x4]) (wrap64 (x4 + 1))) else (none)) else (r7_exits.l0 k x0 x3 (wrap64 (x4 + 1)))) else (none)) else (some x3)
def r7_exits.f (k : Nat) (l0 : List (List Int)) : Option (List Int) := r7_exits.l0 k l0 ([] : List Int) 0
def r7_Reached.f (k : Nat) (l0 : List (List Int)) : Option (List Bool) := (r7_From.f k l0 (([0] : List Int)) (-1)).bind fun t181 => (some t181)
def r7_Ending.f (k : Nat) (l0 : List (List Int)) : Option (List Bool) := (r7_Turned.f k l0).bind fun t184 => ((r7_exits.f k l0).bind fun t187 => ((r7_From.f k t184 t187 (-1)).bind fun t190 => (some t190)))
end Go.Proofs.Ytjjedbcgkljdeaa.A
end
section
namespace Go.Proofs.Ytjjedbcgkljdeaa.A
open Go.RowKit Go.Proofs.YtjjedbcgkljdeaaW.PrintWords Go.Proofs.YtjjedbcgkljdeaaW.PrintLast Go.Proofs.YtjjedbcgkljdeaaW.PrintMore
set_option linter.unusedVariables false
set_option linter.unusedSimpArgs false
mutual
def r7_PostTable.l0 : Nat → List (List Int) → List Bool → List (List Int) → List (List Bool) → Int → Option ((List (List Bool)))
 | 0, _, _, _, _, _ => none
 | k + 1, x0, x3, x4, x5, x6 => if x6 < (x0.length : Int) then (if 0 ≤ (x0.length : Int) then (if ((x0.length : Int) : Int).toNat ≤ 281474976710656 then ((r7_exits.f k x0).bind fun t249 => ((r7_From.f k x4 t249 x6).bind fun t252 => (r7_PostTable.l1 k x0 x3 x4 x5 x6 (List.replicate ((x0.length : Int) : Int).toNat false) t252 0))) else (none)) else (none)) else (some x5)
def r7_PostTable.l1 : Nat → List (List Int) → List Bool → List (List Int) → List (List Bool) → Int → List Bool → List Bool → Int → Option ((List (List Bool)))
 | 0, _, _, _, _, _, _, _, _ => none
 | k + 1, x0, x3, x4, x5, x6, x7, x8, x9 => if x9 < (x0.length : Int) then (if 0 ≤ x9 then (if x9 < (x3.length : Int) then (if rdOf false x3 x9 = true then (if x9 < (x8.length : Int) then (if x9 < (x7.length : Int) then (r7_PostTable.l1 k x0 x3 x4 x5 x6 (x7.set (x9 : Int).toNat (!(rdOf false x8 x9))) x8 (wrap64 (x9 + 1))) else (none)) else (none)) else (if x9 < (x7.length : Int) then (r7_PostTable.l1 k x0 x3 x4 x5 x6 (x7.set (x9 : Int).toNat false) x8 (wrap64 (x9 + 1))) else (none))) else (none)) else (none)) else (if x5.length < 5864062014805 then (r7_PostTable.l0 k x0 x3 x4 (x5 ++ [x7]) (wrap64 (x6 + 1))) else (none))
end
def r7_PostTable.f (k : Nat) (l0 : List (List Int)) : Option ((List (List Bool))) := (r7_Ending.f k l0).bind fun t240 => ((r7_Turned.f k l0).bind fun t243 => (r7_PostTable.l0 k l0 t240 t243 ([] : List (List Bool)) 0))
mutual
def r7_Immediate.l0 : Nat → List (List Bool) → List Int → Int → Option (List Int)
 | 0, _, _, _ => none
 | k + 1, x0, x3, x4 => if x4 < (x0.length : Int) then (r7_Immediate.l1 k x0 x3 x4 (-1) 0) else (some x3)
def r7_Immediate.l1 : Nat → List (List Bool) → List Int → Int → Int → Int → Option (List Int)
 | 0, _, _, _, _, _ => none
 | k + 1, x0, x3, x4, x5, x6 => if x6 < (x0.length : Int) then (if x6 = x4 then (r7_Immediate.j2 k x0 x3 x4 x5 x6 true) else (if 0 ≤ x6 then (if 0 ≤ x4 then (if x4 < ((rd_L3 x0 x6).length : Int) then (r7_Immediate.j2 k x0 x3 x4 x5 x6 (!(rdOf false (rd_L3 x0 x6) x4))) else (none)) else (none)) else (none))) else (if x3.length < 17592186044416 then (r7_Immediate.l0 k x0 (x3 ++ [x5]) (wrap64 (x4 + 1))) else (none))
def r7_Immediate.j2 : Nat → List (List Bool) → List Int → Int → Int → Int → Bool → Option (List Int)
 | 0, _, _, _, _, _, _ => none
 | k + 1, x0, x3, x4, x5, x6, x33 => if x33 = true then (r7_Immediate.l1 k x0 x3 x4 x5 (wrap64 (x6 + 1))) else (r7_Immediate.l2 k x0 x3 x4 x5 x6 true 0)
def r7_Immediate.l2 : Nat → List (List Bool) → List Int → Int → Int → Int → Bool → Int → Option (List Int)
 | 0, _, _, _, _, _, _, _ => none
 | k + 1, x0, x3, x4, x5, x6, x7, x8 => if x8 < (x0.length : Int) then (if x7 = true then (if x8 = x4 then (r7_Immediate.l2 k x0 x3 x4 x5 x6 true (wrap64 (x8 + 1))) else (if 0 ≤ x8 then (if 0 ≤ x4 then (if x4 < ((rd_L3 x0 x8).length : Int) then (if (rdOf false (rd_L3 x0 x8) x4 = true) then (if 0 ≤ x6 then (if x6 < ((rd_L3 x0 x8).length : Int) then (r7_Immediate.l2 k x0 x3 x4 x5 x6 (rdOf false (rd_L3 x0 x8) x6) (wrap64 (x8 + 1))) else (none)) else (none)) else (r7_Immediate.l2 k x0 x3 x4 x5 x6 true (wrap64 (x8 + 1)))) else (none)) else (none)) else (none))) else (r7_Immediate.l2 k x0 x3 x4 x5 x6 false (wrap64 (x8 + 1)))) else (if x7 = true then (r7_Immediate.l1 k x0 x3 x4 x6 (wrap64 (x6 + 1))) else (r7_Immediate.l1 k x0 x3 x4 x5 (wrap64 (x6 + 1))))
end
def r7_Immediate.f (k : Nat) (l0 : List (List Bool)) : Option (List Int) := r7_Immediate.l0 k l0 ([] : List Int) 0
end Go.Proofs.Ytjjedbcgkljdeaa.A
end
section
namespace Go.Proofs.Ytjjedbcgkljdeaa.A
open Go.RowKit Go.Proofs.YtjjedbcgkljdeaaW.PrintWords Go.Proofs.YtjjedbcgkljdeaaW.PrintLast Go.Proofs.YtjjedbcgkljdeaaW.PrintMore
set_option linter.unusedVariables false
set_option linter.unusedSimpArgs false
def r5_SameInts.l0 : Nat → List Int → List Int → Int → Option (Bool)
 | 0, _, _, _ => none
 | k + 1, x0, x1, x5 => if x5 < (x0.length : Int) then (if 0 ≤ x5 then (if x5 < (x1.length : Int) then (if (rd x0 x5) = (rd x1 x5) then (r5_SameInts.l0 k x0 x1 (wrap64 (x5 + 1))) else (some false)) else (none)) else (none)) else (some true)
def r5_SameInts.f (k : Nat) (l0 : List Int) (l1 : List Int) : Option (Bool) := if (l0.length : Int) = (l1.length : Int) then (r5_SameInts.l0 k l0 l1 0) else (some false)
theorem r5_SameInts.mono_l : ∀ k, (∀ y0 y1 y2, LeO (r5_SameInts.l0 k y0 y1 y2) (r5_SameInts.l0 (k + 1) y0 y1 y2))
 | 0 => fun _ _ _ r h => by simp [r5_SameInts.l0] at h
 | k + 1 => by
  have ih0 := r5_SameInts.mono_l k
  ·intro y0 y1 y2
   unfold r5_SameInts.l0
   repeat' first
   | (with_reducible exact ih0 _ _ _)
   | (with_reducible exact LeO.refl _)
   | (with_reducible exact LeO.none _)
   | (with_reducible refine LeO.ite ?_ ?_)
   | (with_reducible refine LeO.bind ?_ (fun _ => ?_))
theorem r5_SameInts.mono : ∀ a0 a1 k, LeO (r5_SameInts.f k a0 a1) (r5_SameInts.f (k + 1) a0 a1) := by
 intro a0 a1 k
 have ih0 := r5_SameInts.mono_l k; unfold r5_SameInts.f
 repeat' first
   | (with_reducible exact ih0 _ _ _)
   | (with_reducible exact LeO.refl _)
   | (with_reducible exact LeO.none _)
   | (with_reducible refine LeO.ite ?_ ?_)
   | (with_reducible refine LeO.bind ?_ (fun _ => ?_))
set_option maxHeartbeats 8000000 in
set_option maxRecDepth 100000 in
theorem r5_SameInts.calls (k : Nat) (A0 : Option Addr) (c0 : Nat) (l0 : List Int) (A1 : Option Addr) (c1 : Nat) (l1 : List Int) (r : Bool) (w : World) (hr0 : Kd.C (Kd.int .i64) w A0 l0.length l0) (hc0 : l0.length ≤ c0) (hr1 : Kd.C (Kd.int .i64) w A1 l1.length l1) (hc1 : l1.length ≤ c1) (h : r5_SameInts.f k l0 l1 = some r) :
  Calls Try.prog 24 #[.slice A0 l0.length c0, .slice A1 l1.length c1] w fun e w' => e = .returned (.bool r) ∧ Drawn0 w w' := by
 have HR0 := Aside0.mk hr0; have HC0 := Aside0.mk hc0; clear hr0 hc0; have HR1 := Aside0.mk hr1; have HC1 := Aside0.mk hc1; clear hr1 hc1; have H : (if (l0.length : Int) = (l1.length : Int) then (r5_SameInts.l0 k l0 l1 0) else (some false)) = some r := h
 clear h; by_cases c3 : (l0.length : Int) = (l1.length : Int)
 ·rw [if_pos c3] at H; have c3b0 : ((l0.length : Int) == (l1.length : Int)) = true := beq_iff_eq.mpr c3
  have c3b1 : ((l0.length : Int) != (l1.length : Int)) = false := bne_eq_false_iff_eq.mpr c3
  have c3b2 : (l0.length == l1.length) = true := by first | simpa using c3 | (simp at c3 ⊢; omega)
  clear c3; have H' := Aside0.mk H
  clear H; go_enter Try.func24, Try.ntmps24
  go_wp2
  repeat (go_quiet (fail); try go_wp2)
  go_loopg [5] k (fun kq v5 w' => ∃ (x5_1 : Int), v5 = .int .i64 x5_1 ∧ Aside0 (r5_SameInts.l0 kq l0 l1 x5_1 = some r) ∧ Aside0 (kq ≤ k) ∧ Drawn0 w w')
  case atStart => exact ⟨(0), (by first | rfl | (simp; done) | (simp [*]; done)), H', ⟨Nat.le_refl _⟩, by repeat (first | exact Drawn0.refl _ | apply Drawn0.step)⟩
  case round =>
   clear H'; try clear c1
   try clear c2
   try clear p2
   try clear c3
   try clear c3b0
   try clear c3b1
   try clear c3b2
   obtain ⟨x5_1, rfl, HA, HK1, ⟨m1, rfl⟩⟩ := hrel; cases gk with
   | zero => exact absurd HA.out (by simp [r5_SameInts.l0])
   | succ k1 =>
    have H := HA.out; clear HA; simp only [r5_SameInts.l0] at H
    by_cases c4 : x5_1 < (l0.length : Int)
    ·rw [if_pos c4] at H; have c4b0 : decide (x5_1 < (l0.length : Int)) = true := decide_eq_true c4
     clear c4; by_cases c5 : 0 ≤ x5_1
     ·rw [if_pos c5] at H; have c5b0 : decide (0 ≤ x5_1) = true := decide_eq_true c5
      clear c5; by_cases c6 : x5_1 < (l1.length : Int)
      ·rw [if_pos c6] at H; have c6b0 : decide (x5_1 < (l1.length : Int)) = true := decide_eq_true c6
       clear c6; by_cases c7 : (rd l0 x5_1) = (rd l1 x5_1)
       ·rw [if_pos c7] at H; have c7b0 : ((rd l0 x5_1) == (rd l1 x5_1)) = true := beq_iff_eq.mpr c7
        have c7b1 : ((rd l0 x5_1) != (rd l1 x5_1)) = false := bne_eq_false_iff_eq.mpr c7
        clear c7; have H' := Aside0.mk H
        clear H; have p384 : 0 ≤ (x5_1 : Int) := of_decide_eq_true (by with_reducible assumption)
        have q384 : x5_1 < (l0.length : Int) := of_decide_eq_true (by with_reducible assumption)
        obtain ⟨ad384, e384, hx384_0⟩ := Kd.at_int HR0.out x5_1 p384 q384; cases e384; replace p384 := eq_true p384; replace q384 := eq_true q384; have p385 : 0 ≤ (x5_1 : Int) := of_decide_eq_true (by with_reducible assumption)
        have q385 : x5_1 < (l1.length : Int) := of_decide_eq_true (by with_reducible assumption)
        obtain ⟨ad385, e385, hx385_0⟩ := Kd.at_int HR1.out x5_1 p385 q385; cases e385; replace p385 := eq_true p385; replace q385 := eq_true q385; go_wp2
        repeat (go_quiet (fail); try go_wp2)
        go_roundg k1
        case measure => have := HK1.out; omega
        case rel => exact ⟨(wrap64 (x5_1 + 1)), (by first | rfl | (simp; done) | (simp [*]; done)), H', ⟨by have := HK1.out; omega⟩, by repeat (first | exact Drawn0.refl _ | apply Drawn0.step)⟩
       ·rw [if_neg c7] at H; have c7b0 : ((rd l0 x5_1) == (rd l1 x5_1)) = false := beq_eq_false_iff_ne.mpr c7
        have c7b1 : ((rd l0 x5_1) != (rd l1 x5_1)) = true := bne_iff_ne.mpr c7
        obtain rfl := Option.some.inj H; have p384 : 0 ≤ (x5_1 : Int) := of_decide_eq_true (by with_reducible assumption)
        have q384 : x5_1 < (l0.length : Int) := of_decide_eq_true (by with_reducible assumption)
        obtain ⟨ad384, e384, hx384_0⟩ := Kd.at_int HR0.out x5_1 p384 q384; cases e384; replace p384 := eq_true p384; replace q384 := eq_true q384; have p385 : 0 ≤ (x5_1 : Int) := of_decide_eq_true (by with_reducible assumption)
        have q385 : x5_1 < (l1.length : Int) := of_decide_eq_true (by with_reducible assumption)
        obtain ⟨ad385, e385, hx385_0⟩ := Kd.at_int HR1.out x5_1 p385 q385; cases e385; replace p385 := eq_true p385; replace q385 := eq_true q385; go_wp2
        repeat (go_quiet (fail); try go_wp2)
        go_ret
        exact ⟨by first | rfl | (simp; done) | (simp [*]; done), by repeat (first | exact Drawn0.refl _ | apply Drawn0.step)⟩
      ·rw [if_neg c6] at H; exact absurd H (by simp)
     ·rw [if_neg c5] at H; exact absurd H (by simp)
    ·rw [if_neg c4] at H; have c4b0 : decide (x5_1 < (l0.length : Int)) = false := decide_eq_false c4
     clear c4; obtain rfl := Option.some.inj H; go_wp2
     repeat (go_quiet (fail); try go_wp2)
     go_ret
     exact ⟨by first | rfl | (simp; done) | (simp [*]; done), by repeat (first | exact Drawn0.refl _ | apply Drawn0.step)⟩
 ·rw [if_neg c3] at H; have c3b0 : ((l0.length : Int) == (l1.length : Int)) = false := beq_eq_false_iff_ne.mpr c3
  have c3b1 : ((l0.length : Int) != (l1.length : Int)) = true := bne_iff_ne.mpr c3
  have c3b2 : (l0.length == l1.length) = false := by first | simpa using c3 | (simp at c3 ⊢; omega)
  obtain rfl := Option.some.inj H; go_enter Try.func24, Try.ntmps24
  go_wp2
  repeat (go_quiet (fail); try go_wp2)
  go_ret
  exact ⟨by first | rfl | (simp; done) | (simp [*]; done), by repeat (first | exact Drawn0.refl _ | apply Drawn0.step)⟩
end Go.Proofs.Ytjjedbcgkljdeaa.A
end
section
namespace Go.Proofs.Ytjjedbcgkljdeaa
open Go Go.RowKit Go.Shelf Go.Proofs.YtjjedbcgkljdeaaW.PrintWords Go.Proofs.YtjjedbcgkljdeaaW.PrintLast Go.Proofs.YtjjedbcgkljdeaaW.PrintMore Go.Proofs.Ytjjedbcgkljdeaa.A
theorem grownBy_set0 (W : World) (a : Addr) (v : Value) : W.grownBy (W.setCell a v) (some a.block) :=
 ⟨rfl, rfl, rfl, (KeepsWalks.setCell W _ v).size, fun k _ hk => Below.heap_setCell _ _ _ k (fun e => hk (by rw [e]))⟩
structure OutSt (w2 W : World) (N go : Nat) (vs : List Value) (ls : List (List Int)) : Prop where
 len : vs.length = ls.length
 top : W.heap[go]? = some (.cells vs.toArray 33 (0, 0))
 lt : go < N
 nw : N ≤ w2.heap.size
 own : ∀ i (h : i < vs.length), W.ownsRow N 3 1 (vs[i]) (ls.getD i []).length (nums .i64 (ls.getD i []))
 apart : ∀ i j (h : i < vs.length) (h' : j < vs.length), i ≠ j → (vs[i]).ownBlock ≠ none → (vs[i]).ownBlock ≠ (vs[j]).ownBlock
 os : W.os = w2.os
 tape : W.tape = w2.tape
 output : W.output = w2.output
 size : w2.heap.size ≤ W.heap.size
 same : ∀ k, k < N → k ≠ go → W.heap[k]? = w2.heap[k]?
theorem OutSt.ge {w2 W : World} {N go : Nat} {vs : List Value} {ls : List (List Int)} (h : OutSt w2 W N go vs ls) (i : Nat) (hi : i < vs.length) (k : Nat) (hk : (vs[i]).ownBlock = some k) : N ≤ k := own_base (h.own i hi) k hk
theorem OutSt.put {w2 W W1 : World} {N go : Nat} {vs : List Value} {ls : List (List Int)} (h : OutSt w2 W N go vs ls) (i : Nat) (hi : i < vs.length) {v1 : Value} {l1 : List Int} (hg : W.grownBy W1 (vs[i]).ownBlock)
  (ho : W1.ownsRow N 3 1 v1 l1.length (nums .i64 l1)) (hat : v1.ownBlock = (vs[i]).ownBlock ∨ v1.ownBlock = none ∨ ∃ b, v1.ownBlock = some b ∧ W.heap.size ≤ b) : OutSt w2 (W1.setCell ⟨go, i, none⟩ v1) N go (vs.set i v1) (ls.set i l1) := by
 have hgo : some go ≠ (vs[i]).ownBlock := fun e => by have := h.ge i hi go e.symm; have := h.lt; omega
 have hlt : ∀ j (hj : j < vs.length) k, (vs[j]).ownBlock = some k → k < W.heap.size := fun j hj k hk => by
  obtain ⟨cs, hc⟩ := own_typed (h.own j hj) k hk; exact (Array.getElem?_eq_some_iff.1 hc).1
 refine ⟨by simp [h.len], ?_, h.lt, h.nw, ?_, ?_, hg.os.trans h.os, hg.tape.trans h.tape, hg.output.trans h.output, Nat.le_trans h.size (Nat.le_trans hg.size (KeepsWalks.setCell W1 _ v1).size), ?_⟩
 ·have := blk_grown h.top hg hgo
  rw [blk_set this]; simp
 ·intro j hj'
  have hj : j < vs.length := by simpa using hj'
  by_cases e : j = i
  ·subst e; have hl : (ls.set j l1).getD j [] = l1 := by rw [List.getD_eq_getElem?_getD, List.getElem?_set_self (by rw [← h.len]; exact hj)]; rfl
   rw [List.getElem_set_self, hl]; exact own_setCell ho (fun e => by have e2 := own_base ho go e.symm; have := h.lt; omega) _
  ·have hl : (ls.set i l1).getD j [] = ls.getD j [] := by rw [List.getD_eq_getElem?_getD, List.getElem?_set_ne (fun q => e q.symm), ← List.getD_eq_getElem?_getD]
   rw [List.getElem_set_ne (fun q => e q.symm), hl]
   refine own_setCell ((h.own j hj).kept hg ?_) (fun e => by have := h.ge j hj go e.symm; have := h.lt; omega) _
   by_cases hn : (vs[j]).ownBlock = none
   ·exact .inl hn
   ·exact .inr (h.apart j i hj hi e hn)
 ·have key : ∀ j (hj : j < vs.length), j ≠ i → (vs[j]).ownBlock ≠ none → (vs[j]).ownBlock ≠ v1.ownBlock := by
   intro j hj e hn hq
   rcases hat with hat | hat | ⟨b, hat, hb⟩
   ·exact h.apart j i hj hi e hn (hq.trans hat)
   ·exact hn (hq.trans hat)
   ·have := hlt j hj b (hq.trans hat); omega
  intro j j' hjs hjs' hne hn
  have hj : j < vs.length := by simpa using hjs
  have hj' : j' < vs.length := by simpa using hjs'
  by_cases e : j = i
  ·subst e; rw [List.getElem_set_self] at hn ⊢
   rw [List.getElem_set_ne (fun q => hne q)]
   intro hq
   exact key j' hj' (fun q => hne q.symm) (fun q => hn (hq.trans q)) hq.symm
  ·rw [List.getElem_set_ne (fun q => e q.symm)] at hn ⊢
   by_cases e' : j' = i
   ·subst e'; rw [List.getElem_set_self]; exact key j hj e hn
   ·rw [List.getElem_set_ne (fun q => e' q.symm)]
    exact h.apart j j' hj hj' hne hn
 ·intro k hk hk2
  have hW : k < W.heap.size := Nat.lt_of_lt_of_le hk (Nat.le_trans h.nw h.size)
  have e1 : (W1.setCell ⟨go, i, none⟩ v1).heap[k]? = W1.heap[k]? := (grownBy_set0 W1 ⟨go, i, none⟩ v1).block k (Nat.lt_of_lt_of_le hW hg.size) (fun e => hk2 (by cases e; rfl))
  rw [e1, hg.block k hW (fun e => by have := h.ge i hi k e.symm; omega)]
  exact h.same k hk hk2
theorem OutSt.grown {w2 W W1 : World} {N go : Nat} {vs : List Value} {ls : List (List Int)} (h : OutSt w2 W N go vs ls) (hb : Below W.heap.size W W1) : OutSt w2 W1 N go vs ls := by
 have hs := Nat.le_trans h.nw h.size; refine ⟨h.len, blk_below h.top hb, h.lt, h.nw, fun i hi => pw_own_below (h.own i hi) hb, h.apart, hb.os.trans h.os, hb.tape.trans h.tape, hb.output.trans h.output, Nat.le_trans h.size hb.size, fun k hk hk2 => ?_⟩
 rw [hb.block k (by omega)]
 exact h.same k hk hk2
theorem OutSt.below {w w2 W : World} {N go : Nat} {vs : List Value} {ls : List (List Int)} (h : OutSt w2 W N go vs ls) (hb : Below w.heap.size w w2) (hw : w.heap.size ≤ go) : Below w.heap.size w W :=
 ⟨h.os.trans hb.os, h.tape.trans hb.tape, h.output.trans hb.output, Nat.le_trans hb.size h.size, fun k hk => (h.same k (by have := h.lt; omega) (by omega)).trans (hb.block k hk)⟩
theorem OutSt.cell {w2 W : World} {N go : Nat} {vs : List Value} {ls : List (List Int)} (h : OutSt w2 W N go vs ls) (i : Nat) (hi : i < vs.length) :
  ∃ A c, vs[i] = .slice A (ls.getD i []).length c ∧ W.cell? ⟨go, i, none⟩ = some (.slice A (ls.getD i []).length c) ∧ W.frozen? ⟨go, i, none⟩ = false := by
 obtain ⟨A, c, e⟩ := own_slice (h.own i hi); refine ⟨A, c, e, ?_, blk_frozen h.top i⟩
 rw [blk_cell h.top i, ← e]; simp [hi]
theorem OutSt.row {w2 W : World} {N go base : Nat} {vs : List Value} {ls : List (List Int)} (h : OutSt w2 W N go vs ls) (hb : base ≤ go) (hm : vs.length ≤ maxLen) :
  Kd.S (Kd.slice 3 (Kd.int .i64)) 33 W base (fun _ => True) (.slice (some ⟨go, 0, none⟩) vs.length vs.length) ls := by
 refine ⟨fun k => (vs.findIdx fun v => v.ownBlock == some k), fun _ _ => trivial, vs, ⟨?_, ?_⟩, ?_, ?_⟩
 ·simp [Kd.tag, Kd.slice, h.len]
 ·refine .inr ⟨go, vs.length, vs.toArray, by simp [h.len], hb, h.top, by simp [h.len], hm, by simp [Kd.tag, Kd.slice], ?_⟩
  simp [Kd.tag, Kd.slice, ← h.len]
 ·simp [Kd.tag, Kd.slice, h.len]
 ·rintro j ⟨p, q⟩ hj
  have hq := List.mem_zipIdx' (List.mem_of_getElem? hj); rw [List.getElem?_zipIdx, Nat.zero_add, Option.map_eq_some_iff] at hj; obtain ⟨p', hp, e⟩ := hj; obtain ⟨rfl, rfl⟩ := Prod.mk.inj e; have hjl : j < ls.length := (List.getElem?_eq_some_iff.1 hp).1
  have hjv : j < vs.length := by rw [h.len]; exact hjl
  have hg : ls.getD j [] = p' := by rw [List.getD_eq_getElem?_getD, hp]; rfl
  have ho := h.own j hjv; rw [hg] at ho; refine ⟨vs[j], ?_, Kd.R_of_own (ownsRow_le ho (Nat.le_trans hb (Nat.le_of_lt h.lt))) (fun k hk => ⟨⟨trivial, ?_⟩, ?_⟩)⟩
  ·show List.take 1 (List.drop (j * 1) vs) = _
   rw [Nat.mul_one, List.drop_eq_getElem_cons hjv]; rfl
  ·intro e
   have := h.ge j hjv k hk
   have hl := h.lt; simp [Value.ownBlock] at e
   omega
  ·show List.findIdx _ vs = j
   rw [List.findIdx_eq hjv]; refine ⟨by simp [hk], fun i hi => ?_⟩
   have := h.apart j i hjv (by omega) (by omega) (by rw [hk]; simp)
   rw [hk] at this; simpa using fun e => this e.symm
end Go.Proofs.Ytjjedbcgkljdeaa
end
section
namespace Go.Proofs.Ytjjedbcgkljdeaa.D
open Go Go.RowKit Go.Shelf Go.Proofs.YtjjedbcgkljdeaaW.PrintWords Go.Proofs.YtjjedbcgkljdeaaW.PrintLast Go.Proofs.YtjjedbcgkljdeaaW.PrintMore Go.Proofs.Ytjjedbcgkljdeaa Go.Proofs.Ytjjedbcgkljdeaa.A Go.Proofs.Ytjjedbcgkljdeaa.B
def frMark (out : List (List Int)) (a b : Int) : List (List Int) :=
 if (rd_L1 out a).length = 0 then out.set a.toNat (rd_L1 out a ++ [b])
 else if rd (rd_L1 out a) (((rd_L1 out a).length : Int) - 1) = b then out else out.set a.toNat (rd_L1 out a ++ [b])
def frIn (up : List Int) (b : Int) : Nat → List (List Int) → Int → Option (List (List Int))
 | 0, _, _ => none
 | k + 1, out, a => if 0 ≤ a then
   (if 0 ≤ b then if b < (up.length : Int) then
    (if a = rd up b then some out else
     (if a < (out.length : Int) then if (rd_L1 out a).length < 17592186044416 then if a < (up.length : Int) then frIn up b k (frMark out a b) (rd up a) else none else none else none))
   else none else none)
  else some out
def frP (k : Nat) (seen : List Bool) (up : List Int) (b : Int) : List Int → List (List Int) → Option (List (List Int))
 | [], out => some out
 | p :: ps, out => if 0 ≤ p then if p < (seen.length : Int) then
   (if rdOf false seen p = true then (frIn up b k out p).bind fun out1 => frP k seen up b ps out1 else frP k seen up b ps out)
  else none else none
def frB (k : Nat) (seen : List Bool) (up : List Int) (before : List (List Int)) : List Nat → List (List Int) → Option (List (List Int))
 | [], out => some out
 | b :: bs, out => if b < seen.length then
   (if rdOf false seen (b : Int) = true then if b < before.length then (frP k seen up (b : Int) (rd_L1 before (b : Int)) out).bind fun out1 => frB k seen up before bs out1 else none else frB k seen up before bs out)
  else none
def graph_Frontier.f (k : Nat) (l0 : List (List Int)) : Option (List (List Int) × Int) :=
 (graph_valid.f k l0).bind fun v => if v = true then
  if l0.length ≤ 5864062014805 then (graph_tree.f k l0 0).bind fun up => (graph_fromOpen.f k l0 [0]).bind fun seen => (graph_turned.f k l0).bind fun before =>
   (frB k seen up before (List.range l0.length) (List.replicate l0.length [])).bind fun out => some (out, 0)
  else none
 else some ([], 1)
theorem frIn_mono (up : List Int) (b : Int) : ∀ k out a, LeO (frIn up b k out a) (frIn up b (k + 1) out a)
 | 0 => fun _ _ r h => by simp [frIn] at h
 | k + 1 => by
  intro out a
  unfold frIn
  exact LeO.ite (LeO.ite (LeO.ite (LeO.ite (LeO.refl _) (LeO.ite (LeO.ite (LeO.ite (frIn_mono up b k _ _) (LeO.none _)) (LeO.none _)) (LeO.none _))) (LeO.none _)) (LeO.none _)) (LeO.refl _)
theorem frP_mono (k : Nat) (seen : List Bool) (up : List Int) (b : Int) : ∀ l out, LeO (frP k seen up b l out) (frP (k + 1) seen up b l out)
 | [] => fun _ => LeO.refl _
 | p :: ps => fun out => by
  unfold frP
  exact LeO.ite (LeO.ite (LeO.ite (LeO.bind (frIn_mono up b k _ _) fun _ => frP_mono k seen up b ps _) (frP_mono k seen up b ps _)) (LeO.none _)) (LeO.none _)
theorem frB_mono (k : Nat) (seen : List Bool) (up : List Int) (before : List (List Int)) : ∀ l out, LeO (frB k seen up before l out) (frB (k + 1) seen up before l out)
 | [] => fun _ => LeO.refl _
 | b :: bs => fun out => by
  unfold frB
  exact LeO.ite (LeO.ite (LeO.ite (LeO.bind (frP_mono k seen up _ _ _) fun _ => frB_mono k seen up before bs _) (LeO.none _)) (frB_mono k seen up before bs _)) (LeO.none _)
theorem graph_Frontier.mono : ∀ a0 k, LeO (graph_Frontier.f k a0) (graph_Frontier.f (k + 1) a0) := fun a0 k => by
 unfold graph_Frontier.f
 refine LeO.bind (graph_valid.mono _ _) fun _ => LeO.ite (LeO.ite (LeO.bind (graph_tree.mono _ _ _) fun _ => LeO.bind (graph_fromOpen.mono _ _ _) fun _ => LeO.bind (graph_turned.mono _ _) fun _ => LeO.bind (frB_mono k _ _ _ _ _) fun _ => LeO.refl _) (LeO.none _)) (LeO.refl _)
end Go.Proofs.Ytjjedbcgkljdeaa.D
end
section
namespace Go.Proofs.Ytjjedbcgkljdeaa.D
open Go Go.RowKit Go.Shelf Go.Proofs.YtjjedbcgkljdeaaW.PrintWords Go.Proofs.YtjjedbcgkljdeaaW.PrintLast Go.Proofs.YtjjedbcgkljdeaaW.PrintMore Go.Proofs.Ytjjedbcgkljdeaa Go.Proofs.Ytjjedbcgkljdeaa.A Go.Proofs.Ytjjedbcgkljdeaa.B
theorem append_num_n {P : Program} {ops : Array Oper} {rest : List Oper} {o : Oper} {a : Act} {Q : Exit → Act → World → Prop} {w0 W : World} (base : Nat) (hgd : o.guard = none) (s x : Operand) (t e : TypeId) (k : IntKind) (bytes : Nat)
  (ho : o.op = .call { callee := .builtin .append, args := #[s, x], argTypes := #[t, t] })
  (ht : P.underlying t = some (.slice e)) (hinfo : (P.info? e).map (fun i => (i.zero, i.size, i.bytes)) = some (some (.int k 0), 1, bytes)) (hb0 : 0 < bytes)
  (v : Value) (xs : List Int) (n : Nat) (hn : xs.length = n) (y : Int) (hs : a.eval s = v) (hx : a.eval x = .slice (some ⟨W.heap.size, 0, none⟩) 1 1)
  (HO : W.ownsRow base e 1 v n (nums k xs)) (HB : Below base w0 W) (hbase : base ≤ W.heap.size) (hl : (n + 1) * bytes ≤ 140737488355328)
  (h : ∀ v1 w1, w1.ownsRow base e 1 v1 (n + 1) (nums k (xs ++ [y])) → Below base w0 w1 → W.grownBy w1 v.ownBlock → (v1.ownBlock = v.ownBlock ∨ ∃ b, v1.ownBlock = some b ∧ W.heap.size ≤ b) → wpList P ops Q rest (a.put o.dst v1) w1) :
  wpList P ops Q (o :: rest) a (W.alloc (.cells #[.int k y] e)) := by
 subst hn; refine print_append_num (w0 := w0) base hgd s x t e k bytes ho ht hinfo hb0 v xs y hs hx HO HB hbase hl ?_
 intro v1 w1 ho hb hg hat
 rw [show (xs ++ [y]).length = xs.length + 1 by simp] at ho
 exact h v1 w1 ho hb hg hat
structure FrSt (w w2 W : World) (go : Nat) (vs : List Value) (ls : List (List Int)) (vU : Value) (up : List Int) (vS : Value) (seen : List Bool) (vB : Value) (before : List (List Int)) : Prop where
 o : OutSt w2 W w2.heap.size go vs ls
 wgo : w.heap.size ≤ go
 b2 : Below w.heap.size w w2
 up : Kd.R (Kd.int .i64) 3 w2 (go + 1) (fun k => go < k ∧ k < w2.heap.size) vU up
 seen : Kd.R Kd.bool 4 w2 (go + 1) (fun k => go < k ∧ k < w2.heap.size) vS seen
 before : Kd.R (Kd.slice 3 (Kd.int .i64)) 33 w2 (go + 1) (fun k => go < k ∧ k < w2.heap.size) vB before
theorem FrSt.upR {w w2 W : World} {go : Nat} {vs : List Value} {ls : List (List Int)} {vU : Value} {up : List Int} {vS : Value} {seen : List Bool} {vB : Value} {before : List (List Int)} (h : FrSt w w2 W go vs ls vU up vS seen vB before) :
  Kd.R (Kd.int .i64) 3 W (go + 1) (fun k => go < k ∧ k < w2.heap.size) vU up := Kd.R_move h.up (fun _ hk => h.o.same _ hk.2 (by omega))
theorem FrSt.seenR {w w2 W : World} {go : Nat} {vs : List Value} {ls : List (List Int)} {vU : Value} {up : List Int} {vS : Value} {seen : List Bool} {vB : Value} {before : List (List Int)} (h : FrSt w w2 W go vs ls vU up vS seen vB before) :
  Kd.R Kd.bool 4 W (go + 1) (fun k => go < k ∧ k < w2.heap.size) vS seen := Kd.R_move h.seen (fun _ hk => h.o.same _ hk.2 (by omega))
theorem R_between {α : Type} {d : Kd α} {e : Nat} {w1 w2 : World} {base b : Nat} {v : Value} {xs : List α} (h : d.R e w1 base (fun _ => True) v xs) (hb : b ≤ base) (hw : Below w1.heap.size w1 w2) : d.R e w2 b (fun k => b ≤ k ∧ k < w2.heap.size) v xs :=
 Kd.R_below (Kd.R_lower (Kd.R_mono (Kd.R_bound h) (fun _ hk => ⟨Nat.le_trans hb hk.2.1, Nat.lt_of_lt_of_le hk.2.2.1 hw.size⟩)) hb) hw
set_option maxHeartbeats 4000000 in
set_option maxRecDepth 100000 in
theorem graph_Frontier.calls (k : Nat) (A0 : Option Addr) (c0 : Nat) (l0 : List (List Int)) (r1 : List (List Int)) (r2 : Int) (w : World) (hr0 : Kd.C (Kd.slice 3 (Kd.int .i64)) w A0 l0.length l0) (hc0 : l0.length ≤ c0) (h : graph_Frontier.f k l0 = some (r1, r2)) :
  Calls Try.prog 15 #[.slice A0 l0.length c0] w fun e w' => ∃ v0_ : Value, e = .returned (.tuple #[v0_, .int .i64 r2]) ∧ Kd.S (Kd.slice 3 (Kd.int .i64)) 33 w' w.heap.size (fun _ => True) v0_ r1 ∧ Below w.heap.size w w' := by
 unfold graph_Frontier.f at h
 obtain ⟨v, hv, h⟩ := Option.bind_eq_some_iff.mp h; have HR0 := Aside0.mk hr0; have HC0 := Aside0.mk hc0; have HV := Aside0.mk hv; clear hr0 hc0 hv; cases v with
 | false =>
  simp only [Bool.false_eq_true, if_false, Option.some.injEq, Prod.mk.injEq] at h
  obtain ⟨rfl, rfl⟩ := h; go_enter Try.func15, Try.ntmps15
  go_wp2_with fail
  refine (graph_valid.calls k _ _ l0 false _ HR0.out HC0.out HV.out).mono ?_
  rintro e w1 ⟨rfl, ⟨nd, rfl⟩⟩
  go_wp2
  go_ret2
  exact ⟨_, rfl, ⟨fun _ => 0, Kd.R_nil _ _ _ _ _⟩, pw_below_drewN (Below.refl _ _) _⟩
 | true =>
  simp only [if_true] at h
  by_cases hlen : l0.length ≤ 5864062014805
  case neg => rw [if_neg hlen] at h; cases h
  rw [if_pos hlen] at h; obtain ⟨up, hup, h⟩ := Option.bind_eq_some_iff.mp h; obtain ⟨seen, hseen, h⟩ := Option.bind_eq_some_iff.mp h; obtain ⟨before, hbef, h⟩ := Option.bind_eq_some_iff.mp h; obtain ⟨out, hout, h⟩ := Option.bind_eq_some_iff.mp h; simp only [Option.some.injEq, Prod.mk.injEq] at h
  obtain ⟨rfl, rfl⟩ := h; have HU := Aside0.mk hup; have HSe := Aside0.mk hseen; have HBe := Aside0.mk hbef; have HO := Aside0.mk hout; clear hup hseen hbef hout; have hmk := print_make_of (P := Try.prog) 22 33 (.slice none 0 0) 24 Try.underlying22 A.info33 rfl (by decide) l0.length (by omega)
  go_enter Try.func15, Try.ntmps15
  go_wp2_with fail
  refine (graph_valid.calls k _ _ l0 true _ HR0.out HC0.out HV.out).mono ?_
  rintro e w1 ⟨rfl, ⟨nd, rfl⟩⟩
  go_upto_region 4 with (fail)
  clear hmk; obtain ⟨go, hgo⟩ : ∃ go, go = w.heap.size := ⟨_, rfl⟩; rw [← hgo]; refine gen_world (P := fun W => W.heap[go]? = some (.cells (List.replicate l0.length (.slice none 0 0)).toArray 33 (0, 0)) ∧ Below w.heap.size w W) ?_ ?_
  ·refine ⟨?_, (pw_below_drewN (Below.refl _ _) nd).alloc (Nat.le_refl _) _⟩
   have e0 : (madeCells #[(.slice none 0 0 : Value)] l0.length) = (List.replicate l0.length (.slice none 0 0)).toArray := by
    apply Array.ext_getElem?
    intro i
    simp only [madeCells, Array.getElem?_map, List.getElem?_toArray]
    by_cases hi : i < l0.length
    ·rw [Array.getElem?_eq_getElem (by simpa using hi), List.getElem?_eq_getElem (by simpa using hi)]; simp [Nat.mod_one]
    ·rw [Array.getElem?_eq_none (by simpa using hi), List.getElem?_eq_none (by simpa using hi)]; rfl
   rw [e0]; exact new_at _ hgo
  rintro W1 ⟨ht1, hb1⟩
  have HT1 := Aside0.mk ht1; have HB1 := Aside0.mk hb1; have HGo := Aside0.mk hgo; clear ht1 hb1 hgo; go_wp2_with fail
  refine (graph_tree.calls k _ _ l0 0 up _ (Kd.C_below HR0.out HB1.out) HC0.out HU.out).mono ?_
  rintro e W2 ⟨vU, rfl, hrU, hbU⟩
  have HRU := Aside0.mk hrU; have HBU := Aside0.mk hbU; clear hrU hbU; go_wp2_with fail
  have HB2 : Aside0 (Below w.heap.size w (W2.alloc (.cells #[.int .i64 0] 3))) := ⟨below_alloc (HB1.out.trans (HBU.out.mono HB1.out.size)) _⟩
  have hl1 : Kd.R (Kd.int .i64) 3 (W2.alloc (.cells #[.int .i64 0] 3)) W2.heap.size (fun _ => True) (.slice (some ⟨W2.heap.size, 0, none⟩) 1 1) [0] :=
   Kd.R_of_own ⟨rfl, .inr ⟨W2.heap.size, 1, _, rfl, Nat.le_refl _, new_at _ rfl, Nat.le_refl _, by decide, rfl, rfl⟩⟩ (fun _ _ => trivial)
  refine (graph_fromOpen.calls k _ _ l0 _ _ [0] seen _ (Kd.C_below HR0.out HB2.out) HC0.out (Kd.R_reads' hl1).2.2 (Nat.le_refl _) HSe.out).mono ?_
  clear hl1; rintro e W3 ⟨vS, rfl, hrS, hbS⟩
  have HRS := Aside0.mk hrS; have HBS := Aside0.mk hbS; have HB3 : Aside0 (Below w.heap.size w W3) := ⟨HB2.out.trans (HBS.out.mono HB2.out.size)⟩
  clear hrS hbS; go_wp2_with fail
  refine (graph_turned.calls k _ _ l0 before _ (Kd.C_below HR0.out HB3.out) HC0.out HBe.out).mono ?_
  rintro e w2 ⟨vB, rfl, hrB, hbB⟩
  have HRB := Aside0.mk (Kd.S_R hrB); have HBB := Aside0.mk hbB; have HB4 : Aside0 (Below w.heap.size w w2) := ⟨HB3.out.trans (HBB.out.mono HB3.out.size)⟩
  clear hrB hbB; have hbS' : Below W2.heap.size W2 W3 := (below_alloc (Below.refl _ _) _).trans (HBS.out.mono (by simp))
  have hF : FrSt w w2 w2 go (List.replicate l0.length (.slice none 0 0)) (List.replicate l0.length []) vU up vS seen vB before := by
   have hlt := blk_lt HT1.out; have s1 : W1.heap.size ≤ W2.heap.size := HBU.out.size
   have s2 := hbS'.size; have s3 := HBB.out.size; have hbB' : Below W2.heap.size W2 w2 := hbS'.trans (HBB.out.mono s2)
   have hsz : (W2.alloc (.cells #[.int .i64 0] 3)).heap.size = W2.heap.size + 1 := by simp
   refine ⟨⟨by simp, blk_below (blk_below HT1.out HBU.out) hbB', by omega, Nat.le_refl _, ?_, ?_, rfl, rfl, rfl, Nat.le_refl _, fun _ _ _ => rfl⟩, by rw [HGo.out]; exact Nat.le_refl _, HB4.out, ?_, ?_, ?_⟩
   ·intro i hi
    have hi' : i < l0.length := by simpa using hi
    have e1 : (List.replicate l0.length ([] : List Int)).getD i [] = [] := by rw [List.getD_eq_getElem?_getD]; simp [hi']
    rw [e1, List.getElem_replicate]; exact own_nil _ _ _ _
   ·intro i j hi hj _ hn
    rw [List.getElem_replicate] at hn; exact absurd rfl hn
   ·exact R_between HRU.out (by omega) hbB'
   ·exact R_between HRS.out (by omega) HBB.out
   ·exact R_between HRB.out (by omega) (Below.refl _ _)
  have HF := Aside0.mk hF; clear hF HB1 HB2 HB3 HBU HBS HBB HRU HRS HRB HT1 hbS'; obtain ⟨AU, cU, rfl⟩ := Kd.R_slice HF.out.up; obtain ⟨AS, cS, rfl⟩ := Kd.R_slice HF.out.seen; obtain ⟨AB, cB, rfl⟩ := Kd.R_slice HF.out.before; have HO0 : Aside0 (frB k seen up before (List.range' 0 l0.length) (List.replicate l0.length []) = some out) := ⟨by rw [← List.range_eq_range']; exact HO.out⟩
  have hmU := Kd.C_max (Kd.R_reads' HF.out.up).2.2; have hmS := Kd.C_max (Kd.R_reads' HF.out.seen).2.2; have hmB := Kd.C_max (Kd.R_reads' HF.out.before).2.2; clear HO HV HU HSe HBe h HR0 HC0; go_wp2
  go_loopw [28] (fun i wr => ∃ (j : Nat) (vs : List Value) (ls : List (List Int)), j ≤ l0.length ∧ i = .int .i64 j ∧ Aside0 (frB k seen up before (List.range' j (l0.length - j)) ls = some out) ∧ Aside0 (FrSt w w2 wr go vs ls (.slice AU up.length cU) up (.slice AS seen.length cS) seen (.slice AB before.length cB) before) ∧ Aside0 (ls.length = l0.length)) (fun i _ => l0.length - (intOf i).toNat)
  case atStart => exact ⟨0, _, _, by omega, rfl, HO0, HF, ⟨by simp⟩⟩
  case round =>
   obtain ⟨j, vs, ls, hj, rfl, HV, HF, HS⟩ := hrel; clear HO0; by_cases hlt : j < l0.length
   ·have hv := HV.out; rw [show l0.length - j = (l0.length - (j + 1)) + 1 by omega, List.range'_succ, frB] at hv
    by_cases hjs : j < seen.length
    case neg => rw [if_neg hjs] at hv; cases hv
    rw [if_pos hjs] at hv; obtain ⟨adS, eS, hcS⟩ := Kd.at_bool (Kd.R_reads' HF.out.seenR).2.2 (j : Int) (by omega) (by omega)
    cases eS; rw [Int.toNat_natCast] at hcS; by_cases hs : rdOf false seen (j : Int) = true
    ·rw [if_pos hs] at hv; rw [hs] at hcS; by_cases hjb : j < before.length
     case neg => rw [if_neg hjb] at hv; cases hv
     rw [if_pos hjb] at hv; obtain ⟨ls1, hp1, hp2⟩ := Option.bind_eq_some_iff.mp hv; obtain ⟨adB, _, _, eB, _⟩ := at_L1 (Kd.R_reads' HF.out.before).2.2 (j : Int) (by omega) (by omega)
     cases eB; obtain ⟨ce, _, ⟨vR, rfl, hRow⟩, hcc⟩ := Kd.R_get HF.out.before ([] : List Int) (j : Int) (by omega) (by omega)
     have hcB := hcc 0 _ rfl; rw [Nat.add_zero, show ((Kd.slice 3 (Kd.int .i64))).sz = 1 from rfl, Nat.mul_one, Int.toNat_natCast] at hcB; have hbk : go + 1 ≤ adB.block := Kd.R_base HF.out.before adB.block (by simp [Value.ownBlock])
     have hblk : (adB.add j).block = adB.block := by obtain ⟨gB, hgB⟩ := Kd.R_head HF.out.before; rw [hgB]; unfold Addr.add; split <;> rfl
     have hcB2 := (World.cell?_of_block (a := adB.add j) (HF.out.o.same _ (World.block_lt_of_cell? w2 _ hcB) (by rw [hblk]; omega))).trans hcB
     obtain ⟨Ar, cr, rfl⟩ := Kd.R_slice hRow; have HROW : Aside0 (Kd.R (Kd.int .i64) 3 w2 (go + 1) (fun k => go < k ∧ k < w2.heap.size) (.slice Ar (rd_L1 before (j : Int)).length cr) (rd_L1 before (j : Int))) := ⟨Kd.R_mono hRow (fun _ hk => hk.1)⟩
     change wr.cell? _ = some (.slice Ar (rd_L1 before (j : Int)).length cr) at hcB2
     have hP1 := Aside0.mk hp1; have hP2 := Aside0.mk hp2; have hmR := Kd.C_max (Kd.R_reads' HROW.out).2.2; clear hv HV hs hp1 hp2 hRow hcc hcB; generalize rd_L1 before (j : Int) = row at *
     go_wp2
     clear hcB2 hcS; go_loopw [41] (fun i w' => ∃ (q : Nat) (vs : List Value) (ls : List (List Int)), q ≤ row.length ∧ i = .int .i64 q ∧ Aside0 (frP k seen up (j : Int) (row.drop q) ls = some ls1) ∧ Aside0 (FrSt w w2 w' go vs ls (.slice AU up.length cU) up (.slice (some adS) seen.length cS) seen (.slice (some adB) before.length cB) before) ∧ Aside0 (ls.length = l0.length)) (fun i _ => row.length - (intOf i).toNat)
     case atStart => exact ⟨0, _, _, by omega, rfl, hP1, HF, HS⟩
     case round =>
      clear hP1 HF HS; obtain ⟨q, vs, ls, hq, rfl, HV, HF, HS⟩ := hrel; by_cases hlq : q < row.length
      ·have hv := HV.out; rw [List.drop_eq_getElem_cons hlq, frP] at hv; obtain ⟨p, hp⟩ : ∃ p, p = row[q] := ⟨_, rfl⟩; rw [← hp] at hv; by_cases h0 : 0 ≤ p
       case neg => rw [if_neg h0] at hv; cases hv
       rw [if_pos h0] at hv; by_cases h1 : p < (seen.length : Int)
       case neg => rw [if_neg h1] at hv; cases hv
       rw [if_pos h1] at hv; obtain ⟨adR, eR, hcR⟩ := Kd.at_int (Kd.R_reads' (Kd.R_move HROW.out (fun k hk => HF.out.o.same k hk.2 (by omega)))).2.2 (q : Int) (by omega) (by omega)
       cases eR; rw [Int.toNat_natCast, show rd row (q : Int) = p by unfold rd; rw [Int.toNat_natCast, List.getD_eq_getElem?_getD, List.getElem?_eq_getElem hlq, hp]; rfl] at hcR
       obtain ⟨adS2, eS, hcS⟩ := Kd.at_bool (Kd.R_reads' HF.out.seenR).2.2 p h0 h1; cases eS; obtain ⟨pn, rfl⟩ := Int.eq_ofNat_of_zero_le h0; rw [Int.toNat_natCast] at hcS; have hpn : pn < seen.length := by omega
       clear hp; by_cases hs : rdOf false seen (pn : Int) = true
       ·rw [if_pos hs] at hv; rw [hs] at hcS; obtain ⟨ls2, hi1, hi2⟩ := Option.bind_eq_some_iff.mp hv; have HI1 := Aside0.mk hi1; have HI2 := Aside0.mk hi2; clear hv HV hs hi1 hi2; go_wp2
        clear hcS hcR; go_loopg [11] k (fun kq v11 w' => ∃ (a : Int) (vs : List Value) (ls : List (List Int)), v11 = .int .i64 a ∧ Aside0 (frIn up (j : Int) kq ls a = some ls2) ∧ Aside0 (kq ≤ k) ∧ Aside0 (FrSt w w2 w' go vs ls (.slice AU up.length cU) up (.slice (some adS) seen.length cS) seen (.slice (some adB) before.length cB) before) ∧ Aside0 (ls.length = l0.length))
        case atStart => exact ⟨_, _, _, rfl, HI1, ⟨Nat.le_refl _⟩, HF, HS⟩
        case round =>
         clear HI1 HF HS; obtain ⟨a, vs, ls, rfl, HA, HK, HF, HS⟩ := hrel; cases gk with
         | zero => exact absurd HA.out (by simp [frIn])
         | succ k1 =>
          have hA := HA.out; rw [frIn] at hA; clear HA; by_cases ha0 : 0 ≤ a
          ·rw [if_pos ha0] at hA; rw [if_pos (by omega)] at hA
           by_cases hju : (j : Int) < (up.length : Int)
           case neg => rw [if_neg hju] at hA; cases hA
           rw [if_pos hju] at hA; obtain ⟨adU, eU, hcU⟩ := Kd.at_int (Kd.R_reads' HF.out.upR).2.2 (j : Int) (by omega) hju
           cases eU; rw [Int.toNat_natCast] at hcU; have hju2 : j < up.length := by omega
           obtain ⟨an, rfl⟩ := Int.eq_ofNat_of_zero_le ha0; by_cases hau : (an : Int) = rd up (j : Int)
           ·rw [if_pos hau] at hA; obtain rfl := Option.some.inj hA; rw [← hau] at hcU; clear hA hau; go_wp2
            go_roundw
            case rel => exact ⟨q + 1, _, _, by omega, by go_num, HI2, HF, HS⟩
            case measure => simp [intOf]; omega
           ·rw [if_neg hau] at hA; by_cases hal : (an : Int) < (ls.length : Int)
            case neg => rw [if_neg hal] at hA; cases hA
            rw [if_pos hal] at hA; by_cases hbd : (rd_L1 ls (an : Int)).length < 17592186044416
            case neg => rw [if_neg hbd] at hA; cases hA
            rw [if_pos hbd] at hA; by_cases hau2 : (an : Int) < (up.length : Int)
            case neg => rw [if_neg hau2] at hA; cases hA
            rw [if_pos hau2] at hA; have hav : an < vs.length := by rw [HF.out.o.len]; omega
            have hown := HF.out.o.own an hav; obtain ⟨Ah, ch, evs, hch, hfh⟩ := HF.out.o.cell an hav; rw [evs] at hown; obtain ⟨row, hrow⟩ : ∃ row, row = ls.getD an [] := ⟨_, rfl⟩; have hrow2 : rd_L1 ls (an : Int) = row := by rw [hrow]; rfl
            rw [← hrow] at hown hch evs
            rw [hrow2] at hbd; have HOWN := Aside0.mk hown; have hal2 : an < l0.length := by have := HS.out; omega
            have hau3 : an < up.length := by omega
            have hua : ((an : Int) == rd up (j : Int)) = false := beq_eq_false_iff_ne.mpr hau
            have hua2 : ((an : Int) != rd up (j : Int)) = true := bne_iff_ne.mpr hau
            have hA1 := Aside0.mk hA; have HEV := Aside0.mk evs; have HRW2 := Aside0.mk hrow2; clear hA hown hrow hrow2 evs; by_cases hr0 : row.length = 0
            ·have hfm : frMark ls (an : Int) (j : Int) = ls.set an (row ++ [(j : Int)]) := by unfold frMark; rw [HRW2.out, if_pos hr0]; rfl
             have hz : ((row.length : Int) == 0) = true := by rw [hr0]; rfl
             have HFM := Aside0.mk hfm; clear hfm hr0; go_upto_region 17 with ((with_reducible refine gate_builtin (b := .append) (xs := #[.tmp 89, .tmp 91]) rfl ?_); at_builtin; refine print_append_num (w0 := wr) w2.heap.size rfl (.tmp 89) (.tmp 91) 33 3 .i64 8 rfl Try.underlying33 A.info3 (by decide) _ row (j : Int) rfl (by first | (go_simp; done) | (go_simp; rfl)) HOWN.out (Below.refl _ _) HF.out.o.size (by omega) ?_; intro tv1 w1 ho hb hg hat; obtain ⟨At1, ct1, rfl⟩ := own_slice ho; have hb3 := blk_grown HF.out.o.top hg (fun e => by have := HF.out.o.ge an hav go (by rw [HEV.out]; exact e.symm); have := HF.out.o.lt; omega); have g3 : w1.cell? ⟨go, an, none⟩ = some (.slice Ah row.length ch) := (blk_cell hb3 an).trans (by rw [← HEV.out]; simp [hav]); have gf := blk_frozen hb3 an; have HO2 := Aside0.mk ho; have HG2 := Aside0.mk hg; have HAT := Aside0.mk hat; clear ho hb hg hat hb3)
             have HF2 : Aside0 (FrSt w w2 (w1.setCell ⟨go, an, none⟩ (.slice At1 (row.length + 1) ct1)) go (vs.set an (.slice At1 (row.length + 1) ct1)) (ls.set an (row ++ [(j : Int)])) (.slice (some adU) up.length cU) up (.slice (some adS) seen.length cS) seen (.slice (some adB) before.length cB) before) :=
              ⟨⟨HF.out.o.put an hav (l1 := row ++ [(j : Int)]) (by rw [HEV.out]; exact HG2.out) (by have h := HO2.out; rwa [show (row ++ [(j : Int)]).length = row.length + 1 by simp] at h ⊢) (by have h := HAT.out; rw [show (row ++ [(j : Int)]).length = row.length + 1 from by simp] at h; rw [HEV.out]; exact h.imp id .inr), HF.out.wgo, HF.out.b2, HF.out.up, HF.out.seen, HF.out.before⟩⟩
             refine gen_world (P := fun W => FrSt w w2 W go (vs.set an (.slice At1 (row.length + 1) ct1)) (ls.set an (row ++ [(j : Int)])) (.slice (some adU) up.length cU) up (.slice (some adS) seen.length cS) seen (.slice (some adB) before.length cB) before) HF2.out ?_
             rintro W3 hf3
             obtain ⟨adU2, eU2, hcU2⟩ := Kd.at_int (Kd.R_reads' hf3.upR).2.2 (an : Int) (by omega) hau2
             cases eU2; rw [Int.toNat_natCast] at hcU2; have HF3 := Aside0.mk hf3; have HA3 : Aside0 (frIn up (j : Int) k1 (ls.set an (row ++ [(j : Int)])) (rd up (an : Int)) = some ls2) := ⟨by rw [← HFM.out]; exact hA1.out⟩
             have HS3 : Aside0 ((ls.set an (row ++ [(j : Int)])).length = l0.length) := ⟨by rw [List.length_set]; exact HS.out⟩
             clear hf3 HF2 HF HO2 HG2 HAT hcU hch hfh; go_wp2
             go_roundg k1
             case measure => have := HK.out; omega
             case rel => exact ⟨_, _, _, rfl, HA3, ⟨by have := HK.out; omega⟩, HF3, HS3⟩
            ·obtain ⟨t0, x, rfl, hrd, _⟩ := last_of hr0; have hl0 : (t0 ++ [x]).length = t0.length + 1 := by simp
             obtain ⟨Ag, cg, e1, _, hrds⟩ := own_reads_of_le (d := (0 : Int)) (enc := Value.int .i64) (xs := t0 ++ [x]) HOWN.out; obtain ⟨ad, e2, hcx⟩ := hrds.at_ (t0.length : Int) (by omega) (by rw [hl0]; omega)
             injection e1 with e1a e1b e1c
             subst e1a; subst e1c; cases e2; rw [Int.toNat_natCast, show rdOf 0 (t0 ++ [x]) (t0.length : Int) = x by simp [rdOf]] at hcx
             rw [hl0] at hch hbd HEV HOWN
             have hz : (((t0.length + 1 : Nat) : Int) == 0) = false := beq_eq_false_iff_ne.mpr (by omega)
             by_cases hlast : rd (t0 ++ [x]) (((t0 ++ [x]).length : Int) - 1) = (j : Int)
             ·have hfm : frMark ls (an : Int) (j : Int) = ls := by unfold frMark; rw [HRW2.out, if_neg hr0, if_pos hlast]
              have hxj : x = (j : Int) := by rw [← hrd]; exact hlast
              subst hxj; obtain ⟨adU2, eU2, hcU2⟩ := Kd.at_int (Kd.R_reads' HF.out.upR).2.2 (an : Int) (by omega) hau2
              cases eU2; rw [Int.toNat_natCast] at hcU2; have HA3 : Aside0 (frIn up (j : Int) k1 ls (rd up (an : Int)) = some ls2) := ⟨by have h := hA1.out; rwa [hfm] at h⟩
              clear hfm hr0 hlast hrd; go_wp2
              go_roundg k1
              case measure => have := HK.out; omega
              case rel => exact ⟨_, _, _, rfl, HA3, ⟨by have := HK.out; omega⟩, HF, HS⟩
             ·have hxj : (x == (j : Int)) = false := beq_eq_false_iff_ne.mpr (fun e => hlast (by rw [hrd]; exact e))
              have hxj2 : (x != (j : Int)) = true := bne_iff_ne.mpr (fun e => hlast (by rw [hrd]; exact e))
              have hfm : frMark ls (an : Int) (j : Int) = ls.set an (t0 ++ [x] ++ [(j : Int)]) := by unfold frMark; rw [HRW2.out, if_neg hr0, if_neg hlast]; rfl
              have HFM := Aside0.mk hfm; have HL0 := Aside0.mk hl0; clear hfm hr0 hlast hrd hl0 hrds e1b; go_upto_region 17 with ((with_reducible refine gate_builtin (b := .append) (xs := #[.tmp 89, .tmp 91]) rfl ?_); at_builtin; refine append_num_n (w0 := wr) w2.heap.size rfl (.tmp 89) (.tmp 91) 33 3 .i64 8 rfl Try.underlying33 A.info3 (by decide) _ (t0 ++ [x]) (t0.length + 1) HL0.out (j : Int) rfl (by first | (go_simp; done) | (go_simp; rfl)) HOWN.out (Below.refl _ _) HF.out.o.size (by omega) ?_; intro tv1 w1 ho hb hg hat; obtain ⟨At1, ct1, rfl⟩ := own_slice ho; have hb3 := blk_grown HF.out.o.top hg (fun e => by have := HF.out.o.ge an hav go (by rw [HEV.out]; exact e.symm); have := HF.out.o.lt; omega); have g3 : w1.cell? ⟨go, an, none⟩ = some (.slice (some ad) (t0.length + 1) ch) := (blk_cell hb3 an).trans (by rw [← HEV.out]; simp [hav]); have gf := blk_frozen hb3 an; have HO2 := Aside0.mk ho; have HG2 := Aside0.mk hg; have HAT := Aside0.mk hat; clear ho hb hg hat hb3)
              have HF2 : Aside0 (FrSt w w2 (w1.setCell ⟨go, an, none⟩ (.slice At1 (t0.length + 1 + 1) ct1)) go (vs.set an (.slice At1 (t0.length + 1 + 1) ct1)) (ls.set an (t0 ++ [x] ++ [(j : Int)])) (.slice (some adU) up.length cU) up (.slice (some adS) seen.length cS) seen (.slice (some adB) before.length cB) before) :=
               ⟨⟨HF.out.o.put an hav (l1 := t0 ++ [x] ++ [(j : Int)]) (by rw [HEV.out]; exact HG2.out) (by rw [show (t0 ++ [x] ++ [(j : Int)]).length = t0.length + 1 + 1 by simp]; exact HO2.out) (by have h := HAT.out; rw [HEV.out]; exact h.imp id .inr), HF.out.wgo, HF.out.b2, HF.out.up, HF.out.seen, HF.out.before⟩⟩
              refine gen_world (P := fun W => FrSt w w2 W go (vs.set an (.slice At1 (t0.length + 1 + 1) ct1)) (ls.set an (t0 ++ [x] ++ [(j : Int)])) (.slice (some adU) up.length cU) up (.slice (some adS) seen.length cS) seen (.slice (some adB) before.length cB) before) HF2.out ?_
              rintro W3 hf3
              obtain ⟨adU2, eU2, hcU2⟩ := Kd.at_int (Kd.R_reads' hf3.upR).2.2 (an : Int) (by omega) hau2
              cases eU2; rw [Int.toNat_natCast] at hcU2; have HF3 := Aside0.mk hf3; have HA3 : Aside0 (frIn up (j : Int) k1 (ls.set an (t0 ++ [x] ++ [(j : Int)])) (rd up (an : Int)) = some ls2) := ⟨by rw [← HFM.out]; exact hA1.out⟩
              have HS3 : Aside0 ((ls.set an (t0 ++ [x] ++ [(j : Int)])).length = l0.length) := ⟨by rw [List.length_set]; exact HS.out⟩
              clear hf3 HF2 HF HO2 HG2 HAT hcU hch hfh; go_wp2
              go_roundg k1
              case measure => have := HK.out; omega
              case rel => exact ⟨_, _, _, rfl, HA3, ⟨by have := HK.out; omega⟩, HF3, HS3⟩
          ·rw [if_neg ha0] at hA; obtain rfl := Option.some.inj hA; have hd : decide (a ≥ 0) = false := decide_eq_false (by omega)
           have hd2 : decide (0 ≤ a) = false := decide_eq_false (by omega)
           clear hA; go_wp2
           go_roundw
           case rel => exact ⟨q + 1, _, _, by omega, by go_num, HI2, HF, HS⟩
           case measure => simp [intOf]; omega
       ·rw [if_neg hs] at hv; rw [Bool.eq_false_iff.mpr hs] at hcS; have HV2 := Aside0.mk hv; clear hv HV hs; go_wp2
        go_roundw
        case rel => exact ⟨q + 1, vs, ls, by omega, by go_num, HV2, HF, HS⟩
        case measure => simp [intOf]; omega
      ·obtain rfl : q = row.length := by omega
       have hv := HV.out; rw [List.drop_of_length_le (Nat.le_refl _), frP] at hv; obtain rfl := Option.some.inj hv; have hd : decide (((row.length : Nat) : Int) < ((row.length : Nat) : Int)) = false := decide_eq_false (by omega)
       clear hv HV; go_wp2
       go_roundw
       case rel => exact ⟨j + 1, vs, ls, by omega, by go_num, hP2, HF, HS⟩
       case measure => simp [intOf]; omega
    ·rw [if_neg hs] at hv; rw [Bool.eq_false_iff.mpr hs] at hcS; have HV2 := Aside0.mk hv; clear hv HV hs; go_wp2
     go_roundw
     case rel => exact ⟨j + 1, vs, ls, by omega, by go_num, HV2, HF, HS⟩
     case measure => simp [intOf]; omega
   ·obtain rfl : j = l0.length := by omega
    have hv := HV.out; rw [Nat.sub_self, List.range'_zero, frB] at hv; obtain rfl := Option.some.inj hv; have hd : decide (((l0.length : Nat) : Int) < ((l0.length : Nat) : Int)) = false := decide_eq_false (by omega)
    clear hv HV; go_wp2
    go_ret2
    have hr := HF.out.o.row (base := w.heap.size) HF.out.wgo (by rw [HF.out.o.len, HS.out]; unfold maxLen; omega)
    rw [show vs.length = l0.length by rw [HF.out.o.len, HS.out]] at hr
    exact ⟨_, rfl, hr, HF.out.o.below HF.out.b2 HF.out.wgo⟩
end Go.Proofs.Ytjjedbcgkljdeaa.D
end
section
namespace Go.Proofs.Ytjjedbcgkljdeaa
open Go.RowKit Go.Proofs.YtjjedbcgkljdeaaW.PrintWords Go.Proofs.YtjjedbcgkljdeaaW.PrintLast Go.Proofs.YtjjedbcgkljdeaaW.PrintMore Go.Proofs.Ytjjedbcgkljdeaa.A
def VisPost_loop {pb ps : Nat} (w : World) (B : Nat) (s' : List Bool) (t' : List Int) (e : Ending) (W' : World) : Prop :=
 e = .returned (.tuple #[]) ∧ ∃ tv', FromSt w W' B (.func (.func 53) #[] #[.pointer (some ⟨pb, 0, none⟩), .pointer (some ⟨ps, 0, none⟩)]) s' t' tv'
def Closed_loop {pb ps : Nat} (w : World) (P : Int → Bool) (len : Nat) : Prop := ∀ W1, Below w.heap.size w W1 → ∀ n : Int, 0 ≤ n → n < (len : Int) → Calls Try.prog 53 #[.int .i64 n, .pointer (some ⟨pb, 0, none⟩), .pointer (some ⟨ps, 0, none⟩)] W1 fun e W' => e = .returned (.bool (P n)) ∧ Drawn0 W1 W'
set_option maxHeartbeats 2000000 in
theorem visit_loop {pb ps : Nat} {w W : World} {B : Nat} {P : Int → Bool} {s : List Bool} {t : List Int} {tv : Value} (h : FromSt w W B (.func (.func 53) #[] #[.pointer (some ⟨pb, 0, none⟩), .pointer (some ⟨ps, 0, none⟩)]) s t tv) (m : Int) (s' : List Bool) (t' : List Int) (hv : visF P s t m = some (s', t')) (hP : Closed_loop w P s.length (pb := pb) (ps := ps)) :
  Calls Try.prog 69 #[.int .i64 m, .pointer (some ⟨B + 1 + 1, 0, none⟩), .pointer (some ⟨B, 0, none⟩), .pointer (some ⟨B + 1 + 1 + 1, 0, none⟩)] W (VisPost_loop w B s' t' (pb := pb) (ps := ps)) := by
 unfold visF at hv
 by_cases h0 : 0 ≤ m
 case neg => rw [if_neg h0] at hv; cases hv
 rw [if_pos h0] at hv; by_cases h1 : m < (s.length : Int)
 case neg => rw [if_neg h1] at hv; cases hv
 rw [if_pos h1] at hv; obtain ⟨k, rfl⟩ := Int.eq_ofNat_of_zero_le h0; have hk : k < s.length := by omega
 have hrd : rdOf false s (k : Int) = s.getD k false := by unfold rdOf; rw [Int.toNat_natCast]
 rw [hrd] at hv; have H := Aside0.mk h; have c2 : W.cell? ⟨B + 1 + 1, 0, none⟩ = some (.slice (some ⟨B + 1, 0, none⟩) s.length s.length) := (blk_cell h.c2 0).trans rfl
 have c0 : W.cell? ⟨B, 0, none⟩ = some (.func (.func 53) #[] #[.pointer (some ⟨pb, 0, none⟩), .pointer (some ⟨ps, 0, none⟩)]) := (blk_cell h.c0 0).trans rfl
 have c3 : W.cell? ⟨B + 1 + 1 + 1, 0, none⟩ = some tv := (blk_cell h.c3 0).trans rfl
 have c1 := h.cell1 k hk; have f1 := blk_frozen h.c1 k; clear h h0 hrd; by_cases hs : s.getD k false = true
 ·rw [if_pos hs] at hv; simp only [Option.some.injEq, Prod.mk.injEq] at hv
  obtain ⟨rfl, rfl⟩ := hv; rw [hs] at c1; clear hs; go_enter Try.func69, Try.ntmps69
  go_wp2
  go_end0
  exact ⟨rfl, _, H.out⟩
 ·rw [if_neg hs] at hv; have hs' : s.getD k false = false := Bool.eq_false_iff.mpr hs
  rw [hs'] at c1; clear hs hs'; have hp := hP W H.out.below (k : Int) (by omega) h1
  by_cases hPk : P (k : Int) = true
  ·rw [if_pos hPk] at hv; simp only [Option.some.injEq, Prod.mk.injEq] at hv
   obtain ⟨rfl, rfl⟩ := hv; rw [hPk] at hp; have HP := Aside0.mk hp; clear hp hP hPk; go_enter Try.func69, Try.ntmps69
   go_wp2_with fail
   refine HP.out.mono ?_
   rintro e w' ⟨rfl, ⟨nd, rfl⟩⟩
   go_wp2
   go_end0
   exact ⟨rfl, _, H.out.grown (pw_below_drewN (Below.refl _ _) nd)⟩
  ·rw [if_neg hPk] at hv; by_cases hl : t.length < 17592186044416
   case neg => rw [if_neg hl] at hv; cases hv
   rw [if_pos hl] at hv; simp only [Option.some.injEq, Prod.mk.injEq] at hv
   obtain ⟨rfl, rfl⟩ := hv; rw [Bool.eq_false_iff.mpr hPk] at hp; have HP := Aside0.mk hp; have HL := Aside0.mk hl; clear hp hP hPk hl; go_enter Try.func69, Try.ntmps69
   go_wp2_with fail
   refine HP.out.mono ?_
   rintro e w' ⟨rfl, ⟨nd, rfl⟩⟩
   have h2 := (H.out.grown (pw_below_drewN (Below.refl _ _) nd)).mark k; have H2 := Aside0.mk h2; clear h2; have hsz := blk_lt H2.out.c3; have hz := Aside0.mk hsz; clear hsz; go_wp2_with ((with_reducible refine gate_builtin (b := .append) (xs := #[.tmp 19, .tmp 21]) rfl ?_); at_builtin; refine print_append_num (w0 := (W.drewN nd).setCell ⟨B + 1, k, none⟩ (.bool true)) (B + 1 + 1 + 1 + 1) rfl (.tmp 19) (.tmp 21) 33 3 .i64 8 rfl Try.underlying33 info3 (by decide) tv t (k : Int) rfl (by first | (go_simp; done) | (go_simp; rfl)) H2.out.own (Below.refl _ _) hz.out (by have := HL.out; omega) ?_; intro tv1 w1 ho hb hg hat; obtain ⟨A1, cp1, rfl⟩ := own_slice ho; have hb3 := blk_grown H2.out.c3 hg (H2.out.ne 3 (by omega)); have g3 : w1.cell? ⟨B + 1 + 1 + 1, 0, none⟩ = some tv := (blk_cell hb3 0).trans rfl; have gf := blk_frozen hb3 0; have HO := Aside0.mk ho; have HG := Aside0.mk hg; clear ho hb hg hat hb3)
   go_end0
   exact ⟨rfl, _, H2.out.todo HG.out (H2.out.below.grown HG.out (by have := H2.out.hB; have := hz.out; omega) (fun j hj => by have := own_base H2.out.own _ hj; have := H2.out.hB; omega)) (by have h := HO.out; rwa [show (t ++ [(k : Int)]).length = t.length + 1 from by simp] at h ⊢)⟩
def FromPost_loop (w : World) (r : List Bool) (e : Ending) (w' : World) : Prop :=
 ∃ v0_ : Value, e = .returned v0_ ∧ Kd.R Kd.bool 4 w' w.heap.size (fun _ => True) v0_ r ∧ Below w.heap.size w w'
set_option maxHeartbeats 4000000 in
set_option maxRecDepth 100000 in
theorem from_loop {pb ps : Nat} (P : Int → Bool) (k : Nat) (A0 : Option Addr) (c0 : Nat) (l0 : List (List Int)) (A1 : Option Addr) (c1 : Nat) (l1 : List Int) (r : List Bool) (w : World) (hr0 : Kd.C (Kd.slice 3 (Kd.int .i64)) w A0 l0.length l0) (hr1 : Kd.C (Kd.int .i64) w A1 l1.length l1) (hP : Closed_loop w P l0.length (pb := pb) (ps := ps)) (h : fromF P k l0 l1 = some r) :
  Calls Try.prog 49 #[.slice A0 l0.length c0, .slice A1 l1.length c1, (.func (.func 53) #[] #[.pointer (some ⟨pb, 0, none⟩), .pointer (some ⟨ps, 0, none⟩)])] w (FromPost_loop w r) := by
 unfold fromF at h
 by_cases hlen : l0.length ≤ 281474976710656
 case neg => rw [if_neg hlen] at h; cases h
 rw [if_pos hlen] at h; replace h := Option.bind_eq_some_iff.mp h; obtain ⟨⟨s1, t1⟩, h1, h2⟩ := h; have HR0 := Aside0.mk hr0; have HR1 := Aside0.mk hr1; have HP := Aside0.mk hP; have H1 := Aside0.mk h1; have H2 : Aside0 (runF P l0 k s1 t1 = some r) := ⟨h2⟩
 have hm1 : l1.length ≤ 9223372036854775807 := Kd.C_max hr1
 clear hr0 hr1 hP h1 h2; have hmf : ∀ (fn : Fn) (first cap : Array Value) (w : World), (Instr.makeFunc fn first cap).run Try.prog w = .ok (.func fn first cap) w := fun _ _ _ _ => rfl
 have hmk := print_make_of (P := Try.prog) 46 4 (.bool false) 1 Try.underlying46 info4 rfl (by decide) l0.length (by omega)
 go_enter Try.func49, Try.ntmps49
 go_wp2
 clear hmf hmk; refine gen_world (P := fun W => FromSt w W w.heap.size (.func (.func 53) #[] #[.pointer (some ⟨pb, 0, none⟩), .pointer (some ⟨ps, 0, none⟩)]) (List.replicate l0.length false) [] (.slice none 0 0)) ?_ ?_
 ·have e0 : (madeCells #[.bool false] l0.length) = bA (List.replicate l0.length false) := by
   apply Array.ext_getElem?
   intro i
   rw [bA_get]; simp only [madeCells, Array.getElem?_map]
   by_cases hi : i < l0.length
   ·rw [Array.getElem?_eq_getElem (by simpa using hi), List.getElem?_eq_getElem (by simpa using hi)]; simp [Nat.mod_one]
   ·rw [Array.getElem?_eq_none (by simpa using hi), List.getElem?_eq_none (by simpa using hi)]; rfl
  rw [e0]; refine ⟨?_, Nat.le_refl _, ?_, ?_, ?_, ?_, ?_⟩
  ·repeat (first | exact Below.refl _ _ | refine below_alloc ?_ _ | refine Below.setCell ?_ (by simp) _)
  ·repeat (first | exact new_at _ (by simp) | refine blk_alloc ?_ _ | refine blk_far ?_ (by simp) _)
  ·repeat (first | exact new_at _ (by simp) | refine blk_alloc ?_ _ | refine blk_far ?_ (by simp) _)
  ·rw [List.length_replicate]; refine blk_alloc (new_at _ ?_) _; first | rfl | simp
  ·exact new_at _ (by simp)
  ·exact own_nil _ _ _ _
 rintro W hF
 obtain ⟨B, hB⟩ : ∃ B, B = w.heap.size := ⟨_, rfl⟩; rw [← hB] at hF ⊢
 have HF := Aside0.mk hF; have HBw := Aside0.mk hB; clear hF hB; go_loopw [21] (fun i wr => ∃ (j : Nat) (s : List Bool) (t : List Int) (tv : Value), j ≤ l1.length ∧ i = .int .i64 j ∧ Aside0 (visL P (l1.drop j) s t = some (s1, t1)) ∧ Aside0 (FromSt w wr B (.func (.func 53) #[] #[.pointer (some ⟨pb, 0, none⟩), .pointer (some ⟨ps, 0, none⟩)]) s t tv) ∧ Aside0 (s.length = l0.length)) (fun i _ => l1.length - (intOf i).toNat)
 case atStart => exact ⟨0, _, _, _, by omega, rfl, ⟨H1.out⟩, HF, ⟨List.length_replicate ..⟩⟩
 case round =>
  obtain ⟨j, s, t, tv, hj, rfl, HV, HF, HS⟩ := hrel; by_cases hlt : j < l1.length
  ·obtain ⟨ad, e, hx⟩ := Kd.at_int HR1.out (j : Int) (by omega) (by omega)
   cases e; rw [Int.toNat_natCast] at hx; have hx2 := (HF.out.below.cell (World.block_lt_of_cell? w _ hx)).trans hx; clear hx; have hv := HV.out; rw [List.drop_eq_getElem_cons hlt, visL] at hv; have hrd : rd l1 (j : Int) = l1[j] := by unfold rd; rw [Int.toNat_natCast, List.getD_eq_getElem?_getD, List.getElem?_eq_getElem hlt]; rfl
   rw [hrd] at hx2; obtain ⟨⟨s2, t2⟩, hv1, hv2⟩ := Option.bind_eq_some_iff.mp hv; obtain ⟨m, hm⟩ : ∃ m, m = l1[j] := ⟨_, rfl⟩; rw [← hm] at hx2 hv1
   have HM := Aside0.mk hm; have HV1 := Aside0.mk hv1; have HV2 := Aside0.mk hv2; clear hv hrd hv1 hv2 hm HV; go_wp2_with fail
   refine (visit_loop HF.out m s2 t2 HV1.out (by rw [HS.out]; exact HP.out)).mono ?_
   rintro e W' ⟨rfl, tv', hF2⟩
   have HF2 := Aside0.mk hF2; clear hF2; go_wp2
   go_roundw
   case rel => exact ⟨j + 1, s2, t2, tv', by omega, by go_num, HV2, HF2, ⟨by rw [visF_len HV1.out, HS.out]⟩⟩
   case measure => simp [intOf]; omega
  ·obtain rfl : j = l1.length := by omega
   have hv := HV.out; rw [List.drop_of_length_le (Nat.le_refl _), visL] at hv; simp only [Option.some.injEq, Prod.mk.injEq] at hv
   obtain ⟨rfl, rfl⟩ := hv; clear HV; have hd : decide (((l1.length : Nat) : Int) < ((l1.length : Nat) : Int)) = false := decide_eq_false (by omega)
   go_wp2
   go_loopg [] k (fun kq w' => ∃ (s : List Bool) (t : List Int) (tv : Value), Aside0 (runF P l0 kq s t = some r) ∧ Aside0 (kq ≤ k) ∧ Aside0 (FromSt w w' B (.func (.func 53) #[] #[.pointer (some ⟨pb, 0, none⟩), .pointer (some ⟨ps, 0, none⟩)]) s t tv) ∧ Aside0 (s.length = l0.length))
   case atStart => exact ⟨_, _, _, H2, ⟨Nat.le_refl _⟩, HF, HS⟩
   case round =>
    clear HF HS H2 H1; obtain ⟨s, t, tv, HA, HK, HF, HS⟩ := hrel; cases gk with
    | zero => exact absurd HA.out (by simp [runF])
    | succ k1 =>
     obtain ⟨A, c, rfl⟩ := own_slice HF.out.own; have hb3 := HF.out.c3; have g3 : wr.cell? ⟨B + 1 + 1 + 1, 0, none⟩ = some (.slice A t.length c) := (blk_cell hb3 0).trans rfl
     have gf3 := blk_frozen hb3 0; have hA := HA.out; rw [runF] at hA; by_cases ht : t.length = 0
     ·rw [if_pos ht] at hA; obtain rfl := Option.some.inj hA; obtain rfl := List.eq_nil_of_length_eq_zero ht; have g2 : wr.cell? ⟨B + 1 + 1, 0, none⟩ = some (.slice (some ⟨B + 1, 0, none⟩) s.length s.length) := (blk_cell HF.out.c2 0).trans rfl
      clear hA ht hb3; go_wp2
      go_ret
      exact ⟨_, rfl, HF.out.row (by have := HS.out; unfold maxLen; omega), HF.out.below⟩
     ·rw [if_neg ht] at hA; obtain ⟨t0, x, rfl, hrd, htk⟩ := last_of ht; rw [hrd, htk] at hA; clear hrd htk ht; by_cases hx0 : 0 ≤ x
      case neg => rw [if_neg hx0] at hA; cases hA
      rw [if_pos hx0] at hA; by_cases hx1 : x < (l0.length : Int)
      case neg => rw [if_neg hx1] at hA; cases hA
      rw [if_pos hx1] at hA; obtain ⟨⟨s2, t2⟩, hv1, hv2⟩ := Option.bind_eq_some_iff.mp hA; have HV1 := Aside0.mk hv1; have HV2 := Aside0.mk hv2; clear hA hv1 hv2 HA; have hlen : (t0 ++ [x]).length = t0.length + 1 := by simp
      obtain ⟨Ag, cg, e1, hle, hrd⟩ := own_reads_of_le (d := (0 : Int)) (enc := Value.int .i64) (xs := t0 ++ [x]) HF.out.own; have hmx : t0.length + 1 ≤ 9223372036854775807 := by have := hrd.2.1; omega
      obtain ⟨ad, e2, hcx⟩ := hrd.at_ (t0.length : Int) (by omega) (by omega)
      injection e1 with e1a e1b e1c
      subst e1a; subst e1c; cases e2; rw [Int.toNat_natCast, show rdOf (0 : Int) (t0 ++ [x]) (t0.length : Int) = x from by unfold rdOf; rw [Int.toNat_natCast]; simp] at hcx
      obtain ⟨i3, hi3, _⟩ := info_parts info3; have hcut := cut_to (P := Try.prog) 33 3 .i64 Try.underlying33 hi3 (some ad) (t0.length + 1) c (t0.length : Int) (by omega) (by omega) (by omega)
      rw [Int.toNat_natCast] at hcut; rw [hlen] at g3 hle
      clear hrd hlen e1b; go_upto_region 12 with (fail)
      refine gen_world (P := fun W => FromSt w W B (.func (.func 53) #[] #[.pointer (some ⟨pb, 0, none⟩), .pointer (some ⟨ps, 0, none⟩)]) s t0 (.slice (some ad) t0.length c)) ?_ ?_
      ·have ho := own_take HF.out.own (m := t0.length) (by simp)
       rw [Nat.mul_one] at ho; have e3 : (nums .i64 (t0 ++ [x])).take t0.length = nums .i64 t0 := by simp [nums]
       rw [e3] at ho; exact HF.out.todo (grown_of_below (Below.refl _ _) _) HF.out.below ho
      rintro W2 hF2
      have HF2 := Aside0.mk hF2; clear hF2 HF hcut hcx g3 gf3 hb3 hle hmx; obtain ⟨ad0, Ar, cr, e0, hxg, hlg, hig⟩ := at_L1 HR0.out x hx0 hx1; cases e0; have hxg2 := (HF2.out.below.cell (World.block_lt_of_cell? w _ hxg)).trans hxg; have HRr := Aside0.mk hig; clear hxg hlg hig; obtain ⟨row, hrow⟩ : ∃ row, row = rd_L1 l0 x := ⟨_, rfl⟩; rw [← hrow] at hxg2 HRr HV1
      have HROW := Aside0.mk hrow; clear hrow; have hmr : row.length ≤ 9223372036854775807 := Kd.C_max HRr.out
      go_wp2
      go_loopw [48] (fun i wr => ∃ (j : Nat) (s : List Bool) (t : List Int) (tv : Value), j ≤ row.length ∧ i = .int .i64 j ∧ Aside0 (visL P (row.drop j) s t = some (s2, t2)) ∧ Aside0 (FromSt w wr B (.func (.func 53) #[] #[.pointer (some ⟨pb, 0, none⟩), .pointer (some ⟨ps, 0, none⟩)]) s t tv) ∧ Aside0 (s.length = l0.length)) (fun i _ => row.length - (intOf i).toNat)
      case atStart => exact ⟨0, _, _, _, by omega, rfl, ⟨HV1.out⟩, HF2, HS⟩
      case round =>
       clear HF2 HS HV1; obtain ⟨j, s3, t3, tv3, hj, rfl, HV, HF, HS⟩ := hrel; by_cases hlt : j < row.length
       ·obtain ⟨ad4, e, hx⟩ := Kd.at_int HRr.out (j : Int) (by omega) (by omega)
        cases e; rw [Int.toNat_natCast] at hx; have hx2 := (HF.out.below.cell (World.block_lt_of_cell? w _ hx)).trans hx; clear hx; have hv := HV.out; rw [List.drop_eq_getElem_cons hlt, visL] at hv; have hrd : rd row (j : Int) = row[j] := by unfold rd; rw [Int.toNat_natCast, List.getD_eq_getElem?_getD, List.getElem?_eq_getElem hlt]; rfl
        rw [hrd] at hx2; obtain ⟨⟨s4, t4⟩, hv1, hv2⟩ := Option.bind_eq_some_iff.mp hv; obtain ⟨m, hm⟩ : ∃ m, m = row[j] := ⟨_, rfl⟩; rw [← hm] at hx2 hv1
        have HV1 := Aside0.mk hv1; have HV3 := Aside0.mk hv2; clear hv hrd hv1 hv2 hm HV; go_wp2_with fail
        refine (visit_loop HF.out m s4 t4 HV1.out (by rw [HS.out]; exact HP.out)).mono ?_
        rintro e W' ⟨rfl, tv', hF2⟩
        have HF2 := Aside0.mk hF2; clear hF2; go_wp2
        go_roundw
        case rel => exact ⟨j + 1, s4, t4, tv', by omega, by go_num, HV3, HF2, ⟨by rw [visF_len HV1.out, HS.out]⟩⟩
        case measure => simp [intOf]; omega
       ·obtain rfl : j = row.length := by omega
        have hv := HV.out; rw [List.drop_of_length_le (Nat.le_refl _), visL] at hv; simp only [Option.some.injEq, Prod.mk.injEq] at hv
        obtain ⟨rfl, rfl⟩ := hv; clear HV; have hd : decide (((row.length : Nat) : Int) < ((row.length : Nat) : Int)) = false := decide_eq_false (by omega)
        go_wp2
        go_roundg k1
        case measure => have := HK.out; omega
        case rel => exact ⟨_, _, _, HV2, ⟨by have := HK.out; omega⟩, HF, HS⟩
end Go.Proofs.Ytjjedbcgkljdeaa
end
section
namespace Go.Proofs.Ytjjedbcgkljdeaa.D
open Go Go.RowKit Go.Shelf Go.Proofs.YtjjedbcgkljdeaaW.PrintWords Go.Proofs.YtjjedbcgkljdeaaW.PrintLast Go.Proofs.YtjjedbcgkljdeaaW.PrintMore Go.Proofs.Ytjjedbcgkljdeaa Go.Proofs.Ytjjedbcgkljdeaa.A Go.Proofs.Ytjjedbcgkljdeaa.B
def lpP (seen : List Bool) (b : Int) (n : Int) : Bool := if n = b then true else !rdOf false seen n
def lpB (k : Nat) (seen : List Bool) (before backs : List (List Int)) : List Nat → List (List Int) → Option (List (List Int))
 | [], out => some out
 | b :: bs, out => if (rd_L1 backs (b : Int)).length = 0 then lpB k seen before backs bs out else
   (fromF (lpP seen (b : Int)) k before (rd_L1 backs (b : Int))).bind fun inn => if b < inn.length then (graph_list.f k (inn.set b true)).bind fun r => if b < out.length then lpB k seen before backs bs (out.set b r) else none else none
def graph_Loops.f (k : Nat) (l0 : List (List Int)) : Option (List (List Int) × Int) :=
 (graph_valid.f k l0).bind fun v => if v = true then
  if l0.length ≤ 5864062014805 then (graph_fromOpen.f k l0 [0]).bind fun seen => (graph_turned.f k l0).bind fun before => (graph_backs.f k l0).bind fun backs =>
   if before.length ≤ seen.length then (lpB k seen before backs (List.range backs.length) (List.replicate l0.length [])).bind fun out => some (out, 0) else none
  else none
 else some ([], 1)
theorem lpB_mono (k : Nat) (seen : List Bool) (before backs : List (List Int)) : ∀ l out, LeO (lpB k seen before backs l out) (lpB (k + 1) seen before backs l out)
 | [] => fun _ => LeO.refl _
 | b :: bs => fun out => by
  unfold lpB
  exact LeO.ite (lpB_mono k seen before backs bs _) (LeO.bind (fromF_mono _ _ _ k) fun _ => LeO.ite (LeO.bind (graph_list.mono _ k) fun _ => LeO.ite (lpB_mono k seen before backs bs _) (LeO.none _)) (LeO.none _))
theorem graph_Loops.mono : ∀ a0 k, LeO (graph_Loops.f k a0) (graph_Loops.f (k + 1) a0) := fun a0 k => by
 unfold graph_Loops.f
 refine LeO.bind (graph_valid.mono _ _) fun _ => LeO.ite (LeO.ite (LeO.bind (graph_fromOpen.mono _ _ _) fun _ => LeO.bind (graph_turned.mono _ _) fun _ => LeO.bind (graph_backs.mono _ _) fun _ => LeO.ite (LeO.bind (lpB_mono k _ _ _ _ _) fun _ => LeO.refl _) (LeO.none _)) (LeO.none _)) (LeO.refl _)
theorem loop_closed {base : Nat} {ok : Nat → Prop} (w : World) (pb ps : Nat) (b : Nat) (A : Option Addr) (c : Nat) (seen : List Bool) (hb : w.heap[pb]? = some (.cells #[.int .i64 (b : Int)] 3 (0, 0)))
  (hs : w.heap[ps]? = some (.cells #[.slice A seen.length c] 46 (0, 0))) (hr : Kd.R Kd.bool 4 w base ok (.slice A seen.length c) seen) (len : Nat) (hlen : len ≤ seen.length) : Closed_loop w (lpP seen (b : Int)) len (pb := pb) (ps := ps) := by
 intro W1 hbl n hn0 hn1
 have c1 : W1.cell? ⟨pb, 0, none⟩ = some (.int .i64 (b : Int)) := (blk_cell (blk_below hb hbl) 0).trans rfl
 have c2 : W1.cell? ⟨ps, 0, none⟩ = some (.slice A seen.length c) := (blk_cell (blk_below hs hbl) 0).trans rfl
 obtain ⟨adS, eS, hcS⟩ := Kd.at_bool (Kd.R_reads' (Kd.R_below hr hbl)).2.2 n hn0 (by omega)
 cases eS; obtain ⟨m, rfl⟩ := Int.eq_ofNat_of_zero_le hn0; have hm : m < seen.length := by omega
 rw [Int.toNat_natCast] at hcS; have hmS := Kd.C_max (Kd.R_reads' hr).2.2; clear hb hs hr hbl; by_cases hnb : (m : Int) = (b : Int)
 ·have e1 : ((m : Int) == (b : Int)) = true := beq_iff_eq.mpr hnb
  have e2 : lpP seen (b : Int) (m : Int) = true := by unfold lpP; rw [if_pos hnb]
  rw [e2]; clear hnb e2; go_enter Try.func53, Try.ntmps53
  go_wp2
  go_ret
  exact ⟨by simp, Drawn0.refl _⟩
 ·have e1 : ((m : Int) == (b : Int)) = false := beq_eq_false_iff_ne.mpr hnb
  have e2 : lpP seen (b : Int) (m : Int) = !rdOf false seen (m : Int) := by unfold lpP; rw [if_neg hnb]
  rw [e2]; clear hnb e2; go_enter Try.func53, Try.ntmps53
  go_wp2
  go_ret
  exact ⟨by simp, Drawn0.refl _⟩
theorem boxS_op {ops : Array Oper} {Q : Exit → Act → World → Prop} {rest : List Oper} {a : Act} {W : World} {o : Oper} {p v : Operand} {A : Option Addr} {n c : Nat} (hgd : o.guard = none) (ho : o.op = .store 46 p v)
  (hp : a.eval p = .pointer (some ⟨W.heap.size, 0, none⟩)) (hv : a.eval v = .slice A n c)
  (h : ∀ W', Below W.heap.size W W' → W'.heap[W.heap.size]? = some (.cells #[.slice A n c] 46 (0, 0)) → wpList Try.prog ops Q rest (a.put o.dst undef) W') : wpList Try.prog ops Q (o :: rest) a (W.alloc (.cells #[.slice none 0 0] 46)) := by
 refine wpList_plain hgd fun K hK => ?_
 have hf : (W.alloc (.cells #[.slice none 0 0] 46)).frozen? ⟨W.heap.size, 0, none⟩ = false := blk_frozen (new_at _ rfl) 0
 have h1 : Below W.heap.size W ((W.alloc (.cells #[.slice none 0 0] 46)).setCell ⟨W.heap.size, 0, none⟩ (.slice A n c)) := (below_alloc (Below.refl _ _) _).setCell (by simp) _
 have h2 : ((W.alloc (.cells #[.slice none 0 0] 46)).setCell ⟨W.heap.size, 0, none⟩ (.slice A n c)).heap[W.heap.size]? = some (.cells #[.slice A n c] 46 (0, 0)) := by
  have h0 : (W.alloc (.cells #[.slice none 0 0] 46)).heap[W.heap.size]? = some (.cells #[.slice none 0 0] 46 (0, 0)) := new_at _ rfl
  rw [blk_set h0]; rfl
 have hn := hK _ _ (h _ h1 h2); unfold Oper.wp
 have hr : (execOp a.eval o).run Try.prog (W.alloc (.cells #[.slice none 0 0] 46)) = .ok .skip ((W.alloc (.cells #[.slice none 0 0] 46)).setCell ⟨W.heap.size, 0, none⟩ (.slice A n c)) := by
  unfold execOp
  simp only [ho, hp, hv]
  simp [go_sem, hf]
 rw [hr]; exact hn
theorem boxI_op {ops : Array Oper} {Q : Exit → Act → World → Prop} {rest : List Oper} {a : Act} {W : World} {o : Oper} {p v : Operand} {x : Int} (hgd : o.guard = none) (ho : o.op = .store 3 p v)
  (hp : a.eval p = .pointer (some ⟨W.heap.size, 0, none⟩)) (hv : a.eval v = .int .i64 x)
  (h : ∀ W', Below W.heap.size W W' → W'.heap[W.heap.size]? = some (.cells #[.int .i64 x] 3 (0, 0)) → wpList Try.prog ops Q rest (a.put o.dst undef) W') : wpList Try.prog ops Q (o :: rest) a (W.alloc (.cells #[.int .i64 0] 3)) := by
 refine wpList_plain hgd fun K hK => ?_
 have hf : (W.alloc (.cells #[.int .i64 0] 3)).frozen? ⟨W.heap.size, 0, none⟩ = false := blk_frozen (new_at _ rfl) 0
 have h1 : Below W.heap.size W ((W.alloc (.cells #[.int .i64 0] 3)).setCell ⟨W.heap.size, 0, none⟩ (.int .i64 x)) := (below_alloc (Below.refl _ _) _).setCell (by simp) _
 have h2 : ((W.alloc (.cells #[.int .i64 0] 3)).setCell ⟨W.heap.size, 0, none⟩ (.int .i64 x)).heap[W.heap.size]? = some (.cells #[.int .i64 x] 3 (0, 0)) := by
  have h0 : (W.alloc (.cells #[.int .i64 0] 3)).heap[W.heap.size]? = some (.cells #[.int .i64 0] 3 (0, 0)) := new_at _ rfl
  rw [blk_set h0]; rfl
 have hn := hK _ _ (h _ h1 h2); unfold Oper.wp
 have hr : (execOp a.eval o).run Try.prog (W.alloc (.cells #[.int .i64 0] 3)) = .ok .skip ((W.alloc (.cells #[.int .i64 0] 3)).setCell ⟨W.heap.size, 0, none⟩ (.int .i64 x)) := by
  unfold execOp
  simp only [ho, hp, hv]
  simp [go_sem, hf]
 rw [hr]; exact hn
end Go.Proofs.Ytjjedbcgkljdeaa.D
end
section
namespace Go.Proofs.Ytjjedbcgkljdeaa.D
open Go Go.RowKit Go.Shelf Go.Proofs.YtjjedbcgkljdeaaW.PrintWords Go.Proofs.YtjjedbcgkljdeaaW.PrintLast Go.Proofs.YtjjedbcgkljdeaaW.PrintMore Go.Proofs.Ytjjedbcgkljdeaa Go.Proofs.Ytjjedbcgkljdeaa.A Go.Proofs.Ytjjedbcgkljdeaa.B
def lp_T : Bool × List (List Nat × List Nat) := (true, [([], []), ([], []), ([], []), ([2], [2]), ([0, 1, 0, 1, 2, 3], [0, 1]), ([4, 3, 3, 0, 1, 2, 3], [3, 4])])
def lp_B : List Nat := [0, 0, 0, 4, 15, 31]
theorem lp_tab : rtab .any (opsOf Try.f16 12) = lp_T := by kernel_rfl
theorem lp_bits : waitsOk lp_T.2 lp_B = true := by kernel_rfl
structure LpSt (w w2 W : World) (go : Nat) (vs : List Value) (ls : List (List Int)) (ps : Nat) (vS : Value) (seen : List Bool) (vB : Value) (before : List (List Int)) (vK : Value) (backs : List (List Int)) : Prop where
 o : OutSt w2 W w2.heap.size go vs ls
 wgo : w.heap.size ≤ go
 b2 : Below w.heap.size w w2
 box : w2.heap[ps]? = some (.cells #[vS] 46 (0, 0))
 hps : go < ps
 seen : Kd.R Kd.bool 4 w2 (go + 1) (fun k => go < k ∧ k < w2.heap.size) vS seen
 before : Kd.R (Kd.slice 3 (Kd.int .i64)) 33 w2 (go + 1) (fun k => go < k ∧ k < w2.heap.size) vB before
 backs : Kd.R (Kd.slice 3 (Kd.int .i64)) 33 w2 (go + 1) (fun k => go < k ∧ k < w2.heap.size) vK backs
section
variable {w w2 W : World} {go : Nat} {vs : List Value} {ls : List (List Int)} {ps : Nat} {vS : Value} {seen : List Bool} {vB : Value} {before : List (List Int)} {vK : Value} {backs : List (List Int)}
theorem LpSt.seenR (h : LpSt w w2 W go vs ls ps vS seen vB before vK backs) : Kd.R Kd.bool 4 W (go + 1) (fun k => go < k ∧ k < w2.heap.size) vS seen := Kd.R_move h.seen (fun _ hk => h.o.same _ hk.2 (by omega))
theorem LpSt.beforeR (h : LpSt w w2 W go vs ls ps vS seen vB before vK backs) : Kd.R (Kd.slice 3 (Kd.int .i64)) 33 W (go + 1) (fun k => go < k ∧ k < w2.heap.size) vB before := Kd.R_move h.before (fun _ hk => h.o.same _ hk.2 (by omega))
theorem LpSt.boxW (h : LpSt w w2 W go vs ls ps vS seen vB before vK backs) : W.heap[ps]? = some (.cells #[vS] 46 (0, 0)) := by
 rw [h.o.same ps (blk_lt h.box) (by have := h.hps; omega)]; exact h.box
theorem LpSt.grown (h : LpSt w w2 W go vs ls ps vS seen vB before vK backs) {W1 : World} (hb : Below W.heap.size W W1) : LpSt w w2 W1 go vs ls ps vS seen vB before vK backs := ⟨h.o.grown hb, h.wgo, h.b2, h.box, h.hps, h.seen, h.before, h.backs⟩
theorem LpSt.setRow (h : LpSt w w2 W go vs ls ps vS seen vB before vK backs) (i : Nat) (hi : i < vs.length) {W1 : World} (hb : Below W.heap.size W W1) {v1 : Value} {l1 : List Int} (hr : Kd.R (Kd.int .i64) 3 W1 W.heap.size (fun _ => True) v1 l1) :
  LpSt w w2 (W1.setCell ⟨go, i, none⟩ v1) go (vs.set i v1) (ls.set i l1) ps vS seen vB before vK backs :=
 ⟨h.o.put i hi (grown_of_below hb _) (own_weaken (Kd.own_of_R hr) h.o.size) (by
  by_cases hn : v1.ownBlock = none
  ·exact .inr (.inl hn)
  ·obtain ⟨b, hb2⟩ := Option.ne_none_iff_exists'.mp hn; exact .inr (.inr ⟨b, hb2, own_base (Kd.own_of_R hr) b hb2⟩)), h.wgo, h.b2, h.box, h.hps, h.seen, h.before, h.backs⟩
end
set_option maxHeartbeats 4000000 in
set_option maxRecDepth 100000 in
theorem graph_Loops.calls (k : Nat) (A0 : Option Addr) (c0 : Nat) (l0 : List (List Int)) (r1 : List (List Int)) (r2 : Int) (w : World) (hr0 : Kd.C (Kd.slice 3 (Kd.int .i64)) w A0 l0.length l0) (hc0 : l0.length ≤ c0) (h : graph_Loops.f k l0 = some (r1, r2)) :
  Calls Try.prog 16 #[.slice A0 l0.length c0] w fun e w' => ∃ v0_ : Value, e = .returned (.tuple #[v0_, .int .i64 r2]) ∧ Kd.S (Kd.slice 3 (Kd.int .i64)) 33 w' w.heap.size (fun _ => True) v0_ r1 ∧ Below w.heap.size w w' := by
 unfold graph_Loops.f at h
 obtain ⟨v, hv, h⟩ := Option.bind_eq_some_iff.mp h; have HR0 := Aside0.mk hr0; have HC0 := Aside0.mk hc0; have HV := Aside0.mk hv; clear hr0 hc0 hv; cases v with
 | false =>
  simp only [Bool.false_eq_true, if_false, Option.some.injEq, Prod.mk.injEq] at h
  obtain ⟨rfl, rfl⟩ := h; go_enter Try.func16, Try.ntmps16
  go_wp2_with fail
  refine (graph_valid.calls k _ _ l0 false _ HR0.out HC0.out HV.out).mono ?_
  rintro e w1 ⟨rfl, ⟨nd, rfl⟩⟩
  go_wp2
  go_ret2
  exact ⟨_, rfl, ⟨fun _ => 0, Kd.R_nil _ _ _ _ _⟩, pw_below_drewN (Below.refl _ _) _⟩
 | true =>
  simp only [if_true] at h
  by_cases hlen : l0.length ≤ 5864062014805
  case neg => rw [if_neg hlen] at h; cases h
  rw [if_pos hlen] at h; obtain ⟨seen, hseen, h⟩ := Option.bind_eq_some_iff.mp h; obtain ⟨before, hbef, h⟩ := Option.bind_eq_some_iff.mp h; obtain ⟨backs, hbk, h⟩ := Option.bind_eq_some_iff.mp h; by_cases hbs : before.length ≤ seen.length
  case neg => rw [if_neg hbs] at h; cases h
  rw [if_pos hbs] at h; obtain ⟨out, hout, h⟩ := Option.bind_eq_some_iff.mp h; simp only [Option.some.injEq, Prod.mk.injEq] at h
  obtain ⟨rfl, rfl⟩ := h; have HSe := Aside0.mk hseen; have HBe := Aside0.mk hbef; have HBk := Aside0.mk hbk; have HO := Aside0.mk hout; have HBS := Aside0.mk hbs; clear hseen hbef hbk hout hbs; have hmk := print_make_of (P := Try.prog) 22 33 (.slice none 0 0) 24 Try.underlying22 A.info33 rfl (by decide) l0.length (by omega)
  go_enter Try.func16, Try.ntmps16
  go_wp2_with fail
  refine (graph_valid.calls k _ _ l0 true _ HR0.out HC0.out HV.out).mono ?_
  rintro e w1 ⟨rfl, ⟨nd, rfl⟩⟩
  go_upto_region 4 with (fail)
  clear hmk; obtain ⟨go, hgo⟩ : ∃ go, go = w.heap.size := ⟨_, rfl⟩; rw [← hgo]; refine gen_world (P := fun W => W.heap[go]? = some (.cells (List.replicate l0.length (.slice none 0 0)).toArray 33 (0, 0)) ∧ Below w.heap.size w W) ?_ ?_
  ·refine ⟨?_, (pw_below_drewN (Below.refl _ _) nd).alloc (Nat.le_refl _) _⟩
   have e0 : (madeCells #[(.slice none 0 0 : Value)] l0.length) = (List.replicate l0.length (.slice none 0 0)).toArray := by
    apply Array.ext_getElem?
    intro i
    simp only [madeCells, Array.getElem?_map, List.getElem?_toArray]
    by_cases hi : i < l0.length
    ·rw [Array.getElem?_eq_getElem (by simpa using hi), List.getElem?_eq_getElem (by simpa using hi)]; simp [Nat.mod_one]
    ·rw [Array.getElem?_eq_none (by simpa using hi), List.getElem?_eq_none (by simpa using hi)]; rfl
   rw [e0]; exact new_at _ hgo
  rintro W1 ⟨ht1, hb1⟩
  have HT1 := Aside0.mk ht1; have HB1 := Aside0.mk hb1; have HGo := Aside0.mk hgo; clear ht1 hb1 hgo; go_wp2_with fail
  have HB2 : Aside0 (Below w.heap.size w (W1.alloc (.cells #[.int .i64 0] 3))) := ⟨below_alloc HB1.out _⟩
  have hl1 : Kd.R (Kd.int .i64) 3 (W1.alloc (.cells #[.int .i64 0] 3)) W1.heap.size (fun _ => True) (.slice (some ⟨W1.heap.size, 0, none⟩) 1 1) [0] :=
   Kd.R_of_own ⟨rfl, .inr ⟨W1.heap.size, 1, _, rfl, Nat.le_refl _, new_at _ rfl, Nat.le_refl _, by decide, rfl, rfl⟩⟩ (fun _ _ => trivial)
  refine (graph_fromOpen.calls k _ _ l0 _ _ [0] seen _ (Kd.C_below HR0.out HB2.out) HC0.out (Kd.R_reads' hl1).2.2 (Nat.le_refl _) HSe.out).mono ?_
  clear hl1; rintro e W3 ⟨vS, rfl, hrS, hbS⟩
  obtain ⟨AS, cS, rfl⟩ := Kd.R_slice hrS; have HRS := Aside0.mk hrS; have HBS1 := Aside0.mk ((below_alloc (Below.refl _ _) _).trans (hbS.mono (by simp)) : Below W1.heap.size W1 W3)
  have HB3 : Aside0 (Below w.heap.size w W3) := ⟨HB2.out.trans (hbS.mono HB2.out.size)⟩
  clear hrS hbS HB2; go_upto_region 5 with ((with_reducible refine gate_store (t := 46) (p := 5) rfl ?_); refine boxS_op rfl rfl rfl rfl ?_; intro Wb hbb hbx; have HBB := Aside0.mk hbb; have HBX := Aside0.mk hbx; clear hbb hbx)
  have HB4 : Aside0 (Below w.heap.size w Wb) := ⟨HB3.out.trans (HBB.out.mono HB3.out.size)⟩
  go_wp2_with fail
  refine (graph_turned.calls k _ _ l0 before _ (Kd.C_below HR0.out HB4.out) HC0.out HBe.out).mono ?_
  rintro e W5 ⟨vB, rfl, hrB, hbB⟩
  obtain ⟨AB, cB, rfl⟩ := Kd.R_slice (Kd.S_R hrB); have HRB := Aside0.mk (Kd.S_R hrB); have HBT := Aside0.mk hbB; have HB5 : Aside0 (Below w.heap.size w W5) := ⟨HB4.out.trans (HBT.out.mono HB4.out.size)⟩
  clear hrB hbB; go_wp2_with fail
  refine (graph_backs.calls k _ _ l0 backs _ (Kd.C_below HR0.out HB5.out) HC0.out HBk.out).mono ?_
  rintro e w2 ⟨vK, rfl, hrK, hbK⟩
  obtain ⟨AK, cK, rfl⟩ := Kd.R_slice (Kd.S_R hrK); have HRK := Aside0.mk (Kd.S_R hrK); have HBK := Aside0.mk hbK; have HB6 : Aside0 (Below w.heap.size w w2) := ⟨HB5.out.trans (HBK.out.mono HB5.out.size)⟩
  clear hrK hbK; have hF : LpSt w w2 w2 go (List.replicate l0.length (.slice none 0 0)) (List.replicate l0.length []) W3.heap.size (.slice AS seen.length cS) seen (.slice AB before.length cB) before (.slice AK backs.length cK) backs := by
   have hlt := blk_lt HT1.out; have s1 : W1.heap.size ≤ W3.heap.size := HBS1.out.size
   have s2 : W3.heap.size ≤ Wb.heap.size := HBB.out.size
   have s3 : Wb.heap.size ≤ W5.heap.size := HBT.out.size
   have s4 := HBK.out.size; have b1 : Below W3.heap.size W3 w2 := (HBB.out.trans (HBT.out.mono s2)).trans (HBK.out.mono (by omega))
   refine ⟨⟨by simp, blk_below (blk_below HT1.out HBS1.out) b1, by omega, Nat.le_refl _, ?_, ?_, rfl, rfl, rfl, Nat.le_refl _, fun _ _ _ => rfl⟩, by rw [HGo.out]; exact Nat.le_refl _, HB6.out, blk_below (blk_below HBX.out HBT.out) HBK.out, by omega, ?_, ?_, ?_⟩
   ·intro i hi
    have hi' : i < l0.length := by simpa using hi
    have e1 : (List.replicate l0.length ([] : List Int)).getD i [] = [] := by rw [List.getD_eq_getElem?_getD]; simp [hi']
    rw [e1, List.getElem_replicate]; exact own_nil _ _ _ _
   ·intro i j hi hj _ hn
    rw [List.getElem_replicate] at hn; exact absurd rfl hn
   ·exact R_between HRS.out (by simp; omega) b1
   ·exact R_between HRB.out (by omega) HBK.out
   ·exact R_between HRK.out (by omega) (Below.refl _ _)
  have HF := Aside0.mk hF; clear hF HB1 HB3 HB4 HB5 HB6 HBS1 HBB HBX HBT HBK HRS HRB HRK HT1; have HO0 : Aside0 (lpB k seen before backs (List.range' 0 backs.length) (List.replicate l0.length []) = some out) := ⟨by rw [← List.range_eq_range']; exact HO.out⟩
  have hmS := Kd.C_max (Kd.R_reads' HF.out.seen).2.2; have hmB := Kd.C_max (Kd.R_reads' HF.out.before).2.2; have hmK := Kd.C_max (Kd.R_reads' HF.out.backs).2.2; clear HO HV HSe HBe HBk h HR0 HC0; have hmf : ∀ (fn : Fn) (first cap : Array Value) (w : World), (Instr.makeFunc fn first cap).run Try.prog w = .ok (.func fn first cap) w := fun _ _ _ _ => rfl
  have HMF := Aside0.mk hmf; clear hmf; go_wp2
  go_loopw [24] (fun i wr => ∃ (j : Nat) (vs : List Value) (ls : List (List Int)), j ≤ backs.length ∧ i = .int .i64 j ∧ Aside0 (lpB k seen before backs (List.range' j (backs.length - j)) ls = some out) ∧ Aside0 (LpSt w w2 wr go vs ls W3.heap.size (.slice AS seen.length cS) seen (.slice AB before.length cB) before (.slice AK backs.length cK) backs) ∧ Aside0 (ls.length = l0.length)) (fun i _ => backs.length - (intOf i).toNat)
  case atStart => exact ⟨0, _, _, by omega, rfl, HO0, HF, ⟨by simp⟩⟩
  case round =>
   obtain ⟨j, vs, ls, hj, rfl, HV, HF, HS⟩ := hrel; clear HO0; by_cases hlt : j < backs.length
   ·have hv := HV.out; rw [show backs.length - j = (backs.length - (j + 1)) + 1 by omega, List.range'_succ, lpB] at hv
    obtain ⟨adK, _, _, eK, _⟩ := at_L1 (Kd.R_reads' HF.out.backs).2.2 (j : Int) (by omega) (by omega)
    cases eK; obtain ⟨ce, _, ⟨vR, rfl, hRow⟩, hcc⟩ := Kd.R_get HF.out.backs ([] : List Int) (j : Int) (by omega) (by omega)
    have hcK := hcc 0 _ rfl; rw [Nat.add_zero, show ((Kd.slice 3 (Kd.int .i64))).sz = 1 from rfl, Nat.mul_one, Int.toNat_natCast] at hcK; have hbk : go + 1 ≤ adK.block := Kd.R_base HF.out.backs adK.block (by simp [Value.ownBlock])
    have hblk : (adK.add j).block = adK.block := by obtain ⟨gB, hgB⟩ := Kd.R_head HF.out.backs; rw [hgB]; unfold Addr.add; split <;> rfl
    have hcK2 := (World.cell?_of_block (a := adK.add j) (HF.out.o.same _ (World.block_lt_of_cell? w2 _ hcK) (by rw [hblk]; omega))).trans hcK
    obtain ⟨Ar, cr, rfl⟩ := Kd.R_slice hRow; have HROW : Aside0 (Kd.R (Kd.int .i64) 3 w2 (go + 1) (fun k => go < k ∧ k < w2.heap.size) (.slice Ar (rd_L1 backs (j : Int)).length cr) (rd_L1 backs (j : Int))) := ⟨Kd.R_mono hRow (fun _ hk => hk.1)⟩
    change wr.cell? _ = some (.slice Ar (rd_L1 backs (j : Int)).length cr) at hcK2
    have hmR := Kd.C_max (Kd.R_reads' HROW.out).2.2; clear HV hRow hcc hcK; generalize rd_L1 backs (j : Int) = row at *
    by_cases hr0 : row.length = 0
    ·rw [if_pos hr0] at hv; have HV2 := Aside0.mk hv; have hz : ((row.length : Int) == 0) = true := by rw [hr0]; rfl
     clear hv hr0; go_wp2_with ((with_reducible refine gate_store (t := 3) (p := 7) rfl ?_); refine boxI_op rfl rfl rfl rfl ?_; intro Wb hbb hbx; have HF2 := Aside0.mk (HF.out.grown hbb); clear hbb hbx); go_roundw
     case rel => exact ⟨j + 1, vs, ls, by omega, by go_num, HV2, HF2, HS⟩
     case measure => simp [intOf]; omega
    ·rw [if_neg hr0] at hv; obtain ⟨inn, hi1, hi2⟩ := Option.bind_eq_some_iff.mp hv; by_cases hji : j < inn.length
     case neg => rw [if_neg hji] at hi2; cases hi2
     rw [if_pos hji] at hi2; obtain ⟨rr, hi3, hi4⟩ := Option.bind_eq_some_iff.mp hi2; by_cases hjl : j < ls.length
     case neg => rw [if_neg hjl] at hi4; cases hi4
     rw [if_pos hjl] at hi4; have HI1 := Aside0.mk hi1; have HI3 := Aside0.mk hi3; have HI4 := Aside0.mk hi4; have hz : ((row.length : Int) == 0) = false := beq_eq_false_iff_ne.mpr (by omega)
     have hjv : j < vs.length := by rw [HF.out.o.len]; omega
     obtain ⟨Ah, ch, evs, hch, hfh⟩ := HF.out.o.cell j hjv; clear hv hr0 hi1 hi2 hi3 hi4 evs; have hmf := HMF.out; go_upto_region 10 with ((with_reducible refine gate_store (t := 3) (p := 7) rfl ?_); refine boxI_op rfl rfl rfl rfl ?_; intro Wb hbb hbx; have HF2 := Aside0.mk (HF.out.grown hbb); have HBB := Aside0.mk hbb; have HBX := Aside0.mk hbx; clear hbb hbx)
     go_wp2_with fail
     clear hmf; have hHR : Kd.C (Kd.slice 3 (Kd.int .i64)) Wb AB before.length before := (Kd.R_reads' HF2.out.beforeR).2.2
     have HRW : Kd.C (Kd.int .i64) Wb Ar row.length row := (Kd.R_reads' (Kd.R_move HROW.out (fun k hk => HF2.out.o.same k hk.2 (by omega)))).2.2
     refine (from_loop (pb := wr.heap.size) (ps := W3.heap.size) (lpP seen (j : Int)) k _ _ before _ _ row inn Wb hHR HRW (loop_closed Wb _ _ j AS cS seen HBX.out HF2.out.boxW HF2.out.seenR _ HBS.out) HI1.out).mono ?_
     clear hHR HRW; rintro e W8 ⟨vI, rfl, hrI, hbI⟩
     obtain ⟨gI, cI, rfl, hgI, _⟩ := Kd.R_form hrI (by omega)
     have HRI := Aside0.mk hrI; have HF3 := Aside0.mk (HF2.out.grown hbI); have HBI := Aside0.mk hbI; have c8 : W8.cell? ⟨wr.heap.size, 0, none⟩ = some (.int .i64 (j : Int)) := (blk_cell (blk_below HBX.out hbI) 0).trans rfl
     obtain ⟨c9, f9⟩ := Kd.R_celln false hrI (j : Int) (by omega) (by omega)
     rw [Int.toNat_natCast] at c9 f9
     clear hrI hbI hz; go_upto_region 12 with (fail)
     obtain ⟨hRS, hGS⟩ := Kd.R_putg HRI.out (j : Int) true; rw [Int.toNat_natCast] at hRS hGS
     have hB9 : Below Wb.heap.size Wb (W8.setCell ⟨gI, j, none⟩ (.bool true)) := HBI.out.setCell hgI _
     obtain ⟨inn2, hinn2⟩ : ∃ y, y = inn.set j true := ⟨_, rfl⟩; have hl2 : inn.length = inn2.length := by rw [hinn2]; simp
     have hji2 : j < inn2.length := by omega
     have HI5 : Aside0 (graph_list.f k inn2 = some rr) := ⟨by rw [hinn2]; exact HI3.out⟩
     rw [← hinn2, hl2] at hRS; rw [hl2]; refine gen_world (P := fun W => Below Wb.heap.size Wb W ∧ Kd.R Kd.bool 4 W Wb.heap.size (fun _ => True) (.slice (some ⟨gI, 0, none⟩) inn2.length cI) inn2) ⟨hB9, hRS⟩ ?_
     clear hinn2 hl2; clear hRS hGS hB9 HF3 c8 c9 f9 HRI HBI hgI; rintro W9 ⟨hb9, hr9⟩
     have HB9 := Aside0.mk hb9; have HR9 := Aside0.mk hr9; have HF4 := Aside0.mk (HF2.out.grown hb9); have c8 : W9.cell? ⟨wr.heap.size, 0, none⟩ = some (.int .i64 (j : Int)) := (blk_cell (blk_below HBX.out hb9) 0).trans rfl
     clear hb9 hr9; have hS9 : W9.drew.cell? ⟨wr.heap.size, 0, none⟩ = some (.int .i64 (j : Int)) := c8
     refine start_ (n := 6) (S := fun w' => w'.cell? ⟨wr.heap.size, 0, none⟩ = some (.int .i64 (j : Int))) (ds := [5]) #[false, false, false, false, false, false] (by kernel_rfl) rfl rfl hS9 (fun hHeld => ?_)
     refine with_tabW lp_tab lp_bits (fun HT_ HW_ => ?_)
     refine gen_world (P := fun W => Kd.R Kd.bool 4 W Wb.heap.size (fun _ => True) (.slice (some ⟨gI, 0, none⟩) inn2.length cI) inn2 ∧ LpSt w w2 W go vs ls W3.heap.size (.slice AS seen.length cS) seen (.slice AB before.length cB) before (.slice (some adK) backs.length cK) backs ∧ W.cell? ⟨wr.heap.size, 0, none⟩ = some (.int .i64 (j : Int)) ∧ Wb.heap.size ≤ W.heap.size) ⟨Kd.R_drew HR9.out, HF4.out.grown (below_drew (Below.refl _ _)), hS9, HB9.out.size⟩ ?_
     clear hS9 hHeld c8 HF4 HR9 HB9; rintro Wa ⟨hra, hfa, hHeld, hsz⟩
     have HRA := Aside0.mk hra; have HFA := Aside0.mk hfa; have HSZ := Aside0.mk hsz; have HHe := Aside0.mk hHeld; clear hra hfa hsz; refine pure_ (i := 0) (N := some 39) (v := ?_) (a' := ?_) #[true, false, false, false, false, false] rfl rfl (any_of HT_.out (by kernel_rfl)) (fun _ _ _ h => h) (Or.inl ⟨by rfl, ?_⟩) ?_ ?_
     rotate_left
     ·intro w'
      go_simp
      with_reducible rfl
     rotate_left
     ·simp only [Act.put, List.setIfInBounds_toArray, List.set_cons_zero, List.set_cons_succ]
      rfl
     refine pure_ (i := 2) (N := some 41) (v := ?_) (a' := ?_) #[true, false, true, false, false, false] rfl rfl (any_of HT_.out (by kernel_rfl)) (fun _ _ _ h => h) (Or.inl ⟨by rfl, ?_⟩) ?_ ?_
     rotate_left
     ·intro w'
      go_simp
      with_reducible rfl
     rotate_left
     ·simp only [Act.put, List.setIfInBounds_toArray, List.set_cons_zero, List.set_cons_succ]
      rfl
     refine take_ (i := 1) (N := some 40) (v := ?_) (a' := ?_) #[true, true, true, false, false, false] rfl rfl (take_ofW HT_.out HW_.out (by kernel_rfl)) (fun _ _ _ h => h) (Or.inl ⟨by rfl, ?_⟩) hHeld ?_ ?_
     rotate_left
     ·rintro w' s0
      go_simp
      with_reducible rfl
     rotate_left
     ·simp only [Act.put, List.setIfInBounds_toArray, List.set_cons_zero, List.set_cons_succ]
      rfl
     refine one_ (i := 3) (N := some 42) #[true, true, true, true, false, false] rfl rfl (one_of HT_.out (by kernel_rfl)) (by decide) (fun K hK => ?_)
     refine goes_ Try.func54 (by kernel_rfl) rfl #[.slice (some ⟨gI, 0, none⟩) inn2.length cI] (by rfl) rfl rfl (by (try simp only [List.map_toArray, List.map_cons, List.map_nil]); first | done | rfl | (simp only [List.length_drop, List.length_take]; rfl)) ?_
     have hrd := Kd.R_reads' HRA.out; refine (graph_list.calls k (some ⟨gI, 0, none⟩) cI inn2 rr Wa hrd.2.2 hrd.2.1 HI5.out).mono ?_
     rintro e Wc ⟨vr, rfl, hrr, hbc⟩
     obtain ⟨Ax, cx, rfl⟩ := Kd.R_slice hrr; refine ⟨_, rfl, ?_⟩
     have HRR := Aside0.mk hrr; have HBC := Aside0.mk hbc; obtain ⟨A9, c9, e9, hc9, hf9⟩ := (HFA.out.grown hbc).o.cell j hjv; have HNX : Aside0 (LpSt w w2 (Wc.setCell ⟨go, j, none⟩ (.slice Ax rr.length cx)) go (vs.set j (.slice Ax rr.length cx)) (ls.set j rr) W3.heap.size (.slice AS seen.length cS) seen (.slice AB before.length cB) before (.slice (some adK) backs.length cK) backs) := ⟨HFA.out.setRow j hjv hbc hrr⟩
     have hSc : Wc.cell? ⟨wr.heap.size, 0, none⟩ = some (.int .i64 (j : Int)) := (hbc.cell (World.block_lt_of_cell? _ _ HHe.out)).trans HHe.out
     clear hrr hbc e9 hrd; refine hK.out _ _ hSc (fun hHeld => ?_)
     clear hK K; refine norm_ (a' := ?_) ?_ ?_
     rotate_left
     ·show Act.put _ (some 42) _ = _
      simp only [Act.put, List.setIfInBounds_toArray, List.set_cons_zero, List.set_cons_succ]
      rfl
     have hjl0 : j < l0.length := by have := HS.out; omega
     refine pure_ (i := 4) (N := some 43) (v := ?_) (a' := ?_) #[true, true, true, true, true, false] rfl rfl (any_of HT_.out (by kernel_rfl)) (fun _ _ _ h => h) (Or.inl ⟨by rfl, ?_⟩) ?_ ?_
     rotate_left
     ·intro w'
      go_simp
      with_reducible rfl
     rotate_left
     ·simp only [Act.put, List.setIfInBounds_toArray, List.set_cons_zero, List.set_cons_succ]
      rfl
     refine last_ (i := 5) (N := none) #[true, true, true, true, true, true] rfl rfl (one_of HT_.out (by kernel_rfl)) (by decide) (fun K hK => ?_)
     refine skip_ (w1 := ?_) (by rfl) rfl ?_ ?_
     rotate_left
     ·go_simp
      rfl
     refine hK.out _ _ ?_
     clear hK K; refine done_ (done_of HT_.out (by kernel_rfl)) ?_
     refine gen_world (P := fun W => LpSt w w2 W go (vs.set j (.slice Ax rr.length cx)) (ls.set j rr) W3.heap.size (.slice AS seen.length cS) seen (.slice AB before.length cB) before (.slice (some adK) backs.length cK) backs) HNX.out ?_
     intro Wd hd
     have HD := Aside0.mk hd; clear hd; go_wp2
     go_roundw
     case rel => exact ⟨j + 1, _, _, by omega, by go_num, HI4, HD, ⟨by rw [List.length_set]; exact HS.out⟩⟩
     case measure => simp [intOf]; omega
   ·obtain rfl : j = backs.length := by omega
    have hv := HV.out; rw [Nat.sub_self, List.range'_zero, lpB] at hv; obtain rfl := Option.some.inj hv; have hd : decide (((backs.length : Nat) : Int) < ((backs.length : Nat) : Int)) = false := decide_eq_false (by omega)
    clear hv HV; go_wp2
    go_ret2
    have hr := HF.out.o.row (base := w.heap.size) HF.out.wgo (by rw [HF.out.o.len, HS.out]; unfold maxLen; omega)
    rw [show vs.length = l0.length by rw [HF.out.o.len, HS.out]] at hr
    exact ⟨_, rfl, hr, HF.out.o.below HF.out.b2 HF.out.wgo⟩
end Go.Proofs.Ytjjedbcgkljdeaa.D
end
section
namespace Go.Proofs.Ytjjedbcgkljdeaa.D
open Go Go.RowKit Go.Shelf Go.Proofs.YtjjedbcgkljdeaaW.PrintWords Go.Proofs.YtjjedbcgkljdeaaW.PrintLast Go.Proofs.YtjjedbcgkljdeaaW.PrintMore Go.Proofs.Ytjjedbcgkljdeaa Go.Proofs.Ytjjedbcgkljdeaa.A Go.Proofs.Ytjjedbcgkljdeaa.B
def rdB (k : Nat) (back : List (List Int)) (a : Nat) : List Int → List (List Int) → Option (List (List Int))
 | [], left => some left
 | b :: bs, left => if 0 ≤ b then if b < (back.length : Int) then
   (slices_Contains_int_int.f k (rd_L1 back b) (a : Int)).bind fun c => if c = true then rdB k back a bs left
    else if a < left.length then if (rd_L1 left (a : Int)).length < 17592186044416 then rdB k back a bs (left.set a (rd_L1 left (a : Int) ++ [b])) else none else none
  else none else none
def rdA (k : Nat) (back g : List (List Int)) : List Nat → List (List Int) → Option (List (List Int))
 | [], left => some left
 | a :: rest, left => (rdB k back a (rd_L1 g (a : Int)) left).bind fun left1 => rdA k back g rest left1
def plF : List Int → Nat → List Int → Option (List Int)
 | [], _, pl => some pl
 | n :: ns, i, pl => if 0 ≤ n then if n < (pl.length : Int) then plF ns (i + 1) (pl.set n.toNat (i : Int)) else none else none
def rdC (seen : List Bool) (place : List Int) (a : Nat) : List Int → Option Bool
 | [] => some true
 | b :: bs => if a < seen.length then if rdOf false seen (a : Int) = true then
   if 0 ≤ b then if b < (place.length : Int) then if a < place.length then (if rd place b ≥ rd place (a : Int) then some false else rdC seen place a bs) else none else none else none
  else rdC seen place a bs else none
def rdD (seen : List Bool) (place : List Int) (left : List (List Int)) : List Nat → Option Bool
 | [] => some true
 | a :: rest => (rdC seen place a (rd_L1 left (a : Int))).bind fun r => if r = true then rdD seen place left rest else some false
def graph_Reducible.f (k : Nat) (l0 : List (List Int)) : Option (Bool × Int) :=
 (graph_valid.f k l0).bind fun v => if v = true then
  if l0.length ≤ 5864062014805 then (graph_backs.f k l0).bind fun back => (rdA k back l0 (List.range l0.length) (List.replicate l0.length [])).bind fun left =>
   if left.length = l0.length then (graph_collect.f k left 0).bind fun order => (plF order 0 (List.replicate l0.length 0)).bind fun place =>
    (graph_fromOpen.f k left [0]).bind fun seen => (rdD seen place left (List.range left.length)).bind fun r => some (r, 0) else none
  else none
 else some (false, 1)
theorem rdB_mono (k : Nat) (back : List (List Int)) (a : Nat) : ∀ l left, LeO (rdB k back a l left) (rdB (k + 1) back a l left)
 | [] => fun _ => LeO.refl _
 | b :: bs => fun left => by
  unfold rdB
  exact LeO.ite (LeO.ite (LeO.bind (slices_Contains_int_int.mono _ _ k) fun _ => LeO.ite (rdB_mono k back a bs _) (LeO.ite (LeO.ite (rdB_mono k back a bs _) (LeO.none _)) (LeO.none _))) (LeO.none _)) (LeO.none _)
theorem rdA_mono (k : Nat) (back g : List (List Int)) : ∀ l left, LeO (rdA k back g l left) (rdA (k + 1) back g l left)
 | [] => fun _ => LeO.refl _
 | a :: rest => fun left => by
  unfold rdA
  exact LeO.bind (rdB_mono k back a _ _) fun _ => rdA_mono k back g rest _
theorem graph_Reducible.mono : ∀ a0 k, LeO (graph_Reducible.f k a0) (graph_Reducible.f (k + 1) a0) := fun a0 k => by
 unfold graph_Reducible.f
 refine LeO.bind (graph_valid.mono _ _) fun _ => LeO.ite (LeO.ite (LeO.bind (graph_backs.mono _ _) fun _ => LeO.bind (rdA_mono k _ _ _ _) fun _ => LeO.ite (LeO.bind (graph_collect.mono _ _ _) fun _ => LeO.bind (LeO.refl _) fun _ => LeO.bind (graph_fromOpen.mono _ _ _) fun _ => LeO.bind (LeO.refl _) fun _ => LeO.refl _) (LeO.none _)) (LeO.none _)) (LeO.refl _)
theorem plF_len : ∀ l i pl r, plF l i pl = some r → r.length = pl.length
 | [], i, pl, r, h => by simp only [plF, Option.some.injEq] at h; rw [h]
 | n :: ns, i, pl, r, h => by
  rw [plF] at h; split at h
  case isFalse => cases h
  split at h
  case isFalse => cases h
  rw [plF_len ns _ _ r h, List.length_set]
theorem plF_append : ∀ l l2 i pl, plF (l ++ l2) i pl = (plF l i pl).bind fun p => plF l2 (i + l.length) p
 | [], l2, i, pl => by simp [plF]
 | n :: ns, l2, i, pl => by
  rw [List.cons_append, plF, plF]; split
  case isFalse => rfl
  split
  case isFalse => rfl
  rw [plF_append ns l2, List.length_cons, show i + 1 + ns.length = i + (ns.length + 1) by omega]
structure PlI (w3 W : World) (gp b go n : Nat) (pre pl : List Int) : Prop where
 f : plF pre 0 (List.replicate n 0) = some pl
 g : W.heap[gp]? = some (.cells (nums .i64 pl).toArray 3 (0, 0))
 bp : W.heap[gp + 1]? = some (.cells #[.slice (some ⟨gp, 0, none⟩) n n] 33 (0, 0))
 bi : W.heap[gp + 1 + 1]? = some (.cells #[.int .i64 (pre.length : Int)] 3 (0, 0))
 b0 : W.heap[b]? = some (.cells #[.slice (some ⟨go, 0, none⟩) n n] 22 (0, 0))
 b1 : W.heap[b + 1]? = some (.cells #[.int .i64 0] 3 (0, 0))
 below : Below w3.heap.size w3 W
theorem PlI.kept {w3 W W' : World} {gp b go n : Nat} {pre pl : List Int} (h : PlI w3 W gp b go n pre pl) {row : Option Nat} (hg : W.grownBy W' row) (hB : ∀ k, row = some k → w3.heap.size ≤ k)
  (hr : ∀ k cs t, W.heap[k]? = some (.cells cs t (0, 0)) → ¬ Ty t → some k ≠ row) : PlI w3 W' gp b go n pre pl :=
 have n3 : ¬ Ty 3 := fun h => by rcases h with h | h <;> cases h
 have n33 : ¬ Ty 33 := fun h => by rcases h with h | h <;> cases h
 have n22 : ¬ Ty 22 := fun h => by rcases h with h | h <;> cases h
 ⟨h.f, blk_grown h.g hg (hr _ _ _ h.g n3), blk_grown h.bp hg (hr _ _ _ h.bp n33), blk_grown h.bi hg (hr _ _ _ h.bi n3), blk_grown h.b0 hg (hr _ _ _ h.b0 n22), blk_grown h.b1 hg (hr _ _ _ h.b1 n3), h.below.grown hg h.below.size hB⟩
theorem PlI.len {w3 W : World} {gp b go n : Nat} {pre pl : List Int} (h : PlI w3 W gp b go n pre pl) : pl.length = n := by
 have := plF_len _ _ _ _ h.f; simpa using this
theorem PlI.step {w3 W : World} {gp b go n : Nat} {pre pl : List Int} (h : PlI w3 W gp b go n pre pl) (hgp : w3.heap.size ≤ gp) (hb : gp + 1 + 1 < b) (x : Nat) (hx : x < n) :
  PlI w3 ((W.setCell ⟨gp, x, none⟩ (.int .i64 (pre.length : Int))).setCell ⟨gp + 1 + 1, 0, none⟩ (.int .i64 ((pre.length : Int) + 1))) gp b go n (pre ++ [(x : Int)]) (pl.set x (pre.length : Int)) := by
 have hl := h.len; have g1 := grownBy_set0 W ⟨gp, x, none⟩ (.int .i64 (pre.length : Int)); have g2 := grownBy_set0 (W.setCell ⟨gp, x, none⟩ (.int .i64 (pre.length : Int))) ⟨gp + 1 + 1, 0, none⟩ (.int .i64 ((pre.length : Int) + 1)); have e : ∀ a c : Nat, a ≠ c → some a ≠ some c := fun a c hac e => hac (Option.some.inj e)
 refine ⟨?_, ?_, ?_, ?_, ?_, ?_, ?_⟩
 ·rw [plF_append, h.f]; simp only [Option.bind_some, plF]
  rw [if_pos (by omega), if_pos (by omega)]
  simp
 ·refine blk_grown ?_ g2 (e gp (gp + 1 + 1) (by omega))
  rw [blk_set h.g]; simp [nums, List.map_set]
 ·exact blk_grown (blk_grown h.bp g1 (e (gp + 1) gp (by omega))) g2 (e (gp + 1) (gp + 1 + 1) (by omega))
 ·rw [blk_set (blk_grown h.bi g1 (e (gp + 1 + 1) gp (by omega)))]
  simp
 ·exact blk_grown (blk_grown h.b0 g1 (e b gp (by omega))) g2 (e b (gp + 1 + 1) (by omega))
 ·exact blk_grown (blk_grown h.b1 g1 (e (b + 1) gp (by omega))) g2 (e (b + 1) (gp + 1 + 1) (by omega))
 ·have h1 : w3.heap.size ≤ (⟨gp, x, none⟩ : Addr).block := hgp
  have h2 : w3.heap.size ≤ (⟨gp + 1 + 1, 0, none⟩ : Addr).block := (show w3.heap.size ≤ gp + 1 + 1 by omega)
  exact (h.below.setCell h1 _).setCell h2 _
end Go.Proofs.Ytjjedbcgkljdeaa.D
end
section
namespace Go.Proofs.Ytjjedbcgkljdeaa.D
open Go Go.RowKit Go.Shelf Go.Proofs.YtjjedbcgkljdeaaW.PrintWords Go.Proofs.YtjjedbcgkljdeaaW.PrintLast Go.Proofs.YtjjedbcgkljdeaaW.PrintMore Go.Proofs.Ytjjedbcgkljdeaa Go.Proofs.Ytjjedbcgkljdeaa.A Go.Proofs.Ytjjedbcgkljdeaa.B
attribute [local go_sem] Oper.semAt_some
theorem R_betweenQ {α : Type} {d : Kd α} {e : Nat} {w1 w2 : World} {base b : Nat} {v : Value} {xs : List α} (h : d.R e w1 base (fun _ => True) v xs) (hb : b ≤ base) (hw : Below w1.heap.size w1 w2) : d.R e w2 b (fun k => b ≤ k ∧ k < w2.heap.size) v xs :=
 Kd.R_below (Kd.R_lower (Kd.R_mono (Kd.R_bound h) (fun _ hk => ⟨Nat.le_trans hb hk.2.1, Nat.lt_of_lt_of_le hk.2.2.1 hw.size⟩)) hb) hw
structure RdSt (w w2 W : World) (go : Nat) (vs : List Value) (ls : List (List Int)) (vK : Value) (back : List (List Int)) : Prop where
 o : OutSt w2 W w2.heap.size go vs ls
 wgo : w.heap.size ≤ go
 b2 : Below w.heap.size w w2
 back : Kd.R (Kd.slice 3 (Kd.int .i64)) 33 w2 (go + 1) (fun k => go < k ∧ k < w2.heap.size) vK back
section
variable {w w2 W : World} {go : Nat} {vs : List Value} {ls : List (List Int)} {vK : Value} {back : List (List Int)}
theorem RdSt.backR (h : RdSt w w2 W go vs ls vK back) : Kd.R (Kd.slice 3 (Kd.int .i64)) 33 W (go + 1) (fun k => go < k ∧ k < w2.heap.size) vK back := Kd.R_move h.back (fun _ hk => h.o.same _ hk.2 (by omega))
theorem RdSt.grown (h : RdSt w w2 W go vs ls vK back) {W1 : World} (hb : Below W.heap.size W W1) : RdSt w w2 W1 go vs ls vK back := ⟨h.o.grown hb, h.wgo, h.b2, h.back⟩
theorem RdSt.below (h : RdSt w w2 W go vs ls vK back) : Below w.heap.size w W := h.o.below h.b2 h.wgo
end
set_option maxHeartbeats 4000000 in
set_option maxRecDepth 100000 in
theorem graph_Reducible.calls (k : Nat) (A0 : Option Addr) (c0 : Nat) (l0 : List (List Int)) (r1 : Bool) (r2 : Int) (w : World) (hr0 : Kd.C (Kd.slice 3 (Kd.int .i64)) w A0 l0.length l0) (hc0 : l0.length ≤ c0) (h : graph_Reducible.f k l0 = some (r1, r2)) :
  Calls Try.prog 17 #[.slice A0 l0.length c0] w fun e w' => e = .returned (.tuple #[.bool r1, .int .i64 r2]) ∧ Below w.heap.size w w' := by
 unfold graph_Reducible.f at h
 obtain ⟨v, hv, h⟩ := Option.bind_eq_some_iff.mp h; have HR0 := Aside0.mk hr0; have HC0 := Aside0.mk hc0; have HV := Aside0.mk hv; clear hr0 hc0 hv; cases v with
 | false =>
  simp only [Bool.false_eq_true, if_false, Option.some.injEq, Prod.mk.injEq] at h
  obtain ⟨rfl, rfl⟩ := h; go_enter Try.func17, Try.ntmps17
  go_wp2_with fail
  refine (graph_valid.calls k _ _ l0 false _ HR0.out HC0.out HV.out).mono ?_
  rintro e w1 ⟨rfl, ⟨nd, rfl⟩⟩
  go_wp2
  go_ret2
  exact ⟨rfl, pw_below_drewN (Below.refl _ _) _⟩
 | true =>
  simp only [if_true] at h
  by_cases hlen : l0.length ≤ 5864062014805
  case neg => rw [if_neg hlen] at h; cases h
  rw [if_pos hlen] at h; obtain ⟨back, hbk, h⟩ := Option.bind_eq_some_iff.mp h; obtain ⟨left, hlf, h⟩ := Option.bind_eq_some_iff.mp h; by_cases hll : left.length = l0.length
  case neg => rw [if_neg hll] at h; cases h
  rw [if_pos hll] at h; obtain ⟨order, hor, h⟩ := Option.bind_eq_some_iff.mp h; obtain ⟨place, hpl, h⟩ := Option.bind_eq_some_iff.mp h; obtain ⟨seen, hsn, h⟩ := Option.bind_eq_some_iff.mp h; obtain ⟨rr, hrr, h⟩ := Option.bind_eq_some_iff.mp h; simp only [Option.some.injEq, Prod.mk.injEq] at h
  obtain ⟨rfl, rfl⟩ := h; have HBk := Aside0.mk hbk; have HLf := Aside0.mk hlf; have HLL := Aside0.mk hll; have HOr := Aside0.mk hor; have HPl := Aside0.mk hpl; have HSn := Aside0.mk hsn; have HRr := Aside0.mk hrr; clear hbk hlf hll hor hpl hsn hrr; have hmk := print_make_of (P := Try.prog) 22 33 (.slice none 0 0) 24 Try.underlying22 A.info33 rfl (by decide) l0.length (by omega)
  refine callsIn_wide.1 (callsIn_of_wp_marks (n := 3) Try.func17 rfl trivial ?_ rfl)
  simp only [Try.ntmps17, List.size_toArray, List.length_cons, List.length_nil, Nat.reduceAdd, Nat.reduceSub, Array.replicate_succ, Array.replicate_zero, List.push_toArray, List.append_toArray, List.nil_append, List.cons_append]
  refine wpIn_wide.2 ?_
  go_wp2_with fail
  refine (graph_valid.calls k _ _ l0 true _ HR0.out HC0.out HV.out).mono ?_
  rintro e w1 ⟨rfl, ⟨nd, rfl⟩⟩
  go_upto_region 4 with (fail)
  clear hmk; obtain ⟨go, hgo⟩ : ∃ go, go = w.heap.size := ⟨_, rfl⟩; rw [← hgo]; refine gen_world (P := fun W => W.heap[go]? = some (.cells (List.replicate l0.length (.slice none 0 0)).toArray 33 (0, 0)) ∧ Below w.heap.size w W) ?_ ?_
  ·refine ⟨?_, (pw_below_drewN (Below.refl _ _) nd).alloc (Nat.le_refl _) _⟩
   have e0 : (madeCells #[(.slice none 0 0 : Value)] l0.length) = (List.replicate l0.length (.slice none 0 0)).toArray := by
    apply Array.ext_getElem?
    intro i
    simp only [madeCells, Array.getElem?_map, List.getElem?_toArray]
    by_cases hi : i < l0.length
    ·rw [Array.getElem?_eq_getElem (by simpa using hi), List.getElem?_eq_getElem (by simpa using hi)]; simp [Nat.mod_one]
    ·rw [Array.getElem?_eq_none (by simpa using hi), List.getElem?_eq_none (by simpa using hi)]; rfl
   rw [e0]; exact new_at _ hgo
  rintro W1 ⟨ht1, hb1⟩
  have HT1 := Aside0.mk ht1; have HB1 := Aside0.mk hb1; have HGo := Aside0.mk hgo; clear ht1 hb1 hgo; go_wp2_with fail
  refine (graph_backs.calls k _ _ l0 back _ (Kd.C_below HR0.out HB1.out) HC0.out HBk.out).mono ?_
  rintro e w2 ⟨vK, rfl, hrK, hbK⟩
  obtain ⟨AK, cK, rfl⟩ := Kd.R_slice (Kd.S_R hrK); have HRK := Aside0.mk (Kd.S_R hrK); have HBK := Aside0.mk hbK; have HB6 : Aside0 (Below w.heap.size w w2) := ⟨HB1.out.trans (HBK.out.mono HB1.out.size)⟩
  clear hrK hbK; have hF : RdSt w w2 w2 go (List.replicate l0.length (.slice none 0 0)) (List.replicate l0.length []) (.slice AK back.length cK) back := by
   have hlt := blk_lt HT1.out; have s4 := HBK.out.size; refine ⟨⟨by simp, blk_below HT1.out HBK.out, by omega, Nat.le_refl _, ?_, ?_, rfl, rfl, rfl, Nat.le_refl _, fun _ _ _ => rfl⟩, by rw [HGo.out]; exact Nat.le_refl _, HB6.out, ?_⟩
   ·intro i hi
    have hi' : i < l0.length := by simpa using hi
    have e1 : (List.replicate l0.length ([] : List Int)).getD i [] = [] := by rw [List.getD_eq_getElem?_getD]; simp [hi']
    rw [e1, List.getElem_replicate]; exact own_nil _ _ _ _
   ·intro i j hi hj _ hn
    rw [List.getElem_replicate] at hn; exact absurd rfl hn
   ·exact R_betweenQ HRK.out (by omega) (Below.refl _ _)
  have HF := Aside0.mk hF; clear hF HB1 HB6 HBK HRK HT1; have HO0 : Aside0 (rdA k back l0 (List.range' 0 l0.length) (List.replicate l0.length []) = some left) := ⟨by rw [← List.range_eq_range']; exact HLf.out⟩
  have hmK := Kd.C_max (Kd.R_reads' HF.out.back).2.2; clear HLf HV HBk h HC0; go_wp2
  go_loopw [28] (fun i wr => ∃ (j : Nat) (vs : List Value) (ls : List (List Int)), j ≤ l0.length ∧ i = .int .i64 j ∧ Aside0 (rdA k back l0 (List.range' j (l0.length - j)) ls = some left) ∧ Aside0 (RdSt w w2 wr go vs ls (.slice AK back.length cK) back) ∧ Aside0 (ls.length = l0.length)) (fun i _ => l0.length - (intOf i).toNat)
  case atStart => exact ⟨0, _, _, by omega, rfl, HO0, HF, ⟨by simp⟩⟩
  case round =>
   obtain ⟨j, vs, ls, hj, rfl, HV, HF, HS⟩ := hrel; clear HO0; by_cases hlt : j < l0.length
   ·have hv := HV.out; rw [show l0.length - j = (l0.length - (j + 1)) + 1 by omega, List.range'_succ, rdA] at hv
    obtain ⟨ls1, hp1, hp2⟩ := Option.bind_eq_some_iff.mp hv; obtain ⟨ad0, Ar, cr, e0, hrow0, hrc, hread⟩ := at_L1 HR0.out (j : Int) (by omega) (by omega)
    cases e0; rw [Int.toNat_natCast] at hrow0; have hrow1 := (HF.out.below.cell (World.block_lt_of_cell? w _ hrow0)).trans hrow0; have HROW := Aside0.mk hread; have hP1 := Aside0.mk hp1; have hP2 := Aside0.mk hp2; have hmR := Kd.C_max hread; clear hv HV hp1 hp2 hread hrc hrow0; generalize rd_L1 l0 (j : Int) = row at *
    go_wp2
    clear hrow1; go_loopw [35] (fun i w' => ∃ (q : Nat) (vs : List Value) (ls : List (List Int)), q ≤ row.length ∧ i = .int .i64 q ∧ Aside0 (rdB k back j (row.drop q) ls = some ls1) ∧ Aside0 (RdSt w w2 w' go vs ls (.slice AK back.length cK) back) ∧ Aside0 (ls.length = l0.length)) (fun i _ => row.length - (intOf i).toNat)
    case atStart => exact ⟨0, _, _, by omega, rfl, hP1, HF, HS⟩
    case round =>
     clear hP1 HF HS; obtain ⟨q, vs, ls, hq, rfl, HV, HF, HS⟩ := hrel; by_cases hlq : q < row.length
     ·have hv := HV.out; rw [List.drop_eq_getElem_cons hlq, rdB] at hv; obtain ⟨p, hp⟩ : ∃ p, p = row[q] := ⟨_, rfl⟩; rw [← hp] at hv; by_cases h0 : 0 ≤ p
      case neg => rw [if_neg h0] at hv; cases hv
      rw [if_pos h0] at hv; by_cases h1 : p < (back.length : Int)
      case neg => rw [if_neg h1] at hv; cases hv
      rw [if_pos h1] at hv; obtain ⟨cc, hc1, hc2⟩ := Option.bind_eq_some_iff.mp hv; obtain ⟨adR, eR, hcR⟩ := Kd.at_int (Kd.C_below HROW.out HF.out.below) (q : Int) (by omega) (by omega)
      cases eR; rw [Int.toNat_natCast, show rd row (q : Int) = p by unfold rd; rw [Int.toNat_natCast, List.getD_eq_getElem?_getD, List.getElem?_eq_getElem hlq, hp]; rfl] at hcR
      obtain ⟨pn, rfl⟩ := Int.eq_ofNat_of_zero_le h0; have hpn : pn < back.length := by omega
      obtain ⟨adK, AKr, cKr, eK, hcK, hKc, hKr⟩ := at_L1 (Kd.R_reads' HF.out.backR).2.2 (pn : Int) h0 h1; cases eK; rw [Int.toNat_natCast] at hcK; have HC1 := Aside0.mk hc1; have HC2 := Aside0.mk hc2; have HKC := Aside0.mk hKc; have HKR := Aside0.mk hKr; clear hv HV hp hc1 hc2 hKc hKr; generalize rd_L1 back (pn : Int) = krow at *
      go_wp2_with fail
      refine (slices_Contains_int_int.calls k _ _ krow (j : Int) cc _ HKR.out HKC.out HC1.out).mono ?_
      rintro e W5 ⟨rfl, ⟨nq, rfl⟩⟩
      have HF5 := Aside0.mk (HF.out.grown (pw_below_drewN (Below.refl _ _) nq)); clear hcR hcK HKC HKR HF; generalize wr.drewN nq = wq at *
      cases cc with
      | true =>
       have hc2 := HC2.out; rw [if_pos rfl] at hc2; have HN := Aside0.mk hc2; clear hc2 HC2; go_wp2
       go_roundw
       case rel => exact ⟨q + 1, _, _, by omega, by go_num, HN, HF5, HS⟩
       case measure => simp [intOf]; omega
      | false =>
       have hA := HC2.out; rw [if_neg (by simp)] at hA
       by_cases hal : j < ls.length
       case neg => rw [if_neg hal] at hA; cases hA
       rw [if_pos hal] at hA; by_cases hbd : (rd_L1 ls (j : Int)).length < 17592186044416
       case neg => rw [if_neg hbd] at hA; cases hA
       rw [if_pos hbd] at hA; have hav : j < vs.length := by rw [HF5.out.o.len]; exact hal
       have hown := HF5.out.o.own j hav; obtain ⟨Ah, ch, evs, hch, hfh⟩ := HF5.out.o.cell j hav; rw [evs] at hown; obtain ⟨lrow, hlrow⟩ : ∃ row, row = ls.getD j [] := ⟨_, rfl⟩; have hlrow2 : rd_L1 ls (j : Int) = lrow := by rw [hlrow]; rfl
       rw [← hlrow] at hown hch evs
       rw [hlrow2] at hbd hA
       have HOWN := Aside0.mk hown; have HA := Aside0.mk hA; have HEV := Aside0.mk evs; clear hA hown hlrow hlrow2 evs HC2; go_upto_region 13 with ((with_reducible refine gate_builtin (b := .append) (xs := #[.tmp 51, .tmp 53]) rfl ?_); at_builtin; refine print_append_num (w0 := wq) w2.heap.size rfl (.tmp 51) (.tmp 53) 33 3 .i64 8 rfl Try.underlying33 A.info3 (by decide) _ lrow (pn : Int) rfl (by first | (go_simp; done) | (go_simp; rfl)) HOWN.out (Below.refl _ _) HF5.out.o.size (by omega) ?_; intro tv1 w1 ho hb hg hat; obtain ⟨At1, ct1, rfl⟩ := own_slice ho; have hb3 := blk_grown HF5.out.o.top hg (fun e => by have := HF5.out.o.ge j hav go (by rw [HEV.out]; exact e.symm); have := HF5.out.o.lt; omega); have g3 : w1.cell? ⟨go, j, none⟩ = some (.slice Ah lrow.length ch) := (blk_cell hb3 j).trans (by rw [← HEV.out]; simp [hav]); have gf := blk_frozen hb3 j; have HO2 := Aside0.mk ho; have HG2 := Aside0.mk hg; have HAT := Aside0.mk hat; clear ho hb hg hat hb3)
       have HF2 : Aside0 (RdSt w w2 (w1.setCell ⟨go, j, none⟩ (.slice At1 (lrow.length + 1) ct1)) go (vs.set j (.slice At1 (lrow.length + 1) ct1)) (ls.set j (lrow ++ [(pn : Int)])) (.slice (some adK) back.length cK) back) :=
        ⟨⟨HF5.out.o.put j hav (l1 := lrow ++ [(pn : Int)]) (by rw [HEV.out]; exact HG2.out) (by have h := HO2.out; rwa [show (lrow ++ [(pn : Int)]).length = lrow.length + 1 by simp] at h ⊢) (by have h := HAT.out; rw [show (lrow ++ [(pn : Int)]).length = lrow.length + 1 from by simp] at h; rw [HEV.out]; exact h.imp id .inr), HF5.out.wgo, HF5.out.b2, HF5.out.back⟩⟩
       refine gen_world (P := fun W => RdSt w w2 W go (vs.set j (.slice At1 (lrow.length + 1) ct1)) (ls.set j (lrow ++ [(pn : Int)])) (.slice (some adK) back.length cK) back) HF2.out ?_
       rintro W3 hf3
       have HF3 := Aside0.mk hf3; have HS3 : Aside0 ((ls.set j (lrow ++ [(pn : Int)])).length = l0.length) := ⟨by rw [List.length_set]; exact HS.out⟩
       clear hf3 HF2 HF5 HO2 HG2 HAT hch hfh; go_wp2
       go_roundw
       case rel => exact ⟨q + 1, _, _, by omega, by go_num, HA, HF3, HS3⟩
       case measure => simp [intOf]; omega
     ·obtain rfl : q = row.length := by omega
      have hv := HV.out; rw [List.drop_of_length_le (Nat.le_refl _), rdB] at hv; obtain rfl := Option.some.inj hv; have hd : decide (((row.length : Nat) : Int) < ((row.length : Nat) : Int)) = false := decide_eq_false (by omega)
      clear hv HV; go_wp2
      go_roundw
      case rel => exact ⟨j + 1, vs, ls, by omega, by go_num, hP2, HF, HS⟩
      case measure => simp [intOf]; omega
   ·obtain rfl : j = l0.length := by omega
    have hv := HV.out; rw [Nat.sub_self, List.range'_zero, rdA] at hv; obtain rfl := Option.some.inj hv; have hd : decide (((l0.length : Nat) : Int) < ((l0.length : Nat) : Int)) = false := decide_eq_false (by omega)
    clear hv HV; have hS := HF.out.o.row (base := w.heap.size) HF.out.wgo (by rw [HF.out.o.len, HS.out]; unfold maxLen; omega)
    rw [show vs.length = ls.length by rw [HF.out.o.len]] at hS
    have HCL := Aside0.mk (Kd.S_reads' hS).2.2; have HBL := Aside0.mk HF.out.below; have hgl : go < wr.heap.size := blk_lt HF.out.o.top
    have hln : l0.length = ls.length := HS.out.symm
    clear hS HF HLL; rw [hln] at hd hlen
    rw [hln]; have HLN := Aside0.mk hln; clear hln; have hmk := print_make_of (P := Try.prog) 33 3 (.int .i64 0) 8 Try.underlying33 A.info3 rfl (by decide) ls.length (by omega)
    go_upto_region 17 with (fail)
    clear hmk; refine gen_world (P := fun W => W.heap[wr.heap.size]? = some (.cells (nums .i64 (List.replicate ls.length 0)).toArray 3 (0, 0)) ∧ W.heap[wr.heap.size + 1]? = some (.cells #[.slice (some ⟨wr.heap.size, 0, none⟩) ls.length ls.length] 33 (0, 0)) ∧ W.heap[wr.heap.size + 1 + 1]? = some (.cells #[.int .i64 0] 3 (0, 0)) ∧ Below wr.heap.size wr W) ?_ ?_
    ·have e0 : (madeCells #[(.int .i64 0 : Value)] ls.length) = (nums .i64 (List.replicate ls.length 0)).toArray := by
      apply Array.ext_getElem?
      intro i
      simp only [madeCells, nums, Array.getElem?_map, List.getElem?_toArray, List.map_replicate]
      by_cases hi : i < ls.length
      ·rw [Array.getElem?_eq_getElem (by simpa using hi), List.getElem?_eq_getElem (by simpa using hi)]; simp [Nat.mod_one]
      ·rw [Array.getElem?_eq_none (by simpa using hi), List.getElem?_eq_none (by simpa using hi)]; rfl
     rw [e0]; exact ⟨blk_alloc (blk_alloc (new_at _ rfl) _) _, blk_alloc (new_at _ (by simp)) _, new_at _ (by simp), below_alloc (below_alloc (below_alloc (Below.refl _ _) _) _) _⟩
    rintro Wi ⟨hgp, hbp, hbi, hbw⟩
    have HGP := Aside0.mk hgp; have HBP := Aside0.mk hbp; have HBI := Aside0.mk hbi; have HBW := Aside0.mk hbw; clear hgp hbp hbi hbw; go_wp2_with fail
    refine (post_calls' (some ⟨go, 0, none⟩) ls.length ls.length 0 Wi).mono ?_
    rintro e WP ⟨b, rfl, hpo⟩
    have HPO := Aside0.mk hpo; clear hpo; go_wp2_with fail
    have hbW : Below wr.heap.size wr WP := HBW.out.trans (HPO.out.below.mono HBW.out.size)
    have hbge : wr.heap.size + 1 + 1 < b := Nat.lt_of_lt_of_le (blk_lt HBI.out) HPO.out.hb
    have hI0 : PlI wr WP wr.heap.size b go ls.length [] (List.replicate ls.length 0) := ⟨rfl, blk_below HGP.out HPO.out.below, blk_below HBP.out HPO.out.below, blk_below HBI.out HPO.out.below, HPO.out.b0, HPO.out.b1, hbW⟩
    have hord : order.length ≤ 17592186044416 := by
     have h := HOr.out; unfold graph_collect.f collectF at h
     split at h
     case isFalse => cases h
     split at h
     case isFalse => cases h
     split at h
     case isFalse => cases h
     obtain ⟨l, _, h2⟩ := Option.bind_eq_some_iff.mp h; split at h2
     case isFalse => cases h2
     next h3 => obtain rfl := Option.some.inj h2; exact h3
    have HI0 := Aside0.mk hI0; have HBWP := Aside0.mk hbW; clear hI0 hbW HGP HBP HBI; refine (wpIn_wide (n := 3)).1 ?_
    refine wpIn_rangeFunc_ty (F := Fence.wide) (n := 3) (α := Int) rfl (by decide) (gf := 71) (lb := #[.pointer (some ⟨b, 0, none⟩), .pointer (some ⟨b + 1, 0, none⟩)]) rfl trivial (enters_of Try.func71 (by kernel_rfl) rfl)
     (encs := fun x : Int => #[.int .i64 x]) (Ty := Ty) (Kp := KpT wr) (S := fun xs => xs = order) (Pk := fun pre x => ∃ rest, order = pre ++ x :: rest)
     (Fx := fun W => W.cell? ⟨b, 0, none⟩ = some (.slice (some ⟨go, 0, none⟩) ls.length ls.length) ∧ W.cell? ⟨b + 1, 0, none⟩ = some (.int .i64 0) ∧ Kd.C (Kd.slice 3 (Kd.int .i64)) W (some ⟨go, 0, none⟩) ls.length ls) (w0 := WP)
     ?hseq (fun h k => KpT.t h k) (KpT.b HBWP.out.size) (Below.refl _ _) (fun _ => rfl)
     (fun pre W => ∃ pl, PlI wr W wr.heap.size b go ls.length pre pl) ?own ?ty ?fx ⟨_, HI0.out⟩ ?a1 ?assign ?body ?done
    case assign =>
     intro l x W K hK
     gi_wp2
     exact hK
    case hseq =>
     intro l J W2 hW2 hJ hFx hY h0
     exact callsIn_wide.2 (post_iter 1 k (some ⟨go, 0, none⟩) ls.length ls 0 order b (b + 1) l wr W2 J hFx HOr.out (HBWP.out.trans (hW2.mono HBWP.out.size)) hJ hY h0)
    case own =>
     rintro pre W W' row ⟨pl, h⟩ hg hr
     exact ⟨pl, h.kept hg (fun k e => Nat.le_trans HBWP.out.size (hr k e).1) (fun k cs t hk _ e => by
      obtain ⟨_, o, ho, hc⟩ := hr k e.symm; rw [hk] at ho; cases ho; cases hc)⟩
    case ty =>
     rintro pre W W' row ⟨pl, h⟩ hg hr
     exact ⟨pl, h.kept hg (fun k e => Nat.le_trans HBWP.out.size (hr k e).1) (fun k cs t hk hn e => by
      obtain ⟨_, cs2, t2, fr, ho, hc⟩ := hr k e.symm; rw [hk] at ho; cases ho; exact hn hc)⟩
    case fx =>
     rintro pre W ⟨pl, h⟩
     exact ⟨(blk_cell h.b0 0).trans rfl, (blk_cell h.b1 0).trans rfl, Kd.C_below HCL.out h.below⟩
    case body =>
     rintro l pre x W ⟨pl, h⟩ ⟨rest, hrest⟩
     have hp := HPl.out; rw [HLN.out, hrest, plF_append, h.f] at hp; simp only [Option.bind_some, plF] at hp
     by_cases hx0 : 0 ≤ x
     case neg => rw [if_neg hx0] at hp; cases hp
     rw [if_pos hx0] at hp; by_cases hx1 : x < (pl.length : Int)
     case neg => rw [if_neg hx1] at hp; cases hp
     clear hp; obtain ⟨xn, rfl⟩ := Int.eq_ofNat_of_zero_le hx0; have hl := h.len; have hxn : xn < ls.length := by omega
     have hpre : pre.length < order.length := by rw [hrest]; simp
     have hxp : xn < pl.length := by omega
     have cbp : W.cell? ⟨wr.heap.size + 1, 0, none⟩ = some (.slice (some ⟨wr.heap.size, 0, none⟩) ls.length ls.length) := (blk_cell h.bp 0).trans rfl
     have cbi : W.cell? ⟨wr.heap.size + 1 + 1, 0, none⟩ = some (.int .i64 (pre.length : Int)) := (blk_cell h.bi 0).trans rfl
     have cg : W.cell? ⟨wr.heap.size, xn, none⟩ = some (.int .i64 pl[xn]) := by rw [blk_cell h.g xn]; simp [nums, hxp]
     have fg := blk_frozen h.g xn; have fi := blk_frozen h.bi 0; have HST := Aside0.mk (h.step (Nat.le_refl _) hbge xn hxn); have HH := Aside0.mk h; have hb2 := blk_grown h.bi (grownBy_set0 W ⟨wr.heap.size, xn, none⟩ (.int .i64 (pre.length : Int))) (fun e => absurd (Option.some.inj e) (by show wr.heap.size + 1 + 1 ≠ wr.heap.size; omega))
     have cbi2 : (W.setCell ⟨wr.heap.size, xn, none⟩ (.int .i64 (pre.length : Int))).cell? ⟨wr.heap.size + 1 + 1, 0, none⟩ = some (.int .i64 (pre.length : Int)) := (blk_cell hb2 0).trans rfl
     have fi2 := blk_frozen hb2 0; clear h hrest hl hx0 hx1 hb2; gi_wp2
     refine ⟨(KeepsOthers.setCell _ _ _).trans (KeepsOthers.setCell _ _ _), ⟨?_, ?_⟩, _, HST.out⟩
     ·have h1 : wr.heap.size ≤ (⟨wr.heap.size, xn, none⟩ : Addr).block := Nat.le_refl _
      have h2 : wr.heap.size ≤ (⟨wr.heap.size + 1 + 1, 0, none⟩ : Addr).block := (show wr.heap.size ≤ wr.heap.size + 1 + 1 by omega)
      exact ((Below.refl _ W).setCell h1 _).setCell h2 _
     ·intro kk cs t fr hk ht
      have n1 : kk ≠ wr.heap.size := by
       rintro rfl
       rw [HH.out.g] at hk; cases hk; rcases ht with h | h <;> cases h
      have n2 : kk ≠ wr.heap.size + 1 + 1 := by
       rintro rfl
       rw [HH.out.bi] at hk; cases hk; rcases ht with h | h <;> cases h
      rw [Below.heap_setCell _ _ _ kk n2, Below.heap_setCell _ _ _ kk n1]
    case done =>
     rintro D xs W hD rfl ⟨pl, hI⟩ hK
     have hlp := hI.len; obtain rfl : pl = place := by
      have h1 := HPl.out; rw [HLN.out, hI.f] at h1; exact Option.some.inj h1
     have HP := Aside0.mk hI; have HD := Aside0.mk hK; have HDg := Aside0.mk hD; clear h hI hK HPl hD; go_wp2_with fail
     have hl1 : Kd.R (Kd.int .i64) 3 (W.alloc (.cells #[.int .i64 0] 3)) W.heap.size (fun _ => True) (.slice (some ⟨W.heap.size, 0, none⟩) 1 1) [0] :=
      Kd.R_of_own ⟨rfl, .inr ⟨W.heap.size, 1, _, rfl, Nat.le_refl _, new_at _ rfl, Nat.le_refl _, by decide, rfl, rfl⟩⟩ (fun _ _ => trivial)
     refine (graph_fromOpen.calls k _ _ ls _ _ [0] seen _ (Kd.C_alloc (Kd.C_below HCL.out HP.out.below) _) (Nat.le_refl _) (Kd.R_reads' hl1).2.2 (Nat.le_refl _) HSn.out).mono ?_
     clear hl1; rintro e WF ⟨vS, rfl, hrS, hbS⟩
     obtain ⟨AS, cS, rfl⟩ := Kd.R_slice hrS; have hbF : Below W.heap.size W WF := (below_alloc (Below.refl _ _) _).trans (hbS.mono (by simp))
     have HBF : Aside0 (Below wr.heap.size wr WF) := ⟨HP.out.below.trans (hbF.mono HP.out.below.size)⟩
     have HGF := Aside0.mk (blk_below HP.out.g hbF); have HPF := Aside0.mk (blk_below HP.out.bp hbF); have HDF := Aside0.mk (blk_below HD.out hbF); have HSF := Aside0.mk hrS; have HBWF : Aside0 (Below w.heap.size w WF) := ⟨HBL.out.trans (HBF.out.mono HBL.out.size)⟩
     have HDW : Aside0 (w.heap.size ≤ D) := ⟨Nat.le_trans (Nat.le_trans HBL.out.size HBWP.out.size) HDg.out⟩
     have hmS := Kd.C_max (Kd.R_reads' hrS).2.2; have HR1 : Aside0 (rdD seen pl ls (List.range' 0 ls.length) = some rr) := ⟨by rw [← List.range_eq_range']; exact HRr.out⟩
     have HCF := Aside0.mk (Kd.C_below HCL.out HBF.out); clear hrS hbS hbF HP HD HRr HSn HOr HI0 HPO HBW HBF HCL; obtain ⟨gp, hgp⟩ : ∃ g, g = wr.heap.size := ⟨_, rfl⟩; rw [← hgp] at HGF HPF
     rw [← hgp]; clear hgp; go_wp2
     go_loopw [75] (fun i wq => ∃ (j : Nat), j ≤ ls.length ∧ i = .int .i64 j ∧ Aside0 (rdD seen pl ls (List.range' j (ls.length - j)) = some rr) ∧ Aside0 (Below WF.heap.size WF wq)) (fun i _ => ls.length - (intOf i).toNat)
     case atStart => exact ⟨0, by omega, rfl, HR1, ⟨Below.refl _ _⟩⟩
     case round =>
      clear HR1; obtain ⟨j, hj, rfl, HV, HW⟩ := hrel; by_cases hlt : j < ls.length
      ·have hv := HV.out; rw [show ls.length - j = (ls.length - (j + 1)) + 1 by omega, List.range'_succ, rdD] at hv
       obtain ⟨rb, hp1, hp2⟩ := Option.bind_eq_some_iff.mp hv; obtain ⟨ad0, Ar, cr, e0, hrow0, hrc, hread⟩ := at_L1 HCF.out (j : Int) (by omega) (by omega)
       cases e0; simp only [add_plain, Int.toNat_natCast] at hrow0
       have hrow1 := (HW.out.cell (World.block_lt_of_cell? _ _ hrow0)).trans hrow0; have HROW := Aside0.mk hread; have hmR := Kd.C_max hread; have hP1 := Aside0.mk hp1; have hP2 := Aside0.mk hp2; clear hv HV hp1 hp2 hread hrc hrow0; generalize rd_L1 ls (j : Int) = row at *
       go_wp2
       clear hrow1; go_loopw [82] (fun i wq => ∃ (q : Nat), q ≤ row.length ∧ i = .int .i64 q ∧ Aside0 (rdC seen pl j (row.drop q) = some rb) ∧ Aside0 (Below WF.heap.size WF wq)) (fun i _ => row.length - (intOf i).toNat)
       case atStart => exact ⟨0, by omega, rfl, hP1, HW⟩
       case round =>
        clear hP1 HW; obtain ⟨q, hq, rfl, HV, HW⟩ := hrel; by_cases hlq : q < row.length
        ·have hv := HV.out; rw [List.drop_eq_getElem_cons hlq, rdC] at hv; obtain ⟨p, hp⟩ : ∃ p, p = row[q] := ⟨_, rfl⟩; rw [← hp] at hv; by_cases hjs : j < seen.length
         case neg => rw [if_neg hjs] at hv; cases hv
         rw [if_pos hjs] at hv; obtain ⟨adR, eR, hcR⟩ := Kd.at_int (Kd.C_below HROW.out HW.out) (q : Int) (by omega) (by omega)
         cases eR; rw [Int.toNat_natCast, show rd row (q : Int) = p by unfold rd; rw [Int.toNat_natCast, List.getD_eq_getElem?_getD, List.getElem?_eq_getElem hlq, hp]; rfl] at hcR
         obtain ⟨adS, eS, hcS⟩ := Kd.at_bool (Kd.R_reads' (Kd.R_below HSF.out HW.out)).2.2 (j : Int) (by omega) (by omega)
         cases eS; rw [Int.toNat_natCast] at hcS; have cbp : wr.cell? ⟨gp + 1, 0, none⟩ = some (.slice (some ⟨gp, 0, none⟩) ls.length ls.length) := (blk_cell (blk_below HPF.out HW.out) 0).trans rfl
         by_cases hs : rdOf false seen (j : Int) = true
         ·rw [if_pos hs] at hv; rw [hs] at hcS; by_cases h0 : 0 ≤ p
          case neg => rw [if_neg h0] at hv; cases hv
          rw [if_pos h0] at hv; by_cases h1 : p < (pl.length : Int)
          case neg => rw [if_neg h1] at hv; cases hv
          rw [if_pos h1] at hv; by_cases h2 : j < pl.length
          case neg => rw [if_neg h2] at hv; cases hv
          rw [if_pos h2] at hv; obtain ⟨pn, rfl⟩ := Int.eq_ofNat_of_zero_le h0; have hpn : pn < ls.length := by omega
          have hpp : pn < pl.length := by omega
          have c1 : wr.cell? ⟨gp, pn, none⟩ = some (.int .i64 (rd pl (pn : Int))) := by rw [blk_cell (blk_below HGF.out HW.out) pn]; simp [nums, rd, hpp]
          have c2 : wr.cell? ⟨gp, j, none⟩ = some (.int .i64 (rd pl (j : Int))) := by rw [blk_cell (blk_below HGF.out HW.out) j]; simp [nums, rd, h2]
          clear hp hs HV; by_cases hge : rd pl (pn : Int) ≥ rd pl (j : Int)
          ·rw [if_pos hge] at hv; obtain rfl := Option.some.inj hv; have hd3 : decide (rd pl (pn : Int) ≥ rd pl (j : Int)) = true := decide_eq_true hge
           have hd4 : decide (rd pl (j : Int) ≤ rd pl (pn : Int)) = true := decide_eq_true hge
           have hP3 := hP2.out; rw [if_neg (by simp)] at hP3
           obtain rfl := Option.some.inj hP3; clear hv hge hP2 hP3; go_wp2
           repeat (go_quiet (fail); try go_wp2)
           have HWq : Aside0 (Below WF.heap.size WF (wr.drewN nq)) := ⟨pw_below_drewN HW.out nq⟩
           have HDQ := Aside0.mk ((HWq.out.block D (blk_lt HDF.out)).trans HDF.out); exact ⟨by simp, .inl ⟨_, _, rfl, run_takeDeferred HDQ.out, _, results_tmp2 rfl _ _ _, rfl, (HBWF.out.trans (HWq.out.mono HBWF.out.size)).trans (belowK_b (w := w) (Nat.le_refl _) _ D _ _ HDW.out HDQ.out rfl rfl)⟩⟩
          ·rw [if_neg hge] at hv; have hd3 : decide (rd pl (pn : Int) ≥ rd pl (j : Int)) = false := decide_eq_false hge
           have hd4 : decide (rd pl (j : Int) ≤ rd pl (pn : Int)) = false := decide_eq_false hge
           have HV2 := Aside0.mk hv; clear hv hge; go_wp2
           repeat (go_quiet (fail); try go_wp2)
           go_roundw
           case rel => exact ⟨q + 1, by omega, by go_num, HV2, ⟨pw_below_drewN HW.out _⟩⟩
           case measure => simp [intOf]; omega
         ·rw [if_neg hs] at hv; rw [Bool.eq_false_iff.mpr hs] at hcS; have HV2 := Aside0.mk hv; clear hv hp hs HV; go_wp2
          repeat (go_quiet (fail); try go_wp2)
          go_roundw
          case rel => exact ⟨q + 1, by omega, by go_num, HV2, ⟨pw_below_drewN HW.out _⟩⟩
          case measure => simp [intOf]; omega
        ·obtain rfl : q = row.length := by omega
         have hv := HV.out; rw [List.drop_of_length_le (Nat.le_refl _), rdC] at hv; obtain rfl := Option.some.inj hv; have hd3 : decide (((row.length : Nat) : Int) < ((row.length : Nat) : Int)) = false := decide_eq_false (by omega)
         have hP3 := hP2.out; rw [if_pos rfl] at hP3; have HP3 := Aside0.mk hP3; clear hv HV hP3 hP2; go_wp2
         go_roundw
         case rel => exact ⟨j + 1, by omega, by go_num, HP3, HW⟩
         case measure => simp [intOf]; omega
      ·obtain rfl : j = ls.length := by omega
       have hv := HV.out; rw [Nat.sub_self, List.range'_zero, rdD] at hv; obtain rfl := Option.some.inj hv; have hd2 : decide (((ls.length : Nat) : Int) < ((ls.length : Nat) : Int)) = false := decide_eq_false (by omega)
       have HDQ := Aside0.mk ((HW.out.block D (blk_lt HDF.out)).trans HDF.out); clear hv HV; go_wp2
       exact ⟨by simp, .inl ⟨_, _, rfl, run_takeDeferred HDQ.out, _, results_tmp2 rfl _ _ _, rfl, (HBWF.out.trans (HW.out.mono HBWF.out.size)).trans (belowK_b (w := w) (Nat.le_refl _) _ D _ _ HDW.out HDQ.out rfl rfl)⟩⟩
end Go.Proofs.Ytjjedbcgkljdeaa.D
end
section
namespace Go.Proofs.Ytjjedbcgkljdeaa.A
open Go.RowKit Go.Proofs.YtjjedbcgkljdeaaW.PrintWords Go.Proofs.YtjjedbcgkljdeaaW.PrintLast Go.Proofs.YtjjedbcgkljdeaaW.PrintMore
set_option linter.unusedVariables false
set_option linter.unusedSimpArgs false
mutual
def r7_visit.l0 : Nat → List (List Int) → Int → List Bool → List Int → Int → Option (List Int × List Bool)
 | 0, _, _, _, _, _ => none
 | k + 1, x0, x1, x2, x3, x9 => if 0 ≤ x1 then (if x1 < (x0.length : Int) then (if x9 < ((rd_L1 x0 x1).length : Int) then (if 0 ≤ x9 then (if 0 ≤ (rd (rd_L1 x0 x1) x9) then (if (rd (rd_L1 x0 x1) x9) < (x2.length : Int) then (if (rdOf false x2 (rd (rd_L1 x0 x1) x9) = true) then (r7_visit.l0 k x0 x1 x2 x3 (wrap64 (x9 + 1))) else ((r7_visit.f k x0 (rd (rd_L1 x0 x1) x9) x2 x3).bind fun bt200 => (r7_visit.l0 k x0 x1 bt200.2 bt200.1 (wrap64 (x9 + 1))))) else (none)) else (none)) else (none)) else ((some (([x1] : List Int) : List Int)).bind fun y204 => (if y204.length + x3.length < 17592186044416 then (some ((y204 ++ x3), x2)) else (none)))) else (none)) else (none)
def r7_visit.f : Nat → List (List Int) → Int → List Bool → List Int → Option (List Int × List Bool)
 | 0, _, _, _, _ => none
 | k + 1, l0, a1, l2, l3 => if 0 ≤ a1 then (if a1 < (l2.length : Int) then (r7_visit.l0 k l0 a1 (l2.set (a1 : Int).toNat true) l3 0) else (none)) else (none)
end
def r7_Order.f (k : Nat) (l0 : List (List Int)) : Option (List Int) := if 0 ≤ (l0.length : Int) then (if ((l0.length : Int) : Int).toNat ≤ 281474976710656 then ((r7_visit.f k l0 0 (List.replicate ((l0.length : Int) : Int).toNat false) ([] : List Int)).bind fun bt213 => (some bt213.1)) else (none)) else (none)
mutual
def r7_Table.l0 : Nat → List (List Int) → List Bool → List (List Bool) → Int → Option ((List (List Bool)))
 | 0, _, _, _, _ => none
 | k + 1, x0, x3, x4, x5 => if x5 < (x0.length : Int) then (if 0 ≤ (x0.length : Int) then (if ((x0.length : Int) : Int).toNat ≤ 281474976710656 then ((some (List.replicate ((x0.length : Int) : Int).toNat false : List Bool)).bind fun y220 => (if 0 ≤ x5 then (if x5 < (x3.length : Int) then (if rdOf false x3 x5 = true then ((r7_From.f k x0 (([0] : List Int)) x5).bind fun t227 => (r7_Table.l1 k x0 x3 x4 x5 y220 t227 0)) else (if x4.length < 5864062014805 then (r7_Table.l0 k x0 x3 (x4 ++ [y220]) (wrap64 (x5 + 1))) else (none))) else (none)) else (none))) else (none)) else (none)) else (some x4)
def r7_Table.l1 : Nat → List (List Int) → List Bool → List (List Bool) → Int → List Bool → List Bool → Int → Option ((List (List Bool)))
 | 0, _, _, _, _, _, _, _ => none
 | k + 1, x0, x3, x4, x5, x6, x7, x8 => if x8 < (x0.length : Int) then (if 0 ≤ x8 then (if x8 < (x3.length : Int) then (if rdOf false x3 x8 = true then (if x8 < (x7.length : Int) then (if x8 < (x6.length : Int) then (r7_Table.l1 k x0 x3 x4 x5 (x6.set (x8 : Int).toNat (!(rdOf false x7 x8))) x7 (wrap64 (x8 + 1))) else (none)) else (none)) else (if x8 < (x6.length : Int) then (r7_Table.l1 k x0 x3 x4 x5 (x6.set (x8 : Int).toNat false) x7 (wrap64 (x8 + 1))) else (none))) else (none)) else (none)) else (if x4.length < 5864062014805 then (r7_Table.l0 k x0 x3 (x4 ++ [x6]) (wrap64 (x5 + 1))) else (none))
end
def r7_Table.f (k : Nat) (l0 : List (List Int)) : Option ((List (List Bool))) := (r7_Reached.f k l0).bind fun t217 => (r7_Table.l0 k l0 t217 ([] : List (List Bool)) 0)
end Go.Proofs.Ytjjedbcgkljdeaa.A
end
section
namespace Go.Proofs.Ytjjedbcgkljdeaa.R
open Go Go.RowKit Go.Shelf Go.Proofs.YtjjedbcgkljdeaaW.PrintWords Go.Proofs.YtjjedbcgkljdeaaW.PrintLast Go.Proofs.YtjjedbcgkljdeaaW.PrintMore Go.Proofs.Ytjjedbcgkljdeaa Go.Proofs.Ytjjedbcgkljdeaa.A Go.Proofs.Ytjjedbcgkljdeaa.B Go.Proofs.Ytjjedbcgkljdeaa.D
def rgIn (tn : List Int) (t : Int) : List Int → List (List Int) → Option (List (List Int))
 | [], h => some h
 | x :: xs, h => if 0 ≤ x then if x < (tn.length : Int) then if (rd_L1 h t).length < 17592186044416 then rgIn tn t xs (h.set t.toNat (rd_L1 h t ++ [rd tn x])) else none else none else none
def rgOut (tn : List Int) (g : List (List Int)) : List Nat → List (List Int) → Option (List (List Int))
 | [], h => some h
 | i :: is, h => if i < tn.length then if 0 ≤ rd tn (i : Int) then if rd tn (i : Int) < (h.length : Int) then (rgIn tn (rd tn (i : Int)) (rd_L1 g (i : Int)) h).bind fun h1 => rgOut tn g is h1 else none else none else none
def renamed_graph.f (_k : Nat) (g : List (List Int)) (tn : List Int) : Option (List (List Int)) :=
 if g.length ≤ 5864062014805 then rgOut tn g (List.range g.length) (List.replicate g.length []) else none
def renamed_round.f (k : Nat) (tn a b c d : List Int) (x y l m : List (List Int)) (i : Int) : Option Bool :=
 if 0 ≤ i then if i < (tn.length : Int) then if 0 ≤ rd tn i then
  if i < (a.length : Int) then if rd tn i < (b.length : Int) then if i < (c.length : Int) then if rd tn i < (d.length : Int) then
  if i < (x.length : Int) then if rd tn i < (y.length : Int) then if i < (l.length : Int) then if rd tn i < (m.length : Int) then
   (l7_moved.f tn (rd a i)).bind fun t1 => if rd b (rd tn i) = t1 then
   (l7_moved.f tn (rd c i)).bind fun t2 => if rd d (rd tn i) = t2 then
   (l7_all.f k tn (rd_L1 x i)).bind fun t3 => (r5_SameInts.f k (rd_L1 y (rd tn i)) t3).bind fun s1 => if s1 = true then
   (l7_all.f k tn (rd_L1 l i)).bind fun t4 => (r5_SameInts.f k (rd_L1 m (rd tn i)) t4).bind fun s2 => if s2 = true then some false else none else none else none else none
  else none else none else none else none else none else none else none else none else none else none else none
end Go.Proofs.Ytjjedbcgkljdeaa.R
end
section
namespace Go.Proofs.Ytjjedbcgkljdeaa.R
open Go Go.RowKit Go.Shelf Go.Proofs.YtjjedbcgkljdeaaW.PrintWords Go.Proofs.YtjjedbcgkljdeaaW.PrintLast Go.Proofs.YtjjedbcgkljdeaaW.PrintMore Go.Proofs.Ytjjedbcgkljdeaa Go.Proofs.Ytjjedbcgkljdeaa.A Go.Proofs.Ytjjedbcgkljdeaa.B Go.Proofs.Ytjjedbcgkljdeaa.D
section
variable {P : Program} {ops : Array Oper} {Q : Exit → Act → World → Prop} {md : Region.Mode} {S : World → Prop} {ds : List Nat} {T : Bool × List (List Nat × List Nat)}
theorem pv_ (i K : Nat) {oi : Oper} {v : Value} {fuel : Nat} {l : Array Bool} {a a' : Act} {w : World} (l' : Array Bool) (hi : ops[i]? = some oi) (hN : oi.dst = some K) (HT : Aside0 (rtab md ops = T)) (h : wpAnyLast P md ops Q S ds fuel l' a' w)
  (hc : anyT T l.toList l'.toList i = true := by kernel_rfl) (hw : Region.wanted oi (yielded ops a.tmps) = true := by rfl) (hy : ∀ w, (execOp a.eval oi).run P w = .ok (.value v) w := by (intro w'; go_simp; with_reducible rfl)) (hQ : ∀ c a w, Q (.panic c) (a.put oi.dst v) w → Q (.panic c) a w := by exact fun _ _ _ h => h) (ha : a.put (some K) v = a' := by simp only [Act.put, List.setIfInBounds_toArray, List.set_cons_zero, List.set_cons_succ, i64_w, i32_w]; rfl) : wpAnyLast P md ops Q S ds (fuel + 1) l a w :=
 pure_ l' hi hN (any_of HT.out hc) hQ (Or.inl ⟨hw, hy⟩) ha h
theorem tk_ (i K : Nat) {oi : Oper} {v : Value} {fuel : Nat} {l : Array Bool} {a a' : Act} {w : World} {B : List Nat} (l' : Array Bool) (hi : ops[i]? = some oi) (hN : oi.dst = some K) (HT : Aside0 (rtab md ops = T)) (HW : Aside0 (waitsOk T.2 B = true)) (hS : S w) (h : wpAnyLast P md ops Q S ds fuel l' a' w)
  (hc : takeW T B ds l.toList l'.toList i = true := by kernel_rfl) (hw : Region.wanted oi (yielded ops a.tmps) = true := by rfl) (hy : ∀ w, S w → (execOp a.eval oi).run P w = .ok (.value v) w := by (intro w' s0; (repeat (obtain ⟨_, s0⟩ := s0)); go_simp; with_reducible rfl)) (hQ : ∀ c a w, Q (.panic c) (a.put oi.dst v) w → Q (.panic c) a w := by exact fun _ _ _ h => h) (ha : a.put (some K) v = a' := by simp only [Act.put, List.setIfInBounds_toArray, List.set_cons_zero, List.set_cons_succ, i64_w, i32_w]; rfl) : wpAnyLast P md ops Q S ds (fuel + 1) l a w :=
 take_ l' hi hN (take_ofW HT.out HW.out hc) hQ (Or.inl ⟨hw, hy⟩) hS ha h
end
def rn.T22 : Bool × List (List Nat × List Nat) := (true, [([], []), ([], []), ([], []), ([1, 2], [1, 2]), ([3], [3]), ([], []), ([], []), ([], []), ([6, 7], [6, 7]), ([8], [8]), ([5, 9], [5, 9]), ([10], [10]), ([], []), ([], []), ([], []), ([13, 14], [13, 14]), ([15], [15]), ([], []), ([16, 17], [16, 17]), ([18], [18]), ([12, 19], [12, 19]), ([20], [20]), ([21], [21]), ([11, 22], [11, 22]), ([0, 4, 0, 1, 2, 3, 4, 5, 6, 7, 8, 9, 10, 11, 12, 13, 14, 15, 16, 17, 18, 19, 20, 21, 22, 23], [0, 4]), ([24, 23, 23, 0, 1, 2, 3, 4, 5, 6, 7, 8, 9, 10, 11, 12, 13, 14, 15, 16, 17, 18, 19, 20, 21, 22, 23], [23, 24])])
def rn.B22 : List Nat := [0, 0, 0, 6, 14, 0, 0, 0, 192, 448, 992, 2016, 0, 0, 0, 24576, 57344, 0, 253952, 516096, 1044480, 2093056, 4190208, 8388576, 16777215, 33554431]
theorem rn.tab22 : rtab .any (opsOf Try.f6 22) = rn.T22 := by kernel_rfl
theorem rn.bits22 : waitsOk rn.T22.2 rn.B22 = true := by kernel_rfl
abbrev rn.b22_0 : Array Bool := #[false, false, false, false, false, false, false, false, false, false, false, false, false, false, false, false, false, false, false, false, false, false, false, false, false, false]
abbrev rn.b22_1 : Array Bool := #[true, false, false, false, false, false, false, false, false, false, false, false, false, false, false, false, false, false, false, false, false, false, false, false, false, false]
abbrev rn.b22_2 : Array Bool := #[true, true, false, false, false, false, false, false, false, false, false, false, false, false, false, false, false, false, false, false, false, false, false, false, false, false]
abbrev rn.b22_3 : Array Bool := #[true, true, true, false, false, false, false, false, false, false, false, false, false, false, false, false, false, false, false, false, false, false, false, false, false, false]
abbrev rn.b22_4 : Array Bool := #[true, true, true, true, false, false, false, false, false, false, false, false, false, false, false, false, false, false, false, false, false, false, false, false, false, false]
abbrev rn.b22_5 : Array Bool := #[true, true, true, true, false, true, false, false, false, false, false, false, false, false, false, false, false, false, false, false, false, false, false, false, false, false]
abbrev rn.b22_6 : Array Bool := #[true, true, true, true, false, true, true, false, false, false, false, false, false, false, false, false, false, false, false, false, false, false, false, false, false, false]
abbrev rn.b22_7 : Array Bool := #[true, true, true, true, false, true, true, true, false, false, false, false, false, false, false, false, false, false, false, false, false, false, false, false, false, false]
abbrev rn.b22_8 : Array Bool := #[true, true, true, true, false, true, true, true, true, false, false, false, false, false, false, false, false, false, false, false, false, false, false, false, false, false]
abbrev rn.b22_9 : Array Bool := #[true, true, true, true, false, true, true, true, true, false, false, false, true, false, false, false, false, false, false, false, false, false, false, false, false, false]
abbrev rn.b22_10 : Array Bool := #[true, true, true, true, false, true, true, true, true, false, false, false, true, true, false, false, false, false, false, false, false, false, false, false, false, false]
abbrev rn.b22_11 : Array Bool := #[true, true, true, true, false, true, true, true, true, false, false, false, true, true, true, false, false, false, false, false, false, false, false, false, false, false]
abbrev rn.b22_12 : Array Bool := #[true, true, true, true, false, true, true, true, true, false, false, false, true, true, true, true, false, false, false, false, false, false, false, false, false, false]
abbrev rn.b22_13 : Array Bool := #[true, true, true, true, false, true, true, true, true, false, false, false, true, true, true, true, false, true, false, false, false, false, false, false, false, false]
abbrev rn.b22_14 : Array Bool := #[true, true, true, true, true, true, true, true, true, false, false, false, true, true, true, true, false, true, false, false, false, false, false, false, false, false]
abbrev rn.b22_15 : Array Bool := #[true, true, true, true, true, true, true, true, true, true, false, false, true, true, true, true, false, true, false, false, false, false, false, false, false, false]
abbrev rn.b22_16 : Array Bool := #[true, true, true, true, true, true, true, true, true, true, true, false, true, true, true, true, false, true, false, false, false, false, false, false, false, false]
abbrev rn.b22_17 : Array Bool := #[true, true, true, true, true, true, true, true, true, true, true, true, true, true, true, true, false, true, false, false, false, false, false, false, false, false]
abbrev rn.b22_18 : Array Bool := #[true, true, true, true, true, true, true, true, true, true, true, true, true, true, true, true, true, true, false, false, false, false, false, false, false, false]
abbrev rn.b22_19 : Array Bool := #[true, true, true, true, true, true, true, true, true, true, true, true, true, true, true, true, true, true, true, false, false, false, false, false, false, false]
abbrev rn.b22_20 : Array Bool := #[true, true, true, true, true, true, true, true, true, true, true, true, true, true, true, true, true, true, true, true, false, false, false, false, false, false]
abbrev rn.b22_21 : Array Bool := #[true, true, true, true, true, true, true, true, true, true, true, true, true, true, true, true, true, true, true, true, true, false, false, false, false, false]
abbrev rn.b22_22 : Array Bool := #[true, true, true, true, true, true, true, true, true, true, true, true, true, true, true, true, true, true, true, true, true, true, false, false, false, false]
abbrev rn.b22_23 : Array Bool := #[true, true, true, true, true, true, true, true, true, true, true, true, true, true, true, true, true, true, true, true, true, true, true, false, false, false]
abbrev rn.b22_24 : Array Bool := #[true, true, true, true, true, true, true, true, true, true, true, true, true, true, true, true, true, true, true, true, true, true, true, true, false, false]
abbrev rn.b22_25 : Array Bool := #[true, true, true, true, true, true, true, true, true, true, true, true, true, true, true, true, true, true, true, true, true, true, true, true, true, false]
abbrev rn.b22_26 : Array Bool := #[true, true, true, true, true, true, true, true, true, true, true, true, true, true, true, true, true, true, true, true, true, true, true, true, true, true]
def rn.T38 : Bool × List (List Nat × List Nat) := (true, [([], []), ([], []), ([], []), ([1, 2], [1, 2]), ([3], [3]), ([0, 4], [0, 4]), ([5], [5]), ([], []), ([], []), ([], []), ([8, 9], [8, 9]), ([10], [10]), ([7, 11], [7, 11]), ([6, 12], [6, 12]), ([13, 12], [13]), ([14], [14]), ([14], [14]), ([14], [14]), ([16, 17, 14], [14, 16, 17]), ([18, 14], [14, 18]), ([15, 19, 14], [14, 15, 19]), ([20, 14], [14, 20]), ([14], [14]), ([14], [14]), ([14], [14]), ([23, 24, 14], [14, 23, 24]), ([25, 14], [14, 25]), ([22, 26, 14, 14], [14, 22, 26]), ([21, 27, 14], [14, 21, 27]), ([14, 28], [14, 28]), ([29, 27], [29]), ([30], [30]), ([30], [30]), ([30], [30]), ([32, 33, 30], [30, 32, 33]), ([34, 30], [30, 34]), ([31, 35, 30], [30, 31, 35]), ([36, 30], [30, 36]), ([30], [30]), ([30], [30]), ([30], [30]), ([39, 40, 30], [30, 39, 40]), ([41, 30], [30, 41]), ([38, 42, 30, 30], [30, 38, 42]), ([37, 43, 43, 30], [30, 37, 43]), ([44, 30], [30, 44]), ([30, 45], [30, 45]), ([46, 44], [46]), ([47], [47]), ([47], [47]), ([47], [47]), ([49, 50, 47], [47, 49, 50]), ([51, 47], [47, 51]), ([48, 52, 47], [47, 48, 52]), ([53, 47], [47, 53]), ([47], [47]), ([47], [47]), ([47], [47]), ([56, 57, 47], [47, 56, 57]), ([58, 47], [47, 58]), ([55, 59, 47, 47], [47, 55, 59]), ([54, 60, 60, 47], [47, 54, 60]), ([61, 47], [47, 61]), ([47, 62], [47, 62])])
def rn.B38 : List Nat := [0, 0, 0, 6, 14, 31, 63, 0, 0, 0, 768, 1792, 3968, 8191, 16383, 32767, 32767, 32767, 229375, 491519, 1048575, 2097151, 32767, 32767, 32767, 25198591, 58753023, 130056191, 268435455, 536870911, 1073741823, 2147483647, 2147483647, 2147483647, 15032385535, 32212254719, 68719476735, 137438953471, 2147483647, 2147483647, 2147483647, 1651414925311, 3850438180863, 8523362598911, 17592186044415, 35184372088831, 70368744177663, 140737488355327, 281474976710655, 281474976710655, 281474976710655, 1970324836974591, 4222124650659839, 9007199254740991, 18014398509481983, 281474976710655, 281474976710655, 281474976710655, 216454257090494463, 504684633242206207, 1117174182564593663, 2305843009213693951, 4611686018427387903, 9223372036854775807]
theorem rn.tab38 : rtab .any (opsOf Try.f6 38) = rn.T38 := by kernel_rfl
theorem rn.bits38 : waitsOk rn.T38.2 rn.B38 = true := by kernel_rfl
abbrev rn.b38_0 : Array Bool := #[false, false, false, false, false, false, false, false, false, false, false, false, false, false, false, false, false, false, false, false, false, false, false, false, false, false, false, false, false, false, false, false, false, false, false, false, false, false, false, false, false, false, false, false, false, false, false, false, false, false, false, false, false, false, false, false, false, false, false, false, false, false, false, false]
abbrev rn.b38_1 : Array Bool := #[true, false, false, false, false, false, false, false, false, false, false, false, false, false, false, false, false, false, false, false, false, false, false, false, false, false, false, false, false, false, false, false, false, false, false, false, false, false, false, false, false, false, false, false, false, false, false, false, false, false, false, false, false, false, false, false, false, false, false, false, false, false, false, false]
abbrev rn.b38_2 : Array Bool := #[true, true, false, false, false, false, false, false, false, false, false, false, false, false, false, false, false, false, false, false, false, false, false, false, false, false, false, false, false, false, false, false, false, false, false, false, false, false, false, false, false, false, false, false, false, false, false, false, false, false, false, false, false, false, false, false, false, false, false, false, false, false, false, false]
abbrev rn.b38_3 : Array Bool := #[true, true, true, false, false, false, false, false, false, false, false, false, false, false, false, false, false, false, false, false, false, false, false, false, false, false, false, false, false, false, false, false, false, false, false, false, false, false, false, false, false, false, false, false, false, false, false, false, false, false, false, false, false, false, false, false, false, false, false, false, false, false, false, false]
abbrev rn.b38_4 : Array Bool := #[true, true, true, true, false, false, false, false, false, false, false, false, false, false, false, false, false, false, false, false, false, false, false, false, false, false, false, false, false, false, false, false, false, false, false, false, false, false, false, false, false, false, false, false, false, false, false, false, false, false, false, false, false, false, false, false, false, false, false, false, false, false, false, false]
abbrev rn.b38_5 : Array Bool := #[true, true, true, true, false, false, false, true, false, false, false, false, false, false, false, false, false, false, false, false, false, false, false, false, false, false, false, false, false, false, false, false, false, false, false, false, false, false, false, false, false, false, false, false, false, false, false, false, false, false, false, false, false, false, false, false, false, false, false, false, false, false, false, false]
abbrev rn.b38_6 : Array Bool := #[true, true, true, true, false, false, false, true, true, false, false, false, false, false, false, false, false, false, false, false, false, false, false, false, false, false, false, false, false, false, false, false, false, false, false, false, false, false, false, false, false, false, false, false, false, false, false, false, false, false, false, false, false, false, false, false, false, false, false, false, false, false, false, false]
abbrev rn.b38_7 : Array Bool := #[true, true, true, true, false, false, false, true, true, true, false, false, false, false, false, false, false, false, false, false, false, false, false, false, false, false, false, false, false, false, false, false, false, false, false, false, false, false, false, false, false, false, false, false, false, false, false, false, false, false, false, false, false, false, false, false, false, false, false, false, false, false, false, false]
abbrev rn.b38_8 : Array Bool := #[true, true, true, true, false, false, false, true, true, true, true, false, false, false, false, false, false, false, false, false, false, false, false, false, false, false, false, false, false, false, false, false, false, false, false, false, false, false, false, false, false, false, false, false, false, false, false, false, false, false, false, false, false, false, false, false, false, false, false, false, false, false, false, false]
abbrev rn.b38_9 : Array Bool := #[true, true, true, true, true, false, false, true, true, true, true, false, false, false, false, false, false, false, false, false, false, false, false, false, false, false, false, false, false, false, false, false, false, false, false, false, false, false, false, false, false, false, false, false, false, false, false, false, false, false, false, false, false, false, false, false, false, false, false, false, false, false, false, false]
abbrev rn.b38_10 : Array Bool := #[true, true, true, true, true, true, false, true, true, true, true, false, false, false, false, false, false, false, false, false, false, false, false, false, false, false, false, false, false, false, false, false, false, false, false, false, false, false, false, false, false, false, false, false, false, false, false, false, false, false, false, false, false, false, false, false, false, false, false, false, false, false, false, false]
abbrev rn.b38_11 : Array Bool := #[true, true, true, true, true, true, true, true, true, true, true, false, false, false, false, false, false, false, false, false, false, false, false, false, false, false, false, false, false, false, false, false, false, false, false, false, false, false, false, false, false, false, false, false, false, false, false, false, false, false, false, false, false, false, false, false, false, false, false, false, false, false, false, false]
abbrev rn.b38_12 : Array Bool := #[true, true, true, true, true, true, true, true, true, true, true, true, false, false, false, false, false, false, false, false, false, false, false, false, false, false, false, false, false, false, false, false, false, false, false, false, false, false, false, false, false, false, false, false, false, false, false, false, false, false, false, false, false, false, false, false, false, false, false, false, false, false, false, false]
abbrev rn.b38_13 : Array Bool := #[true, true, true, true, true, true, true, true, true, true, true, true, true, false, false, false, false, false, false, false, false, false, false, false, false, false, false, false, false, false, false, false, false, false, false, false, false, false, false, false, false, false, false, false, false, false, false, false, false, false, false, false, false, false, false, false, false, false, false, false, false, false, false, false]
abbrev rn.b38_14 : Array Bool := #[true, true, true, true, true, true, true, true, true, true, true, true, true, true, false, false, false, false, false, false, false, false, false, false, false, false, false, false, false, false, false, false, false, false, false, false, false, false, false, false, false, false, false, false, false, false, false, false, false, false, false, false, false, false, false, false, false, false, false, false, false, false, false, false]
abbrev rn.b38_15 : Array Bool := #[true, true, true, true, true, true, true, true, true, true, true, true, true, true, true, false, false, false, false, false, false, false, false, false, false, false, false, false, false, false, false, false, false, false, false, false, false, false, false, false, false, false, false, false, false, false, false, false, false, false, false, false, false, false, false, false, false, false, false, false, false, false, false, false]
abbrev rn.b38_16 : Array Bool := #[true, true, true, true, true, true, true, true, true, true, true, true, true, true, true, true, false, false, false, false, false, false, false, false, false, false, false, false, false, false, false, false, false, false, false, false, false, false, false, false, false, false, false, false, false, false, false, false, false, false, false, false, false, false, false, false, false, false, false, false, false, false, false, false]
abbrev rn.b38_17 : Array Bool := #[true, true, true, true, true, true, true, true, true, true, true, true, true, true, true, true, true, false, false, false, false, false, false, false, false, false, false, false, false, false, false, false, false, false, false, false, false, false, false, false, false, false, false, false, false, false, false, false, false, false, false, false, false, false, false, false, false, false, false, false, false, false, false, false]
abbrev rn.b38_18 : Array Bool := #[true, true, true, true, true, true, true, true, true, true, true, true, true, true, true, true, true, true, false, false, false, false, false, false, false, false, false, false, false, false, false, false, false, false, false, false, false, false, false, false, false, false, false, false, false, false, false, false, false, false, false, false, false, false, false, false, false, false, false, false, false, false, false, false]
abbrev rn.b38_19 : Array Bool := #[true, true, true, true, true, true, true, true, true, true, true, true, true, true, true, true, true, true, true, false, false, false, false, false, false, false, false, false, false, false, false, false, false, false, false, false, false, false, false, false, false, false, false, false, false, false, false, false, false, false, false, false, false, false, false, false, false, false, false, false, false, false, false, false]
abbrev rn.b38_20 : Array Bool := #[true, true, true, true, true, true, true, true, true, true, true, true, true, true, true, true, true, true, true, false, false, false, true, false, false, false, false, false, false, false, false, false, false, false, false, false, false, false, false, false, false, false, false, false, false, false, false, false, false, false, false, false, false, false, false, false, false, false, false, false, false, false, false, false]
abbrev rn.b38_21 : Array Bool := #[true, true, true, true, true, true, true, true, true, true, true, true, true, true, true, true, true, true, true, false, false, false, true, true, false, false, false, false, false, false, false, false, false, false, false, false, false, false, false, false, false, false, false, false, false, false, false, false, false, false, false, false, false, false, false, false, false, false, false, false, false, false, false, false]
abbrev rn.b38_22 : Array Bool := #[true, true, true, true, true, true, true, true, true, true, true, true, true, true, true, true, true, true, true, false, false, false, true, true, true, false, false, false, false, false, false, false, false, false, false, false, false, false, false, false, false, false, false, false, false, false, false, false, false, false, false, false, false, false, false, false, false, false, false, false, false, false, false, false]
abbrev rn.b38_23 : Array Bool := #[true, true, true, true, true, true, true, true, true, true, true, true, true, true, true, true, true, true, true, false, false, false, true, true, true, true, false, false, false, false, false, false, false, false, false, false, false, false, false, false, false, false, false, false, false, false, false, false, false, false, false, false, false, false, false, false, false, false, false, false, false, false, false, false]
abbrev rn.b38_24 : Array Bool := #[true, true, true, true, true, true, true, true, true, true, true, true, true, true, true, true, true, true, true, true, false, false, true, true, true, true, false, false, false, false, false, false, false, false, false, false, false, false, false, false, false, false, false, false, false, false, false, false, false, false, false, false, false, false, false, false, false, false, false, false, false, false, false, false]
abbrev rn.b38_25 : Array Bool := #[true, true, true, true, true, true, true, true, true, true, true, true, true, true, true, true, true, true, true, true, true, false, true, true, true, true, false, false, false, false, false, false, false, false, false, false, false, false, false, false, false, false, false, false, false, false, false, false, false, false, false, false, false, false, false, false, false, false, false, false, false, false, false, false]
abbrev rn.b38_26 : Array Bool := #[true, true, true, true, true, true, true, true, true, true, true, true, true, true, true, true, true, true, true, true, true, true, true, true, true, true, false, false, false, false, false, false, false, false, false, false, false, false, false, false, false, false, false, false, false, false, false, false, false, false, false, false, false, false, false, false, false, false, false, false, false, false, false, false]
abbrev rn.b38_27 : Array Bool := #[true, true, true, true, true, true, true, true, true, true, true, true, true, true, true, true, true, true, true, true, true, true, true, true, true, true, true, false, false, false, false, false, false, false, false, false, false, false, false, false, false, false, false, false, false, false, false, false, false, false, false, false, false, false, false, false, false, false, false, false, false, false, false, false]
abbrev rn.b38_28 : Array Bool := #[true, true, true, true, true, true, true, true, true, true, true, true, true, true, true, true, true, true, true, true, true, true, true, true, true, true, true, true, false, false, false, false, false, false, false, false, false, false, false, false, false, false, false, false, false, false, false, false, false, false, false, false, false, false, false, false, false, false, false, false, false, false, false, false]
abbrev rn.b38_29 : Array Bool := #[true, true, true, true, true, true, true, true, true, true, true, true, true, true, true, true, true, true, true, true, true, true, true, true, true, true, true, true, true, false, false, false, false, false, false, false, false, false, false, false, false, false, false, false, false, false, false, false, false, false, false, false, false, false, false, false, false, false, false, false, false, false, false, false]
abbrev rn.b38_30 : Array Bool := #[true, true, true, true, true, true, true, true, true, true, true, true, true, true, true, true, true, true, true, true, true, true, true, true, true, true, true, true, true, true, false, false, false, false, false, false, false, false, false, false, false, false, false, false, false, false, false, false, false, false, false, false, false, false, false, false, false, false, false, false, false, false, false, false]
abbrev rn.b38_31 : Array Bool := #[true, true, true, true, true, true, true, true, true, true, true, true, true, true, true, true, true, true, true, true, true, true, true, true, true, true, true, true, true, true, true, false, false, false, false, false, false, false, false, false, false, false, false, false, false, false, false, false, false, false, false, false, false, false, false, false, false, false, false, false, false, false, false, false]
abbrev rn.b38_32 : Array Bool := #[true, true, true, true, true, true, true, true, true, true, true, true, true, true, true, true, true, true, true, true, true, true, true, true, true, true, true, true, true, true, true, true, false, false, false, false, false, false, false, false, false, false, false, false, false, false, false, false, false, false, false, false, false, false, false, false, false, false, false, false, false, false, false, false]
abbrev rn.b38_33 : Array Bool := #[true, true, true, true, true, true, true, true, true, true, true, true, true, true, true, true, true, true, true, true, true, true, true, true, true, true, true, true, true, true, true, true, true, false, false, false, false, false, false, false, false, false, false, false, false, false, false, false, false, false, false, false, false, false, false, false, false, false, false, false, false, false, false, false]
abbrev rn.b38_34 : Array Bool := #[true, true, true, true, true, true, true, true, true, true, true, true, true, true, true, true, true, true, true, true, true, true, true, true, true, true, true, true, true, true, true, true, true, true, false, false, false, false, false, false, false, false, false, false, false, false, false, false, false, false, false, false, false, false, false, false, false, false, false, false, false, false, false, false]
abbrev rn.b38_35 : Array Bool := #[true, true, true, true, true, true, true, true, true, true, true, true, true, true, true, true, true, true, true, true, true, true, true, true, true, true, true, true, true, true, true, true, true, true, true, false, false, false, false, false, false, false, false, false, false, false, false, false, false, false, false, false, false, false, false, false, false, false, false, false, false, false, false, false]
abbrev rn.b38_36 : Array Bool := #[true, true, true, true, true, true, true, true, true, true, true, true, true, true, true, true, true, true, true, true, true, true, true, true, true, true, true, true, true, true, true, true, true, true, true, false, false, false, true, false, false, false, false, false, false, false, false, false, false, false, false, false, false, false, false, false, false, false, false, false, false, false, false, false]
abbrev rn.b38_37 : Array Bool := #[true, true, true, true, true, true, true, true, true, true, true, true, true, true, true, true, true, true, true, true, true, true, true, true, true, true, true, true, true, true, true, true, true, true, true, false, false, false, true, true, false, false, false, false, false, false, false, false, false, false, false, false, false, false, false, false, false, false, false, false, false, false, false, false]
abbrev rn.b38_38 : Array Bool := #[true, true, true, true, true, true, true, true, true, true, true, true, true, true, true, true, true, true, true, true, true, true, true, true, true, true, true, true, true, true, true, true, true, true, true, false, false, false, true, true, true, false, false, false, false, false, false, false, false, false, false, false, false, false, false, false, false, false, false, false, false, false, false, false]
abbrev rn.b38_39 : Array Bool := #[true, true, true, true, true, true, true, true, true, true, true, true, true, true, true, true, true, true, true, true, true, true, true, true, true, true, true, true, true, true, true, true, true, true, true, false, false, false, true, true, true, true, false, false, false, false, false, false, false, false, false, false, false, false, false, false, false, false, false, false, false, false, false, false]
abbrev rn.b38_40 : Array Bool := #[true, true, true, true, true, true, true, true, true, true, true, true, true, true, true, true, true, true, true, true, true, true, true, true, true, true, true, true, true, true, true, true, true, true, true, true, false, false, true, true, true, true, false, false, false, false, false, false, false, false, false, false, false, false, false, false, false, false, false, false, false, false, false, false]
abbrev rn.b38_41 : Array Bool := #[true, true, true, true, true, true, true, true, true, true, true, true, true, true, true, true, true, true, true, true, true, true, true, true, true, true, true, true, true, true, true, true, true, true, true, true, true, false, true, true, true, true, false, false, false, false, false, false, false, false, false, false, false, false, false, false, false, false, false, false, false, false, false, false]
abbrev rn.b38_42 : Array Bool := #[true, true, true, true, true, true, true, true, true, true, true, true, true, true, true, true, true, true, true, true, true, true, true, true, true, true, true, true, true, true, true, true, true, true, true, true, true, true, true, true, true, true, false, false, false, false, false, false, false, false, false, false, false, false, false, false, false, false, false, false, false, false, false, false]
abbrev rn.b38_43 : Array Bool := #[true, true, true, true, true, true, true, true, true, true, true, true, true, true, true, true, true, true, true, true, true, true, true, true, true, true, true, true, true, true, true, true, true, true, true, true, true, true, true, true, true, true, true, false, false, false, false, false, false, false, false, false, false, false, false, false, false, false, false, false, false, false, false, false]
abbrev rn.b38_44 : Array Bool := #[true, true, true, true, true, true, true, true, true, true, true, true, true, true, true, true, true, true, true, true, true, true, true, true, true, true, true, true, true, true, true, true, true, true, true, true, true, true, true, true, true, true, true, true, false, false, false, false, false, false, false, false, false, false, false, false, false, false, false, false, false, false, false, false]
abbrev rn.b38_45 : Array Bool := #[true, true, true, true, true, true, true, true, true, true, true, true, true, true, true, true, true, true, true, true, true, true, true, true, true, true, true, true, true, true, true, true, true, true, true, true, true, true, true, true, true, true, true, true, true, false, false, false, false, false, false, false, false, false, false, false, false, false, false, false, false, false, false, false]
abbrev rn.b38_46 : Array Bool := #[true, true, true, true, true, true, true, true, true, true, true, true, true, true, true, true, true, true, true, true, true, true, true, true, true, true, true, true, true, true, true, true, true, true, true, true, true, true, true, true, true, true, true, true, true, true, false, false, false, false, false, false, false, false, false, false, false, false, false, false, false, false, false, false]
abbrev rn.b38_47 : Array Bool := #[true, true, true, true, true, true, true, true, true, true, true, true, true, true, true, true, true, true, true, true, true, true, true, true, true, true, true, true, true, true, true, true, true, true, true, true, true, true, true, true, true, true, true, true, true, true, true, false, false, false, false, false, false, false, false, false, false, false, false, false, false, false, false, false]
abbrev rn.b38_48 : Array Bool := #[true, true, true, true, true, true, true, true, true, true, true, true, true, true, true, true, true, true, true, true, true, true, true, true, true, true, true, true, true, true, true, true, true, true, true, true, true, true, true, true, true, true, true, true, true, true, true, true, false, false, false, false, false, false, false, false, false, false, false, false, false, false, false, false]
abbrev rn.b38_49 : Array Bool := #[true, true, true, true, true, true, true, true, true, true, true, true, true, true, true, true, true, true, true, true, true, true, true, true, true, true, true, true, true, true, true, true, true, true, true, true, true, true, true, true, true, true, true, true, true, true, true, true, true, false, false, false, false, false, false, false, false, false, false, false, false, false, false, false]
abbrev rn.b38_50 : Array Bool := #[true, true, true, true, true, true, true, true, true, true, true, true, true, true, true, true, true, true, true, true, true, true, true, true, true, true, true, true, true, true, true, true, true, true, true, true, true, true, true, true, true, true, true, true, true, true, true, true, true, true, false, false, false, false, false, false, false, false, false, false, false, false, false, false]
abbrev rn.b38_51 : Array Bool := #[true, true, true, true, true, true, true, true, true, true, true, true, true, true, true, true, true, true, true, true, true, true, true, true, true, true, true, true, true, true, true, true, true, true, true, true, true, true, true, true, true, true, true, true, true, true, true, true, true, true, true, false, false, false, false, false, false, false, false, false, false, false, false, false]
abbrev rn.b38_52 : Array Bool := #[true, true, true, true, true, true, true, true, true, true, true, true, true, true, true, true, true, true, true, true, true, true, true, true, true, true, true, true, true, true, true, true, true, true, true, true, true, true, true, true, true, true, true, true, true, true, true, true, true, true, true, true, false, false, false, false, false, false, false, false, false, false, false, false]
abbrev rn.b38_53 : Array Bool := #[true, true, true, true, true, true, true, true, true, true, true, true, true, true, true, true, true, true, true, true, true, true, true, true, true, true, true, true, true, true, true, true, true, true, true, true, true, true, true, true, true, true, true, true, true, true, true, true, true, true, true, true, false, false, false, true, false, false, false, false, false, false, false, false]
abbrev rn.b38_54 : Array Bool := #[true, true, true, true, true, true, true, true, true, true, true, true, true, true, true, true, true, true, true, true, true, true, true, true, true, true, true, true, true, true, true, true, true, true, true, true, true, true, true, true, true, true, true, true, true, true, true, true, true, true, true, true, false, false, false, true, true, false, false, false, false, false, false, false]
abbrev rn.b38_55 : Array Bool := #[true, true, true, true, true, true, true, true, true, true, true, true, true, true, true, true, true, true, true, true, true, true, true, true, true, true, true, true, true, true, true, true, true, true, true, true, true, true, true, true, true, true, true, true, true, true, true, true, true, true, true, true, false, false, false, true, true, true, false, false, false, false, false, false]
abbrev rn.b38_56 : Array Bool := #[true, true, true, true, true, true, true, true, true, true, true, true, true, true, true, true, true, true, true, true, true, true, true, true, true, true, true, true, true, true, true, true, true, true, true, true, true, true, true, true, true, true, true, true, true, true, true, true, true, true, true, true, false, false, false, true, true, true, true, false, false, false, false, false]
abbrev rn.b38_57 : Array Bool := #[true, true, true, true, true, true, true, true, true, true, true, true, true, true, true, true, true, true, true, true, true, true, true, true, true, true, true, true, true, true, true, true, true, true, true, true, true, true, true, true, true, true, true, true, true, true, true, true, true, true, true, true, true, false, false, true, true, true, true, false, false, false, false, false]
abbrev rn.b38_58 : Array Bool := #[true, true, true, true, true, true, true, true, true, true, true, true, true, true, true, true, true, true, true, true, true, true, true, true, true, true, true, true, true, true, true, true, true, true, true, true, true, true, true, true, true, true, true, true, true, true, true, true, true, true, true, true, true, true, false, true, true, true, true, false, false, false, false, false]
abbrev rn.b38_59 : Array Bool := #[true, true, true, true, true, true, true, true, true, true, true, true, true, true, true, true, true, true, true, true, true, true, true, true, true, true, true, true, true, true, true, true, true, true, true, true, true, true, true, true, true, true, true, true, true, true, true, true, true, true, true, true, true, true, true, true, true, true, true, false, false, false, false, false]
abbrev rn.b38_60 : Array Bool := #[true, true, true, true, true, true, true, true, true, true, true, true, true, true, true, true, true, true, true, true, true, true, true, true, true, true, true, true, true, true, true, true, true, true, true, true, true, true, true, true, true, true, true, true, true, true, true, true, true, true, true, true, true, true, true, true, true, true, true, true, false, false, false, false]
abbrev rn.b38_61 : Array Bool := #[true, true, true, true, true, true, true, true, true, true, true, true, true, true, true, true, true, true, true, true, true, true, true, true, true, true, true, true, true, true, true, true, true, true, true, true, true, true, true, true, true, true, true, true, true, true, true, true, true, true, true, true, true, true, true, true, true, true, true, true, true, false, false, false]
abbrev rn.b38_62 : Array Bool := #[true, true, true, true, true, true, true, true, true, true, true, true, true, true, true, true, true, true, true, true, true, true, true, true, true, true, true, true, true, true, true, true, true, true, true, true, true, true, true, true, true, true, true, true, true, true, true, true, true, true, true, true, true, true, true, true, true, true, true, true, true, true, false, false]
abbrev rn.b38_63 : Array Bool := #[true, true, true, true, true, true, true, true, true, true, true, true, true, true, true, true, true, true, true, true, true, true, true, true, true, true, true, true, true, true, true, true, true, true, true, true, true, true, true, true, true, true, true, true, true, true, true, true, true, true, true, true, true, true, true, true, true, true, true, true, true, true, true, false]
abbrev rn.b38_64 : Array Bool := #[true, true, true, true, true, true, true, true, true, true, true, true, true, true, true, true, true, true, true, true, true, true, true, true, true, true, true, true, true, true, true, true, true, true, true, true, true, true, true, true, true, true, true, true, true, true, true, true, true, true, true, true, true, true, true, true, true, true, true, true, true, true, true, true]
structure RnSt (w w2 W : World) (go : Nat) (vs : List Value) (ls : List (List Int)) (vT : Value) (tn : List Int) : Prop where
 o : OutSt w2 W w2.heap.size go vs ls
 wgo : w.heap.size ≤ go
 b2 : Below w.heap.size w w2
 tn : Kd.R (Kd.int .i64) 3 w2 w.heap.size (fun k => k < go) vT tn
section
variable {w w2 W W1 : World} {go : Nat} {vs : List Value} {ls : List (List Int)} {vT : Value} {tn : List Int}
theorem RnSt.start {wr : World} {n : Nat} (hgo : go = wr.heap.size) (ht : w2.heap[go]? = some (.cells (List.replicate n (.slice none 0 0)).toArray 33 (0, 0))) (hb : Below wr.heap.size wr w2) (hB : Below w.heap.size w wr)
  (hO : Kd.R (Kd.int .i64) 3 wr w.heap.size (fun _ => True) vT tn) : RnSt w w2 w2 go (List.replicate n (.slice none 0 0)) (List.replicate n []) vT tn := by
 have hs := hB.size; have hlt := blk_lt ht; refine ⟨⟨by simp, ht, hlt, Nat.le_refl _, ?_, ?_, rfl, rfl, rfl, Nat.le_refl _, fun _ _ _ => rfl⟩, by omega, hB.trans (hb.mono hs), ?_⟩
 ·intro i hi
  have hi' : i < n := by simpa using hi
  have e1 : (List.replicate n ([] : List Int)).getD i [] = [] := by rw [List.getD_eq_getElem?_getD]; simp [hi']
  rw [e1, List.getElem_replicate]; exact own_nil _ _ _ _
 ·intro i j hi hj _ hn
  rw [List.getElem_replicate] at hn; exact absurd rfl hn
 ·exact Kd.R_below (Kd.R_mono (Kd.R_bound hO) (fun k hk => by rw [hgo]; exact hk.2.2.1)) hb
theorem RnSt.tnR (h : RnSt w w2 W go vs ls vT tn) : Kd.R (Kd.int .i64) 3 W w.heap.size (fun k => k < go) vT tn := Kd.R_move h.tn (fun k hk => h.o.same k (by have := h.o.lt; omega) (by omega))
theorem RnSt.below (h : RnSt w w2 W go vs ls vT tn) : Below w.heap.size w W := h.o.below h.b2 h.wgo
theorem RnSt.grown (h : RnSt w w2 W go vs ls vT tn) (hb : Below W.heap.size W W1) : RnSt w w2 W1 go vs ls vT tn := ⟨h.o.grown hb, h.wgo, h.b2, h.tn⟩
theorem RnSt.put (h : RnSt w w2 W go vs ls vT tn) (i : Nat) (hi : i < vs.length) {v1 : Value} {l1 : List Int} (hg : W.grownBy W1 (vs[i]).ownBlock)
  (ho : W1.ownsRow w2.heap.size 3 1 v1 l1.length (nums .i64 l1)) (hat : v1.ownBlock = (vs[i]).ownBlock ∨ v1.ownBlock = none ∨ ∃ b, v1.ownBlock = some b ∧ W.heap.size ≤ b) : RnSt w w2 (W1.setCell ⟨go, i, none⟩ v1) go (vs.set i v1) (ls.set i l1) vT tn :=
 ⟨h.o.put i hi hg ho hat, h.wgo, h.b2, h.tn⟩
theorem RnSt.cellT {A : Option Addr} {n c : Nat} (h : RnSt w w2 W go vs ls (.slice A n c) tn) (i : Int) (h0 : 0 ≤ i) (h1 : i < (tn.length : Int)) : ∃ ad, A = some ad ∧ W.cell? (ad.add i.toNat) = some (.int .i64 (rd tn i)) ∧ (ad.add i.toNat).block < w2.heap.size := by
 obtain ⟨ad, e, hc⟩ := Kd.at_int (Kd.R_reads' h.tnR).2.2 i h0 h1; subst e; refine ⟨ad, rfl, hc, ?_⟩
 have := h.tn.1 ad.block (by simp [Value.ownBlock])
 have := h.o.lt
 rw [add_block]; omega
theorem RnSt.cellG (h : RnSt w w2 W go vs ls vT tn) {p : Addr} {v : Value} (hc : w.cell? p = some v) : W.cell? p = some v ∧ p.block < w2.heap.size := by
 have hl := World.block_lt_of_cell? w _ hc; have := h.wgo
 have := h.o.lt
 exact ⟨(h.below.cell hl).trans hc, by omega⟩
theorem keep_cell {N : Nat} {W W1 : World} {p : Addr} {v : Value} (hc : W.cell? p = some v ∧ p.block < N) (hb : Below N W W1) : W1.cell? p = some v := (hb.cell hc.2).trans hc.1
end
theorem round_facts {k : Nat} {tn a b c d : List Int} {x y l m : List (List Int)} {i : Int} {r : Bool} (h : renamed_round.f k tn a b c d x y l m i = some r) :
  r = false ∧ 0 ≤ i ∧ i < (tn.length : Int) ∧ 0 ≤ rd tn i ∧ i < (a.length : Int) ∧ rd tn i < (b.length : Int) ∧ i < (c.length : Int) ∧ rd tn i < (d.length : Int) ∧ i < (x.length : Int) ∧ rd tn i < (y.length : Int) ∧ i < (l.length : Int) ∧ rd tn i < (m.length : Int) ∧
   l7_moved.f tn (rd a i) = some (rd b (rd tn i)) ∧ l7_moved.f tn (rd c i) = some (rd d (rd tn i)) ∧ ∃ t3, l7_all.f k tn (rd_L1 x i) = some t3 ∧ r5_SameInts.f k (rd_L1 y (rd tn i)) t3 = some true ∧
   ∃ t4, l7_all.f k tn (rd_L1 l i) = some t4 ∧ r5_SameInts.f k (rd_L1 m (rd tn i)) t4 = some true := by
 unfold renamed_round.f at h
 by_cases h0 : 0 ≤ i
 case neg => rw [if_neg h0] at h; cases h
 rw [if_pos h0] at h; by_cases h1 : i < (tn.length : Int)
 case neg => rw [if_neg h1] at h; cases h
 rw [if_pos h1] at h; by_cases h2 : 0 ≤ rd tn i
 case neg => rw [if_neg h2] at h; cases h
 rw [if_pos h2] at h; by_cases ha : i < (a.length : Int)
 case neg => rw [if_neg ha] at h; cases h
 rw [if_pos ha] at h; by_cases hb : rd tn i < (b.length : Int)
 case neg => rw [if_neg hb] at h; cases h
 rw [if_pos hb] at h; by_cases hc : i < (c.length : Int)
 case neg => rw [if_neg hc] at h; cases h
 rw [if_pos hc] at h; by_cases hd : rd tn i < (d.length : Int)
 case neg => rw [if_neg hd] at h; cases h
 rw [if_pos hd] at h; by_cases hx : i < (x.length : Int)
 case neg => rw [if_neg hx] at h; cases h
 rw [if_pos hx] at h; by_cases hy : rd tn i < (y.length : Int)
 case neg => rw [if_neg hy] at h; cases h
 rw [if_pos hy] at h; by_cases hl : i < (l.length : Int)
 case neg => rw [if_neg hl] at h; cases h
 rw [if_pos hl] at h; by_cases hm : rd tn i < (m.length : Int)
 case neg => rw [if_neg hm] at h; cases h
 rw [if_pos hm] at h; obtain ⟨t1, e1, h⟩ := Option.bind_eq_some_iff.mp h; by_cases h3 : rd b (rd tn i) = t1
 case neg => rw [if_neg h3] at h; cases h
 rw [if_pos h3] at h; obtain ⟨t2, e2, h⟩ := Option.bind_eq_some_iff.mp h; by_cases h4 : rd d (rd tn i) = t2
 case neg => rw [if_neg h4] at h; cases h
 rw [if_pos h4] at h; obtain ⟨t3, e3, h⟩ := Option.bind_eq_some_iff.mp h; obtain ⟨s1, e4, h⟩ := Option.bind_eq_some_iff.mp h; by_cases h5 : s1 = true
 case neg => rw [if_neg h5] at h; cases h
 rw [if_pos h5] at h; obtain ⟨t4, e5, h⟩ := Option.bind_eq_some_iff.mp h; obtain ⟨s2, e6, h⟩ := Option.bind_eq_some_iff.mp h; by_cases h6 : s2 = true
 case neg => rw [if_neg h6] at h; cases h
 rw [if_pos h6] at h; subst h3 h4 h5 h6; exact ⟨(Option.some.inj h).symm, h0, h1, h2, ha, hb, hc, hd, hx, hy, hl, hm, e1, e2, t3, e3, e4, t4, e5, e6⟩
theorem round_false {k : Nat} {tn a b c d : List Int} {x y l m : List (List Int)} {i : Int} : renamed_round.f k tn a b c d x y l m i ≠ some true := by
 intro h
 have := (round_facts h).1
 cases this
end Go.Proofs.Ytjjedbcgkljdeaa.R
end
section
namespace Go.Proofs.Ytjjedbcgkljdeaa.M
inductive Ch (up : Int → Int) (root : Int) : Int → Int → Prop
 | refl (n : Int) : Ch up root n n
 | up {n x : Int} : n ≠ root → Ch up root (up n) x → Ch up root n x
structure Sta (R : Int → Prop) (at_ : Int → Int) (root : Int) (E dom : Int → Int → Prop) : Prop where
 inj : ∀ a b, R a → R b → at_ a = at_ b → a = b
 rootR : R root
 pos : ∀ a, R a → 0 ≤ a
 max : ∀ a, R a → at_ a ≤ at_ root
 src : ∀ p n, E p n → R p
 fwd : ∀ n, R n → n ≠ root → ∃ p, E p n ∧ at_ n < at_ p
 domPred : ∀ x p n, dom x n → x ≠ n → E p n → dom x p
 domRoot : ∀ x, dom x root → x = root
def Df (R : Int → Prop) (up : Int → Int) (n : Int) : Prop := R n ∧ 0 ≤ up n
structure Tre (R : Int → Prop) (at_ : Int → Int) (root : Int) (up : Int → Int) : Prop where
 rootU : up root = root
 inc : ∀ n, Df R up n → n ≠ root → at_ n < at_ (up n) ∧ Df R up (up n)
section
variable {R : Int → Prop} {at_ up : Int → Int} {root : Int} {E dom : Int → Int → Prop}
theorem Ch.trans {a b c : Int} (h : Ch up root a b) (k : Ch up root b c) : Ch up root a c := by
 induction h with
 | refl => exact k
 | up hn _ ih => exact Ch.up hn (ih k)
theorem Ch.root_eq {x : Int} (h : Ch up root root x) : x = root := by
 cases h with
 | refl => rfl
 | up hn _ => exact absurd rfl hn
theorem Tre.at_le (t : Tre R at_ root up) {a x : Int} (ha : Df R up a) (h : Ch up root a x) : Df R up x ∧ (x = a ∨ at_ a < at_ x) := by
 induction h with
 | refl => exact ⟨ha, .inl rfl⟩
 | up hn _ ih =>
  obtain ⟨h1, h2⟩ := t.inc _ ha hn; obtain ⟨h3, h4⟩ := ih h2; exact ⟨h3, .inr (by rcases h4 with rfl | h4 <;> omega)⟩
theorem Tre.le (t : Tre R at_ root up) {a x : Int} (ha : Df R up a) (h : Ch up root a x) : at_ a ≤ at_ x := by
 rcases (t.at_le ha h).2 with rfl | h <;> omega
theorem Tre.lin (t : Tre R at_ root up) {a x y : Int} (ha : Df R up a) (h : Ch up root a x) (k : Ch up root a y) (hle : at_ x ≤ at_ y) : Ch up root x y := by
 induction h with
 | refl => exact k
 | up hn h1 ih =>
  obtain ⟨h2, h3⟩ := t.inc _ ha hn; cases k with
  | refl => have := t.le h3 h1; omega
  | up _ k1 => exact ih h3 k1 hle
structure Nca (R : Int → Prop) (E : Int → Int → Prop) (up : Int → Int) (root q d : Int) : Prop where
 above : ∀ p, E p q → Df R up p → Ch up root p d
 low : ∀ e, (∀ p, E p q → Df R up p → Ch up root p e) → Ch up root d e
structure Inv (R : Int → Prop) (at_ : Int → Int) (root : Int) (E dom : Int → Int → Prop) (i : Int) (up : Int → Int) : Prop where
 tre : Tre R at_ root up
 q1 : ∀ n, Df R up n → n ≠ root → ∀ x, dom x n → x ≠ n → dom x (up n)
 N : ∀ n, Df R up n → n ≠ root → ∀ e, (∀ p, E p n → Df R up p → Ch up root p e) → at_ (up n) ≤ at_ e
 K : ∀ n p, Df R up n → n ≠ root → E p n → Df R up p → at_ n < at_ p → ∀ e, Ch up root p e → at_ (up n) ≤ at_ e → Ch up root (up n) e
 J : ∀ n p, Df R up n → n ≠ root → E p n → Df R up p → at_ n < at_ p → (i ≤ at_ n ∨ at_ (up n) ≤ i) → Ch up root p (up n)
 dfi : ∀ n, R n → i ≤ at_ n → Df R up n
 first : (∀ n, R n → Df R up n) ∨ (∀ n, Df R up n → i ≤ at_ n)
def put (up : Int → Int) (q d : Int) : Int → Int := fun x => if x = q then d else up x
theorem put_same (up : Int → Int) (q d : Int) : put up q d q = d := if_pos rfl
theorem put_other {up : Int → Int} {q d x : Int} (h : x ≠ q) : put up q d x = up x := if_neg h
theorem Inv.dom_ch (s : Sta R at_ root E dom) {i : Int} (v : Inv R at_ root E dom i up) : ∀ (N : Nat) (n x : Int), (at_ root - at_ n).toNat ≤ N → Df R up n → dom x n → Ch up root n x
 | N, n, x, hN, hn, hd => by
  by_cases hx : x = n
  ·subst hx; exact Ch.refl _
  ·by_cases hr : n = root
   ·subst hr; exact absurd (s.domRoot x hd) hx
   ·obtain ⟨h1, h2⟩ := v.tre.inc n hn hr; have h3 := s.max n hn.1; have h4 := s.max _ h2.1; cases N with
    | zero => omega
    | succ N => exact Ch.up hr (v.dom_ch s N (up n) x (by omega) h2 (v.q1 n hn hr x hd hx))
theorem Inv.walk {i : Int} (v : Inv R at_ root E dom i up) {p d x : Int} (h : Ch up root p d) (hp : Df R up p) (hx : dom x p) (hle : at_ d ≤ at_ x) : dom x d := by
 induction h with
 | refl => exact hx
 | @up m y hn h1 ih =>
  obtain ⟨a, b⟩ := v.tre.inc m hp hn; have h2 := v.tre.le b h1; refine ih b (v.q1 m hp hn x hx ?_) hle
  rintro rfl
  omega
theorem Inv.step (s : Sta R at_ root E dom) {i : Int} (v : Inv R at_ root E dom i up) {q d : Int} (hq : R q) (hqr : q ≠ root) (hi : at_ q = i - 1) (hd : Nca R E up root q d) :
  Inv R at_ root E dom (i - 1) (put up q d) ∧ 0 ≤ d ∧ at_ q < at_ d ∧ R d ∧ (Df R up q → d ≠ up q → at_ (up q) < at_ d) := by
 obtain ⟨p0, hp0, hp0a⟩ := s.fwd q hq hqr; have hp0R := s.src _ _ hp0; have hp0D := v.dfi p0 hp0R (by omega)
 have c0 := hd.above p0 hp0 hp0D; have t := v.tre; obtain ⟨hdD, _⟩ := t.at_le hp0D c0; have hdat : at_ q < at_ d := by have := t.le hp0D c0; omega
 have hd0 : 0 ≤ d := s.pos d hdD.1
 have hup : ∀ x, x ≠ q → put up q d x = up x := fun x h => put_other h
 have hupq : put up q d q = d := put_same up q d
 -- chains above q
 have hA : ∀ m x, Df R up m → at_ q < at_ m → (Ch (put up q d) root m x ↔ Ch up root m x) := by
  intro m x hm hlt
  constructor
  ·intro h
   induction h with
   | refl => exact Ch.refl _
   | @up m x hn h1 ih =>
    have hne : m ≠ q := fun e => by subst e; omega
    rw [hup m hne] at h1 ih
    obtain ⟨a, b⟩ := t.inc m hm hn; exact Ch.up hn (ih b (by omega))
  ·intro h
   induction h with
   | refl => exact Ch.refl _
   | @up m x hn h1 ih =>
    have hne : m ≠ q := fun e => by subst e; omega
    obtain ⟨a, b⟩ := t.inc m hm hn; refine Ch.up hn ?_
    rw [hup m hne]; exact ih b (by omega)
 -- the new tree
 have hDf' : ∀ m, Df R (put up q d) m ↔ (m = q ∨ Df R up m) := by
  intro m
  unfold Df
  by_cases e : m = q
  ·subst e; rw [hupq]; exact ⟨fun _ => .inl rfl, fun _ => ⟨hq, hd0⟩⟩
  ·rw [hup m e]; exact ⟨fun h => .inr h, fun h => h.resolve_left e⟩
 have t' : Tre R at_ root (put up q d) := by
  refine ⟨by rw [hup root (Ne.symm hqr)]; exact t.rootU, fun n hn hnr => ?_⟩
  by_cases e : n = q
  ·subst e; rw [hupq]; exact ⟨hdat, (hDf' d).2 (.inr hdD)⟩
  ·rw [hup n e]; obtain ⟨a, b⟩ := t.inc n (((hDf' n).1 hn).resolve_left e) hnr; exact ⟨a, (hDf' _).2 (.inr b)⟩
 -- was q defined before?
 by_cases hqD : Df R up q
 ·-- yes: d lies above up q
  have hNd := v.N q hqD hqr d hd.above; have hPF : Ch up root (up q) d := v.K q p0 hqD hqr hp0 hp0D hp0a d c0 hNd
  have huD := (t.inc q hqD hqr).2; have hDf2 : ∀ m, Df R (put up q d) m ↔ Df R up m := fun m => by
   rw [hDf' m]; exact ⟨fun h => h.elim (fun e => e ▸ hqD) id, .inr⟩
  have hB : ∀ m x, Ch (put up q d) root m x → Ch up root m x := by
   intro m x h
   induction h with
   | refl => exact Ch.refl _
   | @up m x hn h1 ih =>
    by_cases e : m = q
    ·subst e; rw [hupq] at ih; exact Ch.up hn (hPF.trans ih)
    ·rw [hup m e] at ih; exact Ch.up hn ih
  have hC : ∀ m e, Df R up m → Ch up root m e → (Ch up root m q → at_ e ≤ at_ q ∨ at_ d ≤ at_ e) → Ch (put up q d) root m e := by
   intro m e hm h
   induction h with
   | refl => exact fun _ => Ch.refl _
   | @up m x hn h1 ih =>
    intro hh
    obtain ⟨a, b⟩ := t.inc m hm hn; by_cases e : m = q
    ·subst e; have h2 := t.le b h1; have h3 : at_ d ≤ at_ x := by
      rcases hh (Ch.refl _) with h | h <;> omega
     refine Ch.up hn ?_
     rw [hupq]; exact (hA d x hdD hdat).2 (t.lin b hPF h1 h3)
    ·refine Ch.up hn ?_
     rw [hup m e]; exact ih b (fun hc => hh (Ch.up hn hc))
  have hDD : ∀ m e, Df R up m → Ch up root m q → Ch (put up q d) root m e → at_ q < at_ e → at_ d ≤ at_ e := by
   intro m e hm hmq hme hlt
   have h1 := hC m q hm hmq (fun _ => .inl (Int.le_refl _))
   have h2 := t'.lin ((hDf2 m).2 hm) h1 hme (by omega)
   cases h2 with
   | refl => omega
   | up _ h3 =>
    rw [hupq] at h3; exact t'.le ((hDf2 d).2 hdD) h3
  refine ⟨⟨t', ?_, ?_, ?_, ?_, ?_, ?_⟩, hd0, hdat, hdD.1, fun _ hne => ?_⟩
  ·intro n hn hnr x hx hxn
   rw [hDf2] at hn; by_cases e : n = q
   ·subst e; rw [hupq]; have hall : ∀ p, E p n → Df R up p → Ch up root p x := fun p hp hpD => v.dom_ch s _ p x (Nat.le_refl _) hpD (s.domPred x p n hx hxn hp)
    have hdx := hd.low x hall; have hx0 := s.domPred x p0 n hx hxn hp0; exact v.walk c0 hp0D hx0 (t.le hdD hdx)
   ·rw [hup n e]; exact v.q1 n hn hnr x hx hxn
  ·intro n hn hnr e he
   rw [hDf2] at hn; have he2 : ∀ p, E p n → Df R up p → Ch up root p e := fun p hp hpD => hB p e (he p hp ((hDf2 p).2 hpD))
   by_cases hnq : n = q
   ·subst hnq; rw [hupq]; exact t.le hdD (hd.low e he2)
   ·rw [hup n hnq]; exact v.N n hn hnr e he2
  ·intro n p hn hnr hpn hp hlt e hpe hle
   rw [hDf2] at hn hp
   by_cases hnq : n = q
   ·subst hnq; rw [hupq] at hle ⊢
    have h1 : Ch (put up n d) root p d := (hA p d hp hlt).2 (hd.above p hpn hp)
    exact t'.lin ((hDf2 p).2 hp) h1 hpe hle
   ·rw [hup n hnq] at hle ⊢
    have h1 := v.K n p hn hnr hpn hp hlt e (hB p e hpe) hle; have hun := (t.inc n hn hnr).2; refine hC _ e hun h1 (fun hc => ?_)
    by_cases h2 : at_ e ≤ at_ q
    ·exact .inl h2
    ·refine .inr ?_
     have h3 := t.le hun hc; have h4 := v.J n p hn hnr hpn hp hlt (.inr (by omega))
     exact hDD p e hp (h4.trans hc) hpe (by omega)
  ·intro n p hn hnr hpn hp hlt hor
   rw [hDf2] at hn hp
   by_cases hnq : n = q
   ·subst hnq; rw [hupq]; exact (hA p d hp hlt).2 (hd.above p hpn hp)
   ·rw [hup n hnq] at hor ⊢
    have hun := (t.inc n hn hnr).2; rcases hor with h | h
    ·have hne : at_ n ≠ at_ q := fun e => hnq (s.inj n q hn.1 hq e)
     have h1 := v.J n p hn hnr hpn hp hlt (.inl (by omega))
     exact (hA p _ hp (by omega)).2 h1
    ·have h1 := v.J n p hn hnr hpn hp hlt (.inr (by omega))
     exact hC p _ hp h1 (fun _ => .inl (by omega))
  ·intro n hn hle
   rw [hDf2]; by_cases hnq : n = q
   ·subst hnq; exact hqD
   ·have hne : at_ n ≠ at_ q := fun e => hnq (s.inj n q hn hq e)
    exact v.dfi n hn (by omega)
  ·rcases v.first with h | h
   ·exact .inl fun n hn => (hDf2 n).2 (h n hn)
   ·exact .inr fun n hn => by have := h n ((hDf2 n).1 hn); omega
  ·rcases (t.at_le huD hPF).2 with h | h
   ·exact absurd h hne
   ·exact h
 ·-- no: nothing above or below it changes
  have hfirst : ∀ n, Df R up n → i ≤ at_ n := by
   rcases v.first with h | h
   ·exact absurd (h q hq) hqD
   ·exact h
  have hE : ∀ m x, Df R up m → (Ch (put up q d) root m x ↔ Ch up root m x) := fun m x hm => hA m x hm (by have := hfirst m hm; omega)
  have hold : ∀ m, Df R (put up q d) m → m ≠ q → Df R up m := fun m hm hne => ((hDf' m).1 hm).resolve_left hne
  refine ⟨⟨t', ?_, ?_, ?_, ?_, ?_, ?_⟩, hd0, hdat, hdD.1, fun h => absurd h hqD⟩
  ·intro n hn hnr x hx hxn
   by_cases e : n = q
   ·subst e; rw [hupq]; have hall : ∀ p, E p n → Df R up p → Ch up root p x := fun p hp hpD => v.dom_ch s _ p x (Nat.le_refl _) hpD (s.domPred x p n hx hxn hp)
    have hdx := hd.low x hall; have hx0 := s.domPred x p0 n hx hxn hp0; exact v.walk c0 hp0D hx0 (t.le hdD hdx)
   ·rw [hup n e]; exact v.q1 n (hold n hn e) hnr x hx hxn
  ·intro n hn hnr e he
   have he2 : ∀ p, E p n → Df R up p → Ch up root p e := fun p hp hpD => (hE p e hpD).1 (he p hp ((hDf' p).2 (.inr hpD)))
   by_cases hnq : n = q
   ·subst hnq; rw [hupq]; exact t.le hdD (hd.low e he2)
   ·rw [hup n hnq]; exact v.N n (hold n hn hnq) hnr e he2
  ·intro n p hn hnr hpn hp hlt e hpe hle
   by_cases hnq : n = q
   ·subst hnq; have hpo : Df R up p := hold p hp (fun e => by subst e; omega)
    rw [hupq] at hle ⊢
    have h1 : Ch (put up n d) root p d := (hA p d hpo hlt).2 (hd.above p hpn hpo)
    exact t'.lin hp h1 hpe hle
   ·have hno := hold n hn hnq; have h0 := hfirst n hno; have hpo : Df R up p := hold p hp (fun e => by subst e; omega)
    rw [hup n hnq] at hle ⊢
    have hun := (t.inc n hno hnr).2; exact (hE _ e hun).2 (v.K n p hno hnr hpn hpo hlt e ((hE p e hpo).1 hpe) hle)
  ·intro n p hn hnr hpn hp hlt hor
   by_cases hnq : n = q
   ·subst hnq; have hpo : Df R up p := hold p hp (fun e => by subst e; omega)
    rw [hupq]; exact (hA p d hpo hlt).2 (hd.above p hpn hpo)
   ·have hno := hold n hn hnq; have h0 := hfirst n hno; have hpo : Df R up p := hold p hp (fun e => by subst e; omega)
    rw [hup n hnq] at hor ⊢
    exact (hE p _ hpo).2 (v.J n p hno hnr hpn hpo hlt (.inl h0))
  ·intro n hn hle
   by_cases hnq : n = q
   ·subst hnq; exact (hDf' n).2 (.inl rfl)
   ·have hne : at_ n ≠ at_ q := fun e => hnq (s.inj n q hn hq e)
    exact (hDf' n).2 (.inr (v.dfi n hn (by omega)))
  ·refine .inr fun n hn => ?_
   by_cases hnq : n = q
   ·subst hnq; omega
   ·have := hfirst n (hold n hn hnq); omega
end
end Go.Proofs.Ytjjedbcgkljdeaa.M
end
section
namespace Go.Proofs.Ytjjedbcgkljdeaa.M
open Go.RowKit Go.Proofs.YtjjedbcgkljdeaaW.PrintWords Go.Proofs.YtjjedbcgkljdeaaW.PrintLast Go.Proofs.YtjjedbcgkljdeaaW.PrintMore Go.Proofs.Ytjjedbcgkljdeaa.A
def Evt {α : Type} (f : Nat → Option α) (r : α) : Prop := ∃ K, ∀ k, K ≤ k → f k = some r
section
variable {α β : Type} {f g : Nat → Option α} {r a : α} {b : β}
theorem Evt.const (r : α) : Evt (fun _ => some r) r := ⟨0, fun _ _ => rfl⟩
theorem Evt.succ (h : Evt (fun k => f (k + 1)) r) : Evt f r := by
 obtain ⟨K, h⟩ := h; refine ⟨K + 1, fun k hk => ?_⟩
 obtain ⟨j, rfl⟩ : ∃ j, k = j + 1 := ⟨k - 1, by omega⟩
 exact h j (by omega)
theorem Evt.bind {h : Nat → α → Option β} (h1 : Evt f a) (h2 : Evt (fun k => h k a) b) : Evt (fun k => (f k).bind (h k)) b := by
 obtain ⟨K, h1⟩ := h1; obtain ⟨L, h2⟩ := h2; refine ⟨max K L, fun k hk => ?_⟩
 simp only [h1 k (by omega), Option.bind_some]
 exact h2 k (by omega)
theorem Evt.pos {c : Prop} [Decidable c] (hc : c) (h : Evt f r) : Evt (fun k => if c then f k else g k) r := by
 simpa only [if_pos hc] using h
theorem Evt.neg {c : Prop} [Decidable c] (hc : ¬ c) (h : Evt g r) : Evt (fun k => if c then f k else g k) r := by
 simpa only [if_neg hc] using h
theorem Evt.uniq {r' : α} (h : Evt f r) (h' : Evt f r') : r = r' := by
 obtain ⟨K, h⟩ := h; obtain ⟨L, h'⟩ := h'; have h1 := h (max K L) (by omega)
 have h2 := h' (max K L) (by omega)
 rw [h1] at h2; exact Option.some.inj h2
theorem Evt.of_mono (hm : ∀ k, LeO (f k) (f (k + 1))) {k : Nat} (h : f k = some r) : Evt f r := by
 refine ⟨k, fun j hj => ?_⟩
 obtain ⟨d, rfl⟩ := Nat.exists_eq_add_of_le hj; induction d with
 | zero => exact h
 | succ d ih => exact hm _ r (ih (by omega))
theorem Evt.get (h : Evt f r) : ∃ k, f k = some r := by
 obtain ⟨K, h⟩ := h; exact ⟨K, h K (Nat.le_refl _)⟩
end
theorem wrap64_id {x : Int} (h0 : -9223372036854775808 ≤ x) (h1 : x < 9223372036854775808) : wrap64 x = x := by
 unfold wrap64; omega
theorem wrap_succ (i : Nat) (h : i < 9223372036854775807) : wrap64 ((i : Int) + 1) = ((i + 1 : Nat) : Int) := by
 rw [wrap64_id (by omega) (by omega)]; omega
theorem rd_nat (xs : List Int) (i : Nat) (h : i < xs.length) : rd xs (i : Int) = xs[i] := by simp [rd, h]
theorem rdOf_nat {α : Type} (d : α) (xs : List α) (i : Nat) (h : i < xs.length) : rdOf d xs (i : Int) = xs[i] := by simp [rdOf, h]
theorem rdOf_set (s : List Bool) (m x : Int) (b : Bool) (h0 : 0 ≤ m) (h1 : m < s.length) (hx : 0 ≤ x) : rdOf false (s.set m.toNat b) x = if x = m then b else rdOf false s x := by
 unfold rdOf
 simp only [List.getD_eq_getElem?_getD, List.getElem?_set]
 by_cases h : x = m
 ·subst h; rw [if_pos rfl, if_pos rfl, if_pos (by omega)]; rfl
 ·rw [if_neg (by omega), if_neg h]
theorem count_set_true (s : List Bool) (m : Nat) (h : m < s.length) (hm : s[m] = false) : (s.set m true).count false + 1 = s.count false := by
 have h1 := List.count_set (a := true) (b := false) h; rw [hm] at h1; have : 0 < s.count false := List.count_pos_iff.2 (by rw [← hm]; exact List.getElem_mem h)
 simp at h1
 omega
theorem ext_bool {s t : List Bool} (hl : s.length = t.length) (h : ∀ x : Int, 0 ≤ x → x < s.length → (rdOf false s x = true ↔ rdOf false t x = true)) : s = t := by
 apply List.ext_getElem hl
 intro i h1 h2
 have := h (i : Int) (by omega) (by omega)
 rw [rdOf_nat false s i h1, rdOf_nat false t i h2] at this; exact Bool.eq_iff_iff.2 this
inductive Rch (g : List (List Int)) (P : Int → Bool) (l : List Int) : Int → Prop
 | base {x : Int} : x ∈ l → P x = false → Rch g P l x
 | step {a x : Int} : Rch g P l a → x ∈ rd_L1 g a → P x = false → Rch g P l x
def InR (n : Nat) (l : List Int) : Prop := ∀ x ∈ l, 0 ≤ x ∧ x < (n : Int)
def Gr (g : List (List Int)) : Prop := ∀ r ∈ g, InR g.length r
theorem Gr.row {g : List (List Int)} (h : Gr g) (a : Int) : InR g.length (rd_L1 g a) := by
 unfold rd_L1
 rw [List.getD_eq_getElem?_getD]; rcases Nat.lt_or_ge a.toNat g.length with h1 | h1
 ·rw [List.getElem?_eq_getElem h1]; exact h _ (List.getElem_mem h1)
 ·rw [List.getElem?_eq_none h1]; intro x hx; cases hx
structure VisR (P : Int → Bool) (xs : List Int) (s : List Bool) (t : List Int) (s' : List Bool) (t' : List Int) : Prop where
 run : visL P xs s t = some (s', t')
 len : s'.length = s.length
 pot : t'.length + s'.count false ≤ t.length + s.count false
 mu : 2 * s'.count false + t'.length ≤ 2 * s.count false + t.length
 keep : ∀ x, 0 ≤ x → rdOf false s x = true → rdOf false s' x = true
 new : ∀ x, 0 ≤ x → rdOf false s' x = true → rdOf false s x = true ∨ (x ∈ xs ∧ P x = false ∧ x ∈ t')
 all : ∀ x ∈ xs, rdOf false s' x = true ∨ P x = true
 old : ∀ x ∈ t, x ∈ t'
 tin : ∀ x ∈ t', x ∈ t ∨ (x ∈ xs ∧ rdOf false s' x = true)
theorem visR (P : Int → Bool) : ∀ (xs : List Int) (s : List Bool) (t : List Int), InR s.length xs → t.length + s.count false < 17592186044416 → ∃ s' t', VisR P xs s t s' t'
 | [], s, t, _, _ => ⟨s, t, rfl, rfl, Nat.le_refl _, Nat.le_refl _, fun _ _ h => h, fun _ _ h => .inl h, fun _ h => (by cases h), fun _ h => h, fun _ h => .inl h⟩
 | m :: xs, s, t, hin, hp => by
  obtain ⟨h0, h1⟩ := hin m (by simp)
  have hin' : InR s.length xs := fun x hx => hin x (by simp [hx])
  by_cases hs : rdOf false s m = true
  ·obtain ⟨s', t', h⟩ := visR P xs s t hin' hp; refine ⟨s', t', ?_, h.len, h.pot, h.mu, h.keep, fun x hx hr => ?_, fun x hx => ?_, h.old, fun x hx => ?_⟩
   ·rw [visL, visF, if_pos h0, if_pos h1, if_pos hs]; exact h.run
   ·rcases h.new x hx hr with h | ⟨a, b, c⟩
    ·exact .inl h
    ·exact .inr ⟨by simp [a], b, c⟩
   ·rcases List.mem_cons.1 hx with rfl | hx
    ·exact .inl (h.keep _ h0 hs)
    ·exact h.all x hx
   ·rcases h.tin x hx with h | ⟨a, b⟩
    ·exact .inl h
    ·exact .inr ⟨by simp [a], b⟩
  ·by_cases hP : P m = true
   ·obtain ⟨s', t', h⟩ := visR P xs s t hin' hp; refine ⟨s', t', ?_, h.len, h.pot, h.mu, h.keep, fun x hx hr => ?_, fun x hx => ?_, h.old, fun x hx => ?_⟩
    ·rw [visL, visF, if_pos h0, if_pos h1, if_neg hs, if_pos hP]; exact h.run
    ·rcases h.new x hx hr with h | ⟨a, b, c⟩
     ·exact .inl h
     ·exact .inr ⟨by simp [a], b, c⟩
    ·rcases List.mem_cons.1 hx with rfl | hx
     ·exact .inr hP
     ·exact h.all x hx
    ·rcases h.tin x hx with h | ⟨a, b⟩
     ·exact .inl h
     ·exact .inr ⟨by simp [a], b⟩
   ·have hlt : m.toNat < s.length := by omega
    have hf : s[m.toNat] = false := by
     have : rdOf false s m = s[m.toNat] := by simp [rdOf, hlt]
     rw [← this]; exact Bool.eq_false_iff.2 hs
    have hc := count_set_true s m.toNat hlt hf; obtain ⟨s', t', h⟩ := visR P xs (s.set m.toNat true) (t ++ [m]) (by simpa using hin') (by simp; omega)
    have hm : rdOf false (s.set m.toNat true) m = true := by rw [rdOf_set s m m true h0 h1 h0, if_pos rfl]
    have hl : (t ++ [m]).length = t.length + 1 := by simp
    refine ⟨s', t', ?_, by rw [h.len, List.length_set], by have := h.pot; omega, by have := h.mu; omega, fun x hx hr => ?_, fun x hx hr => ?_, fun x hx => ?_, fun x hx => h.old x (by simp [hx]), fun x hx => ?_⟩
    ·rw [visL, visF, if_pos h0, if_pos h1, if_neg hs, if_neg hP, if_pos (by omega)]; exact h.run
    ·refine h.keep x hx ?_
     rw [rdOf_set s m x true h0 h1 hx]; split
     ·rfl
     ·exact hr
    ·rcases h.new x hx hr with h2 | ⟨a, b, c⟩
     ·rw [rdOf_set s m x true h0 h1 hx] at h2; split at h2
      next e => subst e; exact .inr ⟨by simp, Bool.eq_false_iff.2 hP, h.old _ (by simp)⟩
      next => exact .inl h2
     ·exact .inr ⟨by simp [a], b, c⟩
    ·rcases List.mem_cons.1 hx with rfl | hx
     ·exact .inl (h.keep _ h0 hm)
     ·exact h.all x hx
    ·rcases h.tin x hx with h2 | ⟨a, b⟩
     ·rcases List.mem_append.1 h2 with h2 | h2
      ·exact .inl h2
      ·obtain rfl := List.mem_singleton.1 h2; exact .inr ⟨by simp, h.keep _ h0 hm⟩
     ·exact .inr ⟨by simp [a], b⟩
structure FI (P : Int → Bool) (g : List (List Int)) (l : List Int) (s : List Bool) (t : List Int) : Prop where
 len : s.length = g.length
 tin : ∀ x ∈ t, 0 ≤ x ∧ x < (g.length : Int) ∧ rdOf false s x = true
 sound : ∀ x, 0 ≤ x → rdOf false s x = true → Rch g P l x
 closed : ∀ a, 0 ≤ a → rdOf false s a = true → a ∈ t ∨ ∀ x ∈ rd_L1 g a, rdOf false s x = true ∨ P x = true
 starts : ∀ x ∈ l, 0 ≤ x → rdOf false s x = true ∨ P x = true
 pot : t.length + s.count false ≤ g.length
theorem last_split {t : List Int} (h : t.length ≠ 0) : ∃ t0 x, t = t0 ++ [x] ∧ rd t ((t.length : Int) - 1) = x ∧ t.take (t.length - 1) = t0 := by
 have hne : t ≠ [] := fun e => h (by rw [e]; rfl)
 refine ⟨t.dropLast, t.getLast hne, (List.dropLast_concat_getLast hne).symm, ?_, (List.dropLast_eq_take).symm⟩
 rw [show ((t.length : Int) - 1) = ((t.length - 1 : Nat) : Int) by omega, rd_nat _ _ (by omega), List.getLast_eq_getElem]
theorem runR {P : Int → Bool} {g : List (List Int)} {l : List Int} (hg : Gr g) (hn : g.length < 17592186044416) : ∀ (N : Nat) (s : List Bool) (t : List Int), FI P g l s t → 2 * s.count false + t.length ≤ N →
  ∃ r, Evt (fun k => runF P g k s t) r ∧ FI P g l r []
 | N, s, t, hi, hN => by
  by_cases h0 : t.length = 0
  ·have ht : t = [] := List.length_eq_zero_iff.1 h0
   subst ht; exact ⟨s, Evt.succ (by simp only [runF]; exact Evt.pos rfl (Evt.const s)), hi⟩
  ·obtain ⟨t0, x, rfl, hx, ht0⟩ := last_split h0; obtain ⟨hx0, hx1, hxs⟩ := hi.tin x (by simp)
   have hl : (t0 ++ [x]).length = t0.length + 1 := by simp
   have hp := hi.pot; have hl0 := hi.len; obtain ⟨s', t', hv⟩ := visR P (rd_L1 g x) s t0 (by rw [hl0]; exact hg.row x) (by omega)
   have hi' : FI P g l s' t' := by
    refine ⟨by rw [hv.len, hl0], fun y hy => ?_, fun y hy hs => ?_, fun a ha hs => ?_, fun y hy hy0 => ?_, by have := hv.pot; omega⟩
    ·rcases hv.tin y hy with h | ⟨h, h'⟩
     ·obtain ⟨a, b, c⟩ := hi.tin y (by simp [h])
      exact ⟨a, b, hv.keep y a c⟩
     ·obtain ⟨a, b⟩ := hg.row x y h; exact ⟨a, b, h'⟩
    ·rcases hv.new y hy hs with h | ⟨h, h2, _⟩
     ·exact hi.sound y hy h
     ·exact Rch.step (hi.sound x hx0 hxs) h h2
    ·rcases hv.new a ha hs with h | ⟨_, _, h⟩
     ·rcases hi.closed a ha h with h2 | h2
      ·rcases List.mem_append.1 h2 with h3 | h3
       ·exact .inl (hv.old a h3)
       ·obtain rfl := List.mem_singleton.1 h3; exact .inr hv.all
      ·refine .inr fun y hy => ?_
       rcases h2 y hy with h3 | h3
       ·exact .inl (hv.keep y (hg.row a y hy).1 h3)
       ·exact .inr h3
     ·exact .inl h
    ·rcases hi.starts y hy hy0 with h | h
     ·exact .inl (hv.keep y hy0 h)
     ·exact .inr h
   have hmu := hv.mu; obtain ⟨r, hr, hi2⟩ := runR hg hn (N - 1) s' t' hi' (by omega)
   refine ⟨r, Evt.succ ?_, hi2⟩
   simp only [runF]
   refine Evt.neg h0 ?_
   rw [hx, ht0]; refine Evt.pos hx0 (Evt.pos hx1 ?_)
   simp only [hv.run, Option.bind_some]
   exact hr
  termination_by N => N
  decreasing_by omega
theorem Rch.range {P : Int → Bool} {g : List (List Int)} {l : List Int} (hg : Gr g) (hl : InR g.length l) {x : Int} (h : Rch g P l x) : 0 ≤ x ∧ x < (g.length : Int) := by
 cases h with
 | base h _ => exact hl x h
 | step _ h _ => exact hg.row _ x h
theorem Rch.ok {P : Int → Bool} {g : List (List Int)} {l : List Int} {x : Int} (h : Rch g P l x) : P x = false := by
 cases h with
 | base _ h => exact h
 | step _ _ h => exact h
theorem FI.iff {P : Int → Bool} {g : List (List Int)} {l : List Int} {r : List Bool} (hg : Gr g) (hl : InR g.length l) (h : FI P g l r []) (x : Int) (hx : 0 ≤ x) : rdOf false r x = true ↔ Rch g P l x := by
 refine ⟨h.sound x hx, fun hr => ?_⟩
 clear hx; induction hr with
 | base h1 h2 =>
  rcases h.starts _ h1 (hl _ h1).1 with h3 | h3
  ·exact h3
  ·rw [h2] at h3; cases h3
 | step h1 h2 h3 ih =>
  rcases h.closed _ (h1.range hg hl).1 ih with h4 | h4
  ·cases h4
  ·rcases h4 _ h2 with h5 | h5
   ·exact h5
   ·rw [h3] at h5; cases h5
theorem fromF_ev (P : Int → Bool) (g : List (List Int)) (l : List Int) (hg : Gr g) (hl : InR g.length l) (hn : g.length ≤ 100000) : ∃ r, Evt (fun k => fromF P k g l) r ∧ r.length = g.length ∧ ∀ x : Int, 0 ≤ x → (rdOf false r x = true ↔ Rch g P l x) := by
 have hlen : (List.replicate g.length false).length = g.length := by simp
 have hf : ∀ x : Int, rdOf false (List.replicate g.length false) x = false := fun x => by
  unfold rdOf
  rw [List.getD_eq_getElem?_getD, List.getElem?_replicate]; split <;> rfl
 obtain ⟨s, t, hv⟩ := visR P l (List.replicate g.length false) [] (by rw [hlen]; exact hl) (by simp; omega)
 have hi : FI P g l s t := by
  refine ⟨by rw [hv.len, hlen], fun x hx => ?_, fun x hx hs => ?_, fun a ha hs => ?_, fun x hx _ => hv.all x hx, by have := hv.pot; simp at this; omega⟩
  ·rcases hv.tin x hx with h | ⟨h, h'⟩
   ·cases h
   ·exact ⟨(hl x h).1, (hl x h).2, h'⟩
  ·rcases hv.new x hx hs with h | ⟨h, h2, _⟩
   ·rw [hf] at h; cases h
   ·exact Rch.base h h2
  ·rcases hv.new a ha hs with h | ⟨_, _, h⟩
   ·rw [hf] at h; cases h
   ·exact .inl h
 obtain ⟨r, hr, hi2⟩ := runR hg (by omega) _ s t hi (Nat.le_refl _)
 refine ⟨r, ?_, hi2.len, fun x hx => hi2.iff hg hl x hx⟩
 unfold fromF
 refine Evt.pos (by omega) ?_
 simp only [hv.run, Option.bind_some]
 exact hr
theorem ref_l2 (g : List (List Int)) (w : Int) (x : Int) (hx0 : 0 ≤ x) (hx1 : x < (g.length : Int)) (hlen : (rd_L1 g x).length < 9223372036854775807) (s' : List Bool) (t' : List Int) (r : List Bool) (hr : Evt (fun k => r7_From.l1 k g w s' t') r) :
  ∀ (d i : Nat) (s : List Bool) (t : List Int), i + d = (rd_L1 g x).length → visL (fun n => n == w) ((rd_L1 g x).drop i) s t = some (s', t') → Evt (fun k => r7_From.l2 k g w s t x (i : Int)) r
 | 0, i, s, t, hd, hv => by
  rw [List.drop_of_length_le (by omega)] at hv
  simp only [visL, Option.some.injEq, Prod.mk.injEq] at hv
  obtain ⟨rfl, rfl⟩ := hv; refine Evt.succ ?_
  simp only [r7_From.l2]
  exact Evt.pos hx0 (Evt.pos hx1 (Evt.neg (by omega) hr))
 | d + 1, i, s, t, hd, hv => by
  have hi : i < (rd_L1 g x).length := by omega
  rw [List.drop_eq_getElem_cons hi, visL] at hv; obtain ⟨⟨s1, t1⟩, h1, h2⟩ := Option.bind_eq_some_iff.mp hv; have ih := ref_l2 g w x hx0 hx1 hlen s' t' r hr d (i + 1) s1 t1 (by omega) h2
  have hm : rd (rd_L1 g x) (i : Int) = (rd_L1 g x)[i] := rd_nat _ _ hi
  unfold visF at h1
  generalize (rd_L1 g x)[i] = m at *
  split at h1
  case isFalse => cases h1
  split at h1
  case isFalse => cases h1
  next h0 h01 =>
  refine Evt.succ ?_
  simp only [r7_From.l2, hm, wrap_succ i (by omega)]
  refine Evt.pos hx0 (Evt.pos hx1 (Evt.pos (by omega) (Evt.pos (by omega) ?_)))
  split at h1
  ·next hs =>
   simp only [Option.some.injEq, Prod.mk.injEq] at h1
   obtain ⟨rfl, rfl⟩ := h1; by_cases hw : m = w
   ·exact Evt.pos hw ih
   ·exact Evt.neg hw (Evt.pos h0 (Evt.pos h01 (Evt.pos hs ih)))
  ·next hs =>
   split at h1
   ·next hw =>
    simp only [Option.some.injEq, Prod.mk.injEq] at h1
    obtain ⟨rfl, rfl⟩ := h1; exact Evt.pos (by simpa using hw) ih
   ·next hw =>
    split at h1
    case isFalse => cases h1
    next hb =>
    simp only [Option.some.injEq, Prod.mk.injEq] at h1
    obtain ⟨rfl, rfl⟩ := h1; exact Evt.neg (by simpa using hw) (Evt.pos h0 (Evt.pos h01 (Evt.neg hs (Evt.pos hb ih))))
theorem visL_bound (P : Int → Bool) : ∀ (xs : List Int) (s : List Bool) (t : List Int) (s' : List Bool) (t' : List Int), visL P xs s t = some (s', t') → t.length ≤ 17592186044416 → t'.length ≤ 17592186044416
 | [], s, t, s', t', h, ht => by
  simp only [visL, Option.some.injEq, Prod.mk.injEq] at h
  rw [← h.2]; exact ht
 | m :: xs, s, t, s', t', h, ht => by
  rw [visL] at h; obtain ⟨⟨s1, t1⟩, h1, h2⟩ := Option.bind_eq_some_iff.mp h; refine visL_bound P xs s1 t1 s' t' h2 ?_
  unfold visF at h1
  split at h1
  case isFalse => cases h1
  split at h1
  case isFalse => cases h1
  split at h1
  ·simp only [Option.some.injEq, Prod.mk.injEq] at h1; rw [← h1.2]; exact ht
  ·split at h1
   ·simp only [Option.some.injEq, Prod.mk.injEq] at h1; rw [← h1.2]; exact ht
   ·split at h1
    case isFalse => cases h1
    simp only [Option.some.injEq, Prod.mk.injEq] at h1
    rw [← h1.2, List.length_append, List.length_singleton]; omega
theorem ref_l1 (g : List (List Int)) (w : Int) (hgl : ∀ x : Int, (rd_L1 g x).length < 9223372036854775807) : ∀ (k : Nat) (s : List Bool) (t : List Int) (r : List Bool), t.length ≤ 17592186044416 → runF (fun n => n == w) g k s t = some r → Evt (fun k => r7_From.l1 k g w s t) r
 | 0, s, t, r, _, h => by simp [runF] at h
 | k + 1, s, t, r, ht, h => by
  rw [runF] at h; by_cases h0 : t.length = 0
  ·rw [if_pos h0] at h; obtain rfl := Option.some.inj h; refine Evt.succ ?_
   simp only [r7_From.l1]
   exact Evt.neg (by omega) (Evt.const s)
  ·rw [if_neg h0] at h; split at h
   case isFalse => cases h
   split at h
   case isFalse => cases h
   next hx0 hx1 =>
   obtain ⟨⟨s', t'⟩, h1, h2⟩ := Option.bind_eq_some_iff.mp h; have hw : wrap64 ((t.length : Int) - 1) = ((t.length - 1 : Nat) : Int) := by rw [wrap64_id (by omega) (by omega)]; omega
   have ih := ref_l1 g w hgl k s' t' r (visL_bound _ _ _ _ _ _ h1 (by rw [List.length_take]; omega)) h2
   rw [show ((t.length : Int) - 1) = ((t.length - 1 : Nat) : Int) by omega] at hx0 hx1 h1
   refine Evt.succ ?_
   simp only [r7_From.l1, hw]
   refine Evt.pos (by omega) (Evt.pos (by omega) (Evt.pos (by omega) (Evt.pos (by omega) ?_)))
   simp only [Int.toNat_natCast]
   exact ref_l2 g w _ hx0 hx1 (hgl _) s' t' r ih (rd_L1 g (rd t ((t.length - 1 : Nat) : Int))).length 0 s _ (by omega) (by simpa using h1)
theorem ref_l0 (g : List (List Int)) (w : Int) (l : List Int) (hlen : l.length < 9223372036854775807) (s' : List Bool) (t' : List Int) (r : List Bool) (hr : Evt (fun k => r7_From.l1 k g w s' t') r) :
  ∀ (d i : Nat) (s : List Bool) (t : List Int), i + d = l.length → visL (fun n => n == w) (l.drop i) s t = some (s', t') → Evt (fun k => r7_From.l0 k g l w s t (i : Int)) r
 | 0, i, s, t, hd, hv => by
  rw [List.drop_of_length_le (by omega)] at hv
  simp only [visL, Option.some.injEq, Prod.mk.injEq] at hv
  obtain ⟨rfl, rfl⟩ := hv; refine Evt.succ ?_
  simp only [r7_From.l0]
  exact Evt.neg (by omega) hr
 | d + 1, i, s, t, hd, hv => by
  have hi : i < l.length := by omega
  rw [List.drop_eq_getElem_cons hi, visL] at hv; obtain ⟨⟨s1, t1⟩, h1, h2⟩ := Option.bind_eq_some_iff.mp hv; have ih := ref_l0 g w l hlen s' t' r hr d (i + 1) s1 t1 (by omega) h2
  have hm : rd l (i : Int) = l[i] := rd_nat _ _ hi
  unfold visF at h1
  generalize l[i] = m at *
  split at h1
  case isFalse => cases h1
  split at h1
  case isFalse => cases h1
  next h0 h01 =>
  refine Evt.succ ?_
  simp only [r7_From.l0, hm, wrap_succ i (by omega)]
  refine Evt.pos (by omega) (Evt.pos (by omega) ?_)
  split at h1
  ·next hs =>
   simp only [Option.some.injEq, Prod.mk.injEq] at h1
   obtain ⟨rfl, rfl⟩ := h1; by_cases hw : m = w
   ·exact Evt.pos hw ih
   ·exact Evt.neg hw (Evt.pos h0 (Evt.pos h01 (Evt.pos hs ih)))
  ·next hs =>
   split at h1
   ·next hw =>
    simp only [Option.some.injEq, Prod.mk.injEq] at h1
    obtain ⟨rfl, rfl⟩ := h1; exact Evt.pos (by simpa using hw) ih
   ·next hw =>
    split at h1
    case isFalse => cases h1
    next hb =>
    simp only [Option.some.injEq, Prod.mk.injEq] at h1
    obtain ⟨rfl, rfl⟩ := h1; exact Evt.neg (by simpa using hw) (Evt.pos h0 (Evt.pos h01 (Evt.neg hs (Evt.pos hb ih))))
theorem refFrom_ev (g : List (List Int)) (l : List Int) (w : Int) (hg : Gr g) (hl : InR g.length l) (hn : g.length ≤ 100000) (hgl : ∀ x : Int, (rd_L1 g x).length < 9223372036854775807) (hll : l.length < 9223372036854775807) :
  ∃ r, Evt (fun k => r7_From.f k g l w) r ∧ r.length = g.length ∧ ∀ x : Int, 0 ≤ x → (rdOf false r x = true ↔ Rch g (fun n => n == w) l x) := by
 obtain ⟨r, hr, h1, h2⟩ := fromF_ev (fun n => n == w) g l hg hl hn
 refine ⟨r, ?_, h1, h2⟩
 obtain ⟨k, hk⟩ := hr.get; unfold fromF at hk
 split at hk
 case isFalse => cases hk
 obtain ⟨⟨s, t⟩, h3, h4⟩ := Option.bind_eq_some_iff.mp hk; unfold r7_From.f
 refine Evt.pos (by omega) (Evt.pos (by omega) ?_)
 simp only [Int.toNat_natCast]
 exact ref_l0 g w l hll s t r (ref_l1 g w hgl k s t r (visL_bound _ _ _ _ _ _ h3 (by simp)) h4) l.length 0 _ _ (by omega) (by simpa using h3)
end Go.Proofs.Ytjjedbcgkljdeaa.M
end
