/- Texts of this claim, cut down to what its theorem uses and laid end to end (wip/shake.py). -/
import Derived.ArgAppend
import Derived.Below
import Derived.BigQuiet
import Derived.ChangeOld
import Derived.ChangeSlices
import Derived.Deep.AppendLies
import Derived.Deep.CutBlock
import Derived.Deep.DeepCutAuto
import Derived.Deep.Draws
import Derived.Deep.LoopGhost
import Derived.Deep.Matrix
import Derived.Deep.OwnRows
import Derived.Deep.QuietTactic
import Derived.Deep.RegionHeld3
import Derived.KernelRfl
import Derived.Laws.BitsLemmas
import Derived.Laws.BytesArg
import Derived.Laws.CopyOwn
import Derived.Laws.IdiomCopy
import Derived.Laws.MakeOwn
import Derived.Laws.OwnMore
import Derived.Laws.Rows
import Derived.Laws.Slices
import Derived.Laws.StructEq
import Derived.Lib.AppendStr
import Derived.Lib.ConvBytes
import Derived.LoopIn
import Derived.LoopNIn
import Derived.Maps.AppendAt
import Derived.OpenShut
import Derived.OrdersHeld
import Derived.OwnWalk
import Derived.OwnWalkIn
import Derived.ProofKit
import Derived.RangeFuncBound
import Derived.RangeFuncBox
import Derived.RangeFuncCalls
import Derived.RangeFuncFrom
import Derived.RangeFuncLeaves
import Derived.RangeFuncNested
import Derived.RowKit
import Derived.RowKit3
import Derived.Shelf.Abstract
import Derived.ShutString
import Derived.SizedLaws
import Derived.Tactics
import Derived.TacticsInMore
import Derived.Test.YtjjedbcgkljdeaaProg
import Derived.WalkKit
import Derived.WideLaws
import GoSem.ClaimData
import Derived.Test.YtjjedbcgkljdeaaKDominates1
section
namespace Go.Proofs.Ytjjedbcgkljdeaa.B
open Go.RowKit Go.Proofs.YtjjedbcgkljdeaaW.PrintWords Go.Proofs.YtjjedbcgkljdeaaW.PrintLast Go.Proofs.YtjjedbcgkljdeaaW.PrintMore Go.Proofs.Ytjjedbcgkljdeaa.A
set_option linter.unusedVariables false
set_option linter.unusedSimpArgs false
-- NOT PRINTED: function 61 (graph_posts)
mutual
def graph_backs.l0 : Nat → List (List Int) → List Int → List Bool → List (List Int) → Int → Int → Option ((List (List Int)))
 | 0, _, _, _, _, _, _ => none
 | k + 1, x3, x4, x5, x18, x19, x20 => if x20 < x19 then (if 0 ≤ x20 then (if x20 < (x18.length : Int) then (graph_backs.l1 k x3 x4 x5 x20 x18 x19 x20 (rd_L2 x18 x20) ((rd_L2 x18 x20).length : Int) 0) else (none)) else (none)) else (some x3)
def graph_backs.l1 : Nat → List (List Int) → List Int → List Bool → Int → List (List Int) → Int → Int → List Int → Int → Int → Option ((List (List Int)))
 | 0, _, _, _, _, _, _, _, _, _, _ => none
 | k + 1, x3, x4, x5, x6, x18, x19, x20, x25, x26, x27 => if x27 < x26 then (if 0 ≤ x27 then (if x27 < (x25.length : Int) then (if 0 ≤ x6 then (if x6 < (x5.length : Int) then (if rdOf false x5 x6 = true then ((graph_above.f k x4 (rd x25 x27) x6).bind fun t190 => (if t190 = true then (if 0 ≤ (rd x25 x27) then (if (rd x25 x27) < (x3.length : Int) then (if (rd_L2 x3 (rd x25 x27)).length < 17592186044416 then (graph_backs.l1 k (x3.set ((rd x25 x27) : Int).toNat ((rd_L2 x3 (rd x25 x27)) ++ [x6])) x4 x5 x6 x18 x19 x20 x25 x26 (wrap64 (x27 + 1))) else (none)) else (none)) else (none)) else (graph_backs.l1 k x3 x4 x5 x6 x18 x19 x20 x25 x26 (wrap64 (x27 + 1))))) else (graph_backs.l1 k x3 x4 x5 x6 x18 x19 x20 x25 x26 (wrap64 (x27 + 1)))) else (none)) else (none)) else (none)) else (none)) else (graph_backs.l0 k x3 x4 x5 x18 x19 (wrap64 (x20 + 1)))
end
def graph_backs.f (k : Nat) (l0 : List (List Int)) : Option ((List (List Int))) := if 0 ≤ (l0.length : Int) then (if ((l0.length : Int) : Int).toNat ≤ 11728124029610 then ((graph_tree.f k l0 0).bind fun t178 => ((graph_fromOpen.f k l0 (([0] : List Int))).bind fun t184 => (graph_backs.l0 k (List.replicate ((l0.length : Int) : Int).toNat []) t178 t184 l0 (l0.length : Int) 0))) else (none)) else (none)
theorem graph_backs.mono_l : ∀ k, (∀ y0 y1 y2 y3 y4 y5, LeO (graph_backs.l0 k y0 y1 y2 y3 y4 y5) (graph_backs.l0 (k + 1) y0 y1 y2 y3 y4 y5)) ∧ (∀ y0 y1 y2 y3 y4 y5 y6 y7 y8 y9, LeO (graph_backs.l1 k y0 y1 y2 y3 y4 y5 y6 y7 y8 y9) (graph_backs.l1 (k + 1) y0 y1 y2 y3 y4 y5 y6 y7 y8 y9))
 | 0 => ⟨fun _ _ _ _ _ _ r h => by simp [graph_backs.l0] at h, fun _ _ _ _ _ _ _ _ _ _ r h => by simp [graph_backs.l1] at h⟩
 | k + 1 => by
  obtain ⟨ih0, ih1⟩ := graph_backs.mono_l k; refine ⟨?_, ?_⟩
  ·intro y0 y1 y2 y3 y4 y5
   unfold graph_backs.l0
   repeat' first
   | (with_reducible exact ih0 _ _ _ _ _ _)
   | (with_reducible exact ih1 _ _ _ _ _ _ _ _ _ _)
   | (with_reducible exact graph_above.mono _ _ _ _)
   | (with_reducible exact graph_fromOpen.mono _ _ _)
   | (with_reducible exact graph_tree.mono _ _ _)
   | (with_reducible exact LeO.refl _)
   | (with_reducible exact LeO.none _)
   | (with_reducible refine LeO.ite ?_ ?_)
   | (with_reducible refine LeO.bind ?_ (fun _ => ?_))
  ·intro y0 y1 y2 y3 y4 y5 y6 y7 y8 y9
   unfold graph_backs.l1
   repeat' first
   | (with_reducible exact ih0 _ _ _ _ _ _)
   | (with_reducible exact ih1 _ _ _ _ _ _ _ _ _ _)
   | (with_reducible exact graph_above.mono _ _ _ _)
   | (with_reducible exact graph_fromOpen.mono _ _ _)
   | (with_reducible exact graph_tree.mono _ _ _)
   | (with_reducible exact LeO.refl _)
   | (with_reducible exact LeO.none _)
   | (with_reducible refine LeO.ite ?_ ?_)
   | (with_reducible refine LeO.bind ?_ (fun _ => ?_))
theorem graph_backs.mono : ∀ a0 k, LeO (graph_backs.f k a0) (graph_backs.f (k + 1) a0) := by
 intro a0 k
 obtain ⟨ih0, ih1⟩ := graph_backs.mono_l k; unfold graph_backs.f
 repeat' first
   | (with_reducible exact ih0 _ _ _ _ _ _)
   | (with_reducible exact ih1 _ _ _ _ _ _ _ _ _ _)
   | (with_reducible exact graph_above.mono _ _ _ _)
   | (with_reducible exact graph_fromOpen.mono _ _ _)
   | (with_reducible exact graph_tree.mono _ _ _)
   | (with_reducible exact LeO.refl _)
   | (with_reducible exact LeO.none _)
   | (with_reducible refine LeO.ite ?_ ?_)
   | (with_reducible refine LeO.bind ?_ (fun _ => ?_))
set_option maxHeartbeats 8000000 in
set_option maxRecDepth 100000 in
theorem graph_backs.calls (k : Nat) (A0 : Option Addr) (c0 : Nat) (l0 : List (List Int)) (r : List (List Int)) (w : World) (hr0 : Kd.C (Kd.slice 3 (Kd.int .i64)) w A0 l0.length l0) (hc0 : l0.length ≤ c0) (h : graph_backs.f k l0 = some r) :
  Calls Try.prog 52 #[.slice A0 l0.length c0] w fun e w' => ∃ v0_ : Value, e = .returned (v0_) ∧ Kd.S (Kd.slice 3 (Kd.int .i64)) 33 w' w.heap.size (fun _ => True) v0_ r ∧ Below w.heap.size w w' := by
 have HR0 := Aside0.mk hr0; have HC0 := Aside0.mk hc0; clear hr0 hc0; have HB := Aside0.mk (Below.refl w.heap.size w); have H : (if 0 ≤ (l0.length : Int) then (if ((l0.length : Int) : Int).toNat ≤ 11728124029610 then ((graph_tree.f k l0 0).bind fun t178 => ((graph_fromOpen.f k l0 (([0] : List Int))).bind fun t184 => (graph_backs.l0 k (List.replicate ((l0.length : Int) : Int).toNat []) t178 t184 l0 (l0.length : Int) 0))) else (none)) else (none)) = some r := h
 clear h; by_cases c2 : 0 ≤ (l0.length : Int)
 ·rw [if_pos c2] at H; have c2b0 := eq_true c2; have c2b1 : decide (0 ≤ (l0.length : Int)) = true := decide_eq_true c2
  clear c2; by_cases c3 : ((l0.length : Int) : Int).toNat ≤ 11728124029610
  ·rw [if_pos c3] at H; have c3b0 := eq_true c3; have c3b1 : decide (((l0.length : Int) : Int).toNat ≤ 11728124029610) = true := decide_eq_true c3
   clear c3; obtain ⟨y175, hy175⟩ : ∃ y_ : List (List Int), y_ = (List.replicate ((l0.length : Int) : Int).toNat []) := ⟨_, rfl⟩; replace H : ((graph_tree.f k l0 0).bind fun t178 => ((graph_fromOpen.f k l0 (([0] : List Int))).bind fun t184 => (graph_backs.l0 k y175 t178 t184 l0 (l0.length : Int) 0))) = some r := by first | (with_reducible first | (rw [hy175]; exact H) | exact H) | (have H2_ := (Option.bind_some _ _).symm.trans H; first | with_reducible exact H2_ | (rw [hy175]; exact H2_)) | (rw [hy175]; exact H) | exact H
   have Ny175 := Aside0.mk hy175; clear hy175; replace H := Option.bind_eq_some_iff.mp H; obtain ⟨t178, A40, H⟩ := H; replace H : ((graph_fromOpen.f k l0 (([0] : List Int))).bind fun t184 => (graph_backs.l0 k y175 t178 t184 l0 (l0.length : Int) 0)) = some r := H
   have A4 := Aside0.mk A40; clear A40; obtain ⟨y181, hy181⟩ : ∃ y_ : List Int, y_ = (([0] : List Int)) := ⟨_, rfl⟩; replace H : ((graph_fromOpen.f k l0 y181).bind fun t184 => (graph_backs.l0 k y175 t178 t184 l0 (l0.length : Int) 0)) = some r := by first | (with_reducible first | (rw [hy181]; exact H) | exact H) | (have H2_ := (Option.bind_some _ _).symm.trans H; first | with_reducible exact H2_ | (rw [hy181]; exact H2_)) | (rw [hy181]; exact H) | exact H
   have Ny181 := Aside0.mk hy181; clear hy181; replace H := Option.bind_eq_some_iff.mp H; obtain ⟨t184, A50, H⟩ := H; replace H : (graph_backs.l0 k y175 t178 t184 l0 (l0.length : Int) 0) = some r := H; have A5 := Aside0.mk A50; clear A50; have H' := Aside0.mk H
   clear H; go_enter Try.func52, Try.ntmps52
   go_wp2_with (first | ((with_reducible refine gate_dst (N := 12) rfl ?_); refine Kd.S_make (Kd.slice 3 (Kd.int .i64)) _ 33 rfl (N := 12) rfl 22 _ _ rfl (l0.length : Int) rfl rfl Try.underlying22 (.slice none 0 0) 24 info33 rfl (by decide) (by omega) [] (ok := fun _ => True) (okp := fun _ => True) ⟨_, rfl, Kd.R_nil _ _ _ _ _⟩ (fun _ hk => hk) trivial (of_decide_eq_true (by with_reducible assumption)) (Nat.le_trans (Nat.mul_le_mul_right _ (of_decide_eq_true (by with_reducible assumption) : (l0.length : Int).toNat ≤ 11728124029610)) (by omega)) (Below.refl _ _) (Nat.le_refl _) ?_; intro v176 w6 ho7 hb hg_ hnew_; clear hg_ hnew_; (first | rw [← Ny175.out] at ho7 | (simp only [Int.reduceToNat] at ho7; rw [← Ny175.out] at ho7)); have n0_ := Aside0.mk (Kd.S_lower ho7 (below_size (by repeat (first | (with_reducible first | exact HB.out | apply below_alloc | apply pw_below_drewN | apply below_drew1) | exact HB.out)))); have n1_ := Aside0.mk (below_step (by repeat (first | (with_reducible first | exact HB.out | apply below_alloc | apply pw_below_drewN | apply below_drew1) | exact HB.out)) hb); clear HB; have HO177 := n0_; have HB := n1_; clear n0_ n1_; clear hb ho7) | ((with_reducible refine gate_callee (f := 48) rfl ?_); refine goesL_ (some 14) rfl rfl Try.func48 (by kernel_rfl) rfl #[.slice A0 l0.length c0, .int .i64 0] rfl (by (try simp only [List.map_toArray, List.map_cons, List.map_nil]); first | done | rfl | (simp only [List.length_drop, List.length_take]; rfl)) ?_; (with_reducible refine (graph_tree.calls k _ _ l0 0 t178 _ ?side1 ?side2 A4.out).mono ?_); (case side1 => repeat (first | exact (Kd.C_below HR0.out HB.out) | with_reducible first | refine Kd.C_alloc ?_ _ | refine Kd.C_drewN ?_ _ | refine Kd.C_drew ?_)); (case side2 => exact HC0.out); rintro e w8 ⟨v179, rfl, ho0, hb⟩; refine ⟨_, rfl, ?_⟩; have n0_ := Aside0.mk (Kd.S_elder' (by (with_reducible repeat (first | apply Kd.S_alloc | apply Kd.S_drewN | apply Kd.S_drew)); exact HO177.out) (Kd.R_base ho0) hb); have n1_ := Aside0.mk (Kd.R_lower ho0 (below_size (by repeat (first | (with_reducible first | exact HB.out | apply below_alloc | apply pw_below_drewN | apply below_drew1) | exact HB.out)))); have n2_ := Aside0.mk (below_step (by repeat (first | (with_reducible first | exact HB.out | apply below_alloc | apply pw_below_drewN | apply below_drew1) | exact HB.out)) hb); clear HO177; clear HB; have HO177 := n0_; have HO180 := n1_; have HB := n2_; clear n0_ n1_ n2_; (try clear hb); (try clear hb2); (try clear hk); (try clear hi); (try clear ho0)) | ((with_reducible refine gate_dst (N := 16) rfl ?_); refine Kd.R_lit (Kd.int .i64) _ 3 ?hg (N := 16) ?hd (xs := ([0] : List Int)) (inner := [.int .i64 0]) (ok := fun _ => True) (okp := fun _ => True) ?hr ?hp (fun _ hk => hk) trivial (Below.refl _ _) (Nat.le_refl _) (by simp) ?_; (case hd => rfl); (case hg => rfl); (case hr => first | (go_simp; done) | (go_simp; rfl)); (case hp => exact (Reps.one (show Kd.M (Kd.int .i64) _ _ _ 0 [.int .i64 0] from rfl) (Reps.none _ _))); intro v182 w9 ho10 hb hg_ hnew_; clear hg_ hnew_; (first | rw [← Ny181.out] at ho10 | (simp only [Int.reduceToNat] at ho10; rw [← Ny181.out] at ho10)); have n0_ := Aside0.mk (Kd.S_elder' (by (with_reducible repeat (first | apply Kd.S_alloc | apply Kd.S_drewN | apply Kd.S_drew)); exact HO177.out) (Kd.R_base ho10) hb); have n1_ := Aside0.mk (Kd.R_elder' (by (with_reducible repeat (first | apply Kd.R_alloc | apply Kd.R_drewN | apply Kd.R_drew)); exact HO180.out) (Kd.R_base ho10) hb); have n2_ := Aside0.mk (Kd.R_lower (Kd.R_new' ho10 (Kd.R_lt (by (with_reducible repeat (first | apply Kd.R_alloc | apply Kd.R_drewN | apply Kd.R_drew)); exact HO180.out))) (below_size (by repeat (first | (with_reducible first | exact HB.out | apply below_alloc | apply pw_below_drewN | apply below_drew1) | exact HB.out)))); have n3_ := Aside0.mk (below_step (by repeat (first | (with_reducible first | exact HB.out | apply below_alloc | apply pw_below_drewN | apply below_drew1) | exact HB.out)) hb); clear HO177; clear HO180; clear HB; have HO177 := n0_; have HO180 := n1_; have HO183 := n2_; have HB := n3_; clear n0_ n1_ n2_ n3_; clear hb ho10; obtain ⟨Ao11, co11, eo11⟩ := Kd.R_slice HO183.out; subst eo11) | ((with_reducible refine gate_callee (f := 49) rfl ?_); refine goesL_ (some 17) rfl rfl Try.func49 (by kernel_rfl) rfl #[.slice A0 l0.length c0, .slice Ao11 y181.length co11, .func (.func 50) #[] #[]] rfl (by (try simp only [List.map_toArray, List.map_cons, List.map_nil]); first | done | rfl | (simp only [List.length_drop, List.length_take]; rfl)) ?_; (with_reducible refine (graph_fromOpen.calls k _ _ l0 _ _ y181 t184 _ ?side1 ?side2 ?side3 ?side4 A5.out).mono ?_); (case side1 => repeat (first | exact (Kd.C_below HR0.out HB.out) | with_reducible first | refine Kd.C_alloc ?_ _ | refine Kd.C_drewN ?_ _ | refine Kd.C_drew ?_)); (case side2 => exact HC0.out); (case side3 => repeat (first | exact (Kd.R_reads' HO183.out).2.2 | with_reducible first | refine Kd.C_alloc ?_ _ | refine Kd.C_drewN ?_ _ | refine Kd.C_drew ?_)); (case side4 => exact (Kd.R_reads' HO183.out).2.1); rintro e w12 ⟨v185, rfl, ho0, hb⟩; refine ⟨_, rfl, ?_⟩; have n0_ := Aside0.mk (Kd.S_below (by (with_reducible repeat (first | apply Kd.S_alloc | apply Kd.S_drewN | apply Kd.S_drew)); exact HO177.out) hb); have n1_ := Aside0.mk (Kd.R_below (by (with_reducible repeat (first | apply Kd.R_alloc | apply Kd.R_drewN | apply Kd.R_drew)); exact HO180.out) hb); have n2_ := Aside0.mk (Kd.R_below (by (with_reducible repeat (first | apply Kd.R_alloc | apply Kd.R_drewN | apply Kd.R_drew)); exact HO183.out) hb); have n3_ := Aside0.mk (Kd.R_lower ho0 (below_size (by repeat (first | (with_reducible first | exact HB.out | apply below_alloc | apply pw_below_drewN | apply below_drew1) | exact HB.out)))); have n4_ := Aside0.mk (below_step (by repeat (first | (with_reducible first | exact HB.out | apply below_alloc | apply pw_below_drewN | apply below_drew1) | exact HB.out)) hb); clear HO177; clear HO180; clear HO183; clear HB; have HO177 := n0_; have HO180 := n1_; have HO183 := n2_; have HO186 := n3_; have HB := n4_; clear n0_ n1_ n2_ n3_ n4_; (try clear hb); (try clear hb2); (try clear hk); (try clear hi); (try clear ho0)))
   go_loopg [20] k (fun kq v20 w' => ∃ (x3_1 : List (List Int)) (x20_1 : Int), v20 = .int .i64 x20_1 ∧ Aside0 (graph_backs.l0 kq x3_1 t178 t184 l0 (l0.length : Int) x20_1 = some r) ∧ Aside0 (kq ≤ k) ∧ Aside0 (Kd.S (Kd.slice 3 (Kd.int .i64)) 33 w' w.heap.size (fun k_ => some k_ ≠ (v179 : Value).ownBlock) v176 x3_1) ∧ Aside0 (Kd.R (Kd.int .i64) 3 w' w.heap.size (fun _ => True) v179 t178) ∧ Aside0 (Kd.R Kd.bool 4 w' w.heap.size (fun _ => True) v185 t184) ∧ Aside0 (Below w.heap.size w w'))
   case atStart => exact ⟨(y175), (0), (by first | rfl | (simp; done) | (simp [*]; done)), H', ⟨Nat.le_refl _⟩, ⟨by (with_reducible repeat (first | apply Kd.S_alloc | apply Kd.S_drewN | apply Kd.S_drew)); exact Kd.S_mono HO177.out (fun _ hk => hk.1.2)⟩, ⟨by (with_reducible repeat (first | apply Kd.R_alloc | apply Kd.R_drewN | apply Kd.R_drew)); exact Kd.R_mono HO180.out (fun _ hk => trivial)⟩, ⟨by (with_reducible repeat (first | apply Kd.R_alloc | apply Kd.R_drewN | apply Kd.R_drew)); exact HO186.out⟩, ⟨by repeat (first | (with_reducible first | exact HB.out | apply below_alloc | apply pw_below_drewN | apply below_drew1) | exact HB.out)⟩⟩
   case round =>
    clear H'; try clear c2
    try clear c2b0
    try clear c2b1
    try clear p2
    try clear c3
    try clear c3b0
    try clear c3b1
    try clear c4
    try clear c5
    try clear c8
    obtain ⟨x3_1, x20_1, rfl, HA, HK1, HO_3, HO_4, HO_5, HB⟩ := hrel; cases gk with
    | zero => exact absurd HA.out (by simp [graph_backs.l0])
    | succ k1 =>
     have H := HA.out; clear HA; simp only [graph_backs.l0] at H
     by_cases c13 : x20_1 < (l0.length : Int)
     ·rw [if_pos c13] at H; have c13b0 : decide (x20_1 < (l0.length : Int)) = true := decide_eq_true c13
      clear c13; by_cases c14 : 0 ≤ x20_1
      ·rw [if_pos c14] at H; have c14b0 : decide (0 ≤ x20_1) = true := decide_eq_true c14
       clear c14; by_cases c15 : x20_1 < (l0.length : Int)
       ·rw [if_pos c15] at H; have c15b0 : decide (x20_1 < (l0.length : Int)) = true := decide_eq_true c15
        clear c15; have H' := Aside0.mk H
        clear H; have p187 : 0 ≤ (x20_1 : Int) := of_decide_eq_true (by with_reducible assumption)
        have q187 : x20_1 < (l0.length : Int) := of_decide_eq_true (by with_reducible assumption)
        obtain ⟨ad187, A187_0, c187_0, e187, hx187_0, hl187_0, hi187_0⟩ := at_L2 HR0.out x20_1 p187 q187; cases e187; replace hx187_0 := (HB.out.cell (World.block_lt_of_cell? w _ hx187_0)).trans hx187_0; have HR187_0 := Aside0.mk hi187_0; have HC187_0 := Aside0.mk hl187_0; clear hi187_0 hl187_0; replace p187 := eq_true p187; replace q187 := eq_true q187; go_wp2
        go_loopg [27] k1 (fun kq v27 w' => ∃ (x3_2 : List (List Int)) (x27_2 : Int), v27 = .int .i64 x27_2 ∧ Aside0 (graph_backs.l1 kq x3_2 t178 t184 x20_1 l0 (l0.length : Int) x20_1 (rd_L2 l0 x20_1) ((rd_L2 l0 x20_1).length : Int) x27_2 = some r) ∧ Aside0 (kq ≤ k1) ∧ Aside0 (Kd.S (Kd.slice 3 (Kd.int .i64)) 33 w' w.heap.size (fun k_ => some k_ ≠ (v179 : Value).ownBlock) v176 x3_2) ∧ Aside0 (Kd.R (Kd.int .i64) 3 w' w.heap.size (fun _ => True) v179 t178) ∧ Aside0 (Kd.R Kd.bool 4 w' w.heap.size (fun _ => True) v185 t184) ∧ Aside0 (Below w.heap.size w w'))
        case atStart => exact ⟨(x3_1), (0), (by first | rfl | (simp; done) | (simp [*]; done)), H', ⟨Nat.le_refl _⟩, ⟨by (with_reducible repeat (first | apply Kd.S_alloc | apply Kd.S_drewN | apply Kd.S_drew)); exact HO_3.out⟩, ⟨by (with_reducible repeat (first | apply Kd.R_alloc | apply Kd.R_drewN | apply Kd.R_drew)); exact HO_4.out⟩, ⟨by (with_reducible repeat (first | apply Kd.R_alloc | apply Kd.R_drewN | apply Kd.R_drew)); exact HO_5.out⟩, ⟨by repeat (first | (with_reducible first | exact HB.out | apply below_alloc | apply pw_below_drewN | apply below_drew1) | exact HB.out)⟩⟩
        case round =>
         clear H'; try clear c1
         try clear p1
         try clear q1
         try clear hx1
         try clear c2
         try clear c2b0
         try clear c2b1
         try clear p2
         try clear c3
         try clear c3b0
         try clear c3b1
         try clear c4
         try clear c5
         try clear c8
         try clear c13
         try clear c13b0
         try clear c14
         try clear c14b0
         try clear c15
         try clear c15b0
         try clear hx187_0
         try clear p187
         try clear p2
         try clear q187
         obtain ⟨x3_2, x27_2, rfl, HA, HK2, HO_3, HO_4, HO_5, HB⟩ := hrel; cases gk with
         | zero => exact absurd HA.out (by simp [graph_backs.l1])
         | succ k2 =>
          have H := HA.out; clear HA; simp only [graph_backs.l1] at H
          by_cases c16 : x27_2 < ((rd_L2 l0 x20_1).length : Int)
          ·rw [if_pos c16] at H; have c16b0 : decide (x27_2 < ((rd_L2 l0 x20_1).length : Int)) = true := decide_eq_true c16
           clear c16; by_cases c17 : 0 ≤ x27_2
           ·rw [if_pos c17] at H; have c17b0 : decide (0 ≤ x27_2) = true := decide_eq_true c17
            clear c17; by_cases c18 : x27_2 < ((rd_L2 l0 x20_1).length : Int)
            ·rw [if_pos c18] at H; have c18b0 : decide (x27_2 < ((rd_L2 l0 x20_1).length : Int)) = true := decide_eq_true c18
             clear c18; by_cases c19 : 0 ≤ x20_1
             ·rw [if_pos c19] at H; have c19b0 : decide (0 ≤ x20_1) = true := decide_eq_true c19
              clear c19; by_cases c20 : x20_1 < (t184.length : Int)
              ·rw [if_pos c20] at H; have c20b0 : decide (x20_1 < (t184.length : Int)) = true := decide_eq_true c20
               clear c20; obtain ⟨bq21, hbq21⟩ : ∃ b_ : Bool, b_ = (rdOf false t184 x20_1) := ⟨_, rfl⟩; replace H : (if bq21 = true then ((graph_above.f k2 t178 (rd (rd_L2 l0 x20_1) x27_2) x20_1).bind fun t190 => (if t190 = true then (if 0 ≤ (rd (rd_L2 l0 x20_1) x27_2) then (if (rd (rd_L2 l0 x20_1) x27_2) < (x3_2.length : Int) then (if (rd_L2 x3_2 (rd (rd_L2 l0 x20_1) x27_2)).length < 17592186044416 then (graph_backs.l1 k2 (x3_2.set ((rd (rd_L2 l0 x20_1) x27_2) : Int).toNat ((rd_L2 x3_2 (rd (rd_L2 l0 x20_1) x27_2)) ++ [x20_1])) t178 t184 x20_1 l0 (l0.length : Int) x20_1 (rd_L2 l0 x20_1) ((rd_L2 l0 x20_1).length : Int) (wrap64 (x27_2 + 1))) else (none)) else (none)) else (none)) else (graph_backs.l1 k2 x3_2 t178 t184 x20_1 l0 (l0.length : Int) x20_1 (rd_L2 l0 x20_1) ((rd_L2 l0 x20_1).length : Int) (wrap64 (x27_2 + 1))))) else (graph_backs.l1 k2 x3_2 t178 t184 x20_1 l0 (l0.length : Int) x20_1 (rd_L2 l0 x20_1) ((rd_L2 l0 x20_1).length : Int) (wrap64 (x27_2 + 1)))) = some r := by rw [← hbq21] at H; exact H
               have Nbq21 := Aside0.mk hbq21; clear hbq21; by_cases c22 : bq21 = true
               ·subst c22; have H1 : ((graph_above.f k2 t178 (rd (rd_L2 l0 x20_1) x27_2) x20_1).bind fun t190 => (if t190 = true then (if 0 ≤ (rd (rd_L2 l0 x20_1) x27_2) then (if (rd (rd_L2 l0 x20_1) x27_2) < (x3_2.length : Int) then (if (rd_L2 x3_2 (rd (rd_L2 l0 x20_1) x27_2)).length < 17592186044416 then (graph_backs.l1 k2 (x3_2.set ((rd (rd_L2 l0 x20_1) x27_2) : Int).toNat ((rd_L2 x3_2 (rd (rd_L2 l0 x20_1) x27_2)) ++ [x20_1])) t178 t184 x20_1 l0 (l0.length : Int) x20_1 (rd_L2 l0 x20_1) ((rd_L2 l0 x20_1).length : Int) (wrap64 (x27_2 + 1))) else (none)) else (none)) else (none)) else (graph_backs.l1 k2 x3_2 t178 t184 x20_1 l0 (l0.length : Int) x20_1 (rd_L2 l0 x20_1) ((rd_L2 l0 x20_1).length : Int) (wrap64 (x27_2 + 1))))) = some r := by rw [if_pos rfl] at H; exact H
                clear H; have H := H1; clear H1; replace H := Option.bind_eq_some_iff.mp H; obtain ⟨t190, A230, H⟩ := H; replace H : (if t190 = true then (if 0 ≤ (rd (rd_L2 l0 x20_1) x27_2) then (if (rd (rd_L2 l0 x20_1) x27_2) < (x3_2.length : Int) then (if (rd_L2 x3_2 (rd (rd_L2 l0 x20_1) x27_2)).length < 17592186044416 then (graph_backs.l1 k2 (x3_2.set ((rd (rd_L2 l0 x20_1) x27_2) : Int).toNat ((rd_L2 x3_2 (rd (rd_L2 l0 x20_1) x27_2)) ++ [x20_1])) t178 t184 x20_1 l0 (l0.length : Int) x20_1 (rd_L2 l0 x20_1) ((rd_L2 l0 x20_1).length : Int) (wrap64 (x27_2 + 1))) else (none)) else (none)) else (none)) else (graph_backs.l1 k2 x3_2 t178 t184 x20_1 l0 (l0.length : Int) x20_1 (rd_L2 l0 x20_1) ((rd_L2 l0 x20_1).length : Int) (wrap64 (x27_2 + 1)))) = some r := H
                have A23 := Aside0.mk A230; clear A230; by_cases c24 : t190 = true
                ·subst c24; have H1 : (if 0 ≤ (rd (rd_L2 l0 x20_1) x27_2) then (if (rd (rd_L2 l0 x20_1) x27_2) < (x3_2.length : Int) then (if (rd_L2 x3_2 (rd (rd_L2 l0 x20_1) x27_2)).length < 17592186044416 then (graph_backs.l1 k2 (x3_2.set ((rd (rd_L2 l0 x20_1) x27_2) : Int).toNat ((rd_L2 x3_2 (rd (rd_L2 l0 x20_1) x27_2)) ++ [x20_1])) t178 t184 x20_1 l0 (l0.length : Int) x20_1 (rd_L2 l0 x20_1) ((rd_L2 l0 x20_1).length : Int) (wrap64 (x27_2 + 1))) else (none)) else (none)) else (none)) = some r := by rw [if_pos rfl] at H; exact H
                 clear H; have H := H1; clear H1; by_cases c25 : 0 ≤ (rd (rd_L2 l0 x20_1) x27_2)
                 ·rw [if_pos c25] at H; have c25b0 : decide (0 ≤ (rd (rd_L2 l0 x20_1) x27_2)) = true := decide_eq_true c25
                  clear c25; by_cases c26 : (rd (rd_L2 l0 x20_1) x27_2) < (x3_2.length : Int)
                  ·rw [if_pos c26] at H; have c26b0 : decide ((rd (rd_L2 l0 x20_1) x27_2) < (x3_2.length : Int)) = true := decide_eq_true c26
                   clear c26; by_cases c27 : (rd_L2 x3_2 (rd (rd_L2 l0 x20_1) x27_2)).length < 17592186044416
                   ·rw [if_pos c27] at H; have LMc27 := Aside0.mk c27; clear c27; obtain ⟨y192, hy192⟩ : ∃ y_ : List Int, y_ = ((rd_L2 x3_2 (rd (rd_L2 l0 x20_1) x27_2)) ++ [x20_1]) := ⟨_, rfl⟩; replace H : (graph_backs.l1 k2 (x3_2.set ((rd (rd_L2 l0 x20_1) x27_2) : Int).toNat y192) t178 t184 x20_1 l0 (l0.length : Int) x20_1 (rd_L2 l0 x20_1) ((rd_L2 l0 x20_1).length : Int) (wrap64 (x27_2 + 1))) = some r := by first | (with_reducible first | (rw [hy192]; exact H) | exact H) | (have H2_ := (Option.bind_some _ _).symm.trans H; first | with_reducible exact H2_ | (rw [hy192]; exact H2_)) | (rw [hy192]; exact H) | exact H
                    have Ny192 := Aside0.mk hy192; clear hy192; obtain ⟨y195, hy195⟩ : ∃ y_ : List (List Int), y_ = (x3_2.set ((rd (rd_L2 l0 x20_1) x27_2) : Int).toNat y192) := ⟨_, rfl⟩; replace H : (graph_backs.l1 k2 y195 t178 t184 x20_1 l0 (l0.length : Int) x20_1 (rd_L2 l0 x20_1) ((rd_L2 l0 x20_1).length : Int) (wrap64 (x27_2 + 1))) = some r := by first | (with_reducible first | (rw [hy195]; exact H) | exact H) | (have H2_ := (Option.bind_some _ _).symm.trans H; first | with_reducible exact H2_ | (rw [hy195]; exact H2_)) | (rw [hy195]; exact H) | exact H
                    have Ny195 := Aside0.mk hy195; clear hy195; have H' := Aside0.mk H
                    clear H; have p188 : 0 ≤ (x27_2 : Int) := of_decide_eq_true (by with_reducible assumption)
                    have q188 : x27_2 < ((rd_L2 l0 x20_1).length : Int) := of_decide_eq_true (by with_reducible assumption)
                    obtain ⟨ad188, e188, hx188_0⟩ := Kd.at_int HR187_0.out x27_2 p188 q188; cases e188; replace hx188_0 := (HB.out.cell (World.block_lt_of_cell? w _ hx188_0)).trans hx188_0; replace p188 := eq_true p188; replace q188 := eq_true q188; obtain ⟨Ao29, co29, eo29⟩ := Kd.R_slice HO_5.out; subst eo29; have p189 : 0 ≤ (x20_1 : Int) := of_decide_eq_true (by with_reducible assumption)
                    have q189 : x20_1 < (t184.length : Int) := of_decide_eq_true (by with_reducible assumption)
                    obtain ⟨ad189, e189, hx189_0⟩ := Kd.at_bool (Kd.R_reads' HO_5.out).2.2 x20_1 p189 q189; (try rw [← Nbq21.out] at hx189_0)
                    cases e189; replace p189 := eq_true p189; replace q189 := eq_true q189; obtain ⟨Ao30, co30, eo30⟩ := Kd.R_slice HO_4.out; subst eo30; go_wp2_with (first | (go_at_call 63; (with_reducible refine (graph_above.calls k2 _ _ t178 (rd (rd_L2 l0 x20_1) x27_2) x20_1 true _ ?side1 ?side2 A23.out).mono ?_); (case side1 => repeat (first | exact (Kd.R_reads' HO_4.out).2.2 | with_reducible first | refine Kd.C_alloc ?_ _ | refine Kd.C_drewN ?_ _ | refine Kd.C_drew ?_)); (case side2 => exact (Kd.R_reads' HO_4.out).2.1); rintro e w' ⟨rfl, ⟨nd, rfl⟩⟩; (try (rw [drewN_self wr]; generalize hq_ : World.drewN wr _ = wr; have n0_ : Aside0 (Kd.S (Kd.slice 3 (Kd.int .i64)) 33 wr w.heap.size (fun k_ => some k_ ≠ (.slice Ao30 t178.length co30 : Value).ownBlock) v176 x3_2) := ⟨by rw [← hq_]; exact (by (with_reducible repeat (first | apply Kd.S_alloc | apply Kd.S_drewN | apply Kd.S_drew)); exact HO_3.out)⟩; have n1_ : Aside0 (Kd.R (Kd.int .i64) 3 wr w.heap.size (fun _ => True) (.slice Ao30 t178.length co30) t178) := ⟨by rw [← hq_]; exact (by (with_reducible repeat (first | apply Kd.R_alloc | apply Kd.R_drewN | apply Kd.R_drew)); exact HO_4.out)⟩; have n2_ : Aside0 (Kd.R Kd.bool 4 wr w.heap.size (fun _ => True) (.slice (some ad189) t184.length co29) t184) := ⟨by rw [← hq_]; exact (by (with_reducible repeat (first | apply Kd.R_alloc | apply Kd.R_drewN | apply Kd.R_drew)); exact HO_5.out)⟩; have n3_ : Aside0 (Below w.heap.size w wr) := ⟨by rw [← hq_]; exact (by repeat (first | (with_reducible first | exact HB.out | apply below_alloc | apply pw_below_drewN | apply below_drew1) | exact HB.out))⟩; clear HO_3 HO_4 HO_5 HB hq_; have HO_3 := n0_; have HO_4 := n1_; have HO_5 := n2_; have HB := n3_; clear n0_ n1_ n2_ n3_)); obtain ⟨Ao31, co31, eo31⟩ := Kd.S_slice HO_3.out; subst eo31; have p191 : 0 ≤ ((rd (rd_L2 l0 x20_1) x27_2) : Int) := of_decide_eq_true (by with_reducible assumption); have q191 : (rd (rd_L2 l0 x20_1) x27_2) < (x3_2.length : Int) := of_decide_eq_true (by with_reducible assumption); obtain ⟨ad191, A191_0, c191_0, e191, hx191_0, hl191_0, hi191_0⟩ := at_L2 (Kd.S_reads' HO_3.out).2.2 (rd (rd_L2 l0 x20_1) x27_2) p191 q191; cases e191; obtain ⟨ce191, hce191, hMe191, hcc191⟩ := Kd.S_get HO_3.out [] (rd (rd_L2 l0 x20_1) x27_2) p191 (by first | exact q191 | exact of_decide_eq_true (by with_reducible assumption) | (have e_ := (Kd.S_reads' HO_3.out).1; omega)); obtain ⟨ve191_0, rfl, ge191_0⟩ := hMe191; have hv191_0 := hcc191 0 _ rfl; rw [Nat.add_zero, show ((Kd.slice 3 (Kd.int .i64))).sz = 1 from rfl, Nat.mul_one] at hv191_0; replace hv191_0 := Option.some.inj (hv191_0.symm.trans hx191_0); rw [hv191_0] at ge191_0; have HL191_0 := Aside0.mk (show Kd.R (Kd.int .i64) 3 _ _ _ _ (rd_L2 x3_2 (rd (rd_L2 l0 x20_1) x27_2)) from ge191_0); clear hv191_0 ge191_0; have HX191_0 := Aside0.mk hx191_0; clear hcc191 hce191; have HR191_0 := Aside0.mk hi191_0; have HC191_0 := Aside0.mk hl191_0; clear hi191_0 hl191_0; replace p191 := eq_true p191; replace q191 := eq_true q191; obtain ⟨go32, co32, eo32, gb32, gl32, cl32, HG32⟩ := Kd.S_form HO_3.out (by have h_ : ((rd (rd_L2 l0 x20_1) x27_2) : Int) < ((x3_2.length : Int) : Int) := of_decide_eq_true (by with_reducible assumption); have h2_ : 0 ≤ ((rd (rd_L2 l0 x20_1) x27_2) : Int) := (of_decide_eq_true (by with_reducible assumption)); omega); (first | cases eo32 | (injection eo32 with ea_ en_ ec_; (first | subst ea_ | (injection ea_ with ea_; subst ea_)); subst ec_; clear en_)); have GB32 := Aside0.mk gb32; have GG32 := Aside0.mk HG32; clear gb32 gl32 HG32; (first | simp only [add_plain] at hx191_0 | skip); obtain ⟨oki32, ce32, hcl32, hM32, hcc32, _, _, hH32⟩ := Kd.S_elem HO_3.out [] ((rd (rd_L2 l0 x20_1) x27_2) : Int) (of_decide_eq_true (by with_reducible assumption)) (by have h_ : ((rd (rd_L2 l0 x20_1) x27_2) : Int) < ((x3_2.length : Int) : Int) := of_decide_eq_true (by with_reducible assumption); first | exact h_ | (have e_ := (Kd.S_reads' HO_3.out).1; omega) | simpa using h_); obtain ⟨ve32_0, rfl, ge32_0⟩ := hM32; have hv32 := hcc32 0 _ rfl; have hX32 := HX191_0.out; (try simp only [add_plain] at hX32); (try simp only [Nat.add_zero] at hv32); (try rw [show ((Kd.slice 3 (Kd.int .i64))).sz = 1 from rfl, Nat.mul_one] at hv32); replace hv32 := Option.some.inj (hv32.symm.trans hX32); subst hv32; clear hX32 hcc32 hcl32; have UU32 := Aside0.mk (show Kd.R (Kd.int .i64) 3 _ w.heap.size oki32 (.slice A191_0 (rd_L2 x3_2 (rd (rd_L2 l0 x20_1) x27_2)).length c191_0) (rd_L2 x3_2 (rd (rd_L2 l0 x20_1) x27_2)) from ge32_0); have HH32 := Aside0.mk hH32; have HN32 := Aside0.mk (Kd.S_reads' HO_3.out).1; clear hH32 ge32_0) | ((with_reducible refine gate_builtin (b := .append) (xs := #[.tmp 46, .tmp 48]) rfl ?_); at_builtin; refine Kd.R_append (Kd.int .i64) (w0 := w) w.heap.size rfl (.tmp 46) (.tmp 48) 33 3 (.int .i64 0) 8 rfl Try.underlying33 info3 rfl (by decide) (by omega) (.slice A191_0 (rd_L2 x3_2 (rd (rd_L2 l0 x20_1) x27_2)).length c191_0) (rd_L2 x3_2 (rd (rd_L2 l0 x20_1) x27_2)) x20_1 [.int .i64 x20_1] (fun k_ => oki32 k_ ∨ ((fun k_ => some k_ ≠ (.slice Ao30 t178.length co30 : Value).ownBlock)) k_ ∧ wr.heap.size ≤ k_) (fun _ => False) rfl rfl ?aP (fun _ hk => hk.elim) ?aF ?aO ?aB ?aS ?aL ?_; (case aP => exact rfl); (case aB => exact (by repeat (first | (with_reducible first | exact HB.out | apply below_alloc | apply pw_below_drewN | apply below_drew1) | exact HB.out))); (case aF => exact (fun k_ hk => .inr ⟨Kd.fresh' (Kd.R_lt (by (with_reducible repeat (first | apply Kd.R_alloc | apply Kd.R_drewN | apply Kd.R_drew)); exact HO_4.out)) k_ hk, hk⟩)); (case aO => exact (by (with_reducible repeat (first | apply Kd.R_alloc | apply Kd.R_drewN | apply Kd.R_drew)); exact Kd.R_mono UU32.out (fun _ hk => .inl hk))); (case aS => exact (below_size (by repeat (first | (with_reducible first | exact HB.out | apply below_alloc | apply pw_below_drewN | apply below_drew1) | exact HB.out)))); (case aL => have := LMc27.out; omega); intro v193 w33 ho hb hg hat; rw [← Ny192.out] at ho; have n0_ := Aside0.mk (Kd.R_grown2 (by (with_reducible repeat (first | apply Kd.R_alloc | apply Kd.R_drewN | apply Kd.R_drew)); exact HO_4.out) rfl hg (fun k_ e_ => (HL191_0.out.1 k_ e_).1)); have n1_ := Aside0.mk (Kd.R_over' (v := (.slice A191_0 (rd_L2 x3_2 (rd (rd_L2 l0 x20_1) x27_2)).length c191_0)) (by (with_reducible repeat (first | apply Kd.R_alloc | apply Kd.R_drewN | apply Kd.R_drew)); exact HO_5.out) (Kd.R_typed HL191_0.out) (by decide) hg); have n2_ := Aside0.mk (hb); have n3_ := Aside0.mk (Kd.H_grown (Kd.H_widen (by repeat (first | exact HH32.out | refine Kd.H_alloc ?_ _ | refine Kd.H_drewN ?_ _ | refine Kd.H_drew ?_))) hg (fun k_ e_ => .inl (UU32.out.1 k_ e_))); have n4_ := Aside0.mk (ho); clear HO_4; clear HO_5; clear HB; clear HH32; clear HO_3; clear UU32; clear HL191_0; have HO_4 := n0_; have HO_5 := n1_; have HB := n2_; have HH32 := n3_; have HO194 := n4_; clear n0_ n1_ n2_ n3_ n4_; clear ho hb hg hat; have p28 : 0 ≤ ((rd (rd_L2 l0 x20_1) x27_2) : Int) := of_decide_eq_true (by with_reducible assumption); have q28 : ((rd (rd_L2 l0 x20_1) x27_2) : Int) < ((x3_2.length : Int) : Int) := of_decide_eq_true (by with_reducible assumption); replace p28 := eq_true p28; replace q28 := eq_true q28; obtain ⟨Ao36, co36, eo36⟩ := Kd.R_slice HO194.out; subst eo36; obtain ⟨_, _, hraw34, _, _, hcc34, _⟩ := Kd.H_raw HH32.out (of_decide_eq_true (by with_reducible assumption)) (by have h_ : ((rd (rd_L2 l0 x20_1) x27_2) : Int) < ((x3_2.length : Int) : Int) := of_decide_eq_true (by with_reducible assumption); first | exact h_ | (have e_ := (HN32.out); omega) | simpa using h_); obtain ⟨_, hfr34⟩ := Kd.H_at HH32.out (of_decide_eq_true (by with_reducible assumption)) (by have h_ : ((rd (rd_L2 l0 x20_1) x27_2) : Int) < ((x3_2.length : Int) : Int) := of_decide_eq_true (by with_reducible assumption); first | exact h_ | (have e_ := (HN32.out); omega) | simpa using h_); have hx34_0 := hcc34 0 _ rfl; have hf34_0 := hfr34 0; (try simp only [Nat.add_zero] at hx34_0 hf34_0); (try rw [show ((Kd.slice 3 (Kd.int .i64))).sz = 1 from rfl, Nat.mul_one] at hx34_0); (try rw [show ((Kd.slice 3 (Kd.int .i64))).sz = 1 from rfl, Nat.mul_one] at hf34_0); have HP34 := Kd.S_seg0 HH32.out (of_decide_eq_true (by with_reducible assumption)) (by have h_ : ((rd (rd_L2 l0 x20_1) x27_2) : Int) < ((x3_2.length : Int) : Int) := of_decide_eq_true (by with_reducible assumption); first | exact h_ | (have e_ := (HN32.out); omega) | simpa using h_) (seg := [.slice Ao36 y192.length co36]) (j := 0) (show 1 ≤ 1 from by decide) (x' := y192) (Kd.M_row HO194.out) (fun _ hk => hk); (try simp only [show ((Kd.slice 3 (Kd.int .i64))).sz = 1 from rfl, Nat.mul_one, Nat.add_zero] at HP34); clear hcc34 hfr34) | ((with_reducible refine gate_store (t := 33) (p := 50) rfl ?_); refine store_event (t := 33) (p := 50) (v := ?vo_w35) (w1 := (w33.setCell ⟨go32, ((rd (rd_L2 l0 x20_1) x27_2) : Int).toNat, none⟩ (.slice Ao36 y192.length co36))) ?hg ?ho ?hn ?hr ?_; (case ho => rfl); (case hg => rfl); (case hn => rfl); (case hr => first | (go_simp; done) | (go_simp; rfl)); intro w35 hw; have hg : w33.grownBy w35 (some go32) := (by rw [hw]; exact HP34.2); have hp_ : Kd.S (Kd.slice 3 (Kd.int .i64)) 33 w35 w.heap.size (fun k_ => some k_ ≠ (.slice Ao30 t178.length co30 : Value).ownBlock) (.slice (some ⟨go32, 0, none⟩) x3_2.length co31) y195 := (by rw [hw, Ny195.out]; exact HP34.1); clear HP34; have n0_ := Aside0.mk (Kd.R_over' (v := (.slice (some ⟨go32, 0, none⟩) x3_2.length co31)) (by (with_reducible repeat (first | apply Kd.R_alloc | apply Kd.R_drewN | apply Kd.R_drew)); exact HO_4.out) (Kd.R_typed hraw34) (by decide) hg); have n1_ := Aside0.mk (Kd.R_over' (v := (.slice (some ⟨go32, 0, none⟩) x3_2.length co31)) (by (with_reducible repeat (first | apply Kd.R_alloc | apply Kd.R_drewN | apply Kd.R_drew)); exact HO_5.out) (Kd.R_typed hraw34) (by decide) hg); have n2_ := Aside0.mk ((by rw [hw]; exact below_set HB.out GB32.out : Below w.heap.size w w35)); have n3_ := Aside0.mk (hp_); clear HO_4; clear HO_5; clear HB; clear HO194; clear HH32; have HO_4 := n0_; have HO_5 := n1_; have HB := n2_; have HO_3 := n3_; clear n0_ n1_ n2_ n3_; clear hg hw hp_ hraw34))
                    go_roundg k2
                    case measure => have := HK1.out; have := HK2.out; omega
                    case rel => exact ⟨(y195), (wrap64 (x27_2 + 1)), (by first | rfl | (simp; done) | (simp [*]; done)), H', ⟨by have := HK1.out; have := HK2.out; omega⟩, ⟨by (with_reducible repeat (first | apply Kd.S_alloc | apply Kd.S_drewN | apply Kd.S_drew)); exact HO_3.out⟩, ⟨by (with_reducible repeat (first | apply Kd.R_alloc | apply Kd.R_drewN | apply Kd.R_drew)); exact HO_4.out⟩, ⟨by (with_reducible repeat (first | apply Kd.R_alloc | apply Kd.R_drewN | apply Kd.R_drew)); exact HO_5.out⟩, ⟨by repeat (first | (with_reducible first | exact HB.out | apply below_alloc | apply pw_below_drewN | apply below_drew1) | exact HB.out)⟩⟩
                   ·rw [if_neg c27] at H; exact absurd H (by simp)
                  ·rw [if_neg c26] at H; exact absurd H (by simp)
                 ·rw [if_neg c25] at H; exact absurd H (by simp)
                ·replace c24 := Bool.eq_false_iff.mpr c24; subst c24; have H1 : (graph_backs.l1 k2 x3_2 t178 t184 x20_1 l0 (l0.length : Int) x20_1 (rd_L2 l0 x20_1) ((rd_L2 l0 x20_1).length : Int) (wrap64 (x27_2 + 1))) = some r := by rw [if_neg (show ¬ (false = true) by decide)] at H; exact H
                 clear H; have H := H1; clear H1; have H' := Aside0.mk H
                 clear H; have p188 : 0 ≤ (x27_2 : Int) := of_decide_eq_true (by with_reducible assumption)
                 have q188 : x27_2 < ((rd_L2 l0 x20_1).length : Int) := of_decide_eq_true (by with_reducible assumption)
                 obtain ⟨ad188, e188, hx188_0⟩ := Kd.at_int HR187_0.out x27_2 p188 q188; cases e188; replace hx188_0 := (HB.out.cell (World.block_lt_of_cell? w _ hx188_0)).trans hx188_0; replace p188 := eq_true p188; replace q188 := eq_true q188; obtain ⟨Ao37, co37, eo37⟩ := Kd.R_slice HO_5.out; subst eo37; have p189 : 0 ≤ (x20_1 : Int) := of_decide_eq_true (by with_reducible assumption)
                 have q189 : x20_1 < (t184.length : Int) := of_decide_eq_true (by with_reducible assumption)
                 obtain ⟨ad189, e189, hx189_0⟩ := Kd.at_bool (Kd.R_reads' HO_5.out).2.2 x20_1 p189 q189; (try rw [← Nbq21.out] at hx189_0)
                 cases e189; replace p189 := eq_true p189; replace q189 := eq_true q189; obtain ⟨Ao38, co38, eo38⟩ := Kd.R_slice HO_4.out; subst eo38; go_wp2_with (first | (go_at_call 63; (with_reducible refine (graph_above.calls k2 _ _ t178 (rd (rd_L2 l0 x20_1) x27_2) x20_1 false _ ?side1 ?side2 A23.out).mono ?_); (case side1 => repeat (first | exact (Kd.R_reads' HO_4.out).2.2 | with_reducible first | refine Kd.C_alloc ?_ _ | refine Kd.C_drewN ?_ _ | refine Kd.C_drew ?_)); (case side2 => exact (Kd.R_reads' HO_4.out).2.1); rintro e w' ⟨rfl, ⟨nd, rfl⟩⟩))
                 go_roundg k2
                 case measure => have := HK1.out; have := HK2.out; omega
                 case rel => exact ⟨(x3_2), (wrap64 (x27_2 + 1)), (by first | rfl | (simp; done) | (simp [*]; done)), H', ⟨by have := HK1.out; have := HK2.out; omega⟩, ⟨by (with_reducible repeat (first | apply Kd.S_alloc | apply Kd.S_drewN | apply Kd.S_drew)); exact HO_3.out⟩, ⟨by (with_reducible repeat (first | apply Kd.R_alloc | apply Kd.R_drewN | apply Kd.R_drew)); exact HO_4.out⟩, ⟨by (with_reducible repeat (first | apply Kd.R_alloc | apply Kd.R_drewN | apply Kd.R_drew)); exact HO_5.out⟩, ⟨by repeat (first | (with_reducible first | exact HB.out | apply below_alloc | apply pw_below_drewN | apply below_drew1) | exact HB.out)⟩⟩
               ·replace c22 := Bool.eq_false_iff.mpr c22; subst c22; have H1 : (graph_backs.l1 k2 x3_2 t178 t184 x20_1 l0 (l0.length : Int) x20_1 (rd_L2 l0 x20_1) ((rd_L2 l0 x20_1).length : Int) (wrap64 (x27_2 + 1))) = some r := by rw [if_neg (show ¬ (false = true) by decide)] at H; exact H
                clear H; have H := H1; clear H1; have H' := Aside0.mk H
                clear H; have p188 : 0 ≤ (x27_2 : Int) := of_decide_eq_true (by with_reducible assumption)
                have q188 : x27_2 < ((rd_L2 l0 x20_1).length : Int) := of_decide_eq_true (by with_reducible assumption)
                obtain ⟨ad188, e188, hx188_0⟩ := Kd.at_int HR187_0.out x27_2 p188 q188; cases e188; replace hx188_0 := (HB.out.cell (World.block_lt_of_cell? w _ hx188_0)).trans hx188_0; replace p188 := eq_true p188; replace q188 := eq_true q188; obtain ⟨Ao39, co39, eo39⟩ := Kd.R_slice HO_5.out; subst eo39; have p189 : 0 ≤ (x20_1 : Int) := of_decide_eq_true (by with_reducible assumption)
                have q189 : x20_1 < (t184.length : Int) := of_decide_eq_true (by with_reducible assumption)
                obtain ⟨ad189, e189, hx189_0⟩ := Kd.at_bool (Kd.R_reads' HO_5.out).2.2 x20_1 p189 q189; (try rw [← Nbq21.out] at hx189_0)
                cases e189; replace p189 := eq_true p189; replace q189 := eq_true q189; go_wp2
                go_roundg k2
                case measure => have := HK1.out; have := HK2.out; omega
                case rel => exact ⟨(x3_2), (wrap64 (x27_2 + 1)), (by first | rfl | (simp; done) | (simp [*]; done)), H', ⟨by have := HK1.out; have := HK2.out; omega⟩, ⟨by (with_reducible repeat (first | apply Kd.S_alloc | apply Kd.S_drewN | apply Kd.S_drew)); exact HO_3.out⟩, ⟨by (with_reducible repeat (first | apply Kd.R_alloc | apply Kd.R_drewN | apply Kd.R_drew)); exact HO_4.out⟩, ⟨by (with_reducible repeat (first | apply Kd.R_alloc | apply Kd.R_drewN | apply Kd.R_drew)); exact HO_5.out⟩, ⟨by repeat (first | (with_reducible first | exact HB.out | apply below_alloc | apply pw_below_drewN | apply below_drew1) | exact HB.out)⟩⟩
              ·rw [if_neg c20] at H; exact absurd H (by simp)
             ·rw [if_neg c19] at H; exact absurd H (by simp)
            ·rw [if_neg c18] at H; exact absurd H (by simp)
           ·rw [if_neg c17] at H; exact absurd H (by simp)
          ·rw [if_neg c16] at H; have c16b0 : decide (x27_2 < ((rd_L2 l0 x20_1).length : Int)) = false := decide_eq_false c16
           clear c16; have H' := Aside0.mk H
           clear H; go_wp2
           go_roundg k2
           case measure => have := HK1.out; have := HK2.out; omega
           case rel => exact ⟨(x3_2), (wrap64 (x20_1 + 1)), (by first | rfl | (simp; done) | (simp [*]; done)), H', ⟨by have := HK1.out; have := HK2.out; omega⟩, ⟨by (with_reducible repeat (first | apply Kd.S_alloc | apply Kd.S_drewN | apply Kd.S_drew)); exact HO_3.out⟩, ⟨by (with_reducible repeat (first | apply Kd.R_alloc | apply Kd.R_drewN | apply Kd.R_drew)); exact HO_4.out⟩, ⟨by (with_reducible repeat (first | apply Kd.R_alloc | apply Kd.R_drewN | apply Kd.R_drew)); exact HO_5.out⟩, ⟨by repeat (first | (with_reducible first | exact HB.out | apply below_alloc | apply pw_below_drewN | apply below_drew1) | exact HB.out)⟩⟩
       ·rw [if_neg c15] at H; exact absurd H (by simp)
      ·rw [if_neg c14] at H; exact absurd H (by simp)
     ·rw [if_neg c13] at H; have c13b0 : decide (x20_1 < (l0.length : Int)) = false := decide_eq_false c13
      clear c13; obtain rfl := Option.some.inj H; go_wp2
      go_ret
      exact ⟨_, by first | rfl | (simp [errW_none, errW_some] <;> rfl) | (simp [*, errW_none, errW_some] <;> rfl), by (with_reducible repeat (first | apply Kd.S_alloc | apply Kd.S_drewN | apply Kd.S_drew)); exact Kd.S_mono HO_3.out (fun _ hk => trivial), by repeat (first | (with_reducible first | exact HB.out | apply below_alloc | apply pw_below_drewN | apply below_drew1) | exact HB.out)⟩
  ·rw [if_neg c3] at H; exact absurd H (by simp)
 ·rw [if_neg c2] at H; exact absurd H (by simp)
-- NOT PRINTED: function 15 (graph_Frontier)
def graph_Dominators.f (k : Nat) (l0 : List (List Int)) : Option (List Int × Int) := (graph_valid.f k l0).bind fun t233 => (if t233 = true then ((graph_tree.f k l0 0).bind fun t234 => (some (t234, 0))) else (some (([] : List Int), 1)))
theorem graph_Dominators.mono : ∀ a0 k, LeO (graph_Dominators.f k a0) (graph_Dominators.f (k + 1) a0) := by
 intro a0 k
 unfold graph_Dominators.f
 repeat' first
   | (with_reducible exact graph_tree.mono _ _ _)
   | (with_reducible exact graph_valid.mono _ _)
   | (with_reducible exact LeO.refl _)
   | (with_reducible exact LeO.none _)
   | (with_reducible refine LeO.ite ?_ ?_)
   | (with_reducible refine LeO.bind ?_ (fun _ => ?_))
set_option maxHeartbeats 8000000 in
set_option maxRecDepth 100000 in
theorem graph_Dominators.calls (k : Nat) (A0 : Option Addr) (c0 : Nat) (l0 : List (List Int)) (r1 : List Int) (r2 : Int) (w : World) (hr0 : Kd.C (Kd.slice 3 (Kd.int .i64)) w A0 l0.length l0) (hc0 : l0.length ≤ c0) (h : graph_Dominators.f k l0 = some (r1, r2)) :
  Calls Try.prog 29 #[.slice A0 l0.length c0] w fun e w' => ∃ v0_ : Value, e = .returned (.tuple #[v0_, .int .i64 r2]) ∧ Kd.R (Kd.int .i64) 3 w' w.heap.size (fun _ => True) v0_ r1 ∧ Below w.heap.size w w' := by
 have HR0 := Aside0.mk hr0; have HC0 := Aside0.mk hc0; clear hr0 hc0; have HB := Aside0.mk (Below.refl w.heap.size w); have H : ((graph_valid.f k l0).bind fun t233 => (if t233 = true then ((graph_tree.f k l0 0).bind fun t234 => (some (t234, 0))) else (some (([] : List Int), 1)))) = some (r1, r2) := h
 clear h; replace H := Option.bind_eq_some_iff.mp H; obtain ⟨t233, A20, H⟩ := H; replace H : (if t233 = true then ((graph_tree.f k l0 0).bind fun t234 => (some (t234, 0))) else (some (([] : List Int), 1))) = some (r1, r2) := H
 have A2 := Aside0.mk A20; clear A20; by_cases c3 : t233 = true
 ·subst c3; have H1 : ((graph_tree.f k l0 0).bind fun t234 => (some (t234, 0))) = some (r1, r2) := by rw [if_pos rfl] at H; exact H
  clear H; have H := H1; clear H1; replace H := Option.bind_eq_some_iff.mp H; obtain ⟨t234, A40, H⟩ := H; replace H : (some (t234, 0)) = some (r1, r2) := H; have A4 := Aside0.mk A40; clear A40; simp only [Option.some.injEq, Prod.mk.injEq] at H
  obtain ⟨rfl, rfl⟩ := H; go_enter Try.func29, Try.ntmps29
  go_wp2_with (first | ((with_reducible refine gate_callee (f := 47) rfl ?_); refine goesL_ (some 5) rfl rfl Try.func47 (by kernel_rfl) rfl #[.slice A0 l0.length c0] rfl (by (try simp only [List.map_toArray, List.map_cons, List.map_nil]); first | done | rfl | (simp only [List.length_drop, List.length_take]; rfl)) ?_; (with_reducible refine (graph_valid.calls k _ _ l0 true _ ?side1 ?side2 A2.out).mono ?_); (case side1 => repeat (first | exact HR0.out | with_reducible first | refine Kd.C_alloc ?_ _ | refine Kd.C_drewN ?_ _ | refine Kd.C_drew ?_)); (case side2 => exact HC0.out); rintro e w' ⟨rfl, ⟨nd, rfl⟩⟩; refine ⟨_, rfl, ?_⟩) | ((with_reducible refine gate_callee (f := 48) rfl ?_); refine goesL_ (some 8) rfl rfl Try.func48 (by kernel_rfl) rfl #[.slice A0 l0.length c0, .int .i64 0] rfl (by (try simp only [List.map_toArray, List.map_cons, List.map_nil]); first | done | rfl | (simp only [List.length_drop, List.length_take]; rfl)) ?_; (with_reducible refine (graph_tree.calls k _ _ l0 0 t234 _ ?side1 ?side2 A4.out).mono ?_); (case side1 => repeat (first | exact HR0.out | with_reducible first | refine Kd.C_alloc ?_ _ | refine Kd.C_drewN ?_ _ | refine Kd.C_drew ?_)); (case side2 => exact HC0.out); rintro e w5 ⟨v235, rfl, ho0, hb⟩; refine ⟨_, rfl, ?_⟩; have n0_ := Aside0.mk (Kd.R_lower ho0 (below_size (by repeat (first | (with_reducible first | exact HB.out | apply below_alloc | apply pw_below_drewN | apply below_drew1) | exact HB.out)))); have n1_ := Aside0.mk (below_step (by repeat (first | (with_reducible first | exact HB.out | apply below_alloc | apply pw_below_drewN | apply below_drew1) | exact HB.out)) hb); clear HB; have HO236 := n0_; have HB := n1_; clear n0_ n1_; (try clear hb); (try clear hb2); (try clear hk); (try clear hi); (try clear ho0)))
  go_ret2
  exact ⟨_, by first | rfl | (simp [errW_none, errW_some] <;> rfl) | (simp [*, errW_none, errW_some] <;> rfl), by (with_reducible repeat (first | apply Kd.R_alloc | apply Kd.R_drewN | apply Kd.R_drew)); exact HO236.out, by repeat (first | (with_reducible first | exact HB.out | apply below_alloc | apply pw_below_drewN | apply below_drew1) | exact HB.out)⟩
 ·replace c3 := Bool.eq_false_iff.mpr c3; subst c3; have H1 : (some (([] : List Int), 1)) = some (r1, r2) := by rw [if_neg (show ¬ (false = true) by decide)] at H; exact H
  clear H; have H := H1; clear H1; simp only [Option.some.injEq, Prod.mk.injEq] at H
  obtain ⟨rfl, rfl⟩ := H; go_enter Try.func29, Try.ntmps29
  go_wp2_with (first | ((with_reducible refine gate_callee (f := 47) rfl ?_); refine goesL_ (some 5) rfl rfl Try.func47 (by kernel_rfl) rfl #[.slice A0 l0.length c0] rfl (by (try simp only [List.map_toArray, List.map_cons, List.map_nil]); first | done | rfl | (simp only [List.length_drop, List.length_take]; rfl)) ?_; (with_reducible refine (graph_valid.calls k _ _ l0 false _ ?side1 ?side2 A2.out).mono ?_); (case side1 => repeat (first | exact HR0.out | with_reducible first | refine Kd.C_alloc ?_ _ | refine Kd.C_drewN ?_ _ | refine Kd.C_drew ?_)); (case side2 => exact HC0.out); rintro e w' ⟨rfl, ⟨nd, rfl⟩⟩; refine ⟨_, rfl, ?_⟩))
  go_ret2
  exact ⟨_, by first | rfl | (simp [errW_none, errW_some] <;> rfl) | (simp [*, errW_none, errW_some] <;> rfl), by first | exact Kd.R_nil _ _ _ _ _ | exact Kd.N_nil _ _ _ _ _ | exact Kd.V_nil _ _ _ _ _ | exact Kd.Q_nil _ _ _ _ _ | exact Kd.S_nil _ _ _ _ _, by repeat (first | (with_reducible first | exact HB.out | apply below_alloc | apply pw_below_drewN | apply below_drew1) | exact HB.out)⟩
-- NOT PRINTED: function 27 (graph_Postdominators)
def graph_Dominates.f (k : Nat) (l0 : List (List Int)) (a1 : Int) (a2 : Int) : Option (Bool × Int) := (graph_valid.f k l0).bind fun t238 => (if t238 = true then ((graph_within.f k l0 (([a1, a2] : List Int))).bind fun t242 => (if t242 = true then ((graph_fromOpen.f k l0 (([0] : List Int))).bind fun t246 => (if 0 ≤ a1 then (if a1 < (t246.length : Int) then (if rdOf false t246 a1 = true then (if 0 ≤ a2 then (if a2 < (t246.length : Int) then (if rdOf false t246 a2 = true then ((graph_tree.f k l0 0).bind fun t251 => ((graph_above.f k t251 a1 a2).bind fun t254 => (some (t254, 0)))) else (some (false, 0))) else (none)) else (none)) else (some (false, 0))) else (none)) else (none))) else (some (false, 6)))) else (some (false, 1)))
set_option maxHeartbeats 8000000 in
set_option maxRecDepth 100000 in
theorem graph_Dominates.calls (k : Nat) (A0 : Option Addr) (c0 : Nat) (l0 : List (List Int)) (a1 : Int) (a2 : Int) (r1 : Bool) (r2 : Int) (w : World) (hr0 : Kd.C (Kd.slice 3 (Kd.int .i64)) w A0 l0.length l0) (hc0 : l0.length ≤ c0) (h : graph_Dominates.f k l0 a1 a2 = some (r1, r2)) :
  Calls Try.prog 32 #[.slice A0 l0.length c0, .int .i64 a1, .int .i64 a2] w fun e w' => e = .returned (.tuple #[.bool r1, .int .i64 r2]) ∧ Below w.heap.size w w' := by
 have HR0 := Aside0.mk hr0; have HC0 := Aside0.mk hc0; clear hr0 hc0; have HB := Aside0.mk (Below.refl w.heap.size w); have H : ((graph_valid.f k l0).bind fun t238 => (if t238 = true then ((graph_within.f k l0 (([a1, a2] : List Int))).bind fun t242 => (if t242 = true then ((graph_fromOpen.f k l0 (([0] : List Int))).bind fun t246 => (if 0 ≤ a1 then (if a1 < (t246.length : Int) then (if rdOf false t246 a1 = true then (if 0 ≤ a2 then (if a2 < (t246.length : Int) then (if rdOf false t246 a2 = true then ((graph_tree.f k l0 0).bind fun t251 => ((graph_above.f k t251 a1 a2).bind fun t254 => (some (t254, 0)))) else (some (false, 0))) else (none)) else (none)) else (some (false, 0))) else (none)) else (none))) else (some (false, 6)))) else (some (false, 1)))) = some (r1, r2) := h
 clear h; replace H := Option.bind_eq_some_iff.mp H; obtain ⟨t238, A40, H⟩ := H; replace H : (if t238 = true then ((graph_within.f k l0 (([a1, a2] : List Int))).bind fun t242 => (if t242 = true then ((graph_fromOpen.f k l0 (([0] : List Int))).bind fun t246 => (if 0 ≤ a1 then (if a1 < (t246.length : Int) then (if rdOf false t246 a1 = true then (if 0 ≤ a2 then (if a2 < (t246.length : Int) then (if rdOf false t246 a2 = true then ((graph_tree.f k l0 0).bind fun t251 => ((graph_above.f k t251 a1 a2).bind fun t254 => (some (t254, 0)))) else (some (false, 0))) else (none)) else (none)) else (some (false, 0))) else (none)) else (none))) else (some (false, 6)))) else (some (false, 1))) = some (r1, r2) := H
 have A4 := Aside0.mk A40; clear A40; by_cases c5 : t238 = true
 ·subst c5; have H1 : ((graph_within.f k l0 (([a1, a2] : List Int))).bind fun t242 => (if t242 = true then ((graph_fromOpen.f k l0 (([0] : List Int))).bind fun t246 => (if 0 ≤ a1 then (if a1 < (t246.length : Int) then (if rdOf false t246 a1 = true then (if 0 ≤ a2 then (if a2 < (t246.length : Int) then (if rdOf false t246 a2 = true then ((graph_tree.f k l0 0).bind fun t251 => ((graph_above.f k t251 a1 a2).bind fun t254 => (some (t254, 0)))) else (some (false, 0))) else (none)) else (none)) else (some (false, 0))) else (none)) else (none))) else (some (false, 6)))) = some (r1, r2) := by rw [if_pos rfl] at H; exact H
  clear H; have H := H1; clear H1; obtain ⟨y239, hy239⟩ : ∃ y_ : List Int, y_ = (([a1, a2] : List Int)) := ⟨_, rfl⟩; replace H : ((graph_within.f k l0 y239).bind fun t242 => (if t242 = true then ((graph_fromOpen.f k l0 (([0] : List Int))).bind fun t246 => (if 0 ≤ a1 then (if a1 < (t246.length : Int) then (if rdOf false t246 a1 = true then (if 0 ≤ a2 then (if a2 < (t246.length : Int) then (if rdOf false t246 a2 = true then ((graph_tree.f k l0 0).bind fun t251 => ((graph_above.f k t251 a1 a2).bind fun t254 => (some (t254, 0)))) else (some (false, 0))) else (none)) else (none)) else (some (false, 0))) else (none)) else (none))) else (some (false, 6)))) = some (r1, r2) := by first | (with_reducible first | (rw [hy239]; exact H) | exact H) | (have H2_ := (Option.bind_some _ _).symm.trans H; first | with_reducible exact H2_ | (rw [hy239]; exact H2_)) | (rw [hy239]; exact H) | exact H
  have Ny239 := Aside0.mk hy239; clear hy239; replace H := Option.bind_eq_some_iff.mp H; obtain ⟨t242, A60, H⟩ := H; replace H : (if t242 = true then ((graph_fromOpen.f k l0 (([0] : List Int))).bind fun t246 => (if 0 ≤ a1 then (if a1 < (t246.length : Int) then (if rdOf false t246 a1 = true then (if 0 ≤ a2 then (if a2 < (t246.length : Int) then (if rdOf false t246 a2 = true then ((graph_tree.f k l0 0).bind fun t251 => ((graph_above.f k t251 a1 a2).bind fun t254 => (some (t254, 0)))) else (some (false, 0))) else (none)) else (none)) else (some (false, 0))) else (none)) else (none))) else (some (false, 6))) = some (r1, r2) := H
  have A6 := Aside0.mk A60; clear A60; by_cases c7 : t242 = true
  ·subst c7; have H1 : ((graph_fromOpen.f k l0 (([0] : List Int))).bind fun t246 => (if 0 ≤ a1 then (if a1 < (t246.length : Int) then (if rdOf false t246 a1 = true then (if 0 ≤ a2 then (if a2 < (t246.length : Int) then (if rdOf false t246 a2 = true then ((graph_tree.f k l0 0).bind fun t251 => ((graph_above.f k t251 a1 a2).bind fun t254 => (some (t254, 0)))) else (some (false, 0))) else (none)) else (none)) else (some (false, 0))) else (none)) else (none))) = some (r1, r2) := by rw [if_pos rfl] at H; exact H
   clear H; have H := H1; clear H1; obtain ⟨y243, hy243⟩ : ∃ y_ : List Int, y_ = (([0] : List Int)) := ⟨_, rfl⟩; replace H : ((graph_fromOpen.f k l0 y243).bind fun t246 => (if 0 ≤ a1 then (if a1 < (t246.length : Int) then (if rdOf false t246 a1 = true then (if 0 ≤ a2 then (if a2 < (t246.length : Int) then (if rdOf false t246 a2 = true then ((graph_tree.f k l0 0).bind fun t251 => ((graph_above.f k t251 a1 a2).bind fun t254 => (some (t254, 0)))) else (some (false, 0))) else (none)) else (none)) else (some (false, 0))) else (none)) else (none))) = some (r1, r2) := by first | (with_reducible first | (rw [hy243]; exact H) | exact H) | (have H2_ := (Option.bind_some _ _).symm.trans H; first | with_reducible exact H2_ | (rw [hy243]; exact H2_)) | (rw [hy243]; exact H) | exact H
   have Ny243 := Aside0.mk hy243; clear hy243; replace H := Option.bind_eq_some_iff.mp H; obtain ⟨t246, A80, H⟩ := H; replace H : (if 0 ≤ a1 then (if a1 < (t246.length : Int) then (if rdOf false t246 a1 = true then (if 0 ≤ a2 then (if a2 < (t246.length : Int) then (if rdOf false t246 a2 = true then ((graph_tree.f k l0 0).bind fun t251 => ((graph_above.f k t251 a1 a2).bind fun t254 => (some (t254, 0)))) else (some (false, 0))) else (none)) else (none)) else (some (false, 0))) else (none)) else (none)) = some (r1, r2) := H
   have A8 := Aside0.mk A80; clear A80; by_cases c9 : 0 ≤ a1
   ·rw [if_pos c9] at H; have c9b0 : decide (0 ≤ a1) = true := decide_eq_true c9
    clear c9; by_cases c10 : a1 < (t246.length : Int)
    ·rw [if_pos c10] at H; have c10b0 : decide (a1 < (t246.length : Int)) = true := decide_eq_true c10
     clear c10; obtain ⟨bq11, hbq11⟩ : ∃ b_ : Bool, b_ = (rdOf false t246 a1) := ⟨_, rfl⟩; replace H : (if bq11 = true then (if 0 ≤ a2 then (if a2 < (t246.length : Int) then (if rdOf false t246 a2 = true then ((graph_tree.f k l0 0).bind fun t251 => ((graph_above.f k t251 a1 a2).bind fun t254 => (some (t254, 0)))) else (some (false, 0))) else (none)) else (none)) else (some (false, 0))) = some (r1, r2) := by rw [← hbq11] at H; exact H
     have Nbq11 := Aside0.mk hbq11; clear hbq11; by_cases c12 : bq11 = true
     ·subst c12; have H1 : (if 0 ≤ a2 then (if a2 < (t246.length : Int) then (if rdOf false t246 a2 = true then ((graph_tree.f k l0 0).bind fun t251 => ((graph_above.f k t251 a1 a2).bind fun t254 => (some (t254, 0)))) else (some (false, 0))) else (none)) else (none)) = some (r1, r2) := by rw [if_pos rfl] at H; exact H
      clear H; have H := H1; clear H1; by_cases c13 : 0 ≤ a2
      ·rw [if_pos c13] at H; have c13b0 : decide (0 ≤ a2) = true := decide_eq_true c13
       clear c13; by_cases c14 : a2 < (t246.length : Int)
       ·rw [if_pos c14] at H; have c14b0 : decide (a2 < (t246.length : Int)) = true := decide_eq_true c14
        clear c14; obtain ⟨bq15, hbq15⟩ : ∃ b_ : Bool, b_ = (rdOf false t246 a2) := ⟨_, rfl⟩; replace H : (if bq15 = true then ((graph_tree.f k l0 0).bind fun t251 => ((graph_above.f k t251 a1 a2).bind fun t254 => (some (t254, 0)))) else (some (false, 0))) = some (r1, r2) := by rw [← hbq15] at H; exact H
        have Nbq15 := Aside0.mk hbq15; clear hbq15; by_cases c16 : bq15 = true
        ·subst c16; have H1 : ((graph_tree.f k l0 0).bind fun t251 => ((graph_above.f k t251 a1 a2).bind fun t254 => (some (t254, 0)))) = some (r1, r2) := by rw [if_pos rfl] at H; exact H
         clear H; have H := H1; clear H1; replace H := Option.bind_eq_some_iff.mp H; obtain ⟨t251, A170, H⟩ := H; replace H : ((graph_above.f k t251 a1 a2).bind fun t254 => (some (t254, 0))) = some (r1, r2) := H
         have A17 := Aside0.mk A170; clear A170; replace H := Option.bind_eq_some_iff.mp H; obtain ⟨t254, A180, H⟩ := H; replace H : (some (t254, 0)) = some (r1, r2) := H; have A18 := Aside0.mk A180; clear A180; simp only [Option.some.injEq, Prod.mk.injEq] at H
         obtain ⟨rfl, rfl⟩ := H; go_enter Try.func32, Try.ntmps32
         go_wp2_with (first | ((with_reducible refine gate_callee (f := 47) rfl ?_); refine goesL_ (some 10) rfl rfl Try.func47 (by kernel_rfl) rfl #[.slice A0 l0.length c0] rfl (by (try simp only [List.map_toArray, List.map_cons, List.map_nil]); first | done | rfl | (simp only [List.length_drop, List.length_take]; rfl)) ?_; (with_reducible refine (graph_valid.calls k _ _ l0 true _ ?side1 ?side2 A4.out).mono ?_); (case side1 => repeat (first | exact HR0.out | with_reducible first | refine Kd.C_alloc ?_ _ | refine Kd.C_drewN ?_ _ | refine Kd.C_drew ?_)); (case side2 => exact HC0.out); rintro e w' ⟨rfl, ⟨nd, rfl⟩⟩; refine ⟨_, rfl, ?_⟩) | ((with_reducible refine gate_dst (N := 15) rfl ?_); refine Kd.R_lit (Kd.int .i64) _ 3 ?hg (N := 15) ?hd (xs := ([a1, a2] : List Int)) (inner := [.int .i64 a1, .int .i64 a2]) (ok := fun _ => True) (okp := fun _ => True) ?hr ?hp (fun _ hk => hk) trivial (Below.refl _ _) (Nat.le_refl _) (by simp) ?_; (case hd => rfl); (case hg => rfl); (case hr => first | (go_simp; done) | (go_simp; rfl)); (case hp => exact (Reps.one (show Kd.M (Kd.int .i64) _ _ _ a1 [.int .i64 a1] from rfl) (Reps.one (show Kd.M (Kd.int .i64) _ _ _ a2 [.int .i64 a2] from rfl) (Reps.none _ _)))); intro v240 w19 ho20 hb hg_ hnew_; clear hg_ hnew_; (first | rw [← Ny239.out] at ho20 | (simp only [Int.reduceToNat] at ho20; rw [← Ny239.out] at ho20)); have n0_ := Aside0.mk (Kd.R_lower ho20 (below_size (by repeat (first | (with_reducible first | exact HB.out | apply below_alloc | apply pw_below_drewN | apply below_drew1) | exact HB.out)))); have n1_ := Aside0.mk (below_step (by repeat (first | (with_reducible first | exact HB.out | apply below_alloc | apply pw_below_drewN | apply below_drew1) | exact HB.out)) hb); clear HB; have HO241 := n0_; have HB := n1_; clear n0_ n1_; clear hb ho20; obtain ⟨Ao21, co21, eo21⟩ := Kd.R_slice HO241.out; subst eo21) | ((with_reducible refine gate_callee (f := 60) rfl ?_); refine goesL_ (some 16) rfl rfl Try.func60 (by kernel_rfl) rfl #[.slice A0 l0.length c0, .slice Ao21 y239.length co21] rfl (by (try simp only [List.map_toArray, List.map_cons, List.map_nil]); first | done | rfl | (simp only [List.length_drop, List.length_take]; rfl)) ?_; (with_reducible refine (graph_within.calls k _ _ l0 _ _ y239 true _ ?side1 ?side2 ?side3 ?side4 A6.out).mono ?_); (case side1 => repeat (first | exact (Kd.C_below HR0.out HB.out) | with_reducible first | refine Kd.C_alloc ?_ _ | refine Kd.C_drewN ?_ _ | refine Kd.C_drew ?_)); (case side2 => exact HC0.out); (case side3 => repeat (first | exact (Kd.R_reads' HO241.out).2.2 | with_reducible first | refine Kd.C_alloc ?_ _ | refine Kd.C_drewN ?_ _ | refine Kd.C_drew ?_)); (case side4 => exact (Kd.R_reads' HO241.out).2.1); rintro e w' ⟨rfl, ⟨nd, rfl⟩⟩; refine ⟨_, rfl, ?_⟩) | ((with_reducible refine gate_dst (N := 19) rfl ?_); refine Kd.R_lit (Kd.int .i64) _ 3 ?hg (N := 19) ?hd (xs := ([0] : List Int)) (inner := [.int .i64 0]) (ok := fun _ => True) (okp := fun _ => True) ?hr ?hp (fun _ hk => hk) trivial (Below.refl _ _) (Nat.le_refl _) (by simp) ?_; (case hd => rfl); (case hg => rfl); (case hr => first | (go_simp; done) | (go_simp; rfl)); (case hp => exact (Reps.one (show Kd.M (Kd.int .i64) _ _ _ 0 [.int .i64 0] from rfl) (Reps.none _ _))); intro v244 w22 ho23 hb hg_ hnew_; clear hg_ hnew_; (first | rw [← Ny243.out] at ho23 | (simp only [Int.reduceToNat] at ho23; rw [← Ny243.out] at ho23)); have n0_ := Aside0.mk (Kd.R_elder' (by (with_reducible repeat (first | apply Kd.R_alloc | apply Kd.R_drewN | apply Kd.R_drew)); exact HO241.out) (Kd.R_base ho23) hb); have n1_ := Aside0.mk (Kd.R_lower (Kd.R_new' ho23 (Kd.R_lt (by (with_reducible repeat (first | apply Kd.R_alloc | apply Kd.R_drewN | apply Kd.R_drew)); exact HO241.out))) (below_size (by repeat (first | (with_reducible first | exact HB.out | apply below_alloc | apply pw_below_drewN | apply below_drew1) | exact HB.out)))); have n2_ := Aside0.mk (below_step (by repeat (first | (with_reducible first | exact HB.out | apply below_alloc | apply pw_below_drewN | apply below_drew1) | exact HB.out)) hb); clear HO241; clear HB; have HO241 := n0_; have HO245 := n1_; have HB := n2_; clear n0_ n1_ n2_; clear hb ho23; obtain ⟨Ao24, co24, eo24⟩ := Kd.R_slice HO245.out; subst eo24) | ((with_reducible refine gate_callee (f := 49) rfl ?_); refine goesL_ (some 20) rfl rfl Try.func49 (by kernel_rfl) rfl #[.slice A0 l0.length c0, .slice Ao24 y243.length co24, .func (.func 50) #[] #[]] rfl (by (try simp only [List.map_toArray, List.map_cons, List.map_nil]); first | done | rfl | (simp only [List.length_drop, List.length_take]; rfl)) ?_; (with_reducible refine (graph_fromOpen.calls k _ _ l0 _ _ y243 t246 _ ?side1 ?side2 ?side3 ?side4 A8.out).mono ?_); (case side1 => repeat (first | exact (Kd.C_below HR0.out HB.out) | with_reducible first | refine Kd.C_alloc ?_ _ | refine Kd.C_drewN ?_ _ | refine Kd.C_drew ?_)); (case side2 => exact HC0.out); (case side3 => repeat (first | exact (Kd.R_reads' HO245.out).2.2 | with_reducible first | refine Kd.C_alloc ?_ _ | refine Kd.C_drewN ?_ _ | refine Kd.C_drew ?_)); (case side4 => exact (Kd.R_reads' HO245.out).2.1); rintro e w25 ⟨v247, rfl, ho0, hb⟩; refine ⟨_, rfl, ?_⟩; have n0_ := Aside0.mk (Kd.R_below (by (with_reducible repeat (first | apply Kd.R_alloc | apply Kd.R_drewN | apply Kd.R_drew)); exact HO241.out) hb); have n1_ := Aside0.mk (Kd.R_below (by (with_reducible repeat (first | apply Kd.R_alloc | apply Kd.R_drewN | apply Kd.R_drew)); exact HO245.out) hb); have n2_ := Aside0.mk (Kd.R_lower ho0 (below_size (by repeat (first | (with_reducible first | exact HB.out | apply below_alloc | apply pw_below_drewN | apply below_drew1) | exact HB.out)))); have n3_ := Aside0.mk (below_step (by repeat (first | (with_reducible first | exact HB.out | apply below_alloc | apply pw_below_drewN | apply below_drew1) | exact HB.out)) hb); clear HO241; clear HO245; clear HB; have HO241 := n0_; have HO245 := n1_; have HO248 := n2_; have HB := n3_; clear n0_ n1_ n2_ n3_; (try clear hb); (try clear hb2); (try clear hk); (try clear hi); (try clear ho0); obtain ⟨Ao26, co26, eo26⟩ := Kd.R_slice HO248.out; subst eo26; have p249 : 0 ≤ (a1 : Int) := of_decide_eq_true (by with_reducible assumption); have q249 : a1 < (t246.length : Int) := of_decide_eq_true (by with_reducible assumption); obtain ⟨ad249, e249, hx249_0⟩ := Kd.at_bool (Kd.R_reads' HO248.out).2.2 a1 p249 q249; (try rw [← Nbq11.out] at hx249_0); (try rw [← Nbq15.out] at hx249_0); cases e249; replace p249 := eq_true p249; replace q249 := eq_true q249; have p250 : 0 ≤ (a2 : Int) := of_decide_eq_true (by with_reducible assumption); have q250 : a2 < (t246.length : Int) := of_decide_eq_true (by with_reducible assumption); obtain ⟨ad250, e250, hx250_0⟩ := Kd.at_bool (Kd.R_reads' HO248.out).2.2 a2 p250 q250; (try rw [← Nbq11.out] at hx250_0); (try rw [← Nbq15.out] at hx250_0); obtain rfl : ad249 = ad250 := (by injection e250); replace p250 := eq_true p250; replace q250 := eq_true q250) | (go_at_call 48; (with_reducible refine (graph_tree.calls k _ _ l0 0 t251 _ ?side1 ?side2 A17.out).mono ?_); (case side1 => repeat (first | exact (Kd.C_below HR0.out HB.out) | with_reducible first | refine Kd.C_alloc ?_ _ | refine Kd.C_drewN ?_ _ | refine Kd.C_drew ?_)); (case side2 => exact HC0.out); rintro e w27 ⟨v252, rfl, ho0, hb⟩; have n0_ := Aside0.mk (Kd.R_elder' (by (with_reducible repeat (first | apply Kd.R_alloc | apply Kd.R_drewN | apply Kd.R_drew)); exact HO241.out) (Kd.R_base ho0) hb); have n1_ := Aside0.mk (Kd.R_elder' (by (with_reducible repeat (first | apply Kd.R_alloc | apply Kd.R_drewN | apply Kd.R_drew)); exact HO245.out) (Kd.R_base ho0) hb); have n2_ := Aside0.mk (Kd.R_below (by (with_reducible repeat (first | apply Kd.R_alloc | apply Kd.R_drewN | apply Kd.R_drew)); exact HO248.out) hb); have n3_ := Aside0.mk (Kd.R_lower (Kd.R_new' (Kd.R_new' ho0 (Kd.R_lt (by (with_reducible repeat (first | apply Kd.R_alloc | apply Kd.R_drewN | apply Kd.R_drew)); exact HO241.out))) (Kd.R_lt (by (with_reducible repeat (first | apply Kd.R_alloc | apply Kd.R_drewN | apply Kd.R_drew)); exact HO245.out))) (below_size (by repeat (first | (with_reducible first | exact HB.out | apply below_alloc | apply pw_below_drewN | apply below_drew1) | exact HB.out)))); have n4_ := Aside0.mk (below_step (by repeat (first | (with_reducible first | exact HB.out | apply below_alloc | apply pw_below_drewN | apply below_drew1) | exact HB.out)) hb); clear HO241; clear HO245; clear HO248; clear HB; have HO241 := n0_; have HO245 := n1_; have HO248 := n2_; have HO253 := n3_; have HB := n4_; clear n0_ n1_ n2_ n3_ n4_; (try clear hb); (try clear hb2); (try clear hk); (try clear hi); (try clear ho0); obtain ⟨Ao28, co28, eo28⟩ := Kd.R_slice HO253.out; subst eo28) | (go_at_call 63; (with_reducible refine (graph_above.calls k _ _ t251 a1 a2 t254 _ ?side1 ?side2 A18.out).mono ?_); (case side1 => repeat (first | exact (Kd.R_reads' HO253.out).2.2 | with_reducible first | refine Kd.C_alloc ?_ _ | refine Kd.C_drewN ?_ _ | refine Kd.C_drew ?_)); (case side2 => exact (Kd.R_reads' HO253.out).2.1); rintro e w' ⟨rfl, ⟨nd, rfl⟩⟩))
         go_ret2
         exact ⟨by first | rfl | (simp [errW_none, errW_some] <;> rfl) | (simp [*, errW_none, errW_some] <;> rfl), by repeat (first | (with_reducible first | exact HB.out | apply below_alloc | apply pw_below_drewN | apply below_drew1) | exact HB.out)⟩
        ·replace c16 := Bool.eq_false_iff.mpr c16; subst c16; have H1 : (some (false, 0)) = some (r1, r2) := by rw [if_neg (show ¬ (false = true) by decide)] at H; exact H
         clear H; have H := H1; clear H1; simp only [Option.some.injEq, Prod.mk.injEq] at H
         obtain ⟨rfl, rfl⟩ := H; go_enter Try.func32, Try.ntmps32
         go_wp2_with (first | ((with_reducible refine gate_callee (f := 47) rfl ?_); refine goesL_ (some 10) rfl rfl Try.func47 (by kernel_rfl) rfl #[.slice A0 l0.length c0] rfl (by (try simp only [List.map_toArray, List.map_cons, List.map_nil]); first | done | rfl | (simp only [List.length_drop, List.length_take]; rfl)) ?_; (with_reducible refine (graph_valid.calls k _ _ l0 true _ ?side1 ?side2 A4.out).mono ?_); (case side1 => repeat (first | exact HR0.out | with_reducible first | refine Kd.C_alloc ?_ _ | refine Kd.C_drewN ?_ _ | refine Kd.C_drew ?_)); (case side2 => exact HC0.out); rintro e w' ⟨rfl, ⟨nd, rfl⟩⟩; refine ⟨_, rfl, ?_⟩) | ((with_reducible refine gate_dst (N := 15) rfl ?_); refine Kd.R_lit (Kd.int .i64) _ 3 ?hg (N := 15) ?hd (xs := ([a1, a2] : List Int)) (inner := [.int .i64 a1, .int .i64 a2]) (ok := fun _ => True) (okp := fun _ => True) ?hr ?hp (fun _ hk => hk) trivial (Below.refl _ _) (Nat.le_refl _) (by simp) ?_; (case hd => rfl); (case hg => rfl); (case hr => first | (go_simp; done) | (go_simp; rfl)); (case hp => exact (Reps.one (show Kd.M (Kd.int .i64) _ _ _ a1 [.int .i64 a1] from rfl) (Reps.one (show Kd.M (Kd.int .i64) _ _ _ a2 [.int .i64 a2] from rfl) (Reps.none _ _)))); intro v240 w29 ho30 hb hg_ hnew_; clear hg_ hnew_; (first | rw [← Ny239.out] at ho30 | (simp only [Int.reduceToNat] at ho30; rw [← Ny239.out] at ho30)); have n0_ := Aside0.mk (Kd.R_lower ho30 (below_size (by repeat (first | (with_reducible first | exact HB.out | apply below_alloc | apply pw_below_drewN | apply below_drew1) | exact HB.out)))); have n1_ := Aside0.mk (below_step (by repeat (first | (with_reducible first | exact HB.out | apply below_alloc | apply pw_below_drewN | apply below_drew1) | exact HB.out)) hb); clear HB; have HO241 := n0_; have HB := n1_; clear n0_ n1_; clear hb ho30; obtain ⟨Ao31, co31, eo31⟩ := Kd.R_slice HO241.out; subst eo31) | ((with_reducible refine gate_callee (f := 60) rfl ?_); refine goesL_ (some 16) rfl rfl Try.func60 (by kernel_rfl) rfl #[.slice A0 l0.length c0, .slice Ao31 y239.length co31] rfl (by (try simp only [List.map_toArray, List.map_cons, List.map_nil]); first | done | rfl | (simp only [List.length_drop, List.length_take]; rfl)) ?_; (with_reducible refine (graph_within.calls k _ _ l0 _ _ y239 true _ ?side1 ?side2 ?side3 ?side4 A6.out).mono ?_); (case side1 => repeat (first | exact (Kd.C_below HR0.out HB.out) | with_reducible first | refine Kd.C_alloc ?_ _ | refine Kd.C_drewN ?_ _ | refine Kd.C_drew ?_)); (case side2 => exact HC0.out); (case side3 => repeat (first | exact (Kd.R_reads' HO241.out).2.2 | with_reducible first | refine Kd.C_alloc ?_ _ | refine Kd.C_drewN ?_ _ | refine Kd.C_drew ?_)); (case side4 => exact (Kd.R_reads' HO241.out).2.1); rintro e w' ⟨rfl, ⟨nd, rfl⟩⟩; refine ⟨_, rfl, ?_⟩) | ((with_reducible refine gate_dst (N := 19) rfl ?_); refine Kd.R_lit (Kd.int .i64) _ 3 ?hg (N := 19) ?hd (xs := ([0] : List Int)) (inner := [.int .i64 0]) (ok := fun _ => True) (okp := fun _ => True) ?hr ?hp (fun _ hk => hk) trivial (Below.refl _ _) (Nat.le_refl _) (by simp) ?_; (case hd => rfl); (case hg => rfl); (case hr => first | (go_simp; done) | (go_simp; rfl)); (case hp => exact (Reps.one (show Kd.M (Kd.int .i64) _ _ _ 0 [.int .i64 0] from rfl) (Reps.none _ _))); intro v244 w32 ho33 hb hg_ hnew_; clear hg_ hnew_; (first | rw [← Ny243.out] at ho33 | (simp only [Int.reduceToNat] at ho33; rw [← Ny243.out] at ho33)); have n0_ := Aside0.mk (Kd.R_elder' (by (with_reducible repeat (first | apply Kd.R_alloc | apply Kd.R_drewN | apply Kd.R_drew)); exact HO241.out) (Kd.R_base ho33) hb); have n1_ := Aside0.mk (Kd.R_lower (Kd.R_new' ho33 (Kd.R_lt (by (with_reducible repeat (first | apply Kd.R_alloc | apply Kd.R_drewN | apply Kd.R_drew)); exact HO241.out))) (below_size (by repeat (first | (with_reducible first | exact HB.out | apply below_alloc | apply pw_below_drewN | apply below_drew1) | exact HB.out)))); have n2_ := Aside0.mk (below_step (by repeat (first | (with_reducible first | exact HB.out | apply below_alloc | apply pw_below_drewN | apply below_drew1) | exact HB.out)) hb); clear HO241; clear HB; have HO241 := n0_; have HO245 := n1_; have HB := n2_; clear n0_ n1_ n2_; clear hb ho33; obtain ⟨Ao34, co34, eo34⟩ := Kd.R_slice HO245.out; subst eo34) | ((with_reducible refine gate_callee (f := 49) rfl ?_); refine goesL_ (some 20) rfl rfl Try.func49 (by kernel_rfl) rfl #[.slice A0 l0.length c0, .slice Ao34 y243.length co34, .func (.func 50) #[] #[]] rfl (by (try simp only [List.map_toArray, List.map_cons, List.map_nil]); first | done | rfl | (simp only [List.length_drop, List.length_take]; rfl)) ?_; (with_reducible refine (graph_fromOpen.calls k _ _ l0 _ _ y243 t246 _ ?side1 ?side2 ?side3 ?side4 A8.out).mono ?_); (case side1 => repeat (first | exact (Kd.C_below HR0.out HB.out) | with_reducible first | refine Kd.C_alloc ?_ _ | refine Kd.C_drewN ?_ _ | refine Kd.C_drew ?_)); (case side2 => exact HC0.out); (case side3 => repeat (first | exact (Kd.R_reads' HO245.out).2.2 | with_reducible first | refine Kd.C_alloc ?_ _ | refine Kd.C_drewN ?_ _ | refine Kd.C_drew ?_)); (case side4 => exact (Kd.R_reads' HO245.out).2.1); rintro e w35 ⟨v247, rfl, ho0, hb⟩; refine ⟨_, rfl, ?_⟩; have n0_ := Aside0.mk (Kd.R_below (by (with_reducible repeat (first | apply Kd.R_alloc | apply Kd.R_drewN | apply Kd.R_drew)); exact HO241.out) hb); have n1_ := Aside0.mk (Kd.R_below (by (with_reducible repeat (first | apply Kd.R_alloc | apply Kd.R_drewN | apply Kd.R_drew)); exact HO245.out) hb); have n2_ := Aside0.mk (Kd.R_lower ho0 (below_size (by repeat (first | (with_reducible first | exact HB.out | apply below_alloc | apply pw_below_drewN | apply below_drew1) | exact HB.out)))); have n3_ := Aside0.mk (below_step (by repeat (first | (with_reducible first | exact HB.out | apply below_alloc | apply pw_below_drewN | apply below_drew1) | exact HB.out)) hb); clear HO241; clear HO245; clear HB; have HO241 := n0_; have HO245 := n1_; have HO248 := n2_; have HB := n3_; clear n0_ n1_ n2_ n3_; (try clear hb); (try clear hb2); (try clear hk); (try clear hi); (try clear ho0); obtain ⟨Ao36, co36, eo36⟩ := Kd.R_slice HO248.out; subst eo36; have p249 : 0 ≤ (a1 : Int) := of_decide_eq_true (by with_reducible assumption); have q249 : a1 < (t246.length : Int) := of_decide_eq_true (by with_reducible assumption); obtain ⟨ad249, e249, hx249_0⟩ := Kd.at_bool (Kd.R_reads' HO248.out).2.2 a1 p249 q249; (try rw [← Nbq11.out] at hx249_0); (try rw [← Nbq15.out] at hx249_0); cases e249; replace p249 := eq_true p249; replace q249 := eq_true q249; have p250 : 0 ≤ (a2 : Int) := of_decide_eq_true (by with_reducible assumption); have q250 : a2 < (t246.length : Int) := of_decide_eq_true (by with_reducible assumption); obtain ⟨ad250, e250, hx250_0⟩ := Kd.at_bool (Kd.R_reads' HO248.out).2.2 a2 p250 q250; (try rw [← Nbq11.out] at hx250_0); (try rw [← Nbq15.out] at hx250_0); obtain rfl : ad249 = ad250 := (by injection e250); replace p250 := eq_true p250; replace q250 := eq_true q250))
         go_ret2
         exact ⟨by first | rfl | (simp [errW_none, errW_some] <;> rfl) | (simp [*, errW_none, errW_some] <;> rfl), by repeat (first | (with_reducible first | exact HB.out | apply below_alloc | apply pw_below_drewN | apply below_drew1) | exact HB.out)⟩
       ·rw [if_neg c14] at H; exact absurd H (by simp)
      ·rw [if_neg c13] at H; exact absurd H (by simp)
     ·replace c12 := Bool.eq_false_iff.mpr c12; subst c12; have H1 : (some (false, 0)) = some (r1, r2) := by rw [if_neg (show ¬ (false = true) by decide)] at H; exact H
      clear H; have H := H1; clear H1; simp only [Option.some.injEq, Prod.mk.injEq] at H
      obtain ⟨rfl, rfl⟩ := H; go_enter Try.func32, Try.ntmps32
      go_wp2_with (first | ((with_reducible refine gate_callee (f := 47) rfl ?_); refine goesL_ (some 10) rfl rfl Try.func47 (by kernel_rfl) rfl #[.slice A0 l0.length c0] rfl (by (try simp only [List.map_toArray, List.map_cons, List.map_nil]); first | done | rfl | (simp only [List.length_drop, List.length_take]; rfl)) ?_; (with_reducible refine (graph_valid.calls k _ _ l0 true _ ?side1 ?side2 A4.out).mono ?_); (case side1 => repeat (first | exact HR0.out | with_reducible first | refine Kd.C_alloc ?_ _ | refine Kd.C_drewN ?_ _ | refine Kd.C_drew ?_)); (case side2 => exact HC0.out); rintro e w' ⟨rfl, ⟨nd, rfl⟩⟩; refine ⟨_, rfl, ?_⟩) | ((with_reducible refine gate_dst (N := 15) rfl ?_); refine Kd.R_lit (Kd.int .i64) _ 3 ?hg (N := 15) ?hd (xs := ([a1, a2] : List Int)) (inner := [.int .i64 a1, .int .i64 a2]) (ok := fun _ => True) (okp := fun _ => True) ?hr ?hp (fun _ hk => hk) trivial (Below.refl _ _) (Nat.le_refl _) (by simp) ?_; (case hd => rfl); (case hg => rfl); (case hr => first | (go_simp; done) | (go_simp; rfl)); (case hp => exact (Reps.one (show Kd.M (Kd.int .i64) _ _ _ a1 [.int .i64 a1] from rfl) (Reps.one (show Kd.M (Kd.int .i64) _ _ _ a2 [.int .i64 a2] from rfl) (Reps.none _ _)))); intro v240 w37 ho38 hb hg_ hnew_; clear hg_ hnew_; (first | rw [← Ny239.out] at ho38 | (simp only [Int.reduceToNat] at ho38; rw [← Ny239.out] at ho38)); have n0_ := Aside0.mk (Kd.R_lower ho38 (below_size (by repeat (first | (with_reducible first | exact HB.out | apply below_alloc | apply pw_below_drewN | apply below_drew1) | exact HB.out)))); have n1_ := Aside0.mk (below_step (by repeat (first | (with_reducible first | exact HB.out | apply below_alloc | apply pw_below_drewN | apply below_drew1) | exact HB.out)) hb); clear HB; have HO241 := n0_; have HB := n1_; clear n0_ n1_; clear hb ho38; obtain ⟨Ao39, co39, eo39⟩ := Kd.R_slice HO241.out; subst eo39) | ((with_reducible refine gate_callee (f := 60) rfl ?_); refine goesL_ (some 16) rfl rfl Try.func60 (by kernel_rfl) rfl #[.slice A0 l0.length c0, .slice Ao39 y239.length co39] rfl (by (try simp only [List.map_toArray, List.map_cons, List.map_nil]); first | done | rfl | (simp only [List.length_drop, List.length_take]; rfl)) ?_; (with_reducible refine (graph_within.calls k _ _ l0 _ _ y239 true _ ?side1 ?side2 ?side3 ?side4 A6.out).mono ?_); (case side1 => repeat (first | exact (Kd.C_below HR0.out HB.out) | with_reducible first | refine Kd.C_alloc ?_ _ | refine Kd.C_drewN ?_ _ | refine Kd.C_drew ?_)); (case side2 => exact HC0.out); (case side3 => repeat (first | exact (Kd.R_reads' HO241.out).2.2 | with_reducible first | refine Kd.C_alloc ?_ _ | refine Kd.C_drewN ?_ _ | refine Kd.C_drew ?_)); (case side4 => exact (Kd.R_reads' HO241.out).2.1); rintro e w' ⟨rfl, ⟨nd, rfl⟩⟩; refine ⟨_, rfl, ?_⟩) | ((with_reducible refine gate_dst (N := 19) rfl ?_); refine Kd.R_lit (Kd.int .i64) _ 3 ?hg (N := 19) ?hd (xs := ([0] : List Int)) (inner := [.int .i64 0]) (ok := fun _ => True) (okp := fun _ => True) ?hr ?hp (fun _ hk => hk) trivial (Below.refl _ _) (Nat.le_refl _) (by simp) ?_; (case hd => rfl); (case hg => rfl); (case hr => first | (go_simp; done) | (go_simp; rfl)); (case hp => exact (Reps.one (show Kd.M (Kd.int .i64) _ _ _ 0 [.int .i64 0] from rfl) (Reps.none _ _))); intro v244 w40 ho41 hb hg_ hnew_; clear hg_ hnew_; (first | rw [← Ny243.out] at ho41 | (simp only [Int.reduceToNat] at ho41; rw [← Ny243.out] at ho41)); have n0_ := Aside0.mk (Kd.R_elder' (by (with_reducible repeat (first | apply Kd.R_alloc | apply Kd.R_drewN | apply Kd.R_drew)); exact HO241.out) (Kd.R_base ho41) hb); have n1_ := Aside0.mk (Kd.R_lower (Kd.R_new' ho41 (Kd.R_lt (by (with_reducible repeat (first | apply Kd.R_alloc | apply Kd.R_drewN | apply Kd.R_drew)); exact HO241.out))) (below_size (by repeat (first | (with_reducible first | exact HB.out | apply below_alloc | apply pw_below_drewN | apply below_drew1) | exact HB.out)))); have n2_ := Aside0.mk (below_step (by repeat (first | (with_reducible first | exact HB.out | apply below_alloc | apply pw_below_drewN | apply below_drew1) | exact HB.out)) hb); clear HO241; clear HB; have HO241 := n0_; have HO245 := n1_; have HB := n2_; clear n0_ n1_ n2_; clear hb ho41; obtain ⟨Ao42, co42, eo42⟩ := Kd.R_slice HO245.out; subst eo42) | ((with_reducible refine gate_callee (f := 49) rfl ?_); refine goesL_ (some 20) rfl rfl Try.func49 (by kernel_rfl) rfl #[.slice A0 l0.length c0, .slice Ao42 y243.length co42, .func (.func 50) #[] #[]] rfl (by (try simp only [List.map_toArray, List.map_cons, List.map_nil]); first | done | rfl | (simp only [List.length_drop, List.length_take]; rfl)) ?_; (with_reducible refine (graph_fromOpen.calls k _ _ l0 _ _ y243 t246 _ ?side1 ?side2 ?side3 ?side4 A8.out).mono ?_); (case side1 => repeat (first | exact (Kd.C_below HR0.out HB.out) | with_reducible first | refine Kd.C_alloc ?_ _ | refine Kd.C_drewN ?_ _ | refine Kd.C_drew ?_)); (case side2 => exact HC0.out); (case side3 => repeat (first | exact (Kd.R_reads' HO245.out).2.2 | with_reducible first | refine Kd.C_alloc ?_ _ | refine Kd.C_drewN ?_ _ | refine Kd.C_drew ?_)); (case side4 => exact (Kd.R_reads' HO245.out).2.1); rintro e w43 ⟨v247, rfl, ho0, hb⟩; refine ⟨_, rfl, ?_⟩; have n0_ := Aside0.mk (Kd.R_below (by (with_reducible repeat (first | apply Kd.R_alloc | apply Kd.R_drewN | apply Kd.R_drew)); exact HO241.out) hb); have n1_ := Aside0.mk (Kd.R_below (by (with_reducible repeat (first | apply Kd.R_alloc | apply Kd.R_drewN | apply Kd.R_drew)); exact HO245.out) hb); have n2_ := Aside0.mk (Kd.R_lower ho0 (below_size (by repeat (first | (with_reducible first | exact HB.out | apply below_alloc | apply pw_below_drewN | apply below_drew1) | exact HB.out)))); have n3_ := Aside0.mk (below_step (by repeat (first | (with_reducible first | exact HB.out | apply below_alloc | apply pw_below_drewN | apply below_drew1) | exact HB.out)) hb); clear HO241; clear HO245; clear HB; have HO241 := n0_; have HO245 := n1_; have HO248 := n2_; have HB := n3_; clear n0_ n1_ n2_ n3_; (try clear hb); (try clear hb2); (try clear hk); (try clear hi); (try clear ho0); obtain ⟨Ao44, co44, eo44⟩ := Kd.R_slice HO248.out; subst eo44; have p249 : 0 ≤ (a1 : Int) := of_decide_eq_true (by with_reducible assumption); have q249 : a1 < (t246.length : Int) := of_decide_eq_true (by with_reducible assumption); obtain ⟨ad249, e249, hx249_0⟩ := Kd.at_bool (Kd.R_reads' HO248.out).2.2 a1 p249 q249; (try rw [← Nbq11.out] at hx249_0); cases e249; replace p249 := eq_true p249; replace q249 := eq_true q249))
      go_ret2
      exact ⟨by first | rfl | (simp [errW_none, errW_some] <;> rfl) | (simp [*, errW_none, errW_some] <;> rfl), by repeat (first | (with_reducible first | exact HB.out | apply below_alloc | apply pw_below_drewN | apply below_drew1) | exact HB.out)⟩
    ·rw [if_neg c10] at H; exact absurd H (by simp)
   ·rw [if_neg c9] at H; exact absurd H (by simp)
  ·replace c7 := Bool.eq_false_iff.mpr c7; subst c7; have H1 : (some (false, 6)) = some (r1, r2) := by rw [if_neg (show ¬ (false = true) by decide)] at H; exact H
   clear H; have H := H1; clear H1; simp only [Option.some.injEq, Prod.mk.injEq] at H
   obtain ⟨rfl, rfl⟩ := H; go_enter Try.func32, Try.ntmps32
   go_wp2_with (first | ((with_reducible refine gate_callee (f := 47) rfl ?_); refine goesL_ (some 10) rfl rfl Try.func47 (by kernel_rfl) rfl #[.slice A0 l0.length c0] rfl (by (try simp only [List.map_toArray, List.map_cons, List.map_nil]); first | done | rfl | (simp only [List.length_drop, List.length_take]; rfl)) ?_; (with_reducible refine (graph_valid.calls k _ _ l0 true _ ?side1 ?side2 A4.out).mono ?_); (case side1 => repeat (first | exact HR0.out | with_reducible first | refine Kd.C_alloc ?_ _ | refine Kd.C_drewN ?_ _ | refine Kd.C_drew ?_)); (case side2 => exact HC0.out); rintro e w' ⟨rfl, ⟨nd, rfl⟩⟩; refine ⟨_, rfl, ?_⟩) | ((with_reducible refine gate_dst (N := 15) rfl ?_); refine Kd.R_lit (Kd.int .i64) _ 3 ?hg (N := 15) ?hd (xs := ([a1, a2] : List Int)) (inner := [.int .i64 a1, .int .i64 a2]) (ok := fun _ => True) (okp := fun _ => True) ?hr ?hp (fun _ hk => hk) trivial (Below.refl _ _) (Nat.le_refl _) (by simp) ?_; (case hd => rfl); (case hg => rfl); (case hr => first | (go_simp; done) | (go_simp; rfl)); (case hp => exact (Reps.one (show Kd.M (Kd.int .i64) _ _ _ a1 [.int .i64 a1] from rfl) (Reps.one (show Kd.M (Kd.int .i64) _ _ _ a2 [.int .i64 a2] from rfl) (Reps.none _ _)))); intro v240 w45 ho46 hb hg_ hnew_; clear hg_ hnew_; (first | rw [← Ny239.out] at ho46 | (simp only [Int.reduceToNat] at ho46; rw [← Ny239.out] at ho46)); have n0_ := Aside0.mk (Kd.R_lower ho46 (below_size (by repeat (first | (with_reducible first | exact HB.out | apply below_alloc | apply pw_below_drewN | apply below_drew1) | exact HB.out)))); have n1_ := Aside0.mk (below_step (by repeat (first | (with_reducible first | exact HB.out | apply below_alloc | apply pw_below_drewN | apply below_drew1) | exact HB.out)) hb); clear HB; have HO241 := n0_; have HB := n1_; clear n0_ n1_; clear hb ho46; obtain ⟨Ao47, co47, eo47⟩ := Kd.R_slice HO241.out; subst eo47) | ((with_reducible refine gate_callee (f := 60) rfl ?_); refine goesL_ (some 16) rfl rfl Try.func60 (by kernel_rfl) rfl #[.slice A0 l0.length c0, .slice Ao47 y239.length co47] rfl (by (try simp only [List.map_toArray, List.map_cons, List.map_nil]); first | done | rfl | (simp only [List.length_drop, List.length_take]; rfl)) ?_; (with_reducible refine (graph_within.calls k _ _ l0 _ _ y239 false _ ?side1 ?side2 ?side3 ?side4 A6.out).mono ?_); (case side1 => repeat (first | exact (Kd.C_below HR0.out HB.out) | with_reducible first | refine Kd.C_alloc ?_ _ | refine Kd.C_drewN ?_ _ | refine Kd.C_drew ?_)); (case side2 => exact HC0.out); (case side3 => repeat (first | exact (Kd.R_reads' HO241.out).2.2 | with_reducible first | refine Kd.C_alloc ?_ _ | refine Kd.C_drewN ?_ _ | refine Kd.C_drew ?_)); (case side4 => exact (Kd.R_reads' HO241.out).2.1); rintro e w' ⟨rfl, ⟨nd, rfl⟩⟩; refine ⟨_, rfl, ?_⟩))
   go_ret2
   exact ⟨by first | rfl | (simp [errW_none, errW_some] <;> rfl) | (simp [*, errW_none, errW_some] <;> rfl), by repeat (first | (with_reducible first | exact HB.out | apply below_alloc | apply pw_below_drewN | apply below_drew1) | exact HB.out)⟩
 ·replace c5 := Bool.eq_false_iff.mpr c5; subst c5; have H1 : (some (false, 1)) = some (r1, r2) := by rw [if_neg (show ¬ (false = true) by decide)] at H; exact H
  clear H; have H := H1; clear H1; simp only [Option.some.injEq, Prod.mk.injEq] at H
  obtain ⟨rfl, rfl⟩ := H; go_enter Try.func32, Try.ntmps32
  go_wp2_with (first | ((with_reducible refine gate_callee (f := 47) rfl ?_); refine goesL_ (some 10) rfl rfl Try.func47 (by kernel_rfl) rfl #[.slice A0 l0.length c0] rfl (by (try simp only [List.map_toArray, List.map_cons, List.map_nil]); first | done | rfl | (simp only [List.length_drop, List.length_take]; rfl)) ?_; (with_reducible refine (graph_valid.calls k _ _ l0 false _ ?side1 ?side2 A4.out).mono ?_); (case side1 => repeat (first | exact HR0.out | with_reducible first | refine Kd.C_alloc ?_ _ | refine Kd.C_drewN ?_ _ | refine Kd.C_drew ?_)); (case side2 => exact HC0.out); rintro e w' ⟨rfl, ⟨nd, rfl⟩⟩; refine ⟨_, rfl, ?_⟩))
  go_ret2
  exact ⟨by first | rfl | (simp [errW_none, errW_some] <;> rfl) | (simp [*, errW_none, errW_some] <;> rfl), by repeat (first | (with_reducible first | exact HB.out | apply below_alloc | apply pw_below_drewN | apply below_drew1) | exact HB.out)⟩
-- NOT PRINTED: function 37 (graph_Postdominates)
end Go.Proofs.Ytjjedbcgkljdeaa.B
end
section
namespace Go.Proofs.Ytjjedbcgkljdeaa.B
open Go.RowKit Go.Proofs.YtjjedbcgkljdeaaW.PrintWords Go.Proofs.YtjjedbcgkljdeaaW.PrintLast Go.Proofs.YtjjedbcgkljdeaaW.PrintMore Go.Proofs.Ytjjedbcgkljdeaa.A
set_option linter.unusedVariables false
set_option linter.unusedSimpArgs false
def graph_Ends.f (k : Nat) (l0 : List (List Int)) : Option (List Bool × Int) := (graph_valid.f k l0).bind fun t108 => (if t108 = true then ((graph_turned.f k l0).bind fun t109 => ((graph_exits.f k l0).bind fun t112 => ((graph_fromOpen.f k t109 t112).bind fun t115 => (some (t115, 0))))) else (some (([] : List Bool), 1)))
set_option maxHeartbeats 8000000 in
set_option maxRecDepth 100000 in
theorem graph_Ends.calls (k : Nat) (A0 : Option Addr) (c0 : Nat) (l0 : List (List Int)) (r1 : List Bool) (r2 : Int) (w : World) (hr0 : Kd.C (Kd.slice 3 (Kd.int .i64)) w A0 l0.length l0) (hc0 : l0.length ≤ c0) (h : graph_Ends.f k l0 = some (r1, r2)) :
  Calls Try.prog 39 #[.slice A0 l0.length c0] w fun e w' => ∃ v0_ : Value, e = .returned (.tuple #[v0_, .int .i64 r2]) ∧ Kd.R Kd.bool 4 w' w.heap.size (fun _ => True) v0_ r1 ∧ Below w.heap.size w w' := by
 have HR0 := Aside0.mk hr0; have HC0 := Aside0.mk hc0; clear hr0 hc0; have HB := Aside0.mk (Below.refl w.heap.size w); have H : ((graph_valid.f k l0).bind fun t108 => (if t108 = true then ((graph_turned.f k l0).bind fun t109 => ((graph_exits.f k l0).bind fun t112 => ((graph_fromOpen.f k t109 t112).bind fun t115 => (some (t115, 0))))) else (some (([] : List Bool), 1)))) = some (r1, r2) := h
 clear h; replace H := Option.bind_eq_some_iff.mp H; obtain ⟨t108, A20, H⟩ := H; replace H : (if t108 = true then ((graph_turned.f k l0).bind fun t109 => ((graph_exits.f k l0).bind fun t112 => ((graph_fromOpen.f k t109 t112).bind fun t115 => (some (t115, 0))))) else (some (([] : List Bool), 1))) = some (r1, r2) := H
 have A2 := Aside0.mk A20; clear A20; by_cases c3 : t108 = true
 ·subst c3; have H1 : ((graph_turned.f k l0).bind fun t109 => ((graph_exits.f k l0).bind fun t112 => ((graph_fromOpen.f k t109 t112).bind fun t115 => (some (t115, 0))))) = some (r1, r2) := by rw [if_pos rfl] at H; exact H
  clear H; have H := H1; clear H1; replace H := Option.bind_eq_some_iff.mp H; obtain ⟨t109, A40, H⟩ := H; replace H : ((graph_exits.f k l0).bind fun t112 => ((graph_fromOpen.f k t109 t112).bind fun t115 => (some (t115, 0)))) = some (r1, r2) := H
  have A4 := Aside0.mk A40; clear A40; replace H := Option.bind_eq_some_iff.mp H; obtain ⟨t112, A50, H⟩ := H; replace H : ((graph_fromOpen.f k t109 t112).bind fun t115 => (some (t115, 0))) = some (r1, r2) := H
  have A5 := Aside0.mk A50; clear A50; replace H := Option.bind_eq_some_iff.mp H; obtain ⟨t115, A60, H⟩ := H; replace H : (some (t115, 0)) = some (r1, r2) := H; have A6 := Aside0.mk A60; clear A60; simp only [Option.some.injEq, Prod.mk.injEq] at H
  obtain ⟨rfl, rfl⟩ := H; go_enter Try.func39, Try.ntmps39
  go_wp2_with (first | ((with_reducible refine gate_callee (f := 47) rfl ?_); refine goesL_ (some 5) rfl rfl Try.func47 (by kernel_rfl) rfl #[.slice A0 l0.length c0] rfl (by (try simp only [List.map_toArray, List.map_cons, List.map_nil]); first | done | rfl | (simp only [List.length_drop, List.length_take]; rfl)) ?_; (with_reducible refine (graph_valid.calls k _ _ l0 true _ ?side1 ?side2 A2.out).mono ?_); (case side1 => repeat (first | exact HR0.out | with_reducible first | refine Kd.C_alloc ?_ _ | refine Kd.C_drewN ?_ _ | refine Kd.C_drew ?_)); (case side2 => exact HC0.out); rintro e w' ⟨rfl, ⟨nd, rfl⟩⟩; refine ⟨_, rfl, ?_⟩) | ((with_reducible refine gate_callee (f := 51) rfl ?_); refine goesL_ (some 8) rfl rfl Try.func51 (by kernel_rfl) rfl #[.slice A0 l0.length c0] rfl (by (try simp only [List.map_toArray, List.map_cons, List.map_nil]); first | done | rfl | (simp only [List.length_drop, List.length_take]; rfl)) ?_; (with_reducible refine (graph_turned.calls k _ _ l0 t109 _ ?side1 ?side2 A4.out).mono ?_); (case side1 => repeat (first | exact HR0.out | with_reducible first | refine Kd.C_alloc ?_ _ | refine Kd.C_drewN ?_ _ | refine Kd.C_drew ?_)); (case side2 => exact HC0.out); rintro e w7 ⟨v110, rfl, ho0, hb⟩; refine ⟨_, rfl, ?_⟩; have n0_ := Aside0.mk (Kd.S_lower ho0 (below_size (by repeat (first | (with_reducible first | exact HB.out | apply below_alloc | apply pw_below_drewN | apply below_drew1) | exact HB.out)))); have n1_ := Aside0.mk (below_step (by repeat (first | (with_reducible first | exact HB.out | apply below_alloc | apply pw_below_drewN | apply below_drew1) | exact HB.out)) hb); clear HB; have HO111 := n0_; have HB := n1_; clear n0_ n1_; (try clear hb); (try clear hb2); (try clear hk); (try clear hi); (try clear ho0)) | ((with_reducible refine gate_callee (f := 65) rfl ?_); refine goesL_ (some 10) rfl rfl Try.func65 (by kernel_rfl) rfl #[.slice A0 l0.length c0] rfl (by (try simp only [List.map_toArray, List.map_cons, List.map_nil]); first | done | rfl | (simp only [List.length_drop, List.length_take]; rfl)) ?_; (with_reducible refine (graph_exits.calls k _ _ l0 t112 _ ?side1 ?side2 A5.out).mono ?_); (case side1 => repeat (first | exact (Kd.C_below HR0.out HB.out) | with_reducible first | refine Kd.C_alloc ?_ _ | refine Kd.C_drewN ?_ _ | refine Kd.C_drew ?_)); (case side2 => exact HC0.out); rintro e w8 ⟨v113, rfl, ho0, hb⟩; refine ⟨_, rfl, ?_⟩; have n0_ := Aside0.mk (Kd.S_elder' (by (with_reducible repeat (first | apply Kd.S_alloc | apply Kd.S_drewN | apply Kd.S_drew)); exact HO111.out) (Kd.R_base ho0) hb); have n1_ := Aside0.mk (Kd.R_lower ho0 (below_size (by repeat (first | (with_reducible first | exact HB.out | apply below_alloc | apply pw_below_drewN | apply below_drew1) | exact HB.out)))); have n2_ := Aside0.mk (below_step (by repeat (first | (with_reducible first | exact HB.out | apply below_alloc | apply pw_below_drewN | apply below_drew1) | exact HB.out)) hb); clear HO111; clear HB; have HO111 := n0_; have HO114 := n1_; have HB := n2_; clear n0_ n1_ n2_; (try clear hb); (try clear hb2); (try clear hk); (try clear hi); (try clear ho0); obtain ⟨Ao9, co9, eo9⟩ := Kd.S_slice HO111.out; subst eo9; obtain ⟨Ao10, co10, eo10⟩ := Kd.R_slice HO114.out; subst eo10) | ((with_reducible refine gate_callee (f := 49) rfl ?_); refine goesL_ (some 11) rfl rfl Try.func49 (by kernel_rfl) rfl #[.slice Ao9 t109.length co9, .slice Ao10 t112.length co10, .func (.func 50) #[] #[]] rfl (by (try simp only [List.map_toArray, List.map_cons, List.map_nil]); first | done | rfl | (simp only [List.length_drop, List.length_take]; rfl)) ?_; (with_reducible refine (graph_fromOpen.calls k _ _ t109 _ _ t112 t115 _ ?side1 ?side2 ?side3 ?side4 A6.out).mono ?_); (case side1 => repeat (first | exact (Kd.S_reads' HO111.out).2.2 | with_reducible first | refine Kd.C_alloc ?_ _ | refine Kd.C_drewN ?_ _ | refine Kd.C_drew ?_)); (case side2 => exact (Kd.S_reads' HO111.out).2.1); (case side3 => repeat (first | exact (Kd.R_reads' HO114.out).2.2 | with_reducible first | refine Kd.C_alloc ?_ _ | refine Kd.C_drewN ?_ _ | refine Kd.C_drew ?_)); (case side4 => exact (Kd.R_reads' HO114.out).2.1); rintro e w11 ⟨v116, rfl, ho0, hb⟩; refine ⟨_, rfl, ?_⟩; have n0_ := Aside0.mk (Kd.S_below (by (with_reducible repeat (first | apply Kd.S_alloc | apply Kd.S_drewN | apply Kd.S_drew)); exact HO111.out) hb); have n1_ := Aside0.mk (Kd.R_below (by (with_reducible repeat (first | apply Kd.R_alloc | apply Kd.R_drewN | apply Kd.R_drew)); exact HO114.out) hb); have n2_ := Aside0.mk (Kd.R_lower ho0 (below_size (by repeat (first | (with_reducible first | exact HB.out | apply below_alloc | apply pw_below_drewN | apply below_drew1) | exact HB.out)))); have n3_ := Aside0.mk (below_step (by repeat (first | (with_reducible first | exact HB.out | apply below_alloc | apply pw_below_drewN | apply below_drew1) | exact HB.out)) hb); clear HO111; clear HO114; clear HB; have HO111 := n0_; have HO114 := n1_; have HO117 := n2_; have HB := n3_; clear n0_ n1_ n2_ n3_; (try clear hb); (try clear hb2); (try clear hk); (try clear hi); (try clear ho0)))
  go_ret2
  exact ⟨_, by first | rfl | (simp [errW_none, errW_some] <;> rfl) | (simp [*, errW_none, errW_some] <;> rfl), by (with_reducible repeat (first | apply Kd.R_alloc | apply Kd.R_drewN | apply Kd.R_drew)); exact HO117.out, by repeat (first | (with_reducible first | exact HB.out | apply below_alloc | apply pw_below_drewN | apply below_drew1) | exact HB.out)⟩
 ·replace c3 := Bool.eq_false_iff.mpr c3; subst c3; have H1 : (some (([] : List Bool), 1)) = some (r1, r2) := by rw [if_neg (show ¬ (false = true) by decide)] at H; exact H
  clear H; have H := H1; clear H1; simp only [Option.some.injEq, Prod.mk.injEq] at H
  obtain ⟨rfl, rfl⟩ := H; go_enter Try.func39, Try.ntmps39
  go_wp2_with (first | ((with_reducible refine gate_callee (f := 47) rfl ?_); refine goesL_ (some 5) rfl rfl Try.func47 (by kernel_rfl) rfl #[.slice A0 l0.length c0] rfl (by (try simp only [List.map_toArray, List.map_cons, List.map_nil]); first | done | rfl | (simp only [List.length_drop, List.length_take]; rfl)) ?_; (with_reducible refine (graph_valid.calls k _ _ l0 false _ ?side1 ?side2 A2.out).mono ?_); (case side1 => repeat (first | exact HR0.out | with_reducible first | refine Kd.C_alloc ?_ _ | refine Kd.C_drewN ?_ _ | refine Kd.C_drew ?_)); (case side2 => exact HC0.out); rintro e w' ⟨rfl, ⟨nd, rfl⟩⟩; refine ⟨_, rfl, ?_⟩))
  go_ret2
  exact ⟨_, by first | rfl | (simp [errW_none, errW_some] <;> rfl) | (simp [*, errW_none, errW_some] <;> rfl), by first | exact Kd.R_nil _ _ _ _ _ | exact Kd.N_nil _ _ _ _ _ | exact Kd.V_nil _ _ _ _ _ | exact Kd.Q_nil _ _ _ _ _ | exact Kd.S_nil _ _ _ _ _, by repeat (first | (with_reducible first | exact HB.out | apply below_alloc | apply pw_below_drewN | apply below_drew1) | exact HB.out)⟩
end Go.Proofs.Ytjjedbcgkljdeaa.B
end
section
namespace Go.Proofs.Ytjjedbcgkljdeaa.B
open Go Go.RowKit Go.Shelf Go.Proofs.YtjjedbcgkljdeaaW.PrintWords Go.Proofs.YtjjedbcgkljdeaaW.PrintLast Go.Proofs.YtjjedbcgkljdeaaW.PrintMore Go.Proofs.Ytjjedbcgkljdeaa.A
def graph_treeCut.f (k : Nat) (l0 : List (List Int)) (a1 a2 : Int) : Option (List Int) :=
 (graph_tree.f k l0 a1).bind fun u => if 0 ≤ a2 then if a2 ≤ (u.length : Int) then some (u.take a2.toNat) else none else none
theorem graph_treeCut.mono : ∀ a0 a1 a2 k, LeO (graph_treeCut.f k a0 a1 a2) (graph_treeCut.f (k + 1) a0 a1 a2) := fun a0 a1 a2 k => by
 unfold graph_treeCut.f
 exact LeO.bind (graph_tree.mono a0 a1 k) fun _ => LeO.refl _
theorem own_cut {W : World} {b : Nat} {e : TypeId} {A : Option Addr} {n c : Nat} {xs : List Int} (h : W.ownsRow b e 1 (.slice A n c) n (nums .i64 xs)) (j : Nat) (hj : j ≤ n) : W.ownsRow b e 1 (.slice A j c) j (nums .i64 (xs.take j)) := by
 have hl := h.1; simp only [nums, List.length_map, Nat.mul_one] at hl
 refine ⟨by simp [nums]; omega, ?_⟩
 rcases h.2 with ⟨e1, e2⟩ | ⟨g, cap, cur, e1, e2, e3, e4, e5, e6, e7⟩
 ·injection e1 with f1 f2 f3
  obtain rfl : j = 0 := by omega
  exact .inl ⟨by rw [f1, f3], rfl⟩
 ·injection e1 with f1 f2 f3
  subst f1 f3; refine .inr ⟨g, c, cur, rfl, e2, e3, by omega, e5, e6, ?_⟩
  have := congrArg (List.take j) e7
  rw [List.take_take, Nat.mul_one, Nat.min_eq_left hj] at this; rw [Nat.mul_one, this]; simp [nums, List.map_take]
theorem graph_treeCut.calls (k : Nat) (A0 : Option Addr) (c0 : Nat) (l0 : List (List Int)) (a1 a2 : Int) (r : List Int) (w : World) (hr0 : Kd.C (Kd.slice 3 (Kd.int .i64)) w A0 l0.length l0) (hc0 : l0.length ≤ c0) (h : graph_treeCut.f k l0 a1 a2 = some r) :
  Calls Try.prog 48 #[.slice A0 l0.length c0, .int .i64 a1] w fun e w' => ∃ (At : Option Addr) (mt ct : Nat), e = .returned (.slice At mt ct) ∧ Kd.R (Kd.int .i64) 3 w' w.heap.size (fun _ => True) (.slice At r.length ct) r ∧ Below w.heap.size w w' ∧ a2 = (r.length : Int) ∧ r.length ≤ ct ∧ ct ≤ maxLen := by
 unfold graph_treeCut.f at h
 obtain ⟨u, hu, h⟩ := Option.bind_eq_some_iff.mp h; split at h
 case isFalse => cases h
 next h0 =>
 split at h
 case isFalse => cases h
 next h1 =>
 obtain rfl := Option.some.inj h; refine (graph_tree.calls k A0 c0 l0 a1 u w hr0 hc0 hu).mono ?_
 rintro e w' ⟨v, rfl, hR, hB⟩
 obtain ⟨A, c, rfl⟩ := Kd.R_slice hR; obtain ⟨_, hnc, _⟩ := Kd.R_reads' hR; have ho := Kd.own_of_R hR; have hm : c ≤ maxLen := by
  rcases ho.2 with ⟨e1, _⟩ | ⟨g, cap, cur, e1, _, _, _, e5, _⟩
  ·injection e1 with _ _ f3; rw [f3]; exact Nat.zero_le _
  ·injection e1 with _ _ f3; rw [f3]; exact e5
 have hl : (u.take a2.toNat).length = a2.toNat := by rw [List.length_take]; omega
 refine ⟨A, u.length, c, rfl, ?_, hB, by rw [hl]; omega, by rw [hl]; omega, hm⟩
 have h2 := own_cut ho a2.toNat (by omega)
 refine Kd.R_of_own ?_ (fun _ _ => trivial)
 rw [hl]; exact h2
end Go.Proofs.Ytjjedbcgkljdeaa.B
end
section
namespace Go.Proofs.Ytjjedbcgkljdeaa.C
open Go.RowKit Go.Proofs.YtjjedbcgkljdeaaW.PrintWords Go.Proofs.YtjjedbcgkljdeaaW.PrintLast Go.Proofs.YtjjedbcgkljdeaaW.PrintMore Go.Proofs.Ytjjedbcgkljdeaa.A Go.Proofs.Ytjjedbcgkljdeaa.B
set_option linter.unusedVariables false
set_option linter.unusedSimpArgs false
theorem info33 : (Try.prog.info? 33).map (fun i => (i.zero, i.size, i.bytes)) = some (some (.slice none 0 0), 1, 24) := by kernel_rfl
-- the values' own types
end Go.Proofs.Ytjjedbcgkljdeaa.C
end
section
namespace Go.Proofs.Ytjjedbcgkljdeaa.C
open Go.RowKit Go.Proofs.YtjjedbcgkljdeaaW.PrintWords Go.Proofs.YtjjedbcgkljdeaaW.PrintLast Go.Proofs.YtjjedbcgkljdeaaW.PrintMore Go.Proofs.Ytjjedbcgkljdeaa.A Go.Proofs.Ytjjedbcgkljdeaa.B
set_option linter.unusedVariables false
set_option linter.unusedSimpArgs false
def graph_posts.l0 : Nat → List (List Int) → List Int → Int → Int → Option (List Int)
 | 0, _, _, _, _ => none
 | k + 1, x0, x4, x21, x22 => if x22 < x21 then (if 0 ≤ x22 then (if x22 < (x4.length : Int) then (if (rd x4 x22) = (x0.length : Int) then (graph_posts.l0 k x0 (x4.set (x22 : Int).toNat (-1)) x21 (wrap64 (x22 + 1))) else (graph_posts.l0 k x0 x4 x21 (wrap64 (x22 + 1)))) else (none)) else (none)) else (some x4)
def graph_posts.f (k : Nat) (l0 : List (List Int)) : Option (List Int) := (graph_turned.f k l0).bind fun t101 => ((graph_exits.f k l0).bind fun t104 => (if t101.length < 5864062014805 then ((graph_treeCut.f k (t101 ++ [t104]) (l0.length : Int) (l0.length : Int)).bind fun t110 => (graph_posts.l0 k l0 t110 (t110.length : Int) 0)) else (none)))
theorem graph_posts.mono_l : ∀ k, (∀ y0 y1 y2 y3, LeO (graph_posts.l0 k y0 y1 y2 y3) (graph_posts.l0 (k + 1) y0 y1 y2 y3))
 | 0 => fun _ _ _ _ r h => by simp [graph_posts.l0] at h
 | k + 1 => by
  have ih0 := graph_posts.mono_l k
  ·intro y0 y1 y2 y3
   unfold graph_posts.l0
   repeat' first
   | (with_reducible exact ih0 _ _ _ _)
   | (with_reducible exact graph_exits.mono _ _)
   | (with_reducible exact graph_treeCut.mono _ _ _ _)
   | (with_reducible exact graph_turned.mono _ _)
   | (with_reducible exact LeO.refl _)
   | (with_reducible exact LeO.none _)
   | (with_reducible refine LeO.ite ?_ ?_)
   | (with_reducible refine LeO.bind ?_ (fun _ => ?_))
theorem graph_posts.mono : ∀ a0 k, LeO (graph_posts.f k a0) (graph_posts.f (k + 1) a0) := by
 intro a0 k
 have ih0 := graph_posts.mono_l k; unfold graph_posts.f
 repeat' first
   | (with_reducible exact ih0 _ _ _ _)
   | (with_reducible exact graph_exits.mono _ _)
   | (with_reducible exact graph_treeCut.mono _ _ _ _)
   | (with_reducible exact graph_turned.mono _ _)
   | (with_reducible exact LeO.refl _)
   | (with_reducible exact LeO.none _)
   | (with_reducible refine LeO.ite ?_ ?_)
   | (with_reducible refine LeO.bind ?_ (fun _ => ?_))
set_option maxHeartbeats 8000000 in
set_option maxRecDepth 100000 in
theorem graph_posts.calls (k : Nat) (A0 : Option Addr) (c0 : Nat) (l0 : List (List Int)) (r : List Int) (w : World) (hr0 : Kd.C (Kd.slice 3 (Kd.int .i64)) w A0 l0.length l0) (hc0 : l0.length ≤ c0) (h : graph_posts.f k l0 = some r) :
  Calls Try.prog 61 #[.slice A0 l0.length c0] w fun e w' => ∃ v0_ : Value, e = .returned (v0_) ∧ Kd.R (Kd.int .i64) 3 w' w.heap.size (fun _ => True) v0_ r ∧ Below w.heap.size w w' := by
 have HR0 := Aside0.mk hr0; have HC0 := Aside0.mk hc0; clear hr0 hc0; have HB := Aside0.mk (Below.refl w.heap.size w); have H : ((graph_turned.f k l0).bind fun t101 => ((graph_exits.f k l0).bind fun t104 => (if t101.length < 5864062014805 then ((graph_treeCut.f k (t101 ++ [t104]) (l0.length : Int) (l0.length : Int)).bind fun t110 => (graph_posts.l0 k l0 t110 (t110.length : Int) 0)) else (none)))) = some r := h
 clear h; replace H := Option.bind_eq_some_iff.mp H; obtain ⟨t101, A20, H⟩ := H; replace H : ((graph_exits.f k l0).bind fun t104 => (if t101.length < 5864062014805 then ((graph_treeCut.f k (t101 ++ [t104]) (l0.length : Int) (l0.length : Int)).bind fun t110 => (graph_posts.l0 k l0 t110 (t110.length : Int) 0)) else (none))) = some r := H
 have A2 := Aside0.mk A20; clear A20; replace H := Option.bind_eq_some_iff.mp H; obtain ⟨t104, A30, H⟩ := H; replace H : (if t101.length < 5864062014805 then ((graph_treeCut.f k (t101 ++ [t104]) (l0.length : Int) (l0.length : Int)).bind fun t110 => (graph_posts.l0 k l0 t110 (t110.length : Int) 0)) else (none)) = some r := H
 have A3 := Aside0.mk A30; clear A30; by_cases c4 : t101.length < 5864062014805
 ·rw [if_pos c4] at H; have LMc4 := Aside0.mk c4; clear c4; obtain ⟨y107, hy107⟩ : ∃ y_ : List (List Int), y_ = (t101 ++ [t104]) := ⟨_, rfl⟩; replace H : ((graph_treeCut.f k y107 (l0.length : Int) (l0.length : Int)).bind fun t110 => (graph_posts.l0 k l0 t110 (t110.length : Int) 0)) = some r := by first | (with_reducible first | (rw [hy107]; exact H) | exact H) | (have H2_ := (Option.bind_some _ _).symm.trans H; first | with_reducible exact H2_ | (rw [hy107]; exact H2_)) | (rw [hy107]; exact H) | exact H
  have Ny107 := Aside0.mk hy107; clear hy107; replace H := Option.bind_eq_some_iff.mp H; obtain ⟨t110, A50, H⟩ := H; replace H : (graph_posts.l0 k l0 t110 (t110.length : Int) 0) = some r := H; have A5 := Aside0.mk A50; clear A50; have H' := Aside0.mk H
  clear H; go_enter Try.func61, Try.ntmps61
  go_wp2_with (first | ((with_reducible refine gate_callee (f := 51) rfl ?_); refine goesL_ (some 8) rfl rfl Try.func51 (by kernel_rfl) rfl #[.slice A0 l0.length c0] rfl (by (try simp only [List.map_toArray, List.map_cons, List.map_nil]); first | done | rfl | (simp only [List.length_drop, List.length_take]; rfl)) ?_; (with_reducible refine (graph_turned.calls k _ _ l0 t101 _ ?side1 ?side2 A2.out).mono ?_); (case side1 => repeat (first | exact HR0.out | with_reducible first | refine Kd.C_alloc ?_ _ | refine Kd.C_drewN ?_ _ | refine Kd.C_drew ?_)); (case side2 => exact HC0.out); rintro e w6 ⟨v102, rfl, ho0, hb⟩; refine ⟨_, rfl, ?_⟩; have n0_ := Aside0.mk (Kd.S_lower ho0 (below_size (by repeat (first | (with_reducible first | exact HB.out | apply below_alloc | apply pw_below_drewN | apply below_drew1) | exact HB.out)))); have n1_ := Aside0.mk (below_step (by repeat (first | (with_reducible first | exact HB.out | apply below_alloc | apply pw_below_drewN | apply below_drew1) | exact HB.out)) hb); clear HB; have HO103 := n0_; have HB := n1_; clear n0_ n1_; (try clear hb); (try clear hb2); (try clear hk); (try clear hi); (try clear ho0)) | ((with_reducible refine gate_callee (f := 65) rfl ?_); refine goesL_ (some 10) rfl rfl Try.func65 (by kernel_rfl) rfl #[.slice A0 l0.length c0] rfl (by (try simp only [List.map_toArray, List.map_cons, List.map_nil]); first | done | rfl | (simp only [List.length_drop, List.length_take]; rfl)) ?_; (with_reducible refine (graph_exits.calls k _ _ l0 t104 _ ?side1 ?side2 A3.out).mono ?_); (case side1 => repeat (first | exact (Kd.C_below HR0.out HB.out) | with_reducible first | refine Kd.C_alloc ?_ _ | refine Kd.C_drewN ?_ _ | refine Kd.C_drew ?_)); (case side2 => exact HC0.out); rintro e w7 ⟨v105, rfl, ho0, hb⟩; refine ⟨_, rfl, ?_⟩; have n0_ := Aside0.mk (Kd.S_elder' (by (with_reducible repeat (first | apply Kd.S_alloc | apply Kd.S_drewN | apply Kd.S_drew)); exact HO103.out) (Kd.R_base ho0) hb); have n1_ := Aside0.mk (Kd.R_lower ho0 (below_size (by repeat (first | (with_reducible first | exact HB.out | apply below_alloc | apply pw_below_drewN | apply below_drew1) | exact HB.out)))); have n2_ := Aside0.mk (below_step (by repeat (first | (with_reducible first | exact HB.out | apply below_alloc | apply pw_below_drewN | apply below_drew1) | exact HB.out)) hb); clear HO103; clear HB; have HO103 := n0_; have HO106 := n1_; have HB := n2_; clear n0_ n1_ n2_; (try clear hb); (try clear hb2); (try clear hk); (try clear hi); (try clear ho0); obtain ⟨Ao9, co9, eo9⟩ := Kd.R_slice HO106.out; subst eo9) | ((with_reducible refine gate_builtin (b := .append) (xs := #[.tmp 8, .tmp 11]) rfl ?_); at_builtin; refine Kd.S_append (Kd.slice 3 (Kd.int .i64)) (w0 := w) w.heap.size rfl (.tmp 8) (.tmp 11) 22 33 (.slice none 0 0) 24 rfl Try.underlying22 info33 rfl (by decide) (by omega) v102 t101 t104 [.slice Ao9 t104.length co9] (fun _ => True) (fun k_ => some k_ = (.slice Ao9 t104.length co9 : Value).ownBlock) rfl rfl ?aP (fun k_ hk_ => ((Kd.R_mono (ok' := fun k_ => ((fun _ => True)) k_ ∧ some k_ ≠ (v102 : Value).ownBlock) (Kd.R_apart' (HO106.out) (Kd.S_typed HO103.out) (by decide)) (fun k_ hk => ⟨trivial, hk.2⟩))).1 k_ hk_.symm) ?aF ?aO ?aB ?aS ?aL ?_; (case aP => exact Kd.M_row (Kd.R_mono (Kd.R_tight rfl (Kd.R_mono (ok' := fun k_ => ((fun _ => True)) k_ ∧ some k_ ≠ (v102 : Value).ownBlock) (Kd.R_apart' (HO106.out) (Kd.S_typed HO103.out) (by decide)) (fun k_ hk => ⟨trivial, hk.2⟩))) (fun _ h_ => h_))); (case aB => exact (by repeat (first | (with_reducible first | exact HB.out | apply below_alloc | apply pw_below_drewN | apply below_drew1) | exact HB.out))); (case aF => exact (fun _ _ => trivial)); (case aO => exact (by (with_reducible repeat (first | apply Kd.S_alloc | apply Kd.S_drewN | apply Kd.S_drew)); exact Kd.S_mono HO103.out (fun k_ hk => ⟨trivial, fun e_ => hk.2 e_⟩))); (case aS => exact (below_size (by repeat (first | (with_reducible first | exact HB.out | apply below_alloc | apply pw_below_drewN | apply below_drew1) | exact HB.out)))); (case aL => have := LMc4.out; omega); intro v108 w8 ho hb hg hat; rw [← Ny107.out] at ho; have n0_ := Aside0.mk (hb); have n1_ := Aside0.mk (ho); clear HB; clear HO103; clear HO106; have HB := n0_; have HO109 := n1_; clear n0_ n1_; clear ho hb hg hat; obtain ⟨Ao10, co10, eo10⟩ := Kd.S_slice HO109.out; subst eo10) | ((with_reducible refine gate_callee (f := 48) rfl ?_); refine goesL_ _ rfl rfl Try.func48 (by kernel_rfl) rfl #[.slice Ao10 y107.length co10, .int .i64 (l0.length : Int)] rfl (by (try simp only [List.map_toArray, List.map_cons, List.map_nil]); first | done | rfl | (simp only [List.length_drop, List.length_take]; rfl)) ?_; (with_reducible refine (graph_treeCut.calls k _ _ y107 (l0.length : Int) (l0.length : Int) t110 _ ?side1 ?side2 A5.out).mono ?_); (case side1 => repeat (first | exact (Kd.S_reads' HO109.out).2.2 | with_reducible first | refine Kd.C_alloc ?_ _ | refine Kd.C_drewN ?_ _ | refine Kd.C_drew ?_)); (case side2 => exact (Kd.S_reads' HO109.out).2.1); rintro e w11 ⟨Ao12, mt_, co12, rfl, ho0, hb, hcut1_, hcut2_, hcut3_⟩; refine ⟨_, rfl, ?_⟩; have n0_ := Aside0.mk (Kd.S_elder' (by (with_reducible repeat (first | apply Kd.S_alloc | apply Kd.S_drewN | apply Kd.S_drew)); exact HO109.out) (Kd.R_base ho0) hb); have n1_ := Aside0.mk (Kd.R_lower ho0 (below_size (by repeat (first | (with_reducible first | exact HB.out | apply below_alloc | apply pw_below_drewN | apply below_drew1) | exact HB.out)))); have n2_ := Aside0.mk (below_step (by repeat (first | (with_reducible first | exact HB.out | apply below_alloc | apply pw_below_drewN | apply below_drew1) | exact HB.out)) hb); clear HO109; clear HB; have HO109 := n0_; have HO112 := n1_; have HB := n2_; clear n0_ n1_ n2_; (try clear hb); (try clear hb2); (try clear hk); (try clear hi); (try clear ho0)) | ((with_reducible refine gate_dst (N := 19) rfl ?_); refine cut_op (j := t110.length) rfl rfl rfl rfl hcut1_ hcut2_ hcut3_ ?_))
  go_loopg [22] k (fun kq v22 w' => ∃ (x4_1 : List Int) (x22_1 : Int), v22 = .int .i64 x22_1 ∧ Aside0 (graph_posts.l0 kq l0 x4_1 (t110.length : Int) x22_1 = some r) ∧ Aside0 (kq ≤ k) ∧ Aside0 (Kd.R (Kd.int .i64) 3 w' w.heap.size (fun _ => True) (.slice Ao12 t110.length co12) x4_1) ∧ Aside0 (Below w.heap.size w w'))
  case atStart => exact ⟨(t110), (0), (by first | rfl | (simp; done) | (simp [*]; done)), H', ⟨Nat.le_refl _⟩, ⟨by (with_reducible repeat (first | apply Kd.R_alloc | apply Kd.R_drewN | apply Kd.R_drew)); exact HO112.out⟩, ⟨by repeat (first | (with_reducible first | exact HB.out | apply below_alloc | apply pw_below_drewN | apply below_drew1) | exact HB.out)⟩⟩
  case round =>
   clear H'; try clear p2
   try clear c4
   try clear c5
   try clear c6
   try clear c8
   obtain ⟨x4_1, x22_1, rfl, HA, HK1, HO_4, HB⟩ := hrel; have hl4_1 := (Kd.R_reads' HO_4.out).1; rw [hl4_1] at HO_4; (try simp only [hl4_1])
   cases gk with
   | zero => exact absurd HA.out (by simp [graph_posts.l0])
   | succ k1 =>
    have H := HA.out; clear HA; simp only [graph_posts.l0] at H
    by_cases c13 : x22_1 < (t110.length : Int)
    ·rw [if_pos c13] at H; have c13b0 : decide (x22_1 < (t110.length : Int)) = true := decide_eq_true c13
     have c13b7 := c13b0; (try simp only [hl4_1] at c13b7)
     clear c13; by_cases c14 : 0 ≤ x22_1
     ·rw [if_pos c14] at H; have c14b0 : decide (0 ≤ x22_1) = true := decide_eq_true c14
      clear c14; by_cases c15 : x22_1 < (x4_1.length : Int)
      ·rw [if_pos c15] at H; have c15b0 : decide (x22_1 < (x4_1.length : Int)) = true := decide_eq_true c15
       have c15b7 := c15b0; (try simp only [hl4_1] at c15b7)
       clear c15; by_cases c16 : (rd x4_1 x22_1) = (l0.length : Int)
       ·rw [if_pos c16] at H; have c16b0 : ((rd x4_1 x22_1) == (l0.length : Int)) = true := beq_iff_eq.mpr c16
        have c16b1 : ((rd x4_1 x22_1) != (l0.length : Int)) = false := bne_eq_false_iff_eq.mpr c16
        clear c16; obtain ⟨y114, hy114⟩ : ∃ y_ : List Int, y_ = (x4_1.set (x22_1 : Int).toNat (-1)) := ⟨_, rfl⟩; replace H : (graph_posts.l0 k1 l0 y114 (t110.length : Int) (wrap64 (x22_1 + 1))) = some r := by first | (with_reducible first | (rw [hy114]; exact H) | exact H) | (have H2_ := (Option.bind_some _ _).symm.trans H; first | with_reducible exact H2_ | (rw [hy114]; exact H2_)) | (rw [hy114]; exact H) | exact H
        have Ny114 := Aside0.mk hy114; clear hy114; have H' := Aside0.mk H
        clear H; have p113 : 0 ≤ (x22_1 : Int) := of_decide_eq_true (by with_reducible assumption)
        have q113 : x22_1 < (x4_1.length : Int) := of_decide_eq_true (by with_reducible assumption)
        obtain ⟨ad113, e113, hx113_0⟩ := Kd.at_int (Kd.R_reads' HO_4.out).2.2 x22_1 p113 q113; cases e113; replace p113 := eq_true p113; replace q113 := eq_true q113; have p17 : 0 ≤ (x22_1 : Int) := of_decide_eq_true (by with_reducible assumption)
        have q17 : (x22_1 : Int) < ((x4_1.length : Int) : Int) := of_decide_eq_true (by with_reducible assumption)
        obtain ⟨go17, co17, eo17, gb17, gl17, cl17, HG17⟩ := Kd.R_form HO_4.out (by omega)
        (first | cases eo17 | (injection eo17 with ea_ en_ ec_; (first | subst ea_ | (injection ea_ with ea_; subst ea_)); subst ec_; clear en_))
        have GB17 := Aside0.mk gb17; have GG17 := Aside0.mk HG17; clear gb17 gl17 HG17; (first | simp only [add_plain] at hx113_0 | skip)
        obtain ⟨hx17_0, hf17_0⟩ := Kd.R_celln 0 HO_4.out (x22_1 : Int) p17 q17; replace p17 := eq_true p17; replace q17 := eq_true q17; have HP18 := Kd.R_putg HO_4.out (x22_1 : Int) (-1); go_wp2_with (first | ((with_reducible refine gate_store (t := 3) (p := 33) rfl ?_); refine store_event (t := 3) (p := 33) (v := ?vo_w19) (w1 := (wr.setCell ⟨go17, (x22_1 : Int).toNat, none⟩ (.int .i64 (-1)))) ?hg ?ho ?hn ?hr ?_; (case ho => rfl); (case hg => rfl); (case hn => rfl); (case hr => first | (go_simp; done) | (go_simp; rfl)); intro w19 hw; have hg : wr.grownBy w19 (some go17) := (by rw [hw]; exact HP18.2); have hp_ : Kd.R (Kd.int .i64) 3 w19 w.heap.size (fun _ => True) (.slice (some ⟨go17, 0, none⟩) x4_1.length co12) y114 := (by rw [hw, Ny114.out]; exact HP18.1); clear HP18; have n0_ := Aside0.mk (hp_); have n1_ := Aside0.mk ((by rw [hw]; exact below_set (HB.out) GB17.out : Below w.heap.size w w19)); clear HO_4; clear HB; have HO_4 := n0_; have HB := n1_; clear n0_ n1_; clear hg hw hp_))
        (try simp only [← hl4_1])
        go_roundg k1
        case measure => have := HK1.out; omega
        case rel => exact ⟨(y114), (wrap64 (x22_1 + 1)), (by first | rfl | (simp; done) | (simp [*]; done)), H', ⟨by have := HK1.out; omega⟩, ⟨by (try simp only [hl4_1]); (with_reducible repeat (first | apply Kd.R_alloc | apply Kd.R_drewN | apply Kd.R_drew)); exact HO_4.out⟩, ⟨by repeat (first | (with_reducible first | exact HB.out | apply below_alloc | apply pw_below_drewN | apply below_drew1) | exact HB.out)⟩⟩
       ·rw [if_neg c16] at H; have c16b0 : ((rd x4_1 x22_1) == (l0.length : Int)) = false := beq_eq_false_iff_ne.mpr c16
        have c16b1 : ((rd x4_1 x22_1) != (l0.length : Int)) = true := bne_iff_ne.mpr c16
        have H' := Aside0.mk H
        clear H; have p113 : 0 ≤ (x22_1 : Int) := of_decide_eq_true (by with_reducible assumption)
        have q113 : x22_1 < (x4_1.length : Int) := of_decide_eq_true (by with_reducible assumption)
        obtain ⟨ad113, e113, hx113_0⟩ := Kd.at_int (Kd.R_reads' HO_4.out).2.2 x22_1 p113 q113; cases e113; replace p113 := eq_true p113; replace q113 := eq_true q113; go_wp2
        (try simp only [← hl4_1])
        go_roundg k1
        case measure => have := HK1.out; omega
        case rel => exact ⟨(x4_1), (wrap64 (x22_1 + 1)), (by first | rfl | (simp; done) | (simp [*]; done)), H', ⟨by have := HK1.out; omega⟩, ⟨by (try simp only [hl4_1]); (with_reducible repeat (first | apply Kd.R_alloc | apply Kd.R_drewN | apply Kd.R_drew)); exact HO_4.out⟩, ⟨by repeat (first | (with_reducible first | exact HB.out | apply below_alloc | apply pw_below_drewN | apply below_drew1) | exact HB.out)⟩⟩
      ·rw [if_neg c15] at H; exact absurd H (by simp)
     ·rw [if_neg c14] at H; exact absurd H (by simp)
    ·rw [if_neg c13] at H; have c13b0 : decide (x22_1 < (t110.length : Int)) = false := decide_eq_false c13
     have c13b7 := c13b0; (try simp only [hl4_1] at c13b7)
     clear c13; obtain rfl := Option.some.inj H; go_wp2
     go_ret
     exact ⟨_, by first | rfl | (simp [errW_none, errW_some] <;> rfl) | (simp [*, errW_none, errW_some] <;> rfl), by (with_reducible repeat (first | apply Kd.R_alloc | apply Kd.R_drewN | apply Kd.R_drew)); exact HO_4.out, by repeat (first | (with_reducible first | exact HB.out | apply below_alloc | apply pw_below_drewN | apply below_drew1) | exact HB.out)⟩
 ·rw [if_neg c4] at H; exact absurd H (by simp)
def graph_Postdominators.f (k : Nat) (l0 : List (List Int)) : Option (List Int × Int) := (graph_valid.f k l0).bind fun t115 => (if t115 = true then ((graph_posts.f k l0).bind fun t116 => (some (t116, 0))) else (some (([] : List Int), 1)))
theorem graph_Postdominators.mono : ∀ a0 k, LeO (graph_Postdominators.f k a0) (graph_Postdominators.f (k + 1) a0) := by
 intro a0 k
 unfold graph_Postdominators.f
 repeat' first
   | (with_reducible exact graph_posts.mono _ _)
   | (with_reducible exact graph_valid.mono _ _)
   | (with_reducible exact LeO.refl _)
   | (with_reducible exact LeO.none _)
   | (with_reducible refine LeO.ite ?_ ?_)
   | (with_reducible refine LeO.bind ?_ (fun _ => ?_))
set_option maxHeartbeats 8000000 in
set_option maxRecDepth 100000 in
theorem graph_Postdominators.calls (k : Nat) (A0 : Option Addr) (c0 : Nat) (l0 : List (List Int)) (r1 : List Int) (r2 : Int) (w : World) (hr0 : Kd.C (Kd.slice 3 (Kd.int .i64)) w A0 l0.length l0) (hc0 : l0.length ≤ c0) (h : graph_Postdominators.f k l0 = some (r1, r2)) :
  Calls Try.prog 27 #[.slice A0 l0.length c0] w fun e w' => ∃ v0_ : Value, e = .returned (.tuple #[v0_, .int .i64 r2]) ∧ Kd.R (Kd.int .i64) 3 w' w.heap.size (fun _ => True) v0_ r1 ∧ Below w.heap.size w w' := by
 have HR0 := Aside0.mk hr0; have HC0 := Aside0.mk hc0; clear hr0 hc0; have HB := Aside0.mk (Below.refl w.heap.size w); have H : ((graph_valid.f k l0).bind fun t115 => (if t115 = true then ((graph_posts.f k l0).bind fun t116 => (some (t116, 0))) else (some (([] : List Int), 1)))) = some (r1, r2) := h
 clear h; replace H := Option.bind_eq_some_iff.mp H; obtain ⟨t115, A20, H⟩ := H; replace H : (if t115 = true then ((graph_posts.f k l0).bind fun t116 => (some (t116, 0))) else (some (([] : List Int), 1))) = some (r1, r2) := H
 have A2 := Aside0.mk A20; clear A20; by_cases c3 : t115 = true
 ·subst c3; have H1 : ((graph_posts.f k l0).bind fun t116 => (some (t116, 0))) = some (r1, r2) := by rw [if_pos rfl] at H; exact H
  clear H; have H := H1; clear H1; replace H := Option.bind_eq_some_iff.mp H; obtain ⟨t116, A40, H⟩ := H; replace H : (some (t116, 0)) = some (r1, r2) := H; have A4 := Aside0.mk A40; clear A40; simp only [Option.some.injEq, Prod.mk.injEq] at H
  obtain ⟨rfl, rfl⟩ := H; go_enter Try.func27, Try.ntmps27
  go_wp2_with (first | ((with_reducible refine gate_callee (f := 47) rfl ?_); refine goesL_ (some 5) rfl rfl Try.func47 (by kernel_rfl) rfl #[.slice A0 l0.length c0] rfl (by (try simp only [List.map_toArray, List.map_cons, List.map_nil]); first | done | rfl | (simp only [List.length_drop, List.length_take]; rfl)) ?_; (with_reducible refine (graph_valid.calls k _ _ l0 true _ ?side1 ?side2 A2.out).mono ?_); (case side1 => repeat (first | exact HR0.out | with_reducible first | refine Kd.C_alloc ?_ _ | refine Kd.C_drewN ?_ _ | refine Kd.C_drew ?_)); (case side2 => exact HC0.out); rintro e w' ⟨rfl, ⟨nd, rfl⟩⟩; refine ⟨_, rfl, ?_⟩) | ((with_reducible refine gate_callee (f := 61) rfl ?_); refine goesL_ (some 8) rfl rfl Try.func61 (by kernel_rfl) rfl #[.slice A0 l0.length c0] rfl (by (try simp only [List.map_toArray, List.map_cons, List.map_nil]); first | done | rfl | (simp only [List.length_drop, List.length_take]; rfl)) ?_; (with_reducible refine (graph_posts.calls k _ _ l0 t116 _ ?side1 ?side2 A4.out).mono ?_); (case side1 => repeat (first | exact HR0.out | with_reducible first | refine Kd.C_alloc ?_ _ | refine Kd.C_drewN ?_ _ | refine Kd.C_drew ?_)); (case side2 => exact HC0.out); rintro e w5 ⟨v117, rfl, ho0, hb⟩; refine ⟨_, rfl, ?_⟩; have n0_ := Aside0.mk (Kd.R_lower ho0 (below_size (by repeat (first | (with_reducible first | exact HB.out | apply below_alloc | apply pw_below_drewN | apply below_drew1) | exact HB.out)))); have n1_ := Aside0.mk (below_step (by repeat (first | (with_reducible first | exact HB.out | apply below_alloc | apply pw_below_drewN | apply below_drew1) | exact HB.out)) hb); clear HB; have HO118 := n0_; have HB := n1_; clear n0_ n1_; (try clear hb); (try clear hb2); (try clear hk); (try clear hi); (try clear ho0)))
  go_ret2
  exact ⟨_, by first | rfl | (simp [errW_none, errW_some] <;> rfl) | (simp [*, errW_none, errW_some] <;> rfl), by (with_reducible repeat (first | apply Kd.R_alloc | apply Kd.R_drewN | apply Kd.R_drew)); exact HO118.out, by repeat (first | (with_reducible first | exact HB.out | apply below_alloc | apply pw_below_drewN | apply below_drew1) | exact HB.out)⟩
 ·replace c3 := Bool.eq_false_iff.mpr c3; subst c3; have H1 : (some (([] : List Int), 1)) = some (r1, r2) := by rw [if_neg (show ¬ (false = true) by decide)] at H; exact H
  clear H; have H := H1; clear H1; simp only [Option.some.injEq, Prod.mk.injEq] at H
  obtain ⟨rfl, rfl⟩ := H; go_enter Try.func27, Try.ntmps27
  go_wp2_with (first | ((with_reducible refine gate_callee (f := 47) rfl ?_); refine goesL_ (some 5) rfl rfl Try.func47 (by kernel_rfl) rfl #[.slice A0 l0.length c0] rfl (by (try simp only [List.map_toArray, List.map_cons, List.map_nil]); first | done | rfl | (simp only [List.length_drop, List.length_take]; rfl)) ?_; (with_reducible refine (graph_valid.calls k _ _ l0 false _ ?side1 ?side2 A2.out).mono ?_); (case side1 => repeat (first | exact HR0.out | with_reducible first | refine Kd.C_alloc ?_ _ | refine Kd.C_drewN ?_ _ | refine Kd.C_drew ?_)); (case side2 => exact HC0.out); rintro e w' ⟨rfl, ⟨nd, rfl⟩⟩; refine ⟨_, rfl, ?_⟩))
  go_ret2
  exact ⟨_, by first | rfl | (simp [errW_none, errW_some] <;> rfl) | (simp [*, errW_none, errW_some] <;> rfl), by first | exact Kd.R_nil _ _ _ _ _ | exact Kd.N_nil _ _ _ _ _ | exact Kd.V_nil _ _ _ _ _ | exact Kd.Q_nil _ _ _ _ _ | exact Kd.S_nil _ _ _ _ _, by repeat (first | (with_reducible first | exact HB.out | apply below_alloc | apply pw_below_drewN | apply below_drew1) | exact HB.out)⟩
def graph_Postdominates.f (k : Nat) (l0 : List (List Int)) (a1 : Int) (a2 : Int) : Option (Bool × Int) := (graph_valid.f k l0).bind fun t119 => (if t119 = true then ((graph_within.f k l0 (([a1, a2] : List Int))).bind fun t123 => (if t123 = true then ((graph_Ends.f k l0).bind fun bt124 => (if 0 ≤ a1 then (if a1 < (bt124.1.length : Int) then (if rdOf false bt124.1 a1 = true then (if 0 ≤ a2 then (if a2 < (bt124.1.length : Int) then (if rdOf false bt124.1 a2 = true then ((graph_posts.f k l0).bind fun t130 => ((graph_above.f k t130 a1 a2).bind fun t133 => (some (t133, 0)))) else (some (false, 0))) else (none)) else (none)) else (some (false, 0))) else (none)) else (none))) else (some (false, 6)))) else (some (false, 1)))
set_option maxHeartbeats 8000000 in
set_option maxRecDepth 100000 in
theorem graph_Postdominates.calls (k : Nat) (A0 : Option Addr) (c0 : Nat) (l0 : List (List Int)) (a1 : Int) (a2 : Int) (r1 : Bool) (r2 : Int) (w : World) (hr0 : Kd.C (Kd.slice 3 (Kd.int .i64)) w A0 l0.length l0) (hc0 : l0.length ≤ c0) (h : graph_Postdominates.f k l0 a1 a2 = some (r1, r2)) :
  Calls Try.prog 37 #[.slice A0 l0.length c0, .int .i64 a1, .int .i64 a2] w fun e w' => e = .returned (.tuple #[.bool r1, .int .i64 r2]) ∧ Below w.heap.size w w' := by
 have HR0 := Aside0.mk hr0; have HC0 := Aside0.mk hc0; clear hr0 hc0; have HB := Aside0.mk (Below.refl w.heap.size w); have H : ((graph_valid.f k l0).bind fun t119 => (if t119 = true then ((graph_within.f k l0 (([a1, a2] : List Int))).bind fun t123 => (if t123 = true then ((graph_Ends.f k l0).bind fun bt124 => (if 0 ≤ a1 then (if a1 < (bt124.1.length : Int) then (if rdOf false bt124.1 a1 = true then (if 0 ≤ a2 then (if a2 < (bt124.1.length : Int) then (if rdOf false bt124.1 a2 = true then ((graph_posts.f k l0).bind fun t130 => ((graph_above.f k t130 a1 a2).bind fun t133 => (some (t133, 0)))) else (some (false, 0))) else (none)) else (none)) else (some (false, 0))) else (none)) else (none))) else (some (false, 6)))) else (some (false, 1)))) = some (r1, r2) := h
 clear h; replace H := Option.bind_eq_some_iff.mp H; obtain ⟨t119, A40, H⟩ := H; replace H : (if t119 = true then ((graph_within.f k l0 (([a1, a2] : List Int))).bind fun t123 => (if t123 = true then ((graph_Ends.f k l0).bind fun bt124 => (if 0 ≤ a1 then (if a1 < (bt124.1.length : Int) then (if rdOf false bt124.1 a1 = true then (if 0 ≤ a2 then (if a2 < (bt124.1.length : Int) then (if rdOf false bt124.1 a2 = true then ((graph_posts.f k l0).bind fun t130 => ((graph_above.f k t130 a1 a2).bind fun t133 => (some (t133, 0)))) else (some (false, 0))) else (none)) else (none)) else (some (false, 0))) else (none)) else (none))) else (some (false, 6)))) else (some (false, 1))) = some (r1, r2) := H
 have A4 := Aside0.mk A40; clear A40; by_cases c5 : t119 = true
 ·subst c5; have H1 : ((graph_within.f k l0 (([a1, a2] : List Int))).bind fun t123 => (if t123 = true then ((graph_Ends.f k l0).bind fun bt124 => (if 0 ≤ a1 then (if a1 < (bt124.1.length : Int) then (if rdOf false bt124.1 a1 = true then (if 0 ≤ a2 then (if a2 < (bt124.1.length : Int) then (if rdOf false bt124.1 a2 = true then ((graph_posts.f k l0).bind fun t130 => ((graph_above.f k t130 a1 a2).bind fun t133 => (some (t133, 0)))) else (some (false, 0))) else (none)) else (none)) else (some (false, 0))) else (none)) else (none))) else (some (false, 6)))) = some (r1, r2) := by rw [if_pos rfl] at H; exact H
  clear H; have H := H1; clear H1; obtain ⟨y120, hy120⟩ : ∃ y_ : List Int, y_ = (([a1, a2] : List Int)) := ⟨_, rfl⟩; replace H : ((graph_within.f k l0 y120).bind fun t123 => (if t123 = true then ((graph_Ends.f k l0).bind fun bt124 => (if 0 ≤ a1 then (if a1 < (bt124.1.length : Int) then (if rdOf false bt124.1 a1 = true then (if 0 ≤ a2 then (if a2 < (bt124.1.length : Int) then (if rdOf false bt124.1 a2 = true then ((graph_posts.f k l0).bind fun t130 => ((graph_above.f k t130 a1 a2).bind fun t133 => (some (t133, 0)))) else (some (false, 0))) else (none)) else (none)) else (some (false, 0))) else (none)) else (none))) else (some (false, 6)))) = some (r1, r2) := by first | (with_reducible first | (rw [hy120]; exact H) | exact H) | (have H2_ := (Option.bind_some _ _).symm.trans H; first | with_reducible exact H2_ | (rw [hy120]; exact H2_)) | (rw [hy120]; exact H) | exact H
  have Ny120 := Aside0.mk hy120; clear hy120; replace H := Option.bind_eq_some_iff.mp H; obtain ⟨t123, A60, H⟩ := H; replace H : (if t123 = true then ((graph_Ends.f k l0).bind fun bt124 => (if 0 ≤ a1 then (if a1 < (bt124.1.length : Int) then (if rdOf false bt124.1 a1 = true then (if 0 ≤ a2 then (if a2 < (bt124.1.length : Int) then (if rdOf false bt124.1 a2 = true then ((graph_posts.f k l0).bind fun t130 => ((graph_above.f k t130 a1 a2).bind fun t133 => (some (t133, 0)))) else (some (false, 0))) else (none)) else (none)) else (some (false, 0))) else (none)) else (none))) else (some (false, 6))) = some (r1, r2) := H
  have A6 := Aside0.mk A60; clear A60; by_cases c7 : t123 = true
  ·subst c7; have H1 : ((graph_Ends.f k l0).bind fun bt124 => (if 0 ≤ a1 then (if a1 < (bt124.1.length : Int) then (if rdOf false bt124.1 a1 = true then (if 0 ≤ a2 then (if a2 < (bt124.1.length : Int) then (if rdOf false bt124.1 a2 = true then ((graph_posts.f k l0).bind fun t130 => ((graph_above.f k t130 a1 a2).bind fun t133 => (some (t133, 0)))) else (some (false, 0))) else (none)) else (none)) else (some (false, 0))) else (none)) else (none))) = some (r1, r2) := by rw [if_pos rfl] at H; exact H
   clear H; have H := H1; clear H1; replace H := Option.bind_eq_some_iff.mp H; obtain ⟨⟨t124, t125⟩, A80, H⟩ := H; replace H : (if 0 ≤ a1 then (if a1 < (t124.length : Int) then (if rdOf false t124 a1 = true then (if 0 ≤ a2 then (if a2 < (t124.length : Int) then (if rdOf false t124 a2 = true then ((graph_posts.f k l0).bind fun t130 => ((graph_above.f k t130 a1 a2).bind fun t133 => (some (t133, 0)))) else (some (false, 0))) else (none)) else (none)) else (some (false, 0))) else (none)) else (none)) = some (r1, r2) := H
   have A8 := Aside0.mk A80; clear A80; by_cases c9 : 0 ≤ a1
   ·rw [if_pos c9] at H; have c9b0 : decide (0 ≤ a1) = true := decide_eq_true c9
    clear c9; by_cases c10 : a1 < (t124.length : Int)
    ·rw [if_pos c10] at H; have c10b0 : decide (a1 < (t124.length : Int)) = true := decide_eq_true c10
     clear c10; obtain ⟨bq11, hbq11⟩ : ∃ b_ : Bool, b_ = (rdOf false t124 a1) := ⟨_, rfl⟩; replace H : (if bq11 = true then (if 0 ≤ a2 then (if a2 < (t124.length : Int) then (if rdOf false t124 a2 = true then ((graph_posts.f k l0).bind fun t130 => ((graph_above.f k t130 a1 a2).bind fun t133 => (some (t133, 0)))) else (some (false, 0))) else (none)) else (none)) else (some (false, 0))) = some (r1, r2) := by rw [← hbq11] at H; exact H
     have Nbq11 := Aside0.mk hbq11; clear hbq11; by_cases c12 : bq11 = true
     ·subst c12; have H1 : (if 0 ≤ a2 then (if a2 < (t124.length : Int) then (if rdOf false t124 a2 = true then ((graph_posts.f k l0).bind fun t130 => ((graph_above.f k t130 a1 a2).bind fun t133 => (some (t133, 0)))) else (some (false, 0))) else (none)) else (none)) = some (r1, r2) := by rw [if_pos rfl] at H; exact H
      clear H; have H := H1; clear H1; by_cases c13 : 0 ≤ a2
      ·rw [if_pos c13] at H; have c13b0 : decide (0 ≤ a2) = true := decide_eq_true c13
       clear c13; by_cases c14 : a2 < (t124.length : Int)
       ·rw [if_pos c14] at H; have c14b0 : decide (a2 < (t124.length : Int)) = true := decide_eq_true c14
        clear c14; obtain ⟨bq15, hbq15⟩ : ∃ b_ : Bool, b_ = (rdOf false t124 a2) := ⟨_, rfl⟩; replace H : (if bq15 = true then ((graph_posts.f k l0).bind fun t130 => ((graph_above.f k t130 a1 a2).bind fun t133 => (some (t133, 0)))) else (some (false, 0))) = some (r1, r2) := by rw [← hbq15] at H; exact H
        have Nbq15 := Aside0.mk hbq15; clear hbq15; by_cases c16 : bq15 = true
        ·subst c16; have H1 : ((graph_posts.f k l0).bind fun t130 => ((graph_above.f k t130 a1 a2).bind fun t133 => (some (t133, 0)))) = some (r1, r2) := by rw [if_pos rfl] at H; exact H
         clear H; have H := H1; clear H1; replace H := Option.bind_eq_some_iff.mp H; obtain ⟨t130, A170, H⟩ := H; replace H : ((graph_above.f k t130 a1 a2).bind fun t133 => (some (t133, 0))) = some (r1, r2) := H
         have A17 := Aside0.mk A170; clear A170; replace H := Option.bind_eq_some_iff.mp H; obtain ⟨t133, A180, H⟩ := H; replace H : (some (t133, 0)) = some (r1, r2) := H; have A18 := Aside0.mk A180; clear A180; simp only [Option.some.injEq, Prod.mk.injEq] at H
         obtain ⟨rfl, rfl⟩ := H; go_enter Try.func37, Try.ntmps37
         go_wp2_with (first | ((with_reducible refine gate_callee (f := 47) rfl ?_); refine goesL_ (some 11) rfl rfl Try.func47 (by kernel_rfl) rfl #[.slice A0 l0.length c0] rfl (by (try simp only [List.map_toArray, List.map_cons, List.map_nil]); first | done | rfl | (simp only [List.length_drop, List.length_take]; rfl)) ?_; (with_reducible refine (graph_valid.calls k _ _ l0 true _ ?side1 ?side2 A4.out).mono ?_); (case side1 => repeat (first | exact HR0.out | with_reducible first | refine Kd.C_alloc ?_ _ | refine Kd.C_drewN ?_ _ | refine Kd.C_drew ?_)); (case side2 => exact HC0.out); rintro e w' ⟨rfl, ⟨nd, rfl⟩⟩; refine ⟨_, rfl, ?_⟩) | ((with_reducible refine gate_dst (N := 16) rfl ?_); refine Kd.R_lit (Kd.int .i64) _ 3 ?hg (N := 16) ?hd (xs := ([a1, a2] : List Int)) (inner := [.int .i64 a1, .int .i64 a2]) (ok := fun _ => True) (okp := fun _ => True) ?hr ?hp (fun _ hk => hk) trivial (Below.refl _ _) (Nat.le_refl _) (by simp) ?_; (case hd => rfl); (case hg => rfl); (case hr => first | (go_simp; done) | (go_simp; rfl)); (case hp => exact (Reps.one (show Kd.M (Kd.int .i64) _ _ _ a1 [.int .i64 a1] from rfl) (Reps.one (show Kd.M (Kd.int .i64) _ _ _ a2 [.int .i64 a2] from rfl) (Reps.none _ _)))); intro v121 w19 ho20 hb hg_ hnew_; clear hg_ hnew_; (first | rw [← Ny120.out] at ho20 | (simp only [Int.reduceToNat] at ho20; rw [← Ny120.out] at ho20)); have n0_ := Aside0.mk (Kd.R_lower ho20 (below_size (by repeat (first | (with_reducible first | exact HB.out | apply below_alloc | apply pw_below_drewN | apply below_drew1) | exact HB.out)))); have n1_ := Aside0.mk (below_step (by repeat (first | (with_reducible first | exact HB.out | apply below_alloc | apply pw_below_drewN | apply below_drew1) | exact HB.out)) hb); clear HB; have HO122 := n0_; have HB := n1_; clear n0_ n1_; clear hb ho20; obtain ⟨Ao21, co21, eo21⟩ := Kd.R_slice HO122.out; subst eo21) | ((with_reducible refine gate_callee (f := 60) rfl ?_); refine goesL_ (some 17) rfl rfl Try.func60 (by kernel_rfl) rfl #[.slice A0 l0.length c0, .slice Ao21 y120.length co21] rfl (by (try simp only [List.map_toArray, List.map_cons, List.map_nil]); first | done | rfl | (simp only [List.length_drop, List.length_take]; rfl)) ?_; (with_reducible refine (graph_within.calls k _ _ l0 _ _ y120 true _ ?side1 ?side2 ?side3 ?side4 A6.out).mono ?_); (case side1 => repeat (first | exact (Kd.C_below HR0.out HB.out) | with_reducible first | refine Kd.C_alloc ?_ _ | refine Kd.C_drewN ?_ _ | refine Kd.C_drew ?_)); (case side2 => exact HC0.out); (case side3 => repeat (first | exact (Kd.R_reads' HO122.out).2.2 | with_reducible first | refine Kd.C_alloc ?_ _ | refine Kd.C_drewN ?_ _ | refine Kd.C_drew ?_)); (case side4 => exact (Kd.R_reads' HO122.out).2.1); rintro e w' ⟨rfl, ⟨nd, rfl⟩⟩; refine ⟨_, rfl, ?_⟩) | ((with_reducible refine gate_callee (f := 39) rfl ?_); refine goesL_ (some 21) rfl rfl Try.func39 (by kernel_rfl) rfl #[.slice A0 l0.length c0] rfl (by (try simp only [List.map_toArray, List.map_cons, List.map_nil]); first | done | rfl | (simp only [List.length_drop, List.length_take]; rfl)) ?_; (with_reducible refine (graph_Ends.calls k _ _ l0 t124 t125 _ ?side1 ?side2 A8.out).mono ?_); (case side1 => repeat (first | exact (Kd.C_below HR0.out (by repeat (first | (with_reducible first | exact HB.out | apply below_alloc | apply pw_below_drewN | apply below_drew1) | exact HB.out))) | with_reducible first | refine Kd.C_alloc ?_ _ | refine Kd.C_drewN ?_ _ | refine Kd.C_drew ?_)); (case side2 => exact HC0.out); rintro e w22 ⟨v126, rfl, ho0, hb⟩; refine ⟨_, rfl, ?_⟩; have n0_ := Aside0.mk (Kd.R_below (by (with_reducible repeat (first | apply Kd.R_alloc | apply Kd.R_drewN | apply Kd.R_drew)); exact HO122.out) hb); have n1_ := Aside0.mk (Kd.R_lower ho0 (below_size (by repeat (first | (with_reducible first | exact HB.out | apply below_alloc | apply pw_below_drewN | apply below_drew1) | exact HB.out)))); have n2_ := Aside0.mk (below_step (by repeat (first | (with_reducible first | exact HB.out | apply below_alloc | apply pw_below_drewN | apply below_drew1) | exact HB.out)) hb); clear HO122; clear HB; have HO122 := n0_; have HO127 := n1_; have HB := n2_; clear n0_ n1_ n2_; (try clear hb); (try clear hb2); (try clear hk); (try clear hi); (try clear ho0); obtain ⟨Ao23, co23, eo23⟩ := Kd.R_slice HO127.out; subst eo23; have p128 : 0 ≤ (a1 : Int) := of_decide_eq_true (by with_reducible assumption); have q128 : a1 < (t124.length : Int) := of_decide_eq_true (by with_reducible assumption); obtain ⟨ad128, e128, hx128_0⟩ := Kd.at_bool (Kd.R_reads' HO127.out).2.2 a1 p128 q128; (try rw [← Nbq11.out] at hx128_0); (try rw [← Nbq15.out] at hx128_0); cases e128; replace p128 := eq_true p128; replace q128 := eq_true q128; have p129 : 0 ≤ (a2 : Int) := of_decide_eq_true (by with_reducible assumption); have q129 : a2 < (t124.length : Int) := of_decide_eq_true (by with_reducible assumption); obtain ⟨ad129, e129, hx129_0⟩ := Kd.at_bool (Kd.R_reads' HO127.out).2.2 a2 p129 q129; (try rw [← Nbq11.out] at hx129_0); (try rw [← Nbq15.out] at hx129_0); obtain rfl : ad128 = ad129 := (by injection e129); replace p129 := eq_true p129; replace q129 := eq_true q129) | (go_at_call 61; (with_reducible refine (graph_posts.calls k _ _ l0 t130 _ ?side1 ?side2 A17.out).mono ?_); (case side1 => repeat (first | exact (Kd.C_below HR0.out HB.out) | with_reducible first | refine Kd.C_alloc ?_ _ | refine Kd.C_drewN ?_ _ | refine Kd.C_drew ?_)); (case side2 => exact HC0.out); rintro e w24 ⟨v131, rfl, ho0, hb⟩; have n0_ := Aside0.mk (Kd.R_elder' (by (with_reducible repeat (first | apply Kd.R_alloc | apply Kd.R_drewN | apply Kd.R_drew)); exact HO122.out) (Kd.R_base ho0) hb); have n1_ := Aside0.mk (Kd.R_below (by (with_reducible repeat (first | apply Kd.R_alloc | apply Kd.R_drewN | apply Kd.R_drew)); exact HO127.out) hb); have n2_ := Aside0.mk (Kd.R_lower (Kd.R_new' ho0 (Kd.R_lt (by (with_reducible repeat (first | apply Kd.R_alloc | apply Kd.R_drewN | apply Kd.R_drew)); exact HO122.out))) (below_size (by repeat (first | (with_reducible first | exact HB.out | apply below_alloc | apply pw_below_drewN | apply below_drew1) | exact HB.out)))); have n3_ := Aside0.mk (below_step (by repeat (first | (with_reducible first | exact HB.out | apply below_alloc | apply pw_below_drewN | apply below_drew1) | exact HB.out)) hb); clear HO122; clear HO127; clear HB; have HO122 := n0_; have HO127 := n1_; have HO132 := n2_; have HB := n3_; clear n0_ n1_ n2_ n3_; (try clear hb); (try clear hb2); (try clear hk); (try clear hi); (try clear ho0); obtain ⟨Ao25, co25, eo25⟩ := Kd.R_slice HO132.out; subst eo25) | (go_at_call 63; (with_reducible refine (graph_above.calls k _ _ t130 a1 a2 t133 _ ?side1 ?side2 A18.out).mono ?_); (case side1 => repeat (first | exact (Kd.R_reads' HO132.out).2.2 | with_reducible first | refine Kd.C_alloc ?_ _ | refine Kd.C_drewN ?_ _ | refine Kd.C_drew ?_)); (case side2 => exact (Kd.R_reads' HO132.out).2.1); rintro e w' ⟨rfl, ⟨nd, rfl⟩⟩))
         go_ret2
         exact ⟨by first | rfl | (simp [errW_none, errW_some] <;> rfl) | (simp [*, errW_none, errW_some] <;> rfl), by repeat (first | (with_reducible first | exact HB.out | apply below_alloc | apply pw_below_drewN | apply below_drew1) | exact HB.out)⟩
        ·replace c16 := Bool.eq_false_iff.mpr c16; subst c16; have H1 : (some (false, 0)) = some (r1, r2) := by rw [if_neg (show ¬ (false = true) by decide)] at H; exact H
         clear H; have H := H1; clear H1; simp only [Option.some.injEq, Prod.mk.injEq] at H
         obtain ⟨rfl, rfl⟩ := H; go_enter Try.func37, Try.ntmps37
         go_wp2_with (first | ((with_reducible refine gate_callee (f := 47) rfl ?_); refine goesL_ (some 11) rfl rfl Try.func47 (by kernel_rfl) rfl #[.slice A0 l0.length c0] rfl (by (try simp only [List.map_toArray, List.map_cons, List.map_nil]); first | done | rfl | (simp only [List.length_drop, List.length_take]; rfl)) ?_; (with_reducible refine (graph_valid.calls k _ _ l0 true _ ?side1 ?side2 A4.out).mono ?_); (case side1 => repeat (first | exact HR0.out | with_reducible first | refine Kd.C_alloc ?_ _ | refine Kd.C_drewN ?_ _ | refine Kd.C_drew ?_)); (case side2 => exact HC0.out); rintro e w' ⟨rfl, ⟨nd, rfl⟩⟩; refine ⟨_, rfl, ?_⟩) | ((with_reducible refine gate_dst (N := 16) rfl ?_); refine Kd.R_lit (Kd.int .i64) _ 3 ?hg (N := 16) ?hd (xs := ([a1, a2] : List Int)) (inner := [.int .i64 a1, .int .i64 a2]) (ok := fun _ => True) (okp := fun _ => True) ?hr ?hp (fun _ hk => hk) trivial (Below.refl _ _) (Nat.le_refl _) (by simp) ?_; (case hd => rfl); (case hg => rfl); (case hr => first | (go_simp; done) | (go_simp; rfl)); (case hp => exact (Reps.one (show Kd.M (Kd.int .i64) _ _ _ a1 [.int .i64 a1] from rfl) (Reps.one (show Kd.M (Kd.int .i64) _ _ _ a2 [.int .i64 a2] from rfl) (Reps.none _ _)))); intro v121 w26 ho27 hb hg_ hnew_; clear hg_ hnew_; (first | rw [← Ny120.out] at ho27 | (simp only [Int.reduceToNat] at ho27; rw [← Ny120.out] at ho27)); have n0_ := Aside0.mk (Kd.R_lower ho27 (below_size (by repeat (first | (with_reducible first | exact HB.out | apply below_alloc | apply pw_below_drewN | apply below_drew1) | exact HB.out)))); have n1_ := Aside0.mk (below_step (by repeat (first | (with_reducible first | exact HB.out | apply below_alloc | apply pw_below_drewN | apply below_drew1) | exact HB.out)) hb); clear HB; have HO122 := n0_; have HB := n1_; clear n0_ n1_; clear hb ho27; obtain ⟨Ao28, co28, eo28⟩ := Kd.R_slice HO122.out; subst eo28) | ((with_reducible refine gate_callee (f := 60) rfl ?_); refine goesL_ (some 17) rfl rfl Try.func60 (by kernel_rfl) rfl #[.slice A0 l0.length c0, .slice Ao28 y120.length co28] rfl (by (try simp only [List.map_toArray, List.map_cons, List.map_nil]); first | done | rfl | (simp only [List.length_drop, List.length_take]; rfl)) ?_; (with_reducible refine (graph_within.calls k _ _ l0 _ _ y120 true _ ?side1 ?side2 ?side3 ?side4 A6.out).mono ?_); (case side1 => repeat (first | exact (Kd.C_below HR0.out HB.out) | with_reducible first | refine Kd.C_alloc ?_ _ | refine Kd.C_drewN ?_ _ | refine Kd.C_drew ?_)); (case side2 => exact HC0.out); (case side3 => repeat (first | exact (Kd.R_reads' HO122.out).2.2 | with_reducible first | refine Kd.C_alloc ?_ _ | refine Kd.C_drewN ?_ _ | refine Kd.C_drew ?_)); (case side4 => exact (Kd.R_reads' HO122.out).2.1); rintro e w' ⟨rfl, ⟨nd, rfl⟩⟩; refine ⟨_, rfl, ?_⟩) | ((with_reducible refine gate_callee (f := 39) rfl ?_); refine goesL_ (some 21) rfl rfl Try.func39 (by kernel_rfl) rfl #[.slice A0 l0.length c0] rfl (by (try simp only [List.map_toArray, List.map_cons, List.map_nil]); first | done | rfl | (simp only [List.length_drop, List.length_take]; rfl)) ?_; (with_reducible refine (graph_Ends.calls k _ _ l0 t124 t125 _ ?side1 ?side2 A8.out).mono ?_); (case side1 => repeat (first | exact (Kd.C_below HR0.out (by repeat (first | (with_reducible first | exact HB.out | apply below_alloc | apply pw_below_drewN | apply below_drew1) | exact HB.out))) | with_reducible first | refine Kd.C_alloc ?_ _ | refine Kd.C_drewN ?_ _ | refine Kd.C_drew ?_)); (case side2 => exact HC0.out); rintro e w29 ⟨v126, rfl, ho0, hb⟩; refine ⟨_, rfl, ?_⟩; have n0_ := Aside0.mk (Kd.R_below (by (with_reducible repeat (first | apply Kd.R_alloc | apply Kd.R_drewN | apply Kd.R_drew)); exact HO122.out) hb); have n1_ := Aside0.mk (Kd.R_lower ho0 (below_size (by repeat (first | (with_reducible first | exact HB.out | apply below_alloc | apply pw_below_drewN | apply below_drew1) | exact HB.out)))); have n2_ := Aside0.mk (below_step (by repeat (first | (with_reducible first | exact HB.out | apply below_alloc | apply pw_below_drewN | apply below_drew1) | exact HB.out)) hb); clear HO122; clear HB; have HO122 := n0_; have HO127 := n1_; have HB := n2_; clear n0_ n1_ n2_; (try clear hb); (try clear hb2); (try clear hk); (try clear hi); (try clear ho0); obtain ⟨Ao30, co30, eo30⟩ := Kd.R_slice HO127.out; subst eo30; have p128 : 0 ≤ (a1 : Int) := of_decide_eq_true (by with_reducible assumption); have q128 : a1 < (t124.length : Int) := of_decide_eq_true (by with_reducible assumption); obtain ⟨ad128, e128, hx128_0⟩ := Kd.at_bool (Kd.R_reads' HO127.out).2.2 a1 p128 q128; (try rw [← Nbq11.out] at hx128_0); (try rw [← Nbq15.out] at hx128_0); cases e128; replace p128 := eq_true p128; replace q128 := eq_true q128; have p129 : 0 ≤ (a2 : Int) := of_decide_eq_true (by with_reducible assumption); have q129 : a2 < (t124.length : Int) := of_decide_eq_true (by with_reducible assumption); obtain ⟨ad129, e129, hx129_0⟩ := Kd.at_bool (Kd.R_reads' HO127.out).2.2 a2 p129 q129; (try rw [← Nbq11.out] at hx129_0); (try rw [← Nbq15.out] at hx129_0); obtain rfl : ad128 = ad129 := (by injection e129); replace p129 := eq_true p129; replace q129 := eq_true q129))
         go_ret2
         exact ⟨by first | rfl | (simp [errW_none, errW_some] <;> rfl) | (simp [*, errW_none, errW_some] <;> rfl), by repeat (first | (with_reducible first | exact HB.out | apply below_alloc | apply pw_below_drewN | apply below_drew1) | exact HB.out)⟩
       ·rw [if_neg c14] at H; exact absurd H (by simp)
      ·rw [if_neg c13] at H; exact absurd H (by simp)
     ·replace c12 := Bool.eq_false_iff.mpr c12; subst c12; have H1 : (some (false, 0)) = some (r1, r2) := by rw [if_neg (show ¬ (false = true) by decide)] at H; exact H
      clear H; have H := H1; clear H1; simp only [Option.some.injEq, Prod.mk.injEq] at H
      obtain ⟨rfl, rfl⟩ := H; go_enter Try.func37, Try.ntmps37
      go_wp2_with (first | ((with_reducible refine gate_callee (f := 47) rfl ?_); refine goesL_ (some 11) rfl rfl Try.func47 (by kernel_rfl) rfl #[.slice A0 l0.length c0] rfl (by (try simp only [List.map_toArray, List.map_cons, List.map_nil]); first | done | rfl | (simp only [List.length_drop, List.length_take]; rfl)) ?_; (with_reducible refine (graph_valid.calls k _ _ l0 true _ ?side1 ?side2 A4.out).mono ?_); (case side1 => repeat (first | exact HR0.out | with_reducible first | refine Kd.C_alloc ?_ _ | refine Kd.C_drewN ?_ _ | refine Kd.C_drew ?_)); (case side2 => exact HC0.out); rintro e w' ⟨rfl, ⟨nd, rfl⟩⟩; refine ⟨_, rfl, ?_⟩) | ((with_reducible refine gate_dst (N := 16) rfl ?_); refine Kd.R_lit (Kd.int .i64) _ 3 ?hg (N := 16) ?hd (xs := ([a1, a2] : List Int)) (inner := [.int .i64 a1, .int .i64 a2]) (ok := fun _ => True) (okp := fun _ => True) ?hr ?hp (fun _ hk => hk) trivial (Below.refl _ _) (Nat.le_refl _) (by simp) ?_; (case hd => rfl); (case hg => rfl); (case hr => first | (go_simp; done) | (go_simp; rfl)); (case hp => exact (Reps.one (show Kd.M (Kd.int .i64) _ _ _ a1 [.int .i64 a1] from rfl) (Reps.one (show Kd.M (Kd.int .i64) _ _ _ a2 [.int .i64 a2] from rfl) (Reps.none _ _)))); intro v121 w31 ho32 hb hg_ hnew_; clear hg_ hnew_; (first | rw [← Ny120.out] at ho32 | (simp only [Int.reduceToNat] at ho32; rw [← Ny120.out] at ho32)); have n0_ := Aside0.mk (Kd.R_lower ho32 (below_size (by repeat (first | (with_reducible first | exact HB.out | apply below_alloc | apply pw_below_drewN | apply below_drew1) | exact HB.out)))); have n1_ := Aside0.mk (below_step (by repeat (first | (with_reducible first | exact HB.out | apply below_alloc | apply pw_below_drewN | apply below_drew1) | exact HB.out)) hb); clear HB; have HO122 := n0_; have HB := n1_; clear n0_ n1_; clear hb ho32; obtain ⟨Ao33, co33, eo33⟩ := Kd.R_slice HO122.out; subst eo33) | ((with_reducible refine gate_callee (f := 60) rfl ?_); refine goesL_ (some 17) rfl rfl Try.func60 (by kernel_rfl) rfl #[.slice A0 l0.length c0, .slice Ao33 y120.length co33] rfl (by (try simp only [List.map_toArray, List.map_cons, List.map_nil]); first | done | rfl | (simp only [List.length_drop, List.length_take]; rfl)) ?_; (with_reducible refine (graph_within.calls k _ _ l0 _ _ y120 true _ ?side1 ?side2 ?side3 ?side4 A6.out).mono ?_); (case side1 => repeat (first | exact (Kd.C_below HR0.out HB.out) | with_reducible first | refine Kd.C_alloc ?_ _ | refine Kd.C_drewN ?_ _ | refine Kd.C_drew ?_)); (case side2 => exact HC0.out); (case side3 => repeat (first | exact (Kd.R_reads' HO122.out).2.2 | with_reducible first | refine Kd.C_alloc ?_ _ | refine Kd.C_drewN ?_ _ | refine Kd.C_drew ?_)); (case side4 => exact (Kd.R_reads' HO122.out).2.1); rintro e w' ⟨rfl, ⟨nd, rfl⟩⟩; refine ⟨_, rfl, ?_⟩) | ((with_reducible refine gate_callee (f := 39) rfl ?_); refine goesL_ (some 21) rfl rfl Try.func39 (by kernel_rfl) rfl #[.slice A0 l0.length c0] rfl (by (try simp only [List.map_toArray, List.map_cons, List.map_nil]); first | done | rfl | (simp only [List.length_drop, List.length_take]; rfl)) ?_; (with_reducible refine (graph_Ends.calls k _ _ l0 t124 t125 _ ?side1 ?side2 A8.out).mono ?_); (case side1 => repeat (first | exact (Kd.C_below HR0.out (by repeat (first | (with_reducible first | exact HB.out | apply below_alloc | apply pw_below_drewN | apply below_drew1) | exact HB.out))) | with_reducible first | refine Kd.C_alloc ?_ _ | refine Kd.C_drewN ?_ _ | refine Kd.C_drew ?_)); (case side2 => exact HC0.out); rintro e w34 ⟨v126, rfl, ho0, hb⟩; refine ⟨_, rfl, ?_⟩; have n0_ := Aside0.mk (Kd.R_below (by (with_reducible repeat (first | apply Kd.R_alloc | apply Kd.R_drewN | apply Kd.R_drew)); exact HO122.out) hb); have n1_ := Aside0.mk (Kd.R_lower ho0 (below_size (by repeat (first | (with_reducible first | exact HB.out | apply below_alloc | apply pw_below_drewN | apply below_drew1) | exact HB.out)))); have n2_ := Aside0.mk (below_step (by repeat (first | (with_reducible first | exact HB.out | apply below_alloc | apply pw_below_drewN | apply below_drew1) | exact HB.out)) hb); clear HO122; clear HB; have HO122 := n0_; have HO127 := n1_; have HB := n2_; clear n0_ n1_ n2_; (try clear hb); (try clear hb2); (try clear hk); (try clear hi); (try clear ho0); obtain ⟨Ao35, co35, eo35⟩ := Kd.R_slice HO127.out; subst eo35; have p128 : 0 ≤ (a1 : Int) := of_decide_eq_true (by with_reducible assumption); have q128 : a1 < (t124.length : Int) := of_decide_eq_true (by with_reducible assumption); obtain ⟨ad128, e128, hx128_0⟩ := Kd.at_bool (Kd.R_reads' HO127.out).2.2 a1 p128 q128; (try rw [← Nbq11.out] at hx128_0); cases e128; replace p128 := eq_true p128; replace q128 := eq_true q128))
      go_ret2
      exact ⟨by first | rfl | (simp [errW_none, errW_some] <;> rfl) | (simp [*, errW_none, errW_some] <;> rfl), by repeat (first | (with_reducible first | exact HB.out | apply below_alloc | apply pw_below_drewN | apply below_drew1) | exact HB.out)⟩
    ·rw [if_neg c10] at H; exact absurd H (by simp)
   ·rw [if_neg c9] at H; exact absurd H (by simp)
  ·replace c7 := Bool.eq_false_iff.mpr c7; subst c7; have H1 : (some (false, 6)) = some (r1, r2) := by rw [if_neg (show ¬ (false = true) by decide)] at H; exact H
   clear H; have H := H1; clear H1; simp only [Option.some.injEq, Prod.mk.injEq] at H
   obtain ⟨rfl, rfl⟩ := H; go_enter Try.func37, Try.ntmps37
   go_wp2_with (first | ((with_reducible refine gate_callee (f := 47) rfl ?_); refine goesL_ (some 11) rfl rfl Try.func47 (by kernel_rfl) rfl #[.slice A0 l0.length c0] rfl (by (try simp only [List.map_toArray, List.map_cons, List.map_nil]); first | done | rfl | (simp only [List.length_drop, List.length_take]; rfl)) ?_; (with_reducible refine (graph_valid.calls k _ _ l0 true _ ?side1 ?side2 A4.out).mono ?_); (case side1 => repeat (first | exact HR0.out | with_reducible first | refine Kd.C_alloc ?_ _ | refine Kd.C_drewN ?_ _ | refine Kd.C_drew ?_)); (case side2 => exact HC0.out); rintro e w' ⟨rfl, ⟨nd, rfl⟩⟩; refine ⟨_, rfl, ?_⟩) | ((with_reducible refine gate_dst (N := 16) rfl ?_); refine Kd.R_lit (Kd.int .i64) _ 3 ?hg (N := 16) ?hd (xs := ([a1, a2] : List Int)) (inner := [.int .i64 a1, .int .i64 a2]) (ok := fun _ => True) (okp := fun _ => True) ?hr ?hp (fun _ hk => hk) trivial (Below.refl _ _) (Nat.le_refl _) (by simp) ?_; (case hd => rfl); (case hg => rfl); (case hr => first | (go_simp; done) | (go_simp; rfl)); (case hp => exact (Reps.one (show Kd.M (Kd.int .i64) _ _ _ a1 [.int .i64 a1] from rfl) (Reps.one (show Kd.M (Kd.int .i64) _ _ _ a2 [.int .i64 a2] from rfl) (Reps.none _ _)))); intro v121 w36 ho37 hb hg_ hnew_; clear hg_ hnew_; (first | rw [← Ny120.out] at ho37 | (simp only [Int.reduceToNat] at ho37; rw [← Ny120.out] at ho37)); have n0_ := Aside0.mk (Kd.R_lower ho37 (below_size (by repeat (first | (with_reducible first | exact HB.out | apply below_alloc | apply pw_below_drewN | apply below_drew1) | exact HB.out)))); have n1_ := Aside0.mk (below_step (by repeat (first | (with_reducible first | exact HB.out | apply below_alloc | apply pw_below_drewN | apply below_drew1) | exact HB.out)) hb); clear HB; have HO122 := n0_; have HB := n1_; clear n0_ n1_; clear hb ho37; obtain ⟨Ao38, co38, eo38⟩ := Kd.R_slice HO122.out; subst eo38) | ((with_reducible refine gate_callee (f := 60) rfl ?_); refine goesL_ (some 17) rfl rfl Try.func60 (by kernel_rfl) rfl #[.slice A0 l0.length c0, .slice Ao38 y120.length co38] rfl (by (try simp only [List.map_toArray, List.map_cons, List.map_nil]); first | done | rfl | (simp only [List.length_drop, List.length_take]; rfl)) ?_; (with_reducible refine (graph_within.calls k _ _ l0 _ _ y120 false _ ?side1 ?side2 ?side3 ?side4 A6.out).mono ?_); (case side1 => repeat (first | exact (Kd.C_below HR0.out HB.out) | with_reducible first | refine Kd.C_alloc ?_ _ | refine Kd.C_drewN ?_ _ | refine Kd.C_drew ?_)); (case side2 => exact HC0.out); (case side3 => repeat (first | exact (Kd.R_reads' HO122.out).2.2 | with_reducible first | refine Kd.C_alloc ?_ _ | refine Kd.C_drewN ?_ _ | refine Kd.C_drew ?_)); (case side4 => exact (Kd.R_reads' HO122.out).2.1); rintro e w' ⟨rfl, ⟨nd, rfl⟩⟩; refine ⟨_, rfl, ?_⟩))
   go_ret2
   exact ⟨by first | rfl | (simp [errW_none, errW_some] <;> rfl) | (simp [*, errW_none, errW_some] <;> rfl), by repeat (first | (with_reducible first | exact HB.out | apply below_alloc | apply pw_below_drewN | apply below_drew1) | exact HB.out)⟩
 ·replace c5 := Bool.eq_false_iff.mpr c5; subst c5; have H1 : (some (false, 1)) = some (r1, r2) := by rw [if_neg (show ¬ (false = true) by decide)] at H; exact H
  clear H; have H := H1; clear H1; simp only [Option.some.injEq, Prod.mk.injEq] at H
  obtain ⟨rfl, rfl⟩ := H; go_enter Try.func37, Try.ntmps37
  go_wp2_with (first | ((with_reducible refine gate_callee (f := 47) rfl ?_); refine goesL_ (some 11) rfl rfl Try.func47 (by kernel_rfl) rfl #[.slice A0 l0.length c0] rfl (by (try simp only [List.map_toArray, List.map_cons, List.map_nil]); first | done | rfl | (simp only [List.length_drop, List.length_take]; rfl)) ?_; (with_reducible refine (graph_valid.calls k _ _ l0 false _ ?side1 ?side2 A4.out).mono ?_); (case side1 => repeat (first | exact HR0.out | with_reducible first | refine Kd.C_alloc ?_ _ | refine Kd.C_drewN ?_ _ | refine Kd.C_drew ?_)); (case side2 => exact HC0.out); rintro e w' ⟨rfl, ⟨nd, rfl⟩⟩; refine ⟨_, rfl, ?_⟩))
  go_ret2
  exact ⟨by first | rfl | (simp [errW_none, errW_some] <;> rfl) | (simp [*, errW_none, errW_some] <;> rfl), by repeat (first | (with_reducible first | exact HB.out | apply below_alloc | apply pw_below_drewN | apply below_drew1) | exact HB.out)⟩
end Go.Proofs.Ytjjedbcgkljdeaa.C
end
section
namespace Go.Proofs.Ytjjedbcgkljdeaa
open Go.RowKit Go.Proofs.YtjjedbcgkljdeaaW.PrintWords Go.Proofs.YtjjedbcgkljdeaaW.PrintLast Go.Proofs.YtjjedbcgkljdeaaW.PrintMore Go.Proofs.Ytjjedbcgkljdeaa.A
def VisPost_reg {pe : Nat} (w : World) (B : Nat) (s' : List Bool) (t' : List Int) (e : Ending) (W' : World) : Prop :=
 e = .returned (.tuple #[]) ∧ ∃ tv', FromSt w W' B (.func (.func 62) #[] #[.pointer (some ⟨pe, 0, none⟩)]) s' t' tv'
def Closed_reg {pe : Nat} (w : World) (P : Int → Bool) (len : Nat) : Prop := ∀ W1, Below w.heap.size w W1 → ∀ n : Int, 0 ≤ n → n < (len : Int) → Calls Try.prog 62 #[.int .i64 n, .pointer (some ⟨pe, 0, none⟩)] W1 fun e W' => e = .returned (.bool (P n)) ∧ Drawn0 W1 W'
set_option maxHeartbeats 2000000 in
theorem visit_reg {pe : Nat} {w W : World} {B : Nat} {P : Int → Bool} {s : List Bool} {t : List Int} {tv : Value} (h : FromSt w W B (.func (.func 62) #[] #[.pointer (some ⟨pe, 0, none⟩)]) s t tv) (m : Int) (s' : List Bool) (t' : List Int) (hv : visF P s t m = some (s', t')) (hP : Closed_reg w P s.length (pe := pe)) :
  Calls Try.prog 69 #[.int .i64 m, .pointer (some ⟨B + 1 + 1, 0, none⟩), .pointer (some ⟨B, 0, none⟩), .pointer (some ⟨B + 1 + 1 + 1, 0, none⟩)] W (VisPost_reg w B s' t' (pe := pe)) := by
 unfold visF at hv
 by_cases h0 : 0 ≤ m
 case neg => rw [if_neg h0] at hv; cases hv
 rw [if_pos h0] at hv; by_cases h1 : m < (s.length : Int)
 case neg => rw [if_neg h1] at hv; cases hv
 rw [if_pos h1] at hv; obtain ⟨k, rfl⟩ := Int.eq_ofNat_of_zero_le h0; have hk : k < s.length := by omega
 have hrd : rdOf false s (k : Int) = s.getD k false := by unfold rdOf; rw [Int.toNat_natCast]
 rw [hrd] at hv; have H := Aside0.mk h; have c2 : W.cell? ⟨B + 1 + 1, 0, none⟩ = some (.slice (some ⟨B + 1, 0, none⟩) s.length s.length) := (blk_cell h.c2 0).trans rfl
 have c0 : W.cell? ⟨B, 0, none⟩ = some (.func (.func 62) #[] #[.pointer (some ⟨pe, 0, none⟩)]) := (blk_cell h.c0 0).trans rfl
 have c3 : W.cell? ⟨B + 1 + 1 + 1, 0, none⟩ = some tv := (blk_cell h.c3 0).trans rfl
 have c1 := h.cell1 k hk; have f1 := blk_frozen h.c1 k; clear h h0 hrd; by_cases hs : s.getD k false = true
 ·rw [if_pos hs] at hv; simp only [Option.some.injEq, Prod.mk.injEq] at hv
  obtain ⟨rfl, rfl⟩ := hv; rw [hs] at c1; clear hs; go_enter Try.func69, Try.ntmps69
  go_wp2
  go_end0
  exact ⟨rfl, _, H.out⟩
 ·rw [if_neg hs] at hv; have hs' : s.getD k false = false := Bool.eq_false_iff.mpr hs
  rw [hs'] at c1; clear hs hs'; have hp := hP W H.out.below (k : Int) (by omega) h1
  by_cases hPk : P (k : Int) = true
  ·rw [if_pos hPk] at hv; simp only [Option.some.injEq, Prod.mk.injEq] at hv
   obtain ⟨rfl, rfl⟩ := hv; rw [hPk] at hp; have HP := Aside0.mk hp; clear hp hP hPk; go_enter Try.func69, Try.ntmps69
   go_wp2_with fail
   refine HP.out.mono ?_
   rintro e w' ⟨rfl, ⟨nd, rfl⟩⟩
   go_wp2
   go_end0
   exact ⟨rfl, _, H.out.grown (pw_below_drewN (Below.refl _ _) nd)⟩
  ·rw [if_neg hPk] at hv; by_cases hl : t.length < 17592186044416
   case neg => rw [if_neg hl] at hv; cases hv
   rw [if_pos hl] at hv; simp only [Option.some.injEq, Prod.mk.injEq] at hv
   obtain ⟨rfl, rfl⟩ := hv; rw [Bool.eq_false_iff.mpr hPk] at hp; have HP := Aside0.mk hp; have HL := Aside0.mk hl; clear hp hP hPk hl; go_enter Try.func69, Try.ntmps69
   go_wp2_with fail
   refine HP.out.mono ?_
   rintro e w' ⟨rfl, ⟨nd, rfl⟩⟩
   have h2 := (H.out.grown (pw_below_drewN (Below.refl _ _) nd)).mark k; have H2 := Aside0.mk h2; clear h2; have hsz := blk_lt H2.out.c3; have hz := Aside0.mk hsz; clear hsz; go_wp2_with ((with_reducible refine gate_builtin (b := .append) (xs := #[.tmp 19, .tmp 21]) rfl ?_); at_builtin; refine print_append_num (w0 := (W.drewN nd).setCell ⟨B + 1, k, none⟩ (.bool true)) (B + 1 + 1 + 1 + 1) rfl (.tmp 19) (.tmp 21) 33 3 .i64 8 rfl Try.underlying33 info3 (by decide) tv t (k : Int) rfl (by first | (go_simp; done) | (go_simp; rfl)) H2.out.own (Below.refl _ _) hz.out (by have := HL.out; omega) ?_; intro tv1 w1 ho hb hg hat; obtain ⟨A1, cp1, rfl⟩ := own_slice ho; have hb3 := blk_grown H2.out.c3 hg (H2.out.ne 3 (by omega)); have g3 : w1.cell? ⟨B + 1 + 1 + 1, 0, none⟩ = some tv := (blk_cell hb3 0).trans rfl; have gf := blk_frozen hb3 0; have HO := Aside0.mk ho; have HG := Aside0.mk hg; clear ho hb hg hat hb3)
   go_end0
   exact ⟨rfl, _, H2.out.todo HG.out (H2.out.below.grown HG.out (by have := H2.out.hB; have := hz.out; omega) (fun j hj => by have := own_base H2.out.own _ hj; have := H2.out.hB; omega)) (by have h := HO.out; rwa [show (t ++ [(k : Int)]).length = t.length + 1 from by simp] at h ⊢)⟩
def FromPost_reg (w : World) (r : List Bool) (e : Ending) (w' : World) : Prop :=
 ∃ v0_ : Value, e = .returned v0_ ∧ Kd.R Kd.bool 4 w' w.heap.size (fun _ => True) v0_ r ∧ Below w.heap.size w w'
set_option maxHeartbeats 4000000 in
set_option maxRecDepth 100000 in
theorem from_reg {pe : Nat} (P : Int → Bool) (k : Nat) (A0 : Option Addr) (c0 : Nat) (l0 : List (List Int)) (A1 : Option Addr) (c1 : Nat) (l1 : List Int) (r : List Bool) (w : World) (hr0 : Kd.C (Kd.slice 3 (Kd.int .i64)) w A0 l0.length l0) (hr1 : Kd.C (Kd.int .i64) w A1 l1.length l1) (hP : Closed_reg w P l0.length (pe := pe)) (h : fromF P k l0 l1 = some r) :
  Calls Try.prog 49 #[.slice A0 l0.length c0, .slice A1 l1.length c1, (.func (.func 62) #[] #[.pointer (some ⟨pe, 0, none⟩)])] w (FromPost_reg w r) := by
 unfold fromF at h
 by_cases hlen : l0.length ≤ 281474976710656
 case neg => rw [if_neg hlen] at h; cases h
 rw [if_pos hlen] at h; replace h := Option.bind_eq_some_iff.mp h; obtain ⟨⟨s1, t1⟩, h1, h2⟩ := h; have HR0 := Aside0.mk hr0; have HR1 := Aside0.mk hr1; have HP := Aside0.mk hP; have H1 := Aside0.mk h1; have H2 : Aside0 (runF P l0 k s1 t1 = some r) := ⟨h2⟩
 have hm1 : l1.length ≤ 9223372036854775807 := Kd.C_max hr1
 clear hr0 hr1 hP h1 h2; have hmf : ∀ (fn : Fn) (first cap : Array Value) (w : World), (Instr.makeFunc fn first cap).run Try.prog w = .ok (.func fn first cap) w := fun _ _ _ _ => rfl
 have hmk := print_make_of (P := Try.prog) 46 4 (.bool false) 1 Try.underlying46 info4 rfl (by decide) l0.length (by omega)
 go_enter Try.func49, Try.ntmps49
 go_wp2
 clear hmf hmk; refine gen_world (P := fun W => FromSt w W w.heap.size (.func (.func 62) #[] #[.pointer (some ⟨pe, 0, none⟩)]) (List.replicate l0.length false) [] (.slice none 0 0)) ?_ ?_
 ·have e0 : (madeCells #[.bool false] l0.length) = bA (List.replicate l0.length false) := by
   apply Array.ext_getElem?
   intro i
   rw [bA_get]; simp only [madeCells, Array.getElem?_map]
   by_cases hi : i < l0.length
   ·rw [Array.getElem?_eq_getElem (by simpa using hi), List.getElem?_eq_getElem (by simpa using hi)]; simp [Nat.mod_one]
   ·rw [Array.getElem?_eq_none (by simpa using hi), List.getElem?_eq_none (by simpa using hi)]; rfl
  rw [e0]; refine ⟨?_, Nat.le_refl _, ?_, ?_, ?_, ?_, ?_⟩
  ·repeat (first | exact Below.refl _ _ | refine below_alloc ?_ _ | refine Below.setCell ?_ (by simp) _)
  ·repeat (first | exact new_at _ (by simp) | refine blk_alloc ?_ _ | refine blk_far ?_ (by simp) _)
  ·repeat (first | exact new_at _ (by simp) | refine blk_alloc ?_ _ | refine blk_far ?_ (by simp) _)
  ·rw [List.length_replicate]; refine blk_alloc (new_at _ ?_) _; first | rfl | simp
  ·exact new_at _ (by simp)
  ·exact own_nil _ _ _ _
 rintro W hF
 obtain ⟨B, hB⟩ : ∃ B, B = w.heap.size := ⟨_, rfl⟩; rw [← hB] at hF ⊢
 have HF := Aside0.mk hF; have HBw := Aside0.mk hB; clear hF hB; go_loopw [21] (fun i wr => ∃ (j : Nat) (s : List Bool) (t : List Int) (tv : Value), j ≤ l1.length ∧ i = .int .i64 j ∧ Aside0 (visL P (l1.drop j) s t = some (s1, t1)) ∧ Aside0 (FromSt w wr B (.func (.func 62) #[] #[.pointer (some ⟨pe, 0, none⟩)]) s t tv) ∧ Aside0 (s.length = l0.length)) (fun i _ => l1.length - (intOf i).toNat)
 case atStart => exact ⟨0, _, _, _, by omega, rfl, ⟨H1.out⟩, HF, ⟨List.length_replicate ..⟩⟩
 case round =>
  obtain ⟨j, s, t, tv, hj, rfl, HV, HF, HS⟩ := hrel; by_cases hlt : j < l1.length
  ·obtain ⟨ad, e, hx⟩ := Kd.at_int HR1.out (j : Int) (by omega) (by omega)
   cases e; rw [Int.toNat_natCast] at hx; have hx2 := (HF.out.below.cell (World.block_lt_of_cell? w _ hx)).trans hx; clear hx; have hv := HV.out; rw [List.drop_eq_getElem_cons hlt, visL] at hv; have hrd : rd l1 (j : Int) = l1[j] := by unfold rd; rw [Int.toNat_natCast, List.getD_eq_getElem?_getD, List.getElem?_eq_getElem hlt]; rfl
   rw [hrd] at hx2; obtain ⟨⟨s2, t2⟩, hv1, hv2⟩ := Option.bind_eq_some_iff.mp hv; obtain ⟨m, hm⟩ : ∃ m, m = l1[j] := ⟨_, rfl⟩; rw [← hm] at hx2 hv1
   have HM := Aside0.mk hm; have HV1 := Aside0.mk hv1; have HV2 := Aside0.mk hv2; clear hv hrd hv1 hv2 hm HV; go_wp2_with fail
   refine (visit_reg HF.out m s2 t2 HV1.out (by rw [HS.out]; exact HP.out)).mono ?_
   rintro e W' ⟨rfl, tv', hF2⟩
   have HF2 := Aside0.mk hF2; clear hF2; go_wp2
   go_roundw
   case rel => exact ⟨j + 1, s2, t2, tv', by omega, by go_num, HV2, HF2, ⟨by rw [visF_len HV1.out, HS.out]⟩⟩
   case measure => simp [intOf]; omega
  ·obtain rfl : j = l1.length := by omega
   have hv := HV.out; rw [List.drop_of_length_le (Nat.le_refl _), visL] at hv; simp only [Option.some.injEq, Prod.mk.injEq] at hv
   obtain ⟨rfl, rfl⟩ := hv; clear HV; have hd : decide (((l1.length : Nat) : Int) < ((l1.length : Nat) : Int)) = false := decide_eq_false (by omega)
   go_wp2
   go_loopg [] k (fun kq w' => ∃ (s : List Bool) (t : List Int) (tv : Value), Aside0 (runF P l0 kq s t = some r) ∧ Aside0 (kq ≤ k) ∧ Aside0 (FromSt w w' B (.func (.func 62) #[] #[.pointer (some ⟨pe, 0, none⟩)]) s t tv) ∧ Aside0 (s.length = l0.length))
   case atStart => exact ⟨_, _, _, H2, ⟨Nat.le_refl _⟩, HF, HS⟩
   case round =>
    clear HF HS H2 H1; obtain ⟨s, t, tv, HA, HK, HF, HS⟩ := hrel; cases gk with
    | zero => exact absurd HA.out (by simp [runF])
    | succ k1 =>
     obtain ⟨A, c, rfl⟩ := own_slice HF.out.own; have hb3 := HF.out.c3; have g3 : wr.cell? ⟨B + 1 + 1 + 1, 0, none⟩ = some (.slice A t.length c) := (blk_cell hb3 0).trans rfl
     have gf3 := blk_frozen hb3 0; have hA := HA.out; rw [runF] at hA; by_cases ht : t.length = 0
     ·rw [if_pos ht] at hA; obtain rfl := Option.some.inj hA; obtain rfl := List.eq_nil_of_length_eq_zero ht; have g2 : wr.cell? ⟨B + 1 + 1, 0, none⟩ = some (.slice (some ⟨B + 1, 0, none⟩) s.length s.length) := (blk_cell HF.out.c2 0).trans rfl
      clear hA ht hb3; go_wp2
      go_ret
      exact ⟨_, rfl, HF.out.row (by have := HS.out; unfold maxLen; omega), HF.out.below⟩
     ·rw [if_neg ht] at hA; obtain ⟨t0, x, rfl, hrd, htk⟩ := last_of ht; rw [hrd, htk] at hA; clear hrd htk ht; by_cases hx0 : 0 ≤ x
      case neg => rw [if_neg hx0] at hA; cases hA
      rw [if_pos hx0] at hA; by_cases hx1 : x < (l0.length : Int)
      case neg => rw [if_neg hx1] at hA; cases hA
      rw [if_pos hx1] at hA; obtain ⟨⟨s2, t2⟩, hv1, hv2⟩ := Option.bind_eq_some_iff.mp hA; have HV1 := Aside0.mk hv1; have HV2 := Aside0.mk hv2; clear hA hv1 hv2 HA; have hlen : (t0 ++ [x]).length = t0.length + 1 := by simp
      obtain ⟨Ag, cg, e1, hle, hrd⟩ := own_reads_of_le (d := (0 : Int)) (enc := Value.int .i64) (xs := t0 ++ [x]) HF.out.own; have hmx : t0.length + 1 ≤ 9223372036854775807 := by have := hrd.2.1; omega
      obtain ⟨ad, e2, hcx⟩ := hrd.at_ (t0.length : Int) (by omega) (by omega)
      injection e1 with e1a e1b e1c
      subst e1a; subst e1c; cases e2; rw [Int.toNat_natCast, show rdOf (0 : Int) (t0 ++ [x]) (t0.length : Int) = x from by unfold rdOf; rw [Int.toNat_natCast]; simp] at hcx
      obtain ⟨i3, hi3, _⟩ := info_parts info3; have hcut := cut_to (P := Try.prog) 33 3 .i64 Try.underlying33 hi3 (some ad) (t0.length + 1) c (t0.length : Int) (by omega) (by omega) (by omega)
      rw [Int.toNat_natCast] at hcut; rw [hlen] at g3 hle
      clear hrd hlen e1b; go_upto_region 12 with (fail)
      refine gen_world (P := fun W => FromSt w W B (.func (.func 62) #[] #[.pointer (some ⟨pe, 0, none⟩)]) s t0 (.slice (some ad) t0.length c)) ?_ ?_
      ·have ho := own_take HF.out.own (m := t0.length) (by simp)
       rw [Nat.mul_one] at ho; have e3 : (nums .i64 (t0 ++ [x])).take t0.length = nums .i64 t0 := by simp [nums]
       rw [e3] at ho; exact HF.out.todo (grown_of_below (Below.refl _ _) _) HF.out.below ho
      rintro W2 hF2
      have HF2 := Aside0.mk hF2; clear hF2 HF hcut hcx g3 gf3 hb3 hle hmx; obtain ⟨ad0, Ar, cr, e0, hxg, hlg, hig⟩ := at_L1 HR0.out x hx0 hx1; cases e0; have hxg2 := (HF2.out.below.cell (World.block_lt_of_cell? w _ hxg)).trans hxg; have HRr := Aside0.mk hig; clear hxg hlg hig; obtain ⟨row, hrow⟩ : ∃ row, row = rd_L1 l0 x := ⟨_, rfl⟩; rw [← hrow] at hxg2 HRr HV1
      have HROW := Aside0.mk hrow; clear hrow; have hmr : row.length ≤ 9223372036854775807 := Kd.C_max HRr.out
      go_wp2
      go_loopw [48] (fun i wr => ∃ (j : Nat) (s : List Bool) (t : List Int) (tv : Value), j ≤ row.length ∧ i = .int .i64 j ∧ Aside0 (visL P (row.drop j) s t = some (s2, t2)) ∧ Aside0 (FromSt w wr B (.func (.func 62) #[] #[.pointer (some ⟨pe, 0, none⟩)]) s t tv) ∧ Aside0 (s.length = l0.length)) (fun i _ => row.length - (intOf i).toNat)
      case atStart => exact ⟨0, _, _, _, by omega, rfl, ⟨HV1.out⟩, HF2, HS⟩
      case round =>
       clear HF2 HS HV1; obtain ⟨j, s3, t3, tv3, hj, rfl, HV, HF, HS⟩ := hrel; by_cases hlt : j < row.length
       ·obtain ⟨ad4, e, hx⟩ := Kd.at_int HRr.out (j : Int) (by omega) (by omega)
        cases e; rw [Int.toNat_natCast] at hx; have hx2 := (HF.out.below.cell (World.block_lt_of_cell? w _ hx)).trans hx; clear hx; have hv := HV.out; rw [List.drop_eq_getElem_cons hlt, visL] at hv; have hrd : rd row (j : Int) = row[j] := by unfold rd; rw [Int.toNat_natCast, List.getD_eq_getElem?_getD, List.getElem?_eq_getElem hlt]; rfl
        rw [hrd] at hx2; obtain ⟨⟨s4, t4⟩, hv1, hv2⟩ := Option.bind_eq_some_iff.mp hv; obtain ⟨m, hm⟩ : ∃ m, m = row[j] := ⟨_, rfl⟩; rw [← hm] at hx2 hv1
        have HV1 := Aside0.mk hv1; have HV3 := Aside0.mk hv2; clear hv hrd hv1 hv2 hm HV; go_wp2_with fail
        refine (visit_reg HF.out m s4 t4 HV1.out (by rw [HS.out]; exact HP.out)).mono ?_
        rintro e W' ⟨rfl, tv', hF2⟩
        have HF2 := Aside0.mk hF2; clear hF2; go_wp2
        go_roundw
        case rel => exact ⟨j + 1, s4, t4, tv', by omega, by go_num, HV3, HF2, ⟨by rw [visF_len HV1.out, HS.out]⟩⟩
        case measure => simp [intOf]; omega
       ·obtain rfl : j = row.length := by omega
        have hv := HV.out; rw [List.drop_of_length_le (Nat.le_refl _), visL] at hv; simp only [Option.some.injEq, Prod.mk.injEq] at hv
        obtain ⟨rfl, rfl⟩ := hv; clear HV; have hd : decide (((row.length : Nat) : Int) < ((row.length : Nat) : Int)) = false := decide_eq_false (by omega)
        go_wp2
        go_roundg k1
        case measure => have := HK.out; omega
        case rel => exact ⟨_, _, _, HV2, ⟨by have := HK.out; omega⟩, HF, HS⟩
end Go.Proofs.Ytjjedbcgkljdeaa
end
section
namespace Go.Proofs.Ytjjedbcgkljdeaa.C
open Go Go.RowKit Go.Shelf Go.Proofs.YtjjedbcgkljdeaaW.PrintWords Go.Proofs.YtjjedbcgkljdeaaW.PrintLast Go.Proofs.YtjjedbcgkljdeaaW.PrintMore Go.Proofs.Ytjjedbcgkljdeaa.A Go.Proofs.Ytjjedbcgkljdeaa
def graph_fromReg.f (k : Nat) (l0 : List (List Int)) (l1 : List Int) (a2 : Int) : Option (List Bool) := fromF (fun n => n == a2) k l0 l1
theorem graph_fromReg.mono : ∀ a0 a1 a2 k, LeO (graph_fromReg.f k a0 a1 a2) (graph_fromReg.f (k + 1) a0 a1 a2) := fun a0 a1 _ k => fromF_mono _ a0 a1 k
theorem reg_closed (w : World) (pe : Nat) (e : Int) (he : w.heap[pe]? = some (.cells #[.int .i64 e] 3 (0, 0))) (len : Nat) : Closed_reg w (fun n => n == e) len (pe := pe) := by
 intro W1 hb n _ _
 have c : W1.cell? ⟨pe, 0, none⟩ = some (.int .i64 e) := (blk_cell (blk_below he hb) 0).trans rfl
 go_enter Try.func62, Try.ntmps62
 go_wp2
 go_ret
 exact ⟨by simp, Drawn0.refl _⟩
theorem graph_fromReg.calls (k : Nat) (A0 : Option Addr) (c0 : Nat) (l0 : List (List Int)) (A1 : Option Addr) (c1 : Nat) (l1 : List Int) (a2 : Int) (r : List Bool) (w : World) (hr0 : Kd.C (Kd.slice 3 (Kd.int .i64)) w A0 l0.length l0) (_hc0 : l0.length ≤ c0) (hr1 : Kd.C (Kd.int .i64) w A1 l1.length l1) (_hc1 : l1.length ≤ c1) (h : graph_fromReg.f k l0 l1 a2 = some r) {pe : Nat} (he : w.heap[pe]? = some (.cells #[.int .i64 a2] 3 (0, 0))) :
  Calls Try.prog 49 #[.slice A0 l0.length c0, .slice A1 l1.length c1, .func (.func 62) #[] #[.pointer (some ⟨pe, 0, none⟩)]] w fun e w' => ∃ v0_ : Value, e = .returned v0_ ∧ Kd.R Kd.bool 4 w' w.heap.size (fun _ => True) v0_ r ∧ Below w.heap.size w w' :=
 from_reg (pe := pe) (fun n => n == a2) k A0 c0 l0 A1 c1 l1 r w hr0 hr1 (reg_closed w pe a2 he _) h
theorem box_op {ops : Array Oper} {Q : Exit → Act → World → Prop} {rest : List Oper} {a : Act} {W : World} {o : Oper} {p v : Operand} {x : Int} (hgd : o.guard = none) (ho : o.op = .store 3 p v)
  (hp : a.eval p = .pointer (some ⟨W.heap.size, 0, none⟩)) (hv : a.eval v = .int .i64 x)
  (h : ∀ W', Below W.heap.size W W' → W'.heap[W.heap.size]? = some (.cells #[.int .i64 x] 3 (0, 0)) → wpList Try.prog ops Q rest (a.put o.dst undef) W') : wpList Try.prog ops Q (o :: rest) a (W.alloc (.cells #[.int .i64 0] 3)) := by
 refine wpList_plain hgd fun K hK => ?_
 have hf : (W.alloc (.cells #[.int .i64 0] 3)).frozen? ⟨W.heap.size, 0, none⟩ = false := blk_frozen (new_at _ rfl) 0
 have h1 : Below W.heap.size W ((W.alloc (.cells #[.int .i64 0] 3)).setCell ⟨W.heap.size, 0, none⟩ (.int .i64 x)) := (below_alloc (Below.refl _ _) _).setCell (by simp) _
 have h2 : ((W.alloc (.cells #[.int .i64 0] 3)).setCell ⟨W.heap.size, 0, none⟩ (.int .i64 x)).heap[W.heap.size]? = some (.cells #[.int .i64 x] 3 (0, 0)) := by
  have h0 : (W.alloc (.cells #[.int .i64 0] 3)).heap[W.heap.size]? = some (.cells #[.int .i64 0] 3 (0, 0)) := new_at _ rfl
  rw [blk_set h0]; rfl
 have hn := hK _ _ (h _ h1 h2); unfold Oper.wp
 have hr : (execOp a.eval o).run Try.prog (W.alloc (.cells #[.int .i64 0] 3)) = .ok .skip ((W.alloc (.cells #[.int .i64 0] 3)).setCell ⟨W.heap.size, 0, none⟩ (.int .i64 x)) := by
  unfold execOp
  simp only [ho, hp, hv]
  simp [go_sem, hf]
 rw [hr]; exact hn
end Go.Proofs.Ytjjedbcgkljdeaa.C
end
section
namespace Go.Proofs.Ytjjedbcgkljdeaa.D
open Go.RowKit Go.Proofs.YtjjedbcgkljdeaaW.PrintWords Go.Proofs.YtjjedbcgkljdeaaW.PrintLast Go.Proofs.YtjjedbcgkljdeaaW.PrintMore Go.Proofs.Ytjjedbcgkljdeaa.A Go.Proofs.Ytjjedbcgkljdeaa.B Go.Proofs.Ytjjedbcgkljdeaa.C
set_option linter.unusedVariables false
set_option linter.unusedSimpArgs false
def rd_L1 (xs : List (List Int)) (i : Int) : (List Int) := xs.getD i.toNat ([] : List Int)
theorem at_L1 {w : World} {A : Option Addr} {n : Nat} {xs : List (List Int)} (h : Kd.C (Kd.slice 3 (Kd.int .i64)) w A n xs) (i : Int) (h0 : 0 ≤ i) (h1 : i < n) : ∃ ad A0 c0, A = some ad ∧ w.cell? (ad.add i.toNat) = some (.slice A0 (rd_L1 xs i).length c0) ∧ (rd_L1 xs i).length ≤ c0 ∧ (Kd.int .i64).C w A0 (rd_L1 xs i).length (rd_L1 xs i) := by
 obtain ⟨ad, c, e, _, hK, hc0⟩ := Kd.C_get h ([] : List Int) i h0 h1; have hc : ∀ j u, c[j]? = some u → w.cell? (ad.add (i.toNat * 1 + j)) = some u := hc0
 obtain ⟨A0, c0, rfl, l0, g0⟩ := hK; exact ⟨ad, A0, c0, e, by have hq := hc 0 _ rfl; rwa [Nat.mul_one, Nat.add_zero] at hq, l0, g0⟩
end Go.Proofs.Ytjjedbcgkljdeaa.D
end
section
namespace Go.Proofs.Ytjjedbcgkljdeaa.D
open Go.RowKit Go.Proofs.YtjjedbcgkljdeaaW.PrintWords Go.Proofs.YtjjedbcgkljdeaaW.PrintLast Go.Proofs.YtjjedbcgkljdeaaW.PrintMore Go.Proofs.Ytjjedbcgkljdeaa.A Go.Proofs.Ytjjedbcgkljdeaa.B Go.Proofs.Ytjjedbcgkljdeaa.C
set_option linter.unusedVariables false
set_option linter.unusedSimpArgs false
def graph_Region.f (k : Nat) (l0 : List (List Int)) (a1 : Int) : Option (List Int × Int) := (graph_valid.f k l0).bind fun t101 => (if t101 = true then ((graph_within.f k l0 (([a1] : List Int))).bind fun t105 => (if t105 = true then ((graph_posts.f k l0).bind fun t106 => (if 0 ≤ a1 then (if a1 < (t106.length : Int) then (if a1 < (l0.length : Int) then ((graph_fromReg.f k l0 (rd_L1 l0 a1) (rd t106 a1)).bind fun t111 => ((graph_list.f k t111).bind fun t114 => (some (t114, 0)))) else (none)) else (none)) else (none))) else (some (([] : List Int), 6)))) else (some (([] : List Int), 1)))
theorem graph_Region.mono : ∀ a0 a1 k, LeO (graph_Region.f k a0 a1) (graph_Region.f (k + 1) a0 a1) := by
 intro a0 a1 k
 unfold graph_Region.f
 repeat' first
   | (with_reducible exact graph_fromReg.mono _ _ _ _)
   | (with_reducible exact graph_list.mono _ _)
   | (with_reducible exact graph_posts.mono _ _)
   | (with_reducible exact graph_valid.mono _ _)
   | (with_reducible exact graph_within.mono _ _ _)
   | (with_reducible exact LeO.refl _)
   | (with_reducible exact LeO.none _)
   | (with_reducible refine LeO.ite ?_ ?_)
   | (with_reducible refine LeO.bind ?_ (fun _ => ?_))
set_option maxHeartbeats 8000000 in
set_option maxRecDepth 100000 in
theorem graph_Region.calls (k : Nat) (A0 : Option Addr) (c0 : Nat) (l0 : List (List Int)) (a1 : Int) (r1 : List Int) (r2 : Int) (w : World) (hr0 : Kd.C (Kd.slice 3 (Kd.int .i64)) w A0 l0.length l0) (hc0 : l0.length ≤ c0) (h : graph_Region.f k l0 a1 = some (r1, r2)) :
  Calls Try.prog 23 #[.slice A0 l0.length c0, .int .i64 a1] w fun e w' => ∃ v0_ : Value, e = .returned (.tuple #[v0_, .int .i64 r2]) ∧ Kd.R (Kd.int .i64) 3 w' w.heap.size (fun _ => True) v0_ r1 ∧ Below w.heap.size w w' := by
 have HR0 := Aside0.mk hr0; have HC0 := Aside0.mk hc0; clear hr0 hc0; have HB := Aside0.mk (Below.refl w.heap.size w); have H : ((graph_valid.f k l0).bind fun t101 => (if t101 = true then ((graph_within.f k l0 (([a1] : List Int))).bind fun t105 => (if t105 = true then ((graph_posts.f k l0).bind fun t106 => (if 0 ≤ a1 then (if a1 < (t106.length : Int) then (if a1 < (l0.length : Int) then ((graph_fromReg.f k l0 (rd_L1 l0 a1) (rd t106 a1)).bind fun t111 => ((graph_list.f k t111).bind fun t114 => (some (t114, 0)))) else (none)) else (none)) else (none))) else (some (([] : List Int), 6)))) else (some (([] : List Int), 1)))) = some (r1, r2) := h
 clear h; replace H := Option.bind_eq_some_iff.mp H; obtain ⟨t101, A30, H⟩ := H; replace H : (if t101 = true then ((graph_within.f k l0 (([a1] : List Int))).bind fun t105 => (if t105 = true then ((graph_posts.f k l0).bind fun t106 => (if 0 ≤ a1 then (if a1 < (t106.length : Int) then (if a1 < (l0.length : Int) then ((graph_fromReg.f k l0 (rd_L1 l0 a1) (rd t106 a1)).bind fun t111 => ((graph_list.f k t111).bind fun t114 => (some (t114, 0)))) else (none)) else (none)) else (none))) else (some (([] : List Int), 6)))) else (some (([] : List Int), 1))) = some (r1, r2) := H
 have A3 := Aside0.mk A30; clear A30; by_cases c4 : t101 = true
 ·subst c4; have H1 : ((graph_within.f k l0 (([a1] : List Int))).bind fun t105 => (if t105 = true then ((graph_posts.f k l0).bind fun t106 => (if 0 ≤ a1 then (if a1 < (t106.length : Int) then (if a1 < (l0.length : Int) then ((graph_fromReg.f k l0 (rd_L1 l0 a1) (rd t106 a1)).bind fun t111 => ((graph_list.f k t111).bind fun t114 => (some (t114, 0)))) else (none)) else (none)) else (none))) else (some (([] : List Int), 6)))) = some (r1, r2) := by rw [if_pos rfl] at H; exact H
  clear H; have H := H1; clear H1; obtain ⟨y102, hy102⟩ : ∃ y_ : List Int, y_ = (([a1] : List Int)) := ⟨_, rfl⟩; replace H : ((graph_within.f k l0 y102).bind fun t105 => (if t105 = true then ((graph_posts.f k l0).bind fun t106 => (if 0 ≤ a1 then (if a1 < (t106.length : Int) then (if a1 < (l0.length : Int) then ((graph_fromReg.f k l0 (rd_L1 l0 a1) (rd t106 a1)).bind fun t111 => ((graph_list.f k t111).bind fun t114 => (some (t114, 0)))) else (none)) else (none)) else (none))) else (some (([] : List Int), 6)))) = some (r1, r2) := by first | (with_reducible first | (rw [hy102]; exact H) | exact H) | (have H2_ := (Option.bind_some _ _).symm.trans H; first | with_reducible exact H2_ | (rw [hy102]; exact H2_)) | (rw [hy102]; exact H) | exact H
  have Ny102 := Aside0.mk hy102; clear hy102; replace H := Option.bind_eq_some_iff.mp H; obtain ⟨t105, A50, H⟩ := H; replace H : (if t105 = true then ((graph_posts.f k l0).bind fun t106 => (if 0 ≤ a1 then (if a1 < (t106.length : Int) then (if a1 < (l0.length : Int) then ((graph_fromReg.f k l0 (rd_L1 l0 a1) (rd t106 a1)).bind fun t111 => ((graph_list.f k t111).bind fun t114 => (some (t114, 0)))) else (none)) else (none)) else (none))) else (some (([] : List Int), 6))) = some (r1, r2) := H
  have A5 := Aside0.mk A50; clear A50; by_cases c6 : t105 = true
  ·subst c6; have H1 : ((graph_posts.f k l0).bind fun t106 => (if 0 ≤ a1 then (if a1 < (t106.length : Int) then (if a1 < (l0.length : Int) then ((graph_fromReg.f k l0 (rd_L1 l0 a1) (rd t106 a1)).bind fun t111 => ((graph_list.f k t111).bind fun t114 => (some (t114, 0)))) else (none)) else (none)) else (none))) = some (r1, r2) := by rw [if_pos rfl] at H; exact H
   clear H; have H := H1; clear H1; replace H := Option.bind_eq_some_iff.mp H; obtain ⟨t106, A70, H⟩ := H; replace H : (if 0 ≤ a1 then (if a1 < (t106.length : Int) then (if a1 < (l0.length : Int) then ((graph_fromReg.f k l0 (rd_L1 l0 a1) (rd t106 a1)).bind fun t111 => ((graph_list.f k t111).bind fun t114 => (some (t114, 0)))) else (none)) else (none)) else (none)) = some (r1, r2) := H
   have A7 := Aside0.mk A70; clear A70; by_cases c8 : 0 ≤ a1
   ·rw [if_pos c8] at H; have c8b0 : decide (0 ≤ a1) = true := decide_eq_true c8
    clear c8; by_cases c9 : a1 < (t106.length : Int)
    ·rw [if_pos c9] at H; have c9b0 : decide (a1 < (t106.length : Int)) = true := decide_eq_true c9
     clear c9; by_cases c10 : a1 < (l0.length : Int)
     ·rw [if_pos c10] at H; have c10b0 : decide (a1 < (l0.length : Int)) = true := decide_eq_true c10
      clear c10; replace H := Option.bind_eq_some_iff.mp H; obtain ⟨t111, A110, H⟩ := H; replace H : ((graph_list.f k t111).bind fun t114 => (some (t114, 0))) = some (r1, r2) := H
      have A11 := Aside0.mk A110; clear A110; replace H := Option.bind_eq_some_iff.mp H; obtain ⟨t114, A120, H⟩ := H; replace H : (some (t114, 0)) = some (r1, r2) := H; have A12 := Aside0.mk A120; clear A120; simp only [Option.some.injEq, Prod.mk.injEq] at H
      obtain ⟨rfl, rfl⟩ := H; go_enter Try.func23, Try.ntmps23
      go_wp2_with (first | ((with_reducible refine gate_store (t := 3) (p := 6) rfl ?_); refine box_op rfl rfl rfl rfl ?_; intro Wb_ hbb_ hbx_; have nb_ := Aside0.mk (below_step (by repeat (first | (with_reducible first | exact HB.out | apply below_alloc | apply pw_below_drewN | apply below_drew1) | exact HB.out)) hbb_); clear HB; have HB := nb_; have HBX_ := Aside0.mk hbx_; have hw110_ := (hbb_.cell (World.block_lt_of_cell? _ _ hx110_0)).trans hx110_0; have t_ := Aside0.mk (Kd.R_below HO104.out hbb_); clear HO104; have HO104 := t_; clear t_; have t_ := Aside0.mk (Kd.R_below HO108.out hbb_); clear HO108; have HO108 := t_; clear t_; clear hbb_ hbx_ nb_) | ((with_reducible refine gate_callee (f := 47) rfl ?_); refine goesL_ (some 8) rfl rfl Try.func47 (by kernel_rfl) rfl #[.slice A0 l0.length c0] rfl (by (try simp only [List.map_toArray, List.map_cons, List.map_nil]); first | done | rfl | (simp only [List.length_drop, List.length_take]; rfl)) ?_; (with_reducible refine (graph_valid.calls k _ _ l0 true _ ?side1 ?side2 A3.out).mono ?_); (case side1 => repeat (first | exact HR0.out | with_reducible first | refine Kd.C_alloc ?_ _ | refine Kd.C_drewN ?_ _ | refine Kd.C_drew ?_)); (case side2 => exact HC0.out); rintro e w' ⟨rfl, ⟨nd, rfl⟩⟩; refine ⟨_, rfl, ?_⟩) | ((with_reducible refine gate_dst (N := 12) rfl ?_); refine Kd.R_lit (Kd.int .i64) _ 3 ?hg (N := 12) ?hd (xs := ([a1] : List Int)) (inner := [.int .i64 a1]) (ok := fun _ => True) (okp := fun _ => True) ?hr ?hp (fun _ hk => hk) trivial (Below.refl _ _) (Nat.le_refl _) (by simp) ?_; (case hd => rfl); (case hg => rfl); (case hr => first | (go_simp; done) | (go_simp; rfl)); (case hp => exact (Reps.one (show Kd.M (Kd.int .i64) _ _ _ a1 [.int .i64 a1] from rfl) (Reps.none _ _))); intro v103 w13 ho14 hb hg_ hnew_; clear hg_ hnew_; (first | rw [← Ny102.out] at ho14 | (simp only [Int.reduceToNat] at ho14; rw [← Ny102.out] at ho14)); have n0_ := Aside0.mk (Kd.R_lower ho14 (below_size (by repeat (first | (with_reducible first | exact HB.out | apply below_alloc | apply pw_below_drewN | apply below_drew1) | exact HB.out)))); have n1_ := Aside0.mk (below_step (by repeat (first | (with_reducible first | exact HB.out | apply below_alloc | apply pw_below_drewN | apply below_drew1) | exact HB.out)) hb); clear HB; have HO104 := n0_; have HB := n1_; clear n0_ n1_; clear hb ho14; obtain ⟨Ao15, co15, eo15⟩ := Kd.R_slice HO104.out; subst eo15) | ((with_reducible refine gate_callee (f := 60) rfl ?_); refine goesL_ (some 13) rfl rfl Try.func60 (by kernel_rfl) rfl #[.slice A0 l0.length c0, .slice Ao15 y102.length co15] rfl (by (try simp only [List.map_toArray, List.map_cons, List.map_nil]); first | done | rfl | (simp only [List.length_drop, List.length_take]; rfl)) ?_; (with_reducible refine (graph_within.calls k _ _ l0 _ _ y102 true _ ?side1 ?side2 ?side3 ?side4 A5.out).mono ?_); (case side1 => repeat (first | exact (Kd.C_below HR0.out HB.out) | with_reducible first | refine Kd.C_alloc ?_ _ | refine Kd.C_drewN ?_ _ | refine Kd.C_drew ?_)); (case side2 => exact HC0.out); (case side3 => repeat (first | exact (Kd.R_reads' HO104.out).2.2 | with_reducible first | refine Kd.C_alloc ?_ _ | refine Kd.C_drewN ?_ _ | refine Kd.C_drew ?_)); (case side4 => exact (Kd.R_reads' HO104.out).2.1); rintro e w' ⟨rfl, ⟨nd, rfl⟩⟩; refine ⟨_, rfl, ?_⟩) | ((with_reducible refine gate_callee (f := 61) rfl ?_); refine goesL_ (some 16) rfl rfl Try.func61 (by kernel_rfl) rfl #[.slice A0 l0.length c0] rfl (by (try simp only [List.map_toArray, List.map_cons, List.map_nil]); first | done | rfl | (simp only [List.length_drop, List.length_take]; rfl)) ?_; (with_reducible refine (graph_posts.calls k _ _ l0 t106 _ ?side1 ?side2 A7.out).mono ?_); (case side1 => repeat (first | exact (Kd.C_below HR0.out (by repeat (first | (with_reducible first | exact HB.out | apply below_alloc | apply pw_below_drewN | apply below_drew1) | exact HB.out))) | with_reducible first | refine Kd.C_alloc ?_ _ | refine Kd.C_drewN ?_ _ | refine Kd.C_drew ?_)); (case side2 => exact HC0.out); rintro e w16 ⟨v107, rfl, ho0, hb⟩; refine ⟨_, rfl, ?_⟩; have n0_ := Aside0.mk (Kd.R_elder' (by (with_reducible repeat (first | apply Kd.R_alloc | apply Kd.R_drewN | apply Kd.R_drew)); exact HO104.out) (Kd.R_base ho0) hb); have n1_ := Aside0.mk (Kd.R_lower (Kd.R_new' ho0 (Kd.R_lt (by (with_reducible repeat (first | apply Kd.R_alloc | apply Kd.R_drewN | apply Kd.R_drew)); exact HO104.out))) (below_size (by repeat (first | (with_reducible first | exact HB.out | apply below_alloc | apply pw_below_drewN | apply below_drew1) | exact HB.out)))); have n2_ := Aside0.mk (below_step (by repeat (first | (with_reducible first | exact HB.out | apply below_alloc | apply pw_below_drewN | apply below_drew1) | exact HB.out)) hb); clear HO104; clear HB; have HO104 := n0_; have HO108 := n1_; have HB := n2_; clear n0_ n1_ n2_; (try clear hb); (try clear hb2); (try clear hk); (try clear hi); (try clear ho0); obtain ⟨Ao17, co17, eo17⟩ := Kd.R_slice HO108.out; subst eo17; have p109 : 0 ≤ (a1 : Int) := of_decide_eq_true (by with_reducible assumption); have q109 : a1 < (t106.length : Int) := of_decide_eq_true (by with_reducible assumption); obtain ⟨ad109, e109, hx109_0⟩ := Kd.at_int (Kd.R_reads' HO108.out).2.2 a1 p109 q109; cases e109; replace p109 := eq_true p109; replace q109 := eq_true q109; have p110 : 0 ≤ (a1 : Int) := of_decide_eq_true (by with_reducible assumption); have q110 : a1 < (l0.length : Int) := of_decide_eq_true (by with_reducible assumption); obtain ⟨ad110, A110_0, c110_0, e110, hx110_0, hl110_0, hi110_0⟩ := at_L1 HR0.out a1 p110 q110; cases e110; replace hx110_0 := (HB.out.cell (World.block_lt_of_cell? w _ hx110_0)).trans hx110_0; have HR110_0 := Aside0.mk hi110_0; have HC110_0 := Aside0.mk hl110_0; clear hi110_0 hl110_0; replace p110 := eq_true p110; replace q110 := eq_true q110) | ((go_at_call 49); (with_reducible refine (graph_fromReg.calls k _ _ l0 _ _ (rd_L1 l0 a1) (rd t106 a1) t111 _ ?side1 ?side2 ?side3 ?side4 A11.out HBX_.out).mono ?_); (case side1 => repeat (first | exact (Kd.C_below HR0.out HB.out) | with_reducible first | refine Kd.C_alloc ?_ _ | refine Kd.C_drewN ?_ _ | refine Kd.C_drew ?_)); (case side2 => exact HC0.out); (case side3 => repeat (first | exact (Kd.C_below HR110_0.out HB.out) | with_reducible first | refine Kd.C_alloc ?_ _ | refine Kd.C_drewN ?_ _ | refine Kd.C_drew ?_)); (case side4 => exact HC110_0.out); rintro e w18 ⟨v112, rfl, ho0, hb⟩; have n0_ := Aside0.mk (Kd.R_below (by (with_reducible repeat (first | apply Kd.R_alloc | apply Kd.R_drewN | apply Kd.R_drew)); exact HO104.out) hb); have n1_ := Aside0.mk (Kd.R_below (by (with_reducible repeat (first | apply Kd.R_alloc | apply Kd.R_drewN | apply Kd.R_drew)); exact HO108.out) hb); have n2_ := Aside0.mk (Kd.R_lower ho0 (below_size (by repeat (first | (with_reducible first | exact HB.out | apply below_alloc | apply pw_below_drewN | apply below_drew1) | exact HB.out)))); have n3_ := Aside0.mk (below_step (by repeat (first | (with_reducible first | exact HB.out | apply below_alloc | apply pw_below_drewN | apply below_drew1) | exact HB.out)) hb); clear HO104; clear HO108; clear HB; have HO104 := n0_; have HO108 := n1_; have HO113 := n2_; have HB := n3_; clear n0_ n1_ n2_ n3_; (try clear hb); (try clear hb2); (try clear hk); (try clear hi); (try clear ho0); obtain ⟨Ao19, co19, eo19⟩ := Kd.R_slice HO113.out; subst eo19) | ((with_reducible refine gate_callee (f := 54) rfl ?_); refine goesL_ (some 27) rfl rfl Try.func54 (by kernel_rfl) rfl #[.slice Ao19 t111.length co19] rfl (by (try simp only [List.map_toArray, List.map_cons, List.map_nil]); first | done | rfl | (simp only [List.length_drop, List.length_take]; rfl)) ?_; (with_reducible refine (graph_list.calls k _ _ t111 t114 _ ?side1 ?side2 A12.out).mono ?_); (case side1 => repeat (first | exact (Kd.R_reads' HO113.out).2.2 | with_reducible first | refine Kd.C_alloc ?_ _ | refine Kd.C_drewN ?_ _ | refine Kd.C_drew ?_)); (case side2 => exact (Kd.R_reads' HO113.out).2.1); rintro e w20 ⟨v115, rfl, ho0, hb⟩; refine ⟨_, rfl, ?_⟩; have n0_ := Aside0.mk (Kd.R_elder' (by (with_reducible repeat (first | apply Kd.R_alloc | apply Kd.R_drewN | apply Kd.R_drew)); exact HO104.out) (Kd.R_base ho0) hb); have n1_ := Aside0.mk (Kd.R_elder' (by (with_reducible repeat (first | apply Kd.R_alloc | apply Kd.R_drewN | apply Kd.R_drew)); exact HO108.out) (Kd.R_base ho0) hb); have n2_ := Aside0.mk (Kd.R_below (by (with_reducible repeat (first | apply Kd.R_alloc | apply Kd.R_drewN | apply Kd.R_drew)); exact HO113.out) hb); have n3_ := Aside0.mk (Kd.R_lower (Kd.R_new' (Kd.R_new' ho0 (Kd.R_lt (by (with_reducible repeat (first | apply Kd.R_alloc | apply Kd.R_drewN | apply Kd.R_drew)); exact HO104.out))) (Kd.R_lt (by (with_reducible repeat (first | apply Kd.R_alloc | apply Kd.R_drewN | apply Kd.R_drew)); exact HO108.out))) (below_size (by repeat (first | (with_reducible first | exact HB.out | apply below_alloc | apply pw_below_drewN | apply below_drew1) | exact HB.out)))); have n4_ := Aside0.mk (below_step (by repeat (first | (with_reducible first | exact HB.out | apply below_alloc | apply pw_below_drewN | apply below_drew1) | exact HB.out)) hb); clear HO104; clear HO108; clear HO113; clear HB; have HO104 := n0_; have HO108 := n1_; have HO113 := n2_; have HO116 := n3_; have HB := n4_; clear n0_ n1_ n2_ n3_ n4_; (try clear hb); (try clear hb2); (try clear hk); (try clear hi); (try clear ho0)))
      go_ret2
      exact ⟨_, by first | rfl | (simp [errW_none, errW_some] <;> rfl) | (simp [*, errW_none, errW_some] <;> rfl), by (with_reducible repeat (first | apply Kd.R_alloc | apply Kd.R_drewN | apply Kd.R_drew)); exact Kd.R_mono HO116.out (fun _ hk => trivial), by repeat (first | (with_reducible first | exact HB.out | apply below_alloc | apply pw_below_drewN | apply below_drew1) | exact HB.out)⟩
     ·rw [if_neg c10] at H; exact absurd H (by simp)
    ·rw [if_neg c9] at H; exact absurd H (by simp)
   ·rw [if_neg c8] at H; exact absurd H (by simp)
  ·replace c6 := Bool.eq_false_iff.mpr c6; subst c6; have H1 : (some (([] : List Int), 6)) = some (r1, r2) := by rw [if_neg (show ¬ (false = true) by decide)] at H; exact H
   clear H; have H := H1; clear H1; simp only [Option.some.injEq, Prod.mk.injEq] at H
   obtain ⟨rfl, rfl⟩ := H; go_enter Try.func23, Try.ntmps23
   go_wp2_with (first | ((with_reducible refine gate_callee (f := 47) rfl ?_); refine goesL_ (some 8) rfl rfl Try.func47 (by kernel_rfl) rfl #[.slice A0 l0.length c0] rfl (by (try simp only [List.map_toArray, List.map_cons, List.map_nil]); first | done | rfl | (simp only [List.length_drop, List.length_take]; rfl)) ?_; (with_reducible refine (graph_valid.calls k _ _ l0 true _ ?side1 ?side2 A3.out).mono ?_); (case side1 => repeat (first | exact HR0.out | with_reducible first | refine Kd.C_alloc ?_ _ | refine Kd.C_drewN ?_ _ | refine Kd.C_drew ?_)); (case side2 => exact HC0.out); rintro e w' ⟨rfl, ⟨nd, rfl⟩⟩; refine ⟨_, rfl, ?_⟩) | ((with_reducible refine gate_dst (N := 12) rfl ?_); refine Kd.R_lit (Kd.int .i64) _ 3 ?hg (N := 12) ?hd (xs := ([a1] : List Int)) (inner := [.int .i64 a1]) (ok := fun _ => True) (okp := fun _ => True) ?hr ?hp (fun _ hk => hk) trivial (Below.refl _ _) (Nat.le_refl _) (by simp) ?_; (case hd => rfl); (case hg => rfl); (case hr => first | (go_simp; done) | (go_simp; rfl)); (case hp => exact (Reps.one (show Kd.M (Kd.int .i64) _ _ _ a1 [.int .i64 a1] from rfl) (Reps.none _ _))); intro v103 w21 ho22 hb hg_ hnew_; clear hg_ hnew_; (first | rw [← Ny102.out] at ho22 | (simp only [Int.reduceToNat] at ho22; rw [← Ny102.out] at ho22)); have n0_ := Aside0.mk (Kd.R_lower ho22 (below_size (by repeat (first | (with_reducible first | exact HB.out | apply below_alloc | apply pw_below_drewN | apply below_drew1) | exact HB.out)))); have n1_ := Aside0.mk (below_step (by repeat (first | (with_reducible first | exact HB.out | apply below_alloc | apply pw_below_drewN | apply below_drew1) | exact HB.out)) hb); clear HB; have HO104 := n0_; have HB := n1_; clear n0_ n1_; clear hb ho22; obtain ⟨Ao23, co23, eo23⟩ := Kd.R_slice HO104.out; subst eo23) | ((with_reducible refine gate_callee (f := 60) rfl ?_); refine goesL_ (some 13) rfl rfl Try.func60 (by kernel_rfl) rfl #[.slice A0 l0.length c0, .slice Ao23 y102.length co23] rfl (by (try simp only [List.map_toArray, List.map_cons, List.map_nil]); first | done | rfl | (simp only [List.length_drop, List.length_take]; rfl)) ?_; (with_reducible refine (graph_within.calls k _ _ l0 _ _ y102 false _ ?side1 ?side2 ?side3 ?side4 A5.out).mono ?_); (case side1 => repeat (first | exact (Kd.C_below HR0.out HB.out) | with_reducible first | refine Kd.C_alloc ?_ _ | refine Kd.C_drewN ?_ _ | refine Kd.C_drew ?_)); (case side2 => exact HC0.out); (case side3 => repeat (first | exact (Kd.R_reads' HO104.out).2.2 | with_reducible first | refine Kd.C_alloc ?_ _ | refine Kd.C_drewN ?_ _ | refine Kd.C_drew ?_)); (case side4 => exact (Kd.R_reads' HO104.out).2.1); rintro e w' ⟨rfl, ⟨nd, rfl⟩⟩; refine ⟨_, rfl, ?_⟩))
   go_ret2
   exact ⟨_, by first | rfl | (simp [errW_none, errW_some] <;> rfl) | (simp [*, errW_none, errW_some] <;> rfl), by first | exact Kd.R_nil _ _ _ _ _ | exact Kd.N_nil _ _ _ _ _ | exact Kd.V_nil _ _ _ _ _ | exact Kd.Q_nil _ _ _ _ _ | exact Kd.S_nil _ _ _ _ _, by repeat (first | (with_reducible first | exact HB.out | apply below_alloc | apply pw_below_drewN | apply below_drew1) | exact HB.out)⟩
 ·replace c4 := Bool.eq_false_iff.mpr c4; subst c4; have H1 : (some (([] : List Int), 1)) = some (r1, r2) := by rw [if_neg (show ¬ (false = true) by decide)] at H; exact H
  clear H; have H := H1; clear H1; simp only [Option.some.injEq, Prod.mk.injEq] at H
  obtain ⟨rfl, rfl⟩ := H; go_enter Try.func23, Try.ntmps23
  go_wp2_with (first | ((with_reducible refine gate_callee (f := 47) rfl ?_); refine goesL_ (some 8) rfl rfl Try.func47 (by kernel_rfl) rfl #[.slice A0 l0.length c0] rfl (by (try simp only [List.map_toArray, List.map_cons, List.map_nil]); first | done | rfl | (simp only [List.length_drop, List.length_take]; rfl)) ?_; (with_reducible refine (graph_valid.calls k _ _ l0 false _ ?side1 ?side2 A3.out).mono ?_); (case side1 => repeat (first | exact HR0.out | with_reducible first | refine Kd.C_alloc ?_ _ | refine Kd.C_drewN ?_ _ | refine Kd.C_drew ?_)); (case side2 => exact HC0.out); rintro e w' ⟨rfl, ⟨nd, rfl⟩⟩; refine ⟨_, rfl, ?_⟩))
  go_ret2
  exact ⟨_, by first | rfl | (simp [errW_none, errW_some] <;> rfl) | (simp [*, errW_none, errW_some] <;> rfl), by first | exact Kd.R_nil _ _ _ _ _ | exact Kd.N_nil _ _ _ _ _ | exact Kd.V_nil _ _ _ _ _ | exact Kd.Q_nil _ _ _ _ _ | exact Kd.S_nil _ _ _ _ _, by repeat (first | (with_reducible first | exact HB.out | apply below_alloc | apply pw_below_drewN | apply below_drew1) | exact HB.out)⟩
end Go.Proofs.Ytjjedbcgkljdeaa.D
end
section
namespace Go.Proofs.Ytjjedbcgkljdeaa.A
open Go.RowKit Go.Proofs.YtjjedbcgkljdeaaW.PrintWords Go.Proofs.YtjjedbcgkljdeaaW.PrintLast Go.Proofs.YtjjedbcgkljdeaaW.PrintMore
set_option linter.unusedVariables false
set_option linter.unusedSimpArgs false
mutual
def r7_From.l0 : Nat → List (List Int) → List Int → Int → List Bool → List Int → Int → Option (List Bool)
 | 0, _, _, _, _, _, _ => none
 | k + 1, x0, x1, x2, x7, x8, x9 => if x9 < (x1.length : Int) then (if 0 ≤ x9 then (if (rd x1 x9) = x2 then (r7_From.l0 k x0 x1 x2 x7 x8 (wrap64 (x9 + 1))) else (if 0 ≤ (rd x1 x9) then (if (rd x1 x9) < (x7.length : Int) then (if (rdOf false x7 (rd x1 x9) = true) then (r7_From.l0 k x0 x1 x2 x7 x8 (wrap64 (x9 + 1))) else (if x8.length < 17592186044416 then (r7_From.l0 k x0 x1 x2 (x7.set ((rd x1 x9) : Int).toNat true) (x8 ++ [rd x1 x9]) (wrap64 (x9 + 1))) else (none))) else (none)) else (none))) else (none)) else (r7_From.l1 k x0 x2 x7 x8)
def r7_From.l1 : Nat → List (List Int) → Int → List Bool → List Int → Option (List Bool)
 | 0, _, _, _, _ => none
 | k + 1, x0, x2, x7, x8 => if (x8.length : Int) > 0 then (if 0 ≤ (wrap64 ((x8.length : Int) - 1)) then (if (wrap64 ((x8.length : Int) - 1)) < (x8.length : Int) then (if (wrap64 ((x8.length : Int) - 1)) ≤ (x8.length : Int) then (r7_From.l2 k x0 x2 x7 (x8.take ((wrap64 ((x8.length : Int) - 1)) : Int).toNat) (rd x8 (wrap64 ((x8.length : Int) - 1))) 0) else (none)) else (none)) else (none)) else (some x7)
def r7_From.l2 : Nat → List (List Int) → Int → List Bool → List Int → Int → Int → Option (List Bool)
 | 0, _, _, _, _, _, _ => none
 | k + 1, x0, x2, x7, x8, x10, x11 => if 0 ≤ x10 then (if x10 < (x0.length : Int) then (if x11 < ((rd_L1 x0 x10).length : Int) then (if 0 ≤ x11 then (if (rd (rd_L1 x0 x10) x11) = x2 then (r7_From.l2 k x0 x2 x7 x8 x10 (wrap64 (x11 + 1))) else (if 0 ≤ (rd (rd_L1 x0 x10) x11) then (if (rd (rd_L1 x0 x10) x11) < (x7.length : Int) then (if (rdOf false x7 (rd (rd_L1 x0 x10) x11) = true) then (r7_From.l2 k x0 x2 x7 x8 x10 (wrap64 (x11 + 1))) else (if x8.length < 17592186044416 then (r7_From.l2 k x0 x2 (x7.set ((rd (rd_L1 x0 x10) x11) : Int).toNat true) (x8 ++ [rd (rd_L1 x0 x10) x11]) x10 (wrap64 (x11 + 1))) else (none))) else (none)) else (none))) else (none)) else (r7_From.l1 k x0 x2 x7 x8)) else (none)) else (none)
end
def r7_From.f (k : Nat) (l0 : List (List Int)) (l1 : List Int) (a2 : Int) : Option (List Bool) := if 0 ≤ (l0.length : Int) then (if ((l0.length : Int) : Int).toNat ≤ 281474976710656 then (r7_From.l0 k l0 l1 a2 (List.replicate ((l0.length : Int) : Int).toNat false) ([] : List Int) 0) else (none)) else (none)
set_option maxHeartbeats 8000000 in
set_option maxRecDepth 100000 in
theorem r7_From.calls (k : Nat) (A0 : Option Addr) (c0 : Nat) (l0 : List (List Int)) (A1 : Option Addr) (c1 : Nat) (l1 : List Int) (a2 : Int) (r : List Bool) (w : World) (hr0 : Kd.C (Kd.slice 3 (Kd.int .i64)) w A0 l0.length l0) (hc0 : l0.length ≤ c0) (hr1 : Kd.C (Kd.int .i64) w A1 l1.length l1) (hc1 : l1.length ≤ c1) (h : r7_From.f k l0 l1 a2 = some r) :
  Calls Try.prog 36 #[.slice A0 l0.length c0, .slice A1 l1.length c1, .int .i64 a2] w fun e w' => ∃ v0_ : Value, e = .returned (v0_) ∧ Kd.R Kd.bool 4 w' w.heap.size (fun _ => True) v0_ r ∧ Below w.heap.size w w' := by
 have HR0 := Aside0.mk hr0; have HC0 := Aside0.mk hc0; clear hr0 hc0; have HR1 := Aside0.mk hr1; have HC1 := Aside0.mk hc1; clear hr1 hc1; have HB := Aside0.mk (Below.refl w.heap.size w); have H : (if 0 ≤ (l0.length : Int) then (if ((l0.length : Int) : Int).toNat ≤ 281474976710656 then (r7_From.l0 k l0 l1 a2 (List.replicate ((l0.length : Int) : Int).toNat false) ([] : List Int) 0) else (none)) else (none)) = some r := h
 clear h; by_cases c4 : 0 ≤ (l0.length : Int)
 ·rw [if_pos c4] at H; have c4b0 := eq_true c4; have c4b1 : decide (0 ≤ (l0.length : Int)) = true := decide_eq_true c4
  clear c4; by_cases c5 : ((l0.length : Int) : Int).toNat ≤ 281474976710656
  ·rw [if_pos c5] at H; have c5b0 := eq_true c5; have c5b1 : decide (((l0.length : Int) : Int).toNat ≤ 281474976710656) = true := decide_eq_true c5
   clear c5; obtain ⟨y137, hy137⟩ : ∃ y_ : List Bool, y_ = (List.replicate ((l0.length : Int) : Int).toNat false) := ⟨_, rfl⟩; replace H : (r7_From.l0 k l0 l1 a2 y137 ([] : List Int) 0) = some r := by first | (with_reducible first | (rw [hy137]; exact H) | exact H) | (have H2_ := (Option.bind_some _ _).symm.trans H; first | with_reducible exact H2_ | (rw [hy137]; exact H2_)) | (rw [hy137]; exact H) | exact H
   have Ny137 := Aside0.mk hy137; clear hy137; have H' := Aside0.mk H
   clear H; go_enter Try.func36, Try.ntmps36
   go_wp2_with (first | ((with_reducible refine gate_dst (N := 15) rfl ?_); refine Kd.R_make Kd.bool _ 4 rfl (N := 15) rfl 46 _ _ rfl (l0.length : Int) rfl rfl Try.underlying46 (.bool false) 1 info4 rfl (by decide) (by omega) false (ok := fun _ => True) (okp := fun _ => True) rfl (fun _ hk => hk) trivial (of_decide_eq_true (by with_reducible assumption)) (Nat.le_trans (Nat.mul_le_mul_right _ (of_decide_eq_true (by with_reducible assumption) : (l0.length : Int).toNat ≤ 281474976710656)) (by omega)) (Below.refl _ _) (Nat.le_refl _) ?_; intro v138 w6 ho7 hb hg_ hnew_; clear hg_ hnew_; (first | rw [← Ny137.out] at ho7 | (simp only [Int.reduceToNat] at ho7; rw [← Ny137.out] at ho7)); have n0_ := Aside0.mk (Kd.R_lower ho7 (below_size (by repeat (first | (with_reducible first | exact HB.out | apply below_alloc | apply pw_below_drewN | apply below_drew1) | exact HB.out)))); have n1_ := Aside0.mk (below_step (by repeat (first | (with_reducible first | exact HB.out | apply below_alloc | apply pw_below_drewN | apply below_drew1) | exact HB.out)) hb); clear HB; have HO139 := n0_; have HB := n1_; clear n0_ n1_; clear hb ho7))
   go_loopg [8, 9] k (fun kq v8 v9 w' => ∃ (x7_1 : List Bool) (x8_1 : List Int) (x9_1 : Int), v9 = .int .i64 x9_1 ∧ Aside0 (r7_From.l0 kq l0 l1 a2 x7_1 x8_1 x9_1 = some r) ∧ Aside0 (kq ≤ k) ∧ Aside0 (Kd.R Kd.bool 4 w' w.heap.size (fun _ => True) v138 x7_1) ∧ Aside0 (Kd.R (Kd.int .i64) 3 w' w.heap.size (fun _ => True) v8 x8_1) ∧ Aside0 (Below w.heap.size w w'))
   case atStart => exact ⟨(y137), (([] : List Int)), (0), (by first | rfl | (simp; done) | (simp [*]; done)), H', ⟨Nat.le_refl _⟩, ⟨by (with_reducible repeat (first | apply Kd.R_alloc | apply Kd.R_drewN | apply Kd.R_drew)); exact HO139.out⟩, ⟨by first | exact Kd.R_nil _ _ _ _ _ | exact Kd.N_nil _ _ _ _ _ | exact Kd.V_nil _ _ _ _ _ | exact Kd.Q_nil _ _ _ _ _ | exact Kd.S_nil _ _ _ _ _⟩, ⟨by repeat (first | (with_reducible first | exact HB.out | apply below_alloc | apply pw_below_drewN | apply below_drew1) | exact HB.out)⟩⟩
   case round =>
    clear H'; try clear c1
    try clear p2
    try clear c3
    try clear c4
    try clear c4b0
    try clear c4b1
    try clear c5
    try clear c5b0
    try clear c5b1
    obtain ⟨x7_1, x8_1, x9_1, rfl, HA, HK1, HO_7, HO_8, HB⟩ := hrel; cases gk with
    | zero => exact absurd HA.out (by simp [r7_From.l0])
    | succ k1 =>
     have H := HA.out; clear HA; simp only [r7_From.l0] at H
     by_cases c8 : x9_1 < (l1.length : Int)
     ·rw [if_pos c8] at H; have c8b0 : decide (x9_1 < (l1.length : Int)) = true := decide_eq_true c8
      clear c8; by_cases c9 : 0 ≤ x9_1
      ·rw [if_pos c9] at H; have c9b0 : decide (0 ≤ x9_1) = true := decide_eq_true c9
       clear c9; by_cases c10 : (rd l1 x9_1) = a2
       ·rw [if_pos c10] at H; have c10b0 : ((rd l1 x9_1) == a2) = true := beq_iff_eq.mpr c10
        have c10b1 : ((rd l1 x9_1) != a2) = false := bne_eq_false_iff_eq.mpr c10
        clear c10; have H' := Aside0.mk H
        clear H; have p140 : 0 ≤ (x9_1 : Int) := of_decide_eq_true (by with_reducible assumption)
        have q140 : x9_1 < (l1.length : Int) := of_decide_eq_true (by with_reducible assumption)
        obtain ⟨ad140, e140, hx140_0⟩ := Kd.at_int HR1.out x9_1 p140 q140; cases e140; replace hx140_0 := (HB.out.cell (World.block_lt_of_cell? w _ hx140_0)).trans hx140_0; replace p140 := eq_true p140; replace q140 := eq_true q140; go_wp2
        go_roundg k1
        case measure => have := HK1.out; omega
        case rel => exact ⟨(x7_1), (x8_1), (wrap64 (x9_1 + 1)), (by first | rfl | (simp; done) | (simp [*]; done)), H', ⟨by have := HK1.out; omega⟩, ⟨by (with_reducible repeat (first | apply Kd.R_alloc | apply Kd.R_drewN | apply Kd.R_drew)); exact HO_7.out⟩, ⟨by (with_reducible repeat (first | apply Kd.R_alloc | apply Kd.R_drewN | apply Kd.R_drew)); exact HO_8.out⟩, ⟨by repeat (first | (with_reducible first | exact HB.out | apply below_alloc | apply pw_below_drewN | apply below_drew1) | exact HB.out)⟩⟩
       ·rw [if_neg c10] at H; have c10b0 : ((rd l1 x9_1) == a2) = false := beq_eq_false_iff_ne.mpr c10
        have c10b1 : ((rd l1 x9_1) != a2) = true := bne_iff_ne.mpr c10
        by_cases c11 : 0 ≤ (rd l1 x9_1)
        ·rw [if_pos c11] at H; have c11b0 : decide (0 ≤ (rd l1 x9_1)) = true := decide_eq_true c11
         clear c11; by_cases c12 : (rd l1 x9_1) < (x7_1.length : Int)
         ·rw [if_pos c12] at H; have c12b0 : decide ((rd l1 x9_1) < (x7_1.length : Int)) = true := decide_eq_true c12
          clear c12; obtain ⟨bq13, hbq13⟩ : ∃ b_ : Bool, b_ = (rdOf false x7_1 (rd l1 x9_1)) := ⟨_, rfl⟩; replace H : (if (bq13 = true) then (r7_From.l0 k1 l0 l1 a2 x7_1 x8_1 (wrap64 (x9_1 + 1))) else (if x8_1.length < 17592186044416 then (r7_From.l0 k1 l0 l1 a2 (x7_1.set ((rd l1 x9_1) : Int).toNat true) (x8_1 ++ [rd l1 x9_1]) (wrap64 (x9_1 + 1))) else (none))) = some r := by rw [← hbq13] at H; exact H
          have Nbq13 := Aside0.mk hbq13; clear hbq13; by_cases c14 : (bq13 = true)
          ·subst c14; have H1 : (r7_From.l0 k1 l0 l1 a2 x7_1 x8_1 (wrap64 (x9_1 + 1))) = some r := by rw [if_pos rfl] at H; exact H
           clear H; have H := H1; clear H1; have H' := Aside0.mk H
           clear H; have p140 : 0 ≤ (x9_1 : Int) := of_decide_eq_true (by with_reducible assumption)
           have q140 : x9_1 < (l1.length : Int) := of_decide_eq_true (by with_reducible assumption)
           obtain ⟨ad140, e140, hx140_0⟩ := Kd.at_int HR1.out x9_1 p140 q140; cases e140; replace hx140_0 := (HB.out.cell (World.block_lt_of_cell? w _ hx140_0)).trans hx140_0; replace p140 := eq_true p140; replace q140 := eq_true q140; have p141 : 0 ≤ (x9_1 : Int) := of_decide_eq_true (by with_reducible assumption)
           have q141 : x9_1 < (l1.length : Int) := of_decide_eq_true (by with_reducible assumption)
           obtain ⟨ad141, e141, hx141_0⟩ := Kd.at_int HR1.out x9_1 p141 q141; obtain rfl : ad140 = ad141 := (by injection e141)
           replace hx141_0 := (HB.out.cell (World.block_lt_of_cell? w _ hx141_0)).trans hx141_0; replace p141 := eq_true p141; replace q141 := eq_true q141; obtain ⟨Ao15, co15, eo15⟩ := Kd.R_slice HO_7.out; subst eo15; have p142 : 0 ≤ ((rd l1 x9_1) : Int) := of_decide_eq_true (by with_reducible assumption)
           have q142 : (rd l1 x9_1) < (x7_1.length : Int) := of_decide_eq_true (by with_reducible assumption)
           obtain ⟨ad142, e142, hx142_0⟩ := Kd.at_bool (Kd.R_reads' HO_7.out).2.2 (rd l1 x9_1) p142 q142; (try rw [← Nbq13.out] at hx142_0)
           cases e142; replace p142 := eq_true p142; replace q142 := eq_true q142; go_wp2
           go_roundg k1
           case measure => have := HK1.out; omega
           case rel => exact ⟨(x7_1), (x8_1), (wrap64 (x9_1 + 1)), (by first | rfl | (simp; done) | (simp [*]; done)), H', ⟨by have := HK1.out; omega⟩, ⟨by (with_reducible repeat (first | apply Kd.R_alloc | apply Kd.R_drewN | apply Kd.R_drew)); exact HO_7.out⟩, ⟨by (with_reducible repeat (first | apply Kd.R_alloc | apply Kd.R_drewN | apply Kd.R_drew)); exact HO_8.out⟩, ⟨by repeat (first | (with_reducible first | exact HB.out | apply below_alloc | apply pw_below_drewN | apply below_drew1) | exact HB.out)⟩⟩
          ·replace c14 := Bool.eq_false_iff.mpr c14; subst c14; have H1 : (if x8_1.length < 17592186044416 then (r7_From.l0 k1 l0 l1 a2 (x7_1.set ((rd l1 x9_1) : Int).toNat true) (x8_1 ++ [rd l1 x9_1]) (wrap64 (x9_1 + 1))) else (none)) = some r := by rw [if_neg (show ¬ (false = true) by decide)] at H; exact H
           clear H; have H := H1; clear H1; obtain ⟨y144, hy144⟩ : ∃ y_ : List Bool, y_ = (x7_1.set ((rd l1 x9_1) : Int).toNat true) := ⟨_, rfl⟩; replace H : (if x8_1.length < 17592186044416 then (r7_From.l0 k1 l0 l1 a2 y144 (x8_1 ++ [rd l1 x9_1]) (wrap64 (x9_1 + 1))) else (none)) = some r := by first | (with_reducible first | (rw [hy144]; exact H) | exact H) | (have H2_ := (Option.bind_some _ _).symm.trans H; first | with_reducible exact H2_ | (rw [hy144]; exact H2_)) | (rw [hy144]; exact H) | exact H
           have Ny144 := Aside0.mk hy144; clear hy144; by_cases c17 : x8_1.length < 17592186044416
           ·rw [if_pos c17] at H; have LMc17 := Aside0.mk c17; clear c17; obtain ⟨y146, hy146⟩ : ∃ y_ : List Int, y_ = (x8_1 ++ [rd l1 x9_1]) := ⟨_, rfl⟩; replace H : (r7_From.l0 k1 l0 l1 a2 y144 y146 (wrap64 (x9_1 + 1))) = some r := by first | (with_reducible first | (rw [hy146]; exact H) | exact H) | (have H2_ := (Option.bind_some _ _).symm.trans H; first | with_reducible exact H2_ | (rw [hy146]; exact H2_)) | (rw [hy146]; exact H) | exact H
            have Ny146 := Aside0.mk hy146; clear hy146; have H' := Aside0.mk H
            clear H; have p140 : 0 ≤ (x9_1 : Int) := of_decide_eq_true (by with_reducible assumption)
            have q140 : x9_1 < (l1.length : Int) := of_decide_eq_true (by with_reducible assumption)
            obtain ⟨ad140, e140, hx140_0⟩ := Kd.at_int HR1.out x9_1 p140 q140; cases e140; replace hx140_0 := (HB.out.cell (World.block_lt_of_cell? w _ hx140_0)).trans hx140_0; replace p140 := eq_true p140; replace q140 := eq_true q140; have p141 : 0 ≤ (x9_1 : Int) := of_decide_eq_true (by with_reducible assumption)
            have q141 : x9_1 < (l1.length : Int) := of_decide_eq_true (by with_reducible assumption)
            obtain ⟨ad141, e141, hx141_0⟩ := Kd.at_int HR1.out x9_1 p141 q141; obtain rfl : ad140 = ad141 := (by injection e141)
            replace hx141_0 := (HB.out.cell (World.block_lt_of_cell? w _ hx141_0)).trans hx141_0; replace p141 := eq_true p141; replace q141 := eq_true q141; obtain ⟨Ao18, co18, eo18⟩ := Kd.R_slice HO_7.out; subst eo18; have p142 : 0 ≤ ((rd l1 x9_1) : Int) := of_decide_eq_true (by with_reducible assumption)
            have q142 : (rd l1 x9_1) < (x7_1.length : Int) := of_decide_eq_true (by with_reducible assumption)
            obtain ⟨ad142, e142, hx142_0⟩ := Kd.at_bool (Kd.R_reads' HO_7.out).2.2 (rd l1 x9_1) p142 q142; (try rw [← Nbq13.out] at hx142_0)
            cases e142; replace p142 := eq_true p142; replace q142 := eq_true q142; have p143 : 0 ≤ (x9_1 : Int) := of_decide_eq_true (by with_reducible assumption)
            have q143 : x9_1 < (l1.length : Int) := of_decide_eq_true (by with_reducible assumption)
            obtain ⟨ad143, e143, hx143_0⟩ := Kd.at_int HR1.out x9_1 p143 q143; obtain rfl : ad140 = ad143 := (by injection e143)
            replace hx143_0 := (HB.out.cell (World.block_lt_of_cell? w _ hx143_0)).trans hx143_0; replace p143 := eq_true p143; replace q143 := eq_true q143; have p16 : 0 ≤ ((rd l1 x9_1) : Int) := of_decide_eq_true (by with_reducible assumption)
            have q16 : ((rd l1 x9_1) : Int) < ((x7_1.length : Int) : Int) := of_decide_eq_true (by with_reducible assumption)
            obtain ⟨go16, co16, eo16, gb16, gl16, cl16, HG16⟩ := Kd.R_form HO_7.out (by omega)
            (first | cases eo16 | (injection eo16 with ea_ en_ ec_; (first | subst ea_ | (injection ea_ with ea_; subst ea_)); subst ec_; clear en_))
            have GB16 := Aside0.mk gb16; have GG16 := Aside0.mk HG16; clear gb16 gl16 HG16; (first | simp only [add_plain] at hx142_0 | skip)
            obtain ⟨hx16_0, hf16_0⟩ := Kd.R_celln false HO_7.out ((rd l1 x9_1) : Int) p16 q16; replace p16 := eq_true p16; replace q16 := eq_true q16; have HP19 := Kd.R_putg HO_7.out ((rd l1 x9_1) : Int) true; go_wp2_with (first | ((with_reducible refine gate_store (t := 4) (p := 43) rfl ?_); refine store_event (t := 4) (p := 43) (v := ?vo_w20) (w1 := (wr.setCell ⟨go16, ((rd l1 x9_1) : Int).toNat, none⟩ (.bool true))) ?hg ?ho ?hn ?hr ?_; (case ho => rfl); (case hg => rfl); (case hn => rfl); (case hr => first | (go_simp; done) | (go_simp; rfl)); intro w20 hw; have hg : wr.grownBy w20 (some go16) := (by rw [hw]; exact HP19.2); have hp_ : Kd.R Kd.bool 4 w20 w.heap.size (fun _ => True) (.slice (some ⟨go16, 0, none⟩) x7_1.length co18) y144 := (by rw [hw, Ny144.out]; exact HP19.1); clear HP19; have n0_ := Aside0.mk (hp_); have n1_ := Aside0.mk (Kd.R_over' (v := (.slice (some ⟨go16, 0, none⟩) x7_1.length co18)) (by (with_reducible repeat (first | apply Kd.R_alloc | apply Kd.R_drewN | apply Kd.R_drew)); exact HO_8.out) (Kd.R_typed HO_7.out) (by decide) hg); have n2_ := Aside0.mk ((by rw [hw]; exact below_set (HB.out) GB16.out : Below w.heap.size w w20)); clear HO_7; clear HO_8; clear HB; have HO_7 := n0_; have HO_8 := n1_; have HB := n2_; clear n0_ n1_ n2_; clear hg hw hp_; have p145 : 0 ≤ (x9_1 : Int) := of_decide_eq_true (by with_reducible assumption); have q145 : x9_1 < (l1.length : Int) := of_decide_eq_true (by with_reducible assumption); obtain ⟨ad145, e145, hx145_0⟩ := Kd.at_int HR1.out x9_1 p145 q145; obtain rfl : ad140 = ad145 := (by injection e145); replace hx145_0 := (HB.out.cell (World.block_lt_of_cell? w _ hx145_0)).trans hx145_0; replace p145 := eq_true p145; replace q145 := eq_true q145) | ((with_reducible refine gate_builtin (b := .append) (xs := #[.tmp 44, .tmp 49]) rfl ?_); at_builtin; refine Kd.R_append (Kd.int .i64) (w0 := w) w.heap.size rfl (.tmp 44) (.tmp 49) 33 3 (.int .i64 0) 8 rfl Try.underlying33 info3 rfl (by decide) (by omega) u8 x8_1 (rd l1 x9_1) [.int .i64 (rd l1 x9_1)] (fun _ => True) (fun _ => False) rfl rfl ?aP (fun _ hk => hk.elim) ?aF ?aO ?aB ?aS ?aL ?_; (case aP => exact rfl); (case aB => exact (by repeat (first | (with_reducible first | exact HB.out | apply below_alloc | apply pw_below_drewN | apply below_drew1) | exact HB.out))); (case aF => exact (fun _ _ => trivial)); (case aO => exact (by (with_reducible repeat (first | apply Kd.R_alloc | apply Kd.R_drewN | apply Kd.R_drew)); exact HO_8.out)); (case aS => exact (below_size (by repeat (first | (with_reducible first | exact HB.out | apply below_alloc | apply pw_below_drewN | apply below_drew1) | exact HB.out)))); (case aL => have := LMc17.out; omega); intro v147 w21 ho hb hg hat; rw [← Ny146.out] at ho; have n0_ := Aside0.mk (Kd.R_over' (by (with_reducible repeat (first | apply Kd.R_alloc | apply Kd.R_drewN | apply Kd.R_drew)); exact HO_7.out) (Kd.R_typed (by (with_reducible repeat (first | apply Kd.R_alloc | apply Kd.R_drewN | apply Kd.R_drew)); exact HO_8.out)) (by decide) hg); have n1_ := Aside0.mk (hb); have n2_ := Aside0.mk (ho); clear HO_7; clear HB; clear HO_8; have HO_7 := n0_; have HB := n1_; have HO148 := n2_; clear n0_ n1_ n2_; clear ho hb hg hat))
            go_roundg k1
            case measure => have := HK1.out; omega
            case rel => exact ⟨(y144), (y146), (wrap64 (x9_1 + 1)), (by first | rfl | (simp; done) | (simp [*]; done)), H', ⟨by have := HK1.out; omega⟩, ⟨by (with_reducible repeat (first | apply Kd.R_alloc | apply Kd.R_drewN | apply Kd.R_drew)); exact HO_7.out⟩, ⟨by (with_reducible repeat (first | apply Kd.R_alloc | apply Kd.R_drewN | apply Kd.R_drew)); exact HO148.out⟩, ⟨by repeat (first | (with_reducible first | exact HB.out | apply below_alloc | apply pw_below_drewN | apply below_drew1) | exact HB.out)⟩⟩
           ·rw [if_neg c17] at H; exact absurd H (by simp)
         ·rw [if_neg c12] at H; exact absurd H (by simp)
        ·rw [if_neg c11] at H; exact absurd H (by simp)
      ·rw [if_neg c9] at H; exact absurd H (by simp)
     ·rw [if_neg c8] at H; have c8b0 : decide (x9_1 < (l1.length : Int)) = false := decide_eq_false c8
      clear c8; have H' := Aside0.mk H
      clear H; go_wp2
      go_loopg [8] k1 (fun kq v8 w' => ∃ (x7_2 : List Bool) (x8_2 : List Int), Aside0 (r7_From.l1 kq l0 a2 x7_2 x8_2 = some r) ∧ Aside0 (kq ≤ k1) ∧ Aside0 (Kd.R Kd.bool 4 w' w.heap.size (fun _ => True) v138 x7_2) ∧ Aside0 (Kd.R (Kd.int .i64) 3 w' w.heap.size (fun _ => True) v8 x8_2) ∧ Aside0 (Below w.heap.size w w'))
      case atStart => exact ⟨(x7_1), (x8_1), H', ⟨Nat.le_refl _⟩, ⟨by (with_reducible repeat (first | apply Kd.R_alloc | apply Kd.R_drewN | apply Kd.R_drew)); exact HO_7.out⟩, ⟨by (with_reducible repeat (first | apply Kd.R_alloc | apply Kd.R_drewN | apply Kd.R_drew)); exact HO_8.out⟩, ⟨by repeat (first | (with_reducible first | exact HB.out | apply below_alloc | apply pw_below_drewN | apply below_drew1) | exact HB.out)⟩⟩
      case round =>
       clear H'; try clear c1
       try clear p1
       try clear q1
       try clear hx1
       try clear p2
       try clear c3
       try clear c4
       try clear c4b0
       try clear c4b1
       try clear c5
       try clear c5b0
       try clear c5b1
       try clear p6
       try clear c8
       try clear c8b0
       try clear c9
       try clear c9b0
       try clear c10
       try clear c10b0
       try clear c10b1
       try clear c11
       try clear c11b0
       try clear c12
       try clear c12b0
       try clear q13
       try clear c14
       try clear p14
       try clear q14
       try clear hx14
       try clear p16
       try clear q16
       try clear hx16
       try clear hf16
       try clear c17
       try clear hx140_0
       try clear hx141_0
       try clear hx142_0
       try clear hx143_0
       try clear hx145_0
       try clear hx16_0
       try clear p140
       try clear p141
       try clear p142
       try clear p143
       try clear p145
       try clear p16
       try clear p2
       try clear q140
       try clear q141
       try clear q142
       try clear q143
       try clear q145
       try clear q16
       obtain ⟨x7_2, x8_2, HA, HK2, HO_7, HO_8, HB⟩ := hrel; cases gk with
       | zero => exact absurd HA.out (by simp [r7_From.l1])
       | succ k2 =>
        have H := HA.out; clear HA; simp only [r7_From.l1] at H
        by_cases c22 : (x8_2.length : Int) > 0
        ·rw [if_pos c22] at H; have c22b0 : decide (0 < (x8_2.length : Int)) = true := decide_eq_true c22
         have c22b1 : decide (0 < x8_2.length) = true := decide_eq_true (by omega)
         clear c22; obtain ⟨ji23, hji23⟩ : ∃ j_ : Int, (wrap64 ((x8_2.length : Int) - 1)) = j_ := ⟨_, rfl⟩; replace H : (if 0 ≤ (ji23) then (if (ji23) < (x8_2.length : Int) then (if (ji23) ≤ (x8_2.length : Int) then (r7_From.l2 k2 l0 a2 x7_2 (x8_2.take ((ji23) : Int).toNat) (rd x8_2 (ji23)) 0) else (none)) else (none)) else (none)) = some r := by first | (rw [hji23] at H; exact H) | (simp only [hji23] at H ⊢; exact H)
         have hji23w : (IntKind.i64.wrap ((x8_2.length : Int) - 1)) = ji23 := (i64_w _).trans hji23
         by_cases c24 : 0 ≤ (ji23)
         ·rw [if_pos c24] at H; have c24b0 : decide (0 ≤ (ji23)) = true := decide_eq_true c24
          clear c24; by_cases c25 : (ji23) < (x8_2.length : Int)
          ·rw [if_pos c25] at H; have c25b0 : decide ((ji23) < (x8_2.length : Int)) = true := decide_eq_true c25
           clear c25; by_cases c26 : (ji23) ≤ (x8_2.length : Int)
           ·rw [if_pos c26] at H; have c26b0 := eq_true c26; have c26b1 : decide ((ji23) ≤ (x8_2.length : Int)) = true := decide_eq_true c26
            clear c26; obtain ⟨y150, hy150⟩ : ∃ y_ : List Int, y_ = (x8_2.take ((ji23) : Int).toNat) := ⟨_, rfl⟩; replace H : (r7_From.l2 k2 l0 a2 x7_2 y150 (rd x8_2 (ji23)) 0) = some r := by first | (with_reducible first | (rw [hy150]; exact H) | exact H) | (have H2_ := (Option.bind_some _ _).symm.trans H; first | with_reducible exact H2_ | (rw [hy150]; exact H2_)) | (rw [hy150]; exact H) | exact H
            have Ny150 := Aside0.mk hy150; clear hy150; have H' := Aside0.mk H
            clear H; obtain ⟨Ao27, co27, eo27⟩ := Kd.R_slice HO_8.out; subst eo27; have p149 : 0 ≤ ((ji23) : Int) := of_decide_eq_true (by with_reducible assumption)
            have q149 : (ji23) < (x8_2.length : Int) := of_decide_eq_true (by with_reducible assumption)
            obtain ⟨ad149, e149, hx149_0⟩ := Kd.at_int (Kd.R_reads' HO_8.out).2.2 (ji23) p149 q149; cases e149; replace p149 := eq_true p149; replace q149 := eq_true q149; have q28 : ((ji23) : Int) ≤ ((x8_2.length : Int) : Int) := of_decide_eq_true (by with_reducible assumption)
            obtain ⟨i028, hi028, _, hsz28, _⟩ := info_parts info3; have hcut28 := cut_to (P := Try.prog) 33 3 .i64 Try.underlying33 hi028 (some ad149) x8_2.length co27 (ji23) (of_decide_eq_true (by with_reducible assumption)) q28 (Kd.R_reads' HO_8.out).2.1
            have hr28 := Kd.R_take (m := ((ji23) : Int).toNat) HO_8.out (by omega)
            have hy28 : y150.length = ((ji23) : Int).toNat := (by rw [Ny150.out, List.length_take]; omega)
            rw [← Ny150.out] at hr28; rw [← hy28] at hr28 hcut28
            clear hy28 hi028 hsz28 HO_8; have HO152 := Aside0.mk hr28; clear hr28; replace q28 := eq_true q28; go_wp2
            go_loopg [8, 11] k2 (fun kq v8 v11 w' => ∃ (x7_3 : List Bool) (x8_3 : List Int) (x11_3 : Int), v11 = .int .i64 x11_3 ∧ Aside0 (r7_From.l2 kq l0 a2 x7_3 x8_3 (rd x8_2 (ji23)) x11_3 = some r) ∧ Aside0 (kq ≤ k2) ∧ Aside0 (Kd.R Kd.bool 4 w' w.heap.size (fun _ => True) v138 x7_3) ∧ Aside0 (Kd.R (Kd.int .i64) 3 w' w.heap.size (fun _ => True) v8 x8_3) ∧ Aside0 (Below w.heap.size w w'))
            case atStart => exact ⟨(x7_2), (y150), (0), (by first | rfl | (simp; done) | (simp [*]; done)), H', ⟨Nat.le_refl _⟩, ⟨by (with_reducible repeat (first | apply Kd.R_alloc | apply Kd.R_drewN | apply Kd.R_drew)); exact HO_7.out⟩, ⟨by (with_reducible repeat (first | apply Kd.R_alloc | apply Kd.R_drewN | apply Kd.R_drew)); exact HO152.out⟩, ⟨by repeat (first | (with_reducible first | exact HB.out | apply below_alloc | apply pw_below_drewN | apply below_drew1) | exact HB.out)⟩⟩
            case round =>
             clear H'; try clear c1
             try clear p1
             try clear q1
             try clear hx1
             try clear c2
             try clear p2
             try clear q2
             try clear c3
             try clear c4
             try clear c4b0
             try clear c4b1
             try clear c5
             try clear c5b0
             try clear c5b1
             try clear p6
             try clear c8
             try clear c8b0
             try clear c9
             try clear c9b0
             try clear c10
             try clear c10b0
             try clear c10b1
             try clear c11
             try clear c11b0
             try clear c12
             try clear c12b0
             try clear q13
             try clear c14
             try clear p14
             try clear q14
             try clear hx14
             try clear p16
             try clear q16
             try clear hx16
             try clear hf16
             try clear c17
             try clear c22
             try clear c22b0
             try clear c22b1
             try clear c24
             try clear c24b0
             try clear c25
             try clear c25b0
             try clear c26
             try clear c26b0
             try clear c26b1
             try clear q28
             try clear hx140_0
             try clear hx141_0
             try clear hx142_0
             try clear hx143_0
             try clear hx145_0
             try clear hx149_0
             try clear hx16_0
             try clear p1
             try clear p14
             try clear p140
             try clear p141
             try clear p142
             try clear p143
             try clear p145
             try clear p149
             try clear p16
             try clear p2
             try clear p6
             try clear q1
             try clear q13
             try clear q14
             try clear q140
             try clear q141
             try clear q142
             try clear q143
             try clear q145
             try clear q149
             try clear q16
             try clear q28
             obtain ⟨x7_3, x8_3, x11_3, rfl, HA, HK3, HO_7, HO_8, HB⟩ := hrel; cases gk with
             | zero => exact absurd HA.out (by simp [r7_From.l2])
             | succ k3 =>
              have H := HA.out; clear HA; simp only [r7_From.l2] at H
              by_cases c29 : 0 ≤ (rd x8_2 (ji23))
              ·rw [if_pos c29] at H; have c29b0 : decide (0 ≤ (rd x8_2 (ji23))) = true := decide_eq_true c29
               clear c29; by_cases c30 : (rd x8_2 (ji23)) < (l0.length : Int)
               ·rw [if_pos c30] at H; have c30b0 : decide ((rd x8_2 (ji23)) < (l0.length : Int)) = true := decide_eq_true c30
                clear c30; by_cases c31 : x11_3 < ((rd_L1 l0 (rd x8_2 (ji23))).length : Int)
                ·rw [if_pos c31] at H; have c31b0 : decide (x11_3 < ((rd_L1 l0 (rd x8_2 (ji23))).length : Int)) = true := decide_eq_true c31
                 clear c31; by_cases c32 : 0 ≤ x11_3
                 ·rw [if_pos c32] at H; have c32b0 : decide (0 ≤ x11_3) = true := decide_eq_true c32
                  clear c32; by_cases c33 : (rd (rd_L1 l0 (rd x8_2 (ji23))) x11_3) = a2
                  ·rw [if_pos c33] at H; have c33b0 : ((rd (rd_L1 l0 (rd x8_2 (ji23))) x11_3) == a2) = true := beq_iff_eq.mpr c33
                   have c33b1 : ((rd (rd_L1 l0 (rd x8_2 (ji23))) x11_3) != a2) = false := bne_eq_false_iff_eq.mpr c33
                   clear c33; have H' := Aside0.mk H
                   clear H; have p153 : 0 ≤ ((rd x8_2 (ji23)) : Int) := of_decide_eq_true (by with_reducible assumption)
                   have q153 : (rd x8_2 (ji23)) < (l0.length : Int) := of_decide_eq_true (by with_reducible assumption)
                   obtain ⟨ad153, A153_0, c153_0, e153, hx153_0, hl153_0, hi153_0⟩ := at_L1 HR0.out (rd x8_2 (ji23)) p153 q153; cases e153; replace hx153_0 := (HB.out.cell (World.block_lt_of_cell? w _ hx153_0)).trans hx153_0; have HR153_0 := Aside0.mk hi153_0; have HC153_0 := Aside0.mk hl153_0; clear hi153_0 hl153_0; replace p153 := eq_true p153; replace q153 := eq_true q153; have p154 : 0 ≤ ((rd x8_2 (ji23)) : Int) := of_decide_eq_true (by with_reducible assumption)
                   have q154 : (rd x8_2 (ji23)) < (l0.length : Int) := of_decide_eq_true (by with_reducible assumption)
                   obtain ⟨ad154, A154_0, c154_0, e154, hx154_0, hl154_0, hi154_0⟩ := at_L1 HR0.out (rd x8_2 (ji23)) p154 q154; obtain rfl : ad153 = ad154 := (by injection e154)
                   replace hx154_0 := (HB.out.cell (World.block_lt_of_cell? w _ hx154_0)).trans hx154_0; have HR154_0 := Aside0.mk hi154_0; have HC154_0 := Aside0.mk hl154_0; clear hi154_0 hl154_0; replace p154 := eq_true p154; replace q154 := eq_true q154; have ea_ := Option.some.inj (hx153_0.symm.trans hx154_0); injection ea_ with ea_ en_ ec_
                   subst ea_; subst ec_; clear en_; have p155 : 0 ≤ (x11_3 : Int) := of_decide_eq_true (by with_reducible assumption)
                   have q155 : x11_3 < ((rd_L1 l0 (rd x8_2 (ji23))).length : Int) := of_decide_eq_true (by with_reducible assumption)
                   obtain ⟨ad155, e155, hx155_0⟩ := Kd.at_int HR154_0.out x11_3 p155 q155; cases e155; replace hx155_0 := (HB.out.cell (World.block_lt_of_cell? w _ hx155_0)).trans hx155_0; replace p155 := eq_true p155; replace q155 := eq_true q155; go_wp2
                   go_roundg k3
                   case measure => have := HK1.out; have := HK2.out; have := HK3.out; omega
                   case rel => exact ⟨(x7_3), (x8_3), (wrap64 (x11_3 + 1)), (by first | rfl | (simp; done) | (simp [*]; done)), H', ⟨by have := HK1.out; have := HK2.out; have := HK3.out; omega⟩, ⟨by (with_reducible repeat (first | apply Kd.R_alloc | apply Kd.R_drewN | apply Kd.R_drew)); exact HO_7.out⟩, ⟨by (with_reducible repeat (first | apply Kd.R_alloc | apply Kd.R_drewN | apply Kd.R_drew)); exact HO_8.out⟩, ⟨by repeat (first | (with_reducible first | exact HB.out | apply below_alloc | apply pw_below_drewN | apply below_drew1) | exact HB.out)⟩⟩
                  ·rw [if_neg c33] at H; have c33b0 : ((rd (rd_L1 l0 (rd x8_2 (ji23))) x11_3) == a2) = false := beq_eq_false_iff_ne.mpr c33
                   have c33b1 : ((rd (rd_L1 l0 (rd x8_2 (ji23))) x11_3) != a2) = true := bne_iff_ne.mpr c33
                   by_cases c34 : 0 ≤ (rd (rd_L1 l0 (rd x8_2 (ji23))) x11_3)
                   ·rw [if_pos c34] at H; have c34b0 : decide (0 ≤ (rd (rd_L1 l0 (rd x8_2 (ji23))) x11_3)) = true := decide_eq_true c34
                    clear c34; by_cases c35 : (rd (rd_L1 l0 (rd x8_2 (ji23))) x11_3) < (x7_3.length : Int)
                    ·rw [if_pos c35] at H; have c35b0 : decide ((rd (rd_L1 l0 (rd x8_2 (ji23))) x11_3) < (x7_3.length : Int)) = true := decide_eq_true c35
                     clear c35; obtain ⟨bq36, hbq36⟩ : ∃ b_ : Bool, b_ = (rdOf false x7_3 (rd (rd_L1 l0 (rd x8_2 (ji23))) x11_3)) := ⟨_, rfl⟩; replace H : (if (bq36 = true) then (r7_From.l2 k3 l0 a2 x7_3 x8_3 (rd x8_2 (ji23)) (wrap64 (x11_3 + 1))) else (if x8_3.length < 17592186044416 then (r7_From.l2 k3 l0 a2 (x7_3.set ((rd (rd_L1 l0 (rd x8_2 (ji23))) x11_3) : Int).toNat true) (x8_3 ++ [rd (rd_L1 l0 (rd x8_2 (ji23))) x11_3]) (rd x8_2 (ji23)) (wrap64 (x11_3 + 1))) else (none))) = some r := by rw [← hbq36] at H; exact H
                     have Nbq36 := Aside0.mk hbq36; clear hbq36; by_cases c37 : (bq36 = true)
                     ·subst c37; have H1 : (r7_From.l2 k3 l0 a2 x7_3 x8_3 (rd x8_2 (ji23)) (wrap64 (x11_3 + 1))) = some r := by rw [if_pos rfl] at H; exact H
                      clear H; have H := H1; clear H1; have H' := Aside0.mk H
                      clear H; have p153 : 0 ≤ ((rd x8_2 (ji23)) : Int) := of_decide_eq_true (by with_reducible assumption)
                      have q153 : (rd x8_2 (ji23)) < (l0.length : Int) := of_decide_eq_true (by with_reducible assumption)
                      obtain ⟨ad153, A153_0, c153_0, e153, hx153_0, hl153_0, hi153_0⟩ := at_L1 HR0.out (rd x8_2 (ji23)) p153 q153; cases e153; replace hx153_0 := (HB.out.cell (World.block_lt_of_cell? w _ hx153_0)).trans hx153_0; have HR153_0 := Aside0.mk hi153_0; have HC153_0 := Aside0.mk hl153_0; clear hi153_0 hl153_0; replace p153 := eq_true p153; replace q153 := eq_true q153; have p154 : 0 ≤ ((rd x8_2 (ji23)) : Int) := of_decide_eq_true (by with_reducible assumption)
                      have q154 : (rd x8_2 (ji23)) < (l0.length : Int) := of_decide_eq_true (by with_reducible assumption)
                      obtain ⟨ad154, A154_0, c154_0, e154, hx154_0, hl154_0, hi154_0⟩ := at_L1 HR0.out (rd x8_2 (ji23)) p154 q154; obtain rfl : ad153 = ad154 := (by injection e154)
                      replace hx154_0 := (HB.out.cell (World.block_lt_of_cell? w _ hx154_0)).trans hx154_0; have HR154_0 := Aside0.mk hi154_0; have HC154_0 := Aside0.mk hl154_0; clear hi154_0 hl154_0; replace p154 := eq_true p154; replace q154 := eq_true q154; have ea_ := Option.some.inj (hx153_0.symm.trans hx154_0); injection ea_ with ea_ en_ ec_
                      subst ea_; subst ec_; clear en_; have p155 : 0 ≤ (x11_3 : Int) := of_decide_eq_true (by with_reducible assumption)
                      have q155 : x11_3 < ((rd_L1 l0 (rd x8_2 (ji23))).length : Int) := of_decide_eq_true (by with_reducible assumption)
                      obtain ⟨ad155, e155, hx155_0⟩ := Kd.at_int HR154_0.out x11_3 p155 q155; cases e155; replace hx155_0 := (HB.out.cell (World.block_lt_of_cell? w _ hx155_0)).trans hx155_0; replace p155 := eq_true p155; replace q155 := eq_true q155; obtain ⟨Ao38, co38, eo38⟩ := Kd.R_slice HO_7.out; subst eo38; have p156 : 0 ≤ ((rd (rd_L1 l0 (rd x8_2 (ji23))) x11_3) : Int) := of_decide_eq_true (by with_reducible assumption)
                      have q156 : (rd (rd_L1 l0 (rd x8_2 (ji23))) x11_3) < (x7_3.length : Int) := of_decide_eq_true (by with_reducible assumption)
                      obtain ⟨ad156, e156, hx156_0⟩ := Kd.at_bool (Kd.R_reads' HO_7.out).2.2 (rd (rd_L1 l0 (rd x8_2 (ji23))) x11_3) p156 q156; (try rw [← Nbq36.out] at hx156_0)
                      cases e156; replace p156 := eq_true p156; replace q156 := eq_true q156; go_wp2
                      go_roundg k3
                      case measure => have := HK1.out; have := HK2.out; have := HK3.out; omega
                      case rel => exact ⟨(x7_3), (x8_3), (wrap64 (x11_3 + 1)), (by first | rfl | (simp; done) | (simp [*]; done)), H', ⟨by have := HK1.out; have := HK2.out; have := HK3.out; omega⟩, ⟨by (with_reducible repeat (first | apply Kd.R_alloc | apply Kd.R_drewN | apply Kd.R_drew)); exact HO_7.out⟩, ⟨by (with_reducible repeat (first | apply Kd.R_alloc | apply Kd.R_drewN | apply Kd.R_drew)); exact HO_8.out⟩, ⟨by repeat (first | (with_reducible first | exact HB.out | apply below_alloc | apply pw_below_drewN | apply below_drew1) | exact HB.out)⟩⟩
                     ·replace c37 := Bool.eq_false_iff.mpr c37; subst c37; have H1 : (if x8_3.length < 17592186044416 then (r7_From.l2 k3 l0 a2 (x7_3.set ((rd (rd_L1 l0 (rd x8_2 (ji23))) x11_3) : Int).toNat true) (x8_3 ++ [rd (rd_L1 l0 (rd x8_2 (ji23))) x11_3]) (rd x8_2 (ji23)) (wrap64 (x11_3 + 1))) else (none)) = some r := by rw [if_neg (show ¬ (false = true) by decide)] at H; exact H
                      clear H; have H := H1; clear H1; obtain ⟨y157, hy157⟩ : ∃ y_ : List Bool, y_ = (x7_3.set ((rd (rd_L1 l0 (rd x8_2 (ji23))) x11_3) : Int).toNat true) := ⟨_, rfl⟩; replace H : (if x8_3.length < 17592186044416 then (r7_From.l2 k3 l0 a2 y157 (x8_3 ++ [rd (rd_L1 l0 (rd x8_2 (ji23))) x11_3]) (rd x8_2 (ji23)) (wrap64 (x11_3 + 1))) else (none)) = some r := by first | (with_reducible first | (rw [hy157]; exact H) | exact H) | (have H2_ := (Option.bind_some _ _).symm.trans H; first | with_reducible exact H2_ | (rw [hy157]; exact H2_)) | (rw [hy157]; exact H) | exact H
                      have Ny157 := Aside0.mk hy157; clear hy157; by_cases c40 : x8_3.length < 17592186044416
                      ·rw [if_pos c40] at H; have LMc40 := Aside0.mk c40; clear c40; obtain ⟨y158, hy158⟩ : ∃ y_ : List Int, y_ = (x8_3 ++ [rd (rd_L1 l0 (rd x8_2 (ji23))) x11_3]) := ⟨_, rfl⟩; replace H : (r7_From.l2 k3 l0 a2 y157 y158 (rd x8_2 (ji23)) (wrap64 (x11_3 + 1))) = some r := by first | (with_reducible first | (rw [hy158]; exact H) | exact H) | (have H2_ := (Option.bind_some _ _).symm.trans H; first | with_reducible exact H2_ | (rw [hy158]; exact H2_)) | (rw [hy158]; exact H) | exact H
                       have Ny158 := Aside0.mk hy158; clear hy158; have H' := Aside0.mk H
                       clear H; have p153 : 0 ≤ ((rd x8_2 (ji23)) : Int) := of_decide_eq_true (by with_reducible assumption)
                       have q153 : (rd x8_2 (ji23)) < (l0.length : Int) := of_decide_eq_true (by with_reducible assumption)
                       obtain ⟨ad153, A153_0, c153_0, e153, hx153_0, hl153_0, hi153_0⟩ := at_L1 HR0.out (rd x8_2 (ji23)) p153 q153; cases e153; replace hx153_0 := (HB.out.cell (World.block_lt_of_cell? w _ hx153_0)).trans hx153_0; have HR153_0 := Aside0.mk hi153_0; have HC153_0 := Aside0.mk hl153_0; clear hi153_0 hl153_0; replace p153 := eq_true p153; replace q153 := eq_true q153; have p154 : 0 ≤ ((rd x8_2 (ji23)) : Int) := of_decide_eq_true (by with_reducible assumption)
                       have q154 : (rd x8_2 (ji23)) < (l0.length : Int) := of_decide_eq_true (by with_reducible assumption)
                       obtain ⟨ad154, A154_0, c154_0, e154, hx154_0, hl154_0, hi154_0⟩ := at_L1 HR0.out (rd x8_2 (ji23)) p154 q154; obtain rfl : ad153 = ad154 := (by injection e154)
                       replace hx154_0 := (HB.out.cell (World.block_lt_of_cell? w _ hx154_0)).trans hx154_0; have HR154_0 := Aside0.mk hi154_0; have HC154_0 := Aside0.mk hl154_0; clear hi154_0 hl154_0; replace p154 := eq_true p154; replace q154 := eq_true q154; have ea_ := Option.some.inj (hx153_0.symm.trans hx154_0); injection ea_ with ea_ en_ ec_
                       subst ea_; subst ec_; clear en_; have p155 : 0 ≤ (x11_3 : Int) := of_decide_eq_true (by with_reducible assumption)
                       have q155 : x11_3 < ((rd_L1 l0 (rd x8_2 (ji23))).length : Int) := of_decide_eq_true (by with_reducible assumption)
                       obtain ⟨ad155, e155, hx155_0⟩ := Kd.at_int HR154_0.out x11_3 p155 q155; cases e155; replace hx155_0 := (HB.out.cell (World.block_lt_of_cell? w _ hx155_0)).trans hx155_0; replace p155 := eq_true p155; replace q155 := eq_true q155; obtain ⟨Ao41, co41, eo41⟩ := Kd.R_slice HO_7.out; subst eo41; have p156 : 0 ≤ ((rd (rd_L1 l0 (rd x8_2 (ji23))) x11_3) : Int) := of_decide_eq_true (by with_reducible assumption)
                       have q156 : (rd (rd_L1 l0 (rd x8_2 (ji23))) x11_3) < (x7_3.length : Int) := of_decide_eq_true (by with_reducible assumption)
                       obtain ⟨ad156, e156, hx156_0⟩ := Kd.at_bool (Kd.R_reads' HO_7.out).2.2 (rd (rd_L1 l0 (rd x8_2 (ji23))) x11_3) p156 q156; (try rw [← Nbq36.out] at hx156_0)
                       cases e156; replace p156 := eq_true p156; replace q156 := eq_true q156; have p39 : 0 ≤ ((rd (rd_L1 l0 (rd x8_2 (ji23))) x11_3) : Int) := of_decide_eq_true (by with_reducible assumption)
                       have q39 : ((rd (rd_L1 l0 (rd x8_2 (ji23))) x11_3) : Int) < ((x7_3.length : Int) : Int) := of_decide_eq_true (by with_reducible assumption)
                       obtain ⟨go39, co39, eo39, gb39, gl39, cl39, HG39⟩ := Kd.R_form HO_7.out (by omega)
                       (first | cases eo39 | (injection eo39 with ea_ en_ ec_; (first | subst ea_ | (injection ea_ with ea_; subst ea_)); subst ec_; clear en_))
                       have GB39 := Aside0.mk gb39; have GG39 := Aside0.mk HG39; clear gb39 gl39 HG39; (first | simp only [add_plain] at hx156_0 | skip)
                       obtain ⟨hx39_0, hf39_0⟩ := Kd.R_celln false HO_7.out ((rd (rd_L1 l0 (rd x8_2 (ji23))) x11_3) : Int) p39 q39; replace p39 := eq_true p39; replace q39 := eq_true q39; have HP42 := Kd.R_putg HO_7.out ((rd (rd_L1 l0 (rd x8_2 (ji23))) x11_3) : Int) true; go_wp2_with (first | ((with_reducible refine gate_store (t := 4) (p := 93) rfl ?_); refine store_event (t := 4) (p := 93) (v := ?vo_w43) (w1 := (wr.setCell ⟨go39, ((rd (rd_L1 l0 (rd x8_2 (ji23))) x11_3) : Int).toNat, none⟩ (.bool true))) ?hg ?ho ?hn ?hr ?_; (case ho => rfl); (case hg => rfl); (case hn => rfl); (case hr => first | (go_simp; done) | (go_simp; rfl)); intro w43 hw; have hg : wr.grownBy w43 (some go39) := (by rw [hw]; exact HP42.2); have hp_ : Kd.R Kd.bool 4 w43 w.heap.size (fun _ => True) (.slice (some ⟨go39, 0, none⟩) x7_3.length co41) y157 := (by rw [hw, Ny157.out]; exact HP42.1); clear HP42; have n0_ := Aside0.mk (hp_); have n1_ := Aside0.mk (Kd.R_over' (v := (.slice (some ⟨go39, 0, none⟩) x7_3.length co41)) (by (with_reducible repeat (first | apply Kd.R_alloc | apply Kd.R_drewN | apply Kd.R_drew)); exact HO_8.out) (Kd.R_typed HO_7.out) (by decide) hg); have n2_ := Aside0.mk ((by rw [hw]; exact below_set (HB.out) GB39.out : Below w.heap.size w w43)); clear HO_7; clear HO_8; clear HB; have HO_7 := n0_; have HO_8 := n1_; have HB := n2_; clear n0_ n1_ n2_; clear hg hw hp_) | ((with_reducible refine gate_builtin (b := .append) (xs := #[.tmp 94, .tmp 96]) rfl ?_); at_builtin; refine Kd.R_append (Kd.int .i64) (w0 := w) w.heap.size rfl (.tmp 94) (.tmp 96) 33 3 (.int .i64 0) 8 rfl Try.underlying33 info3 rfl (by decide) (by omega) u8 x8_3 (rd (rd_L1 l0 (rd x8_2 (ji23))) x11_3) [.int .i64 (rd (rd_L1 l0 (rd x8_2 (ji23))) x11_3)] (fun _ => True) (fun _ => False) rfl rfl ?aP (fun _ hk => hk.elim) ?aF ?aO ?aB ?aS ?aL ?_; (case aP => exact rfl); (case aB => exact (by repeat (first | (with_reducible first | exact HB.out | apply below_alloc | apply pw_below_drewN | apply below_drew1) | exact HB.out))); (case aF => exact (fun _ _ => trivial)); (case aO => exact (by (with_reducible repeat (first | apply Kd.R_alloc | apply Kd.R_drewN | apply Kd.R_drew)); exact HO_8.out)); (case aS => exact (below_size (by repeat (first | (with_reducible first | exact HB.out | apply below_alloc | apply pw_below_drewN | apply below_drew1) | exact HB.out)))); (case aL => have := LMc40.out; omega); intro v159 w44 ho hb hg hat; rw [← Ny158.out] at ho; have n0_ := Aside0.mk (Kd.R_over' (by (with_reducible repeat (first | apply Kd.R_alloc | apply Kd.R_drewN | apply Kd.R_drew)); exact HO_7.out) (Kd.R_typed (by (with_reducible repeat (first | apply Kd.R_alloc | apply Kd.R_drewN | apply Kd.R_drew)); exact HO_8.out)) (by decide) hg); have n1_ := Aside0.mk (hb); have n2_ := Aside0.mk (ho); clear HO_7; clear HB; clear HO_8; have HO_7 := n0_; have HB := n1_; have HO160 := n2_; clear n0_ n1_ n2_; clear ho hb hg hat))
                       go_roundg k3
                       case measure => have := HK1.out; have := HK2.out; have := HK3.out; omega
                       case rel => exact ⟨(y157), (y158), (wrap64 (x11_3 + 1)), (by first | rfl | (simp; done) | (simp [*]; done)), H', ⟨by have := HK1.out; have := HK2.out; have := HK3.out; omega⟩, ⟨by (with_reducible repeat (first | apply Kd.R_alloc | apply Kd.R_drewN | apply Kd.R_drew)); exact HO_7.out⟩, ⟨by (with_reducible repeat (first | apply Kd.R_alloc | apply Kd.R_drewN | apply Kd.R_drew)); exact HO160.out⟩, ⟨by repeat (first | (with_reducible first | exact HB.out | apply below_alloc | apply pw_below_drewN | apply below_drew1) | exact HB.out)⟩⟩
                      ·rw [if_neg c40] at H; exact absurd H (by simp)
                    ·rw [if_neg c35] at H; exact absurd H (by simp)
                   ·rw [if_neg c34] at H; exact absurd H (by simp)
                 ·rw [if_neg c32] at H; exact absurd H (by simp)
                ·rw [if_neg c31] at H; have c31b0 : decide (x11_3 < ((rd_L1 l0 (rd x8_2 (ji23))).length : Int)) = false := decide_eq_false c31
                 clear c31; have H' := Aside0.mk H
                 clear H; have p153 : 0 ≤ ((rd x8_2 (ji23)) : Int) := of_decide_eq_true (by with_reducible assumption)
                 have q153 : (rd x8_2 (ji23)) < (l0.length : Int) := of_decide_eq_true (by with_reducible assumption)
                 obtain ⟨ad153, A153_0, c153_0, e153, hx153_0, hl153_0, hi153_0⟩ := at_L1 HR0.out (rd x8_2 (ji23)) p153 q153; cases e153; replace hx153_0 := (HB.out.cell (World.block_lt_of_cell? w _ hx153_0)).trans hx153_0; have HR153_0 := Aside0.mk hi153_0; have HC153_0 := Aside0.mk hl153_0; clear hi153_0 hl153_0; replace p153 := eq_true p153; replace q153 := eq_true q153; go_wp2
                 go_roundg k3
                 case measure => have := HK1.out; have := HK2.out; have := HK3.out; omega
                 case rel => exact ⟨(x7_3), (x8_3), H', ⟨by have := HK1.out; have := HK2.out; have := HK3.out; omega⟩, ⟨by (with_reducible repeat (first | apply Kd.R_alloc | apply Kd.R_drewN | apply Kd.R_drew)); exact HO_7.out⟩, ⟨by (with_reducible repeat (first | apply Kd.R_alloc | apply Kd.R_drewN | apply Kd.R_drew)); exact HO_8.out⟩, ⟨by repeat (first | (with_reducible first | exact HB.out | apply below_alloc | apply pw_below_drewN | apply below_drew1) | exact HB.out)⟩⟩
               ·rw [if_neg c30] at H; exact absurd H (by simp)
              ·rw [if_neg c29] at H; exact absurd H (by simp)
           ·rw [if_neg c26] at H; exact absurd H (by simp)
          ·rw [if_neg c25] at H; exact absurd H (by simp)
         ·rw [if_neg c24] at H; exact absurd H (by simp)
        ·rw [if_neg c22] at H; have c22b0 : decide (0 < (x8_2.length : Int)) = false := decide_eq_false c22
         have c22b1 : decide (0 < x8_2.length) = false := decide_eq_false (by omega)
         clear c22; obtain rfl := Option.some.inj H; obtain ⟨Ao45, co45, eo45⟩ := Kd.R_slice HO_8.out; subst eo45; go_wp2
         go_ret
         exact ⟨_, by first | rfl | (simp [errW_none, errW_some] <;> rfl) | (simp [*, errW_none, errW_some] <;> rfl), by (with_reducible repeat (first | apply Kd.R_alloc | apply Kd.R_drewN | apply Kd.R_drew)); exact HO_7.out, by repeat (first | (with_reducible first | exact HB.out | apply below_alloc | apply pw_below_drewN | apply below_drew1) | exact HB.out)⟩
  ·rw [if_neg c5] at H; exact absurd H (by simp)
 ·rw [if_neg c4] at H; exact absurd H (by simp)
end Go.Proofs.Ytjjedbcgkljdeaa.A
end
