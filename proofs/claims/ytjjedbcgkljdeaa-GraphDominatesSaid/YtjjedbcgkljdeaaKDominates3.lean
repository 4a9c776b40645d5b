/- Texts of this claim, cut down to what its theorem uses and laid end to end (wip/shake.py). -/
import Derived.ArgAppend
import Derived.Below
import Derived.BigQuiet
import Derived.ChangeOld
import Derived.ChangeSlices
import Derived.Deep.AppendLies
import Derived.Deep.CutBlock
import Derived.Deep.DeepCutAuto
import Derived.Deep.Draws
import Derived.Deep.LoopGhost
import Derived.Deep.Matrix
import Derived.Deep.OwnRows
import Derived.Deep.QuietTactic
import Derived.Deep.RegionHeld3
import Derived.KernelRfl
import Derived.Laws.BitsLemmas
import Derived.Laws.BytesArg
import Derived.Laws.CopyOwn
import Derived.Laws.IdiomCopy
import Derived.Laws.MakeOwn
import Derived.Laws.OwnMore
import Derived.Laws.Rows
import Derived.Laws.Slices
import Derived.Laws.StructEq
import Derived.Lib.AppendStr
import Derived.Lib.ConvBytes
import Derived.LoopIn
import Derived.LoopNIn
import Derived.Maps.AppendAt
import Derived.OpenShut
import Derived.OrdersHeld
import Derived.OwnWalk
import Derived.OwnWalkIn
import Derived.ProofKit
import Derived.RangeFuncBound
import Derived.RangeFuncBox
import Derived.RangeFuncCalls
import Derived.RangeFuncFrom
import Derived.RangeFuncLeaves
import Derived.RangeFuncNested
import Derived.RowKit
import Derived.RowKit3
import Derived.Shelf.Abstract
import Derived.ShutString
import Derived.SizedLaws
import Derived.Tactics
import Derived.TacticsInMore
import Derived.Test.YtjjedbcgkljdeaaProg
import Derived.WalkKit
import Derived.WideLaws
import GoSem.ClaimData
import Derived.Test.YtjjedbcgkljdeaaKDominates2
section
namespace Go.Proofs.Ytjjedbcgkljdeaa.A
open Go.RowKit Go.Proofs.YtjjedbcgkljdeaaW.PrintWords Go.Proofs.YtjjedbcgkljdeaaW.PrintLast Go.Proofs.YtjjedbcgkljdeaaW.PrintMore
set_option linter.unusedVariables false
set_option linter.unusedSimpArgs false
mutual
def r7_Turned.l0 : Nat → List (List Int) → List (List Int) → Int → Option ((List (List Int)))
 | 0, _, _, _ => none
 | k + 1, x0, x3, x4 => if x4 < (x0.length : Int) then (r7_Turned.l1 k x0 x3 x4 0) else (some x3)
def r7_Turned.l1 : Nat → List (List Int) → List (List Int) → Int → Int → Option ((List (List Int)))
 | 0, _, _, _, _ => none
 | k + 1, x0, x3, x4, x5 => if 0 ≤ x4 then (if x4 < (x0.length : Int) then (if x5 < ((rd_L1 x0 x4).length : Int) then (if 0 ≤ x5 then (if 0 ≤ (rd (rd_L1 x0 x4) x5) then (if (rd (rd_L1 x0 x4) x5) < (x3.length : Int) then (if (rd_L1 x3 (rd (rd_L1 x0 x4) x5)).length < 17592186044416 then (r7_Turned.l1 k x0 (x3.set ((rd (rd_L1 x0 x4) x5) : Int).toNat ((rd_L1 x3 (rd (rd_L1 x0 x4) x5)) ++ [x4])) x4 (wrap64 (x5 + 1))) else (none)) else (none)) else (none)) else (none)) else (r7_Turned.l0 k x0 x3 (wrap64 (x4 + 1)))) else (none)) else (none)
end
def r7_Turned.f (k : Nat) (l0 : List (List Int)) : Option ((List (List Int))) := if 0 ≤ (l0.length : Int) then (if ((l0.length : Int) : Int).toNat ≤ 11728124029610 then (r7_Turned.l0 k l0 (List.replicate ((l0.length : Int) : Int).toNat []) 0) else (none)) else (none)
def r7_Turned.T8 : Bool × List (List Nat × List Nat) := (true, [([], []), ([], []), ([], []), ([1, 2], [1, 2]), ([3], [3]), ([], []), ([4, 5], [4, 5]), ([6], [6]), ([], []), ([], []), ([], []), ([9, 10], [9, 10]), ([11], [11]), ([], []), ([12, 13], [12, 13]), ([14], [14]), ([8, 15], [8, 15]), ([16], [16]), ([], []), ([18], [18]), ([17, 19], [17, 19]), ([0, 7, 0, 1, 2, 3, 4, 5, 6, 7, 8, 9, 10, 11, 12, 13, 14, 15, 16, 17, 18, 19, 20], [0, 7]), ([21, 20, 20, 0, 1, 2, 3, 4, 5, 6, 7, 8, 9, 10, 11, 12, 13, 14, 15, 16, 17, 18, 19, 20], [20, 21])])
def r7_Turned.B8 : List Nat := [0, 0, 0, 6, 14, 0, 62, 126, 0, 0, 0, 1536, 3584, 0, 15872, 32256, 65280, 130816, 0, 262144, 1048320, 2097151, 4194303]
theorem r7_Turned.tab8 : rtab .any (opsOf Try.f35 8) = r7_Turned.T8 := by kernel_rfl
theorem r7_Turned.bits8 : waitsOk r7_Turned.T8.2 r7_Turned.B8 = true := by kernel_rfl
set_option maxHeartbeats 8000000 in
set_option maxRecDepth 100000 in
theorem r7_Turned.calls (k : Nat) (A0 : Option Addr) (c0 : Nat) (l0 : List (List Int)) (r : List (List Int)) (w : World) (hr0 : Kd.C (Kd.slice 3 (Kd.int .i64)) w A0 l0.length l0) (hc0 : l0.length ≤ c0) (h : r7_Turned.f k l0 = some r) :
  Calls Try.prog 35 #[.slice A0 l0.length c0] w fun e w' => ∃ v0_ : Value, e = .returned (v0_) ∧ Kd.S (Kd.slice 3 (Kd.int .i64)) 33 w' w.heap.size (fun _ => True) v0_ r ∧ Below w.heap.size w w' := by
 have HR0 := Aside0.mk hr0; have HC0 := Aside0.mk hc0; clear hr0 hc0; have HB := Aside0.mk (Below.refl w.heap.size w); have H : (if 0 ≤ (l0.length : Int) then (if ((l0.length : Int) : Int).toNat ≤ 11728124029610 then (r7_Turned.l0 k l0 (List.replicate ((l0.length : Int) : Int).toNat []) 0) else (none)) else (none)) = some r := h
 clear h; by_cases c2 : 0 ≤ (l0.length : Int)
 ·rw [if_pos c2] at H; have c2b0 := eq_true c2; have c2b1 : decide (0 ≤ (l0.length : Int)) = true := decide_eq_true c2
  clear c2; by_cases c3 : ((l0.length : Int) : Int).toNat ≤ 11728124029610
  ·rw [if_pos c3] at H; have c3b0 := eq_true c3; have c3b1 : decide (((l0.length : Int) : Int).toNat ≤ 11728124029610) = true := decide_eq_true c3
   clear c3; obtain ⟨y161, hy161⟩ : ∃ y_ : List (List Int), y_ = (List.replicate ((l0.length : Int) : Int).toNat []) := ⟨_, rfl⟩; replace H : (r7_Turned.l0 k l0 y161 0) = some r := by first | (with_reducible first | (rw [hy161]; exact H) | exact H) | (have H2_ := (Option.bind_some _ _).symm.trans H; first | with_reducible exact H2_ | (rw [hy161]; exact H2_)) | (rw [hy161]; exact H) | exact H
   have Ny161 := Aside0.mk hy161; clear hy161; have H' := Aside0.mk H
   clear H; go_enter Try.func35, Try.ntmps35
   go_wp2_with (first | ((with_reducible refine gate_dst (N := 8) rfl ?_); refine Kd.S_make (Kd.slice 3 (Kd.int .i64)) _ 33 rfl (N := 8) rfl 22 _ _ rfl (l0.length : Int) rfl rfl Try.underlying22 (.slice none 0 0) 24 info33 rfl (by decide) (by omega) [] (ok := fun _ => True) (okp := fun _ => True) ⟨_, rfl, Kd.R_nil _ _ _ _ _⟩ (fun _ hk => hk) trivial (of_decide_eq_true (by with_reducible assumption)) (Nat.le_trans (Nat.mul_le_mul_right _ (of_decide_eq_true (by with_reducible assumption) : (l0.length : Int).toNat ≤ 11728124029610)) (by omega)) (Below.refl _ _) (Nat.le_refl _) ?_; intro v162 w4 ho5 hb hg_ hnew_; clear hg_ hnew_; (first | rw [← Ny161.out] at ho5 | (simp only [Int.reduceToNat] at ho5; rw [← Ny161.out] at ho5)); have n0_ := Aside0.mk (Kd.S_lower ho5 (below_size (by repeat (first | (with_reducible first | exact HB.out | apply below_alloc | apply pw_below_drewN | apply below_drew1) | exact HB.out)))); have n1_ := Aside0.mk (below_step (by repeat (first | (with_reducible first | exact HB.out | apply below_alloc | apply pw_below_drewN | apply below_drew1) | exact HB.out)) hb); clear HB; have HO163 := n0_; have HB := n1_; clear n0_ n1_; clear hb ho5))
   go_loopg [4] k (fun kq v4 w' => ∃ (x3_1 : List (List Int)) (x4_1 : Int), v4 = .int .i64 x4_1 ∧ Aside0 (r7_Turned.l0 kq l0 x3_1 x4_1 = some r) ∧ Aside0 (kq ≤ k) ∧ Aside0 (Kd.S (Kd.slice 3 (Kd.int .i64)) 33 w' w.heap.size (fun _ => True) v162 x3_1) ∧ Aside0 (Below w.heap.size w w'))
   case atStart => exact ⟨(y161), (0), (by first | rfl | (simp; done) | (simp [*]; done)), H', ⟨Nat.le_refl _⟩, ⟨by (with_reducible repeat (first | apply Kd.S_alloc | apply Kd.S_drewN | apply Kd.S_drew)); exact HO163.out⟩, ⟨by repeat (first | (with_reducible first | exact HB.out | apply below_alloc | apply pw_below_drewN | apply below_drew1) | exact HB.out)⟩⟩
   case round =>
    clear H'; try clear c2
    try clear c2b0
    try clear c2b1
    try clear p2
    try clear c3
    try clear c3b0
    try clear c3b1
    obtain ⟨x3_1, x4_1, rfl, HA, HK1, HO_3, HB⟩ := hrel; cases gk with
    | zero => exact absurd HA.out (by simp [r7_Turned.l0])
    | succ k1 =>
     have H := HA.out; clear HA; simp only [r7_Turned.l0] at H
     by_cases c6 : x4_1 < (l0.length : Int)
     ·rw [if_pos c6] at H; have c6b0 : decide (x4_1 < (l0.length : Int)) = true := decide_eq_true c6
      clear c6; have H' := Aside0.mk H
      clear H; go_wp2
      go_loopg [5] k1 (fun kq v5 w' => ∃ (x3_2 : List (List Int)) (x5_2 : Int), v5 = .int .i64 x5_2 ∧ Aside0 (r7_Turned.l1 kq l0 x3_2 x4_1 x5_2 = some r) ∧ Aside0 (kq ≤ k1) ∧ Aside0 (Kd.S (Kd.slice 3 (Kd.int .i64)) 33 w' w.heap.size (fun _ => True) v162 x3_2) ∧ Aside0 (Below w.heap.size w w'))
      case atStart => exact ⟨(x3_1), (0), (by first | rfl | (simp; done) | (simp [*]; done)), H', ⟨Nat.le_refl _⟩, ⟨by (with_reducible repeat (first | apply Kd.S_alloc | apply Kd.S_drewN | apply Kd.S_drew)); exact HO_3.out⟩, ⟨by repeat (first | (with_reducible first | exact HB.out | apply below_alloc | apply pw_below_drewN | apply below_drew1) | exact HB.out)⟩⟩
      case round =>
       clear H'; try clear c2
       try clear c2b0
       try clear c2b1
       try clear p2
       try clear c3
       try clear c3b0
       try clear c3b1
       try clear c6
       try clear c6b0
       try clear p2
       obtain ⟨x3_2, x5_2, rfl, HA, HK2, HO_3, HB⟩ := hrel; cases gk with
       | zero => exact absurd HA.out (by simp [r7_Turned.l1])
       | succ k2 =>
        have H := HA.out; clear HA; simp only [r7_Turned.l1] at H
        by_cases c7 : 0 ≤ x4_1
        ·rw [if_pos c7] at H; have c7b0 : decide (0 ≤ x4_1) = true := decide_eq_true c7
         clear c7; by_cases c8 : x4_1 < (l0.length : Int)
         ·rw [if_pos c8] at H; have c8b0 : decide (x4_1 < (l0.length : Int)) = true := decide_eq_true c8
          clear c8; by_cases c9 : x5_2 < ((rd_L1 l0 x4_1).length : Int)
          ·rw [if_pos c9] at H; have c9b0 : decide (x5_2 < ((rd_L1 l0 x4_1).length : Int)) = true := decide_eq_true c9
           clear c9; by_cases c10 : 0 ≤ x5_2
           ·rw [if_pos c10] at H; have c10b0 : decide (0 ≤ x5_2) = true := decide_eq_true c10
            clear c10; by_cases c11 : 0 ≤ (rd (rd_L1 l0 x4_1) x5_2)
            ·rw [if_pos c11] at H; have c11b0 : decide (0 ≤ (rd (rd_L1 l0 x4_1) x5_2)) = true := decide_eq_true c11
             clear c11; by_cases c12 : (rd (rd_L1 l0 x4_1) x5_2) < (x3_2.length : Int)
             ·rw [if_pos c12] at H; have c12b0 : decide ((rd (rd_L1 l0 x4_1) x5_2) < (x3_2.length : Int)) = true := decide_eq_true c12
              clear c12; by_cases c13 : (rd_L1 x3_2 (rd (rd_L1 l0 x4_1) x5_2)).length < 17592186044416
              ·rw [if_pos c13] at H; have LMc13 := Aside0.mk c13; clear c13; obtain ⟨y170, hy170⟩ : ∃ y_ : List Int, y_ = ((rd_L1 x3_2 (rd (rd_L1 l0 x4_1) x5_2)) ++ [x4_1]) := ⟨_, rfl⟩; replace H : (r7_Turned.l1 k2 l0 (x3_2.set ((rd (rd_L1 l0 x4_1) x5_2) : Int).toNat y170) x4_1 (wrap64 (x5_2 + 1))) = some r := by first | (with_reducible first | (rw [hy170]; exact H) | exact H) | (have H2_ := (Option.bind_some _ _).symm.trans H; first | with_reducible exact H2_ | (rw [hy170]; exact H2_)) | (rw [hy170]; exact H) | exact H
               have Ny170 := Aside0.mk hy170; clear hy170; obtain ⟨y173, hy173⟩ : ∃ y_ : List (List Int), y_ = (x3_2.set ((rd (rd_L1 l0 x4_1) x5_2) : Int).toNat y170) := ⟨_, rfl⟩; replace H : (r7_Turned.l1 k2 l0 y173 x4_1 (wrap64 (x5_2 + 1))) = some r := by first | (with_reducible first | (rw [hy173]; exact H) | exact H) | (have H2_ := (Option.bind_some _ _).symm.trans H; first | with_reducible exact H2_ | (rw [hy173]; exact H2_)) | (rw [hy173]; exact H) | exact H
               have Ny173 := Aside0.mk hy173; clear hy173; have H' := Aside0.mk H
               clear H; have p164 : 0 ≤ (x4_1 : Int) := of_decide_eq_true (by with_reducible assumption)
               have q164 : x4_1 < (l0.length : Int) := of_decide_eq_true (by with_reducible assumption)
               obtain ⟨ad164, A164_0, c164_0, e164, hx164_0, hl164_0, hi164_0⟩ := at_L1 HR0.out x4_1 p164 q164; cases e164; replace hx164_0 := (HB.out.cell (World.block_lt_of_cell? w _ hx164_0)).trans hx164_0; have HR164_0 := Aside0.mk hi164_0; have HC164_0 := Aside0.mk hl164_0; clear hi164_0 hl164_0; replace p164 := eq_true p164; replace q164 := eq_true q164; try go_wp2
               have n0_ := Aside0.mk (Kd.S_drew HO_3.out); have n1_ := Aside0.mk (below_drew1 HB.out); clear HO_3; clear HB; have HO_3 := n0_; have HB := n1_; clear n0_ n1_; have p165 : 0 ≤ (x4_1 : Int) := of_decide_eq_true (by with_reducible assumption)
               have q165 : x4_1 < (l0.length : Int) := of_decide_eq_true (by with_reducible assumption)
               obtain ⟨ad165, A165_0, c165_0, e165, hx165_0, hl165_0, hi165_0⟩ := at_L1 HR0.out x4_1 p165 q165; have hw165_0 := hx165_0; obtain rfl : ad164 = ad165 := (by injection e165)
               replace hx165_0 := (HB.out.cell (World.block_lt_of_cell? w _ hx165_0)).trans hx165_0; have HR165_0 := Aside0.mk hi165_0; have HC165_0 := Aside0.mk hl165_0; clear hi165_0 hl165_0; replace p165 := eq_true p165; replace q165 := eq_true q165; have p166 : 0 ≤ (x5_2 : Int) := of_decide_eq_true (by with_reducible assumption)
               have q166 : x5_2 < ((rd_L1 l0 x4_1).length : Int) := of_decide_eq_true (by with_reducible assumption)
               obtain ⟨ad166, e166, hx166_0⟩ := Kd.at_int HR165_0.out x5_2 p166 q166; have hw166_0 := hx166_0; cases e166; replace hx166_0 := (HB.out.cell (World.block_lt_of_cell? w _ hx166_0)).trans hx166_0; replace p166 := eq_true p166; replace q166 := eq_true q166; have p167 : 0 ≤ (x4_1 : Int) := of_decide_eq_true (by with_reducible assumption)
               have q167 : x4_1 < (l0.length : Int) := of_decide_eq_true (by with_reducible assumption)
               obtain ⟨ad167, A167_0, c167_0, e167, hx167_0, hl167_0, hi167_0⟩ := at_L1 HR0.out x4_1 p167 q167; have hw167_0 := hx167_0; obtain rfl : ad164 = ad167 := (by injection e167)
               replace hx167_0 := (HB.out.cell (World.block_lt_of_cell? w _ hx167_0)).trans hx167_0; have HR167_0 := Aside0.mk hi167_0; have HC167_0 := Aside0.mk hl167_0; clear hi167_0 hl167_0; replace p167 := eq_true p167; replace q167 := eq_true q167; have ea_ := Option.some.inj (hx165_0.symm.trans hx167_0); injection ea_ with ea_ en_ ec_
               subst ea_; subst ec_; clear en_; have p168 : 0 ≤ (x5_2 : Int) := of_decide_eq_true (by with_reducible assumption)
               have q168 : x5_2 < ((rd_L1 l0 x4_1).length : Int) := of_decide_eq_true (by with_reducible assumption)
               obtain ⟨ad168, e168, hx168_0⟩ := Kd.at_int HR167_0.out x5_2 p168 q168; have hw168_0 := hx168_0; cases e168; replace hx168_0 := (HB.out.cell (World.block_lt_of_cell? w _ hx168_0)).trans hx168_0; replace p168 := eq_true p168; replace q168 := eq_true q168; obtain ⟨Ao16, co16, eo16⟩ := Kd.S_slice HO_3.out; (first | subst eo16 | (injection eo16 with f1_ f2_ f3_; have f4_ := f1_.symm; have f5_ := f3_.symm; clear f1_ f2_ f3_; subst f4_; subst f5_))
               have p169 : 0 ≤ ((rd (rd_L1 l0 x4_1) x5_2) : Int) := of_decide_eq_true (by with_reducible assumption)
               have q169 : (rd (rd_L1 l0 x4_1) x5_2) < (x3_2.length : Int) := of_decide_eq_true (by with_reducible assumption)
               obtain ⟨ad169, A169_0, c169_0, e169, hx169_0, hl169_0, hi169_0⟩ := at_L1 (Kd.S_reads' HO_3.out).2.2 (rd (rd_L1 l0 x4_1) x5_2) p169 q169; cases e169; obtain ⟨ce169, hce169, hMe169, hcc169⟩ := Kd.S_get HO_3.out [] (rd (rd_L1 l0 x4_1) x5_2) p169 (by first | exact q169 | exact of_decide_eq_true (by with_reducible assumption) | (have e_ := (Kd.S_reads' HO_3.out).1; omega))
               obtain ⟨ve169_0, rfl, ge169_0⟩ := hMe169; have hv169_0 := hcc169 0 _ rfl; rw [Nat.add_zero, show ((Kd.slice 3 (Kd.int .i64))).sz = 1 from rfl, Nat.mul_one] at hv169_0; replace hv169_0 := Option.some.inj (hv169_0.symm.trans hx169_0); rw [hv169_0] at ge169_0; have HL169_0 := Aside0.mk (show Kd.R (Kd.int .i64) 3 _ _ _ _ (rd_L1 x3_2 (rd (rd_L1 l0 x4_1) x5_2)) from ge169_0); clear hv169_0 ge169_0; have HX169_0 := Aside0.mk hx169_0; clear hcc169 hce169; have HR169_0 := Aside0.mk hi169_0; have HC169_0 := Aside0.mk hl169_0; clear hi169_0 hl169_0; replace p169 := eq_true p169; replace q169 := eq_true q169; obtain ⟨go17, co17, eo17, gb17, gl17, cl17, HG17⟩ := Kd.S_form HO_3.out (by have h_ : ((rd (rd_L1 l0 x4_1) x5_2) : Int) < ((x3_2.length : Int) : Int) := of_decide_eq_true (by with_reducible assumption); have h2_ : 0 ≤ ((rd (rd_L1 l0 x4_1) x5_2) : Int) := (of_decide_eq_true (by with_reducible assumption)); omega)
               (first | cases eo17 | (injection eo17 with ea_ en_ ec_; (first | subst ea_ | (injection ea_ with ea_; subst ea_)); subst ec_; clear en_))
               have GB17 := Aside0.mk gb17; have GG17 := Aside0.mk HG17; clear gb17 gl17 HG17; (first | simp only [add_plain] at hx169_0 | skip)
               obtain ⟨oki17, ce17, hcl17, hM17, hcc17, _, _, hH17⟩ := Kd.S_elem HO_3.out [] ((rd (rd_L1 l0 x4_1) x5_2) : Int) (of_decide_eq_true (by with_reducible assumption)) (by have h_ : ((rd (rd_L1 l0 x4_1) x5_2) : Int) < ((x3_2.length : Int) : Int) := of_decide_eq_true (by with_reducible assumption); first | exact h_ | (have e_ := (Kd.S_reads' HO_3.out).1; omega) | simpa using h_)
               obtain ⟨ve17_0, rfl, ge17_0⟩ := hM17; have hv17 := hcc17 0 _ rfl; have hX17 := HX169_0.out; (try simp only [add_plain] at hX17)
               (try simp only [Nat.add_zero] at hv17)
               (try rw [show ((Kd.slice 3 (Kd.int .i64))).sz = 1 from rfl, Nat.mul_one] at hv17)
               replace hv17 := Option.some.inj (hv17.symm.trans hX17); subst hv17; clear hX17 hcc17 hcl17; have UU17 := Aside0.mk (show Kd.R (Kd.int .i64) 3 _ w.heap.size oki17 (.slice A169_0 (rd_L1 x3_2 (rd (rd_L1 l0 x4_1) x5_2)).length c169_0) (rd_L1 x3_2 (rd (rd_L1 l0 x4_1) x5_2)) from ge17_0); have HH17 := Aside0.mk hH17; have HN17 := Aside0.mk (Kd.S_reads' HO_3.out).1; clear hH17 ge17_0; refine start_ (n := 23) (S := fun w' => w'.cell? (ad164.add (x4_1).toNat) = some (.slice (some ad166) (rd_L1 l0 x4_1).length c165_0) ∧ w'.cell? (ad166.add (x5_2).toNat) = some (.int .i64 (rd (rd_L1 l0 x4_1) x5_2)) ∧ w'.cell? (ad164.add (x4_1).toNat) = some (.slice (some ad166) (rd_L1 l0 x4_1).length c165_0) ∧ w'.cell? (ad166.add (x5_2).toNat) = some (.int .i64 (rd (rd_L1 l0 x4_1) x5_2)) ∧ w'.cell? ⟨go17, ((rd (rd_L1 l0 x4_1) x5_2)).toNat, none⟩ = some (.slice A169_0 (rd_L1 x3_2 (rd (rd_L1 l0 x4_1) x5_2)).length c169_0)) (ds := [22]) #[false, false, false, false, false, false, false, false, false, false, false, false, false, false, false, false, false, false, false, false, false, false, false] (by kernel_rfl) rfl rfl ⟨((HB.out.cell (World.block_lt_of_cell? w _ hw165_0)).trans hw165_0), ((HB.out.cell (World.block_lt_of_cell? w _ hw166_0)).trans hw166_0), ((HB.out.cell (World.block_lt_of_cell? w _ hw167_0)).trans hw167_0), ((HB.out.cell (World.block_lt_of_cell? w _ hw168_0)).trans hw168_0), hx169_0⟩ (fun hHeld => ?_); refine with_tabW r7_Turned.tab8 r7_Turned.bits8 (fun HT_ HW_ => ?_)
               generalize wr.drew = w15 at HO_3 HB GG17 HH17 HL169_0 HR165_0 HR167_0 HR169_0 HX169_0 UU17 hx165_0 hx166_0 hx167_0 hx168_0 hx169_0 hHeld ⊢
               refine pure_ (i := 0) (N := some 24) (v := ?_) (a' := ?_) #[true, false, false, false, false, false, false, false, false, false, false, false, false, false, false, false, false, false, false, false, false, false, false] rfl rfl (any_of HT_.out (by kernel_rfl)) (fun _ _ _ h => h) (Or.inl ⟨by rfl, ?_⟩) ?_ ?_
               rotate_left
               ·intro w'
                go_simp
                with_reducible rfl
               rotate_left
               ·simp only [Act.put, List.setIfInBounds_toArray, List.set_cons_zero, List.set_cons_succ, i64_w, i32_w]
                rfl
               refine pure_ (i := 1) (N := some 25) (v := ?_) (a' := ?_) #[true, true, false, false, false, false, false, false, false, false, false, false, false, false, false, false, false, false, false, false, false, false, false] rfl rfl (any_of HT_.out (by kernel_rfl)) (fun _ _ _ h => h) (Or.inl ⟨by rfl, ?_⟩) ?_ ?_
               rotate_left
               ·intro w'
                go_simp
                with_reducible rfl
               rotate_left
               ·simp only [Act.put, List.setIfInBounds_toArray, List.set_cons_zero, List.set_cons_succ, i64_w, i32_w]
                rfl
               refine pure_ (i := 2) (N := some 26) (v := ?_) (a' := ?_) #[true, true, true, false, false, false, false, false, false, false, false, false, false, false, false, false, false, false, false, false, false, false, false] rfl rfl (any_of HT_.out (by kernel_rfl)) (fun _ _ _ h => h) (Or.inl ⟨by rfl, ?_⟩) ?_ ?_
               rotate_left
               ·intro w'
                go_simp
                with_reducible rfl
               rotate_left
               ·simp only [Act.put, List.setIfInBounds_toArray, List.set_cons_zero, List.set_cons_succ, i64_w, i32_w]
                rfl
               refine pure_ (i := 3) (N := some 27) (v := ?_) (a' := ?_) #[true, true, true, true, false, false, false, false, false, false, false, false, false, false, false, false, false, false, false, false, false, false, false] rfl rfl (any_of HT_.out (by kernel_rfl)) (fun _ _ _ h => h) (Or.inl ⟨by rfl, ?_⟩) ?_ ?_
               rotate_left
               ·intro w'
                go_simp
                with_reducible rfl
               rotate_left
               ·simp only [Act.put, List.setIfInBounds_toArray, List.set_cons_zero, List.set_cons_succ, i64_w, i32_w]
                rfl
               refine pure_ (i := 5) (N := some 29) (v := ?_) (a' := ?_) #[true, true, true, true, false, true, false, false, false, false, false, false, false, false, false, false, false, false, false, false, false, false, false] rfl rfl (any_of HT_.out (by kernel_rfl)) (fun _ _ _ h => h) (Or.inl ⟨by rfl, ?_⟩) ?_ ?_
               rotate_left
               ·intro w'
                go_simp
                with_reducible rfl
               rotate_left
               ·simp only [Act.put, List.setIfInBounds_toArray, List.set_cons_zero, List.set_cons_succ, i64_w, i32_w]
                rfl
               refine pure_ (i := 8) (N := some 32) (v := ?_) (a' := ?_) #[true, true, true, true, false, true, false, false, true, false, false, false, false, false, false, false, false, false, false, false, false, false, false] rfl rfl (any_of HT_.out (by kernel_rfl)) (fun _ _ _ h => h) (Or.inl ⟨by rfl, ?_⟩) ?_ ?_
               rotate_left
               ·intro w'
                go_simp
                with_reducible rfl
               rotate_left
               ·simp only [Act.put, List.setIfInBounds_toArray, List.set_cons_zero, List.set_cons_succ, i64_w, i32_w]
                rfl
               refine pure_ (i := 9) (N := some 33) (v := ?_) (a' := ?_) #[true, true, true, true, false, true, false, false, true, true, false, false, false, false, false, false, false, false, false, false, false, false, false] rfl rfl (any_of HT_.out (by kernel_rfl)) (fun _ _ _ h => h) (Or.inl ⟨by rfl, ?_⟩) ?_ ?_
               rotate_left
               ·intro w'
                go_simp
                with_reducible rfl
               rotate_left
               ·simp only [Act.put, List.setIfInBounds_toArray, List.set_cons_zero, List.set_cons_succ, i64_w, i32_w]
                rfl
               refine pure_ (i := 10) (N := some 34) (v := ?_) (a' := ?_) #[true, true, true, true, false, true, false, false, true, true, true, false, false, false, false, false, false, false, false, false, false, false, false] rfl rfl (any_of HT_.out (by kernel_rfl)) (fun _ _ _ h => h) (Or.inl ⟨by rfl, ?_⟩) ?_ ?_
               rotate_left
               ·intro w'
                go_simp
                with_reducible rfl
               rotate_left
               ·simp only [Act.put, List.setIfInBounds_toArray, List.set_cons_zero, List.set_cons_succ, i64_w, i32_w]
                rfl
               refine pure_ (i := 11) (N := some 35) (v := ?_) (a' := ?_) #[true, true, true, true, false, true, false, false, true, true, true, true, false, false, false, false, false, false, false, false, false, false, false] rfl rfl (any_of HT_.out (by kernel_rfl)) (fun _ _ _ h => h) (Or.inl ⟨by rfl, ?_⟩) ?_ ?_
               rotate_left
               ·intro w'
                go_simp
                with_reducible rfl
               rotate_left
               ·simp only [Act.put, List.setIfInBounds_toArray, List.set_cons_zero, List.set_cons_succ, i64_w, i32_w]
                rfl
               refine pure_ (i := 13) (N := some 37) (v := ?_) (a' := ?_) #[true, true, true, true, false, true, false, false, true, true, true, true, false, true, false, false, false, false, false, false, false, false, false] rfl rfl (any_of HT_.out (by kernel_rfl)) (fun _ _ _ h => h) (Or.inl ⟨by rfl, ?_⟩) ?_ ?_
               rotate_left
               ·intro w'
                go_simp
                with_reducible rfl
               rotate_left
               ·simp only [Act.put, List.setIfInBounds_toArray, List.set_cons_zero, List.set_cons_succ, i64_w, i32_w]
                rfl
               refine pure_ (i := 18) (N := some 42) (v := ?_) (a' := ?_) #[true, true, true, true, false, true, false, false, true, true, true, true, false, true, false, false, false, false, true, false, false, false, false] rfl rfl (any_of HT_.out (by kernel_rfl)) (fun _ _ _ h => h) (Or.inl ⟨by rfl, ?_⟩) ?_ ?_
               rotate_left
               ·intro w'
                go_simp
                with_reducible rfl
               rotate_left
               ·simp only [Act.put, List.setIfInBounds_toArray, List.set_cons_zero, List.set_cons_succ, i64_w, i32_w]
                rfl
               refine take_ (i := 4) (N := some 28) (v := ?_) (a' := ?_) #[true, true, true, true, true, true, false, false, true, true, true, true, false, true, false, false, false, false, true, false, false, false, false] rfl rfl (take_ofW HT_.out HW_.out (by kernel_rfl)) (fun _ _ _ h => h) (Or.inl ⟨by rfl, ?_⟩) hHeld ?_ ?_
               rotate_left
               ·rintro w' ⟨s0, s1, s2, s3, s4⟩
                go_simp
                with_reducible rfl
               rotate_left
               ·simp only [Act.put, List.setIfInBounds_toArray, List.set_cons_zero, List.set_cons_succ, i64_w, i32_w]
                rfl
               refine pure_ (i := 6) (N := some 30) (v := ?_) (a' := ?_) #[true, true, true, true, true, true, true, false, true, true, true, true, false, true, false, false, false, false, true, false, false, false, false] rfl rfl (any_of HT_.out (by kernel_rfl)) (fun _ _ _ h => h) (Or.inl ⟨by rfl, ?_⟩) ?_ ?_
               rotate_left
               ·intro w'
                go_simp
                with_reducible rfl
               rotate_left
               ·simp only [Act.put, List.setIfInBounds_toArray, List.set_cons_zero, List.set_cons_succ, i64_w, i32_w]
                rfl
               refine take_ (i := 7) (N := some 31) (v := ?_) (a' := ?_) #[true, true, true, true, true, true, true, true, true, true, true, true, false, true, false, false, false, false, true, false, false, false, false] rfl rfl (take_ofW HT_.out HW_.out (by kernel_rfl)) (fun _ _ _ h => h) (Or.inl ⟨by rfl, ?_⟩) hHeld ?_ ?_
               rotate_left
               ·rintro w' ⟨s0, s1, s2, s3, s4⟩
                go_simp
                with_reducible rfl
               rotate_left
               ·simp only [Act.put, List.setIfInBounds_toArray, List.set_cons_zero, List.set_cons_succ, i64_w, i32_w]
                rfl
               refine take_ (i := 12) (N := some 36) (v := ?_) (a' := ?_) #[true, true, true, true, true, true, true, true, true, true, true, true, true, true, false, false, false, false, true, false, false, false, false] rfl rfl (take_ofW HT_.out HW_.out (by kernel_rfl)) (fun _ _ _ h => h) (Or.inl ⟨by rfl, ?_⟩) hHeld ?_ ?_
               rotate_left
               ·rintro w' ⟨s0, s1, s2, s3, s4⟩
                go_simp
                with_reducible rfl
               rotate_left
               ·simp only [Act.put, List.setIfInBounds_toArray, List.set_cons_zero, List.set_cons_succ, i64_w, i32_w]
                rfl
               refine pure_ (i := 14) (N := some 38) (v := ?_) (a' := ?_) #[true, true, true, true, true, true, true, true, true, true, true, true, true, true, true, false, false, false, true, false, false, false, false] rfl rfl (any_of HT_.out (by kernel_rfl)) (fun _ _ _ h => h) (Or.inl ⟨by rfl, ?_⟩) ?_ ?_
               rotate_left
               ·intro w'
                go_simp
                with_reducible rfl
               rotate_left
               ·simp only [Act.put, List.setIfInBounds_toArray, List.set_cons_zero, List.set_cons_succ, i64_w, i32_w]
                rfl
               refine take_ (i := 15) (N := some 39) (v := ?_) (a' := ?_) #[true, true, true, true, true, true, true, true, true, true, true, true, true, true, true, true, false, false, true, false, false, false, false] rfl rfl (take_ofW HT_.out HW_.out (by kernel_rfl)) (fun _ _ _ h => h) (Or.inl ⟨by rfl, ?_⟩) hHeld ?_ ?_
               rotate_left
               ·rintro w' ⟨s0, s1, s2, s3, s4⟩
                go_simp
                with_reducible rfl
               rotate_left
               ·simp only [Act.put, List.setIfInBounds_toArray, List.set_cons_zero, List.set_cons_succ, i64_w, i32_w]
                rfl
               refine pure_ (i := 16) (N := some 40) (v := ?_) (a' := ?_) #[true, true, true, true, true, true, true, true, true, true, true, true, true, true, true, true, true, false, true, false, false, false, false] rfl rfl (any_of HT_.out (by kernel_rfl)) (fun _ _ _ h => h) (Or.inl ⟨by rfl, ?_⟩) ?_ ?_
               rotate_left
               ·intro w'
                go_simp
                with_reducible rfl
               rotate_left
               ·simp only [Act.put, List.setIfInBounds_toArray, List.set_cons_zero, List.set_cons_succ, i64_w, i32_w]
                rfl
               refine take_ (i := 17) (N := some 41) (v := ?_) (a' := ?_) #[true, true, true, true, true, true, true, true, true, true, true, true, true, true, true, true, true, true, true, false, false, false, false] rfl rfl (take_ofW HT_.out HW_.out (by kernel_rfl)) (fun _ _ _ h => h) (Or.inl ⟨by rfl, ?_⟩) hHeld ?_ ?_
               rotate_left
               ·rintro w' ⟨s0, s1, s2, s3, s4⟩
                go_simp
                with_reducible rfl
               rotate_left
               ·simp only [Act.put, List.setIfInBounds_toArray, List.set_cons_zero, List.set_cons_succ, i64_w, i32_w]
                rfl
               refine one_ (i := 19) (N := some 43) #[true, true, true, true, true, true, true, true, true, true, true, true, true, true, true, true, true, true, true, true, false, false, false] rfl rfl (one_of HT_.out (by kernel_rfl)) (by decide) (fun K hK => ?_)
               refine value_ (w1 := ?_) (v := ?_) (by rfl) rfl ?_ ?_
               rotate_left 2
               ·go_simp
                constructor
                ·rfl
                ·rfl
               refine hK.out _ _ ⟨(World.cell?_alloc_lt _ _ _ (World.block_lt_of_cell? _ _ (((HB.out.cell (World.block_lt_of_cell? w _ hw165_0)).trans hw165_0)))).trans (((HB.out.cell (World.block_lt_of_cell? w _ hw165_0)).trans hw165_0)), (World.cell?_alloc_lt _ _ _ (World.block_lt_of_cell? _ _ (((HB.out.cell (World.block_lt_of_cell? w _ hw166_0)).trans hw166_0)))).trans (((HB.out.cell (World.block_lt_of_cell? w _ hw166_0)).trans hw166_0)), (World.cell?_alloc_lt _ _ _ (World.block_lt_of_cell? _ _ (((HB.out.cell (World.block_lt_of_cell? w _ hw167_0)).trans hw167_0)))).trans (((HB.out.cell (World.block_lt_of_cell? w _ hw167_0)).trans hw167_0)), (World.cell?_alloc_lt _ _ _ (World.block_lt_of_cell? _ _ (((HB.out.cell (World.block_lt_of_cell? w _ hw168_0)).trans hw168_0)))).trans (((HB.out.cell (World.block_lt_of_cell? w _ hw168_0)).trans hw168_0)), (World.cell?_alloc_lt _ _ _ (World.block_lt_of_cell? _ _ (hHeld.2.2.2.2))).trans (hHeld.2.2.2.2)⟩ (fun hHeld => ?_)
               clear hK K; refine norm_ (a' := ?_) ?_ ?_
               rotate_left
               ·show Act.put _ (some 43) _ = _
                simp only [Act.put, List.setIfInBounds_toArray, List.set_cons_zero, List.set_cons_succ, i64_w, i32_w]
                rfl
               refine one_ (i := 20) (N := some 44) #[true, true, true, true, true, true, true, true, true, true, true, true, true, true, true, true, true, true, true, true, true, false, false] rfl rfl (one_of HT_.out (by kernel_rfl)) (by decide) (fun K hK => ?_)
               refine Kd.R_append_step (Kd.int .i64) (w0 := w) w.heap.size (by rfl) (.tmp 41) (.tmp 43) 33 3 (.int .i64 0) 8 rfl Try.underlying33 info3 rfl (by decide) (by omega) (.slice A169_0 (rd_L1 x3_2 (rd (rd_L1 l0 x4_1) x5_2)).length c169_0) (rd_L1 x3_2 (rd (rd_L1 l0 x4_1) x5_2)) x4_1 [.int .i64 x4_1] (fun k_ => oki17 k_ ∨ ((fun _ => True)) k_ ∧ w15.heap.size ≤ k_) (fun _ => False) rfl rfl ?aP (fun _ hk => hk.elim) ?aF ?aO ?aB ?aS ?aL ?_
               (case aP => exact rfl)
               (case aB => exact (by repeat (first | (with_reducible first | exact HB.out | apply below_alloc | apply pw_below_drewN | apply below_drew1) | exact HB.out)))
               (case aF => exact (fun k_ hk => .inr ⟨trivial, hk⟩))
               (case aO => exact (by (with_reducible repeat (first | apply Kd.R_alloc | apply Kd.R_drewN | apply Kd.R_drew)); exact Kd.R_mono UU17.out (fun _ hk => .inl hk)))
               (case aS => exact (below_size (by repeat (first | (with_reducible first | exact HB.out | apply below_alloc | apply pw_below_drewN | apply below_drew1) | exact HB.out))))
               (case aL => have := LMc13.out; omega)
               intro v171 w18 ho hb hg hat
               (first | have HS4_ := cell_grown hg (hHeld.2.2.2.2) (by first | (rw [add_block]; exact (fun e_ => ((HL169_0.out.1 _ e_.symm).2) rfl)) | (show some (Addr.add _ _).block ≠ _; rw [add_block]; exact (fun e_ => ((HL169_0.out.1 _ e_.symm).2) rfl)) | exact (fun e_ => ((HL169_0.out.1 _ e_.symm).2) rfl)) | have HS4_ := cell_grown hg (cell_unalloc (hHeld.2.2.2.2) (by first | (rw [add_block]; exact Kd.S_lt HO_3.out _ rfl) | (show (Addr.add _ _).block < _; rw [add_block]; exact Kd.S_lt HO_3.out _ rfl) | exact Kd.S_lt HO_3.out _ rfl)) (by first | (rw [add_block]; exact (fun e_ => ((HL169_0.out.1 _ e_.symm).2) rfl)) | (show some (Addr.add _ _).block ≠ _; rw [add_block]; exact (fun e_ => ((HL169_0.out.1 _ e_.symm).2) rfl)) | exact (fun e_ => ((HL169_0.out.1 _ e_.symm).2) rfl)))
               rw [← Ny170.out] at ho; have n0_ := Aside0.mk (hb); have n1_ := Aside0.mk (Kd.H_grown (Kd.H_widen (by repeat (first | exact HH17.out | refine Kd.H_alloc ?_ _ | refine Kd.H_drewN ?_ _ | refine Kd.H_drew ?_))) hg (fun k_ e_ => .inl (UU17.out.1 k_ e_)))
               have n2_ := Aside0.mk (ho); clear HB; clear HH17; clear HO_3; clear UU17; clear HL169_0; have HB := n0_; have HH17 := n1_; have HO172 := n2_; clear n0_ n1_ n2_; clear ho hb hg hat; have p14 : 0 ≤ ((rd (rd_L1 l0 x4_1) x5_2) : Int) := of_decide_eq_true (by with_reducible assumption)
               have q14 : ((rd (rd_L1 l0 x4_1) x5_2) : Int) < ((x3_2.length : Int) : Int) := of_decide_eq_true (by with_reducible assumption)
               replace p14 := eq_true p14; replace q14 := eq_true q14; obtain ⟨Ao21, co21, eo21⟩ := Kd.R_slice HO172.out; (first | subst eo21 | (injection eo21 with f1_ f2_ f3_; have f4_ := f1_.symm; have f5_ := f3_.symm; clear f1_ f2_ f3_; subst f4_; subst f5_))
               obtain ⟨_, _, hraw19, _, _, hcc19, _⟩ := Kd.H_raw HH17.out (of_decide_eq_true (by with_reducible assumption)) (by have h_ : ((rd (rd_L1 l0 x4_1) x5_2) : Int) < ((x3_2.length : Int) : Int) := of_decide_eq_true (by with_reducible assumption); first | exact h_ | (have e_ := (HN17.out); omega) | simpa using h_)
               obtain ⟨_, hfr19⟩ := Kd.H_at HH17.out (of_decide_eq_true (by with_reducible assumption)) (by have h_ : ((rd (rd_L1 l0 x4_1) x5_2) : Int) < ((x3_2.length : Int) : Int) := of_decide_eq_true (by with_reducible assumption); first | exact h_ | (have e_ := (HN17.out); omega) | simpa using h_)
               have hx19_0 := hcc19 0 _ rfl; have hf19_0 := hfr19 0; (try simp only [Nat.add_zero] at hx19_0 hf19_0)
               (try rw [show ((Kd.slice 3 (Kd.int .i64))).sz = 1 from rfl, Nat.mul_one] at hx19_0)
               (try rw [show ((Kd.slice 3 (Kd.int .i64))).sz = 1 from rfl, Nat.mul_one] at hf19_0)
               have HP19 := Kd.S_seg0 HH17.out (of_decide_eq_true (by with_reducible assumption)) (by have h_ : ((rd (rd_L1 l0 x4_1) x5_2) : Int) < ((x3_2.length : Int) : Int) := of_decide_eq_true (by with_reducible assumption); first | exact h_ | (have e_ := (HN17.out); omega) | simpa using h_) (seg := [.slice Ao21 y170.length co21]) (j := 0) (show 1 ≤ 1 from by decide) (x' := y170) (Kd.M_row HO172.out) (fun _ hk => hk)
               (try simp only [show ((Kd.slice 3 (Kd.int .i64))).sz = 1 from rfl, Nat.mul_one, Nat.add_zero] at HP19)
               clear hcc19 hfr19; have HS19 := HP19.1; rw [← Ny173.out] at HS19; have HQ19 := Aside0.mk HS19; obtain ⟨_, hgg19⟩ := Kd.R_typed hraw19 go17 rfl; have GG19_ := Aside0.mk hgg19; clear HP19 HS19 hgg19; refine hK.out _ _ ⟨((HB.out.cell (World.block_lt_of_cell? w _ hw165_0)).trans hw165_0), ((HB.out.cell (World.block_lt_of_cell? w _ hw166_0)).trans hw166_0), ((HB.out.cell (World.block_lt_of_cell? w _ hw167_0)).trans hw167_0), ((HB.out.cell (World.block_lt_of_cell? w _ hw168_0)).trans hw168_0), HS4_⟩ (fun hHeld => ?_)
               clear hK K; refine norm_ (a' := ?_) ?_ ?_
               rotate_left
               ·show Act.put _ (some 44) _ = _
                simp only [Act.put, List.setIfInBounds_toArray, List.set_cons_zero, List.set_cons_succ, i64_w, i32_w]
                rfl
               refine pure_ (i := 21) (N := some 45) (v := ?_) (a' := ?_) #[true, true, true, true, true, true, true, true, true, true, true, true, true, true, true, true, true, true, true, true, true, true, false] rfl rfl (any_of HT_.out (by kernel_rfl)) (fun _ _ _ h => h) (Or.inl ⟨by rfl, ?_⟩) ?_ ?_
               rotate_left
               ·intro w'
                go_simp
                with_reducible rfl
               rotate_left
               ·simp only [Act.put, List.setIfInBounds_toArray, List.set_cons_zero, List.set_cons_succ, i64_w, i32_w]
                rfl
               refine last_ (i := 22) (N := none) #[true, true, true, true, true, true, true, true, true, true, true, true, true, true, true, true, true, true, true, true, true, true, true] rfl rfl (one_of HT_.out (by kernel_rfl)) (by decide) (fun K hK => ?_)
               refine skip_ (w1 := ?_) (by rfl) rfl ?_ ?_
               rotate_left
               ·go_simp
                rfl
               refine hK.out _ _ ?_
               clear hK K; refine done_ (done_of HT_.out (by kernel_rfl)) ?_
               try go_wp2
               go_roundg k2
               case measure => have := HK1.out; have := HK2.out; omega
               case rel => exact ⟨(y173), (wrap64 (x5_2 + 1)), (by first | rfl | (simp; done) | (simp [*]; done)), H', ⟨by have := HK1.out; have := HK2.out; omega⟩, ⟨by (with_reducible repeat (first | apply Kd.S_alloc | apply Kd.S_drewN | apply Kd.S_drew)); exact HQ19.out⟩, ⟨by repeat (first | (with_reducible first | exact HB.out | apply below_alloc | apply pw_below_drewN | apply below_drew1 | refine below_set ?_ GB17.out) | exact HB.out)⟩⟩
              ·rw [if_neg c13] at H; exact absurd H (by simp)
             ·rw [if_neg c12] at H; exact absurd H (by simp)
            ·rw [if_neg c11] at H; exact absurd H (by simp)
           ·rw [if_neg c10] at H; exact absurd H (by simp)
          ·rw [if_neg c9] at H; have c9b0 : decide (x5_2 < ((rd_L1 l0 x4_1).length : Int)) = false := decide_eq_false c9
           clear c9; have H' := Aside0.mk H
           clear H; have p164 : 0 ≤ (x4_1 : Int) := of_decide_eq_true (by with_reducible assumption)
           have q164 : x4_1 < (l0.length : Int) := of_decide_eq_true (by with_reducible assumption)
           obtain ⟨ad164, A164_0, c164_0, e164, hx164_0, hl164_0, hi164_0⟩ := at_L1 HR0.out x4_1 p164 q164; cases e164; replace hx164_0 := (HB.out.cell (World.block_lt_of_cell? w _ hx164_0)).trans hx164_0; have HR164_0 := Aside0.mk hi164_0; have HC164_0 := Aside0.mk hl164_0; clear hi164_0 hl164_0; replace p164 := eq_true p164; replace q164 := eq_true q164; go_wp2
           go_roundg k2
           case measure => have := HK1.out; have := HK2.out; omega
           case rel => exact ⟨(x3_2), (wrap64 (x4_1 + 1)), (by first | rfl | (simp; done) | (simp [*]; done)), H', ⟨by have := HK1.out; have := HK2.out; omega⟩, ⟨by (with_reducible repeat (first | apply Kd.S_alloc | apply Kd.S_drewN | apply Kd.S_drew)); exact HO_3.out⟩, ⟨by repeat (first | (with_reducible first | exact HB.out | apply below_alloc | apply pw_below_drewN | apply below_drew1) | exact HB.out)⟩⟩
         ·rw [if_neg c8] at H; exact absurd H (by simp)
        ·rw [if_neg c7] at H; exact absurd H (by simp)
     ·rw [if_neg c6] at H; have c6b0 : decide (x4_1 < (l0.length : Int)) = false := decide_eq_false c6
      clear c6; obtain rfl := Option.some.inj H; go_wp2
      go_ret
      exact ⟨_, by first | rfl | (simp [errW_none, errW_some] <;> rfl) | (simp [*, errW_none, errW_some] <;> rfl), by (with_reducible repeat (first | apply Kd.S_alloc | apply Kd.S_drewN | apply Kd.S_drew)); exact HO_3.out, by repeat (first | (with_reducible first | exact HB.out | apply below_alloc | apply pw_below_drewN | apply below_drew1) | exact HB.out)⟩
  ·rw [if_neg c3] at H; exact absurd H (by simp)
 ·rw [if_neg c2] at H; exact absurd H (by simp)
def r7_exits.l0 : Nat → List (List Int) → List Int → Int → Option (List Int)
 | 0, _, _, _ => none
 | k + 1, x0, x3, x4 => if x4 < (x0.length : Int) then (if 0 ≤ x4 then (if ((rd_L1 x0 x4).length : Int) = 0 then (if x3.length < 17592186044416 then (r7_exits.l0 k x0 (x3 ++ [x4]) (wrap64 (x4 + 1))) else (none)) else (r7_exits.l0 k x0 x3 (wrap64 (x4 + 1)))) else (none)) else (some x3)
def r7_exits.f (k : Nat) (l0 : List (List Int)) : Option (List Int) := r7_exits.l0 k l0 ([] : List Int) 0
set_option maxHeartbeats 8000000 in
set_option maxRecDepth 100000 in
theorem r7_exits.calls (k : Nat) (A0 : Option Addr) (c0 : Nat) (l0 : List (List Int)) (r : List Int) (w : World) (hr0 : Kd.C (Kd.slice 3 (Kd.int .i64)) w A0 l0.length l0) (hc0 : l0.length ≤ c0) (h : r7_exits.f k l0 = some r) :
  Calls Try.prog 64 #[.slice A0 l0.length c0] w fun e w' => ∃ v0_ : Value, e = .returned (v0_) ∧ Kd.R (Kd.int .i64) 3 w' w.heap.size (fun _ => True) v0_ r ∧ Below w.heap.size w w' := by
 have HR0 := Aside0.mk hr0; have HC0 := Aside0.mk hc0; clear hr0 hc0; have HB := Aside0.mk (Below.refl w.heap.size w); have H : (r7_exits.l0 k l0 ([] : List Int) 0) = some r := h
 clear h; have H' := Aside0.mk H
 clear H; go_enter Try.func64, Try.ntmps64
 go_wp2
 go_loopg [3, 4] k (fun kq v3 v4 w' => ∃ (x3_1 : List Int) (x4_1 : Int), v4 = .int .i64 x4_1 ∧ Aside0 (r7_exits.l0 kq l0 x3_1 x4_1 = some r) ∧ Aside0 (kq ≤ k) ∧ Aside0 (Kd.R (Kd.int .i64) 3 w' w.heap.size (fun _ => True) v3 x3_1) ∧ Aside0 (Below w.heap.size w w'))
 case atStart => exact ⟨(([] : List Int)), (0), (by first | rfl | (simp; done) | (simp [*]; done)), H', ⟨Nat.le_refl _⟩, ⟨by first | exact Kd.R_nil _ _ _ _ _ | exact Kd.N_nil _ _ _ _ _ | exact Kd.V_nil _ _ _ _ _ | exact Kd.Q_nil _ _ _ _ _ | exact Kd.S_nil _ _ _ _ _⟩, ⟨by repeat (first | (with_reducible first | exact HB.out | apply below_alloc | apply pw_below_drewN | apply below_drew1) | exact HB.out)⟩⟩
 case round =>
  clear H'; obtain ⟨x3_1, x4_1, rfl, HA, HK1, HO_3, HB⟩ := hrel; cases gk with
  | zero => exact absurd HA.out (by simp [r7_exits.l0])
  | succ k1 =>
   have H := HA.out; clear HA; simp only [r7_exits.l0] at H
   by_cases c2 : x4_1 < (l0.length : Int)
   ·rw [if_pos c2] at H; have c2b0 : decide (x4_1 < (l0.length : Int)) = true := decide_eq_true c2
    clear c2; by_cases c3 : 0 ≤ x4_1
    ·rw [if_pos c3] at H; have c3b0 : decide (0 ≤ x4_1) = true := decide_eq_true c3
     clear c3; by_cases c4 : ((rd_L1 l0 x4_1).length : Int) = 0
     ·rw [if_pos c4] at H; have c4b0 : (((rd_L1 l0 x4_1).length : Int) == 0) = true := beq_iff_eq.mpr c4
      have c4b1 : (((rd_L1 l0 x4_1).length : Int) != 0) = false := bne_eq_false_iff_eq.mpr c4
      clear c4; by_cases c5 : x3_1.length < 17592186044416
      ·rw [if_pos c5] at H; have LMc5 := Aside0.mk c5; clear c5; obtain ⟨y175, hy175⟩ : ∃ y_ : List Int, y_ = (x3_1 ++ [x4_1]) := ⟨_, rfl⟩; replace H : (r7_exits.l0 k1 l0 y175 (wrap64 (x4_1 + 1))) = some r := by first | (with_reducible first | (rw [hy175]; exact H) | exact H) | (have H2_ := (Option.bind_some _ _).symm.trans H; first | with_reducible exact H2_ | (rw [hy175]; exact H2_)) | (rw [hy175]; exact H) | exact H
       have Ny175 := Aside0.mk hy175; clear hy175; have H' := Aside0.mk H
       clear H; have p174 : 0 ≤ (x4_1 : Int) := of_decide_eq_true (by with_reducible assumption)
       have q174 : x4_1 < (l0.length : Int) := of_decide_eq_true (by with_reducible assumption)
       obtain ⟨ad174, A174_0, c174_0, e174, hx174_0, hl174_0, hi174_0⟩ := at_L1 HR0.out x4_1 p174 q174; cases e174; replace hx174_0 := (HB.out.cell (World.block_lt_of_cell? w _ hx174_0)).trans hx174_0; have HR174_0 := Aside0.mk hi174_0; have HC174_0 := Aside0.mk hl174_0; clear hi174_0 hl174_0; replace p174 := eq_true p174; replace q174 := eq_true q174; go_wp2_with (first | ((with_reducible refine gate_builtin (b := .append) (xs := #[.tmp 17, .tmp 19]) rfl ?_); at_builtin; refine Kd.R_append (Kd.int .i64) (w0 := w) w.heap.size rfl (.tmp 17) (.tmp 19) 33 3 (.int .i64 0) 8 rfl Try.underlying33 info3 rfl (by decide) (by omega) u3 x3_1 x4_1 [.int .i64 x4_1] (fun _ => True) (fun _ => False) rfl rfl ?aP (fun _ hk => hk.elim) ?aF ?aO ?aB ?aS ?aL ?_; (case aP => exact rfl); (case aB => exact (by repeat (first | (with_reducible first | exact HB.out | apply below_alloc | apply pw_below_drewN | apply below_drew1) | exact HB.out))); (case aF => exact (fun _ _ => trivial)); (case aO => exact (by (with_reducible repeat (first | apply Kd.R_alloc | apply Kd.R_drewN | apply Kd.R_drew)); exact HO_3.out)); (case aS => exact (below_size (by repeat (first | (with_reducible first | exact HB.out | apply below_alloc | apply pw_below_drewN | apply below_drew1) | exact HB.out)))); (case aL => have := LMc5.out; omega); intro v176 w6 ho hb hg hat; rw [← Ny175.out] at ho; have n0_ := Aside0.mk (hb); have n1_ := Aside0.mk (ho); clear HB; clear HO_3; have HB := n0_; have HO177 := n1_; clear n0_ n1_; clear ho hb hg hat))
       go_roundg k1
       case measure => have := HK1.out; omega
       case rel => exact ⟨(y175), (wrap64 (x4_1 + 1)), (by first | rfl | (simp; done) | (simp [*]; done)), H', ⟨by have := HK1.out; omega⟩, ⟨by (with_reducible repeat (first | apply Kd.R_alloc | apply Kd.R_drewN | apply Kd.R_drew)); exact HO177.out⟩, ⟨by repeat (first | (with_reducible first | exact HB.out | apply below_alloc | apply pw_below_drewN | apply below_drew1) | exact HB.out)⟩⟩
      ·rw [if_neg c5] at H; exact absurd H (by simp)
     ·rw [if_neg c4] at H; have c4b0 : (((rd_L1 l0 x4_1).length : Int) == 0) = false := beq_eq_false_iff_ne.mpr c4
      have c4b1 : (((rd_L1 l0 x4_1).length : Int) != 0) = true := bne_iff_ne.mpr c4
      have c4b2 : ¬ ((rd_L1 l0 x4_1) = []) := fun h_ => c4 (by rw [h_]; rfl)
      have H' := Aside0.mk H
      clear H; have p174 : 0 ≤ (x4_1 : Int) := of_decide_eq_true (by with_reducible assumption)
      have q174 : x4_1 < (l0.length : Int) := of_decide_eq_true (by with_reducible assumption)
      obtain ⟨ad174, A174_0, c174_0, e174, hx174_0, hl174_0, hi174_0⟩ := at_L1 HR0.out x4_1 p174 q174; cases e174; replace hx174_0 := (HB.out.cell (World.block_lt_of_cell? w _ hx174_0)).trans hx174_0; have HR174_0 := Aside0.mk hi174_0; have HC174_0 := Aside0.mk hl174_0; clear hi174_0 hl174_0; replace p174 := eq_true p174; replace q174 := eq_true q174; go_wp2
      go_roundg k1
      case measure => have := HK1.out; omega
      case rel => exact ⟨(x3_1), (wrap64 (x4_1 + 1)), (by first | rfl | (simp; done) | (simp [*]; done)), H', ⟨by have := HK1.out; omega⟩, ⟨by (with_reducible repeat (first | apply Kd.R_alloc | apply Kd.R_drewN | apply Kd.R_drew)); exact HO_3.out⟩, ⟨by repeat (first | (with_reducible first | exact HB.out | apply below_alloc | apply pw_below_drewN | apply below_drew1) | exact HB.out)⟩⟩
    ·rw [if_neg c3] at H; exact absurd H (by simp)
   ·rw [if_neg c2] at H; have c2b0 : decide (x4_1 < (l0.length : Int)) = false := decide_eq_false c2
    clear c2; obtain rfl := Option.some.inj H; go_wp2
    go_ret
    exact ⟨_, by first | rfl | (simp [errW_none, errW_some] <;> rfl) | (simp [*, errW_none, errW_some] <;> rfl), by (with_reducible repeat (first | apply Kd.R_alloc | apply Kd.R_drewN | apply Kd.R_drew)); exact HO_3.out, by repeat (first | (with_reducible first | exact HB.out | apply below_alloc | apply pw_below_drewN | apply below_drew1) | exact HB.out)⟩
def r7_Reached.f (k : Nat) (l0 : List (List Int)) : Option (List Bool) := (r7_From.f k l0 (([0] : List Int)) (-1)).bind fun t181 => (some t181)
set_option maxHeartbeats 8000000 in
set_option maxRecDepth 100000 in
theorem r7_Reached.calls (k : Nat) (A0 : Option Addr) (c0 : Nat) (l0 : List (List Int)) (r : List Bool) (w : World) (hr0 : Kd.C (Kd.slice 3 (Kd.int .i64)) w A0 l0.length l0) (hc0 : l0.length ≤ c0) (h : r7_Reached.f k l0 = some r) :
  Calls Try.prog 33 #[.slice A0 l0.length c0] w fun e w' => ∃ v0_ : Value, e = .returned (v0_) ∧ Kd.R Kd.bool 4 w' w.heap.size (fun _ => True) v0_ r ∧ Below w.heap.size w w' := by
 have HR0 := Aside0.mk hr0; have HC0 := Aside0.mk hc0; clear hr0 hc0; have HB := Aside0.mk (Below.refl w.heap.size w); have H : ((r7_From.f k l0 (([0] : List Int)) (-1)).bind fun t181 => (some t181)) = some r := h
 clear h; obtain ⟨y178, hy178⟩ : ∃ y_ : List Int, y_ = (([0] : List Int)) := ⟨_, rfl⟩; replace H : ((r7_From.f k l0 y178 (-1)).bind fun t181 => (some t181)) = some r := by first | (with_reducible first | (rw [hy178]; exact H) | exact H) | (have H2_ := (Option.bind_some _ _).symm.trans H; first | with_reducible exact H2_ | (rw [hy178]; exact H2_)) | (rw [hy178]; exact H) | exact H
 have Ny178 := Aside0.mk hy178; clear hy178; replace H := Option.bind_eq_some_iff.mp H; obtain ⟨t181, A20, H⟩ := H; replace H : (some t181) = some r := H; have A2 := Aside0.mk A20; clear A20; obtain rfl := Option.some.inj H; go_enter Try.func33, Try.ntmps33
 go_wp2_with (first | ((with_reducible refine gate_dst (N := 4) rfl ?_); refine Kd.R_lit (Kd.int .i64) _ 3 ?hg (N := 4) ?hd (xs := ([0] : List Int)) (inner := [.int .i64 0]) (ok := fun _ => True) (okp := fun _ => True) ?hr ?hp (fun _ hk => hk) trivial (Below.refl _ _) (Nat.le_refl _) (by simp) ?_; (case hd => rfl); (case hg => rfl); (case hr => first | (go_simp; done) | (go_simp; rfl)); (case hp => exact (Reps.one (show Kd.M (Kd.int .i64) _ _ _ 0 [.int .i64 0] from rfl) (Reps.none _ _))); intro v179 w3 ho4 hb hg_ hnew_; clear hg_ hnew_; (first | rw [← Ny178.out] at ho4 | (simp only [Int.reduceToNat] at ho4; rw [← Ny178.out] at ho4)); have n0_ := Aside0.mk (Kd.R_lower ho4 (below_size (by repeat (first | (with_reducible first | exact HB.out | apply below_alloc | apply pw_below_drewN | apply below_drew1) | exact HB.out)))); have n1_ := Aside0.mk (below_step (by repeat (first | (with_reducible first | exact HB.out | apply below_alloc | apply pw_below_drewN | apply below_drew1) | exact HB.out)) hb); clear HB; have HO180 := n0_; have HB := n1_; clear n0_ n1_; clear hb ho4; obtain ⟨Ao5, co5, eo5⟩ := Kd.R_slice HO180.out; subst eo5) | ((with_reducible refine gate_callee (f := 36) rfl ?_); refine goesL_ (some 5) rfl rfl Try.func36 (by kernel_rfl) rfl #[.slice A0 l0.length c0, .slice Ao5 y178.length co5, .int .i64 (-1)] rfl (by (try simp only [List.map_toArray, List.map_cons, List.map_nil]); first | done | rfl | (simp only [List.length_drop, List.length_take]; rfl)) ?_; (with_reducible refine (r7_From.calls k _ _ l0 _ _ y178 (-1) t181 _ ?side1 ?side2 ?side3 ?side4 A2.out).mono ?_); (case side1 => repeat (first | exact (Kd.C_below HR0.out HB.out) | with_reducible first | refine Kd.C_alloc ?_ _ | refine Kd.C_drewN ?_ _ | refine Kd.C_drew ?_)); (case side2 => exact HC0.out); (case side3 => repeat (first | exact (Kd.R_reads' HO180.out).2.2 | with_reducible first | refine Kd.C_alloc ?_ _ | refine Kd.C_drewN ?_ _ | refine Kd.C_drew ?_)); (case side4 => exact (Kd.R_reads' HO180.out).2.1); rintro e w6 ⟨v182, rfl, ho0, hb⟩; refine ⟨_, rfl, ?_⟩; have n0_ := Aside0.mk (Kd.R_below (by (with_reducible repeat (first | apply Kd.R_alloc | apply Kd.R_drewN | apply Kd.R_drew)); exact HO180.out) hb); have n1_ := Aside0.mk (Kd.R_lower ho0 (below_size (by repeat (first | (with_reducible first | exact HB.out | apply below_alloc | apply pw_below_drewN | apply below_drew1) | exact HB.out)))); have n2_ := Aside0.mk (below_step (by repeat (first | (with_reducible first | exact HB.out | apply below_alloc | apply pw_below_drewN | apply below_drew1) | exact HB.out)) hb); clear HO180; clear HB; have HO180 := n0_; have HO183 := n1_; have HB := n2_; clear n0_ n1_ n2_; (try clear hb); (try clear hb2); (try clear hk); (try clear hi); (try clear ho0)))
 go_ret
 exact ⟨_, by first | rfl | (simp [errW_none, errW_some] <;> rfl) | (simp [*, errW_none, errW_some] <;> rfl), by (with_reducible repeat (first | apply Kd.R_alloc | apply Kd.R_drewN | apply Kd.R_drew)); exact HO183.out, by repeat (first | (with_reducible first | exact HB.out | apply below_alloc | apply pw_below_drewN | apply below_drew1) | exact HB.out)⟩
def r7_Ending.f (k : Nat) (l0 : List (List Int)) : Option (List Bool) := (r7_Turned.f k l0).bind fun t184 => ((r7_exits.f k l0).bind fun t187 => ((r7_From.f k t184 t187 (-1)).bind fun t190 => (some t190)))
set_option maxHeartbeats 8000000 in
set_option maxRecDepth 100000 in
theorem r7_Ending.calls (k : Nat) (A0 : Option Addr) (c0 : Nat) (l0 : List (List Int)) (r : List Bool) (w : World) (hr0 : Kd.C (Kd.slice 3 (Kd.int .i64)) w A0 l0.length l0) (hc0 : l0.length ≤ c0) (h : r7_Ending.f k l0 = some r) :
  Calls Try.prog 34 #[.slice A0 l0.length c0] w fun e w' => ∃ v0_ : Value, e = .returned (v0_) ∧ Kd.R Kd.bool 4 w' w.heap.size (fun _ => True) v0_ r ∧ Below w.heap.size w w' := by
 have HR0 := Aside0.mk hr0; have HC0 := Aside0.mk hc0; clear hr0 hc0; have HB := Aside0.mk (Below.refl w.heap.size w); have H : ((r7_Turned.f k l0).bind fun t184 => ((r7_exits.f k l0).bind fun t187 => ((r7_From.f k t184 t187 (-1)).bind fun t190 => (some t190)))) = some r := h
 clear h; replace H := Option.bind_eq_some_iff.mp H; obtain ⟨t184, A20, H⟩ := H; replace H : ((r7_exits.f k l0).bind fun t187 => ((r7_From.f k t184 t187 (-1)).bind fun t190 => (some t190))) = some r := H
 have A2 := Aside0.mk A20; clear A20; replace H := Option.bind_eq_some_iff.mp H; obtain ⟨t187, A30, H⟩ := H; replace H : ((r7_From.f k t184 t187 (-1)).bind fun t190 => (some t190)) = some r := H
 have A3 := Aside0.mk A30; clear A30; replace H := Option.bind_eq_some_iff.mp H; obtain ⟨t190, A40, H⟩ := H; replace H : (some t190) = some r := H; have A4 := Aside0.mk A40; clear A40; obtain rfl := Option.some.inj H; go_enter Try.func34, Try.ntmps34
 go_wp2_with (first | ((with_reducible refine gate_callee (f := 35) rfl ?_); refine goesL_ (some 4) rfl rfl Try.func35 (by kernel_rfl) rfl #[.slice A0 l0.length c0] rfl (by (try simp only [List.map_toArray, List.map_cons, List.map_nil]); first | done | rfl | (simp only [List.length_drop, List.length_take]; rfl)) ?_; (with_reducible refine (r7_Turned.calls k _ _ l0 t184 _ ?side1 ?side2 A2.out).mono ?_); (case side1 => repeat (first | exact HR0.out | with_reducible first | refine Kd.C_alloc ?_ _ | refine Kd.C_drewN ?_ _ | refine Kd.C_drew ?_)); (case side2 => exact HC0.out); rintro e w5 ⟨v185, rfl, ho0, hb⟩; refine ⟨_, rfl, ?_⟩; have n0_ := Aside0.mk (Kd.S_lower ho0 (below_size (by repeat (first | (with_reducible first | exact HB.out | apply below_alloc | apply pw_below_drewN | apply below_drew1) | exact HB.out)))); have n1_ := Aside0.mk (below_step (by repeat (first | (with_reducible first | exact HB.out | apply below_alloc | apply pw_below_drewN | apply below_drew1) | exact HB.out)) hb); clear HB; have HO186 := n0_; have HB := n1_; clear n0_ n1_; (try clear hb); (try clear hb2); (try clear hk); (try clear hi); (try clear ho0)) | ((with_reducible refine gate_callee (f := 64) rfl ?_); refine goesL_ (some 6) rfl rfl Try.func64 (by kernel_rfl) rfl #[.slice A0 l0.length c0] rfl (by (try simp only [List.map_toArray, List.map_cons, List.map_nil]); first | done | rfl | (simp only [List.length_drop, List.length_take]; rfl)) ?_; (with_reducible refine (r7_exits.calls k _ _ l0 t187 _ ?side1 ?side2 A3.out).mono ?_); (case side1 => repeat (first | exact (Kd.C_below HR0.out HB.out) | with_reducible first | refine Kd.C_alloc ?_ _ | refine Kd.C_drewN ?_ _ | refine Kd.C_drew ?_)); (case side2 => exact HC0.out); rintro e w6 ⟨v188, rfl, ho0, hb⟩; refine ⟨_, rfl, ?_⟩; have n0_ := Aside0.mk (Kd.S_elder' (by (with_reducible repeat (first | apply Kd.S_alloc | apply Kd.S_drewN | apply Kd.S_drew)); exact HO186.out) (Kd.R_base ho0) hb); have n1_ := Aside0.mk (Kd.R_lower ho0 (below_size (by repeat (first | (with_reducible first | exact HB.out | apply below_alloc | apply pw_below_drewN | apply below_drew1) | exact HB.out)))); have n2_ := Aside0.mk (below_step (by repeat (first | (with_reducible first | exact HB.out | apply below_alloc | apply pw_below_drewN | apply below_drew1) | exact HB.out)) hb); clear HO186; clear HB; have HO186 := n0_; have HO189 := n1_; have HB := n2_; clear n0_ n1_ n2_; (try clear hb); (try clear hb2); (try clear hk); (try clear hi); (try clear ho0); obtain ⟨Ao7, co7, eo7⟩ := Kd.S_slice HO186.out; subst eo7; obtain ⟨Ao8, co8, eo8⟩ := Kd.R_slice HO189.out; subst eo8) | ((with_reducible refine gate_callee (f := 36) rfl ?_); refine goesL_ (some 7) rfl rfl Try.func36 (by kernel_rfl) rfl #[.slice Ao7 t184.length co7, .slice Ao8 t187.length co8, .int .i64 (-1)] rfl (by (try simp only [List.map_toArray, List.map_cons, List.map_nil]); first | done | rfl | (simp only [List.length_drop, List.length_take]; rfl)) ?_; (with_reducible refine (r7_From.calls k _ _ t184 _ _ t187 (-1) t190 _ ?side1 ?side2 ?side3 ?side4 A4.out).mono ?_); (case side1 => repeat (first | exact (Kd.S_reads' HO186.out).2.2 | with_reducible first | refine Kd.C_alloc ?_ _ | refine Kd.C_drewN ?_ _ | refine Kd.C_drew ?_)); (case side2 => exact (Kd.S_reads' HO186.out).2.1); (case side3 => repeat (first | exact (Kd.R_reads' HO189.out).2.2 | with_reducible first | refine Kd.C_alloc ?_ _ | refine Kd.C_drewN ?_ _ | refine Kd.C_drew ?_)); (case side4 => exact (Kd.R_reads' HO189.out).2.1); rintro e w9 ⟨v191, rfl, ho0, hb⟩; refine ⟨_, rfl, ?_⟩; have n0_ := Aside0.mk (Kd.S_below (by (with_reducible repeat (first | apply Kd.S_alloc | apply Kd.S_drewN | apply Kd.S_drew)); exact HO186.out) hb); have n1_ := Aside0.mk (Kd.R_below (by (with_reducible repeat (first | apply Kd.R_alloc | apply Kd.R_drewN | apply Kd.R_drew)); exact HO189.out) hb); have n2_ := Aside0.mk (Kd.R_lower ho0 (below_size (by repeat (first | (with_reducible first | exact HB.out | apply below_alloc | apply pw_below_drewN | apply below_drew1) | exact HB.out)))); have n3_ := Aside0.mk (below_step (by repeat (first | (with_reducible first | exact HB.out | apply below_alloc | apply pw_below_drewN | apply below_drew1) | exact HB.out)) hb); clear HO186; clear HO189; clear HB; have HO186 := n0_; have HO189 := n1_; have HO192 := n2_; have HB := n3_; clear n0_ n1_ n2_ n3_; (try clear hb); (try clear hb2); (try clear hk); (try clear hi); (try clear ho0)))
 go_ret
 exact ⟨_, by first | rfl | (simp [errW_none, errW_some] <;> rfl) | (simp [*, errW_none, errW_some] <;> rfl), by (with_reducible repeat (first | apply Kd.R_alloc | apply Kd.R_drewN | apply Kd.R_drew)); exact HO192.out, by repeat (first | (with_reducible first | exact HB.out | apply below_alloc | apply pw_below_drewN | apply below_drew1) | exact HB.out)⟩
end Go.Proofs.Ytjjedbcgkljdeaa.A
end
section
namespace Go.Proofs.Ytjjedbcgkljdeaa.A
open Go.RowKit Go.Proofs.YtjjedbcgkljdeaaW.PrintWords Go.Proofs.YtjjedbcgkljdeaaW.PrintLast Go.Proofs.YtjjedbcgkljdeaaW.PrintMore
set_option linter.unusedVariables false
set_option linter.unusedSimpArgs false
mutual
def r7_PostTable.l0 : Nat → List (List Int) → List Bool → List (List Int) → List (List Bool) → Int → Option ((List (List Bool)))
 | 0, _, _, _, _, _ => none
 | k + 1, x0, x3, x4, x5, x6 => if x6 < (x0.length : Int) then (if 0 ≤ (x0.length : Int) then (if ((x0.length : Int) : Int).toNat ≤ 281474976710656 then ((r7_exits.f k x0).bind fun t249 => ((r7_From.f k x4 t249 x6).bind fun t252 => (r7_PostTable.l1 k x0 x3 x4 x5 x6 (List.replicate ((x0.length : Int) : Int).toNat false) t252 0))) else (none)) else (none)) else (some x5)
def r7_PostTable.l1 : Nat → List (List Int) → List Bool → List (List Int) → List (List Bool) → Int → List Bool → List Bool → Int → Option ((List (List Bool)))
 | 0, _, _, _, _, _, _, _, _ => none
 | k + 1, x0, x3, x4, x5, x6, x7, x8, x9 => if x9 < (x0.length : Int) then (if 0 ≤ x9 then (if x9 < (x3.length : Int) then (if rdOf false x3 x9 = true then (if x9 < (x8.length : Int) then (if x9 < (x7.length : Int) then (r7_PostTable.l1 k x0 x3 x4 x5 x6 (x7.set (x9 : Int).toNat (!(rdOf false x8 x9))) x8 (wrap64 (x9 + 1))) else (none)) else (none)) else (if x9 < (x7.length : Int) then (r7_PostTable.l1 k x0 x3 x4 x5 x6 (x7.set (x9 : Int).toNat false) x8 (wrap64 (x9 + 1))) else (none))) else (none)) else (none)) else (if x5.length < 5864062014805 then (r7_PostTable.l0 k x0 x3 x4 (x5 ++ [x7]) (wrap64 (x6 + 1))) else (none))
end
def r7_PostTable.f (k : Nat) (l0 : List (List Int)) : Option ((List (List Bool))) := (r7_Ending.f k l0).bind fun t240 => ((r7_Turned.f k l0).bind fun t243 => (r7_PostTable.l0 k l0 t240 t243 ([] : List (List Bool)) 0))
set_option maxHeartbeats 8000000 in
set_option maxRecDepth 100000 in
theorem r7_PostTable.calls (k : Nat) (A0 : Option Addr) (c0 : Nat) (l0 : List (List Int)) (r : List (List Bool)) (w : World) (hr0 : Kd.C (Kd.slice 3 (Kd.int .i64)) w A0 l0.length l0) (hc0 : l0.length ≤ c0) (h : r7_PostTable.f k l0 = some r) :
  Calls Try.prog 44 #[.slice A0 l0.length c0] w fun e w' => ∃ v0_ : Value, e = .returned (v0_) ∧ Kd.S (Kd.slice 4 Kd.bool) 46 w' w.heap.size (fun _ => True) v0_ r ∧ Below w.heap.size w w' := by
 have HR0 := Aside0.mk hr0; have HC0 := Aside0.mk hc0; clear hr0 hc0; have HB := Aside0.mk (Below.refl w.heap.size w); have H : ((r7_Ending.f k l0).bind fun t240 => ((r7_Turned.f k l0).bind fun t243 => (r7_PostTable.l0 k l0 t240 t243 ([] : List (List Bool)) 0))) = some r := h
 clear h; replace H := Option.bind_eq_some_iff.mp H; obtain ⟨t240, A20, H⟩ := H; replace H : ((r7_Turned.f k l0).bind fun t243 => (r7_PostTable.l0 k l0 t240 t243 ([] : List (List Bool)) 0)) = some r := H
 have A2 := Aside0.mk A20; clear A20; replace H := Option.bind_eq_some_iff.mp H; obtain ⟨t243, A30, H⟩ := H; replace H : (r7_PostTable.l0 k l0 t240 t243 ([] : List (List Bool)) 0) = some r := H; have A3 := Aside0.mk A30; clear A30; have H' := Aside0.mk H
 clear H; go_enter Try.func44, Try.ntmps44
 go_wp2_with (first | ((with_reducible refine gate_callee (f := 34) rfl ?_); refine goesL_ (some 11) rfl rfl Try.func34 (by kernel_rfl) rfl #[.slice A0 l0.length c0] rfl (by (try simp only [List.map_toArray, List.map_cons, List.map_nil]); first | done | rfl | (simp only [List.length_drop, List.length_take]; rfl)) ?_; (with_reducible refine (r7_Ending.calls k _ _ l0 t240 _ ?side1 ?side2 A2.out).mono ?_); (case side1 => repeat (first | exact HR0.out | with_reducible first | refine Kd.C_alloc ?_ _ | refine Kd.C_drewN ?_ _ | refine Kd.C_drew ?_)); (case side2 => exact HC0.out); rintro e w4 ⟨v241, rfl, ho0, hb⟩; refine ⟨_, rfl, ?_⟩; have n0_ := Aside0.mk (Kd.R_lower ho0 (below_size (by repeat (first | (with_reducible first | exact HB.out | apply below_alloc | apply pw_below_drewN | apply below_drew1) | exact HB.out)))); have n1_ := Aside0.mk (below_step (by repeat (first | (with_reducible first | exact HB.out | apply below_alloc | apply pw_below_drewN | apply below_drew1) | exact HB.out)) hb); clear HB; have HO242 := n0_; have HB := n1_; clear n0_ n1_; (try clear hb); (try clear hb2); (try clear hk); (try clear hi); (try clear ho0)) | ((with_reducible refine gate_callee (f := 35) rfl ?_); refine goesL_ (some 13) rfl rfl Try.func35 (by kernel_rfl) rfl #[.slice A0 l0.length c0] rfl (by (try simp only [List.map_toArray, List.map_cons, List.map_nil]); first | done | rfl | (simp only [List.length_drop, List.length_take]; rfl)) ?_; (with_reducible refine (r7_Turned.calls k _ _ l0 t243 _ ?side1 ?side2 A3.out).mono ?_); (case side1 => repeat (first | exact (Kd.C_below HR0.out HB.out) | with_reducible first | refine Kd.C_alloc ?_ _ | refine Kd.C_drewN ?_ _ | refine Kd.C_drew ?_)); (case side2 => exact HC0.out); rintro e w5 ⟨v244, rfl, ho0, hb⟩; refine ⟨_, rfl, ?_⟩; have n0_ := Aside0.mk (Kd.R_below (by (with_reducible repeat (first | apply Kd.R_alloc | apply Kd.R_drewN | apply Kd.R_drew)); exact HO242.out) hb); have n1_ := Aside0.mk (Kd.S_lower ho0 (below_size (by repeat (first | (with_reducible first | exact HB.out | apply below_alloc | apply pw_below_drewN | apply below_drew1) | exact HB.out)))); have n2_ := Aside0.mk (below_step (by repeat (first | (with_reducible first | exact HB.out | apply below_alloc | apply pw_below_drewN | apply below_drew1) | exact HB.out)) hb); clear HO242; clear HB; have HO242 := n0_; have HO245 := n1_; have HB := n2_; clear n0_ n1_ n2_; (try clear hb); (try clear hb2); (try clear hk); (try clear hi); (try clear ho0)))
 go_loopg [5, 6] k (fun kq v5 v6 w' => ∃ (x3_1 : List Bool) (x5_1 : List (List Bool)) (x6_1 : Int), v6 = .int .i64 x6_1 ∧ Aside0 (r7_PostTable.l0 kq l0 x3_1 t243 x5_1 x6_1 = some r) ∧ Aside0 (kq ≤ k) ∧ Aside0 (Kd.R Kd.bool 4 w' w.heap.size (fun _ => True) v241 x3_1) ∧ Aside0 (Kd.S (Kd.slice 3 (Kd.int .i64)) 33 w' w.heap.size (fun _ => True) v244 t243) ∧ Aside0 (Kd.S (Kd.slice 4 Kd.bool) 46 w' w.heap.size (fun k_ => some k_ ≠ (v241 : Value).ownBlock) v5 x5_1) ∧ Aside0 (Below w.heap.size w w'))
 case atStart => exact ⟨(t240), (([] : List (List Bool))), (0), (by first | rfl | (simp; done) | (simp [*]; done)), H', ⟨Nat.le_refl _⟩, ⟨by (with_reducible repeat (first | apply Kd.R_alloc | apply Kd.R_drewN | apply Kd.R_drew)); exact HO242.out⟩, ⟨by (with_reducible repeat (first | apply Kd.S_alloc | apply Kd.S_drewN | apply Kd.S_drew)); exact HO245.out⟩, ⟨by first | exact Kd.S_nil _ _ _ _ _ | exact Kd.N_nil _ _ _ _ _ | exact Kd.V_nil _ _ _ _ _ | exact Kd.Q_nil _ _ _ _ _ | exact Kd.R_nil _ _ _ _ _⟩, ⟨by repeat (first | (with_reducible first | exact HB.out | apply below_alloc | apply pw_below_drewN | apply below_drew1) | exact HB.out)⟩⟩
 case round =>
  clear H'; try clear p2
  try clear c3
  try clear c4
  obtain ⟨x3_1, x5_1, x6_1, rfl, HA, HK1, HO_3, HO_4, HO_5, HB⟩ := hrel; cases gk with
  | zero => exact absurd HA.out (by simp [r7_PostTable.l0])
  | succ k1 =>
   have H := HA.out; clear HA; simp only [r7_PostTable.l0] at H
   by_cases c6 : x6_1 < (l0.length : Int)
   ·rw [if_pos c6] at H; have c6b0 : decide (x6_1 < (l0.length : Int)) = true := decide_eq_true c6
    clear c6; by_cases c7 : 0 ≤ (l0.length : Int)
    ·rw [if_pos c7] at H; have c7b0 := eq_true c7; have c7b1 : decide (0 ≤ (l0.length : Int)) = true := decide_eq_true c7
     clear c7; by_cases c8 : ((l0.length : Int) : Int).toNat ≤ 281474976710656
     ·rw [if_pos c8] at H; have c8b0 := eq_true c8; have c8b1 : decide (((l0.length : Int) : Int).toNat ≤ 281474976710656) = true := decide_eq_true c8
      clear c8; obtain ⟨y246, hy246⟩ : ∃ y_ : List Bool, y_ = (List.replicate ((l0.length : Int) : Int).toNat false) := ⟨_, rfl⟩; replace H : ((r7_exits.f k1 l0).bind fun t249 => ((r7_From.f k1 t243 t249 x6_1).bind fun t252 => (r7_PostTable.l1 k1 l0 x3_1 t243 x5_1 x6_1 y246 t252 0))) = some r := by first | (with_reducible first | (rw [hy246]; exact H) | exact H) | (have H2_ := (Option.bind_some _ _).symm.trans H; first | with_reducible exact H2_ | (rw [hy246]; exact H2_)) | (rw [hy246]; exact H) | exact H
      have Ny246 := Aside0.mk hy246; clear hy246; replace H := Option.bind_eq_some_iff.mp H; obtain ⟨t249, A90, H⟩ := H; replace H : ((r7_From.f k1 t243 t249 x6_1).bind fun t252 => (r7_PostTable.l1 k1 l0 x3_1 t243 x5_1 x6_1 y246 t252 0)) = some r := H
      have A9 := Aside0.mk A90; clear A90; replace H := Option.bind_eq_some_iff.mp H; obtain ⟨t252, A100, H⟩ := H; replace H : (r7_PostTable.l1 k1 l0 x3_1 t243 x5_1 x6_1 y246 t252 0) = some r := H; have A10 := Aside0.mk A100; clear A100; have H' := Aside0.mk H
      clear H; go_wp2_with (first | ((with_reducible refine gate_dst (N := 22) rfl ?_); refine Kd.R_make Kd.bool _ 4 rfl (N := 22) rfl 46 _ _ rfl (l0.length : Int) rfl rfl Try.underlying46 (.bool false) 1 info4 rfl (by decide) (by omega) false (ok := fun _ => True) (okp := fun _ => True) rfl (fun _ hk => hk) trivial (of_decide_eq_true (by with_reducible assumption)) (Nat.le_trans (Nat.mul_le_mul_right _ (of_decide_eq_true (by with_reducible assumption) : (l0.length : Int).toNat ≤ 281474976710656)) (by omega)) (Below.refl _ _) (Nat.le_refl _) ?_; intro v247 w11 ho12 hb hg_ hnew_; clear hg_ hnew_; (first | rw [← Ny246.out] at ho12 | (simp only [Int.reduceToNat] at ho12; rw [← Ny246.out] at ho12)); have n0_ := Aside0.mk (Kd.R_elder' (by (with_reducible repeat (first | apply Kd.R_alloc | apply Kd.R_drewN | apply Kd.R_drew)); exact HO_3.out) (Kd.R_base ho12) hb); have n1_ := Aside0.mk (Kd.S_below (by (with_reducible repeat (first | apply Kd.S_alloc | apply Kd.S_drewN | apply Kd.S_drew)); exact HO_4.out) hb); have n2_ := Aside0.mk (Kd.S_elder' (by (with_reducible repeat (first | apply Kd.S_alloc | apply Kd.S_drewN | apply Kd.S_drew)); exact HO_5.out) (Kd.R_base ho12) hb); have n3_ := Aside0.mk (Kd.R_lower (Kd.R_new' ho12 (Kd.R_lt (by (with_reducible repeat (first | apply Kd.R_alloc | apply Kd.R_drewN | apply Kd.R_drew)); exact HO_3.out))) (below_size (by repeat (first | (with_reducible first | exact HB.out | apply below_alloc | apply pw_below_drewN | apply below_drew1) | exact HB.out)))); have n4_ := Aside0.mk (below_step (by repeat (first | (with_reducible first | exact HB.out | apply below_alloc | apply pw_below_drewN | apply below_drew1) | exact HB.out)) hb); clear HO_3; clear HO_4; clear HO_5; clear HB; have HO_3 := n0_; have HO_4 := n1_; have HO_5 := n2_; have HO248 := n3_; have HB := n4_; clear n0_ n1_ n2_ n3_ n4_; clear hb ho12) | ((with_reducible refine gate_callee (f := 64) rfl ?_); refine goesL_ (some 25) rfl rfl Try.func64 (by kernel_rfl) rfl #[.slice A0 l0.length c0] rfl (by (try simp only [List.map_toArray, List.map_cons, List.map_nil]); first | done | rfl | (simp only [List.length_drop, List.length_take]; rfl)) ?_; (with_reducible refine (r7_exits.calls k1 _ _ l0 t249 _ ?side1 ?side2 A9.out).mono ?_); (case side1 => repeat (first | exact (Kd.C_below HR0.out HB.out) | with_reducible first | refine Kd.C_alloc ?_ _ | refine Kd.C_drewN ?_ _ | refine Kd.C_drew ?_)); (case side2 => exact HC0.out); rintro e w13 ⟨v250, rfl, ho0, hb⟩; refine ⟨_, rfl, ?_⟩; have n0_ := Aside0.mk (Kd.R_below (by (with_reducible repeat (first | apply Kd.R_alloc | apply Kd.R_drewN | apply Kd.R_drew)); exact HO_3.out) hb); have n1_ := Aside0.mk (Kd.S_elder' (by (with_reducible repeat (first | apply Kd.S_alloc | apply Kd.S_drewN | apply Kd.S_drew)); exact HO_4.out) (Kd.R_base ho0) hb); have n2_ := Aside0.mk (Kd.S_below (by (with_reducible repeat (first | apply Kd.S_alloc | apply Kd.S_drewN | apply Kd.S_drew)); exact HO_5.out) hb); have n3_ := Aside0.mk (Kd.R_below (by (with_reducible repeat (first | apply Kd.R_alloc | apply Kd.R_drewN | apply Kd.R_drew)); exact HO248.out) hb); have n4_ := Aside0.mk (Kd.R_lower ho0 (below_size (by repeat (first | (with_reducible first | exact HB.out | apply below_alloc | apply pw_below_drewN | apply below_drew1) | exact HB.out)))); have n5_ := Aside0.mk (below_step (by repeat (first | (with_reducible first | exact HB.out | apply below_alloc | apply pw_below_drewN | apply below_drew1) | exact HB.out)) hb); clear HO_3; clear HO_4; clear HO_5; clear HO248; clear HB; have HO_3 := n0_; have HO_4 := n1_; have HO_5 := n2_; have HO248 := n3_; have HO251 := n4_; have HB := n5_; clear n0_ n1_ n2_ n3_ n4_ n5_; (try clear hb); (try clear hb2); (try clear hk); (try clear hi); (try clear ho0); obtain ⟨Ao14, co14, eo14⟩ := Kd.S_slice HO_4.out; subst eo14; obtain ⟨Ao15, co15, eo15⟩ := Kd.R_slice HO251.out; subst eo15) | ((with_reducible refine gate_callee (f := 36) rfl ?_); refine goesL_ (some 27) rfl rfl Try.func36 (by kernel_rfl) rfl #[.slice Ao14 t243.length co14, .slice Ao15 t249.length co15, .int .i64 x6_1] rfl (by (try simp only [List.map_toArray, List.map_cons, List.map_nil]); first | done | rfl | (simp only [List.length_drop, List.length_take]; rfl)) ?_; (with_reducible refine (r7_From.calls k1 _ _ t243 _ _ t249 x6_1 t252 _ ?side1 ?side2 ?side3 ?side4 A10.out).mono ?_); (case side1 => repeat (first | exact (Kd.S_reads' HO_4.out).2.2 | with_reducible first | refine Kd.C_alloc ?_ _ | refine Kd.C_drewN ?_ _ | refine Kd.C_drew ?_)); (case side2 => exact (Kd.S_reads' HO_4.out).2.1); (case side3 => repeat (first | exact (Kd.R_reads' HO251.out).2.2 | with_reducible first | refine Kd.C_alloc ?_ _ | refine Kd.C_drewN ?_ _ | refine Kd.C_drew ?_)); (case side4 => exact (Kd.R_reads' HO251.out).2.1); rintro e w16 ⟨v253, rfl, ho0, hb⟩; refine ⟨_, rfl, ?_⟩; have n0_ := Aside0.mk (Kd.R_elder' (by (with_reducible repeat (first | apply Kd.R_alloc | apply Kd.R_drewN | apply Kd.R_drew)); exact HO_3.out) (Kd.R_base ho0) hb); have n1_ := Aside0.mk (Kd.S_below (by (with_reducible repeat (first | apply Kd.S_alloc | apply Kd.S_drewN | apply Kd.S_drew)); exact HO_4.out) hb); have n2_ := Aside0.mk (Kd.S_elder' (by (with_reducible repeat (first | apply Kd.S_alloc | apply Kd.S_drewN | apply Kd.S_drew)); exact HO_5.out) (Kd.R_base ho0) hb); have n3_ := Aside0.mk (Kd.R_elder' (by (with_reducible repeat (first | apply Kd.R_alloc | apply Kd.R_drewN | apply Kd.R_drew)); exact HO248.out) (Kd.R_base ho0) hb); have n4_ := Aside0.mk (Kd.R_below (by (with_reducible repeat (first | apply Kd.R_alloc | apply Kd.R_drewN | apply Kd.R_drew)); exact HO251.out) hb); have n5_ := Aside0.mk (Kd.R_lower (Kd.R_new' (Kd.R_new' ho0 (Kd.R_lt (by (with_reducible repeat (first | apply Kd.R_alloc | apply Kd.R_drewN | apply Kd.R_drew)); exact HO_3.out))) (Kd.R_lt (by (with_reducible repeat (first | apply Kd.R_alloc | apply Kd.R_drewN | apply Kd.R_drew)); exact HO248.out))) (below_size (by repeat (first | (with_reducible first | exact HB.out | apply below_alloc | apply pw_below_drewN | apply below_drew1) | exact HB.out)))); have n6_ := Aside0.mk (below_step (by repeat (first | (with_reducible first | exact HB.out | apply below_alloc | apply pw_below_drewN | apply below_drew1) | exact HB.out)) hb); clear HO_3; clear HO_4; clear HO_5; clear HO248; clear HO251; clear HB; have HO_3 := n0_; have HO_4 := n1_; have HO_5 := n2_; have HO248 := n3_; have HO251 := n4_; have HO254 := n5_; have HB := n6_; clear n0_ n1_ n2_ n3_ n4_ n5_ n6_; (try clear hb); (try clear hb2); (try clear hk); (try clear hi); (try clear ho0)))
      go_loopg [9] k1 (fun kq v9 w' => ∃ (x7_2 : List Bool) (x9_2 : Int), v9 = .int .i64 x9_2 ∧ Aside0 (r7_PostTable.l1 kq l0 x3_1 t243 x5_1 x6_1 x7_2 t252 x9_2 = some r) ∧ Aside0 (kq ≤ k1) ∧ Aside0 (Kd.R Kd.bool 4 w' w.heap.size (fun k_ => some k_ ≠ (v247 : Value).ownBlock ∧ some k_ ≠ (v253 : Value).ownBlock) v241 x3_1) ∧ Aside0 (Kd.S (Kd.slice 3 (Kd.int .i64)) 33 w' w.heap.size (fun _ => True) (.slice Ao14 t243.length co14) t243) ∧ Aside0 (Kd.S (Kd.slice 4 Kd.bool) 46 w' w.heap.size (fun k_ => some k_ ≠ (v241 : Value).ownBlock ∧ some k_ ≠ (v247 : Value).ownBlock ∧ some k_ ≠ (v253 : Value).ownBlock) u5 x5_1) ∧ Aside0 (Kd.R Kd.bool 4 w' w.heap.size (fun k_ => some k_ ≠ (v241 : Value).ownBlock ∧ some k_ ≠ (v253 : Value).ownBlock) v247 x7_2) ∧ Aside0 (Kd.R Kd.bool 4 w' w.heap.size (fun k_ => some k_ ≠ (v241 : Value).ownBlock ∧ some k_ ≠ (v247 : Value).ownBlock) v253 t252) ∧ Aside0 (Below w.heap.size w w'))
      case atStart => exact ⟨(y246), (0), (by first | rfl | (simp; done) | (simp [*]; done)), H', ⟨Nat.le_refl _⟩, ⟨by (with_reducible repeat (first | apply Kd.R_alloc | apply Kd.R_drewN | apply Kd.R_drew)); exact Kd.R_mono HO_3.out (fun _ hk => ⟨hk.1.2, hk.2⟩)⟩, ⟨by (with_reducible repeat (first | apply Kd.S_alloc | apply Kd.S_drewN | apply Kd.S_drew)); exact Kd.S_mono HO_4.out (fun _ hk => trivial)⟩, ⟨by (with_reducible repeat (first | apply Kd.S_alloc | apply Kd.S_drewN | apply Kd.S_drew)); exact Kd.S_mono HO_5.out (fun _ hk => ⟨hk.1.1, ⟨hk.1.2, hk.2⟩⟩)⟩, ⟨by (with_reducible repeat (first | apply Kd.R_alloc | apply Kd.R_drewN | apply Kd.R_drew)); exact Kd.R_mono HO248.out (fun _ hk => ⟨hk.1.2, hk.2⟩)⟩, ⟨by (with_reducible repeat (first | apply Kd.R_alloc | apply Kd.R_drewN | apply Kd.R_drew)); exact Kd.R_mono HO254.out (fun _ hk => ⟨hk.1.2, hk.2⟩)⟩, ⟨by repeat (first | (with_reducible first | exact HB.out | apply below_alloc | apply pw_below_drewN | apply below_drew1) | exact HB.out)⟩⟩
      case round =>
       clear H'; try clear p2
       try clear c3
       try clear c4
       try clear c6
       try clear c6b0
       try clear c7
       try clear c7b0
       try clear c7b1
       try clear c8
       try clear c8b0
       try clear c8b1
       try clear p2
       obtain ⟨x7_2, x9_2, rfl, HA, HK2, HO_3, HO_4, HO_5, HO_7, HO_8, HB⟩ := hrel; cases gk with
       | zero => exact absurd HA.out (by simp [r7_PostTable.l1])
       | succ k2 =>
        have H := HA.out; clear HA; simp only [r7_PostTable.l1] at H
        by_cases c17 : x9_2 < (l0.length : Int)
        ·rw [if_pos c17] at H; have c17b0 : decide (x9_2 < (l0.length : Int)) = true := decide_eq_true c17
         clear c17; by_cases c18 : 0 ≤ x9_2
         ·rw [if_pos c18] at H; have c18b0 : decide (0 ≤ x9_2) = true := decide_eq_true c18
          clear c18; by_cases c19 : x9_2 < (x3_1.length : Int)
          ·rw [if_pos c19] at H; have c19b0 : decide (x9_2 < (x3_1.length : Int)) = true := decide_eq_true c19
           clear c19; obtain ⟨bq20, hbq20⟩ : ∃ b_ : Bool, b_ = (rdOf false x3_1 x9_2) := ⟨_, rfl⟩; replace H : (if bq20 = true then (if x9_2 < (t252.length : Int) then (if x9_2 < (x7_2.length : Int) then (r7_PostTable.l1 k2 l0 x3_1 t243 x5_1 x6_1 (x7_2.set (x9_2 : Int).toNat (!(rdOf false t252 x9_2))) t252 (wrap64 (x9_2 + 1))) else (none)) else (none)) else (if x9_2 < (x7_2.length : Int) then (r7_PostTable.l1 k2 l0 x3_1 t243 x5_1 x6_1 (x7_2.set (x9_2 : Int).toNat false) t252 (wrap64 (x9_2 + 1))) else (none))) = some r := by rw [← hbq20] at H; exact H
           have Nbq20 := Aside0.mk hbq20; clear hbq20; by_cases c21 : bq20 = true
           ·subst c21; have H1 : (if x9_2 < (t252.length : Int) then (if x9_2 < (x7_2.length : Int) then (r7_PostTable.l1 k2 l0 x3_1 t243 x5_1 x6_1 (x7_2.set (x9_2 : Int).toNat (!(rdOf false t252 x9_2))) t252 (wrap64 (x9_2 + 1))) else (none)) else (none)) = some r := by rw [if_pos rfl] at H; exact H
            clear H; have H := H1; clear H1; by_cases c22 : x9_2 < (t252.length : Int)
            ·rw [if_pos c22] at H; have c22b0 : decide (x9_2 < (t252.length : Int)) = true := decide_eq_true c22
             clear c22; by_cases c23 : x9_2 < (x7_2.length : Int)
             ·rw [if_pos c23] at H; have c23b0 : decide (x9_2 < (x7_2.length : Int)) = true := decide_eq_true c23
              clear c23; obtain ⟨y257, hy257⟩ : ∃ y_ : List Bool, y_ = (x7_2.set (x9_2 : Int).toNat (!(rdOf false t252 x9_2))) := ⟨_, rfl⟩; replace H : (r7_PostTable.l1 k2 l0 x3_1 t243 x5_1 x6_1 y257 t252 (wrap64 (x9_2 + 1))) = some r := by first | (with_reducible first | (rw [hy257]; exact H) | exact H) | (have H2_ := (Option.bind_some _ _).symm.trans H; first | with_reducible exact H2_ | (rw [hy257]; exact H2_)) | (rw [hy257]; exact H) | exact H
              have Ny257 := Aside0.mk hy257; clear hy257; have H' := Aside0.mk H
              clear H; obtain ⟨Ao25, co25, eo25⟩ := Kd.R_slice HO_3.out; subst eo25; have p255 : 0 ≤ (x9_2 : Int) := of_decide_eq_true (by with_reducible assumption)
              have q255 : x9_2 < (x3_1.length : Int) := of_decide_eq_true (by with_reducible assumption)
              obtain ⟨ad255, e255, hx255_0⟩ := Kd.at_bool (Kd.R_reads' HO_3.out).2.2 x9_2 p255 q255; (try rw [← Nbq20.out] at hx255_0)
              cases e255; replace p255 := eq_true p255; replace q255 := eq_true q255; obtain ⟨Ao26, co26, eo26⟩ := Kd.R_slice HO_8.out; subst eo26; have p256 : 0 ≤ (x9_2 : Int) := of_decide_eq_true (by with_reducible assumption)
              have q256 : x9_2 < (t252.length : Int) := of_decide_eq_true (by with_reducible assumption)
              obtain ⟨ad256, e256, hx256_0⟩ := Kd.at_bool (Kd.R_reads' HO_8.out).2.2 x9_2 p256 q256; (try rw [← Nbq20.out] at hx256_0)
              cases e256; replace p256 := eq_true p256; replace q256 := eq_true q256; have p24 : 0 ≤ (x9_2 : Int) := of_decide_eq_true (by with_reducible assumption)
              have q24 : (x9_2 : Int) < ((x7_2.length : Int) : Int) := of_decide_eq_true (by with_reducible assumption)
              obtain ⟨go24, co24, eo24, gb24, gl24, cl24, HG24⟩ := Kd.R_form HO_7.out (by omega)
              (first | cases eo24 | (injection eo24 with ea_ en_ ec_; (first | subst ea_ | (injection ea_ with ea_; subst ea_)); subst ec_; clear en_))
              have GB24 := Aside0.mk gb24; have GG24 := Aside0.mk HG24; clear gb24 gl24 HG24; obtain ⟨hx24_0, hf24_0⟩ := Kd.R_celln false HO_7.out (x9_2 : Int) p24 q24; replace p24 := eq_true p24; replace q24 := eq_true q24; have HP27 := Kd.R_putg HO_7.out (x9_2 : Int) (!(rdOf false t252 x9_2)); go_wp2_with (first | ((with_reducible refine gate_store (t := 4) (p := 47) rfl ?_); refine store_event (t := 4) (p := 47) (v := ?vo_w28) (w1 := (wr.setCell ⟨go24, (x9_2 : Int).toNat, none⟩ (.bool (!(rdOf false t252 x9_2))))) ?hg ?ho ?hn ?hr ?_; (case ho => rfl); (case hg => rfl); (case hn => rfl); (case hr => first | (go_simp; done) | (go_simp; rfl)); intro w28 hw; have hg : wr.grownBy w28 (some go24) := (by rw [hw]; exact HP27.2); have hp_ : Kd.R Kd.bool 4 w28 w.heap.size (fun k_ => some k_ ≠ (.slice (some ad255) x3_1.length co25 : Value).ownBlock ∧ some k_ ≠ (.slice (some ad256) t252.length co26 : Value).ownBlock) (.slice (some ⟨go24, 0, none⟩) x7_2.length co24) y257 := (by rw [hw, Ny257.out]; exact HP27.1); clear HP27; have n0_ := Aside0.mk (Kd.R_after (v := (.slice (some ⟨go24, 0, none⟩) x7_2.length co24)) (v1 := (.slice (some ⟨go24, 0, none⟩) x7_2.length co24)) (ok := (fun k_ => some k_ ≠ (.slice (some ad256) t252.length co26 : Value).ownBlock)) (by (with_reducible repeat (first | apply Kd.R_alloc | apply Kd.R_drewN | apply Kd.R_drew)); exact Kd.R_mono HO_3.out (fun _ hk => ⟨hk.2, hk.1⟩)) hg (.inl rfl)); have n1_ := Aside0.mk (Kd.S_over' (v := (.slice (some ⟨go24, 0, none⟩) x7_2.length co24)) (by (with_reducible repeat (first | apply Kd.S_alloc | apply Kd.S_drewN | apply Kd.S_drew)); exact HO_4.out) (Kd.R_typed HO_7.out) (by decide) hg); have n2_ := Aside0.mk (Kd.S_after (v := (.slice (some ⟨go24, 0, none⟩) x7_2.length co24)) (v1 := (.slice (some ⟨go24, 0, none⟩) x7_2.length co24)) (ok := (fun k_ => some k_ ≠ (.slice (some ad255) x3_1.length co25 : Value).ownBlock ∧ some k_ ≠ (.slice (some ad256) t252.length co26 : Value).ownBlock)) (by (with_reducible repeat (first | apply Kd.S_alloc | apply Kd.S_drewN | apply Kd.S_drew)); exact Kd.S_mono HO_5.out (fun _ hk => ⟨⟨hk.1, hk.2.2⟩, hk.2.1⟩)) hg (.inl rfl)); have n3_ := Aside0.mk (hp_); have n4_ := Aside0.mk (Kd.R_after (v := (.slice (some ⟨go24, 0, none⟩) x7_2.length co24)) (v1 := (.slice (some ⟨go24, 0, none⟩) x7_2.length co24)) (ok := (fun k_ => some k_ ≠ (.slice (some ad255) x3_1.length co25 : Value).ownBlock)) (by (with_reducible repeat (first | apply Kd.R_alloc | apply Kd.R_drewN | apply Kd.R_drew)); exact HO_8.out) hg (.inl rfl)); have n5_ := Aside0.mk ((by rw [hw]; exact below_set (HB.out) GB24.out : Below w.heap.size w w28)); clear HO_3; clear HO_4; clear HO_5; clear HO_7; clear HO_8; clear HB; have HO_3 := n0_; have HO_4 := n1_; have HO_5 := n2_; have HO_7 := n3_; have HO_8 := n4_; have HB := n5_; clear n0_ n1_ n2_ n3_ n4_ n5_; clear hg hw hp_))
              go_roundg k2
              case measure => have := HK1.out; have := HK2.out; omega
              case rel => exact ⟨(y257), (wrap64 (x9_2 + 1)), (by first | rfl | (simp; done) | (simp [*]; done)), H', ⟨by have := HK1.out; have := HK2.out; omega⟩, ⟨by (with_reducible repeat (first | apply Kd.R_alloc | apply Kd.R_drewN | apply Kd.R_drew)); exact Kd.R_mono HO_3.out (fun _ hk => ⟨hk.2, hk.1⟩)⟩, ⟨by (with_reducible repeat (first | apply Kd.S_alloc | apply Kd.S_drewN | apply Kd.S_drew)); exact HO_4.out⟩, ⟨by (with_reducible repeat (first | apply Kd.S_alloc | apply Kd.S_drewN | apply Kd.S_drew)); exact Kd.S_mono HO_5.out (fun _ hk => ⟨hk.1.1, ⟨hk.2, hk.1.2⟩⟩)⟩, ⟨by (with_reducible repeat (first | apply Kd.R_alloc | apply Kd.R_drewN | apply Kd.R_drew)); exact HO_7.out⟩, ⟨by (with_reducible repeat (first | apply Kd.R_alloc | apply Kd.R_drewN | apply Kd.R_drew)); exact HO_8.out⟩, ⟨by repeat (first | (with_reducible first | exact HB.out | apply below_alloc | apply pw_below_drewN | apply below_drew1) | exact HB.out)⟩⟩
             ·rw [if_neg c23] at H; exact absurd H (by simp)
            ·rw [if_neg c22] at H; exact absurd H (by simp)
           ·replace c21 := Bool.eq_false_iff.mpr c21; subst c21; have H1 : (if x9_2 < (x7_2.length : Int) then (r7_PostTable.l1 k2 l0 x3_1 t243 x5_1 x6_1 (x7_2.set (x9_2 : Int).toNat false) t252 (wrap64 (x9_2 + 1))) else (none)) = some r := by rw [if_neg (show ¬ (false = true) by decide)] at H; exact H
            clear H; have H := H1; clear H1; by_cases c29 : x9_2 < (x7_2.length : Int)
            ·rw [if_pos c29] at H; have c29b0 : decide (x9_2 < (x7_2.length : Int)) = true := decide_eq_true c29
             clear c29; obtain ⟨y258, hy258⟩ : ∃ y_ : List Bool, y_ = (x7_2.set (x9_2 : Int).toNat false) := ⟨_, rfl⟩; replace H : (r7_PostTable.l1 k2 l0 x3_1 t243 x5_1 x6_1 y258 t252 (wrap64 (x9_2 + 1))) = some r := by first | (with_reducible first | (rw [hy258]; exact H) | exact H) | (have H2_ := (Option.bind_some _ _).symm.trans H; first | with_reducible exact H2_ | (rw [hy258]; exact H2_)) | (rw [hy258]; exact H) | exact H
             have Ny258 := Aside0.mk hy258; clear hy258; have H' := Aside0.mk H
             clear H; obtain ⟨Ao31, co31, eo31⟩ := Kd.R_slice HO_3.out; subst eo31; have p255 : 0 ≤ (x9_2 : Int) := of_decide_eq_true (by with_reducible assumption)
             have q255 : x9_2 < (x3_1.length : Int) := of_decide_eq_true (by with_reducible assumption)
             obtain ⟨ad255, e255, hx255_0⟩ := Kd.at_bool (Kd.R_reads' HO_3.out).2.2 x9_2 p255 q255; (try rw [← Nbq20.out] at hx255_0)
             cases e255; replace p255 := eq_true p255; replace q255 := eq_true q255; have p30 : 0 ≤ (x9_2 : Int) := of_decide_eq_true (by with_reducible assumption)
             have q30 : (x9_2 : Int) < ((x7_2.length : Int) : Int) := of_decide_eq_true (by with_reducible assumption)
             obtain ⟨go30, co30, eo30, gb30, gl30, cl30, HG30⟩ := Kd.R_form HO_7.out (by omega)
             (first | cases eo30 | (injection eo30 with ea_ en_ ec_; (first | subst ea_ | (injection ea_ with ea_; subst ea_)); subst ec_; clear en_))
             have GB30 := Aside0.mk gb30; have GG30 := Aside0.mk HG30; clear gb30 gl30 HG30; obtain ⟨hx30_0, hf30_0⟩ := Kd.R_celln false HO_7.out (x9_2 : Int) p30 q30; replace p30 := eq_true p30; replace q30 := eq_true q30; have HP32 := Kd.R_putg HO_7.out (x9_2 : Int) false; go_wp2_with (first | ((with_reducible refine gate_store (t := 4) (p := 47) rfl ?_); refine store_event (t := 4) (p := 47) (v := ?vo_w33) (w1 := (wr.setCell ⟨go30, (x9_2 : Int).toNat, none⟩ (.bool false))) ?hg ?ho ?hn ?hr ?_; (case ho => rfl); (case hg => rfl); (case hn => rfl); (case hr => first | (go_simp; done) | (go_simp; rfl)); intro w33 hw; have hg : wr.grownBy w33 (some go30) := (by rw [hw]; exact HP32.2); have hp_ : Kd.R Kd.bool 4 w33 w.heap.size (fun k_ => some k_ ≠ (.slice (some ad255) x3_1.length co31 : Value).ownBlock ∧ some k_ ≠ (v253 : Value).ownBlock) (.slice (some ⟨go30, 0, none⟩) x7_2.length co30) y258 := (by rw [hw, Ny258.out]; exact HP32.1); clear HP32; have n0_ := Aside0.mk (Kd.R_after (v := (.slice (some ⟨go30, 0, none⟩) x7_2.length co30)) (v1 := (.slice (some ⟨go30, 0, none⟩) x7_2.length co30)) (ok := (fun k_ => some k_ ≠ (v253 : Value).ownBlock)) (by (with_reducible repeat (first | apply Kd.R_alloc | apply Kd.R_drewN | apply Kd.R_drew)); exact Kd.R_mono HO_3.out (fun _ hk => ⟨hk.2, hk.1⟩)) hg (.inl rfl)); have n1_ := Aside0.mk (Kd.S_over' (v := (.slice (some ⟨go30, 0, none⟩) x7_2.length co30)) (by (with_reducible repeat (first | apply Kd.S_alloc | apply Kd.S_drewN | apply Kd.S_drew)); exact HO_4.out) (Kd.R_typed HO_7.out) (by decide) hg); have n2_ := Aside0.mk (Kd.S_after (v := (.slice (some ⟨go30, 0, none⟩) x7_2.length co30)) (v1 := (.slice (some ⟨go30, 0, none⟩) x7_2.length co30)) (ok := (fun k_ => some k_ ≠ (.slice (some ad255) x3_1.length co31 : Value).ownBlock ∧ some k_ ≠ (v253 : Value).ownBlock)) (by (with_reducible repeat (first | apply Kd.S_alloc | apply Kd.S_drewN | apply Kd.S_drew)); exact Kd.S_mono HO_5.out (fun _ hk => ⟨⟨hk.1, hk.2.2⟩, hk.2.1⟩)) hg (.inl rfl)); have n3_ := Aside0.mk (hp_); have n4_ := Aside0.mk (Kd.R_after (v := (.slice (some ⟨go30, 0, none⟩) x7_2.length co30)) (v1 := (.slice (some ⟨go30, 0, none⟩) x7_2.length co30)) (ok := (fun k_ => some k_ ≠ (.slice (some ad255) x3_1.length co31 : Value).ownBlock)) (by (with_reducible repeat (first | apply Kd.R_alloc | apply Kd.R_drewN | apply Kd.R_drew)); exact HO_8.out) hg (.inl rfl)); have n5_ := Aside0.mk ((by rw [hw]; exact below_set (HB.out) GB30.out : Below w.heap.size w w33)); clear HO_3; clear HO_4; clear HO_5; clear HO_7; clear HO_8; clear HB; have HO_3 := n0_; have HO_4 := n1_; have HO_5 := n2_; have HO_7 := n3_; have HO_8 := n4_; have HB := n5_; clear n0_ n1_ n2_ n3_ n4_ n5_; clear hg hw hp_))
             go_roundg k2
             case measure => have := HK1.out; have := HK2.out; omega
             case rel => exact ⟨(y258), (wrap64 (x9_2 + 1)), (by first | rfl | (simp; done) | (simp [*]; done)), H', ⟨by have := HK1.out; have := HK2.out; omega⟩, ⟨by (with_reducible repeat (first | apply Kd.R_alloc | apply Kd.R_drewN | apply Kd.R_drew)); exact Kd.R_mono HO_3.out (fun _ hk => ⟨hk.2, hk.1⟩)⟩, ⟨by (with_reducible repeat (first | apply Kd.S_alloc | apply Kd.S_drewN | apply Kd.S_drew)); exact HO_4.out⟩, ⟨by (with_reducible repeat (first | apply Kd.S_alloc | apply Kd.S_drewN | apply Kd.S_drew)); exact Kd.S_mono HO_5.out (fun _ hk => ⟨hk.1.1, ⟨hk.2, hk.1.2⟩⟩)⟩, ⟨by (with_reducible repeat (first | apply Kd.R_alloc | apply Kd.R_drewN | apply Kd.R_drew)); exact HO_7.out⟩, ⟨by (with_reducible repeat (first | apply Kd.R_alloc | apply Kd.R_drewN | apply Kd.R_drew)); exact HO_8.out⟩, ⟨by repeat (first | (with_reducible first | exact HB.out | apply below_alloc | apply pw_below_drewN | apply below_drew1) | exact HB.out)⟩⟩
            ·rw [if_neg c29] at H; exact absurd H (by simp)
          ·rw [if_neg c19] at H; exact absurd H (by simp)
         ·rw [if_neg c18] at H; exact absurd H (by simp)
        ·rw [if_neg c17] at H; have c17b0 : decide (x9_2 < (l0.length : Int)) = false := decide_eq_false c17
         clear c17; by_cases c34 : x5_1.length < 5864062014805
         ·rw [if_pos c34] at H; have LMc34 := Aside0.mk c34; clear c34; obtain ⟨y259, hy259⟩ : ∃ y_ : List (List Bool), y_ = (x5_1 ++ [x7_2]) := ⟨_, rfl⟩; replace H : (r7_PostTable.l0 k2 l0 x3_1 t243 y259 (wrap64 (x6_1 + 1))) = some r := by first | (with_reducible first | (rw [hy259]; exact H) | exact H) | (have H2_ := (Option.bind_some _ _).symm.trans H; first | with_reducible exact H2_ | (rw [hy259]; exact H2_)) | (rw [hy259]; exact H) | exact H
          have Ny259 := Aside0.mk hy259; clear hy259; have H' := Aside0.mk H
          clear H; obtain ⟨Ao36, co36, eo36⟩ := Kd.R_slice HO_7.out; subst eo36; go_wp2_with (first | ((with_reducible refine gate_builtin (b := .append) (xs := #[.tmp 48, .tmp 50]) rfl ?_); at_builtin; refine Kd.S_append (Kd.slice 4 Kd.bool) (w0 := w) w.heap.size rfl (.tmp 48) (.tmp 50) 54 46 (.slice none 0 0) 24 rfl Try.underlying54 info46 rfl (by decide) (by omega) u5 x5_1 x7_2 [.slice Ao36 x7_2.length co36] (fun k_ => some k_ ≠ (v241 : Value).ownBlock ∧ some k_ ≠ (v253 : Value).ownBlock) (fun k_ => some k_ = (.slice Ao36 x7_2.length co36 : Value).ownBlock) rfl rfl ?aP (fun k_ hk_ => ((Kd.R_mono (ok' := fun k_ => ((fun k_ => some k_ ≠ (v241 : Value).ownBlock ∧ some k_ ≠ (v253 : Value).ownBlock)) k_ ∧ some k_ ≠ (u5 : Value).ownBlock) (Kd.R_apart' (HO_7.out) (Kd.S_typed HO_5.out) (by decide)) (fun k_ hk => ⟨⟨hk.1.1, hk.1.2⟩, hk.2⟩))).1 k_ hk_.symm) ?aF ?aO ?aB ?aS ?aL ?_; (case aP => exact Kd.M_row (Kd.R_mono (Kd.R_tight rfl (Kd.R_mono (ok' := fun k_ => ((fun k_ => some k_ ≠ (v241 : Value).ownBlock ∧ some k_ ≠ (v253 : Value).ownBlock)) k_ ∧ some k_ ≠ (u5 : Value).ownBlock) (Kd.R_apart' (HO_7.out) (Kd.S_typed HO_5.out) (by decide)) (fun k_ hk => ⟨⟨hk.1.1, hk.1.2⟩, hk.2⟩))) (fun _ h_ => h_))); (case aB => exact (by repeat (first | (with_reducible first | exact HB.out | apply below_alloc | apply pw_below_drewN | apply below_drew1) | exact HB.out))); (case aF => exact (fun k_ hk => ⟨Kd.fresh' (Kd.R_lt (by (with_reducible repeat (first | apply Kd.R_alloc | apply Kd.R_drewN | apply Kd.R_drew)); exact HO_3.out)) k_ hk, Kd.fresh' (Kd.R_lt (by (with_reducible repeat (first | apply Kd.R_alloc | apply Kd.R_drewN | apply Kd.R_drew)); exact HO_8.out)) k_ hk⟩)); (case aO => exact (by (with_reducible repeat (first | apply Kd.S_alloc | apply Kd.S_drewN | apply Kd.S_drew)); exact Kd.S_mono HO_5.out (fun k_ hk => ⟨⟨hk.1, hk.2.2⟩, fun e_ => hk.2.1 e_⟩))); (case aS => exact (below_size (by repeat (first | (with_reducible first | exact HB.out | apply below_alloc | apply pw_below_drewN | apply below_drew1) | exact HB.out)))); (case aL => have := LMc34.out; omega); intro v260 w35 ho hb hg hat; rw [← Ny259.out] at ho; have n0_ := Aside0.mk (Kd.R_over' (by (with_reducible repeat (first | apply Kd.R_alloc | apply Kd.R_drewN | apply Kd.R_drew)); exact HO_3.out) (Kd.S_typed (by (with_reducible repeat (first | apply Kd.S_alloc | apply Kd.S_drewN | apply Kd.S_drew)); exact HO_5.out)) (by decide) hg); have n1_ := Aside0.mk (Kd.S_over' (by (with_reducible repeat (first | apply Kd.S_alloc | apply Kd.S_drewN | apply Kd.S_drew)); exact HO_4.out) (Kd.S_typed (by (with_reducible repeat (first | apply Kd.S_alloc | apply Kd.S_drewN | apply Kd.S_drew)); exact HO_5.out)) (by decide) hg); have n2_ := Aside0.mk (Kd.R_over' (by (with_reducible repeat (first | apply Kd.R_alloc | apply Kd.R_drewN | apply Kd.R_drew)); exact HO_8.out) (Kd.S_typed (by (with_reducible repeat (first | apply Kd.S_alloc | apply Kd.S_drewN | apply Kd.S_drew)); exact HO_5.out)) (by decide) hg); have n3_ := Aside0.mk (hb); have n4_ := Aside0.mk (ho); clear HO_3; clear HO_4; clear HO_8; clear HB; clear HO_5; clear HO_7; have HO_3 := n0_; have HO_4 := n1_; have HO_8 := n2_; have HB := n3_; have HO261 := n4_; clear n0_ n1_ n2_ n3_ n4_; clear ho hb hg hat))
          go_roundg k2
          case measure => have := HK1.out; have := HK2.out; omega
          case rel => exact ⟨(x3_1), (y259), (wrap64 (x6_1 + 1)), (by first | rfl | (simp; done) | (simp [*]; done)), H', ⟨by have := HK1.out; have := HK2.out; omega⟩, ⟨by (with_reducible repeat (first | apply Kd.R_alloc | apply Kd.R_drewN | apply Kd.R_drew)); exact Kd.R_mono HO_3.out (fun _ hk => trivial)⟩, ⟨by (with_reducible repeat (first | apply Kd.S_alloc | apply Kd.S_drewN | apply Kd.S_drew)); exact HO_4.out⟩, ⟨by (with_reducible repeat (first | apply Kd.S_alloc | apply Kd.S_drewN | apply Kd.S_drew)); exact Kd.S_mono HO261.out (fun _ hk => hk.1)⟩, ⟨by repeat (first | (with_reducible first | exact HB.out | apply below_alloc | apply pw_below_drewN | apply below_drew1) | exact HB.out)⟩⟩
         ·rw [if_neg c34] at H; exact absurd H (by simp)
     ·rw [if_neg c8] at H; exact absurd H (by simp)
    ·rw [if_neg c7] at H; exact absurd H (by simp)
   ·rw [if_neg c6] at H; have c6b0 : decide (x6_1 < (l0.length : Int)) = false := decide_eq_false c6
    clear c6; obtain rfl := Option.some.inj H; go_wp2
    go_ret
    exact ⟨_, by first | rfl | (simp [errW_none, errW_some] <;> rfl) | (simp [*, errW_none, errW_some] <;> rfl), by (with_reducible repeat (first | apply Kd.S_alloc | apply Kd.S_drewN | apply Kd.S_drew)); exact Kd.S_mono HO_5.out (fun _ hk => trivial), by repeat (first | (with_reducible first | exact HB.out | apply below_alloc | apply pw_below_drewN | apply below_drew1) | exact HB.out)⟩
mutual
def r7_Immediate.l0 : Nat → List (List Bool) → List Int → Int → Option (List Int)
 | 0, _, _, _ => none
 | k + 1, x0, x3, x4 => if x4 < (x0.length : Int) then (r7_Immediate.l1 k x0 x3 x4 (-1) 0) else (some x3)
def r7_Immediate.l1 : Nat → List (List Bool) → List Int → Int → Int → Int → Option (List Int)
 | 0, _, _, _, _, _ => none
 | k + 1, x0, x3, x4, x5, x6 => if x6 < (x0.length : Int) then (if x6 = x4 then (r7_Immediate.j2 k x0 x3 x4 x5 x6 true) else (if 0 ≤ x6 then (if 0 ≤ x4 then (if x4 < ((rd_L3 x0 x6).length : Int) then (r7_Immediate.j2 k x0 x3 x4 x5 x6 (!(rdOf false (rd_L3 x0 x6) x4))) else (none)) else (none)) else (none))) else (if x3.length < 17592186044416 then (r7_Immediate.l0 k x0 (x3 ++ [x5]) (wrap64 (x4 + 1))) else (none))
def r7_Immediate.j2 : Nat → List (List Bool) → List Int → Int → Int → Int → Bool → Option (List Int)
 | 0, _, _, _, _, _, _ => none
 | k + 1, x0, x3, x4, x5, x6, x33 => if x33 = true then (r7_Immediate.l1 k x0 x3 x4 x5 (wrap64 (x6 + 1))) else (r7_Immediate.l2 k x0 x3 x4 x5 x6 true 0)
def r7_Immediate.l2 : Nat → List (List Bool) → List Int → Int → Int → Int → Bool → Int → Option (List Int)
 | 0, _, _, _, _, _, _, _ => none
 | k + 1, x0, x3, x4, x5, x6, x7, x8 => if x8 < (x0.length : Int) then (if x7 = true then (if x8 = x4 then (r7_Immediate.l2 k x0 x3 x4 x5 x6 true (wrap64 (x8 + 1))) else (if 0 ≤ x8 then (if 0 ≤ x4 then (if x4 < ((rd_L3 x0 x8).length : Int) then (if (rdOf false (rd_L3 x0 x8) x4 = true) then (if 0 ≤ x6 then (if x6 < ((rd_L3 x0 x8).length : Int) then (r7_Immediate.l2 k x0 x3 x4 x5 x6 (rdOf false (rd_L3 x0 x8) x6) (wrap64 (x8 + 1))) else (none)) else (none)) else (r7_Immediate.l2 k x0 x3 x4 x5 x6 true (wrap64 (x8 + 1)))) else (none)) else (none)) else (none))) else (r7_Immediate.l2 k x0 x3 x4 x5 x6 false (wrap64 (x8 + 1)))) else (if x7 = true then (r7_Immediate.l1 k x0 x3 x4 x6 (wrap64 (x6 + 1))) else (r7_Immediate.l1 k x0 x3 x4 x5 (wrap64 (x6 + 1))))
end
def r7_Immediate.f (k : Nat) (l0 : List (List Bool)) : Option (List Int) := r7_Immediate.l0 k l0 ([] : List Int) 0
set_option maxHeartbeats 8000000 in
set_option maxRecDepth 100000 in
theorem r7_Immediate.calls (k : Nat) (A0 : Option Addr) (c0 : Nat) (l0 : List (List Bool)) (r : List Int) (w : World) (hr0 : Kd.C (Kd.slice 4 Kd.bool) w A0 l0.length l0) (hc0 : l0.length ≤ c0) (h : r7_Immediate.f k l0 = some r) :
  Calls Try.prog 45 #[.slice A0 l0.length c0] w fun e w' => ∃ v0_ : Value, e = .returned (v0_) ∧ Kd.R (Kd.int .i64) 3 w' w.heap.size (fun _ => True) v0_ r ∧ Below w.heap.size w w' := by
 have HR0 := Aside0.mk hr0; have HC0 := Aside0.mk hc0; clear hr0 hc0; have HB := Aside0.mk (Below.refl w.heap.size w); have H : (r7_Immediate.l0 k l0 ([] : List Int) 0) = some r := h
 clear h; have H' := Aside0.mk H
 clear H; go_enter Try.func45, Try.ntmps45
 go_wp2
 go_loopg [3, 4] k (fun kq v3 v4 w' => ∃ (x3_1 : List Int) (x4_1 : Int), v4 = .int .i64 x4_1 ∧ Aside0 (r7_Immediate.l0 kq l0 x3_1 x4_1 = some r) ∧ Aside0 (kq ≤ k) ∧ Aside0 (Kd.R (Kd.int .i64) 3 w' w.heap.size (fun _ => True) v3 x3_1) ∧ Aside0 (Below w.heap.size w w'))
 case atStart => exact ⟨(([] : List Int)), (0), (by first | rfl | (simp; done) | (simp [*]; done)), H', ⟨Nat.le_refl _⟩, ⟨by first | exact Kd.R_nil _ _ _ _ _ | exact Kd.N_nil _ _ _ _ _ | exact Kd.V_nil _ _ _ _ _ | exact Kd.Q_nil _ _ _ _ _ | exact Kd.S_nil _ _ _ _ _⟩, ⟨by repeat (first | (with_reducible first | exact HB.out | apply below_alloc | apply pw_below_drewN | apply below_drew1) | exact HB.out)⟩⟩
 case round =>
  clear H'; obtain ⟨x3_1, x4_1, rfl, HA, HK1, HO_3, HB⟩ := hrel; cases gk with
  | zero => exact absurd HA.out (by simp [r7_Immediate.l0])
  | succ k1 =>
   have H := HA.out; clear HA; simp only [r7_Immediate.l0] at H
   by_cases c2 : x4_1 < (l0.length : Int)
   ·rw [if_pos c2] at H; have c2b0 : decide (x4_1 < (l0.length : Int)) = true := decide_eq_true c2
    clear c2; have H' := Aside0.mk H
    clear H; go_wp2
    go_loopg [5, 6] k1 (fun kq v5 v6 w' => ∃ (x5_2 : Int) (x6_2 : Int), v5 = .int .i64 x5_2 ∧ v6 = .int .i64 x6_2 ∧ Aside0 (r7_Immediate.l1 kq l0 x3_1 x4_1 x5_2 x6_2 = some r) ∧ Aside0 (kq ≤ k1) ∧ Aside0 (Kd.R (Kd.int .i64) 3 w' w.heap.size (fun _ => True) u3 x3_1) ∧ Aside0 (Below w.heap.size w w'))
    case atStart => exact ⟨((-1)), (0), (by first | rfl | (simp; done) | (simp [*]; done)), (by first | rfl | (simp; done) | (simp [*]; done)), H', ⟨Nat.le_refl _⟩, ⟨by (with_reducible repeat (first | apply Kd.R_alloc | apply Kd.R_drewN | apply Kd.R_drew)); exact HO_3.out⟩, ⟨by repeat (first | (with_reducible first | exact HB.out | apply below_alloc | apply pw_below_drewN | apply below_drew1) | exact HB.out)⟩⟩
    case round =>
     clear H'; try clear c2
     try clear c2b0
     try clear p2
     obtain ⟨x5_2, x6_2, rfl, rfl, HA, HK2, HO_3, HB⟩ := hrel; cases gk with
     | zero => exact absurd HA.out (by simp [r7_Immediate.l1])
     | succ k2 =>
      have H := HA.out; clear HA; simp only [r7_Immediate.l1] at H
      by_cases c3 : x6_2 < (l0.length : Int)
      ·rw [if_pos c3] at H; have c3b0 : decide (x6_2 < (l0.length : Int)) = true := decide_eq_true c3
       clear c3; have HC4 := Aside0.mk H; clear H; go_upto_region 9 with (fail)
       go_cut [33] (fun v33 wc => ∃ (kq : Nat) (x33_3 : Bool), v33 = .bool x33_3 ∧ Aside0 (r7_Immediate.j2 kq l0 x3_1 x4_1 x5_2 x6_2 x33_3 = some r) ∧ Aside0 (kq ≤ k2) ∧ Aside0 (Kd.R (Kd.int .i64) 3 wc w.heap.size (fun _ => True) u3 x3_1) ∧ Aside0 (Below w.heap.size w wc))
       case first =>
        have H := HC4.out; clear HC4; by_cases c5 : x6_2 = x4_1
        ·rw [if_pos c5] at H; have c5b0 : (x6_2 == x4_1) = true := beq_iff_eq.mpr c5
         have c5b1 : (x6_2 != x4_1) = false := bne_eq_false_iff_eq.mpr c5
         clear c5; (first | rw [c5b0] | (simp only [i64_w, i32_w]; rw [c5b0]) | skip)
         have H' := Aside0.mk H
         clear H; go_wp2
         go_meet
         case rel => exact ⟨_, (true), (by first | rfl | (simp; done) | (simp [*]; done)), H', ⟨by have := HK1.out; have := HK2.out; first | omega | exact Nat.le_refl _⟩, ⟨by (with_reducible repeat (first | apply Kd.R_alloc | apply Kd.R_drewN | apply Kd.R_drew)); exact HO_3.out⟩, ⟨by repeat (first | (with_reducible first | exact HB.out | apply below_alloc | apply pw_below_drewN | apply below_drew1) | exact HB.out)⟩⟩
        ·rw [if_neg c5] at H; have c5b0 : (x6_2 == x4_1) = false := beq_eq_false_iff_ne.mpr c5
         have c5b1 : (x6_2 != x4_1) = true := bne_iff_ne.mpr c5
         (first | rw [c5b0] | (simp only [i64_w, i32_w]; rw [c5b0]) | skip)
         by_cases c6 : 0 ≤ x6_2
         ·rw [if_pos c6] at H; have c6b0 : decide (0 ≤ x6_2) = true := decide_eq_true c6
          clear c6; by_cases c7 : 0 ≤ x4_1
          ·rw [if_pos c7] at H; have c7b0 : decide (0 ≤ x4_1) = true := decide_eq_true c7
           clear c7; by_cases c8 : x4_1 < ((rd_L3 l0 x6_2).length : Int)
           ·rw [if_pos c8] at H; have c8b0 : decide (x4_1 < ((rd_L3 l0 x6_2).length : Int)) = true := decide_eq_true c8
            clear c8; have H' := Aside0.mk H
            clear H; have p265 : 0 ≤ (x6_2 : Int) := of_decide_eq_true (by with_reducible assumption)
            have q265 : x6_2 < (l0.length : Int) := of_decide_eq_true (by with_reducible assumption)
            obtain ⟨ad265, A265_0, c265_0, e265, hx265_0, hl265_0, hi265_0⟩ := at_L3 HR0.out x6_2 p265 q265; cases e265; replace hx265_0 := (HB.out.cell (World.block_lt_of_cell? w _ hx265_0)).trans hx265_0; have HR265_0 := Aside0.mk hi265_0; have HC265_0 := Aside0.mk hl265_0; clear hi265_0 hl265_0; replace p265 := eq_true p265; replace q265 := eq_true q265; have p266 : 0 ≤ (x4_1 : Int) := of_decide_eq_true (by with_reducible assumption)
            have q266 : x4_1 < ((rd_L3 l0 x6_2).length : Int) := of_decide_eq_true (by with_reducible assumption)
            obtain ⟨ad266, e266, hx266_0⟩ := Kd.at_bool HR265_0.out x4_1 p266 q266; cases e266; replace hx266_0 := (HB.out.cell (World.block_lt_of_cell? w _ hx266_0)).trans hx266_0; replace p266 := eq_true p266; replace q266 := eq_true q266; go_wp2
            go_meet
            case rel => exact ⟨_, (!(rdOf false (rd_L3 l0 x6_2) x4_1)), (by first | rfl | (simp; done) | (simp [*]; done)), H', ⟨by have := HK1.out; have := HK2.out; first | omega | exact Nat.le_refl _⟩, ⟨by (with_reducible repeat (first | apply Kd.R_alloc | apply Kd.R_drewN | apply Kd.R_drew)); exact HO_3.out⟩, ⟨by repeat (first | (with_reducible first | exact HB.out | apply below_alloc | apply pw_below_drewN | apply below_drew1) | exact HB.out)⟩⟩
           ·rw [if_neg c8] at H; exact absurd H (by simp)
          ·rw [if_neg c7] at H; exact absurd H (by simp)
         ·rw [if_neg c6] at H; exact absurd H (by simp)
       case rest =>
        clear HC4; try clear c2
        try clear c2b0
        try clear p2
        try clear q2
        try clear hx2
        try clear c3
        try clear c3b0
        try clear c4
        try clear c5
        try clear c5b0
        try clear c5b1
        try clear c6
        try clear c6b0
        try clear c7
        try clear c7b0
        try clear c8
        try clear c8b0
        try clear hx265_0
        try clear hx266_0
        try clear p2
        try clear p265
        try clear p266
        try clear q265
        try clear q266
        obtain ⟨kq, x33_3, rfl, HA, HJ3, HO_3, HB⟩ := hcut; cases kq with
        | zero => exact absurd HA.out (by simp [r7_Immediate.j2])
        | succ kj3 =>
         have H := HA.out; clear HA; simp only [r7_Immediate.j2] at H
         by_cases c9 : x33_3 = true
         ·subst c9; have H1 : (r7_Immediate.l1 kj3 l0 x3_1 x4_1 x5_2 (wrap64 (x6_2 + 1))) = some r := by rw [if_pos rfl] at H; exact H
          clear H; have H := H1; clear H1; have H' := Aside0.mk H
          clear H; go_wp2
          go_roundg kj3
          case measure => have := HK1.out; have := HK2.out; have := HJ3.out; omega
          case rel => exact ⟨(x5_2), (wrap64 (x6_2 + 1)), (by first | rfl | (simp; done) | (simp [*]; done)), (by first | rfl | (simp; done) | (simp [*]; done)), H', ⟨by have := HK1.out; have := HK2.out; have := HJ3.out; omega⟩, ⟨by (with_reducible repeat (first | apply Kd.R_alloc | apply Kd.R_drewN | apply Kd.R_drew)); exact HO_3.out⟩, ⟨by repeat (first | (with_reducible first | exact HB.out | apply below_alloc | apply pw_below_drewN | apply below_drew1) | exact HB.out)⟩⟩
         ·replace c9 := Bool.eq_false_iff.mpr c9; subst c9; have H1 : (r7_Immediate.l2 kj3 l0 x3_1 x4_1 x5_2 x6_2 true 0) = some r := by rw [if_neg (show ¬ (false = true) by decide)] at H; exact H
          clear H; have H := H1; clear H1; have H' := Aside0.mk H
          clear H; go_wp2
          go_loopg [7, 8] kj3 (fun kq v7 v8 w' => ∃ (x7_4 : Bool) (x8_4 : Int), v7 = .bool x7_4 ∧ v8 = .int .i64 x8_4 ∧ Aside0 (r7_Immediate.l2 kq l0 x3_1 x4_1 x5_2 x6_2 x7_4 x8_4 = some r) ∧ Aside0 (kq ≤ kj3) ∧ Aside0 (Kd.R (Kd.int .i64) 3 w' w.heap.size (fun _ => True) u3 x3_1) ∧ Aside0 (Below w.heap.size w w'))
          case atStart => exact ⟨(true), (0), (by first | rfl | (simp; done) | (simp [*]; done)), (by first | rfl | (simp; done) | (simp [*]; done)), H', ⟨Nat.le_refl _⟩, ⟨by (with_reducible repeat (first | apply Kd.R_alloc | apply Kd.R_drewN | apply Kd.R_drew)); exact HO_3.out⟩, ⟨by repeat (first | (with_reducible first | exact HB.out | apply below_alloc | apply pw_below_drewN | apply below_drew1) | exact HB.out)⟩⟩
          case round =>
           clear H'; try clear c2
           try clear c2b0
           try clear p2
           try clear q2
           try clear hx2
           try clear c3
           try clear c3b0
           try clear c4
           try clear c5
           try clear c5b0
           try clear c5b1
           try clear c6
           try clear c6b0
           try clear p6
           try clear c7
           try clear c7b0
           try clear c8
           try clear c8b0
           try clear c9
           try clear hx265_0
           try clear hx266_0
           try clear p2
           try clear p265
           try clear p266
           try clear q2
           try clear q265
           try clear q266
           obtain ⟨x7_4, x8_4, rfl, rfl, HA, HK4, HO_3, HB⟩ := hrel; cases gk with
           | zero => exact absurd HA.out (by simp [r7_Immediate.l2])
           | succ k4 =>
            have H := HA.out; clear HA; simp only [r7_Immediate.l2] at H
            by_cases c10 : x8_4 < (l0.length : Int)
            ·rw [if_pos c10] at H; have c10b0 : decide (x8_4 < (l0.length : Int)) = true := decide_eq_true c10
             clear c10; by_cases c11 : x7_4 = true
             ·subst c11; have H1 : (if x8_4 = x4_1 then (r7_Immediate.l2 k4 l0 x3_1 x4_1 x5_2 x6_2 true (wrap64 (x8_4 + 1))) else (if 0 ≤ x8_4 then (if 0 ≤ x4_1 then (if x4_1 < ((rd_L3 l0 x8_4).length : Int) then (if (rdOf false (rd_L3 l0 x8_4) x4_1 = true) then (if 0 ≤ x6_2 then (if x6_2 < ((rd_L3 l0 x8_4).length : Int) then (r7_Immediate.l2 k4 l0 x3_1 x4_1 x5_2 x6_2 (rdOf false (rd_L3 l0 x8_4) x6_2) (wrap64 (x8_4 + 1))) else (none)) else (none)) else (r7_Immediate.l2 k4 l0 x3_1 x4_1 x5_2 x6_2 true (wrap64 (x8_4 + 1)))) else (none)) else (none)) else (none))) = some r := by rw [if_pos rfl] at H; exact H
              clear H; have H := H1; clear H1; by_cases c12 : x8_4 = x4_1
              ·rw [if_pos c12] at H; have c12b0 : (x8_4 == x4_1) = true := beq_iff_eq.mpr c12
               have c12b1 : (x8_4 != x4_1) = false := bne_eq_false_iff_eq.mpr c12
               clear c12; have H' := Aside0.mk H
               clear H; go_wp2
               go_roundg k4
               case measure => have := HK1.out; have := HK2.out; have := HJ3.out; have := HK4.out; omega
               case rel => exact ⟨(true), (wrap64 (x8_4 + 1)), (by first | rfl | (simp; done) | (simp [*]; done)), (by first | rfl | (simp; done) | (simp [*]; done)), H', ⟨by have := HK1.out; have := HK2.out; have := HJ3.out; have := HK4.out; omega⟩, ⟨by (with_reducible repeat (first | apply Kd.R_alloc | apply Kd.R_drewN | apply Kd.R_drew)); exact HO_3.out⟩, ⟨by repeat (first | (with_reducible first | exact HB.out | apply below_alloc | apply pw_below_drewN | apply below_drew1) | exact HB.out)⟩⟩
              ·rw [if_neg c12] at H; have c12b0 : (x8_4 == x4_1) = false := beq_eq_false_iff_ne.mpr c12
               have c12b1 : (x8_4 != x4_1) = true := bne_iff_ne.mpr c12
               by_cases c13 : 0 ≤ x8_4
               ·rw [if_pos c13] at H; have c13b0 : decide (0 ≤ x8_4) = true := decide_eq_true c13
                clear c13; by_cases c14 : 0 ≤ x4_1
                ·rw [if_pos c14] at H; have c14b0 : decide (0 ≤ x4_1) = true := decide_eq_true c14
                 clear c14; by_cases c15 : x4_1 < ((rd_L3 l0 x8_4).length : Int)
                 ·rw [if_pos c15] at H; have c15b0 : decide (x4_1 < ((rd_L3 l0 x8_4).length : Int)) = true := decide_eq_true c15
                  clear c15; obtain ⟨bq16, hbq16⟩ : ∃ b_ : Bool, b_ = (rdOf false (rd_L3 l0 x8_4) x4_1) := ⟨_, rfl⟩; replace H : (if (bq16 = true) then (if 0 ≤ x6_2 then (if x6_2 < ((rd_L3 l0 x8_4).length : Int) then (r7_Immediate.l2 k4 l0 x3_1 x4_1 x5_2 x6_2 (rdOf false (rd_L3 l0 x8_4) x6_2) (wrap64 (x8_4 + 1))) else (none)) else (none)) else (r7_Immediate.l2 k4 l0 x3_1 x4_1 x5_2 x6_2 true (wrap64 (x8_4 + 1)))) = some r := by rw [← hbq16] at H; exact H
                  have Nbq16 := Aside0.mk hbq16; clear hbq16; by_cases c17 : (bq16 = true)
                  ·subst c17; have H1 : (if 0 ≤ x6_2 then (if x6_2 < ((rd_L3 l0 x8_4).length : Int) then (r7_Immediate.l2 k4 l0 x3_1 x4_1 x5_2 x6_2 (rdOf false (rd_L3 l0 x8_4) x6_2) (wrap64 (x8_4 + 1))) else (none)) else (none)) = some r := by rw [if_pos rfl] at H; exact H
                   clear H; have H := H1; clear H1; by_cases c18 : 0 ≤ x6_2
                   ·rw [if_pos c18] at H; have c18b0 : decide (0 ≤ x6_2) = true := decide_eq_true c18
                    clear c18; by_cases c19 : x6_2 < ((rd_L3 l0 x8_4).length : Int)
                    ·rw [if_pos c19] at H; have c19b0 : decide (x6_2 < ((rd_L3 l0 x8_4).length : Int)) = true := decide_eq_true c19
                     clear c19; have H' := Aside0.mk H
                     clear H; have p267 : 0 ≤ (x8_4 : Int) := of_decide_eq_true (by with_reducible assumption)
                     have q267 : x8_4 < (l0.length : Int) := of_decide_eq_true (by with_reducible assumption)
                     obtain ⟨ad267, A267_0, c267_0, e267, hx267_0, hl267_0, hi267_0⟩ := at_L3 HR0.out x8_4 p267 q267; cases e267; replace hx267_0 := (HB.out.cell (World.block_lt_of_cell? w _ hx267_0)).trans hx267_0; have HR267_0 := Aside0.mk hi267_0; have HC267_0 := Aside0.mk hl267_0; clear hi267_0 hl267_0; replace p267 := eq_true p267; replace q267 := eq_true q267; have p268 : 0 ≤ (x4_1 : Int) := of_decide_eq_true (by with_reducible assumption)
                     have q268 : x4_1 < ((rd_L3 l0 x8_4).length : Int) := of_decide_eq_true (by with_reducible assumption)
                     obtain ⟨ad268, e268, hx268_0⟩ := Kd.at_bool HR267_0.out x4_1 p268 q268; (try rw [← Nbq16.out] at hx268_0)
                     cases e268; replace hx268_0 := (HB.out.cell (World.block_lt_of_cell? w _ hx268_0)).trans hx268_0; replace p268 := eq_true p268; replace q268 := eq_true q268; have p269 : 0 ≤ (x8_4 : Int) := of_decide_eq_true (by with_reducible assumption)
                     have q269 : x8_4 < (l0.length : Int) := of_decide_eq_true (by with_reducible assumption)
                     obtain ⟨ad269, A269_0, c269_0, e269, hx269_0, hl269_0, hi269_0⟩ := at_L3 HR0.out x8_4 p269 q269; obtain rfl : ad267 = ad269 := (by injection e269)
                     replace hx269_0 := (HB.out.cell (World.block_lt_of_cell? w _ hx269_0)).trans hx269_0; have HR269_0 := Aside0.mk hi269_0; have HC269_0 := Aside0.mk hl269_0; clear hi269_0 hl269_0; replace p269 := eq_true p269; replace q269 := eq_true q269; have ea_ := Option.some.inj (hx267_0.symm.trans hx269_0); injection ea_ with ea_ en_ ec_
                     subst ea_; subst ec_; clear en_; have p270 : 0 ≤ (x6_2 : Int) := of_decide_eq_true (by with_reducible assumption)
                     have q270 : x6_2 < ((rd_L3 l0 x8_4).length : Int) := of_decide_eq_true (by with_reducible assumption)
                     obtain ⟨ad270, e270, hx270_0⟩ := Kd.at_bool HR269_0.out x6_2 p270 q270; (try rw [← Nbq16.out] at hx270_0)
                     cases e270; replace hx270_0 := (HB.out.cell (World.block_lt_of_cell? w _ hx270_0)).trans hx270_0; replace p270 := eq_true p270; replace q270 := eq_true q270; go_wp2
                     go_roundg k4
                     case measure => have := HK1.out; have := HK2.out; have := HJ3.out; have := HK4.out; omega
                     case rel => exact ⟨(rdOf false (rd_L3 l0 x8_4) x6_2), (wrap64 (x8_4 + 1)), (by first | rfl | (simp; done) | (simp [*]; done)), (by first | rfl | (simp; done) | (simp [*]; done)), H', ⟨by have := HK1.out; have := HK2.out; have := HJ3.out; have := HK4.out; omega⟩, ⟨by (with_reducible repeat (first | apply Kd.R_alloc | apply Kd.R_drewN | apply Kd.R_drew)); exact HO_3.out⟩, ⟨by repeat (first | (with_reducible first | exact HB.out | apply below_alloc | apply pw_below_drewN | apply below_drew1) | exact HB.out)⟩⟩
                    ·rw [if_neg c19] at H; exact absurd H (by simp)
                   ·rw [if_neg c18] at H; exact absurd H (by simp)
                  ·replace c17 := Bool.eq_false_iff.mpr c17; subst c17; have H1 : (r7_Immediate.l2 k4 l0 x3_1 x4_1 x5_2 x6_2 true (wrap64 (x8_4 + 1))) = some r := by rw [if_neg (show ¬ (false = true) by decide)] at H; exact H
                   clear H; have H := H1; clear H1; have H' := Aside0.mk H
                   clear H; have p267 : 0 ≤ (x8_4 : Int) := of_decide_eq_true (by with_reducible assumption)
                   have q267 : x8_4 < (l0.length : Int) := of_decide_eq_true (by with_reducible assumption)
                   obtain ⟨ad267, A267_0, c267_0, e267, hx267_0, hl267_0, hi267_0⟩ := at_L3 HR0.out x8_4 p267 q267; cases e267; replace hx267_0 := (HB.out.cell (World.block_lt_of_cell? w _ hx267_0)).trans hx267_0; have HR267_0 := Aside0.mk hi267_0; have HC267_0 := Aside0.mk hl267_0; clear hi267_0 hl267_0; replace p267 := eq_true p267; replace q267 := eq_true q267; have p268 : 0 ≤ (x4_1 : Int) := of_decide_eq_true (by with_reducible assumption)
                   have q268 : x4_1 < ((rd_L3 l0 x8_4).length : Int) := of_decide_eq_true (by with_reducible assumption)
                   obtain ⟨ad268, e268, hx268_0⟩ := Kd.at_bool HR267_0.out x4_1 p268 q268; (try rw [← Nbq16.out] at hx268_0)
                   cases e268; replace hx268_0 := (HB.out.cell (World.block_lt_of_cell? w _ hx268_0)).trans hx268_0; replace p268 := eq_true p268; replace q268 := eq_true q268; go_wp2
                   go_roundg k4
                   case measure => have := HK1.out; have := HK2.out; have := HJ3.out; have := HK4.out; omega
                   case rel => exact ⟨(true), (wrap64 (x8_4 + 1)), (by first | rfl | (simp; done) | (simp [*]; done)), (by first | rfl | (simp; done) | (simp [*]; done)), H', ⟨by have := HK1.out; have := HK2.out; have := HJ3.out; have := HK4.out; omega⟩, ⟨by (with_reducible repeat (first | apply Kd.R_alloc | apply Kd.R_drewN | apply Kd.R_drew)); exact HO_3.out⟩, ⟨by repeat (first | (with_reducible first | exact HB.out | apply below_alloc | apply pw_below_drewN | apply below_drew1) | exact HB.out)⟩⟩
                 ·rw [if_neg c15] at H; exact absurd H (by simp)
                ·rw [if_neg c14] at H; exact absurd H (by simp)
               ·rw [if_neg c13] at H; exact absurd H (by simp)
             ·replace c11 := Bool.eq_false_iff.mpr c11; subst c11; have H1 : (r7_Immediate.l2 k4 l0 x3_1 x4_1 x5_2 x6_2 false (wrap64 (x8_4 + 1))) = some r := by rw [if_neg (show ¬ (false = true) by decide)] at H; exact H
              clear H; have H := H1; clear H1; have H' := Aside0.mk H
              clear H; go_wp2
              go_roundg k4
              case measure => have := HK1.out; have := HK2.out; have := HJ3.out; have := HK4.out; omega
              case rel => exact ⟨(false), (wrap64 (x8_4 + 1)), (by first | rfl | (simp; done) | (simp [*]; done)), (by first | rfl | (simp; done) | (simp [*]; done)), H', ⟨by have := HK1.out; have := HK2.out; have := HJ3.out; have := HK4.out; omega⟩, ⟨by (with_reducible repeat (first | apply Kd.R_alloc | apply Kd.R_drewN | apply Kd.R_drew)); exact HO_3.out⟩, ⟨by repeat (first | (with_reducible first | exact HB.out | apply below_alloc | apply pw_below_drewN | apply below_drew1) | exact HB.out)⟩⟩
            ·rw [if_neg c10] at H; have c10b0 : decide (x8_4 < (l0.length : Int)) = false := decide_eq_false c10
             clear c10; by_cases c20 : x7_4 = true
             ·subst c20; have H1 : (r7_Immediate.l1 k4 l0 x3_1 x4_1 x6_2 (wrap64 (x6_2 + 1))) = some r := by rw [if_pos rfl] at H; exact H
              clear H; have H := H1; clear H1; have H' := Aside0.mk H
              clear H; go_wp2
              go_roundg k4
              case measure => have := HK1.out; have := HK2.out; have := HJ3.out; have := HK4.out; omega
              case rel => exact ⟨(x6_2), (wrap64 (x6_2 + 1)), (by first | rfl | (simp; done) | (simp [*]; done)), (by first | rfl | (simp; done) | (simp [*]; done)), H', ⟨by have := HK1.out; have := HK2.out; have := HJ3.out; have := HK4.out; omega⟩, ⟨by (with_reducible repeat (first | apply Kd.R_alloc | apply Kd.R_drewN | apply Kd.R_drew)); exact HO_3.out⟩, ⟨by repeat (first | (with_reducible first | exact HB.out | apply below_alloc | apply pw_below_drewN | apply below_drew1) | exact HB.out)⟩⟩
             ·replace c20 := Bool.eq_false_iff.mpr c20; subst c20; have H1 : (r7_Immediate.l1 k4 l0 x3_1 x4_1 x5_2 (wrap64 (x6_2 + 1))) = some r := by rw [if_neg (show ¬ (false = true) by decide)] at H; exact H
              clear H; have H := H1; clear H1; have H' := Aside0.mk H
              clear H; go_wp2
              go_roundg k4
              case measure => have := HK1.out; have := HK2.out; have := HJ3.out; have := HK4.out; omega
              case rel => exact ⟨(x5_2), (wrap64 (x6_2 + 1)), (by first | rfl | (simp; done) | (simp [*]; done)), (by first | rfl | (simp; done) | (simp [*]; done)), H', ⟨by have := HK1.out; have := HK2.out; have := HJ3.out; have := HK4.out; omega⟩, ⟨by (with_reducible repeat (first | apply Kd.R_alloc | apply Kd.R_drewN | apply Kd.R_drew)); exact HO_3.out⟩, ⟨by repeat (first | (with_reducible first | exact HB.out | apply below_alloc | apply pw_below_drewN | apply below_drew1) | exact HB.out)⟩⟩
      ·rw [if_neg c3] at H; have c3b0 : decide (x6_2 < (l0.length : Int)) = false := decide_eq_false c3
       clear c3; by_cases c21 : x3_1.length < 17592186044416
       ·rw [if_pos c21] at H; have LMc21 := Aside0.mk c21; clear c21; obtain ⟨y262, hy262⟩ : ∃ y_ : List Int, y_ = (x3_1 ++ [x5_2]) := ⟨_, rfl⟩; replace H : (r7_Immediate.l0 k2 l0 y262 (wrap64 (x4_1 + 1))) = some r := by first | (with_reducible first | (rw [hy262]; exact H) | exact H) | (have H2_ := (Option.bind_some _ _).symm.trans H; first | with_reducible exact H2_ | (rw [hy262]; exact H2_)) | (rw [hy262]; exact H) | exact H
        have Ny262 := Aside0.mk hy262; clear hy262; have H' := Aside0.mk H
        clear H; go_wp2_with (first | ((with_reducible refine gate_builtin (b := .append) (xs := #[.tmp 67, .tmp 69]) rfl ?_); at_builtin; refine Kd.R_append (Kd.int .i64) (w0 := w) w.heap.size rfl (.tmp 67) (.tmp 69) 33 3 (.int .i64 0) 8 rfl Try.underlying33 info3 rfl (by decide) (by omega) u3 x3_1 x5_2 [.int .i64 x5_2] (fun _ => True) (fun _ => False) rfl rfl ?aP (fun _ hk => hk.elim) ?aF ?aO ?aB ?aS ?aL ?_; (case aP => exact rfl); (case aB => exact (by repeat (first | (with_reducible first | exact HB.out | apply below_alloc | apply pw_below_drewN | apply below_drew1) | exact HB.out))); (case aF => exact (fun _ _ => trivial)); (case aO => exact (by (with_reducible repeat (first | apply Kd.R_alloc | apply Kd.R_drewN | apply Kd.R_drew)); exact HO_3.out)); (case aS => exact (below_size (by repeat (first | (with_reducible first | exact HB.out | apply below_alloc | apply pw_below_drewN | apply below_drew1) | exact HB.out)))); (case aL => have := LMc21.out; omega); intro v263 w22 ho hb hg hat; rw [← Ny262.out] at ho; have n0_ := Aside0.mk (hb); have n1_ := Aside0.mk (ho); clear HB; clear HO_3; have HB := n0_; have HO264 := n1_; clear n0_ n1_; clear ho hb hg hat))
        go_roundg k2
        case measure => have := HK1.out; have := HK2.out; omega
        case rel => exact ⟨(y262), (wrap64 (x4_1 + 1)), (by first | rfl | (simp; done) | (simp [*]; done)), H', ⟨by have := HK1.out; have := HK2.out; omega⟩, ⟨by (with_reducible repeat (first | apply Kd.R_alloc | apply Kd.R_drewN | apply Kd.R_drew)); exact HO264.out⟩, ⟨by repeat (first | (with_reducible first | exact HB.out | apply below_alloc | apply pw_below_drewN | apply below_drew1) | exact HB.out)⟩⟩
       ·rw [if_neg c21] at H; exact absurd H (by simp)
   ·rw [if_neg c2] at H; have c2b0 : decide (x4_1 < (l0.length : Int)) = false := decide_eq_false c2
    clear c2; obtain rfl := Option.some.inj H; go_wp2
    go_ret
    exact ⟨_, by first | rfl | (simp [errW_none, errW_some] <;> rfl) | (simp [*, errW_none, errW_some] <;> rfl), by (with_reducible repeat (first | apply Kd.R_alloc | apply Kd.R_drewN | apply Kd.R_drew)); exact HO_3.out, by repeat (first | (with_reducible first | exact HB.out | apply below_alloc | apply pw_below_drewN | apply below_drew1) | exact HB.out)⟩
end Go.Proofs.Ytjjedbcgkljdeaa.A
end
section
namespace Go.Proofs.Ytjjedbcgkljdeaa.A
open Go.RowKit Go.Proofs.YtjjedbcgkljdeaaW.PrintWords Go.Proofs.YtjjedbcgkljdeaaW.PrintLast Go.Proofs.YtjjedbcgkljdeaaW.PrintMore
set_option linter.unusedVariables false
set_option linter.unusedSimpArgs false
def r5_SameInts.l0 : Nat → List Int → List Int → Int → Option (Bool)
 | 0, _, _, _ => none
 | k + 1, x0, x1, x5 => if x5 < (x0.length : Int) then (if 0 ≤ x5 then (if x5 < (x1.length : Int) then (if (rd x0 x5) = (rd x1 x5) then (r5_SameInts.l0 k x0 x1 (wrap64 (x5 + 1))) else (some false)) else (none)) else (none)) else (some true)
def r5_SameInts.f (k : Nat) (l0 : List Int) (l1 : List Int) : Option (Bool) := if (l0.length : Int) = (l1.length : Int) then (r5_SameInts.l0 k l0 l1 0) else (some false)
theorem r5_SameInts.mono_l : ∀ k, (∀ y0 y1 y2, LeO (r5_SameInts.l0 k y0 y1 y2) (r5_SameInts.l0 (k + 1) y0 y1 y2))
 | 0 => fun _ _ _ r h => by simp [r5_SameInts.l0] at h
 | k + 1 => by
  have ih0 := r5_SameInts.mono_l k
  ·intro y0 y1 y2
   unfold r5_SameInts.l0
   repeat' first
   | (with_reducible exact ih0 _ _ _)
   | (with_reducible exact LeO.refl _)
   | (with_reducible exact LeO.none _)
   | (with_reducible refine LeO.ite ?_ ?_)
   | (with_reducible refine LeO.bind ?_ (fun _ => ?_))
theorem r5_SameInts.mono : ∀ a0 a1 k, LeO (r5_SameInts.f k a0 a1) (r5_SameInts.f (k + 1) a0 a1) := by
 intro a0 a1 k
 have ih0 := r5_SameInts.mono_l k; unfold r5_SameInts.f
 repeat' first
   | (with_reducible exact ih0 _ _ _)
   | (with_reducible exact LeO.refl _)
   | (with_reducible exact LeO.none _)
   | (with_reducible refine LeO.ite ?_ ?_)
   | (with_reducible refine LeO.bind ?_ (fun _ => ?_))
set_option maxHeartbeats 8000000 in
set_option maxRecDepth 100000 in
theorem r5_SameInts.calls (k : Nat) (A0 : Option Addr) (c0 : Nat) (l0 : List Int) (A1 : Option Addr) (c1 : Nat) (l1 : List Int) (r : Bool) (w : World) (hr0 : Kd.C (Kd.int .i64) w A0 l0.length l0) (hc0 : l0.length ≤ c0) (hr1 : Kd.C (Kd.int .i64) w A1 l1.length l1) (hc1 : l1.length ≤ c1) (h : r5_SameInts.f k l0 l1 = some r) :
  Calls Try.prog 24 #[.slice A0 l0.length c0, .slice A1 l1.length c1] w fun e w' => e = .returned (.bool r) ∧ Drawn0 w w' := by
 have HR0 := Aside0.mk hr0; have HC0 := Aside0.mk hc0; clear hr0 hc0; have HR1 := Aside0.mk hr1; have HC1 := Aside0.mk hc1; clear hr1 hc1; have H : (if (l0.length : Int) = (l1.length : Int) then (r5_SameInts.l0 k l0 l1 0) else (some false)) = some r := h
 clear h; by_cases c3 : (l0.length : Int) = (l1.length : Int)
 ·rw [if_pos c3] at H; have c3b0 : ((l0.length : Int) == (l1.length : Int)) = true := beq_iff_eq.mpr c3
  have c3b1 : ((l0.length : Int) != (l1.length : Int)) = false := bne_eq_false_iff_eq.mpr c3
  have c3b2 : (l0.length == l1.length) = true := by first | simpa using c3 | (simp at c3 ⊢; omega)
  clear c3; have H' := Aside0.mk H
  clear H; go_enter Try.func24, Try.ntmps24
  go_wp2
  repeat (go_quiet (fail); try go_wp2)
  go_loopg [5] k (fun kq v5 w' => ∃ (x5_1 : Int), v5 = .int .i64 x5_1 ∧ Aside0 (r5_SameInts.l0 kq l0 l1 x5_1 = some r) ∧ Aside0 (kq ≤ k) ∧ Drawn0 w w')
  case atStart => exact ⟨(0), (by first | rfl | (simp; done) | (simp [*]; done)), H', ⟨Nat.le_refl _⟩, by repeat (first | exact Drawn0.refl _ | apply Drawn0.step)⟩
  case round =>
   clear H'; try clear c1
   try clear c2
   try clear p2
   try clear c3
   try clear c3b0
   try clear c3b1
   try clear c3b2
   obtain ⟨x5_1, rfl, HA, HK1, ⟨m1, rfl⟩⟩ := hrel; cases gk with
   | zero => exact absurd HA.out (by simp [r5_SameInts.l0])
   | succ k1 =>
    have H := HA.out; clear HA; simp only [r5_SameInts.l0] at H
    by_cases c4 : x5_1 < (l0.length : Int)
    ·rw [if_pos c4] at H; have c4b0 : decide (x5_1 < (l0.length : Int)) = true := decide_eq_true c4
     clear c4; by_cases c5 : 0 ≤ x5_1
     ·rw [if_pos c5] at H; have c5b0 : decide (0 ≤ x5_1) = true := decide_eq_true c5
      clear c5; by_cases c6 : x5_1 < (l1.length : Int)
      ·rw [if_pos c6] at H; have c6b0 : decide (x5_1 < (l1.length : Int)) = true := decide_eq_true c6
       clear c6; by_cases c7 : (rd l0 x5_1) = (rd l1 x5_1)
       ·rw [if_pos c7] at H; have c7b0 : ((rd l0 x5_1) == (rd l1 x5_1)) = true := beq_iff_eq.mpr c7
        have c7b1 : ((rd l0 x5_1) != (rd l1 x5_1)) = false := bne_eq_false_iff_eq.mpr c7
        clear c7; have H' := Aside0.mk H
        clear H; have p384 : 0 ≤ (x5_1 : Int) := of_decide_eq_true (by with_reducible assumption)
        have q384 : x5_1 < (l0.length : Int) := of_decide_eq_true (by with_reducible assumption)
        obtain ⟨ad384, e384, hx384_0⟩ := Kd.at_int HR0.out x5_1 p384 q384; cases e384; replace p384 := eq_true p384; replace q384 := eq_true q384; have p385 : 0 ≤ (x5_1 : Int) := of_decide_eq_true (by with_reducible assumption)
        have q385 : x5_1 < (l1.length : Int) := of_decide_eq_true (by with_reducible assumption)
        obtain ⟨ad385, e385, hx385_0⟩ := Kd.at_int HR1.out x5_1 p385 q385; cases e385; replace p385 := eq_true p385; replace q385 := eq_true q385; go_wp2
        repeat (go_quiet (fail); try go_wp2)
        go_roundg k1
        case measure => have := HK1.out; omega
        case rel => exact ⟨(wrap64 (x5_1 + 1)), (by first | rfl | (simp; done) | (simp [*]; done)), H', ⟨by have := HK1.out; omega⟩, by repeat (first | exact Drawn0.refl _ | apply Drawn0.step)⟩
       ·rw [if_neg c7] at H; have c7b0 : ((rd l0 x5_1) == (rd l1 x5_1)) = false := beq_eq_false_iff_ne.mpr c7
        have c7b1 : ((rd l0 x5_1) != (rd l1 x5_1)) = true := bne_iff_ne.mpr c7
        obtain rfl := Option.some.inj H; have p384 : 0 ≤ (x5_1 : Int) := of_decide_eq_true (by with_reducible assumption)
        have q384 : x5_1 < (l0.length : Int) := of_decide_eq_true (by with_reducible assumption)
        obtain ⟨ad384, e384, hx384_0⟩ := Kd.at_int HR0.out x5_1 p384 q384; cases e384; replace p384 := eq_true p384; replace q384 := eq_true q384; have p385 : 0 ≤ (x5_1 : Int) := of_decide_eq_true (by with_reducible assumption)
        have q385 : x5_1 < (l1.length : Int) := of_decide_eq_true (by with_reducible assumption)
        obtain ⟨ad385, e385, hx385_0⟩ := Kd.at_int HR1.out x5_1 p385 q385; cases e385; replace p385 := eq_true p385; replace q385 := eq_true q385; go_wp2
        repeat (go_quiet (fail); try go_wp2)
        go_ret
        exact ⟨by first | rfl | (simp; done) | (simp [*]; done), by repeat (first | exact Drawn0.refl _ | apply Drawn0.step)⟩
      ·rw [if_neg c6] at H; exact absurd H (by simp)
     ·rw [if_neg c5] at H; exact absurd H (by simp)
    ·rw [if_neg c4] at H; have c4b0 : decide (x5_1 < (l0.length : Int)) = false := decide_eq_false c4
     clear c4; obtain rfl := Option.some.inj H; go_wp2
     repeat (go_quiet (fail); try go_wp2)
     go_ret
     exact ⟨by first | rfl | (simp; done) | (simp [*]; done), by repeat (first | exact Drawn0.refl _ | apply Drawn0.step)⟩
 ·rw [if_neg c3] at H; have c3b0 : ((l0.length : Int) == (l1.length : Int)) = false := beq_eq_false_iff_ne.mpr c3
  have c3b1 : ((l0.length : Int) != (l1.length : Int)) = true := bne_iff_ne.mpr c3
  have c3b2 : (l0.length == l1.length) = false := by first | simpa using c3 | (simp at c3 ⊢; omega)
  obtain rfl := Option.some.inj H; go_enter Try.func24, Try.ntmps24
  go_wp2
  repeat (go_quiet (fail); try go_wp2)
  go_ret
  exact ⟨by first | rfl | (simp; done) | (simp [*]; done), by repeat (first | exact Drawn0.refl _ | apply Drawn0.step)⟩
end Go.Proofs.Ytjjedbcgkljdeaa.A
end
section
namespace Go.Proofs.Ytjjedbcgkljdeaa
open Go Go.RowKit Go.Shelf Go.Proofs.YtjjedbcgkljdeaaW.PrintWords Go.Proofs.YtjjedbcgkljdeaaW.PrintLast Go.Proofs.YtjjedbcgkljdeaaW.PrintMore Go.Proofs.Ytjjedbcgkljdeaa.A
theorem grownBy_set0 (W : World) (a : Addr) (v : Value) : W.grownBy (W.setCell a v) (some a.block) :=
 ⟨rfl, rfl, rfl, (KeepsWalks.setCell W _ v).size, fun k _ hk => Below.heap_setCell _ _ _ k (fun e => hk (by rw [e]))⟩
structure OutSt (w2 W : World) (N go : Nat) (vs : List Value) (ls : List (List Int)) : Prop where
 len : vs.length = ls.length
 top : W.heap[go]? = some (.cells vs.toArray 33 (0, 0))
 lt : go < N
 nw : N ≤ w2.heap.size
 own : ∀ i (h : i < vs.length), W.ownsRow N 3 1 (vs[i]) (ls.getD i []).length (nums .i64 (ls.getD i []))
 apart : ∀ i j (h : i < vs.length) (h' : j < vs.length), i ≠ j → (vs[i]).ownBlock ≠ none → (vs[i]).ownBlock ≠ (vs[j]).ownBlock
 os : W.os = w2.os
 tape : W.tape = w2.tape
 output : W.output = w2.output
 size : w2.heap.size ≤ W.heap.size
 same : ∀ k, k < N → k ≠ go → W.heap[k]? = w2.heap[k]?
theorem OutSt.ge {w2 W : World} {N go : Nat} {vs : List Value} {ls : List (List Int)} (h : OutSt w2 W N go vs ls) (i : Nat) (hi : i < vs.length) (k : Nat) (hk : (vs[i]).ownBlock = some k) : N ≤ k := own_base (h.own i hi) k hk
theorem OutSt.put {w2 W W1 : World} {N go : Nat} {vs : List Value} {ls : List (List Int)} (h : OutSt w2 W N go vs ls) (i : Nat) (hi : i < vs.length) {v1 : Value} {l1 : List Int} (hg : W.grownBy W1 (vs[i]).ownBlock)
  (ho : W1.ownsRow N 3 1 v1 l1.length (nums .i64 l1)) (hat : v1.ownBlock = (vs[i]).ownBlock ∨ v1.ownBlock = none ∨ ∃ b, v1.ownBlock = some b ∧ W.heap.size ≤ b) : OutSt w2 (W1.setCell ⟨go, i, none⟩ v1) N go (vs.set i v1) (ls.set i l1) := by
 have hgo : some go ≠ (vs[i]).ownBlock := fun e => by have := h.ge i hi go e.symm; have := h.lt; omega
 have hlt : ∀ j (hj : j < vs.length) k, (vs[j]).ownBlock = some k → k < W.heap.size := fun j hj k hk => by
  obtain ⟨cs, hc⟩ := own_typed (h.own j hj) k hk; exact (Array.getElem?_eq_some_iff.1 hc).1
 refine ⟨by simp [h.len], ?_, h.lt, h.nw, ?_, ?_, hg.os.trans h.os, hg.tape.trans h.tape, hg.output.trans h.output, Nat.le_trans h.size (Nat.le_trans hg.size (KeepsWalks.setCell W1 _ v1).size), ?_⟩
 ·have := blk_grown h.top hg hgo
  rw [blk_set this]; simp
 ·intro j hj'
  have hj : j < vs.length := by simpa using hj'
  by_cases e : j = i
  ·subst e; have hl : (ls.set j l1).getD j [] = l1 := by rw [List.getD_eq_getElem?_getD, List.getElem?_set_self (by rw [← h.len]; exact hj)]; rfl
   rw [List.getElem_set_self, hl]; exact own_setCell ho (fun e => by have e2 := own_base ho go e.symm; have := h.lt; omega) _
  ·have hl : (ls.set i l1).getD j [] = ls.getD j [] := by rw [List.getD_eq_getElem?_getD, List.getElem?_set_ne (fun q => e q.symm), ← List.getD_eq_getElem?_getD]
   rw [List.getElem_set_ne (fun q => e q.symm), hl]
   refine own_setCell ((h.own j hj).kept hg ?_) (fun e => by have := h.ge j hj go e.symm; have := h.lt; omega) _
   by_cases hn : (vs[j]).ownBlock = none
   ·exact .inl hn
   ·exact .inr (h.apart j i hj hi e hn)
 ·have key : ∀ j (hj : j < vs.length), j ≠ i → (vs[j]).ownBlock ≠ none → (vs[j]).ownBlock ≠ v1.ownBlock := by
   intro j hj e hn hq
   rcases hat with hat | hat | ⟨b, hat, hb⟩
   ·exact h.apart j i hj hi e hn (hq.trans hat)
   ·exact hn (hq.trans hat)
   ·have := hlt j hj b (hq.trans hat); omega
  intro j j' hjs hjs' hne hn
  have hj : j < vs.length := by simpa using hjs
  have hj' : j' < vs.length := by simpa using hjs'
  by_cases e : j = i
  ·subst e; rw [List.getElem_set_self] at hn ⊢
   rw [List.getElem_set_ne (fun q => hne q)]
   intro hq
   exact key j' hj' (fun q => hne q.symm) (fun q => hn (hq.trans q)) hq.symm
  ·rw [List.getElem_set_ne (fun q => e q.symm)] at hn ⊢
   by_cases e' : j' = i
   ·subst e'; rw [List.getElem_set_self]; exact key j hj e hn
   ·rw [List.getElem_set_ne (fun q => e' q.symm)]
    exact h.apart j j' hj hj' hne hn
 ·intro k hk hk2
  have hW : k < W.heap.size := Nat.lt_of_lt_of_le hk (Nat.le_trans h.nw h.size)
  have e1 : (W1.setCell ⟨go, i, none⟩ v1).heap[k]? = W1.heap[k]? := (grownBy_set0 W1 ⟨go, i, none⟩ v1).block k (Nat.lt_of_lt_of_le hW hg.size) (fun e => hk2 (by cases e; rfl))
  rw [e1, hg.block k hW (fun e => by have := h.ge i hi k e.symm; omega)]
  exact h.same k hk hk2
theorem OutSt.grown {w2 W W1 : World} {N go : Nat} {vs : List Value} {ls : List (List Int)} (h : OutSt w2 W N go vs ls) (hb : Below W.heap.size W W1) : OutSt w2 W1 N go vs ls := by
 have hs := Nat.le_trans h.nw h.size; refine ⟨h.len, blk_below h.top hb, h.lt, h.nw, fun i hi => pw_own_below (h.own i hi) hb, h.apart, hb.os.trans h.os, hb.tape.trans h.tape, hb.output.trans h.output, Nat.le_trans h.size hb.size, fun k hk hk2 => ?_⟩
 rw [hb.block k (by omega)]
 exact h.same k hk hk2
theorem OutSt.below {w w2 W : World} {N go : Nat} {vs : List Value} {ls : List (List Int)} (h : OutSt w2 W N go vs ls) (hb : Below w.heap.size w w2) (hw : w.heap.size ≤ go) : Below w.heap.size w W :=
 ⟨h.os.trans hb.os, h.tape.trans hb.tape, h.output.trans hb.output, Nat.le_trans hb.size h.size, fun k hk => (h.same k (by have := h.lt; omega) (by omega)).trans (hb.block k hk)⟩
theorem OutSt.cell {w2 W : World} {N go : Nat} {vs : List Value} {ls : List (List Int)} (h : OutSt w2 W N go vs ls) (i : Nat) (hi : i < vs.length) :
  ∃ A c, vs[i] = .slice A (ls.getD i []).length c ∧ W.cell? ⟨go, i, none⟩ = some (.slice A (ls.getD i []).length c) ∧ W.frozen? ⟨go, i, none⟩ = false := by
 obtain ⟨A, c, e⟩ := own_slice (h.own i hi); refine ⟨A, c, e, ?_, blk_frozen h.top i⟩
 rw [blk_cell h.top i, ← e]; simp [hi]
theorem OutSt.row {w2 W : World} {N go base : Nat} {vs : List Value} {ls : List (List Int)} (h : OutSt w2 W N go vs ls) (hb : base ≤ go) (hm : vs.length ≤ maxLen) :
  Kd.S (Kd.slice 3 (Kd.int .i64)) 33 W base (fun _ => True) (.slice (some ⟨go, 0, none⟩) vs.length vs.length) ls := by
 refine ⟨fun k => (vs.findIdx fun v => v.ownBlock == some k), fun _ _ => trivial, vs, ⟨?_, ?_⟩, ?_, ?_⟩
 ·simp [Kd.tag, Kd.slice, h.len]
 ·refine .inr ⟨go, vs.length, vs.toArray, by simp [h.len], hb, h.top, by simp [h.len], hm, by simp [Kd.tag, Kd.slice], ?_⟩
  simp [Kd.tag, Kd.slice, ← h.len]
 ·simp [Kd.tag, Kd.slice, h.len]
 ·rintro j ⟨p, q⟩ hj
  have hq := List.mem_zipIdx' (List.mem_of_getElem? hj); rw [List.getElem?_zipIdx, Nat.zero_add, Option.map_eq_some_iff] at hj; obtain ⟨p', hp, e⟩ := hj; obtain ⟨rfl, rfl⟩ := Prod.mk.inj e; have hjl : j < ls.length := (List.getElem?_eq_some_iff.1 hp).1
  have hjv : j < vs.length := by rw [h.len]; exact hjl
  have hg : ls.getD j [] = p' := by rw [List.getD_eq_getElem?_getD, hp]; rfl
  have ho := h.own j hjv; rw [hg] at ho; refine ⟨vs[j], ?_, Kd.R_of_own (ownsRow_le ho (Nat.le_trans hb (Nat.le_of_lt h.lt))) (fun k hk => ⟨⟨trivial, ?_⟩, ?_⟩)⟩
  ·show List.take 1 (List.drop (j * 1) vs) = _
   rw [Nat.mul_one, List.drop_eq_getElem_cons hjv]; rfl
  ·intro e
   have := h.ge j hjv k hk
   have hl := h.lt; simp [Value.ownBlock] at e
   omega
  ·show List.findIdx _ vs = j
   rw [List.findIdx_eq hjv]; refine ⟨by simp [hk], fun i hi => ?_⟩
   have := h.apart j i hjv (by omega) (by omega) (by rw [hk]; simp)
   rw [hk] at this; simpa using fun e => this e.symm
end Go.Proofs.Ytjjedbcgkljdeaa
end
section
namespace Go.Proofs.Ytjjedbcgkljdeaa.D
open Go Go.RowKit Go.Shelf Go.Proofs.YtjjedbcgkljdeaaW.PrintWords Go.Proofs.YtjjedbcgkljdeaaW.PrintLast Go.Proofs.YtjjedbcgkljdeaaW.PrintMore Go.Proofs.Ytjjedbcgkljdeaa Go.Proofs.Ytjjedbcgkljdeaa.A Go.Proofs.Ytjjedbcgkljdeaa.B
def frMark (out : List (List Int)) (a b : Int) : List (List Int) :=
 if (rd_L1 out a).length = 0 then out.set a.toNat (rd_L1 out a ++ [b])
 else if rd (rd_L1 out a) (((rd_L1 out a).length : Int) - 1) = b then out else out.set a.toNat (rd_L1 out a ++ [b])
def frIn (up : List Int) (b : Int) : Nat → List (List Int) → Int → Option (List (List Int))
 | 0, _, _ => none
 | k + 1, out, a => if 0 ≤ a then
   (if 0 ≤ b then if b < (up.length : Int) then
    (if a = rd up b then some out else
     (if a < (out.length : Int) then if (rd_L1 out a).length < 17592186044416 then if a < (up.length : Int) then frIn up b k (frMark out a b) (rd up a) else none else none else none))
   else none else none)
  else some out
def frP (k : Nat) (seen : List Bool) (up : List Int) (b : Int) : List Int → List (List Int) → Option (List (List Int))
 | [], out => some out
 | p :: ps, out => if 0 ≤ p then if p < (seen.length : Int) then
   (if rdOf false seen p = true then (frIn up b k out p).bind fun out1 => frP k seen up b ps out1 else frP k seen up b ps out)
  else none else none
def frB (k : Nat) (seen : List Bool) (up : List Int) (before : List (List Int)) : List Nat → List (List Int) → Option (List (List Int))
 | [], out => some out
 | b :: bs, out => if b < seen.length then
   (if rdOf false seen (b : Int) = true then if b < before.length then (frP k seen up (b : Int) (rd_L1 before (b : Int)) out).bind fun out1 => frB k seen up before bs out1 else none else frB k seen up before bs out)
  else none
def graph_Frontier.f (k : Nat) (l0 : List (List Int)) : Option (List (List Int) × Int) :=
 (graph_valid.f k l0).bind fun v => if v = true then
  if l0.length ≤ 5864062014805 then (graph_tree.f k l0 0).bind fun up => (graph_fromOpen.f k l0 [0]).bind fun seen => (graph_turned.f k l0).bind fun before =>
   (frB k seen up before (List.range l0.length) (List.replicate l0.length [])).bind fun out => some (out, 0)
  else none
 else some ([], 1)
theorem frIn_mono (up : List Int) (b : Int) : ∀ k out a, LeO (frIn up b k out a) (frIn up b (k + 1) out a)
 | 0 => fun _ _ r h => by simp [frIn] at h
 | k + 1 => by
  intro out a
  unfold frIn
  exact LeO.ite (LeO.ite (LeO.ite (LeO.ite (LeO.refl _) (LeO.ite (LeO.ite (LeO.ite (frIn_mono up b k _ _) (LeO.none _)) (LeO.none _)) (LeO.none _))) (LeO.none _)) (LeO.none _)) (LeO.refl _)
theorem frP_mono (k : Nat) (seen : List Bool) (up : List Int) (b : Int) : ∀ l out, LeO (frP k seen up b l out) (frP (k + 1) seen up b l out)
 | [] => fun _ => LeO.refl _
 | p :: ps => fun out => by
  unfold frP
  exact LeO.ite (LeO.ite (LeO.ite (LeO.bind (frIn_mono up b k _ _) fun _ => frP_mono k seen up b ps _) (frP_mono k seen up b ps _)) (LeO.none _)) (LeO.none _)
theorem frB_mono (k : Nat) (seen : List Bool) (up : List Int) (before : List (List Int)) : ∀ l out, LeO (frB k seen up before l out) (frB (k + 1) seen up before l out)
 | [] => fun _ => LeO.refl _
 | b :: bs => fun out => by
  unfold frB
  exact LeO.ite (LeO.ite (LeO.ite (LeO.bind (frP_mono k seen up _ _ _) fun _ => frB_mono k seen up before bs _) (LeO.none _)) (frB_mono k seen up before bs _)) (LeO.none _)
theorem graph_Frontier.mono : ∀ a0 k, LeO (graph_Frontier.f k a0) (graph_Frontier.f (k + 1) a0) := fun a0 k => by
 unfold graph_Frontier.f
 refine LeO.bind (graph_valid.mono _ _) fun _ => LeO.ite (LeO.ite (LeO.bind (graph_tree.mono _ _ _) fun _ => LeO.bind (graph_fromOpen.mono _ _ _) fun _ => LeO.bind (graph_turned.mono _ _) fun _ => LeO.bind (frB_mono k _ _ _ _ _) fun _ => LeO.refl _) (LeO.none _)) (LeO.refl _)
end Go.Proofs.Ytjjedbcgkljdeaa.D
end
section
namespace Go.Proofs.Ytjjedbcgkljdeaa.D
open Go Go.RowKit Go.Shelf Go.Proofs.YtjjedbcgkljdeaaW.PrintWords Go.Proofs.YtjjedbcgkljdeaaW.PrintLast Go.Proofs.YtjjedbcgkljdeaaW.PrintMore Go.Proofs.Ytjjedbcgkljdeaa Go.Proofs.Ytjjedbcgkljdeaa.A Go.Proofs.Ytjjedbcgkljdeaa.B
theorem append_num_n {P : Program} {ops : Array Oper} {rest : List Oper} {o : Oper} {a : Act} {Q : Exit → Act → World → Prop} {w0 W : World} (base : Nat) (hgd : o.guard = none) (s x : Operand) (t e : TypeId) (k : IntKind) (bytes : Nat)
  (ho : o.op = .call { callee := .builtin .append, args := #[s, x], argTypes := #[t, t] })
  (ht : P.underlying t = some (.slice e)) (hinfo : (P.info? e).map (fun i => (i.zero, i.size, i.bytes)) = some (some (.int k 0), 1, bytes)) (hb0 : 0 < bytes)
  (v : Value) (xs : List Int) (n : Nat) (hn : xs.length = n) (y : Int) (hs : a.eval s = v) (hx : a.eval x = .slice (some ⟨W.heap.size, 0, none⟩) 1 1)
  (HO : W.ownsRow base e 1 v n (nums k xs)) (HB : Below base w0 W) (hbase : base ≤ W.heap.size) (hl : (n + 1) * bytes ≤ 140737488355328)
  (h : ∀ v1 w1, w1.ownsRow base e 1 v1 (n + 1) (nums k (xs ++ [y])) → Below base w0 w1 → W.grownBy w1 v.ownBlock → (v1.ownBlock = v.ownBlock ∨ ∃ b, v1.ownBlock = some b ∧ W.heap.size ≤ b) → wpList P ops Q rest (a.put o.dst v1) w1) :
  wpList P ops Q (o :: rest) a (W.alloc (.cells #[.int k y] e)) := by
 subst hn; refine print_append_num (w0 := w0) base hgd s x t e k bytes ho ht hinfo hb0 v xs y hs hx HO HB hbase hl ?_
 intro v1 w1 ho hb hg hat
 rw [show (xs ++ [y]).length = xs.length + 1 by simp] at ho
 exact h v1 w1 ho hb hg hat
structure FrSt (w w2 W : World) (go : Nat) (vs : List Value) (ls : List (List Int)) (vU : Value) (up : List Int) (vS : Value) (seen : List Bool) (vB : Value) (before : List (List Int)) : Prop where
 o : OutSt w2 W w2.heap.size go vs ls
 wgo : w.heap.size ≤ go
 b2 : Below w.heap.size w w2
 up : Kd.R (Kd.int .i64) 3 w2 (go + 1) (fun k => go < k ∧ k < w2.heap.size) vU up
 seen : Kd.R Kd.bool 4 w2 (go + 1) (fun k => go < k ∧ k < w2.heap.size) vS seen
 before : Kd.R (Kd.slice 3 (Kd.int .i64)) 33 w2 (go + 1) (fun k => go < k ∧ k < w2.heap.size) vB before
theorem FrSt.upR {w w2 W : World} {go : Nat} {vs : List Value} {ls : List (List Int)} {vU : Value} {up : List Int} {vS : Value} {seen : List Bool} {vB : Value} {before : List (List Int)} (h : FrSt w w2 W go vs ls vU up vS seen vB before) :
  Kd.R (Kd.int .i64) 3 W (go + 1) (fun k => go < k ∧ k < w2.heap.size) vU up := Kd.R_move h.up (fun _ hk => h.o.same _ hk.2 (by omega))
theorem FrSt.seenR {w w2 W : World} {go : Nat} {vs : List Value} {ls : List (List Int)} {vU : Value} {up : List Int} {vS : Value} {seen : List Bool} {vB : Value} {before : List (List Int)} (h : FrSt w w2 W go vs ls vU up vS seen vB before) :
  Kd.R Kd.bool 4 W (go + 1) (fun k => go < k ∧ k < w2.heap.size) vS seen := Kd.R_move h.seen (fun _ hk => h.o.same _ hk.2 (by omega))
theorem R_between {α : Type} {d : Kd α} {e : Nat} {w1 w2 : World} {base b : Nat} {v : Value} {xs : List α} (h : d.R e w1 base (fun _ => True) v xs) (hb : b ≤ base) (hw : Below w1.heap.size w1 w2) : d.R e w2 b (fun k => b ≤ k ∧ k < w2.heap.size) v xs :=
 Kd.R_below (Kd.R_lower (Kd.R_mono (Kd.R_bound h) (fun _ hk => ⟨Nat.le_trans hb hk.2.1, Nat.lt_of_lt_of_le hk.2.2.1 hw.size⟩)) hb) hw
set_option maxHeartbeats 4000000 in
set_option maxRecDepth 100000 in
theorem graph_Frontier.calls (k : Nat) (A0 : Option Addr) (c0 : Nat) (l0 : List (List Int)) (r1 : List (List Int)) (r2 : Int) (w : World) (hr0 : Kd.C (Kd.slice 3 (Kd.int .i64)) w A0 l0.length l0) (hc0 : l0.length ≤ c0) (h : graph_Frontier.f k l0 = some (r1, r2)) :
  Calls Try.prog 15 #[.slice A0 l0.length c0] w fun e w' => ∃ v0_ : Value, e = .returned (.tuple #[v0_, .int .i64 r2]) ∧ Kd.S (Kd.slice 3 (Kd.int .i64)) 33 w' w.heap.size (fun _ => True) v0_ r1 ∧ Below w.heap.size w w' := by
 unfold graph_Frontier.f at h
 obtain ⟨v, hv, h⟩ := Option.bind_eq_some_iff.mp h; have HR0 := Aside0.mk hr0; have HC0 := Aside0.mk hc0; have HV := Aside0.mk hv; clear hr0 hc0 hv; cases v with
 | false =>
  simp only [Bool.false_eq_true, if_false, Option.some.injEq, Prod.mk.injEq] at h
  obtain ⟨rfl, rfl⟩ := h; go_enter Try.func15, Try.ntmps15
  go_wp2_with fail
  refine (graph_valid.calls k _ _ l0 false _ HR0.out HC0.out HV.out).mono ?_
  rintro e w1 ⟨rfl, ⟨nd, rfl⟩⟩
  go_wp2
  go_ret2
  exact ⟨_, rfl, ⟨fun _ => 0, Kd.R_nil _ _ _ _ _⟩, pw_below_drewN (Below.refl _ _) _⟩
 | true =>
  simp only [if_true] at h
  by_cases hlen : l0.length ≤ 5864062014805
  case neg => rw [if_neg hlen] at h; cases h
  rw [if_pos hlen] at h; obtain ⟨up, hup, h⟩ := Option.bind_eq_some_iff.mp h; obtain ⟨seen, hseen, h⟩ := Option.bind_eq_some_iff.mp h; obtain ⟨before, hbef, h⟩ := Option.bind_eq_some_iff.mp h; obtain ⟨out, hout, h⟩ := Option.bind_eq_some_iff.mp h; simp only [Option.some.injEq, Prod.mk.injEq] at h
  obtain ⟨rfl, rfl⟩ := h; have HU := Aside0.mk hup; have HSe := Aside0.mk hseen; have HBe := Aside0.mk hbef; have HO := Aside0.mk hout; clear hup hseen hbef hout; have hmk := print_make_of (P := Try.prog) 22 33 (.slice none 0 0) 24 Try.underlying22 A.info33 rfl (by decide) l0.length (by omega)
  go_enter Try.func15, Try.ntmps15
  go_wp2_with fail
  refine (graph_valid.calls k _ _ l0 true _ HR0.out HC0.out HV.out).mono ?_
  rintro e w1 ⟨rfl, ⟨nd, rfl⟩⟩
  go_upto_region 4 with (fail)
  clear hmk; obtain ⟨go, hgo⟩ : ∃ go, go = w.heap.size := ⟨_, rfl⟩; rw [← hgo]; refine gen_world (P := fun W => W.heap[go]? = some (.cells (List.replicate l0.length (.slice none 0 0)).toArray 33 (0, 0)) ∧ Below w.heap.size w W) ?_ ?_
  ·refine ⟨?_, (pw_below_drewN (Below.refl _ _) nd).alloc (Nat.le_refl _) _⟩
   have e0 : (madeCells #[(.slice none 0 0 : Value)] l0.length) = (List.replicate l0.length (.slice none 0 0)).toArray := by
    apply Array.ext_getElem?
    intro i
    simp only [madeCells, Array.getElem?_map, List.getElem?_toArray]
    by_cases hi : i < l0.length
    ·rw [Array.getElem?_eq_getElem (by simpa using hi), List.getElem?_eq_getElem (by simpa using hi)]; simp [Nat.mod_one]
    ·rw [Array.getElem?_eq_none (by simpa using hi), List.getElem?_eq_none (by simpa using hi)]; rfl
   rw [e0]; exact new_at _ hgo
  rintro W1 ⟨ht1, hb1⟩
  have HT1 := Aside0.mk ht1; have HB1 := Aside0.mk hb1; have HGo := Aside0.mk hgo; clear ht1 hb1 hgo; go_wp2_with fail
  refine (graph_tree.calls k _ _ l0 0 up _ (Kd.C_below HR0.out HB1.out) HC0.out HU.out).mono ?_
  rintro e W2 ⟨vU, rfl, hrU, hbU⟩
  have HRU := Aside0.mk hrU; have HBU := Aside0.mk hbU; clear hrU hbU; go_wp2_with fail
  have HB2 : Aside0 (Below w.heap.size w (W2.alloc (.cells #[.int .i64 0] 3))) := ⟨below_alloc (HB1.out.trans (HBU.out.mono HB1.out.size)) _⟩
  have hl1 : Kd.R (Kd.int .i64) 3 (W2.alloc (.cells #[.int .i64 0] 3)) W2.heap.size (fun _ => True) (.slice (some ⟨W2.heap.size, 0, none⟩) 1 1) [0] :=
   Kd.R_of_own ⟨rfl, .inr ⟨W2.heap.size, 1, _, rfl, Nat.le_refl _, new_at _ rfl, Nat.le_refl _, by decide, rfl, rfl⟩⟩ (fun _ _ => trivial)
  refine (graph_fromOpen.calls k _ _ l0 _ _ [0] seen _ (Kd.C_below HR0.out HB2.out) HC0.out (Kd.R_reads' hl1).2.2 (Nat.le_refl _) HSe.out).mono ?_
  clear hl1; rintro e W3 ⟨vS, rfl, hrS, hbS⟩
  have HRS := Aside0.mk hrS; have HBS := Aside0.mk hbS; have HB3 : Aside0 (Below w.heap.size w W3) := ⟨HB2.out.trans (HBS.out.mono HB2.out.size)⟩
  clear hrS hbS; go_wp2_with fail
  refine (graph_turned.calls k _ _ l0 before _ (Kd.C_below HR0.out HB3.out) HC0.out HBe.out).mono ?_
  rintro e w2 ⟨vB, rfl, hrB, hbB⟩
  have HRB := Aside0.mk (Kd.S_R hrB); have HBB := Aside0.mk hbB; have HB4 : Aside0 (Below w.heap.size w w2) := ⟨HB3.out.trans (HBB.out.mono HB3.out.size)⟩
  clear hrB hbB; have hbS' : Below W2.heap.size W2 W3 := (below_alloc (Below.refl _ _) _).trans (HBS.out.mono (by simp))
  have hF : FrSt w w2 w2 go (List.replicate l0.length (.slice none 0 0)) (List.replicate l0.length []) vU up vS seen vB before := by
   have hlt := blk_lt HT1.out; have s1 : W1.heap.size ≤ W2.heap.size := HBU.out.size
   have s2 := hbS'.size; have s3 := HBB.out.size; have hbB' : Below W2.heap.size W2 w2 := hbS'.trans (HBB.out.mono s2)
   have hsz : (W2.alloc (.cells #[.int .i64 0] 3)).heap.size = W2.heap.size + 1 := by simp
   refine ⟨⟨by simp, blk_below (blk_below HT1.out HBU.out) hbB', by omega, Nat.le_refl _, ?_, ?_, rfl, rfl, rfl, Nat.le_refl _, fun _ _ _ => rfl⟩, by rw [HGo.out]; exact Nat.le_refl _, HB4.out, ?_, ?_, ?_⟩
   ·intro i hi
    have hi' : i < l0.length := by simpa using hi
    have e1 : (List.replicate l0.length ([] : List Int)).getD i [] = [] := by rw [List.getD_eq_getElem?_getD]; simp [hi']
    rw [e1, List.getElem_replicate]; exact own_nil _ _ _ _
   ·intro i j hi hj _ hn
    rw [List.getElem_replicate] at hn; exact absurd rfl hn
   ·exact R_between HRU.out (by omega) hbB'
   ·exact R_between HRS.out (by omega) HBB.out
   ·exact R_between HRB.out (by omega) (Below.refl _ _)
  have HF := Aside0.mk hF; clear hF HB1 HB2 HB3 HBU HBS HBB HRU HRS HRB HT1 hbS'; obtain ⟨AU, cU, rfl⟩ := Kd.R_slice HF.out.up; obtain ⟨AS, cS, rfl⟩ := Kd.R_slice HF.out.seen; obtain ⟨AB, cB, rfl⟩ := Kd.R_slice HF.out.before; have HO0 : Aside0 (frB k seen up before (List.range' 0 l0.length) (List.replicate l0.length []) = some out) := ⟨by rw [← List.range_eq_range']; exact HO.out⟩
  have hmU := Kd.C_max (Kd.R_reads' HF.out.up).2.2; have hmS := Kd.C_max (Kd.R_reads' HF.out.seen).2.2; have hmB := Kd.C_max (Kd.R_reads' HF.out.before).2.2; clear HO HV HU HSe HBe h HR0 HC0; go_wp2
  go_loopw [28] (fun i wr => ∃ (j : Nat) (vs : List Value) (ls : List (List Int)), j ≤ l0.length ∧ i = .int .i64 j ∧ Aside0 (frB k seen up before (List.range' j (l0.length - j)) ls = some out) ∧ Aside0 (FrSt w w2 wr go vs ls (.slice AU up.length cU) up (.slice AS seen.length cS) seen (.slice AB before.length cB) before) ∧ Aside0 (ls.length = l0.length)) (fun i _ => l0.length - (intOf i).toNat)
  case atStart => exact ⟨0, _, _, by omega, rfl, HO0, HF, ⟨by simp⟩⟩
  case round =>
   obtain ⟨j, vs, ls, hj, rfl, HV, HF, HS⟩ := hrel; clear HO0; by_cases hlt : j < l0.length
   ·have hv := HV.out; rw [show l0.length - j = (l0.length - (j + 1)) + 1 by omega, List.range'_succ, frB] at hv
    by_cases hjs : j < seen.length
    case neg => rw [if_neg hjs] at hv; cases hv
    rw [if_pos hjs] at hv; obtain ⟨adS, eS, hcS⟩ := Kd.at_bool (Kd.R_reads' HF.out.seenR).2.2 (j : Int) (by omega) (by omega)
    cases eS; rw [Int.toNat_natCast] at hcS; by_cases hs : rdOf false seen (j : Int) = true
    ·rw [if_pos hs] at hv; rw [hs] at hcS; by_cases hjb : j < before.length
     case neg => rw [if_neg hjb] at hv; cases hv
     rw [if_pos hjb] at hv; obtain ⟨ls1, hp1, hp2⟩ := Option.bind_eq_some_iff.mp hv; obtain ⟨adB, _, _, eB, _⟩ := at_L1 (Kd.R_reads' HF.out.before).2.2 (j : Int) (by omega) (by omega)
     cases eB; obtain ⟨ce, _, ⟨vR, rfl, hRow⟩, hcc⟩ := Kd.R_get HF.out.before ([] : List Int) (j : Int) (by omega) (by omega)
     have hcB := hcc 0 _ rfl; rw [Nat.add_zero, show ((Kd.slice 3 (Kd.int .i64))).sz = 1 from rfl, Nat.mul_one, Int.toNat_natCast] at hcB; have hbk : go + 1 ≤ adB.block := Kd.R_base HF.out.before adB.block (by simp [Value.ownBlock])
     have hblk : (adB.add j).block = adB.block := by obtain ⟨gB, hgB⟩ := Kd.R_head HF.out.before; rw [hgB]; unfold Addr.add; split <;> rfl
     have hcB2 := (World.cell?_of_block (a := adB.add j) (HF.out.o.same _ (World.block_lt_of_cell? w2 _ hcB) (by rw [hblk]; omega))).trans hcB
     obtain ⟨Ar, cr, rfl⟩ := Kd.R_slice hRow; have HROW : Aside0 (Kd.R (Kd.int .i64) 3 w2 (go + 1) (fun k => go < k ∧ k < w2.heap.size) (.slice Ar (rd_L1 before (j : Int)).length cr) (rd_L1 before (j : Int))) := ⟨Kd.R_mono hRow (fun _ hk => hk.1)⟩
     change wr.cell? _ = some (.slice Ar (rd_L1 before (j : Int)).length cr) at hcB2
     have hP1 := Aside0.mk hp1; have hP2 := Aside0.mk hp2; have hmR := Kd.C_max (Kd.R_reads' HROW.out).2.2; clear hv HV hs hp1 hp2 hRow hcc hcB; generalize rd_L1 before (j : Int) = row at *
     go_wp2
     clear hcB2 hcS; go_loopw [41] (fun i w' => ∃ (q : Nat) (vs : List Value) (ls : List (List Int)), q ≤ row.length ∧ i = .int .i64 q ∧ Aside0 (frP k seen up (j : Int) (row.drop q) ls = some ls1) ∧ Aside0 (FrSt w w2 w' go vs ls (.slice AU up.length cU) up (.slice (some adS) seen.length cS) seen (.slice (some adB) before.length cB) before) ∧ Aside0 (ls.length = l0.length)) (fun i _ => row.length - (intOf i).toNat)
     case atStart => exact ⟨0, _, _, by omega, rfl, hP1, HF, HS⟩
     case round =>
      clear hP1 HF HS; obtain ⟨q, vs, ls, hq, rfl, HV, HF, HS⟩ := hrel; by_cases hlq : q < row.length
      ·have hv := HV.out; rw [List.drop_eq_getElem_cons hlq, frP] at hv; obtain ⟨p, hp⟩ : ∃ p, p = row[q] := ⟨_, rfl⟩; rw [← hp] at hv; by_cases h0 : 0 ≤ p
       case neg => rw [if_neg h0] at hv; cases hv
       rw [if_pos h0] at hv; by_cases h1 : p < (seen.length : Int)
       case neg => rw [if_neg h1] at hv; cases hv
       rw [if_pos h1] at hv; obtain ⟨adR, eR, hcR⟩ := Kd.at_int (Kd.R_reads' (Kd.R_move HROW.out (fun k hk => HF.out.o.same k hk.2 (by omega)))).2.2 (q : Int) (by omega) (by omega)
       cases eR; rw [Int.toNat_natCast, show rd row (q : Int) = p by unfold rd; rw [Int.toNat_natCast, List.getD_eq_getElem?_getD, List.getElem?_eq_getElem hlq, hp]; rfl] at hcR
       obtain ⟨adS2, eS, hcS⟩ := Kd.at_bool (Kd.R_reads' HF.out.seenR).2.2 p h0 h1; cases eS; obtain ⟨pn, rfl⟩ := Int.eq_ofNat_of_zero_le h0; rw [Int.toNat_natCast] at hcS; have hpn : pn < seen.length := by omega
       clear hp; by_cases hs : rdOf false seen (pn : Int) = true
       ·rw [if_pos hs] at hv; rw [hs] at hcS; obtain ⟨ls2, hi1, hi2⟩ := Option.bind_eq_some_iff.mp hv; have HI1 := Aside0.mk hi1; have HI2 := Aside0.mk hi2; clear hv HV hs hi1 hi2; go_wp2
        clear hcS hcR; go_loopg [11] k (fun kq v11 w' => ∃ (a : Int) (vs : List Value) (ls : List (List Int)), v11 = .int .i64 a ∧ Aside0 (frIn up (j : Int) kq ls a = some ls2) ∧ Aside0 (kq ≤ k) ∧ Aside0 (FrSt w w2 w' go vs ls (.slice AU up.length cU) up (.slice (some adS) seen.length cS) seen (.slice (some adB) before.length cB) before) ∧ Aside0 (ls.length = l0.length))
        case atStart => exact ⟨_, _, _, rfl, HI1, ⟨Nat.le_refl _⟩, HF, HS⟩
        case round =>
         clear HI1 HF HS; obtain ⟨a, vs, ls, rfl, HA, HK, HF, HS⟩ := hrel; cases gk with
         | zero => exact absurd HA.out (by simp [frIn])
         | succ k1 =>
          have hA := HA.out; rw [frIn] at hA; clear HA; by_cases ha0 : 0 ≤ a
          ·rw [if_pos ha0] at hA; rw [if_pos (by omega)] at hA
           by_cases hju : (j : Int) < (up.length : Int)
           case neg => rw [if_neg hju] at hA; cases hA
           rw [if_pos hju] at hA; obtain ⟨adU, eU, hcU⟩ := Kd.at_int (Kd.R_reads' HF.out.upR).2.2 (j : Int) (by omega) hju
           cases eU; rw [Int.toNat_natCast] at hcU; have hju2 : j < up.length := by omega
           obtain ⟨an, rfl⟩ := Int.eq_ofNat_of_zero_le ha0; by_cases hau : (an : Int) = rd up (j : Int)
           ·rw [if_pos hau] at hA; obtain rfl := Option.some.inj hA; rw [← hau] at hcU; clear hA hau; go_wp2
            go_roundw
            case rel => exact ⟨q + 1, _, _, by omega, by go_num, HI2, HF, HS⟩
            case measure => simp [intOf]; omega
           ·rw [if_neg hau] at hA; by_cases hal : (an : Int) < (ls.length : Int)
            case neg => rw [if_neg hal] at hA; cases hA
            rw [if_pos hal] at hA; by_cases hbd : (rd_L1 ls (an : Int)).length < 17592186044416
            case neg => rw [if_neg hbd] at hA; cases hA
            rw [if_pos hbd] at hA; by_cases hau2 : (an : Int) < (up.length : Int)
            case neg => rw [if_neg hau2] at hA; cases hA
            rw [if_pos hau2] at hA; have hav : an < vs.length := by rw [HF.out.o.len]; omega
            have hown := HF.out.o.own an hav; obtain ⟨Ah, ch, evs, hch, hfh⟩ := HF.out.o.cell an hav; rw [evs] at hown; obtain ⟨row, hrow⟩ : ∃ row, row = ls.getD an [] := ⟨_, rfl⟩; have hrow2 : rd_L1 ls (an : Int) = row := by rw [hrow]; rfl
            rw [← hrow] at hown hch evs
            rw [hrow2] at hbd; have HOWN := Aside0.mk hown; have hal2 : an < l0.length := by have := HS.out; omega
            have hau3 : an < up.length := by omega
            have hua : ((an : Int) == rd up (j : Int)) = false := beq_eq_false_iff_ne.mpr hau
            have hua2 : ((an : Int) != rd up (j : Int)) = true := bne_iff_ne.mpr hau
            have hA1 := Aside0.mk hA; have HEV := Aside0.mk evs; have HRW2 := Aside0.mk hrow2; clear hA hown hrow hrow2 evs; by_cases hr0 : row.length = 0
            ·have hfm : frMark ls (an : Int) (j : Int) = ls.set an (row ++ [(j : Int)]) := by unfold frMark; rw [HRW2.out, if_pos hr0]; rfl
             have hz : ((row.length : Int) == 0) = true := by rw [hr0]; rfl
             have HFM := Aside0.mk hfm; clear hfm hr0; go_upto_region 17 with ((with_reducible refine gate_builtin (b := .append) (xs := #[.tmp 89, .tmp 91]) rfl ?_); at_builtin; refine print_append_num (w0 := wr) w2.heap.size rfl (.tmp 89) (.tmp 91) 33 3 .i64 8 rfl Try.underlying33 A.info3 (by decide) _ row (j : Int) rfl (by first | (go_simp; done) | (go_simp; rfl)) HOWN.out (Below.refl _ _) HF.out.o.size (by omega) ?_; intro tv1 w1 ho hb hg hat; obtain ⟨At1, ct1, rfl⟩ := own_slice ho; have hb3 := blk_grown HF.out.o.top hg (fun e => by have := HF.out.o.ge an hav go (by rw [HEV.out]; exact e.symm); have := HF.out.o.lt; omega); have g3 : w1.cell? ⟨go, an, none⟩ = some (.slice Ah row.length ch) := (blk_cell hb3 an).trans (by rw [← HEV.out]; simp [hav]); have gf := blk_frozen hb3 an; have HO2 := Aside0.mk ho; have HG2 := Aside0.mk hg; have HAT := Aside0.mk hat; clear ho hb hg hat hb3)
             have HF2 : Aside0 (FrSt w w2 (w1.setCell ⟨go, an, none⟩ (.slice At1 (row.length + 1) ct1)) go (vs.set an (.slice At1 (row.length + 1) ct1)) (ls.set an (row ++ [(j : Int)])) (.slice (some adU) up.length cU) up (.slice (some adS) seen.length cS) seen (.slice (some adB) before.length cB) before) :=
              ⟨⟨HF.out.o.put an hav (l1 := row ++ [(j : Int)]) (by rw [HEV.out]; exact HG2.out) (by have h := HO2.out; rwa [show (row ++ [(j : Int)]).length = row.length + 1 by simp] at h ⊢) (by have h := HAT.out; rw [show (row ++ [(j : Int)]).length = row.length + 1 from by simp] at h; rw [HEV.out]; exact h.imp id .inr), HF.out.wgo, HF.out.b2, HF.out.up, HF.out.seen, HF.out.before⟩⟩
             refine gen_world (P := fun W => FrSt w w2 W go (vs.set an (.slice At1 (row.length + 1) ct1)) (ls.set an (row ++ [(j : Int)])) (.slice (some adU) up.length cU) up (.slice (some adS) seen.length cS) seen (.slice (some adB) before.length cB) before) HF2.out ?_
             rintro W3 hf3
             obtain ⟨adU2, eU2, hcU2⟩ := Kd.at_int (Kd.R_reads' hf3.upR).2.2 (an : Int) (by omega) hau2
             cases eU2; rw [Int.toNat_natCast] at hcU2; have HF3 := Aside0.mk hf3; have HA3 : Aside0 (frIn up (j : Int) k1 (ls.set an (row ++ [(j : Int)])) (rd up (an : Int)) = some ls2) := ⟨by rw [← HFM.out]; exact hA1.out⟩
             have HS3 : Aside0 ((ls.set an (row ++ [(j : Int)])).length = l0.length) := ⟨by rw [List.length_set]; exact HS.out⟩
             clear hf3 HF2 HF HO2 HG2 HAT hcU hch hfh; go_wp2
             go_roundg k1
             case measure => have := HK.out; omega
             case rel => exact ⟨_, _, _, rfl, HA3, ⟨by have := HK.out; omega⟩, HF3, HS3⟩
            ·obtain ⟨t0, x, rfl, hrd, _⟩ := last_of hr0; have hl0 : (t0 ++ [x]).length = t0.length + 1 := by simp
             obtain ⟨Ag, cg, e1, _, hrds⟩ := own_reads_of_le (d := (0 : Int)) (enc := Value.int .i64) (xs := t0 ++ [x]) HOWN.out; obtain ⟨ad, e2, hcx⟩ := hrds.at_ (t0.length : Int) (by omega) (by rw [hl0]; omega)
             injection e1 with e1a e1b e1c
             subst e1a; subst e1c; cases e2; rw [Int.toNat_natCast, show rdOf 0 (t0 ++ [x]) (t0.length : Int) = x by simp [rdOf]] at hcx
             rw [hl0] at hch hbd HEV HOWN
             have hz : (((t0.length + 1 : Nat) : Int) == 0) = false := beq_eq_false_iff_ne.mpr (by omega)
             by_cases hlast : rd (t0 ++ [x]) (((t0 ++ [x]).length : Int) - 1) = (j : Int)
             ·have hfm : frMark ls (an : Int) (j : Int) = ls := by unfold frMark; rw [HRW2.out, if_neg hr0, if_pos hlast]
              have hxj : x = (j : Int) := by rw [← hrd]; exact hlast
              subst hxj; obtain ⟨adU2, eU2, hcU2⟩ := Kd.at_int (Kd.R_reads' HF.out.upR).2.2 (an : Int) (by omega) hau2
              cases eU2; rw [Int.toNat_natCast] at hcU2; have HA3 : Aside0 (frIn up (j : Int) k1 ls (rd up (an : Int)) = some ls2) := ⟨by have h := hA1.out; rwa [hfm] at h⟩
              clear hfm hr0 hlast hrd; go_wp2
              go_roundg k1
              case measure => have := HK.out; omega
              case rel => exact ⟨_, _, _, rfl, HA3, ⟨by have := HK.out; omega⟩, HF, HS⟩
             ·have hxj : (x == (j : Int)) = false := beq_eq_false_iff_ne.mpr (fun e => hlast (by rw [hrd]; exact e))
              have hxj2 : (x != (j : Int)) = true := bne_iff_ne.mpr (fun e => hlast (by rw [hrd]; exact e))
              have hfm : frMark ls (an : Int) (j : Int) = ls.set an (t0 ++ [x] ++ [(j : Int)]) := by unfold frMark; rw [HRW2.out, if_neg hr0, if_neg hlast]; rfl
              have HFM := Aside0.mk hfm; have HL0 := Aside0.mk hl0; clear hfm hr0 hlast hrd hl0 hrds e1b; go_upto_region 17 with ((with_reducible refine gate_builtin (b := .append) (xs := #[.tmp 89, .tmp 91]) rfl ?_); at_builtin; refine append_num_n (w0 := wr) w2.heap.size rfl (.tmp 89) (.tmp 91) 33 3 .i64 8 rfl Try.underlying33 A.info3 (by decide) _ (t0 ++ [x]) (t0.length + 1) HL0.out (j : Int) rfl (by first | (go_simp; done) | (go_simp; rfl)) HOWN.out (Below.refl _ _) HF.out.o.size (by omega) ?_; intro tv1 w1 ho hb hg hat; obtain ⟨At1, ct1, rfl⟩ := own_slice ho; have hb3 := blk_grown HF.out.o.top hg (fun e => by have := HF.out.o.ge an hav go (by rw [HEV.out]; exact e.symm); have := HF.out.o.lt; omega); have g3 : w1.cell? ⟨go, an, none⟩ = some (.slice (some ad) (t0.length + 1) ch) := (blk_cell hb3 an).trans (by rw [← HEV.out]; simp [hav]); have gf := blk_frozen hb3 an; have HO2 := Aside0.mk ho; have HG2 := Aside0.mk hg; have HAT := Aside0.mk hat; clear ho hb hg hat hb3)
              have HF2 : Aside0 (FrSt w w2 (w1.setCell ⟨go, an, none⟩ (.slice At1 (t0.length + 1 + 1) ct1)) go (vs.set an (.slice At1 (t0.length + 1 + 1) ct1)) (ls.set an (t0 ++ [x] ++ [(j : Int)])) (.slice (some adU) up.length cU) up (.slice (some adS) seen.length cS) seen (.slice (some adB) before.length cB) before) :=
               ⟨⟨HF.out.o.put an hav (l1 := t0 ++ [x] ++ [(j : Int)]) (by rw [HEV.out]; exact HG2.out) (by rw [show (t0 ++ [x] ++ [(j : Int)]).length = t0.length + 1 + 1 by simp]; exact HO2.out) (by have h := HAT.out; rw [HEV.out]; exact h.imp id .inr), HF.out.wgo, HF.out.b2, HF.out.up, HF.out.seen, HF.out.before⟩⟩
              refine gen_world (P := fun W => FrSt w w2 W go (vs.set an (.slice At1 (t0.length + 1 + 1) ct1)) (ls.set an (t0 ++ [x] ++ [(j : Int)])) (.slice (some adU) up.length cU) up (.slice (some adS) seen.length cS) seen (.slice (some adB) before.length cB) before) HF2.out ?_
              rintro W3 hf3
              obtain ⟨adU2, eU2, hcU2⟩ := Kd.at_int (Kd.R_reads' hf3.upR).2.2 (an : Int) (by omega) hau2
              cases eU2; rw [Int.toNat_natCast] at hcU2; have HF3 := Aside0.mk hf3; have HA3 : Aside0 (frIn up (j : Int) k1 (ls.set an (t0 ++ [x] ++ [(j : Int)])) (rd up (an : Int)) = some ls2) := ⟨by rw [← HFM.out]; exact hA1.out⟩
              have HS3 : Aside0 ((ls.set an (t0 ++ [x] ++ [(j : Int)])).length = l0.length) := ⟨by rw [List.length_set]; exact HS.out⟩
              clear hf3 HF2 HF HO2 HG2 HAT hcU hch hfh; go_wp2
              go_roundg k1
              case measure => have := HK.out; omega
              case rel => exact ⟨_, _, _, rfl, HA3, ⟨by have := HK.out; omega⟩, HF3, HS3⟩
          ·rw [if_neg ha0] at hA; obtain rfl := Option.some.inj hA; have hd : decide (a ≥ 0) = false := decide_eq_false (by omega)
           have hd2 : decide (0 ≤ a) = false := decide_eq_false (by omega)
           clear hA; go_wp2
           go_roundw
           case rel => exact ⟨q + 1, _, _, by omega, by go_num, HI2, HF, HS⟩
           case measure => simp [intOf]; omega
       ·rw [if_neg hs] at hv; rw [Bool.eq_false_iff.mpr hs] at hcS; have HV2 := Aside0.mk hv; clear hv HV hs; go_wp2
        go_roundw
        case rel => exact ⟨q + 1, vs, ls, by omega, by go_num, HV2, HF, HS⟩
        case measure => simp [intOf]; omega
      ·obtain rfl : q = row.length := by omega
       have hv := HV.out; rw [List.drop_of_length_le (Nat.le_refl _), frP] at hv; obtain rfl := Option.some.inj hv; have hd : decide (((row.length : Nat) : Int) < ((row.length : Nat) : Int)) = false := decide_eq_false (by omega)
       clear hv HV; go_wp2
       go_roundw
       case rel => exact ⟨j + 1, vs, ls, by omega, by go_num, hP2, HF, HS⟩
       case measure => simp [intOf]; omega
    ·rw [if_neg hs] at hv; rw [Bool.eq_false_iff.mpr hs] at hcS; have HV2 := Aside0.mk hv; clear hv HV hs; go_wp2
     go_roundw
     case rel => exact ⟨j + 1, vs, ls, by omega, by go_num, HV2, HF, HS⟩
     case measure => simp [intOf]; omega
   ·obtain rfl : j = l0.length := by omega
    have hv := HV.out; rw [Nat.sub_self, List.range'_zero, frB] at hv; obtain rfl := Option.some.inj hv; have hd : decide (((l0.length : Nat) : Int) < ((l0.length : Nat) : Int)) = false := decide_eq_false (by omega)
    clear hv HV; go_wp2
    go_ret2
    have hr := HF.out.o.row (base := w.heap.size) HF.out.wgo (by rw [HF.out.o.len, HS.out]; unfold maxLen; omega)
    rw [show vs.length = l0.length by rw [HF.out.o.len, HS.out]] at hr
    exact ⟨_, rfl, hr, HF.out.o.below HF.out.b2 HF.out.wgo⟩
end Go.Proofs.Ytjjedbcgkljdeaa.D
end
section
namespace Go.Proofs.Ytjjedbcgkljdeaa
open Go.RowKit Go.Proofs.YtjjedbcgkljdeaaW.PrintWords Go.Proofs.YtjjedbcgkljdeaaW.PrintLast Go.Proofs.YtjjedbcgkljdeaaW.PrintMore Go.Proofs.Ytjjedbcgkljdeaa.A
def VisPost_loop {pb ps : Nat} (w : World) (B : Nat) (s' : List Bool) (t' : List Int) (e : Ending) (W' : World) : Prop :=
 e = .returned (.tuple #[]) ∧ ∃ tv', FromSt w W' B (.func (.func 53) #[] #[.pointer (some ⟨pb, 0, none⟩), .pointer (some ⟨ps, 0, none⟩)]) s' t' tv'
def Closed_loop {pb ps : Nat} (w : World) (P : Int → Bool) (len : Nat) : Prop := ∀ W1, Below w.heap.size w W1 → ∀ n : Int, 0 ≤ n → n < (len : Int) → Calls Try.prog 53 #[.int .i64 n, .pointer (some ⟨pb, 0, none⟩), .pointer (some ⟨ps, 0, none⟩)] W1 fun e W' => e = .returned (.bool (P n)) ∧ Drawn0 W1 W'
set_option maxHeartbeats 2000000 in
theorem visit_loop {pb ps : Nat} {w W : World} {B : Nat} {P : Int → Bool} {s : List Bool} {t : List Int} {tv : Value} (h : FromSt w W B (.func (.func 53) #[] #[.pointer (some ⟨pb, 0, none⟩), .pointer (some ⟨ps, 0, none⟩)]) s t tv) (m : Int) (s' : List Bool) (t' : List Int) (hv : visF P s t m = some (s', t')) (hP : Closed_loop w P s.length (pb := pb) (ps := ps)) :
  Calls Try.prog 69 #[.int .i64 m, .pointer (some ⟨B + 1 + 1, 0, none⟩), .pointer (some ⟨B, 0, none⟩), .pointer (some ⟨B + 1 + 1 + 1, 0, none⟩)] W (VisPost_loop w B s' t' (pb := pb) (ps := ps)) := by
 unfold visF at hv
 by_cases h0 : 0 ≤ m
 case neg => rw [if_neg h0] at hv; cases hv
 rw [if_pos h0] at hv; by_cases h1 : m < (s.length : Int)
 case neg => rw [if_neg h1] at hv; cases hv
 rw [if_pos h1] at hv; obtain ⟨k, rfl⟩ := Int.eq_ofNat_of_zero_le h0; have hk : k < s.length := by omega
 have hrd : rdOf false s (k : Int) = s.getD k false := by unfold rdOf; rw [Int.toNat_natCast]
 rw [hrd] at hv; have H := Aside0.mk h; have c2 : W.cell? ⟨B + 1 + 1, 0, none⟩ = some (.slice (some ⟨B + 1, 0, none⟩) s.length s.length) := (blk_cell h.c2 0).trans rfl
 have c0 : W.cell? ⟨B, 0, none⟩ = some (.func (.func 53) #[] #[.pointer (some ⟨pb, 0, none⟩), .pointer (some ⟨ps, 0, none⟩)]) := (blk_cell h.c0 0).trans rfl
 have c3 : W.cell? ⟨B + 1 + 1 + 1, 0, none⟩ = some tv := (blk_cell h.c3 0).trans rfl
 have c1 := h.cell1 k hk; have f1 := blk_frozen h.c1 k; clear h h0 hrd; by_cases hs : s.getD k false = true
 ·rw [if_pos hs] at hv; simp only [Option.some.injEq, Prod.mk.injEq] at hv
  obtain ⟨rfl, rfl⟩ := hv; rw [hs] at c1; clear hs; go_enter Try.func69, Try.ntmps69
  go_wp2
  go_end0
  exact ⟨rfl, _, H.out⟩
 ·rw [if_neg hs] at hv; have hs' : s.getD k false = false := Bool.eq_false_iff.mpr hs
  rw [hs'] at c1; clear hs hs'; have hp := hP W H.out.below (k : Int) (by omega) h1
  by_cases hPk : P (k : Int) = true
  ·rw [if_pos hPk] at hv; simp only [Option.some.injEq, Prod.mk.injEq] at hv
   obtain ⟨rfl, rfl⟩ := hv; rw [hPk] at hp; have HP := Aside0.mk hp; clear hp hP hPk; go_enter Try.func69, Try.ntmps69
   go_wp2_with fail
   refine HP.out.mono ?_
   rintro e w' ⟨rfl, ⟨nd, rfl⟩⟩
   go_wp2
   go_end0
   exact ⟨rfl, _, H.out.grown (pw_below_drewN (Below.refl _ _) nd)⟩
  ·rw [if_neg hPk] at hv; by_cases hl : t.length < 17592186044416
   case neg => rw [if_neg hl] at hv; cases hv
   rw [if_pos hl] at hv; simp only [Option.some.injEq, Prod.mk.injEq] at hv
   obtain ⟨rfl, rfl⟩ := hv; rw [Bool.eq_false_iff.mpr hPk] at hp; have HP := Aside0.mk hp; have HL := Aside0.mk hl; clear hp hP hPk hl; go_enter Try.func69, Try.ntmps69
   go_wp2_with fail
   refine HP.out.mono ?_
   rintro e w' ⟨rfl, ⟨nd, rfl⟩⟩
   have h2 := (H.out.grown (pw_below_drewN (Below.refl _ _) nd)).mark k; have H2 := Aside0.mk h2; clear h2; have hsz := blk_lt H2.out.c3; have hz := Aside0.mk hsz; clear hsz; go_wp2_with ((with_reducible refine gate_builtin (b := .append) (xs := #[.tmp 19, .tmp 21]) rfl ?_); at_builtin; refine print_append_num (w0 := (W.drewN nd).setCell ⟨B + 1, k, none⟩ (.bool true)) (B + 1 + 1 + 1 + 1) rfl (.tmp 19) (.tmp 21) 33 3 .i64 8 rfl Try.underlying33 info3 (by decide) tv t (k : Int) rfl (by first | (go_simp; done) | (go_simp; rfl)) H2.out.own (Below.refl _ _) hz.out (by have := HL.out; omega) ?_; intro tv1 w1 ho hb hg hat; obtain ⟨A1, cp1, rfl⟩ := own_slice ho; have hb3 := blk_grown H2.out.c3 hg (H2.out.ne 3 (by omega)); have g3 : w1.cell? ⟨B + 1 + 1 + 1, 0, none⟩ = some tv := (blk_cell hb3 0).trans rfl; have gf := blk_frozen hb3 0; have HO := Aside0.mk ho; have HG := Aside0.mk hg; clear ho hb hg hat hb3)
   go_end0
   exact ⟨rfl, _, H2.out.todo HG.out (H2.out.below.grown HG.out (by have := H2.out.hB; have := hz.out; omega) (fun j hj => by have := own_base H2.out.own _ hj; have := H2.out.hB; omega)) (by have h := HO.out; rwa [show (t ++ [(k : Int)]).length = t.length + 1 from by simp] at h ⊢)⟩
def FromPost_loop (w : World) (r : List Bool) (e : Ending) (w' : World) : Prop :=
 ∃ v0_ : Value, e = .returned v0_ ∧ Kd.R Kd.bool 4 w' w.heap.size (fun _ => True) v0_ r ∧ Below w.heap.size w w'
set_option maxHeartbeats 4000000 in
set_option maxRecDepth 100000 in
theorem from_loop {pb ps : Nat} (P : Int → Bool) (k : Nat) (A0 : Option Addr) (c0 : Nat) (l0 : List (List Int)) (A1 : Option Addr) (c1 : Nat) (l1 : List Int) (r : List Bool) (w : World) (hr0 : Kd.C (Kd.slice 3 (Kd.int .i64)) w A0 l0.length l0) (hr1 : Kd.C (Kd.int .i64) w A1 l1.length l1) (hP : Closed_loop w P l0.length (pb := pb) (ps := ps)) (h : fromF P k l0 l1 = some r) :
  Calls Try.prog 49 #[.slice A0 l0.length c0, .slice A1 l1.length c1, (.func (.func 53) #[] #[.pointer (some ⟨pb, 0, none⟩), .pointer (some ⟨ps, 0, none⟩)])] w (FromPost_loop w r) := by
 unfold fromF at h
 by_cases hlen : l0.length ≤ 281474976710656
 case neg => rw [if_neg hlen] at h; cases h
 rw [if_pos hlen] at h; replace h := Option.bind_eq_some_iff.mp h; obtain ⟨⟨s1, t1⟩, h1, h2⟩ := h; have HR0 := Aside0.mk hr0; have HR1 := Aside0.mk hr1; have HP := Aside0.mk hP; have H1 := Aside0.mk h1; have H2 : Aside0 (runF P l0 k s1 t1 = some r) := ⟨h2⟩
 have hm1 : l1.length ≤ 9223372036854775807 := Kd.C_max hr1
 clear hr0 hr1 hP h1 h2; have hmf : ∀ (fn : Fn) (first cap : Array Value) (w : World), (Instr.makeFunc fn first cap).run Try.prog w = .ok (.func fn first cap) w := fun _ _ _ _ => rfl
 have hmk := print_make_of (P := Try.prog) 46 4 (.bool false) 1 Try.underlying46 info4 rfl (by decide) l0.length (by omega)
 go_enter Try.func49, Try.ntmps49
 go_wp2
 clear hmf hmk; refine gen_world (P := fun W => FromSt w W w.heap.size (.func (.func 53) #[] #[.pointer (some ⟨pb, 0, none⟩), .pointer (some ⟨ps, 0, none⟩)]) (List.replicate l0.length false) [] (.slice none 0 0)) ?_ ?_
 ·have e0 : (madeCells #[.bool false] l0.length) = bA (List.replicate l0.length false) := by
   apply Array.ext_getElem?
   intro i
   rw [bA_get]; simp only [madeCells, Array.getElem?_map]
   by_cases hi : i < l0.length
   ·rw [Array.getElem?_eq_getElem (by simpa using hi), List.getElem?_eq_getElem (by simpa using hi)]; simp [Nat.mod_one]
   ·rw [Array.getElem?_eq_none (by simpa using hi), List.getElem?_eq_none (by simpa using hi)]; rfl
  rw [e0]; refine ⟨?_, Nat.le_refl _, ?_, ?_, ?_, ?_, ?_⟩
  ·repeat (first | exact Below.refl _ _ | refine below_alloc ?_ _ | refine Below.setCell ?_ (by simp) _)
  ·repeat (first | exact new_at _ (by simp) | refine blk_alloc ?_ _ | refine blk_far ?_ (by simp) _)
  ·repeat (first | exact new_at _ (by simp) | refine blk_alloc ?_ _ | refine blk_far ?_ (by simp) _)
  ·rw [List.length_replicate]; refine blk_alloc (new_at _ ?_) _; first | rfl | simp
  ·exact new_at _ (by simp)
  ·exact own_nil _ _ _ _
 rintro W hF
 obtain ⟨B, hB⟩ : ∃ B, B = w.heap.size := ⟨_, rfl⟩; rw [← hB] at hF ⊢
 have HF := Aside0.mk hF; have HBw := Aside0.mk hB; clear hF hB; go_loopw [21] (fun i wr => ∃ (j : Nat) (s : List Bool) (t : List Int) (tv : Value), j ≤ l1.length ∧ i = .int .i64 j ∧ Aside0 (visL P (l1.drop j) s t = some (s1, t1)) ∧ Aside0 (FromSt w wr B (.func (.func 53) #[] #[.pointer (some ⟨pb, 0, none⟩), .pointer (some ⟨ps, 0, none⟩)]) s t tv) ∧ Aside0 (s.length = l0.length)) (fun i _ => l1.length - (intOf i).toNat)
 case atStart => exact ⟨0, _, _, _, by omega, rfl, ⟨H1.out⟩, HF, ⟨List.length_replicate ..⟩⟩
 case round =>
  obtain ⟨j, s, t, tv, hj, rfl, HV, HF, HS⟩ := hrel; by_cases hlt : j < l1.length
  ·obtain ⟨ad, e, hx⟩ := Kd.at_int HR1.out (j : Int) (by omega) (by omega)
   cases e; rw [Int.toNat_natCast] at hx; have hx2 := (HF.out.below.cell (World.block_lt_of_cell? w _ hx)).trans hx; clear hx; have hv := HV.out; rw [List.drop_eq_getElem_cons hlt, visL] at hv; have hrd : rd l1 (j : Int) = l1[j] := by unfold rd; rw [Int.toNat_natCast, List.getD_eq_getElem?_getD, List.getElem?_eq_getElem hlt]; rfl
   rw [hrd] at hx2; obtain ⟨⟨s2, t2⟩, hv1, hv2⟩ := Option.bind_eq_some_iff.mp hv; obtain ⟨m, hm⟩ : ∃ m, m = l1[j] := ⟨_, rfl⟩; rw [← hm] at hx2 hv1
   have HM := Aside0.mk hm; have HV1 := Aside0.mk hv1; have HV2 := Aside0.mk hv2; clear hv hrd hv1 hv2 hm HV; go_wp2_with fail
   refine (visit_loop HF.out m s2 t2 HV1.out (by rw [HS.out]; exact HP.out)).mono ?_
   rintro e W' ⟨rfl, tv', hF2⟩
   have HF2 := Aside0.mk hF2; clear hF2; go_wp2
   go_roundw
   case rel => exact ⟨j + 1, s2, t2, tv', by omega, by go_num, HV2, HF2, ⟨by rw [visF_len HV1.out, HS.out]⟩⟩
   case measure => simp [intOf]; omega
  ·obtain rfl : j = l1.length := by omega
   have hv := HV.out; rw [List.drop_of_length_le (Nat.le_refl _), visL] at hv; simp only [Option.some.injEq, Prod.mk.injEq] at hv
   obtain ⟨rfl, rfl⟩ := hv; clear HV; have hd : decide (((l1.length : Nat) : Int) < ((l1.length : Nat) : Int)) = false := decide_eq_false (by omega)
   go_wp2
   go_loopg [] k (fun kq w' => ∃ (s : List Bool) (t : List Int) (tv : Value), Aside0 (runF P l0 kq s t = some r) ∧ Aside0 (kq ≤ k) ∧ Aside0 (FromSt w w' B (.func (.func 53) #[] #[.pointer (some ⟨pb, 0, none⟩), .pointer (some ⟨ps, 0, none⟩)]) s t tv) ∧ Aside0 (s.length = l0.length))
   case atStart => exact ⟨_, _, _, H2, ⟨Nat.le_refl _⟩, HF, HS⟩
   case round =>
    clear HF HS H2 H1; obtain ⟨s, t, tv, HA, HK, HF, HS⟩ := hrel; cases gk with
    | zero => exact absurd HA.out (by simp [runF])
    | succ k1 =>
     obtain ⟨A, c, rfl⟩ := own_slice HF.out.own; have hb3 := HF.out.c3; have g3 : wr.cell? ⟨B + 1 + 1 + 1, 0, none⟩ = some (.slice A t.length c) := (blk_cell hb3 0).trans rfl
     have gf3 := blk_frozen hb3 0; have hA := HA.out; rw [runF] at hA; by_cases ht : t.length = 0
     ·rw [if_pos ht] at hA; obtain rfl := Option.some.inj hA; obtain rfl := List.eq_nil_of_length_eq_zero ht; have g2 : wr.cell? ⟨B + 1 + 1, 0, none⟩ = some (.slice (some ⟨B + 1, 0, none⟩) s.length s.length) := (blk_cell HF.out.c2 0).trans rfl
      clear hA ht hb3; go_wp2
      go_ret
      exact ⟨_, rfl, HF.out.row (by have := HS.out; unfold maxLen; omega), HF.out.below⟩
     ·rw [if_neg ht] at hA; obtain ⟨t0, x, rfl, hrd, htk⟩ := last_of ht; rw [hrd, htk] at hA; clear hrd htk ht; by_cases hx0 : 0 ≤ x
      case neg => rw [if_neg hx0] at hA; cases hA
      rw [if_pos hx0] at hA; by_cases hx1 : x < (l0.length : Int)
      case neg => rw [if_neg hx1] at hA; cases hA
      rw [if_pos hx1] at hA; obtain ⟨⟨s2, t2⟩, hv1, hv2⟩ := Option.bind_eq_some_iff.mp hA; have HV1 := Aside0.mk hv1; have HV2 := Aside0.mk hv2; clear hA hv1 hv2 HA; have hlen : (t0 ++ [x]).length = t0.length + 1 := by simp
      obtain ⟨Ag, cg, e1, hle, hrd⟩ := own_reads_of_le (d := (0 : Int)) (enc := Value.int .i64) (xs := t0 ++ [x]) HF.out.own; have hmx : t0.length + 1 ≤ 9223372036854775807 := by have := hrd.2.1; omega
      obtain ⟨ad, e2, hcx⟩ := hrd.at_ (t0.length : Int) (by omega) (by omega)
      injection e1 with e1a e1b e1c
      subst e1a; subst e1c; cases e2; rw [Int.toNat_natCast, show rdOf (0 : Int) (t0 ++ [x]) (t0.length : Int) = x from by unfold rdOf; rw [Int.toNat_natCast]; simp] at hcx
      obtain ⟨i3, hi3, _⟩ := info_parts info3; have hcut := cut_to (P := Try.prog) 33 3 .i64 Try.underlying33 hi3 (some ad) (t0.length + 1) c (t0.length : Int) (by omega) (by omega) (by omega)
      rw [Int.toNat_natCast] at hcut; rw [hlen] at g3 hle
      clear hrd hlen e1b; go_upto_region 12 with (fail)
      refine gen_world (P := fun W => FromSt w W B (.func (.func 53) #[] #[.pointer (some ⟨pb, 0, none⟩), .pointer (some ⟨ps, 0, none⟩)]) s t0 (.slice (some ad) t0.length c)) ?_ ?_
      ·have ho := own_take HF.out.own (m := t0.length) (by simp)
       rw [Nat.mul_one] at ho; have e3 : (nums .i64 (t0 ++ [x])).take t0.length = nums .i64 t0 := by simp [nums]
       rw [e3] at ho; exact HF.out.todo (grown_of_below (Below.refl _ _) _) HF.out.below ho
      rintro W2 hF2
      have HF2 := Aside0.mk hF2; clear hF2 HF hcut hcx g3 gf3 hb3 hle hmx; obtain ⟨ad0, Ar, cr, e0, hxg, hlg, hig⟩ := at_L1 HR0.out x hx0 hx1; cases e0; have hxg2 := (HF2.out.below.cell (World.block_lt_of_cell? w _ hxg)).trans hxg; have HRr := Aside0.mk hig; clear hxg hlg hig; obtain ⟨row, hrow⟩ : ∃ row, row = rd_L1 l0 x := ⟨_, rfl⟩; rw [← hrow] at hxg2 HRr HV1
      have HROW := Aside0.mk hrow; clear hrow; have hmr : row.length ≤ 9223372036854775807 := Kd.C_max HRr.out
      go_wp2
      go_loopw [48] (fun i wr => ∃ (j : Nat) (s : List Bool) (t : List Int) (tv : Value), j ≤ row.length ∧ i = .int .i64 j ∧ Aside0 (visL P (row.drop j) s t = some (s2, t2)) ∧ Aside0 (FromSt w wr B (.func (.func 53) #[] #[.pointer (some ⟨pb, 0, none⟩), .pointer (some ⟨ps, 0, none⟩)]) s t tv) ∧ Aside0 (s.length = l0.length)) (fun i _ => row.length - (intOf i).toNat)
      case atStart => exact ⟨0, _, _, _, by omega, rfl, ⟨HV1.out⟩, HF2, HS⟩
      case round =>
       clear HF2 HS HV1; obtain ⟨j, s3, t3, tv3, hj, rfl, HV, HF, HS⟩ := hrel; by_cases hlt : j < row.length
       ·obtain ⟨ad4, e, hx⟩ := Kd.at_int HRr.out (j : Int) (by omega) (by omega)
        cases e; rw [Int.toNat_natCast] at hx; have hx2 := (HF.out.below.cell (World.block_lt_of_cell? w _ hx)).trans hx; clear hx; have hv := HV.out; rw [List.drop_eq_getElem_cons hlt, visL] at hv; have hrd : rd row (j : Int) = row[j] := by unfold rd; rw [Int.toNat_natCast, List.getD_eq_getElem?_getD, List.getElem?_eq_getElem hlt]; rfl
        rw [hrd] at hx2; obtain ⟨⟨s4, t4⟩, hv1, hv2⟩ := Option.bind_eq_some_iff.mp hv; obtain ⟨m, hm⟩ : ∃ m, m = row[j] := ⟨_, rfl⟩; rw [← hm] at hx2 hv1
        have HV1 := Aside0.mk hv1; have HV3 := Aside0.mk hv2; clear hv hrd hv1 hv2 hm HV; go_wp2_with fail
        refine (visit_loop HF.out m s4 t4 HV1.out (by rw [HS.out]; exact HP.out)).mono ?_
        rintro e W' ⟨rfl, tv', hF2⟩
        have HF2 := Aside0.mk hF2; clear hF2; go_wp2
        go_roundw
        case rel => exact ⟨j + 1, s4, t4, tv', by omega, by go_num, HV3, HF2, ⟨by rw [visF_len HV1.out, HS.out]⟩⟩
        case measure => simp [intOf]; omega
       ·obtain rfl : j = row.length := by omega
        have hv := HV.out; rw [List.drop_of_length_le (Nat.le_refl _), visL] at hv; simp only [Option.some.injEq, Prod.mk.injEq] at hv
        obtain ⟨rfl, rfl⟩ := hv; clear HV; have hd : decide (((row.length : Nat) : Int) < ((row.length : Nat) : Int)) = false := decide_eq_false (by omega)
        go_wp2
        go_roundg k1
        case measure => have := HK.out; omega
        case rel => exact ⟨_, _, _, HV2, ⟨by have := HK.out; omega⟩, HF, HS⟩
end Go.Proofs.Ytjjedbcgkljdeaa
end
section
namespace Go.Proofs.Ytjjedbcgkljdeaa.D
open Go Go.RowKit Go.Shelf Go.Proofs.YtjjedbcgkljdeaaW.PrintWords Go.Proofs.YtjjedbcgkljdeaaW.PrintLast Go.Proofs.YtjjedbcgkljdeaaW.PrintMore Go.Proofs.Ytjjedbcgkljdeaa Go.Proofs.Ytjjedbcgkljdeaa.A Go.Proofs.Ytjjedbcgkljdeaa.B
def lpP (seen : List Bool) (b : Int) (n : Int) : Bool := if n = b then true else !rdOf false seen n
def lpB (k : Nat) (seen : List Bool) (before backs : List (List Int)) : List Nat → List (List Int) → Option (List (List Int))
 | [], out => some out
 | b :: bs, out => if (rd_L1 backs (b : Int)).length = 0 then lpB k seen before backs bs out else
   (fromF (lpP seen (b : Int)) k before (rd_L1 backs (b : Int))).bind fun inn => if b < inn.length then (graph_list.f k (inn.set b true)).bind fun r => if b < out.length then lpB k seen before backs bs (out.set b r) else none else none
def graph_Loops.f (k : Nat) (l0 : List (List Int)) : Option (List (List Int) × Int) :=
 (graph_valid.f k l0).bind fun v => if v = true then
  if l0.length ≤ 5864062014805 then (graph_fromOpen.f k l0 [0]).bind fun seen => (graph_turned.f k l0).bind fun before => (graph_backs.f k l0).bind fun backs =>
   if before.length ≤ seen.length then (lpB k seen before backs (List.range backs.length) (List.replicate l0.length [])).bind fun out => some (out, 0) else none
  else none
 else some ([], 1)
theorem lpB_mono (k : Nat) (seen : List Bool) (before backs : List (List Int)) : ∀ l out, LeO (lpB k seen before backs l out) (lpB (k + 1) seen before backs l out)
 | [] => fun _ => LeO.refl _
 | b :: bs => fun out => by
  unfold lpB
  exact LeO.ite (lpB_mono k seen before backs bs _) (LeO.bind (fromF_mono _ _ _ k) fun _ => LeO.ite (LeO.bind (graph_list.mono _ k) fun _ => LeO.ite (lpB_mono k seen before backs bs _) (LeO.none _)) (LeO.none _))
theorem graph_Loops.mono : ∀ a0 k, LeO (graph_Loops.f k a0) (graph_Loops.f (k + 1) a0) := fun a0 k => by
 unfold graph_Loops.f
 refine LeO.bind (graph_valid.mono _ _) fun _ => LeO.ite (LeO.ite (LeO.bind (graph_fromOpen.mono _ _ _) fun _ => LeO.bind (graph_turned.mono _ _) fun _ => LeO.bind (graph_backs.mono _ _) fun _ => LeO.ite (LeO.bind (lpB_mono k _ _ _ _ _) fun _ => LeO.refl _) (LeO.none _)) (LeO.none _)) (LeO.refl _)
theorem loop_closed {base : Nat} {ok : Nat → Prop} (w : World) (pb ps : Nat) (b : Nat) (A : Option Addr) (c : Nat) (seen : List Bool) (hb : w.heap[pb]? = some (.cells #[.int .i64 (b : Int)] 3 (0, 0)))
  (hs : w.heap[ps]? = some (.cells #[.slice A seen.length c] 46 (0, 0))) (hr : Kd.R Kd.bool 4 w base ok (.slice A seen.length c) seen) (len : Nat) (hlen : len ≤ seen.length) : Closed_loop w (lpP seen (b : Int)) len (pb := pb) (ps := ps) := by
 intro W1 hbl n hn0 hn1
 have c1 : W1.cell? ⟨pb, 0, none⟩ = some (.int .i64 (b : Int)) := (blk_cell (blk_below hb hbl) 0).trans rfl
 have c2 : W1.cell? ⟨ps, 0, none⟩ = some (.slice A seen.length c) := (blk_cell (blk_below hs hbl) 0).trans rfl
 obtain ⟨adS, eS, hcS⟩ := Kd.at_bool (Kd.R_reads' (Kd.R_below hr hbl)).2.2 n hn0 (by omega)
 cases eS; obtain ⟨m, rfl⟩ := Int.eq_ofNat_of_zero_le hn0; have hm : m < seen.length := by omega
 rw [Int.toNat_natCast] at hcS; have hmS := Kd.C_max (Kd.R_reads' hr).2.2; clear hb hs hr hbl; by_cases hnb : (m : Int) = (b : Int)
 ·have e1 : ((m : Int) == (b : Int)) = true := beq_iff_eq.mpr hnb
  have e2 : lpP seen (b : Int) (m : Int) = true := by unfold lpP; rw [if_pos hnb]
  rw [e2]; clear hnb e2; go_enter Try.func53, Try.ntmps53
  go_wp2
  go_ret
  exact ⟨by simp, Drawn0.refl _⟩
 ·have e1 : ((m : Int) == (b : Int)) = false := beq_eq_false_iff_ne.mpr hnb
  have e2 : lpP seen (b : Int) (m : Int) = !rdOf false seen (m : Int) := by unfold lpP; rw [if_neg hnb]
  rw [e2]; clear hnb e2; go_enter Try.func53, Try.ntmps53
  go_wp2
  go_ret
  exact ⟨by simp, Drawn0.refl _⟩
theorem boxS_op {ops : Array Oper} {Q : Exit → Act → World → Prop} {rest : List Oper} {a : Act} {W : World} {o : Oper} {p v : Operand} {A : Option Addr} {n c : Nat} (hgd : o.guard = none) (ho : o.op = .store 46 p v)
  (hp : a.eval p = .pointer (some ⟨W.heap.size, 0, none⟩)) (hv : a.eval v = .slice A n c)
  (h : ∀ W', Below W.heap.size W W' → W'.heap[W.heap.size]? = some (.cells #[.slice A n c] 46 (0, 0)) → wpList Try.prog ops Q rest (a.put o.dst undef) W') : wpList Try.prog ops Q (o :: rest) a (W.alloc (.cells #[.slice none 0 0] 46)) := by
 refine wpList_plain hgd fun K hK => ?_
 have hf : (W.alloc (.cells #[.slice none 0 0] 46)).frozen? ⟨W.heap.size, 0, none⟩ = false := blk_frozen (new_at _ rfl) 0
 have h1 : Below W.heap.size W ((W.alloc (.cells #[.slice none 0 0] 46)).setCell ⟨W.heap.size, 0, none⟩ (.slice A n c)) := (below_alloc (Below.refl _ _) _).setCell (by simp) _
 have h2 : ((W.alloc (.cells #[.slice none 0 0] 46)).setCell ⟨W.heap.size, 0, none⟩ (.slice A n c)).heap[W.heap.size]? = some (.cells #[.slice A n c] 46 (0, 0)) := by
  have h0 : (W.alloc (.cells #[.slice none 0 0] 46)).heap[W.heap.size]? = some (.cells #[.slice none 0 0] 46 (0, 0)) := new_at _ rfl
  rw [blk_set h0]; rfl
 have hn := hK _ _ (h _ h1 h2); unfold Oper.wp
 have hr : (execOp a.eval o).run Try.prog (W.alloc (.cells #[.slice none 0 0] 46)) = .ok .skip ((W.alloc (.cells #[.slice none 0 0] 46)).setCell ⟨W.heap.size, 0, none⟩ (.slice A n c)) := by
  unfold execOp
  simp only [ho, hp, hv]
  simp [go_sem, hf]
 rw [hr]; exact hn
theorem boxI_op {ops : Array Oper} {Q : Exit → Act → World → Prop} {rest : List Oper} {a : Act} {W : World} {o : Oper} {p v : Operand} {x : Int} (hgd : o.guard = none) (ho : o.op = .store 3 p v)
  (hp : a.eval p = .pointer (some ⟨W.heap.size, 0, none⟩)) (hv : a.eval v = .int .i64 x)
  (h : ∀ W', Below W.heap.size W W' → W'.heap[W.heap.size]? = some (.cells #[.int .i64 x] 3 (0, 0)) → wpList Try.prog ops Q rest (a.put o.dst undef) W') : wpList Try.prog ops Q (o :: rest) a (W.alloc (.cells #[.int .i64 0] 3)) := by
 refine wpList_plain hgd fun K hK => ?_
 have hf : (W.alloc (.cells #[.int .i64 0] 3)).frozen? ⟨W.heap.size, 0, none⟩ = false := blk_frozen (new_at _ rfl) 0
 have h1 : Below W.heap.size W ((W.alloc (.cells #[.int .i64 0] 3)).setCell ⟨W.heap.size, 0, none⟩ (.int .i64 x)) := (below_alloc (Below.refl _ _) _).setCell (by simp) _
 have h2 : ((W.alloc (.cells #[.int .i64 0] 3)).setCell ⟨W.heap.size, 0, none⟩ (.int .i64 x)).heap[W.heap.size]? = some (.cells #[.int .i64 x] 3 (0, 0)) := by
  have h0 : (W.alloc (.cells #[.int .i64 0] 3)).heap[W.heap.size]? = some (.cells #[.int .i64 0] 3 (0, 0)) := new_at _ rfl
  rw [blk_set h0]; rfl
 have hn := hK _ _ (h _ h1 h2); unfold Oper.wp
 have hr : (execOp a.eval o).run Try.prog (W.alloc (.cells #[.int .i64 0] 3)) = .ok .skip ((W.alloc (.cells #[.int .i64 0] 3)).setCell ⟨W.heap.size, 0, none⟩ (.int .i64 x)) := by
  unfold execOp
  simp only [ho, hp, hv]
  simp [go_sem, hf]
 rw [hr]; exact hn
end Go.Proofs.Ytjjedbcgkljdeaa.D
end
section
namespace Go.Proofs.Ytjjedbcgkljdeaa.D
open Go Go.RowKit Go.Shelf Go.Proofs.YtjjedbcgkljdeaaW.PrintWords Go.Proofs.YtjjedbcgkljdeaaW.PrintLast Go.Proofs.YtjjedbcgkljdeaaW.PrintMore Go.Proofs.Ytjjedbcgkljdeaa Go.Proofs.Ytjjedbcgkljdeaa.A Go.Proofs.Ytjjedbcgkljdeaa.B
def lp_T : Bool × List (List Nat × List Nat) := (true, [([], []), ([], []), ([], []), ([2], [2]), ([0, 1, 0, 1, 2, 3], [0, 1]), ([4, 3, 3, 0, 1, 2, 3], [3, 4])])
def lp_B : List Nat := [0, 0, 0, 4, 15, 31]
theorem lp_tab : rtab .any (opsOf Try.f16 12) = lp_T := by kernel_rfl
theorem lp_bits : waitsOk lp_T.2 lp_B = true := by kernel_rfl
structure LpSt (w w2 W : World) (go : Nat) (vs : List Value) (ls : List (List Int)) (ps : Nat) (vS : Value) (seen : List Bool) (vB : Value) (before : List (List Int)) (vK : Value) (backs : List (List Int)) : Prop where
 o : OutSt w2 W w2.heap.size go vs ls
 wgo : w.heap.size ≤ go
 b2 : Below w.heap.size w w2
 box : w2.heap[ps]? = some (.cells #[vS] 46 (0, 0))
 hps : go < ps
 seen : Kd.R Kd.bool 4 w2 (go + 1) (fun k => go < k ∧ k < w2.heap.size) vS seen
 before : Kd.R (Kd.slice 3 (Kd.int .i64)) 33 w2 (go + 1) (fun k => go < k ∧ k < w2.heap.size) vB before
 backs : Kd.R (Kd.slice 3 (Kd.int .i64)) 33 w2 (go + 1) (fun k => go < k ∧ k < w2.heap.size) vK backs
section
variable {w w2 W : World} {go : Nat} {vs : List Value} {ls : List (List Int)} {ps : Nat} {vS : Value} {seen : List Bool} {vB : Value} {before : List (List Int)} {vK : Value} {backs : List (List Int)}
theorem LpSt.seenR (h : LpSt w w2 W go vs ls ps vS seen vB before vK backs) : Kd.R Kd.bool 4 W (go + 1) (fun k => go < k ∧ k < w2.heap.size) vS seen := Kd.R_move h.seen (fun _ hk => h.o.same _ hk.2 (by omega))
theorem LpSt.beforeR (h : LpSt w w2 W go vs ls ps vS seen vB before vK backs) : Kd.R (Kd.slice 3 (Kd.int .i64)) 33 W (go + 1) (fun k => go < k ∧ k < w2.heap.size) vB before := Kd.R_move h.before (fun _ hk => h.o.same _ hk.2 (by omega))
theorem LpSt.boxW (h : LpSt w w2 W go vs ls ps vS seen vB before vK backs) : W.heap[ps]? = some (.cells #[vS] 46 (0, 0)) := by
 rw [h.o.same ps (blk_lt h.box) (by have := h.hps; omega)]; exact h.box
theorem LpSt.grown (h : LpSt w w2 W go vs ls ps vS seen vB before vK backs) {W1 : World} (hb : Below W.heap.size W W1) : LpSt w w2 W1 go vs ls ps vS seen vB before vK backs := ⟨h.o.grown hb, h.wgo, h.b2, h.box, h.hps, h.seen, h.before, h.backs⟩
theorem LpSt.setRow (h : LpSt w w2 W go vs ls ps vS seen vB before vK backs) (i : Nat) (hi : i < vs.length) {W1 : World} (hb : Below W.heap.size W W1) {v1 : Value} {l1 : List Int} (hr : Kd.R (Kd.int .i64) 3 W1 W.heap.size (fun _ => True) v1 l1) :
  LpSt w w2 (W1.setCell ⟨go, i, none⟩ v1) go (vs.set i v1) (ls.set i l1) ps vS seen vB before vK backs :=
 ⟨h.o.put i hi (grown_of_below hb _) (own_weaken (Kd.own_of_R hr) h.o.size) (by
  by_cases hn : v1.ownBlock = none
  ·exact .inr (.inl hn)
  ·obtain ⟨b, hb2⟩ := Option.ne_none_iff_exists'.mp hn; exact .inr (.inr ⟨b, hb2, own_base (Kd.own_of_R hr) b hb2⟩)), h.wgo, h.b2, h.box, h.hps, h.seen, h.before, h.backs⟩
end
set_option maxHeartbeats 4000000 in
set_option maxRecDepth 100000 in
theorem graph_Loops.calls (k : Nat) (A0 : Option Addr) (c0 : Nat) (l0 : List (List Int)) (r1 : List (List Int)) (r2 : Int) (w : World) (hr0 : Kd.C (Kd.slice 3 (Kd.int .i64)) w A0 l0.length l0) (hc0 : l0.length ≤ c0) (h : graph_Loops.f k l0 = some (r1, r2)) :
  Calls Try.prog 16 #[.slice A0 l0.length c0] w fun e w' => ∃ v0_ : Value, e = .returned (.tuple #[v0_, .int .i64 r2]) ∧ Kd.S (Kd.slice 3 (Kd.int .i64)) 33 w' w.heap.size (fun _ => True) v0_ r1 ∧ Below w.heap.size w w' := by
 unfold graph_Loops.f at h
 obtain ⟨v, hv, h⟩ := Option.bind_eq_some_iff.mp h; have HR0 := Aside0.mk hr0; have HC0 := Aside0.mk hc0; have HV := Aside0.mk hv; clear hr0 hc0 hv; cases v with
 | false =>
  simp only [Bool.false_eq_true, if_false, Option.some.injEq, Prod.mk.injEq] at h
  obtain ⟨rfl, rfl⟩ := h; go_enter Try.func16, Try.ntmps16
  go_wp2_with fail
  refine (graph_valid.calls k _ _ l0 false _ HR0.out HC0.out HV.out).mono ?_
  rintro e w1 ⟨rfl, ⟨nd, rfl⟩⟩
  go_wp2
  go_ret2
  exact ⟨_, rfl, ⟨fun _ => 0, Kd.R_nil _ _ _ _ _⟩, pw_below_drewN (Below.refl _ _) _⟩
 | true =>
  simp only [if_true] at h
  by_cases hlen : l0.length ≤ 5864062014805
  case neg => rw [if_neg hlen] at h; cases h
  rw [if_pos hlen] at h; obtain ⟨seen, hseen, h⟩ := Option.bind_eq_some_iff.mp h; obtain ⟨before, hbef, h⟩ := Option.bind_eq_some_iff.mp h; obtain ⟨backs, hbk, h⟩ := Option.bind_eq_some_iff.mp h; by_cases hbs : before.length ≤ seen.length
  case neg => rw [if_neg hbs] at h; cases h
  rw [if_pos hbs] at h; obtain ⟨out, hout, h⟩ := Option.bind_eq_some_iff.mp h; simp only [Option.some.injEq, Prod.mk.injEq] at h
  obtain ⟨rfl, rfl⟩ := h; have HSe := Aside0.mk hseen; have HBe := Aside0.mk hbef; have HBk := Aside0.mk hbk; have HO := Aside0.mk hout; have HBS := Aside0.mk hbs; clear hseen hbef hbk hout hbs; have hmk := print_make_of (P := Try.prog) 22 33 (.slice none 0 0) 24 Try.underlying22 A.info33 rfl (by decide) l0.length (by omega)
  go_enter Try.func16, Try.ntmps16
  go_wp2_with fail
  refine (graph_valid.calls k _ _ l0 true _ HR0.out HC0.out HV.out).mono ?_
  rintro e w1 ⟨rfl, ⟨nd, rfl⟩⟩
  go_upto_region 4 with (fail)
  clear hmk; obtain ⟨go, hgo⟩ : ∃ go, go = w.heap.size := ⟨_, rfl⟩; rw [← hgo]; refine gen_world (P := fun W => W.heap[go]? = some (.cells (List.replicate l0.length (.slice none 0 0)).toArray 33 (0, 0)) ∧ Below w.heap.size w W) ?_ ?_
  ·refine ⟨?_, (pw_below_drewN (Below.refl _ _) nd).alloc (Nat.le_refl _) _⟩
   have e0 : (madeCells #[(.slice none 0 0 : Value)] l0.length) = (List.replicate l0.length (.slice none 0 0)).toArray := by
    apply Array.ext_getElem?
    intro i
    simp only [madeCells, Array.getElem?_map, List.getElem?_toArray]
    by_cases hi : i < l0.length
    ·rw [Array.getElem?_eq_getElem (by simpa using hi), List.getElem?_eq_getElem (by simpa using hi)]; simp [Nat.mod_one]
    ·rw [Array.getElem?_eq_none (by simpa using hi), List.getElem?_eq_none (by simpa using hi)]; rfl
   rw [e0]; exact new_at _ hgo
  rintro W1 ⟨ht1, hb1⟩
  have HT1 := Aside0.mk ht1; have HB1 := Aside0.mk hb1; have HGo := Aside0.mk hgo; clear ht1 hb1 hgo; go_wp2_with fail
  have HB2 : Aside0 (Below w.heap.size w (W1.alloc (.cells #[.int .i64 0] 3))) := ⟨below_alloc HB1.out _⟩
  have hl1 : Kd.R (Kd.int .i64) 3 (W1.alloc (.cells #[.int .i64 0] 3)) W1.heap.size (fun _ => True) (.slice (some ⟨W1.heap.size, 0, none⟩) 1 1) [0] :=
   Kd.R_of_own ⟨rfl, .inr ⟨W1.heap.size, 1, _, rfl, Nat.le_refl _, new_at _ rfl, Nat.le_refl _, by decide, rfl, rfl⟩⟩ (fun _ _ => trivial)
  refine (graph_fromOpen.calls k _ _ l0 _ _ [0] seen _ (Kd.C_below HR0.out HB2.out) HC0.out (Kd.R_reads' hl1).2.2 (Nat.le_refl _) HSe.out).mono ?_
  clear hl1; rintro e W3 ⟨vS, rfl, hrS, hbS⟩
  obtain ⟨AS, cS, rfl⟩ := Kd.R_slice hrS; have HRS := Aside0.mk hrS; have HBS1 := Aside0.mk ((below_alloc (Below.refl _ _) _).trans (hbS.mono (by simp)) : Below W1.heap.size W1 W3)
  have HB3 : Aside0 (Below w.heap.size w W3) := ⟨HB2.out.trans (hbS.mono HB2.out.size)⟩
  clear hrS hbS HB2; go_upto_region 5 with ((with_reducible refine gate_store (t := 46) (p := 5) rfl ?_); refine boxS_op rfl rfl rfl rfl ?_; intro Wb hbb hbx; have HBB := Aside0.mk hbb; have HBX := Aside0.mk hbx; clear hbb hbx)
  have HB4 : Aside0 (Below w.heap.size w Wb) := ⟨HB3.out.trans (HBB.out.mono HB3.out.size)⟩
  go_wp2_with fail
  refine (graph_turned.calls k _ _ l0 before _ (Kd.C_below HR0.out HB4.out) HC0.out HBe.out).mono ?_
  rintro e W5 ⟨vB, rfl, hrB, hbB⟩
  obtain ⟨AB, cB, rfl⟩ := Kd.R_slice (Kd.S_R hrB); have HRB := Aside0.mk (Kd.S_R hrB); have HBT := Aside0.mk hbB; have HB5 : Aside0 (Below w.heap.size w W5) := ⟨HB4.out.trans (HBT.out.mono HB4.out.size)⟩
  clear hrB hbB; go_wp2_with fail
  refine (graph_backs.calls k _ _ l0 backs _ (Kd.C_below HR0.out HB5.out) HC0.out HBk.out).mono ?_
  rintro e w2 ⟨vK, rfl, hrK, hbK⟩
  obtain ⟨AK, cK, rfl⟩ := Kd.R_slice (Kd.S_R hrK); have HRK := Aside0.mk (Kd.S_R hrK); have HBK := Aside0.mk hbK; have HB6 : Aside0 (Below w.heap.size w w2) := ⟨HB5.out.trans (HBK.out.mono HB5.out.size)⟩
  clear hrK hbK; have hF : LpSt w w2 w2 go (List.replicate l0.length (.slice none 0 0)) (List.replicate l0.length []) W3.heap.size (.slice AS seen.length cS) seen (.slice AB before.length cB) before (.slice AK backs.length cK) backs := by
   have hlt := blk_lt HT1.out; have s1 : W1.heap.size ≤ W3.heap.size := HBS1.out.size
   have s2 : W3.heap.size ≤ Wb.heap.size := HBB.out.size
   have s3 : Wb.heap.size ≤ W5.heap.size := HBT.out.size
   have s4 := HBK.out.size; have b1 : Below W3.heap.size W3 w2 := (HBB.out.trans (HBT.out.mono s2)).trans (HBK.out.mono (by omega))
   refine ⟨⟨by simp, blk_below (blk_below HT1.out HBS1.out) b1, by omega, Nat.le_refl _, ?_, ?_, rfl, rfl, rfl, Nat.le_refl _, fun _ _ _ => rfl⟩, by rw [HGo.out]; exact Nat.le_refl _, HB6.out, blk_below (blk_below HBX.out HBT.out) HBK.out, by omega, ?_, ?_, ?_⟩
   ·intro i hi
    have hi' : i < l0.length := by simpa using hi
    have e1 : (List.replicate l0.length ([] : List Int)).getD i [] = [] := by rw [List.getD_eq_getElem?_getD]; simp [hi']
    rw [e1, List.getElem_replicate]; exact own_nil _ _ _ _
   ·intro i j hi hj _ hn
    rw [List.getElem_replicate] at hn; exact absurd rfl hn
   ·exact R_between HRS.out (by simp; omega) b1
   ·exact R_between HRB.out (by omega) HBK.out
   ·exact R_between HRK.out (by omega) (Below.refl _ _)
  have HF := Aside0.mk hF; clear hF HB1 HB3 HB4 HB5 HB6 HBS1 HBB HBX HBT HBK HRS HRB HRK HT1; have HO0 : Aside0 (lpB k seen before backs (List.range' 0 backs.length) (List.replicate l0.length []) = some out) := ⟨by rw [← List.range_eq_range']; exact HO.out⟩
  have hmS := Kd.C_max (Kd.R_reads' HF.out.seen).2.2; have hmB := Kd.C_max (Kd.R_reads' HF.out.before).2.2; have hmK := Kd.C_max (Kd.R_reads' HF.out.backs).2.2; clear HO HV HSe HBe HBk h HR0 HC0; have hmf : ∀ (fn : Fn) (first cap : Array Value) (w : World), (Instr.makeFunc fn first cap).run Try.prog w = .ok (.func fn first cap) w := fun _ _ _ _ => rfl
  have HMF := Aside0.mk hmf; clear hmf; go_wp2
  go_loopw [24] (fun i wr => ∃ (j : Nat) (vs : List Value) (ls : List (List Int)), j ≤ backs.length ∧ i = .int .i64 j ∧ Aside0 (lpB k seen before backs (List.range' j (backs.length - j)) ls = some out) ∧ Aside0 (LpSt w w2 wr go vs ls W3.heap.size (.slice AS seen.length cS) seen (.slice AB before.length cB) before (.slice AK backs.length cK) backs) ∧ Aside0 (ls.length = l0.length)) (fun i _ => backs.length - (intOf i).toNat)
  case atStart => exact ⟨0, _, _, by omega, rfl, HO0, HF, ⟨by simp⟩⟩
  case round =>
   obtain ⟨j, vs, ls, hj, rfl, HV, HF, HS⟩ := hrel; clear HO0; by_cases hlt : j < backs.length
   ·have hv := HV.out; rw [show backs.length - j = (backs.length - (j + 1)) + 1 by omega, List.range'_succ, lpB] at hv
    obtain ⟨adK, _, _, eK, _⟩ := at_L1 (Kd.R_reads' HF.out.backs).2.2 (j : Int) (by omega) (by omega)
    cases eK; obtain ⟨ce, _, ⟨vR, rfl, hRow⟩, hcc⟩ := Kd.R_get HF.out.backs ([] : List Int) (j : Int) (by omega) (by omega)
    have hcK := hcc 0 _ rfl; rw [Nat.add_zero, show ((Kd.slice 3 (Kd.int .i64))).sz = 1 from rfl, Nat.mul_one, Int.toNat_natCast] at hcK; have hbk : go + 1 ≤ adK.block := Kd.R_base HF.out.backs adK.block (by simp [Value.ownBlock])
    have hblk : (adK.add j).block = adK.block := by obtain ⟨gB, hgB⟩ := Kd.R_head HF.out.backs; rw [hgB]; unfold Addr.add; split <;> rfl
    have hcK2 := (World.cell?_of_block (a := adK.add j) (HF.out.o.same _ (World.block_lt_of_cell? w2 _ hcK) (by rw [hblk]; omega))).trans hcK
    obtain ⟨Ar, cr, rfl⟩ := Kd.R_slice hRow; have HROW : Aside0 (Kd.R (Kd.int .i64) 3 w2 (go + 1) (fun k => go < k ∧ k < w2.heap.size) (.slice Ar (rd_L1 backs (j : Int)).length cr) (rd_L1 backs (j : Int))) := ⟨Kd.R_mono hRow (fun _ hk => hk.1)⟩
    change wr.cell? _ = some (.slice Ar (rd_L1 backs (j : Int)).length cr) at hcK2
    have hmR := Kd.C_max (Kd.R_reads' HROW.out).2.2; clear HV hRow hcc hcK; generalize rd_L1 backs (j : Int) = row at *
    by_cases hr0 : row.length = 0
    ·rw [if_pos hr0] at hv; have HV2 := Aside0.mk hv; have hz : ((row.length : Int) == 0) = true := by rw [hr0]; rfl
     clear hv hr0; go_wp2_with ((with_reducible refine gate_store (t := 3) (p := 7) rfl ?_); refine boxI_op rfl rfl rfl rfl ?_; intro Wb hbb hbx; have HF2 := Aside0.mk (HF.out.grown hbb); clear hbb hbx); go_roundw
     case rel => exact ⟨j + 1, vs, ls, by omega, by go_num, HV2, HF2, HS⟩
     case measure => simp [intOf]; omega
    ·rw [if_neg hr0] at hv; obtain ⟨inn, hi1, hi2⟩ := Option.bind_eq_some_iff.mp hv; by_cases hji : j < inn.length
     case neg => rw [if_neg hji] at hi2; cases hi2
     rw [if_pos hji] at hi2; obtain ⟨rr, hi3, hi4⟩ := Option.bind_eq_some_iff.mp hi2; by_cases hjl : j < ls.length
     case neg => rw [if_neg hjl] at hi4; cases hi4
     rw [if_pos hjl] at hi4; have HI1 := Aside0.mk hi1; have HI3 := Aside0.mk hi3; have HI4 := Aside0.mk hi4; have hz : ((row.length : Int) == 0) = false := beq_eq_false_iff_ne.mpr (by omega)
     have hjv : j < vs.length := by rw [HF.out.o.len]; omega
     obtain ⟨Ah, ch, evs, hch, hfh⟩ := HF.out.o.cell j hjv; clear hv hr0 hi1 hi2 hi3 hi4 evs; have hmf := HMF.out; go_upto_region 10 with ((with_reducible refine gate_store (t := 3) (p := 7) rfl ?_); refine boxI_op rfl rfl rfl rfl ?_; intro Wb hbb hbx; have HF2 := Aside0.mk (HF.out.grown hbb); have HBB := Aside0.mk hbb; have HBX := Aside0.mk hbx; clear hbb hbx)
     go_wp2_with fail
     clear hmf; have hHR : Kd.C (Kd.slice 3 (Kd.int .i64)) Wb AB before.length before := (Kd.R_reads' HF2.out.beforeR).2.2
     have HRW : Kd.C (Kd.int .i64) Wb Ar row.length row := (Kd.R_reads' (Kd.R_move HROW.out (fun k hk => HF2.out.o.same k hk.2 (by omega)))).2.2
     refine (from_loop (pb := wr.heap.size) (ps := W3.heap.size) (lpP seen (j : Int)) k _ _ before _ _ row inn Wb hHR HRW (loop_closed Wb _ _ j AS cS seen HBX.out HF2.out.boxW HF2.out.seenR _ HBS.out) HI1.out).mono ?_
     clear hHR HRW; rintro e W8 ⟨vI, rfl, hrI, hbI⟩
     obtain ⟨gI, cI, rfl, hgI, _⟩ := Kd.R_form hrI (by omega)
     have HRI := Aside0.mk hrI; have HF3 := Aside0.mk (HF2.out.grown hbI); have HBI := Aside0.mk hbI; have c8 : W8.cell? ⟨wr.heap.size, 0, none⟩ = some (.int .i64 (j : Int)) := (blk_cell (blk_below HBX.out hbI) 0).trans rfl
     obtain ⟨c9, f9⟩ := Kd.R_celln false hrI (j : Int) (by omega) (by omega)
     rw [Int.toNat_natCast] at c9 f9
     clear hrI hbI hz; go_upto_region 12 with (fail)
     obtain ⟨hRS, hGS⟩ := Kd.R_putg HRI.out (j : Int) true; rw [Int.toNat_natCast] at hRS hGS
     have hB9 : Below Wb.heap.size Wb (W8.setCell ⟨gI, j, none⟩ (.bool true)) := HBI.out.setCell hgI _
     obtain ⟨inn2, hinn2⟩ : ∃ y, y = inn.set j true := ⟨_, rfl⟩; have hl2 : inn.length = inn2.length := by rw [hinn2]; simp
     have hji2 : j < inn2.length := by omega
     have HI5 : Aside0 (graph_list.f k inn2 = some rr) := ⟨by rw [hinn2]; exact HI3.out⟩
     rw [← hinn2, hl2] at hRS; rw [hl2]; refine gen_world (P := fun W => Below Wb.heap.size Wb W ∧ Kd.R Kd.bool 4 W Wb.heap.size (fun _ => True) (.slice (some ⟨gI, 0, none⟩) inn2.length cI) inn2) ⟨hB9, hRS⟩ ?_
     clear hinn2 hl2; clear hRS hGS hB9 HF3 c8 c9 f9 HRI HBI hgI; rintro W9 ⟨hb9, hr9⟩
     have HB9 := Aside0.mk hb9; have HR9 := Aside0.mk hr9; have HF4 := Aside0.mk (HF2.out.grown hb9); have c8 : W9.cell? ⟨wr.heap.size, 0, none⟩ = some (.int .i64 (j : Int)) := (blk_cell (blk_below HBX.out hb9) 0).trans rfl
     clear hb9 hr9; have hS9 : W9.drew.cell? ⟨wr.heap.size, 0, none⟩ = some (.int .i64 (j : Int)) := c8
     refine start_ (n := 6) (S := fun w' => w'.cell? ⟨wr.heap.size, 0, none⟩ = some (.int .i64 (j : Int))) (ds := [5]) #[false, false, false, false, false, false] (by kernel_rfl) rfl rfl hS9 (fun hHeld => ?_)
     refine with_tabW lp_tab lp_bits (fun HT_ HW_ => ?_)
     refine gen_world (P := fun W => Kd.R Kd.bool 4 W Wb.heap.size (fun _ => True) (.slice (some ⟨gI, 0, none⟩) inn2.length cI) inn2 ∧ LpSt w w2 W go vs ls W3.heap.size (.slice AS seen.length cS) seen (.slice AB before.length cB) before (.slice (some adK) backs.length cK) backs ∧ W.cell? ⟨wr.heap.size, 0, none⟩ = some (.int .i64 (j : Int)) ∧ Wb.heap.size ≤ W.heap.size) ⟨Kd.R_drew HR9.out, HF4.out.grown (below_drew (Below.refl _ _)), hS9, HB9.out.size⟩ ?_
     clear hS9 hHeld c8 HF4 HR9 HB9; rintro Wa ⟨hra, hfa, hHeld, hsz⟩
     have HRA := Aside0.mk hra; have HFA := Aside0.mk hfa; have HSZ := Aside0.mk hsz; have HHe := Aside0.mk hHeld; clear hra hfa hsz; refine pure_ (i := 0) (N := some 39) (v := ?_) (a' := ?_) #[true, false, false, false, false, false] rfl rfl (any_of HT_.out (by kernel_rfl)) (fun _ _ _ h => h) (Or.inl ⟨by rfl, ?_⟩) ?_ ?_
     rotate_left
     ·intro w'
      go_simp
      with_reducible rfl
     rotate_left
     ·simp only [Act.put, List.setIfInBounds_toArray, List.set_cons_zero, List.set_cons_succ]
      rfl
     refine pure_ (i := 2) (N := some 41) (v := ?_) (a' := ?_) #[true, false, true, false, false, false] rfl rfl (any_of HT_.out (by kernel_rfl)) (fun _ _ _ h => h) (Or.inl ⟨by rfl, ?_⟩) ?_ ?_
     rotate_left
     ·intro w'
      go_simp
      with_reducible rfl
     rotate_left
     ·simp only [Act.put, List.setIfInBounds_toArray, List.set_cons_zero, List.set_cons_succ]
      rfl
     refine take_ (i := 1) (N := some 40) (v := ?_) (a' := ?_) #[true, true, true, false, false, false] rfl rfl (take_ofW HT_.out HW_.out (by kernel_rfl)) (fun _ _ _ h => h) (Or.inl ⟨by rfl, ?_⟩) hHeld ?_ ?_
     rotate_left
     ·rintro w' s0
      go_simp
      with_reducible rfl
     rotate_left
     ·simp only [Act.put, List.setIfInBounds_toArray, List.set_cons_zero, List.set_cons_succ]
      rfl
     refine one_ (i := 3) (N := some 42) #[true, true, true, true, false, false] rfl rfl (one_of HT_.out (by kernel_rfl)) (by decide) (fun K hK => ?_)
     refine goes_ Try.func54 (by kernel_rfl) rfl #[.slice (some ⟨gI, 0, none⟩) inn2.length cI] (by rfl) rfl rfl (by (try simp only [List.map_toArray, List.map_cons, List.map_nil]); first | done | rfl | (simp only [List.length_drop, List.length_take]; rfl)) ?_
     have hrd := Kd.R_reads' HRA.out; refine (graph_list.calls k (some ⟨gI, 0, none⟩) cI inn2 rr Wa hrd.2.2 hrd.2.1 HI5.out).mono ?_
     rintro e Wc ⟨vr, rfl, hrr, hbc⟩
     obtain ⟨Ax, cx, rfl⟩ := Kd.R_slice hrr; refine ⟨_, rfl, ?_⟩
     have HRR := Aside0.mk hrr; have HBC := Aside0.mk hbc; obtain ⟨A9, c9, e9, hc9, hf9⟩ := (HFA.out.grown hbc).o.cell j hjv; have HNX : Aside0 (LpSt w w2 (Wc.setCell ⟨go, j, none⟩ (.slice Ax rr.length cx)) go (vs.set j (.slice Ax rr.length cx)) (ls.set j rr) W3.heap.size (.slice AS seen.length cS) seen (.slice AB before.length cB) before (.slice (some adK) backs.length cK) backs) := ⟨HFA.out.setRow j hjv hbc hrr⟩
     have hSc : Wc.cell? ⟨wr.heap.size, 0, none⟩ = some (.int .i64 (j : Int)) := (hbc.cell (World.block_lt_of_cell? _ _ HHe.out)).trans HHe.out
     clear hrr hbc e9 hrd; refine hK.out _ _ hSc (fun hHeld => ?_)
     clear hK K; refine norm_ (a' := ?_) ?_ ?_
     rotate_left
     ·show Act.put _ (some 42) _ = _
      simp only [Act.put, List.setIfInBounds_toArray, List.set_cons_zero, List.set_cons_succ]
      rfl
     have hjl0 : j < l0.length := by have := HS.out; omega
     refine pure_ (i := 4) (N := some 43) (v := ?_) (a' := ?_) #[true, true, true, true, true, false] rfl rfl (any_of HT_.out (by kernel_rfl)) (fun _ _ _ h => h) (Or.inl ⟨by rfl, ?_⟩) ?_ ?_
     rotate_left
     ·intro w'
      go_simp
      with_reducible rfl
     rotate_left
     ·simp only [Act.put, List.setIfInBounds_toArray, List.set_cons_zero, List.set_cons_succ]
      rfl
     refine last_ (i := 5) (N := none) #[true, true, true, true, true, true] rfl rfl (one_of HT_.out (by kernel_rfl)) (by decide) (fun K hK => ?_)
     refine skip_ (w1 := ?_) (by rfl) rfl ?_ ?_
     rotate_left
     ·go_simp
      rfl
     refine hK.out _ _ ?_
     clear hK K; refine done_ (done_of HT_.out (by kernel_rfl)) ?_
     refine gen_world (P := fun W => LpSt w w2 W go (vs.set j (.slice Ax rr.length cx)) (ls.set j rr) W3.heap.size (.slice AS seen.length cS) seen (.slice AB before.length cB) before (.slice (some adK) backs.length cK) backs) HNX.out ?_
     intro Wd hd
     have HD := Aside0.mk hd; clear hd; go_wp2
     go_roundw
     case rel => exact ⟨j + 1, _, _, by omega, by go_num, HI4, HD, ⟨by rw [List.length_set]; exact HS.out⟩⟩
     case measure => simp [intOf]; omega
   ·obtain rfl : j = backs.length := by omega
    have hv := HV.out; rw [Nat.sub_self, List.range'_zero, lpB] at hv; obtain rfl := Option.some.inj hv; have hd : decide (((backs.length : Nat) : Int) < ((backs.length : Nat) : Int)) = false := decide_eq_false (by omega)
    clear hv HV; go_wp2
    go_ret2
    have hr := HF.out.o.row (base := w.heap.size) HF.out.wgo (by rw [HF.out.o.len, HS.out]; unfold maxLen; omega)
    rw [show vs.length = l0.length by rw [HF.out.o.len, HS.out]] at hr
    exact ⟨_, rfl, hr, HF.out.o.below HF.out.b2 HF.out.wgo⟩
end Go.Proofs.Ytjjedbcgkljdeaa.D
end
section
namespace Go.Proofs.Ytjjedbcgkljdeaa.D
open Go Go.RowKit Go.Shelf Go.Proofs.YtjjedbcgkljdeaaW.PrintWords Go.Proofs.YtjjedbcgkljdeaaW.PrintLast Go.Proofs.YtjjedbcgkljdeaaW.PrintMore Go.Proofs.Ytjjedbcgkljdeaa Go.Proofs.Ytjjedbcgkljdeaa.A Go.Proofs.Ytjjedbcgkljdeaa.B
def rdB (k : Nat) (back : List (List Int)) (a : Nat) : List Int → List (List Int) → Option (List (List Int))
 | [], left => some left
 | b :: bs, left => if 0 ≤ b then if b < (back.length : Int) then
   (slices_Contains_int_int.f k (rd_L1 back b) (a : Int)).bind fun c => if c = true then rdB k back a bs left
    else if a < left.length then if (rd_L1 left (a : Int)).length < 17592186044416 then rdB k back a bs (left.set a (rd_L1 left (a : Int) ++ [b])) else none else none
  else none else none
def rdA (k : Nat) (back g : List (List Int)) : List Nat → List (List Int) → Option (List (List Int))
 | [], left => some left
 | a :: rest, left => (rdB k back a (rd_L1 g (a : Int)) left).bind fun left1 => rdA k back g rest left1
def plF : List Int → Nat → List Int → Option (List Int)
 | [], _, pl => some pl
 | n :: ns, i, pl => if 0 ≤ n then if n < (pl.length : Int) then plF ns (i + 1) (pl.set n.toNat (i : Int)) else none else none
def rdC (seen : List Bool) (place : List Int) (a : Nat) : List Int → Option Bool
 | [] => some true
 | b :: bs => if a < seen.length then if rdOf false seen (a : Int) = true then
   if 0 ≤ b then if b < (place.length : Int) then if a < place.length then (if rd place b ≥ rd place (a : Int) then some false else rdC seen place a bs) else none else none else none
  else rdC seen place a bs else none
def rdD (seen : List Bool) (place : List Int) (left : List (List Int)) : List Nat → Option Bool
 | [] => some true
 | a :: rest => (rdC seen place a (rd_L1 left (a : Int))).bind fun r => if r = true then rdD seen place left rest else some false
def graph_Reducible.f (k : Nat) (l0 : List (List Int)) : Option (Bool × Int) :=
 (graph_valid.f k l0).bind fun v => if v = true then
  if l0.length ≤ 5864062014805 then (graph_backs.f k l0).bind fun back => (rdA k back l0 (List.range l0.length) (List.replicate l0.length [])).bind fun left =>
   if left.length = l0.length then (graph_collect.f k left 0).bind fun order => (plF order 0 (List.replicate l0.length 0)).bind fun place =>
    (graph_fromOpen.f k left [0]).bind fun seen => (rdD seen place left (List.range left.length)).bind fun r => some (r, 0) else none
  else none
 else some (false, 1)
theorem rdB_mono (k : Nat) (back : List (List Int)) (a : Nat) : ∀ l left, LeO (rdB k back a l left) (rdB (k + 1) back a l left)
 | [] => fun _ => LeO.refl _
 | b :: bs => fun left => by
  unfold rdB
  exact LeO.ite (LeO.ite (LeO.bind (slices_Contains_int_int.mono _ _ k) fun _ => LeO.ite (rdB_mono k back a bs _) (LeO.ite (LeO.ite (rdB_mono k back a bs _) (LeO.none _)) (LeO.none _))) (LeO.none _)) (LeO.none _)
theorem rdA_mono (k : Nat) (back g : List (List Int)) : ∀ l left, LeO (rdA k back g l left) (rdA (k + 1) back g l left)
 | [] => fun _ => LeO.refl _
 | a :: rest => fun left => by
  unfold rdA
  exact LeO.bind (rdB_mono k back a _ _) fun _ => rdA_mono k back g rest _
theorem graph_Reducible.mono : ∀ a0 k, LeO (graph_Reducible.f k a0) (graph_Reducible.f (k + 1) a0) := fun a0 k => by
 unfold graph_Reducible.f
 refine LeO.bind (graph_valid.mono _ _) fun _ => LeO.ite (LeO.ite (LeO.bind (graph_backs.mono _ _) fun _ => LeO.bind (rdA_mono k _ _ _ _) fun _ => LeO.ite (LeO.bind (graph_collect.mono _ _ _) fun _ => LeO.bind (LeO.refl _) fun _ => LeO.bind (graph_fromOpen.mono _ _ _) fun _ => LeO.bind (LeO.refl _) fun _ => LeO.refl _) (LeO.none _)) (LeO.none _)) (LeO.refl _)
theorem plF_len : ∀ l i pl r, plF l i pl = some r → r.length = pl.length
 | [], i, pl, r, h => by simp only [plF, Option.some.injEq] at h; rw [h]
 | n :: ns, i, pl, r, h => by
  rw [plF] at h; split at h
  case isFalse => cases h
  split at h
  case isFalse => cases h
  rw [plF_len ns _ _ r h, List.length_set]
theorem plF_append : ∀ l l2 i pl, plF (l ++ l2) i pl = (plF l i pl).bind fun p => plF l2 (i + l.length) p
 | [], l2, i, pl => by simp [plF]
 | n :: ns, l2, i, pl => by
  rw [List.cons_append, plF, plF]; split
  case isFalse => rfl
  split
  case isFalse => rfl
  rw [plF_append ns l2, List.length_cons, show i + 1 + ns.length = i + (ns.length + 1) by omega]
structure PlI (w3 W : World) (gp b go n : Nat) (pre pl : List Int) : Prop where
 f : plF pre 0 (List.replicate n 0) = some pl
 g : W.heap[gp]? = some (.cells (nums .i64 pl).toArray 3 (0, 0))
 bp : W.heap[gp + 1]? = some (.cells #[.slice (some ⟨gp, 0, none⟩) n n] 33 (0, 0))
 bi : W.heap[gp + 1 + 1]? = some (.cells #[.int .i64 (pre.length : Int)] 3 (0, 0))
 b0 : W.heap[b]? = some (.cells #[.slice (some ⟨go, 0, none⟩) n n] 22 (0, 0))
 b1 : W.heap[b + 1]? = some (.cells #[.int .i64 0] 3 (0, 0))
 below : Below w3.heap.size w3 W
theorem PlI.kept {w3 W W' : World} {gp b go n : Nat} {pre pl : List Int} (h : PlI w3 W gp b go n pre pl) {row : Option Nat} (hg : W.grownBy W' row) (hB : ∀ k, row = some k → w3.heap.size ≤ k)
  (hr : ∀ k cs t, W.heap[k]? = some (.cells cs t (0, 0)) → ¬ Ty t → some k ≠ row) : PlI w3 W' gp b go n pre pl :=
 have n3 : ¬ Ty 3 := fun h => by rcases h with h | h <;> cases h
 have n33 : ¬ Ty 33 := fun h => by rcases h with h | h <;> cases h
 have n22 : ¬ Ty 22 := fun h => by rcases h with h | h <;> cases h
 ⟨h.f, blk_grown h.g hg (hr _ _ _ h.g n3), blk_grown h.bp hg (hr _ _ _ h.bp n33), blk_grown h.bi hg (hr _ _ _ h.bi n3), blk_grown h.b0 hg (hr _ _ _ h.b0 n22), blk_grown h.b1 hg (hr _ _ _ h.b1 n3), h.below.grown hg h.below.size hB⟩
theorem PlI.len {w3 W : World} {gp b go n : Nat} {pre pl : List Int} (h : PlI w3 W gp b go n pre pl) : pl.length = n := by
 have := plF_len _ _ _ _ h.f; simpa using this
theorem PlI.step {w3 W : World} {gp b go n : Nat} {pre pl : List Int} (h : PlI w3 W gp b go n pre pl) (hgp : w3.heap.size ≤ gp) (hb : gp + 1 + 1 < b) (x : Nat) (hx : x < n) :
  PlI w3 ((W.setCell ⟨gp, x, none⟩ (.int .i64 (pre.length : Int))).setCell ⟨gp + 1 + 1, 0, none⟩ (.int .i64 ((pre.length : Int) + 1))) gp b go n (pre ++ [(x : Int)]) (pl.set x (pre.length : Int)) := by
 have hl := h.len; have g1 := grownBy_set0 W ⟨gp, x, none⟩ (.int .i64 (pre.length : Int)); have g2 := grownBy_set0 (W.setCell ⟨gp, x, none⟩ (.int .i64 (pre.length : Int))) ⟨gp + 1 + 1, 0, none⟩ (.int .i64 ((pre.length : Int) + 1)); have e : ∀ a c : Nat, a ≠ c → some a ≠ some c := fun a c hac e => hac (Option.some.inj e)
 refine ⟨?_, ?_, ?_, ?_, ?_, ?_, ?_⟩
 ·rw [plF_append, h.f]; simp only [Option.bind_some, plF]
  rw [if_pos (by omega), if_pos (by omega)]
  simp
 ·refine blk_grown ?_ g2 (e gp (gp + 1 + 1) (by omega))
  rw [blk_set h.g]; simp [nums, List.map_set]
 ·exact blk_grown (blk_grown h.bp g1 (e (gp + 1) gp (by omega))) g2 (e (gp + 1) (gp + 1 + 1) (by omega))
 ·rw [blk_set (blk_grown h.bi g1 (e (gp + 1 + 1) gp (by omega)))]
  simp
 ·exact blk_grown (blk_grown h.b0 g1 (e b gp (by omega))) g2 (e b (gp + 1 + 1) (by omega))
 ·exact blk_grown (blk_grown h.b1 g1 (e (b + 1) gp (by omega))) g2 (e (b + 1) (gp + 1 + 1) (by omega))
 ·have h1 : w3.heap.size ≤ (⟨gp, x, none⟩ : Addr).block := hgp
  have h2 : w3.heap.size ≤ (⟨gp + 1 + 1, 0, none⟩ : Addr).block := (show w3.heap.size ≤ gp + 1 + 1 by omega)
  exact (h.below.setCell h1 _).setCell h2 _
end Go.Proofs.Ytjjedbcgkljdeaa.D
end
section
namespace Go.Proofs.Ytjjedbcgkljdeaa.D
open Go Go.RowKit Go.Shelf Go.Proofs.YtjjedbcgkljdeaaW.PrintWords Go.Proofs.YtjjedbcgkljdeaaW.PrintLast Go.Proofs.YtjjedbcgkljdeaaW.PrintMore Go.Proofs.Ytjjedbcgkljdeaa Go.Proofs.Ytjjedbcgkljdeaa.A Go.Proofs.Ytjjedbcgkljdeaa.B
attribute [local go_sem] Oper.semAt_some
theorem R_betweenQ {α : Type} {d : Kd α} {e : Nat} {w1 w2 : World} {base b : Nat} {v : Value} {xs : List α} (h : d.R e w1 base (fun _ => True) v xs) (hb : b ≤ base) (hw : Below w1.heap.size w1 w2) : d.R e w2 b (fun k => b ≤ k ∧ k < w2.heap.size) v xs :=
 Kd.R_below (Kd.R_lower (Kd.R_mono (Kd.R_bound h) (fun _ hk => ⟨Nat.le_trans hb hk.2.1, Nat.lt_of_lt_of_le hk.2.2.1 hw.size⟩)) hb) hw
structure RdSt (w w2 W : World) (go : Nat) (vs : List Value) (ls : List (List Int)) (vK : Value) (back : List (List Int)) : Prop where
 o : OutSt w2 W w2.heap.size go vs ls
 wgo : w.heap.size ≤ go
 b2 : Below w.heap.size w w2
 back : Kd.R (Kd.slice 3 (Kd.int .i64)) 33 w2 (go + 1) (fun k => go < k ∧ k < w2.heap.size) vK back
section
variable {w w2 W : World} {go : Nat} {vs : List Value} {ls : List (List Int)} {vK : Value} {back : List (List Int)}
theorem RdSt.backR (h : RdSt w w2 W go vs ls vK back) : Kd.R (Kd.slice 3 (Kd.int .i64)) 33 W (go + 1) (fun k => go < k ∧ k < w2.heap.size) vK back := Kd.R_move h.back (fun _ hk => h.o.same _ hk.2 (by omega))
theorem RdSt.grown (h : RdSt w w2 W go vs ls vK back) {W1 : World} (hb : Below W.heap.size W W1) : RdSt w w2 W1 go vs ls vK back := ⟨h.o.grown hb, h.wgo, h.b2, h.back⟩
theorem RdSt.below (h : RdSt w w2 W go vs ls vK back) : Below w.heap.size w W := h.o.below h.b2 h.wgo
end
set_option maxHeartbeats 4000000 in
set_option maxRecDepth 100000 in
theorem graph_Reducible.calls (k : Nat) (A0 : Option Addr) (c0 : Nat) (l0 : List (List Int)) (r1 : Bool) (r2 : Int) (w : World) (hr0 : Kd.C (Kd.slice 3 (Kd.int .i64)) w A0 l0.length l0) (hc0 : l0.length ≤ c0) (h : graph_Reducible.f k l0 = some (r1, r2)) :
  Calls Try.prog 17 #[.slice A0 l0.length c0] w fun e w' => e = .returned (.tuple #[.bool r1, .int .i64 r2]) ∧ Below w.heap.size w w' := by
 unfold graph_Reducible.f at h
 obtain ⟨v, hv, h⟩ := Option.bind_eq_some_iff.mp h; have HR0 := Aside0.mk hr0; have HC0 := Aside0.mk hc0; have HV := Aside0.mk hv; clear hr0 hc0 hv; cases v with
 | false =>
  simp only [Bool.false_eq_true, if_false, Option.some.injEq, Prod.mk.injEq] at h
  obtain ⟨rfl, rfl⟩ := h; go_enter Try.func17, Try.ntmps17
  go_wp2_with fail
  refine (graph_valid.calls k _ _ l0 false _ HR0.out HC0.out HV.out).mono ?_
  rintro e w1 ⟨rfl, ⟨nd, rfl⟩⟩
  go_wp2
  go_ret2
  exact ⟨rfl, pw_below_drewN (Below.refl _ _) _⟩
 | true =>
  simp only [if_true] at h
  by_cases hlen : l0.length ≤ 5864062014805
  case neg => rw [if_neg hlen] at h; cases h
  rw [if_pos hlen] at h; obtain ⟨back, hbk, h⟩ := Option.bind_eq_some_iff.mp h; obtain ⟨left, hlf, h⟩ := Option.bind_eq_some_iff.mp h; by_cases hll : left.length = l0.length
  case neg => rw [if_neg hll] at h; cases h
  rw [if_pos hll] at h; obtain ⟨order, hor, h⟩ := Option.bind_eq_some_iff.mp h; obtain ⟨place, hpl, h⟩ := Option.bind_eq_some_iff.mp h; obtain ⟨seen, hsn, h⟩ := Option.bind_eq_some_iff.mp h; obtain ⟨rr, hrr, h⟩ := Option.bind_eq_some_iff.mp h; simp only [Option.some.injEq, Prod.mk.injEq] at h
  obtain ⟨rfl, rfl⟩ := h; have HBk := Aside0.mk hbk; have HLf := Aside0.mk hlf; have HLL := Aside0.mk hll; have HOr := Aside0.mk hor; have HPl := Aside0.mk hpl; have HSn := Aside0.mk hsn; have HRr := Aside0.mk hrr; clear hbk hlf hll hor hpl hsn hrr; have hmk := print_make_of (P := Try.prog) 22 33 (.slice none 0 0) 24 Try.underlying22 A.info33 rfl (by decide) l0.length (by omega)
  refine callsIn_wide.1 (callsIn_of_wp_marks (n := 3) Try.func17 rfl trivial ?_ rfl)
  simp only [Try.ntmps17, List.size_toArray, List.length_cons, List.length_nil, Nat.reduceAdd, Nat.reduceSub, Array.replicate_succ, Array.replicate_zero, List.push_toArray, List.append_toArray, List.nil_append, List.cons_append]
  refine wpIn_wide.2 ?_
  go_wp2_with fail
  refine (graph_valid.calls k _ _ l0 true _ HR0.out HC0.out HV.out).mono ?_
  rintro e w1 ⟨rfl, ⟨nd, rfl⟩⟩
  go_upto_region 4 with (fail)
  clear hmk; obtain ⟨go, hgo⟩ : ∃ go, go = w.heap.size := ⟨_, rfl⟩; rw [← hgo]; refine gen_world (P := fun W => W.heap[go]? = some (.cells (List.replicate l0.length (.slice none 0 0)).toArray 33 (0, 0)) ∧ Below w.heap.size w W) ?_ ?_
  ·refine ⟨?_, (pw_below_drewN (Below.refl _ _) nd).alloc (Nat.le_refl _) _⟩
   have e0 : (madeCells #[(.slice none 0 0 : Value)] l0.length) = (List.replicate l0.length (.slice none 0 0)).toArray := by
    apply Array.ext_getElem?
    intro i
    simp only [madeCells, Array.getElem?_map, List.getElem?_toArray]
    by_cases hi : i < l0.length
    ·rw [Array.getElem?_eq_getElem (by simpa using hi), List.getElem?_eq_getElem (by simpa using hi)]; simp [Nat.mod_one]
    ·rw [Array.getElem?_eq_none (by simpa using hi), List.getElem?_eq_none (by simpa using hi)]; rfl
   rw [e0]; exact new_at _ hgo
  rintro W1 ⟨ht1, hb1⟩
  have HT1 := Aside0.mk ht1; have HB1 := Aside0.mk hb1; have HGo := Aside0.mk hgo; clear ht1 hb1 hgo; go_wp2_with fail
  refine (graph_backs.calls k _ _ l0 back _ (Kd.C_below HR0.out HB1.out) HC0.out HBk.out).mono ?_
  rintro e w2 ⟨vK, rfl, hrK, hbK⟩
  obtain ⟨AK, cK, rfl⟩ := Kd.R_slice (Kd.S_R hrK); have HRK := Aside0.mk (Kd.S_R hrK); have HBK := Aside0.mk hbK; have HB6 : Aside0 (Below w.heap.size w w2) := ⟨HB1.out.trans (HBK.out.mono HB1.out.size)⟩
  clear hrK hbK; have hF : RdSt w w2 w2 go (List.replicate l0.length (.slice none 0 0)) (List.replicate l0.length []) (.slice AK back.length cK) back := by
   have hlt := blk_lt HT1.out; have s4 := HBK.out.size; refine ⟨⟨by simp, blk_below HT1.out HBK.out, by omega, Nat.le_refl _, ?_, ?_, rfl, rfl, rfl, Nat.le_refl _, fun _ _ _ => rfl⟩, by rw [HGo.out]; exact Nat.le_refl _, HB6.out, ?_⟩
   ·intro i hi
    have hi' : i < l0.length := by simpa using hi
    have e1 : (List.replicate l0.length ([] : List Int)).getD i [] = [] := by rw [List.getD_eq_getElem?_getD]; simp [hi']
    rw [e1, List.getElem_replicate]; exact own_nil _ _ _ _
   ·intro i j hi hj _ hn
    rw [List.getElem_replicate] at hn; exact absurd rfl hn
   ·exact R_betweenQ HRK.out (by omega) (Below.refl _ _)
  have HF := Aside0.mk hF; clear hF HB1 HB6 HBK HRK HT1; have HO0 : Aside0 (rdA k back l0 (List.range' 0 l0.length) (List.replicate l0.length []) = some left) := ⟨by rw [← List.range_eq_range']; exact HLf.out⟩
  have hmK := Kd.C_max (Kd.R_reads' HF.out.back).2.2; clear HLf HV HBk h HC0; go_wp2
  go_loopw [28] (fun i wr => ∃ (j : Nat) (vs : List Value) (ls : List (List Int)), j ≤ l0.length ∧ i = .int .i64 j ∧ Aside0 (rdA k back l0 (List.range' j (l0.length - j)) ls = some left) ∧ Aside0 (RdSt w w2 wr go vs ls (.slice AK back.length cK) back) ∧ Aside0 (ls.length = l0.length)) (fun i _ => l0.length - (intOf i).toNat)
  case atStart => exact ⟨0, _, _, by omega, rfl, HO0, HF, ⟨by simp⟩⟩
  case round =>
   obtain ⟨j, vs, ls, hj, rfl, HV, HF, HS⟩ := hrel; clear HO0; by_cases hlt : j < l0.length
   ·have hv := HV.out; rw [show l0.length - j = (l0.length - (j + 1)) + 1 by omega, List.range'_succ, rdA] at hv
    obtain ⟨ls1, hp1, hp2⟩ := Option.bind_eq_some_iff.mp hv; obtain ⟨ad0, Ar, cr, e0, hrow0, hrc, hread⟩ := at_L1 HR0.out (j : Int) (by omega) (by omega)
    cases e0; rw [Int.toNat_natCast] at hrow0; have hrow1 := (HF.out.below.cell (World.block_lt_of_cell? w _ hrow0)).trans hrow0; have HROW := Aside0.mk hread; have hP1 := Aside0.mk hp1; have hP2 := Aside0.mk hp2; have hmR := Kd.C_max hread; clear hv HV hp1 hp2 hread hrc hrow0; generalize rd_L1 l0 (j : Int) = row at *
    go_wp2
    clear hrow1; go_loopw [35] (fun i w' => ∃ (q : Nat) (vs : List Value) (ls : List (List Int)), q ≤ row.length ∧ i = .int .i64 q ∧ Aside0 (rdB k back j (row.drop q) ls = some ls1) ∧ Aside0 (RdSt w w2 w' go vs ls (.slice AK back.length cK) back) ∧ Aside0 (ls.length = l0.length)) (fun i _ => row.length - (intOf i).toNat)
    case atStart => exact ⟨0, _, _, by omega, rfl, hP1, HF, HS⟩
    case round =>
     clear hP1 HF HS; obtain ⟨q, vs, ls, hq, rfl, HV, HF, HS⟩ := hrel; by_cases hlq : q < row.length
     ·have hv := HV.out; rw [List.drop_eq_getElem_cons hlq, rdB] at hv; obtain ⟨p, hp⟩ : ∃ p, p = row[q] := ⟨_, rfl⟩; rw [← hp] at hv; by_cases h0 : 0 ≤ p
      case neg => rw [if_neg h0] at hv; cases hv
      rw [if_pos h0] at hv; by_cases h1 : p < (back.length : Int)
      case neg => rw [if_neg h1] at hv; cases hv
      rw [if_pos h1] at hv; obtain ⟨cc, hc1, hc2⟩ := Option.bind_eq_some_iff.mp hv; obtain ⟨adR, eR, hcR⟩ := Kd.at_int (Kd.C_below HROW.out HF.out.below) (q : Int) (by omega) (by omega)
      cases eR; rw [Int.toNat_natCast, show rd row (q : Int) = p by unfold rd; rw [Int.toNat_natCast, List.getD_eq_getElem?_getD, List.getElem?_eq_getElem hlq, hp]; rfl] at hcR
      obtain ⟨pn, rfl⟩ := Int.eq_ofNat_of_zero_le h0; have hpn : pn < back.length := by omega
      obtain ⟨adK, AKr, cKr, eK, hcK, hKc, hKr⟩ := at_L1 (Kd.R_reads' HF.out.backR).2.2 (pn : Int) h0 h1; cases eK; rw [Int.toNat_natCast] at hcK; have HC1 := Aside0.mk hc1; have HC2 := Aside0.mk hc2; have HKC := Aside0.mk hKc; have HKR := Aside0.mk hKr; clear hv HV hp hc1 hc2 hKc hKr; generalize rd_L1 back (pn : Int) = krow at *
      go_wp2_with fail
      refine (slices_Contains_int_int.calls k _ _ krow (j : Int) cc _ HKR.out HKC.out HC1.out).mono ?_
      rintro e W5 ⟨rfl, ⟨nq, rfl⟩⟩
      have HF5 := Aside0.mk (HF.out.grown (pw_below_drewN (Below.refl _ _) nq)); clear hcR hcK HKC HKR HF; generalize wr.drewN nq = wq at *
      cases cc with
      | true =>
       have hc2 := HC2.out; rw [if_pos rfl] at hc2; have HN := Aside0.mk hc2; clear hc2 HC2; go_wp2
       go_roundw
       case rel => exact ⟨q + 1, _, _, by omega, by go_num, HN, HF5, HS⟩
       case measure => simp [intOf]; omega
      | false =>
       have hA := HC2.out; rw [if_neg (by simp)] at hA
       by_cases hal : j < ls.length
       case neg => rw [if_neg hal] at hA; cases hA
       rw [if_pos hal] at hA; by_cases hbd : (rd_L1 ls (j : Int)).length < 17592186044416
       case neg => rw [if_neg hbd] at hA; cases hA
       rw [if_pos hbd] at hA; have hav : j < vs.length := by rw [HF5.out.o.len]; exact hal
       have hown := HF5.out.o.own j hav; obtain ⟨Ah, ch, evs, hch, hfh⟩ := HF5.out.o.cell j hav; rw [evs] at hown; obtain ⟨lrow, hlrow⟩ : ∃ row, row = ls.getD j [] := ⟨_, rfl⟩; have hlrow2 : rd_L1 ls (j : Int) = lrow := by rw [hlrow]; rfl
       rw [← hlrow] at hown hch evs
       rw [hlrow2] at hbd hA
       have HOWN := Aside0.mk hown; have HA := Aside0.mk hA; have HEV := Aside0.mk evs; clear hA hown hlrow hlrow2 evs HC2; go_upto_region 13 with ((with_reducible refine gate_builtin (b := .append) (xs := #[.tmp 51, .tmp 53]) rfl ?_); at_builtin; refine print_append_num (w0 := wq) w2.heap.size rfl (.tmp 51) (.tmp 53) 33 3 .i64 8 rfl Try.underlying33 A.info3 (by decide) _ lrow (pn : Int) rfl (by first | (go_simp; done) | (go_simp; rfl)) HOWN.out (Below.refl _ _) HF5.out.o.size (by omega) ?_; intro tv1 w1 ho hb hg hat; obtain ⟨At1, ct1, rfl⟩ := own_slice ho; have hb3 := blk_grown HF5.out.o.top hg (fun e => by have := HF5.out.o.ge j hav go (by rw [HEV.out]; exact e.symm); have := HF5.out.o.lt; omega); have g3 : w1.cell? ⟨go, j, none⟩ = some (.slice Ah lrow.length ch) := (blk_cell hb3 j).trans (by rw [← HEV.out]; simp [hav]); have gf := blk_frozen hb3 j; have HO2 := Aside0.mk ho; have HG2 := Aside0.mk hg; have HAT := Aside0.mk hat; clear ho hb hg hat hb3)
       have HF2 : Aside0 (RdSt w w2 (w1.setCell ⟨go, j, none⟩ (.slice At1 (lrow.length + 1) ct1)) go (vs.set j (.slice At1 (lrow.length + 1) ct1)) (ls.set j (lrow ++ [(pn : Int)])) (.slice (some adK) back.length cK) back) :=
        ⟨⟨HF5.out.o.put j hav (l1 := lrow ++ [(pn : Int)]) (by rw [HEV.out]; exact HG2.out) (by have h := HO2.out; rwa [show (lrow ++ [(pn : Int)]).length = lrow.length + 1 by simp] at h ⊢) (by have h := HAT.out; rw [show (lrow ++ [(pn : Int)]).length = lrow.length + 1 from by simp] at h; rw [HEV.out]; exact h.imp id .inr), HF5.out.wgo, HF5.out.b2, HF5.out.back⟩⟩
       refine gen_world (P := fun W => RdSt w w2 W go (vs.set j (.slice At1 (lrow.length + 1) ct1)) (ls.set j (lrow ++ [(pn : Int)])) (.slice (some adK) back.length cK) back) HF2.out ?_
       rintro W3 hf3
       have HF3 := Aside0.mk hf3; have HS3 : Aside0 ((ls.set j (lrow ++ [(pn : Int)])).length = l0.length) := ⟨by rw [List.length_set]; exact HS.out⟩
       clear hf3 HF2 HF5 HO2 HG2 HAT hch hfh; go_wp2
       go_roundw
       case rel => exact ⟨q + 1, _, _, by omega, by go_num, HA, HF3, HS3⟩
       case measure => simp [intOf]; omega
     ·obtain rfl : q = row.length := by omega
      have hv := HV.out; rw [List.drop_of_length_le (Nat.le_refl _), rdB] at hv; obtain rfl := Option.some.inj hv; have hd : decide (((row.length : Nat) : Int) < ((row.length : Nat) : Int)) = false := decide_eq_false (by omega)
      clear hv HV; go_wp2
      go_roundw
      case rel => exact ⟨j + 1, vs, ls, by omega, by go_num, hP2, HF, HS⟩
      case measure => simp [intOf]; omega
   ·obtain rfl : j = l0.length := by omega
    have hv := HV.out; rw [Nat.sub_self, List.range'_zero, rdA] at hv; obtain rfl := Option.some.inj hv; have hd : decide (((l0.length : Nat) : Int) < ((l0.length : Nat) : Int)) = false := decide_eq_false (by omega)
    clear hv HV; have hS := HF.out.o.row (base := w.heap.size) HF.out.wgo (by rw [HF.out.o.len, HS.out]; unfold maxLen; omega)
    rw [show vs.length = ls.length by rw [HF.out.o.len]] at hS
    have HCL := Aside0.mk (Kd.S_reads' hS).2.2; have HBL := Aside0.mk HF.out.below; have hgl : go < wr.heap.size := blk_lt HF.out.o.top
    have hln : l0.length = ls.length := HS.out.symm
    clear hS HF HLL; rw [hln] at hd hlen
    rw [hln]; have HLN := Aside0.mk hln; clear hln; have hmk := print_make_of (P := Try.prog) 33 3 (.int .i64 0) 8 Try.underlying33 A.info3 rfl (by decide) ls.length (by omega)
    go_upto_region 17 with (fail)
    clear hmk; refine gen_world (P := fun W => W.heap[wr.heap.size]? = some (.cells (nums .i64 (List.replicate ls.length 0)).toArray 3 (0, 0)) ∧ W.heap[wr.heap.size + 1]? = some (.cells #[.slice (some ⟨wr.heap.size, 0, none⟩) ls.length ls.length] 33 (0, 0)) ∧ W.heap[wr.heap.size + 1 + 1]? = some (.cells #[.int .i64 0] 3 (0, 0)) ∧ Below wr.heap.size wr W) ?_ ?_
    ·have e0 : (madeCells #[(.int .i64 0 : Value)] ls.length) = (nums .i64 (List.replicate ls.length 0)).toArray := by
      apply Array.ext_getElem?
      intro i
      simp only [madeCells, nums, Array.getElem?_map, List.getElem?_toArray, List.map_replicate]
      by_cases hi : i < ls.length
      ·rw [Array.getElem?_eq_getElem (by simpa using hi), List.getElem?_eq_getElem (by simpa using hi)]; simp [Nat.mod_one]
      ·rw [Array.getElem?_eq_none (by simpa using hi), List.getElem?_eq_none (by simpa using hi)]; rfl
     rw [e0]; exact ⟨blk_alloc (blk_alloc (new_at _ rfl) _) _, blk_alloc (new_at _ (by simp)) _, new_at _ (by simp), below_alloc (below_alloc (below_alloc (Below.refl _ _) _) _) _⟩
    rintro Wi ⟨hgp, hbp, hbi, hbw⟩
    have HGP := Aside0.mk hgp; have HBP := Aside0.mk hbp; have HBI := Aside0.mk hbi; have HBW := Aside0.mk hbw; clear hgp hbp hbi hbw; go_wp2_with fail
    refine (post_calls' (some ⟨go, 0, none⟩) ls.length ls.length 0 Wi).mono ?_
    rintro e WP ⟨b, rfl, hpo⟩
    have HPO := Aside0.mk hpo; clear hpo; go_wp2_with fail
    have hbW : Below wr.heap.size wr WP := HBW.out.trans (HPO.out.below.mono HBW.out.size)
    have hbge : wr.heap.size + 1 + 1 < b := Nat.lt_of_lt_of_le (blk_lt HBI.out) HPO.out.hb
    have hI0 : PlI wr WP wr.heap.size b go ls.length [] (List.replicate ls.length 0) := ⟨rfl, blk_below HGP.out HPO.out.below, blk_below HBP.out HPO.out.below, blk_below HBI.out HPO.out.below, HPO.out.b0, HPO.out.b1, hbW⟩
    have hord : order.length ≤ 17592186044416 := by
     have h := HOr.out; unfold graph_collect.f collectF at h
     split at h
     case isFalse => cases h
     split at h
     case isFalse => cases h
     split at h
     case isFalse => cases h
     obtain ⟨l, _, h2⟩ := Option.bind_eq_some_iff.mp h; split at h2
     case isFalse => cases h2
     next h3 => obtain rfl := Option.some.inj h2; exact h3
    have HI0 := Aside0.mk hI0; have HBWP := Aside0.mk hbW; clear hI0 hbW HGP HBP HBI; refine (wpIn_wide (n := 3)).1 ?_
    refine wpIn_rangeFunc_ty (F := Fence.wide) (n := 3) (α := Int) rfl (by decide) (gf := 71) (lb := #[.pointer (some ⟨b, 0, none⟩), .pointer (some ⟨b + 1, 0, none⟩)]) rfl trivial (enters_of Try.func71 (by kernel_rfl) rfl)
     (encs := fun x : Int => #[.int .i64 x]) (Ty := Ty) (Kp := KpT wr) (S := fun xs => xs = order) (Pk := fun pre x => ∃ rest, order = pre ++ x :: rest)
     (Fx := fun W => W.cell? ⟨b, 0, none⟩ = some (.slice (some ⟨go, 0, none⟩) ls.length ls.length) ∧ W.cell? ⟨b + 1, 0, none⟩ = some (.int .i64 0) ∧ Kd.C (Kd.slice 3 (Kd.int .i64)) W (some ⟨go, 0, none⟩) ls.length ls) (w0 := WP)
     ?hseq (fun h k => KpT.t h k) (KpT.b HBWP.out.size) (Below.refl _ _) (fun _ => rfl)
     (fun pre W => ∃ pl, PlI wr W wr.heap.size b go ls.length pre pl) ?own ?ty ?fx ⟨_, HI0.out⟩ ?a1 ?assign ?body ?done
    case assign =>
     intro l x W K hK
     gi_wp2
     exact hK
    case hseq =>
     intro l J W2 hW2 hJ hFx hY h0
     exact callsIn_wide.2 (post_iter 1 k (some ⟨go, 0, none⟩) ls.length ls 0 order b (b + 1) l wr W2 J hFx HOr.out (HBWP.out.trans (hW2.mono HBWP.out.size)) hJ hY h0)
    case own =>
     rintro pre W W' row ⟨pl, h⟩ hg hr
     exact ⟨pl, h.kept hg (fun k e => Nat.le_trans HBWP.out.size (hr k e).1) (fun k cs t hk _ e => by
      obtain ⟨_, o, ho, hc⟩ := hr k e.symm; rw [hk] at ho; cases ho; cases hc)⟩
    case ty =>
     rintro pre W W' row ⟨pl, h⟩ hg hr
     exact ⟨pl, h.kept hg (fun k e => Nat.le_trans HBWP.out.size (hr k e).1) (fun k cs t hk hn e => by
      obtain ⟨_, cs2, t2, fr, ho, hc⟩ := hr k e.symm; rw [hk] at ho; cases ho; exact hn hc)⟩
    case fx =>
     rintro pre W ⟨pl, h⟩
     exact ⟨(blk_cell h.b0 0).trans rfl, (blk_cell h.b1 0).trans rfl, Kd.C_below HCL.out h.below⟩
    case body =>
     rintro l pre x W ⟨pl, h⟩ ⟨rest, hrest⟩
     have hp := HPl.out; rw [HLN.out, hrest, plF_append, h.f] at hp; simp only [Option.bind_some, plF] at hp
     by_cases hx0 : 0 ≤ x
     case neg => rw [if_neg hx0] at hp; cases hp
     rw [if_pos hx0] at hp; by_cases hx1 : x < (pl.length : Int)
     case neg => rw [if_neg hx1] at hp; cases hp
     clear hp; obtain ⟨xn, rfl⟩ := Int.eq_ofNat_of_zero_le hx0; have hl := h.len; have hxn : xn < ls.length := by omega
     have hpre : pre.length < order.length := by rw [hrest]; simp
     have hxp : xn < pl.length := by omega
     have cbp : W.cell? ⟨wr.heap.size + 1, 0, none⟩ = some (.slice (some ⟨wr.heap.size, 0, none⟩) ls.length ls.length) := (blk_cell h.bp 0).trans rfl
     have cbi : W.cell? ⟨wr.heap.size + 1 + 1, 0, none⟩ = some (.int .i64 (pre.length : Int)) := (blk_cell h.bi 0).trans rfl
     have cg : W.cell? ⟨wr.heap.size, xn, none⟩ = some (.int .i64 pl[xn]) := by rw [blk_cell h.g xn]; simp [nums, hxp]
     have fg := blk_frozen h.g xn; have fi := blk_frozen h.bi 0; have HST := Aside0.mk (h.step (Nat.le_refl _) hbge xn hxn); have HH := Aside0.mk h; have hb2 := blk_grown h.bi (grownBy_set0 W ⟨wr.heap.size, xn, none⟩ (.int .i64 (pre.length : Int))) (fun e => absurd (Option.some.inj e) (by show wr.heap.size + 1 + 1 ≠ wr.heap.size; omega))
     have cbi2 : (W.setCell ⟨wr.heap.size, xn, none⟩ (.int .i64 (pre.length : Int))).cell? ⟨wr.heap.size + 1 + 1, 0, none⟩ = some (.int .i64 (pre.length : Int)) := (blk_cell hb2 0).trans rfl
     have fi2 := blk_frozen hb2 0; clear h hrest hl hx0 hx1 hb2; gi_wp2
     refine ⟨(KeepsOthers.setCell _ _ _).trans (KeepsOthers.setCell _ _ _), ⟨?_, ?_⟩, _, HST.out⟩
     ·have h1 : wr.heap.size ≤ (⟨wr.heap.size, xn, none⟩ : Addr).block := Nat.le_refl _
      have h2 : wr.heap.size ≤ (⟨wr.heap.size + 1 + 1, 0, none⟩ : Addr).block := (show wr.heap.size ≤ wr.heap.size + 1 + 1 by omega)
      exact ((Below.refl _ W).setCell h1 _).setCell h2 _
     ·intro kk cs t fr hk ht
      have n1 : kk ≠ wr.heap.size := by
       rintro rfl
       rw [HH.out.g] at hk; cases hk; rcases ht with h | h <;> cases h
      have n2 : kk ≠ wr.heap.size + 1 + 1 := by
       rintro rfl
       rw [HH.out.bi] at hk; cases hk; rcases ht with h | h <;> cases h
      rw [Below.heap_setCell _ _ _ kk n2, Below.heap_setCell _ _ _ kk n1]
    case done =>
     rintro D xs W hD rfl ⟨pl, hI⟩ hK
     have hlp := hI.len; obtain rfl : pl = place := by
      have h1 := HPl.out; rw [HLN.out, hI.f] at h1; exact Option.some.inj h1
     have HP := Aside0.mk hI; have HD := Aside0.mk hK; have HDg := Aside0.mk hD; clear h hI hK HPl hD; go_wp2_with fail
     have hl1 : Kd.R (Kd.int .i64) 3 (W.alloc (.cells #[.int .i64 0] 3)) W.heap.size (fun _ => True) (.slice (some ⟨W.heap.size, 0, none⟩) 1 1) [0] :=
      Kd.R_of_own ⟨rfl, .inr ⟨W.heap.size, 1, _, rfl, Nat.le_refl _, new_at _ rfl, Nat.le_refl _, by decide, rfl, rfl⟩⟩ (fun _ _ => trivial)
     refine (graph_fromOpen.calls k _ _ ls _ _ [0] seen _ (Kd.C_alloc (Kd.C_below HCL.out HP.out.below) _) (Nat.le_refl _) (Kd.R_reads' hl1).2.2 (Nat.le_refl _) HSn.out).mono ?_
     clear hl1; rintro e WF ⟨vS, rfl, hrS, hbS⟩
     obtain ⟨AS, cS, rfl⟩ := Kd.R_slice hrS; have hbF : Below W.heap.size W WF := (below_alloc (Below.refl _ _) _).trans (hbS.mono (by simp))
     have HBF : Aside0 (Below wr.heap.size wr WF) := ⟨HP.out.below.trans (hbF.mono HP.out.below.size)⟩
     have HGF := Aside0.mk (blk_below HP.out.g hbF); have HPF := Aside0.mk (blk_below HP.out.bp hbF); have HDF := Aside0.mk (blk_below HD.out hbF); have HSF := Aside0.mk hrS; have HBWF : Aside0 (Below w.heap.size w WF) := ⟨HBL.out.trans (HBF.out.mono HBL.out.size)⟩
     have HDW : Aside0 (w.heap.size ≤ D) := ⟨Nat.le_trans (Nat.le_trans HBL.out.size HBWP.out.size) HDg.out⟩
     have hmS := Kd.C_max (Kd.R_reads' hrS).2.2; have HR1 : Aside0 (rdD seen pl ls (List.range' 0 ls.length) = some rr) := ⟨by rw [← List.range_eq_range']; exact HRr.out⟩
     have HCF := Aside0.mk (Kd.C_below HCL.out HBF.out); clear hrS hbS hbF HP HD HRr HSn HOr HI0 HPO HBW HBF HCL; obtain ⟨gp, hgp⟩ : ∃ g, g = wr.heap.size := ⟨_, rfl⟩; rw [← hgp] at HGF HPF
     rw [← hgp]; clear hgp; go_wp2
     go_loopw [75] (fun i wq => ∃ (j : Nat), j ≤ ls.length ∧ i = .int .i64 j ∧ Aside0 (rdD seen pl ls (List.range' j (ls.length - j)) = some rr) ∧ Aside0 (Below WF.heap.size WF wq)) (fun i _ => ls.length - (intOf i).toNat)
     case atStart => exact ⟨0, by omega, rfl, HR1, ⟨Below.refl _ _⟩⟩
     case round =>
      clear HR1; obtain ⟨j, hj, rfl, HV, HW⟩ := hrel; by_cases hlt : j < ls.length
      ·have hv := HV.out; rw [show ls.length - j = (ls.length - (j + 1)) + 1 by omega, List.range'_succ, rdD] at hv
       obtain ⟨rb, hp1, hp2⟩ := Option.bind_eq_some_iff.mp hv; obtain ⟨ad0, Ar, cr, e0, hrow0, hrc, hread⟩ := at_L1 HCF.out (j : Int) (by omega) (by omega)
       cases e0; simp only [add_plain, Int.toNat_natCast] at hrow0
       have hrow1 := (HW.out.cell (World.block_lt_of_cell? _ _ hrow0)).trans hrow0; have HROW := Aside0.mk hread; have hmR := Kd.C_max hread; have hP1 := Aside0.mk hp1; have hP2 := Aside0.mk hp2; clear hv HV hp1 hp2 hread hrc hrow0; generalize rd_L1 ls (j : Int) = row at *
       go_wp2
       clear hrow1; go_loopw [82] (fun i wq => ∃ (q : Nat), q ≤ row.length ∧ i = .int .i64 q ∧ Aside0 (rdC seen pl j (row.drop q) = some rb) ∧ Aside0 (Below WF.heap.size WF wq)) (fun i _ => row.length - (intOf i).toNat)
       case atStart => exact ⟨0, by omega, rfl, hP1, HW⟩
       case round =>
        clear hP1 HW; obtain ⟨q, hq, rfl, HV, HW⟩ := hrel; by_cases hlq : q < row.length
        ·have hv := HV.out; rw [List.drop_eq_getElem_cons hlq, rdC] at hv; obtain ⟨p, hp⟩ : ∃ p, p = row[q] := ⟨_, rfl⟩; rw [← hp] at hv; by_cases hjs : j < seen.length
         case neg => rw [if_neg hjs] at hv; cases hv
         rw [if_pos hjs] at hv; obtain ⟨adR, eR, hcR⟩ := Kd.at_int (Kd.C_below HROW.out HW.out) (q : Int) (by omega) (by omega)
         cases eR; rw [Int.toNat_natCast, show rd row (q : Int) = p by unfold rd; rw [Int.toNat_natCast, List.getD_eq_getElem?_getD, List.getElem?_eq_getElem hlq, hp]; rfl] at hcR
         obtain ⟨adS, eS, hcS⟩ := Kd.at_bool (Kd.R_reads' (Kd.R_below HSF.out HW.out)).2.2 (j : Int) (by omega) (by omega)
         cases eS; rw [Int.toNat_natCast] at hcS; have cbp : wr.cell? ⟨gp + 1, 0, none⟩ = some (.slice (some ⟨gp, 0, none⟩) ls.length ls.length) := (blk_cell (blk_below HPF.out HW.out) 0).trans rfl
         by_cases hs : rdOf false seen (j : Int) = true
         ·rw [if_pos hs] at hv; rw [hs] at hcS; by_cases h0 : 0 ≤ p
          case neg => rw [if_neg h0] at hv; cases hv
          rw [if_pos h0] at hv; by_cases h1 : p < (pl.length : Int)
          case neg => rw [if_neg h1] at hv; cases hv
          rw [if_pos h1] at hv; by_cases h2 : j < pl.length
          case neg => rw [if_neg h2] at hv; cases hv
          rw [if_pos h2] at hv; obtain ⟨pn, rfl⟩ := Int.eq_ofNat_of_zero_le h0; have hpn : pn < ls.length := by omega
          have hpp : pn < pl.length := by omega
          have c1 : wr.cell? ⟨gp, pn, none⟩ = some (.int .i64 (rd pl (pn : Int))) := by rw [blk_cell (blk_below HGF.out HW.out) pn]; simp [nums, rd, hpp]
          have c2 : wr.cell? ⟨gp, j, none⟩ = some (.int .i64 (rd pl (j : Int))) := by rw [blk_cell (blk_below HGF.out HW.out) j]; simp [nums, rd, h2]
          clear hp hs HV; by_cases hge : rd pl (pn : Int) ≥ rd pl (j : Int)
          ·rw [if_pos hge] at hv; obtain rfl := Option.some.inj hv; have hd3 : decide (rd pl (pn : Int) ≥ rd pl (j : Int)) = true := decide_eq_true hge
           have hd4 : decide (rd pl (j : Int) ≤ rd pl (pn : Int)) = true := decide_eq_true hge
           have hP3 := hP2.out; rw [if_neg (by simp)] at hP3
           obtain rfl := Option.some.inj hP3; clear hv hge hP2 hP3; go_wp2
           repeat (go_quiet (fail); try go_wp2)
           have HWq : Aside0 (Below WF.heap.size WF (wr.drewN nq)) := ⟨pw_below_drewN HW.out nq⟩
           have HDQ := Aside0.mk ((HWq.out.block D (blk_lt HDF.out)).trans HDF.out); exact ⟨by simp, .inl ⟨_, _, rfl, run_takeDeferred HDQ.out, _, results_tmp2 rfl _ _ _, rfl, (HBWF.out.trans (HWq.out.mono HBWF.out.size)).trans (belowK_b (w := w) (Nat.le_refl _) _ D _ _ HDW.out HDQ.out rfl rfl)⟩⟩
          ·rw [if_neg hge] at hv; have hd3 : decide (rd pl (pn : Int) ≥ rd pl (j : Int)) = false := decide_eq_false hge
           have hd4 : decide (rd pl (j : Int) ≤ rd pl (pn : Int)) = false := decide_eq_false hge
           have HV2 := Aside0.mk hv; clear hv hge; go_wp2
           repeat (go_quiet (fail); try go_wp2)
           go_roundw
           case rel => exact ⟨q + 1, by omega, by go_num, HV2, ⟨pw_below_drewN HW.out _⟩⟩
           case measure => simp [intOf]; omega
         ·rw [if_neg hs] at hv; rw [Bool.eq_false_iff.mpr hs] at hcS; have HV2 := Aside0.mk hv; clear hv hp hs HV; go_wp2
          repeat (go_quiet (fail); try go_wp2)
          go_roundw
          case rel => exact ⟨q + 1, by omega, by go_num, HV2, ⟨pw_below_drewN HW.out _⟩⟩
          case measure => simp [intOf]; omega
        ·obtain rfl : q = row.length := by omega
         have hv := HV.out; rw [List.drop_of_length_le (Nat.le_refl _), rdC] at hv; obtain rfl := Option.some.inj hv; have hd3 : decide (((row.length : Nat) : Int) < ((row.length : Nat) : Int)) = false := decide_eq_false (by omega)
         have hP3 := hP2.out; rw [if_pos rfl] at hP3; have HP3 := Aside0.mk hP3; clear hv HV hP3 hP2; go_wp2
         go_roundw
         case rel => exact ⟨j + 1, by omega, by go_num, HP3, HW⟩
         case measure => simp [intOf]; omega
      ·obtain rfl : j = ls.length := by omega
       have hv := HV.out; rw [Nat.sub_self, List.range'_zero, rdD] at hv; obtain rfl := Option.some.inj hv; have hd2 : decide (((ls.length : Nat) : Int) < ((ls.length : Nat) : Int)) = false := decide_eq_false (by omega)
       have HDQ := Aside0.mk ((HW.out.block D (blk_lt HDF.out)).trans HDF.out); clear hv HV; go_wp2
       exact ⟨by simp, .inl ⟨_, _, rfl, run_takeDeferred HDQ.out, _, results_tmp2 rfl _ _ _, rfl, (HBWF.out.trans (HW.out.mono HBWF.out.size)).trans (belowK_b (w := w) (Nat.le_refl _) _ D _ _ HDW.out HDQ.out rfl rfl)⟩⟩
end Go.Proofs.Ytjjedbcgkljdeaa.D
end
section
namespace Go.Proofs.Ytjjedbcgkljdeaa.D
open Go Go.RowKit Go.Shelf Go.Proofs.YtjjedbcgkljdeaaW.PrintWords Go.Proofs.YtjjedbcgkljdeaaW.PrintLast Go.Proofs.YtjjedbcgkljdeaaW.PrintMore Go.Proofs.Ytjjedbcgkljdeaa Go.Proofs.Ytjjedbcgkljdeaa.A Go.Proofs.Ytjjedbcgkljdeaa.B Go.Proofs.Ytjjedbcgkljdeaa.C
theorem C_ints {w : World} {A : Option Addr} {xs : List Int} (hm : xs.length ≤ 9223372036854775807) (h : 0 < xs.length → ∃ ad, A = some ad ∧ ∀ j (hj : j < xs.length), w.cell? (ad.add j) = some (.int .i64 xs[j])) : Kd.C (Kd.int .i64) w A xs.length xs := by
 refine ⟨rfl, hm, fun hn => ?_⟩
 obtain ⟨ad, e, hc⟩ := h hn; refine ⟨ad, e, fun j p hj => ⟨[.int .i64 p], rfl, rfl, fun i u hu => ?_⟩⟩
 obtain ⟨hj1, hj2⟩ := List.getElem?_eq_some_iff.1 hj; cases i with
 | zero =>
  simp only [List.getElem?_cons_zero, Option.some.injEq] at hu
  subst hu; rw [show j * (Kd.int .i64).sz + 0 = j by simp [Kd.int, Kd.scalar], hc j hj1, hj2]
 | succ i => simp at hu
theorem C_rows {w : World} {A : Option Addr} {xs : List (List Int)} (hm : xs.length ≤ 9223372036854775807) (h : 0 < xs.length → ∃ ad, A = some ad ∧ ∀ j (hj : j < xs.length), ∃ A1 c1, w.cell? (ad.add j) = some (.slice A1 xs[j].length c1) ∧ xs[j].length ≤ c1 ∧ Kd.C (Kd.int .i64) w A1 xs[j].length xs[j]) : Kd.C (Kd.slice 3 (Kd.int .i64)) w A xs.length xs := by
 refine ⟨rfl, hm, fun hn => ?_⟩
 obtain ⟨ad, e, hc⟩ := h hn; refine ⟨ad, e, fun j p hj => ?_⟩
 obtain ⟨hj1, rfl⟩ := List.getElem?_eq_some_iff.1 hj; obtain ⟨A1, c1, h1, h2, h3⟩ := hc j hj1; refine ⟨[.slice A1 xs[j].length c1], rfl, ⟨A1, c1, rfl, h2, h3⟩, fun i u hu => ?_⟩
 cases i with
 | zero =>
  simp only [List.getElem?_cons_zero, Option.some.injEq] at hu
  subst hu; rw [show j * (Kd.slice 3 (Kd.int .i64)).sz + 0 = j by simp [Kd.slice], h1]
 | succ i => simp at hu
theorem C_litI {w : World} {g : Nat} {xs : List Int} (hm : xs.length ≤ 9223372036854775807) (h : w.heap[g]? = some (.cells (nums .i64 xs).toArray 3 (0, 0))) : Kd.C (Kd.int .i64) w (some ⟨g, 0, none⟩) xs.length xs :=
 C_ints hm fun _ => ⟨_, rfl, fun j hj => by rw [add_plain, blk_cell h j]; simp [nums, hj]⟩
theorem C_litR {w : World} {g : Nat} {xs : List (List Int)} {cs : List Value} (hm : xs.length ≤ 9223372036854775807) (h : w.heap[g]? = some (.cells cs.toArray 33 (0, 0)))
  (hc : ∀ j (hj : j < xs.length), ∃ g1 : Nat, cs[j]? = some (.slice (some ⟨g1, 0, none⟩) xs[j].length xs[j].length) ∧ w.heap[g1]? = some (.cells (nums .i64 xs[j]).toArray 3 (0, 0)) ∧ xs[j].length ≤ 9223372036854775807) : Kd.C (Kd.slice 3 (Kd.int .i64)) w (some ⟨g, 0, none⟩) xs.length xs :=
 C_rows hm fun _ => ⟨_, rfl, fun j hj => by
  obtain ⟨g1, h1, h2, h3⟩ := hc j hj; refine ⟨_, _, ?_, Nat.le_refl _, C_litI h3 h2⟩
  rw [add_plain, blk_cell h j]; simpa using h1⟩
def dD : List (List Int) := [[1, 2], [3], [3], []]
def dL : List (List Int) := [[1], [2, 3], [1], []]
def dR : List (List Int) := [[1, 2], [2], [1]]
def wD (w : World) : World := (((((w.alloc (.cells #[.int .i64 1, .int .i64 2] 3)).alloc (.cells #[.int .i64 3] 3)).alloc (.cells #[.int .i64 3] 3)).alloc (.cells #[] 3)).alloc (.cells #[.slice (some ⟨w.heap.size, 0, none⟩) 2 2, .slice (some ⟨w.heap.size + 1, 0, none⟩) 1 1, .slice (some ⟨w.heap.size + 1 + 1, 0, none⟩) 1 1, .slice (some ⟨w.heap.size + 1 + 1 + 1, 0, none⟩) 0 0] 33))
theorem wD_below (w : World) : Below w.heap.size w (wD w) := below_alloc (below_alloc (below_alloc (below_alloc (below_alloc (Below.refl _ _) _) _) _) _) _
theorem wD_C (w : World) : Kd.C (Kd.slice 3 (Kd.int .i64)) (wD w) (some ⟨w.heap.size + 1 + 1 + 1 + 1, 0, none⟩) dD.length dD :=
 C_litR (cs := [.slice (some ⟨w.heap.size, 0, none⟩) 2 2, .slice (some ⟨w.heap.size + 1, 0, none⟩) 1 1, .slice (some ⟨w.heap.size + 1 + 1, 0, none⟩) 1 1, .slice (some ⟨w.heap.size + 1 + 1 + 1, 0, none⟩) 0 0]) (by decide) (new_at _ (by simp)) (by
  intro j hj
  match j, hj with
  | 0, _ => exact ⟨w.heap.size, rfl, blk_alloc (blk_alloc (blk_alloc (blk_alloc (new_at _ rfl) _) _) _) _, Nat.le_of_ble_eq_true rfl⟩
  | 1, _ => exact ⟨w.heap.size + 1, rfl, blk_alloc (blk_alloc (blk_alloc (new_at _ (by simp)) _) _) _, Nat.le_of_ble_eq_true rfl⟩
  | 2, _ => exact ⟨w.heap.size + 1 + 1, rfl, blk_alloc (blk_alloc (new_at _ (by simp)) _) _, Nat.le_of_ble_eq_true rfl⟩
  | 3, _ => exact ⟨w.heap.size + 1 + 1 + 1, rfl, blk_alloc (new_at _ (by simp)) _, Nat.le_of_ble_eq_true rfl⟩)
def wL (w : World) : World := (((((w.alloc (.cells #[.int .i64 1] 3)).alloc (.cells #[.int .i64 2, .int .i64 3] 3)).alloc (.cells #[.int .i64 1] 3)).alloc (.cells #[] 3)).alloc (.cells #[.slice (some ⟨w.heap.size, 0, none⟩) 1 1, .slice (some ⟨w.heap.size + 1, 0, none⟩) 2 2, .slice (some ⟨w.heap.size + 1 + 1, 0, none⟩) 1 1, .slice (some ⟨w.heap.size + 1 + 1 + 1, 0, none⟩) 0 0] 33))
theorem wL_below (w : World) : Below w.heap.size w (wL w) := below_alloc (below_alloc (below_alloc (below_alloc (below_alloc (Below.refl _ _) _) _) _) _) _
theorem wL_C (w : World) : Kd.C (Kd.slice 3 (Kd.int .i64)) (wL w) (some ⟨w.heap.size + 1 + 1 + 1 + 1, 0, none⟩) dL.length dL :=
 C_litR (cs := [.slice (some ⟨w.heap.size, 0, none⟩) 1 1, .slice (some ⟨w.heap.size + 1, 0, none⟩) 2 2, .slice (some ⟨w.heap.size + 1 + 1, 0, none⟩) 1 1, .slice (some ⟨w.heap.size + 1 + 1 + 1, 0, none⟩) 0 0]) (by decide) (new_at _ (by simp)) (by
  intro j hj
  match j, hj with
  | 0, _ => exact ⟨w.heap.size, rfl, blk_alloc (blk_alloc (blk_alloc (blk_alloc (new_at _ rfl) _) _) _) _, Nat.le_of_ble_eq_true rfl⟩
  | 1, _ => exact ⟨w.heap.size + 1, rfl, blk_alloc (blk_alloc (blk_alloc (new_at _ (by simp)) _) _) _, Nat.le_of_ble_eq_true rfl⟩
  | 2, _ => exact ⟨w.heap.size + 1 + 1, rfl, blk_alloc (blk_alloc (new_at _ (by simp)) _) _, Nat.le_of_ble_eq_true rfl⟩
  | 3, _ => exact ⟨w.heap.size + 1 + 1 + 1, rfl, blk_alloc (new_at _ (by simp)) _, Nat.le_of_ble_eq_true rfl⟩)
def wR (w : World) : World := ((((w.alloc (.cells #[.int .i64 1, .int .i64 2] 3)).alloc (.cells #[.int .i64 2] 3)).alloc (.cells #[.int .i64 1] 3)).alloc (.cells #[.slice (some ⟨w.heap.size, 0, none⟩) 2 2, .slice (some ⟨w.heap.size + 1, 0, none⟩) 1 1, .slice (some ⟨w.heap.size + 1 + 1, 0, none⟩) 1 1] 33))
theorem wR_below (w : World) : Below w.heap.size w (wR w) := below_alloc (below_alloc (below_alloc (below_alloc (Below.refl _ _) _) _) _) _
theorem wR_C (w : World) : Kd.C (Kd.slice 3 (Kd.int .i64)) (wR w) (some ⟨w.heap.size + 1 + 1 + 1, 0, none⟩) dR.length dR :=
 C_litR (cs := [.slice (some ⟨w.heap.size, 0, none⟩) 2 2, .slice (some ⟨w.heap.size + 1, 0, none⟩) 1 1, .slice (some ⟨w.heap.size + 1 + 1, 0, none⟩) 1 1]) (by decide) (new_at _ (by simp)) (by
  intro j hj
  match j, hj with
  | 0, _ => exact ⟨w.heap.size, rfl, blk_alloc (blk_alloc (blk_alloc (new_at _ rfl) _) _) _, Nat.le_of_ble_eq_true rfl⟩
  | 1, _ => exact ⟨w.heap.size + 1, rfl, blk_alloc (blk_alloc (new_at _ (by simp)) _) _, Nat.le_of_ble_eq_true rfl⟩
  | 2, _ => exact ⟨w.heap.size + 1 + 1, rfl, blk_alloc (new_at _ (by simp)) _, Nat.le_of_ble_eq_true rfl⟩)
def same4 (k : Nat) : Option Bool :=
 (r5_SameInts.f k [-1, 0, 0, 0] [-1, 0, 0, 0]).bind fun a => (r5_SameInts.f k [3, 3, 3, -1] [3, 3, 3, -1]).bind fun b => (r5_SameInts.f k [3] [3]).bind fun c => (r5_SameInts.f k [1, 2] [1, 2]).bind fun d =>
  if (a && b && c && d) = true then some true else none
def l7_awake.f (k : Nat) : Option Bool :=
 (graph_Dominators.f k dD).bind fun a => if a = ([-1, 0, 0, 0], 0) then (graph_Postdominators.f k dD).bind fun b => if b = ([3, 3, 3, -1], 0) then
 (graph_Frontier.f k dD).bind fun c => if c = ([[], [3], [3], []], 0) then (graph_Region.f k dD 0).bind fun r => if r = ([1, 2], 0) then
 (graph_Loops.f k dL).bind fun l => if l = ([[], [1, 2], [], []], 0) then (graph_Reducible.f k dR).bind fun d => if d = (false, 0) then same4 k
 else none else none else none else none else none else none
theorem l7_awake.mono : ∀ k, LeO (l7_awake.f k) (l7_awake.f (k + 1)) := fun k => by
 unfold l7_awake.f same4
 refine LeO.bind (graph_Dominators.mono _ k) fun _ => LeO.ite (LeO.bind (graph_Postdominators.mono _ k) fun _ => LeO.ite (LeO.bind (graph_Frontier.mono _ k) fun _ => LeO.ite (LeO.bind (graph_Region.mono _ _ k) fun _ => LeO.ite (LeO.bind (graph_Loops.mono _ k) fun _ => LeO.ite (LeO.bind (graph_Reducible.mono _ k) fun _ => LeO.ite ?_ (LeO.none _)) (LeO.none _)) (LeO.none _)) (LeO.none _)) (LeO.none _)) (LeO.none _)
 exact LeO.bind (r5_SameInts.mono _ _ k) fun _ => LeO.bind (r5_SameInts.mono _ _ k) fun _ => LeO.bind (r5_SameInts.mono _ _ k) fun _ => LeO.bind (r5_SameInts.mono _ _ k) fun _ => LeO.refl _
set_option maxHeartbeats 4000000 in
set_option maxRecDepth 100000 in
theorem l7_awake.calls (k : Nat) (r : Bool) (w : World) (h : l7_awake.f k = some r) :
  Calls Try.prog 14 #[] w fun e w' => e = .returned (.bool r) ∧ Below w.heap.size w w' := by
 unfold l7_awake.f same4 at h
 obtain ⟨v1, hv1, h⟩ := Option.bind_eq_some_iff.mp h; split at h
 case isFalse => cases h
 next e1 =>
 obtain ⟨v2, hv2, h⟩ := Option.bind_eq_some_iff.mp h; split at h
 case isFalse => cases h
 next e2 =>
 obtain ⟨v3, hv3, h⟩ := Option.bind_eq_some_iff.mp h; split at h
 case isFalse => cases h
 next e3 =>
 obtain ⟨v4, hv4, h⟩ := Option.bind_eq_some_iff.mp h; split at h
 case isFalse => cases h
 next e4 =>
 obtain ⟨v5, hv5, h⟩ := Option.bind_eq_some_iff.mp h; split at h
 case isFalse => cases h
 next e5 =>
 obtain ⟨v6, hv6, h⟩ := Option.bind_eq_some_iff.mp h; split at h
 case isFalse => cases h
 next e6 =>
 obtain ⟨s1, hs1, h⟩ := Option.bind_eq_some_iff.mp h; obtain ⟨s2, hs2, h⟩ := Option.bind_eq_some_iff.mp h; obtain ⟨s3, hs3, h⟩ := Option.bind_eq_some_iff.mp h; obtain ⟨s4, hs4, h⟩ := Option.bind_eq_some_iff.mp h; split at h
 case isFalse => cases h
 next e7 =>
 obtain rfl := Option.some.inj h; subst e1 e2 e3 e4 e5 e6; simp only [Bool.and_eq_true] at e7
 obtain ⟨⟨⟨rfl, rfl⟩, rfl⟩, rfl⟩ := e7; have H1 := Aside0.mk hv1; have H2 := Aside0.mk hv2; have H3 := Aside0.mk hv3; have H4 := Aside0.mk hv4; have H5 := Aside0.mk hv5; have H6 := Aside0.mk hv6; have S1 := Aside0.mk hs1; have S2 := Aside0.mk hs2; have S3 := Aside0.mk hs3; have S4 := Aside0.mk hs4; clear hv1 hv2 hv3 hv4 hv5 hv6 hs1 hs2 hs3 hs4 h; go_enter Try.func14, Try.ntmps14
 go_wp2_with fail
 have HB1 := Aside0.mk (wD_below w); have HC := Aside0.mk (wD_C w); refine (graph_Dominators.calls k _ 4 dD _ _ (wD w) HC.out (by decide) H1.out).mono ?_
 rintro e W2 ⟨vA, rfl, hrA, hbA⟩
 obtain ⟨AA, cA, rfl⟩ := Kd.R_slice hrA; have HA := Aside0.mk hrA; have HC2 := Aside0.mk (Kd.C_below HC.out hbA); have HB2 : Aside0 (Below w.heap.size w W2) := ⟨HB1.out.trans (hbA.mono HB1.out.size)⟩
 clear hrA hbA HC HB1; go_wp2_with fail
 refine (graph_Postdominators.calls k _ 4 dD _ _ _ HC2.out (by decide) H2.out).mono ?_
 rintro e W3 ⟨vP, rfl, hrP, hbP⟩
 obtain ⟨AP, cP, rfl⟩ := Kd.R_slice hrP; have HP := Aside0.mk hrP; have HA3 := Aside0.mk (Kd.R_below HA.out hbP); have HC3 := Aside0.mk (Kd.C_below HC2.out hbP); have HB3 : Aside0 (Below w.heap.size w W3) := ⟨HB2.out.trans (hbP.mono HB2.out.size)⟩
 clear hrP hbP HC2 HB2 HA; go_wp2_with fail
 refine (graph_Frontier.calls k _ 4 dD _ _ _ HC3.out (by decide) H3.out).mono ?_
 rintro e W4 ⟨vF, rfl, hrF, hbF⟩
 obtain ⟨AF, cF, rfl⟩ := Kd.R_slice (Kd.S_R hrF); have HF := Aside0.mk (Kd.S_R hrF); have HA4 := Aside0.mk (Kd.R_below HA3.out hbF); have HP4 := Aside0.mk (Kd.R_below HP.out hbF); have HC4 := Aside0.mk (Kd.C_below HC3.out hbF); have HB4 : Aside0 (Below w.heap.size w W4) := ⟨HB3.out.trans (hbF.mono HB3.out.size)⟩
 clear hrF hbF HC3 HB3 HA3 HP; go_wp2_with fail
 refine (graph_Region.calls k _ 4 dD 0 _ _ _ HC4.out (by decide) H4.out).mono ?_
 rintro e W5 ⟨vR, rfl, hrR, hbR⟩
 obtain ⟨AR, cR, rfl⟩ := Kd.R_slice hrR; have HR := Aside0.mk hrR; have HA5 := Aside0.mk (Kd.R_below HA4.out hbR); have HP5 := Aside0.mk (Kd.R_below HP4.out hbR); have HF5 := Aside0.mk (Kd.R_below HF.out hbR); have HB5 : Aside0 (Below w.heap.size w W5) := ⟨HB4.out.trans (hbR.mono HB4.out.size)⟩
 clear hrR hbR HC4 HB4 HA4 HP4 HF; go_wp2_with fail
 have HB6 : Aside0 (Below w.heap.size w (wL W5)) := ⟨HB5.out.trans ((wL_below W5).mono HB5.out.size)⟩
 refine (graph_Loops.calls k _ 4 dL _ _ (wL W5) (wL_C W5) (by decide) H5.out).mono ?_
 rintro e W6 ⟨vL, rfl, hrL, hbL⟩
 obtain ⟨AL, cL, rfl⟩ := Kd.R_slice (Kd.S_R hrL); have HL := Aside0.mk (Kd.S_R hrL); have hb56 : Below W5.heap.size W5 W6 := (wL_below W5).trans (hbL.mono (wL_below W5).size)
 have HA6 := Aside0.mk (Kd.R_below HA5.out hb56); have HP6 := Aside0.mk (Kd.R_below HP5.out hb56); have HF6 := Aside0.mk (Kd.R_below HF5.out hb56); have HR6 := Aside0.mk (Kd.R_below HR.out hb56); have HB7 : Aside0 (Below w.heap.size w W6) := ⟨HB6.out.trans (hbL.mono HB6.out.size)⟩
 clear hrL hbL HB5 HB6 HA5 HP5 HF5 HR hb56; go_wp2_with fail
 have HB8 : Aside0 (Below w.heap.size w (wR W6)) := ⟨HB7.out.trans ((wR_below W6).mono HB7.out.size)⟩
 refine (graph_Reducible.calls k _ 3 dR _ _ (wR W6) (wR_C W6) (by decide) H6.out).mono ?_
 rintro e W7 ⟨rfl, hbR⟩
 have hb67 : Below W6.heap.size W6 W7 := (wR_below W6).trans (hbR.mono (wR_below W6).size)
 have HA7 := Aside0.mk (Kd.R_below HA6.out hb67); have HP7 := Aside0.mk (Kd.R_below HP6.out hb67); have HF7 := Aside0.mk (Kd.R_below HF6.out hb67); have HR7 := Aside0.mk (Kd.R_below HR6.out hb67); have HL7 := Aside0.mk (Kd.R_below HL.out hb67); have HB9 : Aside0 (Below w.heap.size w W7) := ⟨HB8.out.trans (hbR.mono HB8.out.size)⟩
 clear hbR HB7 HB8 HA6 HP6 HF6 HR6 HL hb67; obtain ⟨gF, cF', eF', _⟩ := Kd.R_form HF7.out (by decide)
 cases eF'
 obtain ⟨gL, cL', eL', _⟩ := Kd.R_form HL7.out (by decide)
 cases eL'
 obtain ⟨adF, AF1, cF1, eF, hF1, hFc, hFr⟩ := at_L1 (Kd.R_reads' HF7.out).2.2 1 (by decide) (by decide)
 cases eF; obtain ⟨adL, AL1, cL1, eL, hL1, hLc, hLr⟩ := at_L1 (Kd.R_reads' HL7.out).2.2 1 (by decide) (by decide)
 cases eL; have HFC := Aside0.mk hFc; have HFR := Aside0.mk hFr; have HLC := Aside0.mk hLc; have HLR := Aside0.mk hLr; clear hFc hFr hLc hLr; have hF1' : W7.cell? ⟨gF, 1, none⟩ = some (.slice AF1 1 cF1) := hF1
 have hL1' : W7.cell? ⟨gL, 1, none⟩ = some (.slice AL1 2 cL1) := hL1
 clear hF1 hL1; go_wp2_with fail
 refine (r5_SameInts.calls k _ _ [-1, 0, 0, 0] _ 4 [-1, 0, 0, 0] true _ (Kd.C_alloc (Kd.R_reads' HA7.out).2.2 _) (Kd.R_reads' HA7.out).2.1 (C_litI (by decide) (new_at _ rfl)) (by decide) S1.out).mono ?_
 rintro e W8 ⟨rfl, ⟨n8, rfl⟩⟩
 obtain ⟨W8, hW8⟩ : ∃ W : World, W = (W7.alloc (.cells (nums .i64 [-1, 0, 0, 0]).toArray 3)).drewN n8 := ⟨_, rfl⟩; rw [← hW8]; have HX8 : Aside0 (Below W7.heap.size W7 W8) := ⟨by rw [hW8]; exact pw_below_drewN (below_alloc (Below.refl _ _) _) _⟩
 clear hW8; go_wp2_with fail
 have hP8 := Kd.R_reads' (Kd.R_below HP7.out HX8.out); refine (r5_SameInts.calls k _ _ [3, 3, 3, -1] _ 4 [3, 3, 3, -1] true _ (Kd.C_alloc hP8.2.2 _) hP8.2.1 (C_litI (by decide) (new_at _ rfl)) (by decide) S2.out).mono ?_
 clear hP8; rintro e W9 ⟨rfl, ⟨n9, rfl⟩⟩
 obtain ⟨W9, hW9⟩ : ∃ W : World, W = (W8.alloc (.cells (nums .i64 [3, 3, 3, -1]).toArray 3)).drewN n9 := ⟨_, rfl⟩; rw [← hW9]; have HX9 : Aside0 (Below W7.heap.size W7 W9) := ⟨by rw [hW9]; exact pw_below_drewN (below_alloc HX8.out _) _⟩
 clear hW9; have hF2 := (HX9.out.cell (World.block_lt_of_cell? _ _ hF1')).trans hF1'; go_wp2_with fail
 clear hF2; refine (r5_SameInts.calls k _ _ [3] _ 1 [3] true _ (Kd.C_alloc (Kd.C_below HFR.out HX9.out) _) HFC.out (C_litI (by decide) (new_at _ rfl)) (by decide) S3.out).mono ?_
 rintro e W10 ⟨rfl, ⟨n10, rfl⟩⟩
 obtain ⟨W10, hW10⟩ : ∃ W : World, W = (W9.alloc (.cells (nums .i64 [3]).toArray 3)).drewN n10 := ⟨_, rfl⟩; rw [← hW10]; have HX10 : Aside0 (Below W7.heap.size W7 W10) := ⟨by rw [hW10]; exact pw_below_drewN (below_alloc HX9.out _) _⟩
 clear hW10; go_wp2_with fail
 have hR8 := Kd.R_reads' (Kd.R_below HR7.out HX10.out); refine (r5_SameInts.calls k _ _ [1, 2] _ 2 [1, 2] true _ (Kd.C_alloc hR8.2.2 _) hR8.2.1 (C_litI (by decide) (new_at _ rfl)) (by decide) S4.out).mono ?_
 clear hR8; rintro e W11 ⟨rfl, ⟨n11, rfl⟩⟩
 obtain ⟨W11, hW11⟩ : ∃ W : World, W = (W10.alloc (.cells (nums .i64 [1, 2]).toArray 3)).drewN n11 := ⟨_, rfl⟩; rw [← hW11]; have HX11 : Aside0 (Below W7.heap.size W7 W11) := ⟨by rw [hW11]; exact pw_below_drewN (below_alloc HX10.out _) _⟩
 clear hW11; have hL2 := (HX11.out.cell (World.block_lt_of_cell? _ _ hL1')).trans hL1'; go_wp2_with fail
 clear hL2; refine (r5_SameInts.calls k _ _ [1, 2] _ 2 [1, 2] true _ (Kd.C_alloc (Kd.C_below HLR.out HX11.out) _) HLC.out (C_litI (by decide) (new_at _ rfl)) (by decide) S4.out).mono ?_
 rintro e W12 ⟨rfl, ⟨n12, rfl⟩⟩
 obtain ⟨W12, hW12⟩ : ∃ W : World, W = (W11.alloc (.cells (nums .i64 [1, 2]).toArray 3)).drewN n12 := ⟨_, rfl⟩; rw [← hW12]; have HX12 : Aside0 (Below W7.heap.size W7 W12) := ⟨by rw [hW12]; exact pw_below_drewN (below_alloc HX11.out _) _⟩
 clear hW12; go_wp2
 go_ret
 exact ⟨by simp, HB9.out.trans (HX12.out.mono HB9.out.size)⟩
end Go.Proofs.Ytjjedbcgkljdeaa.D
end
section
namespace Go.Proofs.Ytjjedbcgkljdeaa.D
open Go Go.RowKit Go.Shelf Go.Proofs.YtjjedbcgkljdeaaW.PrintWords Go.Proofs.YtjjedbcgkljdeaaW.PrintLast Go.Proofs.YtjjedbcgkljdeaaW.PrintMore Go.Proofs.Ytjjedbcgkljdeaa Go.Proofs.Ytjjedbcgkljdeaa.A
structure IsRows (w : World) (a : Option Addr) (len cap : Nat) (xs : List (List Int)) : Prop where
 len : len = xs.length
 cap : xs.length ≤ cap
 max : xs.length ≤ maxLen
 reads : Kd.C (Kd.slice 3 (Kd.int .i64)) w a xs.length xs
theorem isRows_nil (w : World) : IsRows w none 0 0 [] := ⟨rfl, Nat.le_refl _, Nat.zero_le _, rfl, Nat.zero_le _, fun h => absurd h (by simp)⟩
theorem isRows_of {w : World} {a : Addr} {len cap : Nat} {A : Nat → Option Addr} {L C : Nat → Nat} {Z : Nat → List Int} (hl : len ≤ cap) (hm : cap ≤ maxLen)
  (h : ∀ r, r < cap → w.cell? (a.add r) = some (.slice (A r) (L r) (C r)) ∧ L r ≤ C r ∧ C r ≤ maxLen ∧ (Z r).length = C r ∧ (∀ n ∈ Z r, (Lit.int .i64 n).wf = true) ∧ (A r = none → C r = 0) ∧
    ∀ a', A r = some a' → (0 : Nat) ≤ a'.block ∧ ∀ c, c < C r → w.cell? (a'.add c) = some (.int .i64 ((Z r).getD c 0))) : IsRows w (some a) len cap ((List.range len).map fun r => (Z r).take (L r)) := by
 have hlen : ((List.range len).map fun r => (Z r).take (L r)).length = len := by simp
 have hM : maxLen ≤ 9223372036854775807 := by unfold maxLen; omega
 refine ⟨hlen.symm, by omega, by omega, C_rows (by omega) fun _ => ⟨a, rfl, fun j hj => ?_⟩⟩
 rw [hlen] at hj; obtain ⟨h1, h2, h3, h4, h5, h6, h7⟩ := h j (by omega)
 have e : ((List.range len).map fun r => (Z r).take (L r))[j]'(by rw [hlen]; exact hj) = (Z j).take (L j) := by simp
 have e2 : ((Z j).take (L j)).length = L j := by rw [List.length_take]; omega
 rw [e]; refine ⟨A j, C j, by rw [e2]; exact h1, by omega, C_ints (by omega) fun hp => ?_⟩
 cases hA : A j with
 | none => have := h6 hA; omega
 | some a' =>
  refine ⟨a', rfl, fun i hi => ?_⟩
  have h8 := (h7 a' hA).2 i (by omega)
  rw [h8, List.getElem_take, List.getD_eq_getElem?_getD, List.getElem?_eq_getElem (by omega)]
  rfl
end Go.Proofs.Ytjjedbcgkljdeaa.D
end
