/- Texts of this claim, cut down to what its theorem uses and laid end to end (wip/shake.py). -/
import Derived.ArgAppend
import Derived.Below
import Derived.BigQuiet
import Derived.ChangeOld
import Derived.ChangeVars
import Derived.Deep.AppendLies
import Derived.Deep.CutBlock
import Derived.Deep.DeepCutAuto
import Derived.Deep.Draws
import Derived.Deep.LoopGhost
import Derived.Deep.MidRow
import Derived.Deep.OwnRows
import Derived.Deep.QuietTactic
import Derived.Deep.RegionHeld3
import Derived.Deep.Slices
import Derived.KernelRfl
import Derived.LaidLaws
import Derived.LaidMore
import Derived.Laws.Bits64b
import Derived.Laws.BitsLemmas
import Derived.Laws.BytesArg
import Derived.Laws.CopyRow
import Derived.Laws.IdiomCopy
import Derived.Laws.MakeOwn
import Derived.Laws.OwnMore
import Derived.Laws.Rows
import Derived.Laws.Slices
import Derived.Laws.StructEq
import Derived.Lay
import Derived.Lib.AppendStr
import Derived.Lib.ConvBytes
import Derived.Lib.LaidTab
import Derived.Maps.AppendAt
import Derived.Maps.OwnOps
import Derived.Maps.OwnSet
import Derived.OpenShut
import Derived.OrdersHeld
import Derived.OwnWalk
import Derived.ProofKit
import Derived.RowKit
import Derived.RowKit3
import Derived.SevenTiedAt
import Derived.Shelf.Strings.Fields
import Derived.ShutString
import Derived.SizedLaws
import Derived.Stop.Joined
import Derived.StringKeys
import Derived.Tactics
import Derived.Test.YtefhpdcafdhcaaaDoorCards
import Derived.Test.YtefhpdcafdhcaaaDoorProg
import Derived.Test.YtefhpdcafdhcaaaDoorRows
import Derived.Test.YtefhpdcafdhcaaaDoorTie
import Derived.WalkKit
import Derived.WideLaws
import Derived.Test.YtefhpdcafdhcaaaDoorKE1
set_option maxHeartbeats 16000000
set_option maxRecDepth 100000
section
namespace Go.Proofs.YtefhpdcafdhcaaaDoor.A
open Go.RowKit Go.Proofs.YtefhpdcafdhcaaaDoorW.PrintWords Go.Proofs.YtefhpdcafdhcaaaDoorW.PrintLast Go.Proofs.YtefhpdcafdhcaaaDoorW.PrintMore
set_option linter.unusedVariables false
set_option linter.unusedSimpArgs false
def r6_twice.l0 : Nat → List (S71) → Int → Int → Option (Bool)
 | 0, _, _, _ => none
 | k + 1, l, p, b => if b < (l.length : Int) then (if 0 ≤ b then (if ((rd_T71 l b).f2) = p then (some true) else (r6_twice.l0 k l p (wrap64 (b + 1)))) else (none)) else (some false)
def r6_twice.f (k : Nat) (l0 : List (S71)) (b : Int) : Option (Bool) := r6_twice.l0 k l0 b 0
theorem r6_twice.calls (k : Nat) (A0 : Option Addr) (c0 : Nat) (l0 : List (S71)) (X : Int) (r : Bool) (w : World) (S : Kd.C k71 w A0 l0.length l0) (T : l0.length ≤ c0) (h : r6_twice.f k l0 X = some r) :
  Calls Tryd.prog 50 #[.slice A0 l0.length c0, .int .i64 X] w fun e w' => e = .returned (.bool r) ∧ Drawn0 w w' := by
 have U := a_ S; have a4 := a_ T; clear S T; have H : (r6_twice.l0 k l0 X 0) = some r := h
 clear h; have H' := a_ H
 clear H; go_enter Tryd.func50, Tryd.ntmps50
 go_wp2
 go_loopg [5] k (fun kq v5 w' => ∃ (p : Int), v5 = .int .i64 p ∧ Aside0 (r6_twice.l0 kq l0 X p = some r) ∧ Aside0 (kq ≤ k) ∧ Drawn0 w w')
 case atStart => exact ⟨(0), q_r, H', ⟨Nat.le_refl _⟩, by repeat (first | exact Drawn0.refl _ | apply Drawn0.step)⟩
 case round => (
 clear H'; obtain ⟨p, rfl, HA, V, ⟨m1, rfl⟩⟩ := hrel; cases gk with
 | zero => exact absurd HA.out (by simp [r6_twice.l0])
 | succ k1 => (
 have H := HA.out; clear HA; simp only [r6_twice.l0] at H
 rcases q_ite H with ⟨c3b0, H⟩ | ⟨c3b0, H⟩
 {
 replace H := q_gD H; obtain ⟨-, c4b0, H⟩ := H; replace H := q_iBN H; rcases H with ⟨-, c5b0, c5b1, H⟩ | ⟨c5, c5b0, c5b1, H⟩
 {
 obtain rfl := Option.some.inj H; have q : 0 ≤ (p : Int) := q_d
 have y : p < (l0.length : Int) := q_d
 obtain ⟨R, N, O, z, B, D, E, F, G, I, J, b, l⟩ := at_T71 U.out p q y; cases z; have L := a_ l; have M := a_ b; clear l b; replace q := eq_true q; replace y := eq_true y; go_wp2
 go_ret
 exact ⟨by first | rfl | (simp; done) | (simp [*]; done), by repeat (first | exact Drawn0.refl _ | apply Drawn0.step)⟩}
 {
 have H' := a_ H
 clear H; have q : 0 ≤ (p : Int) := q_d
 have y : p < (l0.length : Int) := q_d
 obtain ⟨R, N, O, z, B, D, E, F, G, I, J, b, l⟩ := at_T71 U.out p q y; cases z; have L := a_ l; have M := a_ b; clear l b; replace q := eq_true q; replace y := eq_true y; go_wp2
 go_roundg k1
 case measure => have := V.out; omega
 case rel => exact ⟨(wrap64 (p + 1)), q_r, H', ⟨by have := V.out; omega⟩, by repeat (first | exact Drawn0.refl _ | apply Drawn0.step)⟩}}
 {
 obtain rfl := Option.some.inj H; go_wp2
 go_ret
 exact ⟨by first | rfl | (simp; done) | (simp [*]; done), by repeat (first | exact Drawn0.refl _ | apply Drawn0.step)⟩}))
def alloc_defines.f (b : Int) (l : Int) (p : Int) (q : Int) (y : Int) (z : Int) (B : List Int) : Option (Bool) := if b = 7 then (some false) else (if b = 8 then (some false) else (some (b != 9)))
theorem alloc_defines.calls (b : Int) (z : Int) (B : Int) (D : Int) (E : Int) (F : Int) (G : Option Addr) (I : Nat) (l : List Int) (r : Bool) (w : World) (L : Kd.C (Kd.int .i64) w G l.length l) (M : l.length ≤ I) (h : alloc_defines.f b z B D E F l = some r) :
  Calls Tryd.prog 52 #[.agg #[.int .i64 b, .int .i64 z, .int .i64 B, .int .i64 D, .int .i64 E, .int .i32 F, .slice G l.length I]] w fun e w' => e = .returned (.bool r) ∧ Below w.heap.size w w' := by
 have e1 := Tryd.underlying71; have d9 := a_ L; have e0 := a_ M; clear L M; have J := a_ (Below.refl w.heap.size w); have H : (if b = 7 then (some false) else (if b = 8 then (some false) else (some (b != 9)))) = some r := h
 clear h; replace H := q_iBN H; rcases H with ⟨-, c2b0, c2b1, H⟩ | ⟨c2, c2b0, c2b1, H⟩
 {
 obtain rfl := Option.some.inj H; go_enter Tryd.func52, Tryd.ntmps52
 go_wp2_with (first | ((with_reducible refine gd_ 1 rfl ?_); refine q_box 1 71 #[.int .i64 b, .int .i64 z, .int .i64 B, .int .i64 D, .int .i64 E, .int .i32 F, .slice G l.length I] ?_; intro N hg w3 p hb; have q := a_ (p); have O := a_ ((q_ge J.out hg)); have y := a_ ((q_ge J.out hg)); replace J := a_ (q_st J.out hb); clear hb p hg; obtain ⟨R, S, T, U, V, X, a0, a1, a2, a3, a4, a5, a6, a7⟩ := q_cf7 q.out))
 go_ret
 exact ⟨q_e, q_w1 J.out y.out⟩}
 {
 replace H := q_iBN H; rcases H with ⟨-, c5b0, c5b1, H⟩ | ⟨c5, c5b0, c5b1, H⟩
 {
 obtain rfl := Option.some.inj H; go_enter Tryd.func52, Tryd.ntmps52
 go_wp2_with (first | ((with_reducible refine gd_ 1 rfl ?_); refine q_box 1 71 #[.int .i64 b, .int .i64 z, .int .i64 B, .int .i64 D, .int .i64 E, .int .i32 F, .slice G l.length I] ?_; intro N hg w6 p hb; have q := a_ (p); have O := a_ ((q_ge J.out hg)); have y := a_ ((q_ge J.out hg)); replace J := a_ (q_st J.out hb); clear hb p hg; obtain ⟨a8, a9, b0, b1, b2, b3, b4, b5, b6, b7, b8, b9, c0, c1⟩ := q_cf7 q.out))
 go_ret
 exact ⟨q_e, q_w1 J.out y.out⟩}
 {
 obtain rfl := Option.some.inj H; go_enter Tryd.func52, Tryd.ntmps52
 go_wp2_with (first | ((with_reducible refine gd_ 1 rfl ?_); refine q_box 1 71 #[.int .i64 b, .int .i64 z, .int .i64 B, .int .i64 D, .int .i64 E, .int .i32 F, .slice G l.length I] ?_; intro N hg w8 p hb; have q := a_ (p); have O := a_ ((q_ge J.out hg)); have y := a_ ((q_ge J.out hg)); replace J := a_ (q_st J.out hb); clear hb p hg; obtain ⟨c3, c4, c6, c8, c9, d0, d1, d2, d3, d4, d5, d6, d7, d8⟩ := q_cf7 q.out))
 go_ret
 exact ⟨q_e, q_w1 J.out y.out⟩}}
def alloc_uses.j0 : Nat → Int → Bool → Int → Int → Int → Int → Int → Int → List Int → Option (List Int)
 | 0, _, _, _, _, _, _, _, _, _ => none
 | k + 1, C, D, p, q, y, b, l, z, B => if D = true then (some (([b] : List Int))) else (if C = 3 then (some (([b, l] : List Int))) else (if C = 7 then (some (([b, l] : List Int))) else (if C = 8 then (some (([b, l] : List Int))) else (some ([] : List Int)))))
def alloc_uses.f (k : Nat) (b : Int) (l : Int) (p : Int) (q : Int) (y : Int) (z : Int) (B : List Int) : Option (List Int) := if b = 1 then (alloc_uses.j0 k b (b == 1) b l p q y z B) else (if b = 2 then (alloc_uses.j0 k b (b == 2) b l p q y z B) else (if b = 6 then (alloc_uses.j0 k b (b == 6) b l p q y z B) else (alloc_uses.j0 k b (b == 10) b l p q y z B)))
theorem alloc_uses.calls (k : Nat) (l : Int) (B : Int) (D : Int) (b : Int) (q : Int) (E : Int) (V : Option Addr) (X : Nat) (z : List Int) (r : List Int) (w : World) (a1 : Kd.C (Kd.int .i64) w V z.length z) (a2 : z.length ≤ X) (h : alloc_uses.f k l B D b q E z = some r) :
  Calls Tryd.prog 54 #[.agg #[.int .i64 l, .int .i64 B, .int .i64 D, .int .i64 b, .int .i64 q, .int .i32 E, .slice V z.length X]] w fun e w' => ∃ d4 : Value, e = .returned (d4) ∧ Kd.R (Kd.int .i64) 3 w' w.heap.size (fun _ => True) d4 r ∧ Below w.heap.size w w' := by
 have l7 := Tryd.underlying71; have l4 := a_ a1; have l5 := a_ a2; clear a1 a2; have F := a_ (Below.refl w.heap.size w); have H : (if l = 1 then (alloc_uses.j0 k l (l == 1) l B D b q E z) else (if l = 2 then (alloc_uses.j0 k l (l == 2) l B D b q E z) else (if l = 6 then (alloc_uses.j0 k l (l == 6) l B D b q E z) else (alloc_uses.j0 k l (l == 10) l B D b q E z)))) = some r := h
 clear h; have c3 := a_ H; clear H; go_enter Tryd.func54, Tryd.ntmps54
 go_upto_if 5 with (first | ((with_reducible refine gd_ 1 rfl ?_); refine q_box 1 71 #[.int .i64 l, .int .i64 B, .int .i64 D, .int .i64 b, .int .i64 q, .int .i32 E, .slice V z.length X] ?_; intro c4 hg w3 c1 hb; have p := a_ (c1); have l6 := a_ ((q_ge F.out hg)); have y := a_ ((q_ge F.out hg)); replace F := a_ (q_st F.out hb); clear hb c1 hg; obtain ⟨a7, a8, a9, b0, b1, b2, b3, b4, b5, b6, b7, b8, b9, c0⟩ := q_cf7 p.out))
 (try simp only [Act.put, List.setIfInBounds_toArray, List.set_cons_zero, List.set_cons_succ])
 go_cut [5] (fun v5 wc => ∃ (kq : Nat) (a0 : Bool), v5 = .bool a0 ∧ Aside0 (alloc_uses.j0 kq l a0 l B D b q E z = some r) ∧ Aside0 (kq ≤ k) ∧ Aside0 (wc.heap[c4]? = some (.cells #[.int .i64 l, .int .i64 B, .int .i64 D, .int .i64 b, .int .i64 q, .int .i32 E, (.slice V z.length X)] 71 (0, 0))) ∧ Aside0 (Below w.heap.size w wc))
 case first => (
 have H := c3.out; clear c3; replace H := q_iBN H; rcases H with ⟨-, c5b0, c5b1, H⟩ | ⟨c5, c5b0, c5b1, H⟩
 {
 (first | rw [c5b0] | (simp only [i64_w, i32_w]; rw [c5b0]) | skip)
 have H' := a_ H
 clear H; go_wp2
 go_meet
 case rel => exact ⟨_, ((l == 1)), q_r, H', ⟨by first | omega | exact Nat.le_refl _⟩, ⟨q_k p.out⟩, ⟨q_w1 F.out y.out⟩⟩}
 {
 (first | rw [c5b0] | (simp only [i64_w, i32_w]; rw [c5b0]) | skip)
 replace H := q_iBN H; rcases H with ⟨-, c6b0, c6b1, H⟩ | ⟨c6, c6b0, c6b1, H⟩
 {
 have H' := a_ H
 clear H; go_wp2
 go_meet
 case rel => exact ⟨_, ((l == 2)), q_r, H', ⟨by first | omega | exact Nat.le_refl _⟩, ⟨q_k p.out⟩, ⟨q_w1 F.out y.out⟩⟩}
 {
 replace H := q_iBN H; rcases H with ⟨-, c7b0, c7b1, H⟩ | ⟨c7, c7b0, c7b1, H⟩
 {
 have H' := a_ H
 clear H; go_wp2
 go_meet
 case rel => exact ⟨_, ((l == 6)), q_r, H', ⟨by first | omega | exact Nat.le_refl _⟩, ⟨q_k p.out⟩, ⟨q_w1 F.out y.out⟩⟩}
 {
 have H' := a_ H
 clear H; go_wp2
 go_meet
 case rel => exact ⟨_, ((l == 10)), q_r, H', ⟨by first | omega | exact Nat.le_refl _⟩, ⟨q_k p.out⟩, ⟨q_w1 F.out y.out⟩⟩}}})
 case rest => (
 clear c3 a7 a8 a9 b0 b1 b2 b3 b4 b5 b6 b7 b8 b9 c0; obtain ⟨kq, a0, rfl, HA, n3, p, F⟩ := hcut; cases kq with
 | zero => exact absurd HA.out (by simp [alloc_uses.j0])
 | succ n4 => (
 have H := HA.out; clear HA; simp only [alloc_uses.j0] at H
 by_cases c8 : a0 = true
 {
 subst c8; rw [if_pos rfl] at H; obtain ⟨d5, O⟩ : ∃ y_ : List Int, y_ = (([b] : List Int)) := ⟨_, rfl⟩; replace H : (some d5) = some r := q_rw O H
 have a3 := a_ O; clear O; obtain rfl := Option.some.inj H; obtain ⟨j6, j7, j8, j9, k0, k1, k2, k3, k4, k5, k6, k7, k8, k9⟩ := q_cf7 p.out; go_wp2_with (first | ((with_reducible refine gd_ 12 rfl ?_); refine Kd.R_lit (Kd.int .i64) _ 3 ?hg (N := 12) ?hd (xs := ([b] : List Int)) (inner := [.int .i64 b]) (ok := fun _ => True) (okp := fun _ => True) ?hr ?hp (fun _ hk => hk) trivial (Below.refl _ _) (Nat.le_refl _) (by simp) ?_; (case hd => rfl); (case hg => rfl); (case hr => first | (go_simp; done) | (go_simp; rfl)); (case hp => exact (Reps.one (show Kd.M (Kd.int .i64) _ _ _ b [.int .i64 b] from rfl) (Reps.none _ _))); intro l8 n5 G hb hg_ hnew_; clear hg_ hnew_; (first | rw [← a3.out] at G | (simp only [Int.reduceToNat] at G; rw [← a3.out] at G)); have d0 := a_ (Kd.R_lower G (below_size (q_w1 F.out y.out))); replace p := a_ (q_bk p.out hb); replace F := a_ (q_st1 F.out hb y.out); clear hb G))
 go_ret
 exact ⟨_, q_e, by (with_reducible repeat (first | apply Kd.R_alloc | apply Kd.R_drewN | apply Kd.R_drew)); exact d0.out, q_w1 F.out y.out⟩}
 {
 replace c8 := Bool.eq_false_iff.mpr c8; subst c8; rw [if_neg Bool.false_ne_true] at H; replace H := q_iBN H; rcases H with ⟨-, c12b0, c12b1, H⟩ | ⟨n6, c12b0, c12b1, H⟩
 {
 obtain ⟨d6, S⟩ : ∃ y_ : List Int, y_ = (([b, q] : List Int)) := ⟨_, rfl⟩; replace H : (some d6) = some r := q_rw S H
 have a4 := a_ S; clear S; obtain rfl := Option.some.inj H; obtain ⟨d7, d8, d9, e0, e1, e2, e3, e4, e5, e6, e7, e8, e9, f0⟩ := q_cf7 p.out; go_wp2_with (first | ((with_reducible refine gd_ 21 rfl ?_); refine Kd.R_lit (Kd.int .i64) _ 3 ?hg (N := 21) ?hd (xs := ([b, q] : List Int)) (inner := [.int .i64 b, .int .i64 q]) (ok := fun _ => True) (okp := fun _ => True) ?hr ?hp (fun _ hk => hk) trivial (Below.refl _ _) (Nat.le_refl _) (by simp) ?_; (case hd => rfl); (case hg => rfl); (case hr => first | (go_simp; done) | (go_simp; rfl)); (case hp => exact (Reps.one (show Kd.M (Kd.int .i64) _ _ _ b [.int .i64 b] from rfl) (Reps.one (show Kd.M (Kd.int .i64) _ _ _ q [.int .i64 q] from rfl) (Reps.none _ _)))); intro l9 n7 I hb hg_ hnew_; clear hg_ hnew_; (first | rw [← a4.out] at I | (simp only [Int.reduceToNat] at I; rw [← a4.out] at I)); have d1 := a_ (Kd.R_lower I (below_size (q_w1 F.out y.out))); replace p := a_ (q_bk p.out hb); replace F := a_ (q_st1 F.out hb y.out); clear hb I))
 go_ret
 exact ⟨_, q_e, by (with_reducible repeat (first | apply Kd.R_alloc | apply Kd.R_drewN | apply Kd.R_drew)); exact d1.out, q_w1 F.out y.out⟩}
 {
 replace H := q_iBN H; rcases H with ⟨-, c16b0, c16b1, H⟩ | ⟨n8, c16b0, c16b1, H⟩
 {
 obtain ⟨f1, T⟩ : ∃ y_ : List Int, y_ = (([b, q] : List Int)) := ⟨_, rfl⟩; replace H : (some f1) = some r := q_rw T H
 have a5 := a_ T; clear T; obtain rfl := Option.some.inj H; obtain ⟨f2, f3, f4, f5, f6, f7, f8, f9, g0, g1, g2, g3, g4, g5⟩ := q_cf7 p.out; go_wp2_with (first | ((with_reducible refine gd_ 21 rfl ?_); refine Kd.R_lit (Kd.int .i64) _ 3 ?hg (N := 21) ?hd (xs := ([b, q] : List Int)) (inner := [.int .i64 b, .int .i64 q]) (ok := fun _ => True) (okp := fun _ => True) ?hr ?hp (fun _ hk => hk) trivial (Below.refl _ _) (Nat.le_refl _) (by simp) ?_; (case hd => rfl); (case hg => rfl); (case hr => first | (go_simp; done) | (go_simp; rfl)); (case hp => exact (Reps.one (show Kd.M (Kd.int .i64) _ _ _ b [.int .i64 b] from rfl) (Reps.one (show Kd.M (Kd.int .i64) _ _ _ q [.int .i64 q] from rfl) (Reps.none _ _)))); intro n0 n9 J hb hg_ hnew_; clear hg_ hnew_; (first | rw [← a5.out] at J | (simp only [Int.reduceToNat] at J; rw [← a5.out] at J)); have d2 := a_ (Kd.R_lower J (below_size (q_w1 F.out y.out))); replace p := a_ (q_bk p.out hb); replace F := a_ (q_st1 F.out hb y.out); clear hb J))
 go_ret
 exact ⟨_, q_e, by (with_reducible repeat (first | apply Kd.R_alloc | apply Kd.R_drewN | apply Kd.R_drew)); exact d2.out, q_w1 F.out y.out⟩}
 {
 replace H := q_iBN H; rcases H with ⟨-, c20b0, c20b1, H⟩ | ⟨o0, c20b0, c20b1, H⟩
 {
 obtain ⟨g6, U⟩ : ∃ y_ : List Int, y_ = (([b, q] : List Int)) := ⟨_, rfl⟩; replace H : (some g6) = some r := q_rw U H
 have a6 := a_ U; clear U; obtain rfl := Option.some.inj H; obtain ⟨g7, g8, g9, i0, i1, i2, i3, i4, i5, i6, i7, i8, i9, j3⟩ := q_cf7 p.out; go_wp2_with (first | ((with_reducible refine gd_ 21 rfl ?_); refine Kd.R_lit (Kd.int .i64) _ 3 ?hg (N := 21) ?hd (xs := ([b, q] : List Int)) (inner := [.int .i64 b, .int .i64 q]) (ok := fun _ => True) (okp := fun _ => True) ?hr ?hp (fun _ hk => hk) trivial (Below.refl _ _) (Nat.le_refl _) (by simp) ?_; (case hd => rfl); (case hg => rfl); (case hr => first | (go_simp; done) | (go_simp; rfl)); (case hp => exact (Reps.one (show Kd.M (Kd.int .i64) _ _ _ b [.int .i64 b] from rfl) (Reps.one (show Kd.M (Kd.int .i64) _ _ _ q [.int .i64 q] from rfl) (Reps.none _ _)))); intro n1 o1 L hb hg_ hnew_; clear hg_ hnew_; (first | rw [← a6.out] at L | (simp only [Int.reduceToNat] at L; rw [← a6.out] at L)); have d3 := a_ (Kd.R_lower L (below_size (q_w1 F.out y.out))); replace p := a_ (q_bk p.out hb); replace F := a_ (q_st1 F.out hb y.out); clear hb L))
 go_ret
 exact ⟨_, q_e, by (with_reducible repeat (first | apply Kd.R_alloc | apply Kd.R_drewN | apply Kd.R_drew)); exact d3.out, q_w1 F.out y.out⟩}
 {
 obtain rfl := Option.some.inj H; go_wp2
 go_ret
 exact ⟨_, q_e, by first | exact Kd.R_nil _ _ _ _ _ | exact Kd.N_nil _ _ _ _ _ | exact Kd.V_nil _ _ _ _ _ | exact Kd.Q_nil _ _ _ _ _ | exact Kd.S_nil _ _ _ _ _, q_w1 F.out y.out⟩}}}}))
def flow_register.f (p : ByteArray) (q : List (S83)) (y : List (S85)) (b : Int) (z : List (S69)) (B : Bool) (l : Int) : Option (Bool) := if B = true then (if l ≥ 0 then (some (decide (l < b))) else (some false)) else (some (l == 0))
theorem flow_register.calls (B : ByteArray) (D : Option Addr) (E : Nat) (b : List (S83)) (F : Option Addr) (G : Nat) (l : List (S85)) (z : Int) (I : Option Addr) (J : Nat) (p : List (S69)) (a1 : Bool) (a2 : Int) (r : Bool) (w : World) (N : Kd.C k83 w D b.length b) (O : b.length ≤ E) (R : Kd.C k85 w F l.length l) (S : l.length ≤ G) (T : Kd.C k69 w I p.length p) (U : p.length ≤ J) (h : flow_register.f B b l z p a1 a2 = some r) :
  Calls Tryd.prog 73 #[.agg #[.string B, .slice D b.length E, .slice F l.length G, .int .i64 z, .slice I p.length J], .bool a1, .int .i64 a2] w fun e w' => e = .returned (.bool r) ∧ Below w.heap.size w w' := by
 have c1 := Tryd.underlying26; have b5 := a_ N; have b6 := a_ O; clear N O; have b7 := a_ R; have b8 := a_ S; clear R S; have b9 := a_ T; have c0 := a_ U; clear T U; have L := a_ (Below.refl w.heap.size w); have H : (if a1 = true then (if a2 ≥ 0 then (some (decide (a2 < z))) else (some false)) else (some (a2 == 0))) = some r := h
 clear h; by_cases c4 : a1 = true
 {
 subst c4; rw [if_pos rfl] at H; rcases q_ite H with ⟨c5b0, H⟩ | ⟨c5b0, H⟩
 {
 obtain rfl := Option.some.inj H; go_enter Tryd.func73, Tryd.ntmps73
 go_wp2_with (first | ((with_reducible refine gd_ 3 rfl ?_); refine q_box 3 26 #[.string B, .slice D b.length E, .slice F l.length G, .int .i64 z, .slice I p.length J] ?_; intro V hg w6 q hb; have M := a_ (q); have X := a_ ((q_ge L.out hg)); have y := a_ ((q_ge L.out hg)); replace L := a_ (q_st L.out hb); clear hb q hg; obtain ⟨a5, a6, a7, a8, a9, b0, b1, b2, b3, b4⟩ := q_cf5 M.out))
 go_ret
 exact ⟨q_e, q_w1 L.out y.out⟩}
 {
 obtain rfl := Option.some.inj H; go_enter Tryd.func73, Tryd.ntmps73
 go_wp2_with (first | ((with_reducible refine gd_ 3 rfl ?_); refine q_box 3 26 #[.string B, .slice D b.length E, .slice F l.length G, .int .i64 z, .slice I p.length J] ?_; intro V hg w8 q hb; have M := a_ (q); have X := a_ ((q_ge L.out hg)); have y := a_ ((q_ge L.out hg)); replace L := a_ (q_st L.out hb); clear hb q hg))
 go_ret
 exact ⟨q_e, q_w1 L.out y.out⟩}}
 {
 replace c4 := Bool.eq_false_iff.mpr c4; subst c4; rw [if_neg Bool.false_ne_true] at H; obtain rfl := Option.some.inj H; go_enter Tryd.func73, Tryd.ntmps73
 go_wp2_with (first | ((with_reducible refine gd_ 3 rfl ?_); refine q_box 3 26 #[.string B, .slice D b.length E, .slice F l.length G, .int .i64 z, .slice I p.length J] ?_; intro V hg w9 q hb; have M := a_ (q); have X := a_ ((q_ge L.out hg)); have y := a_ ((q_ge L.out hg)); replace L := a_ (q_st L.out hb); clear hb q hg))
 go_ret
 exact ⟨q_e, q_w1 L.out y.out⟩}
mutual
def flow_ends.l0 : Nat → List (S69) → Int → Int → ByteArray → List (S83) → List (S85) → Int → List (S69) → Option (Bool)
 | 0, _, _, _, _, _, _, _, _ => none
 | k + 1, G, I, F, l, p, q, y, b => if F < I then (if 0 ≤ F then (if F < (G.length : Int) then (if ((rd_T69 G F).f1) < 0 then (flow_ends.j1 k G I F true l p q y b ((rd_T69 G F).f0) ((rd_T69 G F).f1) ((rd_T69 G F).f2) ((rd_T69 G F).f3) ((rd_T69 G F).f4)) else (flow_ends.j1 k G I F (decide (((rd_T69 G F).f1) > 2)) l p q y b ((rd_T69 G F).f0) ((rd_T69 G F).f1) ((rd_T69 G F).f2) ((rd_T69 G F).f3) ((rd_T69 G F).f4))) else (none)) else (none)) else (if 0 ≤ (b.length : Int) then (if ((b.length : Int) : Int).toNat ≤ 281474976710656 then ((some (List.replicate ((b.length : Int) : Int).toNat false : List Bool)).bind fun T => (if 0 < (T.length : Int) then (flow_ends.l2 k (T.set (0 : Int).toNat true) (([0] : List Int)) 0 l p q y b) else (none))) else (none)) else (none))
def flow_ends.j1 : Nat → List (S69) → Int → Int → Bool → ByteArray → List (S83) → List (S85) → Int → List (S69) → List (S71) → Int → Int → Int → Int → Option (Bool)
 | 0, _, _, _, _, _, _, _, _, _, _, _, _, _, _ => none
 | k + 1, G, I, F, a3, l, p, q, y, b, E, z, B, C, D => if a3 = true then (some false) else (if z = 1 then (if z = 2 then (if C = 0 then ((flow_register.f l p q y b true B).bind fun a0 => (flow_ends.j2 k G I F (!a0) l p q y b E z B C D)) else (flow_ends.j2 k G I F true l p q y b E z B C D)) else ((flow_register.f l p q y b true B).bind fun a1 => (flow_ends.j2 k G I F (!a1) l p q y b E z B C D))) else (if B = 0 then (if D = 0 then (if z = 2 then (if C = 0 then (flow_ends.j2 k G I F false l p q y b E z B C D) else (flow_ends.j2 k G I F true l p q y b E z B C D)) else (flow_ends.j2 k G I F false l p q y b E z B C D)) else (flow_ends.j2 k G I F true l p q y b E z B C D)) else (flow_ends.j2 k G I F true l p q y b E z B C D)))
def flow_ends.j2 : Nat → List (S69) → Int → Int → Bool → ByteArray → List (S83) → List (S85) → Int → List (S69) → List (S71) → Int → Int → Int → Int → Option (Bool)
 | 0, _, _, _, _, _, _, _, _, _, _, _, _, _, _ => none
 | k + 1, G, I, F, a4, l, p, q, y, b, E, z, B, C, D => if a4 = true then (some false) else ((flow_next.f E z B C D).bind fun U => (flow_ends.l1 k G I F U (U.length : Int) 0 l p q y b))
def flow_ends.l1 : Nat → List (S69) → Int → Int → List Int → Int → Int → ByteArray → List (S83) → List (S85) → Int → List (S69) → Option (Bool)
 | 0, _, _, _, _, _, _, _, _, _, _, _ => none
 | k + 1, G, I, F, S, a2, O, l, p, q, y, b => if O < a2 then (if 0 ≤ O then (if O < (S.length : Int) then (if (rd S O) < 1 then (some false) else (if (rd S O) ≥ (b.length : Int) then (some false) else (flow_ends.l1 k G I F S a2 (wrap64 (O + 1)) l p q y b))) else (none)) else (none)) else (flow_ends.l0 k G I (wrap64 (F + 1)) l p q y b)
def flow_ends.l2 : Nat → List Bool → List Int → Int → ByteArray → List (S83) → List (S85) → Int → List (S69) → Option (Bool)
 | 0, _, _, _, _, _, _, _, _ => none
 | k + 1, X, M, N, l, p, q, y, b => if N < (M.length : Int) then (if 0 ≤ N then (if 0 ≤ (rd M N) then (if (rd M N) < (b.length : Int) then ((flow_next.f ((rd_T69 b (rd M N)).f0) ((rd_T69 b (rd M N)).f1) ((rd_T69 b (rd M N)).f2) ((rd_T69 b (rd M N)).f3) ((rd_T69 b (rd M N)).f4)).bind fun V => (flow_ends.l3 k X M N V (V.length : Int) 0 l p q y b)) else (none)) else (none)) else (none)) else (some ((M.length : Int) == (b.length : Int)))
def flow_ends.l3 : Nat → List Bool → List Int → Int → List Int → Int → Int → ByteArray → List (S83) → List (S85) → Int → List (S69) → Option (Bool)
 | 0, _, _, _, _, _, _, _, _, _, _, _ => none
 | k + 1, X, M, N, L, R, J, l, p, q, y, b => if J < R then (if 0 ≤ J then (if J < (L.length : Int) then (if 0 ≤ (rd L J) then (if (rd L J) < (X.length : Int) then (if (rdOf false X (rd L J) = true) then (flow_ends.l3 k X M N L R (wrap64 (J + 1)) l p q y b) else (if M.length < 17592186044416 then (flow_ends.l3 k (X.set ((rd L J) : Int).toNat true) (M ++ [rd L J]) N L R (wrap64 (J + 1)) l p q y b) else (none))) else (none)) else (none)) else (none)) else (none)) else (flow_ends.l2 k X M (wrap64 (N + 1)) l p q y b)
end
def flow_ends.f (k : Nat) (l : ByteArray) (p : List (S83)) (q : List (S85)) (y : Int) (b : List (S69)) : Option (Bool) := flow_ends.l0 k b (b.length : Int) 0 l p q y b
def flow_ends.T21 : Bool × List (List Nat × List Nat) := (true, [([], []), ([0], [0]), ([], []), ([], []), ([2, 3], [2, 3]), ([4], [4]), ([1, 5], [1, 5]), ([6], [6]), ([7], [7]), ([8], [8]), ([], [])])
def flow_ends.B21 : List Nat := [0, 1, 0, 0, 12, 28, 63, 127, 255, 511, 0]
theorem flow_ends.tab21 : rtab .any (opsOf Tryd.f60 21) = flow_ends.T21 := by kernel_rfl
theorem flow_ends.bits21 : waitsOk flow_ends.T21.2 flow_ends.B21 = true := by kernel_rfl
theorem flow_ends.calls (k : Nat) (V : ByteArray) (a8 : Option Addr) (a9 : Nat) (L : List (S83)) (b0 : Option Addr) (b1 : Nat) (O : List (S85)) (X : Int) (e0 : Option Addr) (b2 : Nat) (l : List (S69)) (r : Bool) (w : World) (k6 : Kd.C k83 w a8 L.length L) (k7 : L.length ≤ a9) (k8 : Kd.C k85 w b0 O.length O) (k9 : O.length ≤ b1) (l4 : Kd.C k69 w e0 l.length l) (l5 : l.length ≤ b2) (h : flow_ends.f k V L O X l = some r) :
  Calls Tryd.prog 60 #[.agg #[.string V, .slice a8 L.length a9, .slice b0 O.length b1, .int .i64 X, .slice e0 l.length b2]] w fun e w' => e = .returned (.bool r) ∧ Below w.heap.size w w' := by
 have V9 := Tryd.underlying26; have W0 := Tryd.underlying69; have l6 := a_ k6; have l7 := a_ k7; clear k6 k7; have l8 := a_ k8; have l9 := a_ k9; clear k8 k9; have e2 := a_ l4; have n0 := a_ l5; clear l4 l5; have U := a_ (Below.refl w.heap.size w); have H : (flow_ends.l0 k l (l.length : Int) 0 V L O X l) = some r := h
 clear h; have H' := a_ H
 clear H; go_enter Tryd.func60, Tryd.ntmps60
 go_wp2_with (first | ((with_reducible refine gd_ 1 rfl ?_); (try (refine gate_guard (by rfl) ?_; dsimp only)); refine q_box 1 26 #[.string V, .slice a8 L.length a9, .slice b0 O.length b1, .int .i64 X, .slice e0 l.length b2] ?_; intro a7 hg w2 e5 hb; have q := a_ (e5); have R2 := a_ ((q_ge U.out hg)); have D := a_ ((q_ge U.out hg)); replace U := a_ (q_st U.out hb); clear hb e5 hg; obtain ⟨s9, t0, t1, t2, t3, t4, t5, t6, t7, t8⟩ := q_cf5 q.out))
 go_loopg [15] k (fun kq R3 w' => ∃ (y : Int), R3 = .int .i64 y ∧ Aside0 (flow_ends.l0 kq l (l.length : Int) y V L O X l = some r) ∧ Aside0 (kq ≤ k) ∧ Aside0 (w'.heap[a7]? = some (.cells #[.string V, (.slice a8 L.length a9), (.slice b0 O.length b1), .int .i64 X, (.slice e0 l.length b2)] 26 (0, 0))) ∧ Aside0 (Below w.heap.size w w'))
 case atStart => exact ⟨(0), q_r, H', ⟨Nat.le_refl _⟩, ⟨q_k q.out⟩, ⟨q_w1 U.out D.out⟩⟩
 case round => (
 clear H'; clear s9 t0 t1 t2 t3 t4 t5 t6 t7 t8; obtain ⟨y, rfl, HA, b4, q, U⟩ := hrel; cases gk with
 | zero => exact absurd HA.out (by simp [flow_ends.l0])
 | succ k1 => (
 have H := HA.out; clear HA; simp only [flow_ends.l0] at H
 rcases q_ite H with ⟨c4b0, H⟩ | ⟨c4b0, H⟩
 {
 replace H := q_gD H; obtain ⟨-, c5b0, H⟩ := H; replace H := q_gD H; obtain ⟨-, c6b0, H⟩ := H; have x7 := a_ H; clear H; obtain ⟨g6, a2, a3, z4, n1, n2, n3, n4, n5, e6, e7, z5, z6⟩ := b_T69 e2.out U.out y; cases z4; have n6 := a_ e7; have n7 := a_ e6; clear e7 e6; go_upto_region 4 with (first | ((with_reducible refine gd_ 4 rfl ?_); (try (refine gate_guard (by rfl) ?_; dsimp only)); refine q_box 4 69 #[.slice none 0 0, .int .i64 0, .int .i64 0, .int .i64 0, .int .i64 0] ?_; intro g7 hg w8 e5 hb; have E := a_ (e5); have R4 := a_ ((q_ge1 U.out hg D.out)); have a0 := a_ ((q_ge1 U.out hg D.out)); have z := a_ ((q_ne q.out hg)); have F := a_ ((q_en q.out hg)); replace q := a_ (q_bk q.out hb); replace U := a_ (q_st1 U.out hb D.out); clear hb e5 hg; have W1 := F.out; have W2 := z.out; obtain ⟨n8, n9, o0, o1, o2, o3, o4, o5, o6, o7⟩ := q_cf5 E.out))
 (try simp only [Act.put, List.setIfInBounds_toArray, List.set_cons_zero, List.set_cons_succ])
 go_cut [26] (fun R5 wc => ∃ (kq : Nat) (e3 : Bool), R5 = .bool e3 ∧ Aside0 (flow_ends.j1 kq l (l.length : Int) y e3 V L O X l ((rd_T69 l y).f0) ((rd_T69 l y).f1) ((rd_T69 l y).f2) ((rd_T69 l y).f3) ((rd_T69 l y).f4) = some r) ∧ Aside0 (kq ≤ k1) ∧ Aside0 (wc.heap[a7]? = some (.cells #[.string V, (.slice a8 L.length a9), (.slice b0 O.length b1), .int .i64 X, (.slice (some g6) l.length b2)] 26 (0, 0))) ∧ Aside0 (wc.heap[g7]? = some (.cells #[(.slice a2 ((rd_T69 l y).f0).length a3), .int .i64 ((rd_T69 l y).f1), .int .i64 ((rd_T69 l y).f2), .int .i64 ((rd_T69 l y).f3), .int .i64 ((rd_T69 l y).f4)] 69 (0, 0))) ∧ Aside0 (Below w.heap.size w wc))
 case first => (
 have H := x7.out; clear x7; rcases q_ite H with ⟨c11b0, H⟩ | ⟨c11b0, H⟩
 {
 (first | rw [c11b0] | (simp only [i64_w, i32_w]; rw [c11b0]) | skip)
 have H' := a_ H
 clear H; have R6 := F.out; have R7 := z.out; obtain ⟨z7, z8, z9, A0, A1, A2, A3, A4, A5, A6⟩ := q_cf5 E.out; go_wp2
 go_meet
 case rel => exact ⟨_, (true), q_r, H', ⟨q_n b4.out⟩, ⟨by (with_reducible repeat (first | refine blk_drewN ?_ _ | refine blk_drew ?_ | refine blk_alloc ?_ _)); refine blk_far ?_ z.out _; (with_reducible repeat (first | refine blk_drewN ?_ _ | refine blk_drew ?_ | refine blk_alloc ?_ _)); refine blk_far ?_ z.out _; (with_reducible repeat (first | refine blk_drewN ?_ _ | refine blk_drew ?_ | refine blk_alloc ?_ _)); refine blk_far ?_ z.out _; (with_reducible repeat (first | refine blk_drewN ?_ _ | refine blk_drew ?_ | refine blk_alloc ?_ _)); refine blk_far ?_ z.out _; (with_reducible repeat (first | refine blk_drewN ?_ _ | refine blk_drew ?_ | refine blk_alloc ?_ _)); refine blk_far ?_ z.out _; (with_reducible repeat (first | refine blk_drewN ?_ _ | refine blk_drew ?_ | refine blk_alloc ?_ _)); exact q.out⟩, ⟨by (with_reducible repeat (first | refine blk_drewN ?_ _ | refine blk_drew ?_ | refine blk_alloc ?_ _)); refine blk_put (cs := #[.slice a2 ((rd_T69 l y).f0).length a3, .int .i64 ((rd_T69 l y).f1), .int .i64 ((rd_T69 l y).f2), .int .i64 ((rd_T69 l y).f3), .int .i64 0]) ?_ 4 _ rfl; (with_reducible repeat (first | refine blk_drewN ?_ _ | refine blk_drew ?_ | refine blk_alloc ?_ _)); refine blk_put (cs := #[.slice a2 ((rd_T69 l y).f0).length a3, .int .i64 ((rd_T69 l y).f1), .int .i64 ((rd_T69 l y).f2), .int .i64 0, .int .i64 0]) ?_ 3 _ rfl; (with_reducible repeat (first | refine blk_drewN ?_ _ | refine blk_drew ?_ | refine blk_alloc ?_ _)); refine blk_put (cs := #[.slice a2 ((rd_T69 l y).f0).length a3, .int .i64 ((rd_T69 l y).f1), .int .i64 0, .int .i64 0, .int .i64 0]) ?_ 2 _ rfl; (with_reducible repeat (first | refine blk_drewN ?_ _ | refine blk_drew ?_ | refine blk_alloc ?_ _)); refine blk_put (cs := #[.slice a2 ((rd_T69 l y).f0).length a3, .int .i64 0, .int .i64 0, .int .i64 0, .int .i64 0]) ?_ 1 _ rfl; (with_reducible repeat (first | refine blk_drewN ?_ _ | refine blk_drew ?_ | refine blk_alloc ?_ _)); refine blk_put (cs := #[.slice none 0 0, .int .i64 0, .int .i64 0, .int .i64 0, .int .i64 0]) ?_ 0 _ rfl; (with_reducible repeat (first | refine blk_drewN ?_ _ | refine blk_drew ?_ | refine blk_alloc ?_ _)); exact E.out⟩, ⟨q_w2 U.out D.out a0.out⟩⟩}
 {
 (first | rw [c11b0] | (simp only [i64_w, i32_w]; rw [c11b0]) | skip)
 have H' := a_ H
 clear H; have R8 := F.out; have R9 := z.out; obtain ⟨A7, A8, A9, B1, B2, B3, B6, B7, C0, C1⟩ := q_cf5 E.out; go_wp2
 go_meet
 case rel => exact ⟨_, (decide (((rd_T69 l y).f1) > 2)), q_r, H', ⟨q_n b4.out⟩, ⟨by (with_reducible repeat (first | refine blk_drewN ?_ _ | refine blk_drew ?_ | refine blk_alloc ?_ _)); refine blk_far ?_ z.out _; (with_reducible repeat (first | refine blk_drewN ?_ _ | refine blk_drew ?_ | refine blk_alloc ?_ _)); refine blk_far ?_ z.out _; (with_reducible repeat (first | refine blk_drewN ?_ _ | refine blk_drew ?_ | refine blk_alloc ?_ _)); refine blk_far ?_ z.out _; (with_reducible repeat (first | refine blk_drewN ?_ _ | refine blk_drew ?_ | refine blk_alloc ?_ _)); refine blk_far ?_ z.out _; (with_reducible repeat (first | refine blk_drewN ?_ _ | refine blk_drew ?_ | refine blk_alloc ?_ _)); refine blk_far ?_ z.out _; (with_reducible repeat (first | refine blk_drewN ?_ _ | refine blk_drew ?_ | refine blk_alloc ?_ _)); exact q.out⟩, ⟨by (with_reducible repeat (first | refine blk_drewN ?_ _ | refine blk_drew ?_ | refine blk_alloc ?_ _)); refine blk_put (cs := #[.slice a2 ((rd_T69 l y).f0).length a3, .int .i64 ((rd_T69 l y).f1), .int .i64 ((rd_T69 l y).f2), .int .i64 ((rd_T69 l y).f3), .int .i64 0]) ?_ 4 _ rfl; (with_reducible repeat (first | refine blk_drewN ?_ _ | refine blk_drew ?_ | refine blk_alloc ?_ _)); refine blk_put (cs := #[.slice a2 ((rd_T69 l y).f0).length a3, .int .i64 ((rd_T69 l y).f1), .int .i64 ((rd_T69 l y).f2), .int .i64 0, .int .i64 0]) ?_ 3 _ rfl; (with_reducible repeat (first | refine blk_drewN ?_ _ | refine blk_drew ?_ | refine blk_alloc ?_ _)); refine blk_put (cs := #[.slice a2 ((rd_T69 l y).f0).length a3, .int .i64 ((rd_T69 l y).f1), .int .i64 0, .int .i64 0, .int .i64 0]) ?_ 2 _ rfl; (with_reducible repeat (first | refine blk_drewN ?_ _ | refine blk_drew ?_ | refine blk_alloc ?_ _)); refine blk_put (cs := #[.slice a2 ((rd_T69 l y).f0).length a3, .int .i64 0, .int .i64 0, .int .i64 0, .int .i64 0]) ?_ 1 _ rfl; (with_reducible repeat (first | refine blk_drewN ?_ _ | refine blk_drew ?_ | refine blk_alloc ?_ _)); refine blk_put (cs := #[.slice none 0 0, .int .i64 0, .int .i64 0, .int .i64 0, .int .i64 0]) ?_ 0 _ rfl; (with_reducible repeat (first | refine blk_drewN ?_ _ | refine blk_drew ?_ | refine blk_alloc ?_ _)); exact E.out⟩, ⟨q_w2 U.out D.out a0.out⟩⟩})
 case rest => (
 clear x7 c4b0 c5b0 c6b0 n8 n9 o0 o1 o2 o3 o4 o5 o6 o7 n1 n2 n3 n4 n5 z5 z6; obtain ⟨kq, e3, rfl, HA, d1, q, E, U⟩ := hcut; cases kq with
 | zero => exact absurd HA.out (by simp [flow_ends.j1])
 | succ S0 => (
 have H := HA.out; clear HA; simp only [flow_ends.j1] at H
 by_cases t9 : e3 = true
 {
 subst t9; rw [if_pos rfl] at H; obtain rfl := Option.some.inj H; go_wp2
 go_ret
 exact ⟨q_e, q_w2 U.out D.out a0.out⟩}
 {
 replace t9 := Bool.eq_false_iff.mpr t9; subst t9; rw [if_neg Bool.false_ne_true] at H; have o8 := a_ H; clear H; go_upto_region 6 with (fail)
 go_cut [61] (fun S1 wc => ∃ (kq : Nat) (d3 : Bool), S1 = .bool d3 ∧ Aside0 (flow_ends.j2 kq l (l.length : Int) y d3 V L O X l ((rd_T69 l y).f0) ((rd_T69 l y).f1) ((rd_T69 l y).f2) ((rd_T69 l y).f3) ((rd_T69 l y).f4) = some r) ∧ Aside0 (kq ≤ S0) ∧ Aside0 (wc.heap[a7]? = some (.cells #[.string V, (.slice a8 L.length a9), (.slice b0 O.length b1), .int .i64 X, (.slice (some g6) l.length b2)] 26 (0, 0))) ∧ Aside0 (wc.heap[g7]? = some (.cells #[(.slice a2 ((rd_T69 l y).f0).length a3), .int .i64 ((rd_T69 l y).f1), .int .i64 ((rd_T69 l y).f2), .int .i64 ((rd_T69 l y).f3), .int .i64 ((rd_T69 l y).f4)] 69 (0, 0))) ∧ Aside0 (Below w.heap.size w wc))
 case first => (
 have H := o8.out; clear o8; replace H := q_iBN H; rcases H with ⟨-, c18b0, c18b1, H⟩ | ⟨X6, c18b0, c18b1, H⟩
 {
 (first | rw [c18b0] | (simp only [i64_w, i32_w]; rw [c18b0]) | skip)
 replace H := q_iBN H; rcases H with ⟨-, c19b0, c19b1, H⟩ | ⟨X7, c19b0, c19b1, H⟩
 {
 replace H := q_iBN H; rcases H with ⟨-, c20b0, c20b1, H⟩ | ⟨X8, c20b0, c20b1, H⟩
 {
 replace H := Option.bind_eq_some_iff.mp H; obtain ⟨v5, v6, H⟩ := H; have S2 := a_ v6; clear v6; have H' := a_ H
 clear H; have S3 := F.out; have S4 := z.out; obtain ⟨C2, C3, C4, C5, C6, C7, C8, C9, D0, D1⟩ := q_cf5 E.out; obtain ⟨D2, D3, D4, D5, D6, D7, D8, D9, E0, E1⟩ := q_cf5 q.out; go_wp2_with (first | (go_at_call 73; (with_reducible refine (flow_register.calls V _ _ L _ _ O X _ _ l true ((rd_T69 l y).f2) v5 _ (q_C (Kd.C_below l6.out U.out)) l7.out (q_C (Kd.C_below l8.out U.out)) l9.out (q_C (Kd.C_below e2.out U.out)) n0.out S2.out).mono ?_); rintro e X9 ⟨rfl, hb⟩; replace q := a_ (q_bk q.out hb); replace E := a_ (q_bk E.out hb); replace U := a_ (q_st2 U.out hb D.out a0.out); (clear hb)))
 go_meet
 case rel => exact ⟨_, (!v5), q_r, H', ⟨by have := b4.out; have := d1.out; first | omega | exact Nat.le_refl _⟩, ⟨q_k q.out⟩, ⟨q_k E.out⟩, ⟨q_w2 U.out D.out a0.out⟩⟩}
 {
 have H' := a_ H
 clear H; have S5 := F.out; have S6 := z.out; obtain ⟨E2, E3, E4, E5, E6, E7, E8, E9, F0, F1⟩ := q_cf5 E.out; go_wp2
 go_meet
 case rel => exact ⟨_, (true), q_r, H', ⟨by have := b4.out; have := d1.out; first | omega | exact Nat.le_refl _⟩, ⟨q_k q.out⟩, ⟨q_k E.out⟩, ⟨q_w2 U.out D.out a0.out⟩⟩}}
 {
 replace H := Option.bind_eq_some_iff.mp H; obtain ⟨v7, w3, H⟩ := H; have S7 := a_ w3; clear w3; have H' := a_ H
 clear H; have S8 := F.out; have S9 := z.out; obtain ⟨F2, F3, F4, F5, F6, F7, F8, F9, G0, G1⟩ := q_cf5 E.out; obtain ⟨G2, G3, G4, G5, G6, G7, G8, G9, H0, H1⟩ := q_cf5 q.out; go_wp2_with (first | (go_at_call 73; (with_reducible refine (flow_register.calls V _ _ L _ _ O X _ _ l true ((rd_T69 l y).f2) v7 _ (q_C (Kd.C_below l6.out U.out)) l7.out (q_C (Kd.C_below l8.out U.out)) l9.out (q_C (Kd.C_below e2.out U.out)) n0.out S7.out).mono ?_); rintro e Y0 ⟨rfl, hb⟩; replace q := a_ (q_bk q.out hb); replace E := a_ (q_bk E.out hb); replace U := a_ (q_st2 U.out hb D.out a0.out); (clear hb)))
 go_meet
 case rel => exact ⟨_, (!v7), q_r, H', ⟨by have := b4.out; have := d1.out; first | omega | exact Nat.le_refl _⟩, ⟨q_k q.out⟩, ⟨q_k E.out⟩, ⟨q_w2 U.out D.out a0.out⟩⟩}}
 {
 (first | rw [c18b0] | (simp only [i64_w, i32_w]; rw [c18b0]) | skip)
 replace H := q_iBN H; rcases H with ⟨-, c33b0, c33b1, H⟩ | ⟨Y1, c33b0, c33b1, H⟩
 {
 replace H := q_iBN H; rcases H with ⟨-, c34b0, c34b1, H⟩ | ⟨Y2, c34b0, c34b1, H⟩
 {
 replace H := q_iBN H; rcases H with ⟨-, c35b0, c35b1, H⟩ | ⟨Y3, c35b0, c35b1, H⟩
 {
 replace H := q_iBN H; rcases H with ⟨-, c36b0, c36b1, H⟩ | ⟨Y4, c36b0, c36b1, H⟩
 {
 have H' := a_ H
 clear H; have T1 := F.out; have T2 := z.out; obtain ⟨H2, H3, H4, H5, H6, H7, H8, H9, I0, I1⟩ := q_cf5 E.out; go_wp2
 go_meet
 case rel => exact ⟨_, (false), q_r, H', ⟨by have := b4.out; have := d1.out; first | omega | exact Nat.le_refl _⟩, ⟨q_k q.out⟩, ⟨q_k E.out⟩, ⟨q_w2 U.out D.out a0.out⟩⟩}
 {
 have H' := a_ H
 clear H; have T3 := F.out; have T6 := z.out; obtain ⟨I2, I3, I4, I5, I6, I7, I8, I9, J0, J1⟩ := q_cf5 E.out; go_wp2
 go_meet
 case rel => exact ⟨_, (true), q_r, H', ⟨by have := b4.out; have := d1.out; first | omega | exact Nat.le_refl _⟩, ⟨q_k q.out⟩, ⟨q_k E.out⟩, ⟨q_w2 U.out D.out a0.out⟩⟩}}
 {
 have H' := a_ H
 clear H; have T7 := F.out; have U0 := z.out; obtain ⟨J2, J3, J4, J5, J6, J7, J8, J9, K0, K1⟩ := q_cf5 E.out; go_wp2
 go_meet
 case rel => exact ⟨_, (false), q_r, H', ⟨by have := b4.out; have := d1.out; first | omega | exact Nat.le_refl _⟩, ⟨q_k q.out⟩, ⟨q_k E.out⟩, ⟨q_w2 U.out D.out a0.out⟩⟩}}
 {
 have H' := a_ H
 clear H; have U1 := F.out; have U2 := z.out; obtain ⟨K2, K3, K4, K5, K6, K7, K8, K9, L0, L1⟩ := q_cf5 E.out; go_wp2
 go_meet
 case rel => exact ⟨_, (true), q_r, H', ⟨by have := b4.out; have := d1.out; first | omega | exact Nat.le_refl _⟩, ⟨q_k q.out⟩, ⟨q_k E.out⟩, ⟨q_w2 U.out D.out a0.out⟩⟩}}
 {
 have H' := a_ H
 clear H; have U3 := F.out; have U4 := z.out; obtain ⟨L2, L3, L4, L5, L6, L7, L8, L9, M0, M1⟩ := q_cf5 E.out; go_wp2
 go_meet
 case rel => exact ⟨_, (true), q_r, H', ⟨by have := b4.out; have := d1.out; first | omega | exact Nat.le_refl _⟩, ⟨q_k q.out⟩, ⟨q_k E.out⟩, ⟨q_w2 U.out D.out a0.out⟩⟩}})
 case rest => (
 clear o8; obtain ⟨kq, d3, rfl, HA, i5, q, E, U⟩ := hcut; cases kq with
 | zero => exact absurd HA.out (by simp [flow_ends.j2])
 | succ w4 => (
 have H := HA.out; clear HA; simp only [flow_ends.j2] at H
 by_cases v0 : d3 = true
 {
 subst v0; rw [if_pos rfl] at H; obtain rfl := Option.some.inj H; go_wp2
 go_ret
 exact ⟨q_e, q_w2 U.out D.out a0.out⟩}
 {
 replace v0 := Bool.eq_false_iff.mpr v0; subst v0; rw [if_neg Bool.false_ne_true] at H; replace H := Option.bind_eq_some_iff.mp H; obtain ⟨c9, w5, H⟩ := H; have U5 := a_ w5; clear w5; have H' := a_ H
 clear H; have U6 := F.out; have U7 := z.out; obtain ⟨o9, p0, p1, p2, p3, p4, p5, p6, p7, p8⟩ := q_cf5 E.out; go_wp2_with (first | ((with_reducible refine gc_ 44 rfl ?_); refine q_gl 63 #[.agg #[.slice a2 ((rd_T69 l y).f0).length a3, .int .i64 ((rd_T69 l y).f1), .int .i64 ((rd_T69 l y).f2), .int .i64 ((rd_T69 l y).f3), .int .i64 ((rd_T69 l y).f4)]] Tryd.func44 rfl ?_; (with_reducible refine (flow_next.calls _ _ ((rd_T69 l y).f0) ((rd_T69 l y).f1) ((rd_T69 l y).f2) ((rd_T69 l y).f3) ((rd_T69 l y).f4) c9 _ (q_C (Kd.C_below n6.out U.out)) n7.out U5.out).mono ?_); rintro e Y5 ⟨W3, rfl, j9, hb⟩; refine ⟨_, rfl, ?_⟩; have p9 := a_ (Kd.R_lower j9 (below_size (q_w2 U.out D.out a0.out))); replace q := a_ (q_bk q.out hb); replace E := a_ (q_bk E.out hb); replace U := a_ (q_st2 U.out hb D.out a0.out); clear hb j9; obtain ⟨M2, M3, M4⟩ := Kd.R_slice p9.out; subst M4))
 go_loopg [65] w4 (fun kq U8 w' => ∃ (a5 : Int), U8 = .int .i64 a5 ∧ Aside0 (flow_ends.l1 kq l (l.length : Int) y c9 (c9.length : Int) a5 V L O X l = some r) ∧ Aside0 (kq ≤ w4) ∧ Aside0 (Kd.R (Kd.int .i64) 3 w' w.heap.size (fun _ => True) (.slice M2 c9.length M3) c9) ∧ Aside0 (w'.heap[a7]? = some (.cells #[.string V, (.slice a8 L.length a9), (.slice b0 O.length b1), .int .i64 X, (.slice (some g6) l.length b2)] 26 (0, 0))) ∧ Aside0 (w'.heap[g7]? = some (.cells #[(.slice a2 ((rd_T69 l y).f0).length a3), .int .i64 ((rd_T69 l y).f1), .int .i64 ((rd_T69 l y).f2), .int .i64 ((rd_T69 l y).f3), .int .i64 ((rd_T69 l y).f4)] 69 (0, 0))) ∧ Aside0 (Below w.heap.size w w'))
 case atStart => exact ⟨(0), q_r, H', ⟨Nat.le_refl _⟩, ⟨by (with_reducible repeat (first | apply Kd.R_alloc | apply Kd.R_drewN | apply Kd.R_drew)); exact p9.out⟩, ⟨q_k q.out⟩, ⟨q_k E.out⟩, ⟨q_w2 U.out D.out a0.out⟩⟩
 case round => (
 clear H'; clear o9 p0 p1 p2 p3 p4 p5 p6 p7 p8; obtain ⟨a5, rfl, HA, v1, HO_63, q, E, U⟩ := hrel; cases gk with
 | zero => exact absurd HA.out (by simp [flow_ends.l1])
 | succ k4 => (
 have H := HA.out; clear HA; simp only [flow_ends.l1] at H
 rcases q_ite H with ⟨c53b0, H⟩ | ⟨c53b0, H⟩
 {
 replace H := q_gD H; obtain ⟨-, c54b0, H⟩ := H; replace H := q_gD H; obtain ⟨-, c55b0, H⟩ := H; rcases q_ite H with ⟨c56b0, H⟩ | ⟨c56b0, H⟩
 {
 obtain rfl := Option.some.inj H; have b8 : 0 ≤ (a5 : Int) := q_d
 have b9 : a5 < (c9.length : Int) := q_d
 obtain ⟨q0, e8, e9⟩ := Kd.at_int (Kd.R_reads' HO_63.out).2.2 a5 b8 b9; cases e8; replace b8 := eq_true b8; replace b9 := eq_true b9; go_wp2
 go_ret
 exact ⟨q_e, q_w2 U.out D.out a0.out⟩}
 {
 rcases q_ite H with ⟨c57b0, H⟩ | ⟨c57b0, H⟩
 {
 obtain rfl := Option.some.inj H; have b8 : 0 ≤ (a5 : Int) := q_d
 have b9 : a5 < (c9.length : Int) := q_d
 obtain ⟨q0, e8, e9⟩ := Kd.at_int (Kd.R_reads' HO_63.out).2.2 a5 b8 b9; cases e8; replace b8 := eq_true b8; replace b9 := eq_true b9; have U9 := z.out; have V0 := F.out; obtain ⟨M5, M6, M7, M8, M9, N0, N1, N3, N4, N5⟩ := q_cf5 q.out; go_wp2
 go_ret
 exact ⟨q_e, q_w2 U.out D.out a0.out⟩}
 {
 have H' := a_ H
 clear H; have b8 : 0 ≤ (a5 : Int) := q_d
 have b9 : a5 < (c9.length : Int) := q_d
 obtain ⟨q0, e8, e9⟩ := Kd.at_int (Kd.R_reads' HO_63.out).2.2 a5 b8 b9; cases e8; replace b8 := eq_true b8; replace b9 := eq_true b9; have V1 := z.out; have V2 := F.out; obtain ⟨N6, N7, N8, N9, O0, O1, O2, O3, O4, O5⟩ := q_cf5 q.out; go_wp2
 go_roundg k4
 case measure => have := b4.out; have := d1.out; have := i5.out; have := v1.out; omega
 case rel => exact ⟨(wrap64 (a5 + 1)), q_r, H', ⟨by have := b4.out; have := d1.out; have := i5.out; have := v1.out; omega⟩, ⟨by (with_reducible repeat (first | apply Kd.R_alloc | apply Kd.R_drewN | apply Kd.R_drew)); exact HO_63.out⟩, ⟨q_k q.out⟩, ⟨q_k E.out⟩, ⟨q_w2 U.out D.out a0.out⟩⟩}}}
 {
 have H' := a_ H
 clear H; go_wp2
 go_roundg k4
 case measure => have := b4.out; have := d1.out; have := i5.out; have := v1.out; omega
 case rel => exact ⟨(wrap64 (y + 1)), q_r, H', ⟨by have := b4.out; have := d1.out; have := i5.out; have := v1.out; omega⟩, ⟨q_k q.out⟩, ⟨q_w2 U.out D.out a0.out⟩⟩}))}))}))}
 {
 replace H := q_gED H; obtain ⟨-, c62b0, c62b1, H⟩ := H; replace H := q_gED H; obtain ⟨-, c63b0, c63b1, H⟩ := H; obtain ⟨d0, g8⟩ : ∃ y_ : List Bool, y_ = (List.replicate ((l.length : Int) : Int).toNat false) := ⟨_, rfl⟩; replace H : (if 0 < (d0.length : Int) then (flow_ends.l2 k1 (d0.set (0 : Int).toNat true) (([0] : List Int)) 0 V L O X l) else (none)) = some r := q_rw g8 H
 have q1 := a_ g8; clear g8; replace H := q_gD H; obtain ⟨V3, c64b0, H⟩ := H; have c64b1 : decide (0 < d0.length) = true := decide_eq_true (by omega)
 clear V3; obtain ⟨i6, g9⟩ : ∃ y_ : List Bool, y_ = (d0.set (0 : Int).toNat true) := ⟨_, rfl⟩; replace H : (flow_ends.l2 k1 i6 (([0] : List Int)) 0 V L O X l) = some r := q_rw g9 H
 have x8 := a_ g9; clear g9; obtain ⟨w6, i0⟩ : ∃ y_ : List Int, y_ = (([0] : List Int)) := ⟨_, rfl⟩; replace H : (flow_ends.l2 k1 i6 w6 0 V L O X l) = some r := q_rw i0 H
 have q2 := a_ i0; clear i0; have H' := a_ H
 clear H; obtain ⟨q3, q4, q5, q6, q7, q8, q9, r0, r1, r2⟩ := q_cf5 q.out; go_wp2_with (first | ((with_reducible refine gd_ 83 rfl ?_); (try (refine gate_guard (by rfl) ?_; dsimp only)); refine Kd.R_make Kd.bool _ 4 rfl (N := 83) rfl 37 _ _ rfl (l.length : Int) rfl rfl Tryd.underlying37 (.bool false) 1 info4 rfl (by decide) (by omega) false (ok := fun _ => True) (okp := fun _ => True) rfl (fun _ hk => hk) trivial (q_d) (Nat.le_trans (Nat.mul_le_mul_right _ (q_d : (l.length : Int).toNat ≤ 281474976710656)) (by omega)) (Below.refl _ _) (Nat.le_refl _) ?_; intro W5 O6 f5 hb hg_ hnew_; clear hg_ hnew_; (first | rw [← q1.out] at f5 | (simp only [Int.reduceToNat] at f5; rw [← q1.out] at f5)); have b5 := a_ (Kd.R_lower f5 (below_size (q_w1 U.out D.out))); replace q := a_ (q_bk q.out hb); replace U := a_ (q_st1 U.out hb D.out); clear hb f5; have v2 : 0 ≤ (0 : Int) := (by omega); have v3 : (0 : Int) < ((d0.length : Int) : Int) := q_d; have O7 : (0 < d0.length) = True := eq_true (by omega); obtain ⟨b6, e1, w7, w9, O8, W6, x0⟩ := Kd.R_form b5.out (by omega); (first | cases w7 | (injection w7 with ea_ en_ ec_; (first | subst ea_ | (injection ea_ with ea_; subst ea_)); subst ec_; clear en_)); have x1 := a_ w9; have W7 := a_ x0; clear w9 O8 x0; obtain ⟨e4, i7⟩ := Kd.R_celln false b5.out (0 : Int) v2 v3; (try rw [show ((0 : Int)).toNat = 0 from rfl] at e4); (try simp only [Nat.reduceMul, Nat.zero_mul, Nat.zero_add, Nat.reduceAdd] at e4); (try rw [show ((0 : Int)).toNat = 0 from rfl] at i7); (try simp only [Nat.reduceMul, Nat.zero_mul, Nat.zero_add, Nat.reduceAdd] at i7); replace v2 := eq_true v2; replace v3 := eq_true v3; obtain ⟨r3, r4⟩ := Kd.R_celln false b5.out (0 : Int) (by omega) (q_d); (try simp only [Int.reduceToNat, Int.toNat_zero, Int.toNat_ofNat, Nat.reduceMul, Nat.zero_mul, Nat.zero_add] at r3 r4); (try rw [show ((0 : Int)).toNat = 0 from rfl] at r3); (try rw [show ((0 : Int)).toNat = 0 from rfl] at r4); have r5 := Kd.R_putg b5.out (0 : Int) true) | ((with_reducible refine gate_store (t := 4) (p := 85) rfl ?_); refine store_event (t := 4) (p := 85) (v := ?vo_w70) (w1 := (O6.setCell ⟨b6, (0 : Int).toNat, none⟩ (.bool true))) ?hg ?ho ?hn ?hr ?_; (case ho => rfl); (case hg => rfl); (case hn => rfl); (case hr => first | (go_simp; done) | (go_simp; rfl)); intro x9 hw; have hg : O6.grownBy x9 (some b6) := (by rw [hw]; exact r5.2); have hp_ : Kd.R Kd.bool 4 x9 w.heap.size (fun _ => True) (.slice (some ⟨b6, 0, none⟩) d0.length e1) i6 := (by rw [hw, x8.out]; exact r5.1); clear r5; replace q := a_ (blk_grown (g := a7) (o := .cells #[.string V, .slice a8 L.length a9, .slice b0 O.length b1, .int .i64 X, .slice e0 l.length b2] 26 (0, 0)) (q_k q.out) hg (Kd.R_ne b5.out q.out (by decide))); replace b5 := a_ (hp_); replace U := a_ ((by rw [hw]; exact below_set (U.out) x1.out : Below w.heap.size w x9)); clear hg hw hp_) | ((with_reducible refine gd_ 86 rfl ?_); (try (refine gate_guard (by rfl) ?_; dsimp only)); refine Kd.R_lit (Kd.int .i64) _ 3 ?hg (N := 86) ?hd (xs := ([0] : List Int)) (inner := [.int .i64 0]) (ok := fun _ => True) (okp := fun _ => True) ?hr ?hp (fun _ hk => hk) trivial (Below.refl _ _) (Nat.le_refl _) (by simp) ?_; (case hd => rfl); (case hg => rfl); (case hr => first | (go_simp; done) | (go_simp; rfl)); (case hp => exact (Reps.one (show Kd.M (Kd.int .i64) _ _ _ 0 [.int .i64 0] from rfl) (Reps.none _ _))); intro W8 Y6 f6 hb hg_ hnew_; clear hg_ hnew_; (first | rw [← q2.out] at f6 | (simp only [Int.reduceToNat] at f6; rw [← q2.out] at f6)); have y0 := a_ (Kd.R_lower f6 (below_size (q_w1 U.out D.out))); replace b5 := a_ (Kd.R_below (by (with_reducible repeat (first | apply Kd.R_alloc | apply Kd.R_drewN | apply Kd.R_drew)); exact b5.out) hb); replace q := a_ (q_bk q.out hb); replace U := a_ (q_st1 U.out hb D.out); clear hb f6))
 go_loopg [8, 9] k1 (fun kq v8 v9 w' => ∃ (f7 : List Bool) (a1 : List Int) (J : Int), v9 = .int .i64 J ∧ Aside0 (flow_ends.l2 kq f7 a1 J V L O X l = some r) ∧ Aside0 (kq ≤ k1) ∧ Aside0 (Kd.R Kd.bool 4 w' w.heap.size (fun _ => True) (.slice (some ⟨b6, 0, none⟩) d0.length e1) f7) ∧ Aside0 (Kd.R (Kd.int .i64) 3 w' w.heap.size (fun _ => True) v8 a1) ∧ Aside0 (w'.heap[a7]? = some (.cells #[.string V, (.slice a8 L.length a9), (.slice b0 O.length b1), .int .i64 X, (.slice e0 l.length b2)] 26 (0, 0))) ∧ Aside0 (Below w.heap.size w w'))
 case atStart => exact ⟨(i6), (w6), (0), q_r, H', ⟨Nat.le_refl _⟩, ⟨by (with_reducible repeat (first | apply Kd.R_alloc | apply Kd.R_drewN | apply Kd.R_drew)); exact b5.out⟩, ⟨by (with_reducible repeat (first | apply Kd.R_alloc | apply Kd.R_drewN | apply Kd.R_drew)); exact y0.out⟩, ⟨q_k q.out⟩, ⟨q_w1 U.out D.out⟩⟩
 case round => (
 clear H'; clear c4b0 c62b0 c62b1 c63b0 c63b1 c64b0 c64b1 v2 v3 O7 q3 q4 q5 q6 q7 q8 q9 r0 r1 r2 e4; obtain ⟨f7, a1, J, rfl, HA, k0, HO_7, HO_8, q, U⟩ := hrel; have I := (Kd.R_reads' HO_7.out).1; rw [I] at HO_7; (try simp only [I])
 (try simp only [I] at q)
 (try simp only [I] at HO_8)
 cases gk with
 | zero => exact absurd HA.out (by simp [flow_ends.l2])
 | succ k2 => (
 have H := HA.out; clear HA; simp only [flow_ends.l2] at H
 replace H := q_iD H; rcases H with ⟨y1, c73b0, H⟩ | ⟨y1, c73b0, H⟩
 {
 have c73b7 := c73b0; (try simp only [I] at c73b7)
 clear y1; replace H := q_gD H; obtain ⟨-, c74b0, H⟩ := H; replace H := q_gD H; obtain ⟨-, c75b0, H⟩ := H; replace H := q_gD H; obtain ⟨-, c76b0, H⟩ := H; replace H := Option.bind_eq_some_iff.mp H; obtain ⟨G, x2, H⟩ := H; have V4 := a_ x2; clear x2; have H' := a_ H
 clear H; obtain ⟨X0, X1, O9⟩ := Kd.R_slice HO_8.out; subst O9; try go_wp2
 have r6 := a_ (Kd.R_drew HO_7.out); have r7 := a_ (Kd.R_drew HO_8.out); have r8 := a_ (blk_drew q.out); have r9 := a_ (below_drew1 U.out); clear HO_7 HO_8 q U; have HO_7 := r6; have HO_8 := r7; have q := r8; have U := r9; clear r6 r7 r8 r9; have i8 : 0 ≤ (J : Int) := q_d
 have i9 : J < (a1.length : Int) := q_d
 obtain ⟨y2, P0, d4⟩ := Kd.at_int (Kd.R_reads' HO_8.out).2.2 J i8 i9; cases P0; replace i8 := eq_true i8; replace i9 := eq_true i9; have j3 : 0 ≤ ((rd a1 J) : Int) := q_d
 have j5 : (rd a1 J) < (l.length : Int) := q_d
 obtain ⟨d5, j6, j7, P1, c0, c1, c3, c4, c6, f8, f9⟩ := at_T69 e2.out (rd a1 J) j3 j5; have g0 := c6; have g1 := c4; have g2 := c3; have g3 := c1; have g4 := c0; cases P1; replace c0 := q_kc U.out c0; replace c1 := q_kc U.out c1; replace c3 := q_kc U.out c3; replace c4 := q_kc U.out c4; replace c6 := q_kc U.out c6; have g5 := a_ f9; have s0 := a_ f8; clear f9 f8; replace j3 := eq_true j3; replace j5 := eq_true j5; refine q_s 11 (S := fun w' => cg5 w' a7 (.string V) (.slice a8 L.length a9) (.slice b0 O.length b1) (.int .i64 X) (.slice (some d5) l.length b2) (w'.cell? (y2.add (J).toNat) = some (.int .i64 (rd a1 J)) ∧ cp5_ w' (d5.add (((rd a1 J)).toNat * 5)) (.slice j6 ((rd_T69 l (rd a1 J)).f0).length j7) (.int .i64 ((rd_T69 l (rd a1 J)).f1)) (.int .i64 ((rd_T69 l (rd a1 J)).f2)) (.int .i64 ((rd_T69 l (rd a1 J)).f3)) (.int .i64 ((rd_T69 l (rd a1 J)).f4)))) (q_g5 q.out ⟨d4, (q_kc U.out g4), (q_kc U.out g3), (q_kc U.out g2), (q_kc U.out g1), (q_kc U.out g0)⟩) (fun c8 => ?_); refine with_tabW flow_ends.tab21 flow_ends.bits21 (fun d2 y3 => ?_)
 generalize wr.drew = Y8 at HO_7 HO_8 q U g5 d4 c0 c1 c3 c4 c6 c8 ⊢
 refine qv_ 0 d2 ?_
 refine qv_ 2 d2 ?_
 refine qv_ 3 d2 ?_
 refine qv_ 4 d2 ?_
 refine qv_ 10 d2 ?_
 refine qt11_ 1 d2 y3 c8 ?_
 refine qt11_ 5 d2 y3 c8 ?_
 refine qv_ 6 d2 ?_
 refine qt11_ 7 d2 y3 c8 ?_
 refine q_o 8 d2 (fun K hK => ?_)
 refine q_go #[.agg #[.slice j6 ((rd_T69 l (rd a1 J)).f0).length j7, .int .i64 ((rd_T69 l (rd a1 J)).f1), .int .i64 ((rd_T69 l (rd a1 J)).f2), .int .i64 ((rd_T69 l (rd a1 J)).f3), .int .i64 ((rd_T69 l (rd a1 J)).f4)]] Tryd.func44 rfl ?_
 with_reducible refine (flow_next.calls _ _ ((rd_T69 l (rd a1 J)).f0) ((rd_T69 l (rd a1 J)).f1) ((rd_T69 l (rd a1 J)).f2) ((rd_T69 l (rd a1 J)).f3) ((rd_T69 l (rd a1 J)).f4) G _ (q_C (Kd.C_below g5.out U.out)) s0.out V4.out).mono ?_
 rintro e Y9 ⟨X2, rfl, j9, hb⟩
 have P2 := q_kc hb (c8.2.2.2.2.2.1); refine ⟨_, rfl, ?_⟩
 have s1 := a_ (Kd.R_lower (Kd.R_new' j9 (Kd.R_lt (by (with_reducible repeat (first | apply Kd.R_alloc | apply Kd.R_drewN | apply Kd.R_drew)); exact HO_8.out))) (below_size (q_w1 U.out D.out))); replace HO_7 := a_ (Kd.R_below (by (with_reducible repeat (first | apply Kd.R_alloc | apply Kd.R_drewN | apply Kd.R_drew)); exact HO_7.out) hb); replace HO_8 := a_ (Kd.R_elder' (by (with_reducible repeat (first | apply Kd.R_alloc | apply Kd.R_drewN | apply Kd.R_drew)); exact HO_8.out) (Kd.R_base j9) hb); replace q := a_ (q_bk q.out hb); replace U := a_ (q_st1 U.out hb D.out); (clear hb)
 (clear j9)
 obtain ⟨x3, s2, x4⟩ := Kd.R_slice s1.out; (first | subst x4 | (injection x4 with P3 V5 P4; have V6 := P3.symm; have V7 := P4.symm; clear P3 V5 P4; subst V6; subst V7))
 refine q_nk hK.out (q_g5 q.out ⟨P2, (q_kc U.out g4), (q_kc U.out g3), (q_kc U.out g2), (q_kc U.out g1), (q_kc U.out g0)⟩) (fun c8 => ?_)
 clear hK K
 refine qv_ 9 d2 ?_
 refine done_ (done_of d2.out (by kernel_rfl)) ?_
 try go_wp2
 go_loopg [8, 103] k2 (fun kq v8 P5 w' => ∃ (a6 : List Bool) (b7 : List Int) (B : Int), P5 = .int .i64 B ∧ Aside0 (flow_ends.l3 kq a6 b7 J G (G.length : Int) B V L O X l = some r) ∧ Aside0 (kq ≤ k2) ∧ Aside0 (Kd.R Kd.bool 4 w' w.heap.size (fun _ => True) (.slice (some ⟨b6, 0, none⟩) f7.length e1) a6) ∧ Aside0 (Kd.R (Kd.int .i64) 3 w' w.heap.size (fun k_ => some k_ ≠ ((.slice x3 G.length s2) : Value).ownBlock) v8 b7) ∧ Aside0 (Kd.R (Kd.int .i64) 3 w' w.heap.size (fun k_ => some k_ ≠ (v8 : Value).ownBlock) (.slice x3 G.length s2) G) ∧ Aside0 (w'.heap[a7]? = some (.cells #[.string V, (.slice a8 L.length a9), (.slice b0 O.length b1), .int .i64 X, (.slice (some d5) l.length b2)] 26 (0, 0))) ∧ Aside0 (Below w.heap.size w w'))
 case atStart => exact ⟨(f7), (a1), (0), q_r, H', ⟨Nat.le_refl _⟩, ⟨by (try simp only [I]); (with_reducible repeat (first | apply Kd.R_alloc | apply Kd.R_drewN | apply Kd.R_drew)); exact HO_7.out⟩, ⟨by (try simp only [I]); (with_reducible repeat (first | apply Kd.R_alloc | apply Kd.R_drewN | apply Kd.R_drew)); exact Kd.R_mono HO_8.out (fun _ hk => hk.2)⟩, ⟨by (try simp only [I]); (with_reducible repeat (first | apply Kd.R_alloc | apply Kd.R_drewN | apply Kd.R_drew)); exact Kd.R_mono s1.out (fun _ hk => hk.2)⟩, ⟨by (try simp only [I]); (with_reducible repeat (first | refine blk_drewN ?_ _ | refine blk_drew ?_ | refine blk_alloc ?_ _)); exact q.out⟩, ⟨q_w1 U.out D.out⟩⟩
 case round => (
 clear H'; clear c73b0 c74b0 c75b0 c76b0 d4 c0 c1 c3 c4 c6 i8 j3 i9 j5; obtain ⟨a6, b7, B, rfl, HA, k5, HO_7, HO_8, HO_101, q, U⟩ := hrel; have T := (Kd.R_reads' HO_7.out).1; rw [T] at HO_7; (try simp only [T])
 (try simp only [T] at q)
 (try simp only [T] at HO_8)
 (try simp only [T] at HO_101)
 cases gk with
 | zero => exact absurd HA.out (by simp [flow_ends.l3])
 | succ k3 => (
 have H := HA.out; clear HA; simp only [flow_ends.l3] at H
 replace H := q_iD H; rcases H with ⟨y5, c82b0, H⟩ | ⟨y5, c82b0, H⟩
 {
 have c82b7 := c82b0; (try simp only [I, T] at c82b7)
 clear y5; replace H := q_gD H; obtain ⟨-, c83b0, H⟩ := H; replace H := q_gD H; obtain ⟨V8, c84b0, H⟩ := H; have c84b7 := c84b0; (try simp only [I, T] at c84b7)
 clear V8; replace H := q_gD H; obtain ⟨-, c85b0, H⟩ := H; replace H := q_gD H; obtain ⟨-, c86b0, H⟩ := H; obtain ⟨x5, i1⟩ : ∃ b_ : Bool, b_ = (rdOf false a6 (rd G B)) := ⟨_, rfl⟩; replace H : (if (x5 = true) then (flow_ends.l3 k3 a6 b7 J G (G.length : Int) (wrap64 (B + 1)) V L O X l) else (if b7.length < 17592186044416 then (flow_ends.l3 k3 (a6.set ((rd G B) : Int).toNat true) (b7 ++ [rd G B]) J G (G.length : Int) (wrap64 (B + 1)) V L O X l) else (none))) = some r := by rw [← i1] at H; exact H
 have s3 := a_ i1; clear i1; by_cases v4 : (x5 = true)
 {
 subst v4; rw [if_pos rfl] at H; have H' := a_ H
 clear H; have d6 : 0 ≤ (B : Int) := q_d
 have d7 : B < (G.length : Int) := q_d
 obtain ⟨s4, s5, s6⟩ := Kd.at_int (Kd.R_reads' HO_101.out).2.2 B d6 d7; cases s5; replace d6 := eq_true d6; replace d7 := eq_true d7; have d8 : 0 ≤ ((rd G B) : Int) := q_d
 have d9 : (rd G B) < (a6.length : Int) := q_d
 obtain ⟨i2, s7, a4⟩ := Kd.at_bool (Kd.R_reads' HO_7.out).2.2 (rd G B) d8 d9; (try rw [← s3.out] at a4)
 obtain rfl : (⟨b6, 0, none⟩ : Addr) = i2 := (by injection s7)
 (first | simp only [add_plain] at a4 | simp only [add_at] at a4 | simp only [Addr.add, Nat.zero_add] at a4 | skip)
 replace d8 := eq_true d8; replace d9 := eq_true d9; go_wp2
 (try simp only [← T])
 go_roundg k3
 case measure => have := b4.out; have := k0.out; have := k5.out; omega
 case rel => exact ⟨(a6), (b7), (wrap64 (B + 1)), q_r, H', ⟨by have := b4.out; have := k0.out; have := k5.out; omega⟩, ⟨by (try simp only [I]); (try simp only [T]); (with_reducible repeat (first | apply Kd.R_alloc | apply Kd.R_drewN | apply Kd.R_drew)); exact HO_7.out⟩, ⟨by (try simp only [I]); (try simp only [T]); (with_reducible repeat (first | apply Kd.R_alloc | apply Kd.R_drewN | apply Kd.R_drew)); exact HO_8.out⟩, ⟨by (try simp only [I]); (try simp only [T]); (with_reducible repeat (first | apply Kd.R_alloc | apply Kd.R_drewN | apply Kd.R_drew)); exact HO_101.out⟩, ⟨by (try simp only [I]); (try simp only [T]); (with_reducible repeat (first | refine blk_drewN ?_ _ | refine blk_drew ?_ | refine blk_alloc ?_ _)); exact q.out⟩, ⟨q_w1 U.out D.out⟩⟩}
 {
 replace v4 := Bool.eq_false_iff.mpr v4; subst v4; rw [if_neg Bool.false_ne_true] at H; obtain ⟨j8, i3⟩ : ∃ y_ : List Bool, y_ = (a6.set ((rd G B) : Int).toNat true) := ⟨_, rfl⟩; replace H : (if b7.length < 17592186044416 then (flow_ends.l3 k3 j8 (b7 ++ [rd G B]) J G (G.length : Int) (wrap64 (B + 1)) V L O X l) else (none)) = some r := q_rw i3 H
 have y6 := a_ i3; clear i3; replace H := q_g H; obtain ⟨P6, H⟩ := H; have y7 := a_ P6; clear P6; obtain ⟨x6, i4⟩ : ∃ y_ : List Int, y_ = (b7 ++ [rd G B]) := ⟨_, rfl⟩; replace H : (flow_ends.l3 k3 j8 x6 J G (G.length : Int) (wrap64 (B + 1)) V L O X l) = some r := q_rw i4 H
 have y8 := a_ i4; clear i4; have H' := a_ H
 clear H; have d6 : 0 ≤ (B : Int) := q_d
 have d7 : B < (G.length : Int) := q_d
 obtain ⟨s4, s5, s6⟩ := Kd.at_int (Kd.R_reads' HO_101.out).2.2 B d6 d7; cases s5; replace d6 := eq_true d6; replace d7 := eq_true d7; have d8 : 0 ≤ ((rd G B) : Int) := q_d
 have d9 : (rd G B) < (a6.length : Int) := q_d
 obtain ⟨i2, s7, a4⟩ := Kd.at_bool (Kd.R_reads' HO_7.out).2.2 (rd G B) d8 d9; (try rw [← s3.out] at a4)
 obtain rfl : (⟨b6, 0, none⟩ : Addr) = i2 := (by injection s7)
 (first | simp only [add_plain] at a4 | simp only [add_at] at a4 | simp only [Addr.add, Nat.zero_add] at a4 | skip)
 replace d8 := eq_true d8; replace d9 := eq_true d9; have y9 : 0 ≤ ((rd G B) : Int) := q_d
 have z0 : ((rd G B) : Int) < ((a6.length : Int) : Int) := q_d
 obtain ⟨R0, R1⟩ := Kd.R_celln false HO_7.out ((rd G B) : Int) y9 z0; replace y9 := eq_true y9; replace z0 := eq_true z0; have s8 := Kd.R_putg HO_7.out ((rd G B) : Int) true; go_wp2_with (first | ((with_reducible refine gate_store (t := 4) (p := 114) rfl ?_); refine store_event (t := 4) (p := 114) (v := ?vo_w92) (w1 := (wr.setCell ⟨b6, ((rd G B) : Int).toNat, none⟩ (.bool true))) ?hg ?ho ?hn ?hr ?_; (case ho => rfl); (case hg => rfl); (case hn => rfl); (case hr => first | (go_simp; done) | (go_simp; rfl)); intro z1 hw; have hg : wr.grownBy z1 (some b6) := (by rw [hw]; exact s8.2); have hp_ : Kd.R Kd.bool 4 z1 w.heap.size (fun _ => True) (.slice (some ⟨b6, 0, none⟩) a6.length e1) j8 := (by rw [hw, y6.out]; exact s8.1); clear s8; replace U := a_ ((by rw [hw]; exact below_set (U.out) x1.out : Below w.heap.size w z1)); replace q := a_ (blk_grown (g := a7) (o := .cells #[.string V, .slice a8 L.length a9, .slice b0 O.length b1, .int .i64 X, .slice (some d5) l.length b2] 26 (0, 0)) (q_k q.out) hg (Kd.R_ne HO_7.out q.out (by decide))); replace HO_101 := a_ (Kd.R_over' (v := (.slice (some ⟨b6, 0, none⟩) a6.length e1)) (by (with_reducible repeat (first | apply Kd.R_alloc | apply Kd.R_drewN | apply Kd.R_drew)); exact HO_101.out) (Kd.R_typed HO_7.out) (by decide) hg); replace HO_8 := a_ (Kd.R_over' (v := (.slice (some ⟨b6, 0, none⟩) a6.length e1)) (by (with_reducible repeat (first | apply Kd.R_alloc | apply Kd.R_drewN | apply Kd.R_drew)); exact HO_8.out) (Kd.R_typed HO_7.out) (by decide) hg); replace HO_7 := a_ (hp_); clear hg hw hp_) | ((with_reducible refine gate_builtin (b := .append) (xs := #[.tmp 115, .tmp 117]) rfl ?_); (try (refine gate_guard (by rfl) ?_; dsimp only)); at_builtin; refine Kd.R_append (Kd.int .i64) (w0 := w) w.heap.size rfl (.tmp 115) (.tmp 117) 27 3 (.int .i64 0) 8 rfl Tryd.underlying27 info3 rfl (by decide) (by omega) u8 b7 (rd G B) [.int .i64 (rd G B)] (fun k_ => some k_ ≠ (.slice (some s4) G.length s2 : Value).ownBlock) (fun _ => False) rfl rfl ?aP (fun _ hk => hk.elim) ?aF ?aO ?aB ?aS ?aL ?_; (case aP => exact rfl); (case aB => exact (q_w1 U.out D.out)); (case aF => exact (fun k_ hk => Kd.fresh' (Kd.R_lt (by (with_reducible repeat (first | apply Kd.R_alloc | apply Kd.R_drewN | apply Kd.R_drew)); exact HO_101.out)) k_ hk)); (case aO => exact (by (with_reducible repeat (first | apply Kd.R_alloc | apply Kd.R_drewN | apply Kd.R_drew)); exact HO_8.out)); (case aS => exact (below_size (q_w1 U.out D.out))); (case aL => have := y7.out; omega); intro X3 Z0 ho hb hg hat; rw [← y8.out] at ho; have r6 := a_ (Kd.R_over' (by (with_reducible repeat (first | apply Kd.R_alloc | apply Kd.R_drewN | apply Kd.R_drew)); exact HO_7.out) (Kd.R_typed (by (with_reducible repeat (first | apply Kd.R_alloc | apply Kd.R_drewN | apply Kd.R_drew)); exact HO_8.out)) (by decide) hg); have r7 := a_ (Kd.R_after (ok := (fun _ => True)) (by (with_reducible repeat (first | apply Kd.R_alloc | apply Kd.R_drewN | apply Kd.R_drew)); exact Kd.R_mono HO_101.out (fun _ hk => ⟨trivial, hk⟩)) hg hat); have r8 := a_ (blk_grown (g := a7) (o := .cells #[.string V, .slice a8 L.length a9, .slice b0 O.length b1, .int .i64 X, .slice (some d5) l.length b2] 26 (0, 0)) (q_k q.out) hg (Kd.R_ne HO_8.out q.out (by decide))); have r9 := a_ (hb); have P7 := a_ (ho); clear HO_7; clear HO_101; clear q; clear U; clear HO_8; have HO_7 := r6; have HO_101 := r7; have q := r8; have U := r9; have z2 := P7; clear r6 r7 r8 r9 P7; clear ho hb hg hat))
 (try simp only [← T])
 go_roundg k3
 case measure => have := b4.out; have := k0.out; have := k5.out; omega
 case rel => exact ⟨(j8), (x6), (wrap64 (B + 1)), q_r, H', ⟨by have := b4.out; have := k0.out; have := k5.out; omega⟩, ⟨by (try simp only [I]); (try simp only [T]); (with_reducible repeat (first | apply Kd.R_alloc | apply Kd.R_drewN | apply Kd.R_drew)); exact HO_7.out⟩, ⟨by (try simp only [I]); (try simp only [T]); (with_reducible repeat (first | apply Kd.R_alloc | apply Kd.R_drewN | apply Kd.R_drew)); exact z2.out⟩, ⟨by (try simp only [I]); (try simp only [T]); (with_reducible repeat (first | apply Kd.R_alloc | apply Kd.R_drewN | apply Kd.R_drew)); exact Kd.R_mono HO_101.out (fun _ hk => hk.2)⟩, ⟨by (try simp only [I]); (try simp only [T]); (with_reducible repeat (first | refine blk_drewN ?_ _ | refine blk_drew ?_ | refine blk_alloc ?_ _)); exact q.out⟩, ⟨q_w1 U.out D.out⟩⟩}}
 {
 have c82b7 := c82b0; (try simp only [I, T] at c82b7)
 clear y5; have H' := a_ H
 clear H; go_wp2
 (try simp only [← I, ← T])
 go_roundg k3
 case measure => have := b4.out; have := k0.out; have := k5.out; omega
 case rel => exact ⟨(a6), (b7), (wrap64 (J + 1)), q_r, H', ⟨by have := b4.out; have := k0.out; have := k5.out; omega⟩, ⟨by (try simp only [I]); (try simp only [T]); (with_reducible repeat (first | apply Kd.R_alloc | apply Kd.R_drewN | apply Kd.R_drew)); exact HO_7.out⟩, ⟨by (try simp only [I]); (try simp only [T]); (with_reducible repeat (first | apply Kd.R_alloc | apply Kd.R_drewN | apply Kd.R_drew)); exact Kd.R_mono HO_8.out (fun _ hk => trivial)⟩, ⟨by (try simp only [I]); (try simp only [T]); (with_reducible repeat (first | refine blk_drewN ?_ _ | refine blk_drew ?_ | refine blk_alloc ?_ _)); exact q.out⟩, ⟨q_w1 U.out D.out⟩⟩}))}
 {
 have c73b7 := c73b0; (try simp only [I, T] at c73b7)
 clear y1; obtain rfl := Option.some.inj H; obtain ⟨X4, X5, P8⟩ := Kd.R_slice HO_8.out; subst P8; obtain ⟨P9, Q0, Q1, Q2, Q3, Q4, Q5, Q6, Q7, Q8⟩ := q_cf5 q.out; go_wp2
 go_ret
 exact ⟨q_e, q_w1 U.out D.out⟩}))}))
mutual
def flow_before.l0 : Nat → List (List Int) → List (S69) → Int → Int → Option ((List (List Int)))
 | 0, _, _, _, _ => none
 | k + 1, y, q, z, p => if p < z then (if 0 ≤ p then (if p < (q.length : Int) then ((flow_next.f ((rd_T69 q p).f0) ((rd_T69 q p).f1) ((rd_T69 q p).f2) ((rd_T69 q p).f3) ((rd_T69 q p).f4)).bind fun C => (flow_before.l1 k y p q z p C (C.length : Int) 0)) else (none)) else (none)) else (some y)
def flow_before.l1 : Nat → List (List Int) → Int → List (S69) → Int → Int → List Int → Int → Int → Option ((List (List Int)))
 | 0, _, _, _, _, _, _, _, _ => none
 | k + 1, y, D, q, z, p, l, B, b => if b < B then (if 0 ≤ b then (if b < (l.length : Int) then (if 0 ≤ (rd l b) then (if (rd l b) < (y.length : Int) then (if ((rd_L2 y (rd l b)).length : Int) = 0 then (if (rd_L2 y (rd l b)).length < 17592186044416 then (flow_before.l1 k (y.set ((rd l b) : Int).toNat ((rd_L2 y (rd l b)) ++ [D])) D q z p l B (wrap64 (b + 1))) else (none)) else (if 0 ≤ (wrap64 (((rd_L2 y (rd l b)).length : Int) - 1)) then (if (wrap64 (((rd_L2 y (rd l b)).length : Int) - 1)) < ((rd_L2 y (rd l b)).length : Int) then (if (rd (rd_L2 y (rd l b)) (wrap64 (((rd_L2 y (rd l b)).length : Int) - 1))) = D then (flow_before.l1 k y D q z p l B (wrap64 (b + 1))) else (if (rd_L2 y (rd l b)).length < 17592186044416 then (flow_before.l1 k (y.set ((rd l b) : Int).toNat ((rd_L2 y (rd l b)) ++ [D])) D q z p l B (wrap64 (b + 1))) else (none))) else (none)) else (none))) else (none)) else (none)) else (none)) else (none)) else (flow_before.l0 k y q z (wrap64 (p + 1)))
end
def flow_before.f (k : Nat) (l : ByteArray) (p : List (S83)) (q : List (S85)) (y : Int) (b : List (S69)) : Option ((List (List Int))) := if 0 ≤ (b.length : Int) then (if ((b.length : Int) : Int).toNat ≤ 11728124029610 then (flow_before.l0 k (List.replicate ((b.length : Int) : Int).toNat []) b (b.length : Int) 0) else (none)) else (none)
theorem flow_before.calls (k : Nat) (b7 : ByteArray) (b8 : Option Addr) (b9 : Nat) (a6 : List (S83)) (c0 : Option Addr) (c1 : Nat) (a7 : List (S85)) (c3 : Int) (l6 : Option Addr) (c4 : Nat) (z : List (S69)) (r : List (List Int)) (w : World) (o5 : Kd.C k83 w b8 a6.length a6) (o6 : a6.length ≤ b9) (o7 : Kd.C k85 w c0 a7.length a7) (o8 : a7.length ≤ c1) (o9 : Kd.C k69 w l6 z.length z) (p0 : z.length ≤ c4) (h : flow_before.f k b7 a6 a7 c3 z = some r) :
  Calls Tryd.prog 61 #[.agg #[.string b7, .slice b8 a6.length b9, .slice c0 a7.length c1, .int .i64 c3, .slice l6 z.length c4]] w fun e w' => ∃ B3 : Value, e = .returned (B3) ∧ Kd.S (Kd.slice 3 (Kd.int .i64)) 27 w' w.heap.size (fun _ => True) B3 r ∧ Below w.heap.size w w' := by
 have H1 := Tryd.underlying26; have H2 := Tryd.underlying69; have F5 := a_ o5; have F6 := a_ o6; clear o5 o6; have F7 := a_ o7; have F8 := a_ o8; clear o7 o8; have z6 := a_ o9; have F9 := a_ p0; clear o9 p0; have HB := a_ (Below.refl w.heap.size w); have H : (if 0 ≤ (z.length : Int) then (if ((z.length : Int) : Int).toNat ≤ 11728124029610 then (flow_before.l0 k (List.replicate ((z.length : Int) : Int).toNat []) z (z.length : Int) 0) else (none)) else (none)) = some r := h
 clear h; replace H := q_gED H; obtain ⟨-, c2b0, c2b1, H⟩ := H; replace H := q_gED H; obtain ⟨-, c3b0, c3b1, H⟩ := H; obtain ⟨x8, j9⟩ : ∃ y_ : List (List Int), y_ = (List.replicate ((z.length : Int) : Int).toNat []) := ⟨_, rfl⟩; replace H : (flow_before.l0 k x8 z (z.length : Int) 0) = some r := q_rw j9 H
 have p1 := a_ j9; clear j9; have H' := a_ H
 clear H; go_enter Tryd.func61, Tryd.ntmps61
 go_wp2_with (first | ((with_reducible refine gd_ 1 rfl ?_); refine q_box 1 26 #[.string b7, .slice b8 a6.length b9, .slice c0 a7.length c1, .int .i64 c3, .slice l6 z.length c4] ?_; intro c8 hg w4 g4 hb; have D := a_ (g4); have G0 := a_ ((q_ge HB.out hg)); have I := a_ ((q_ge HB.out hg)); replace HB := a_ (q_st HB.out hb); clear hb g4 hg; obtain ⟨t8, t9, v0, v1, v2, v3, v4, v5, v6, v7⟩ := q_cf5 D.out) | ((with_reducible refine gd_ 12 rfl ?_); refine Kd.S_make (Kd.slice 3 (Kd.int .i64)) _ 27 rfl (N := 12) rfl 42 _ _ rfl (z.length : Int) rfl rfl Tryd.underlying42 (.slice none 0 0) 24 info27 rfl (by decide) (by omega) [] (ok := fun _ => True) (okp := fun _ => True) ⟨_, rfl, Kd.R_nil _ _ _ _ _⟩ (fun _ hk => hk) trivial (q_d) (Nat.le_trans (Nat.mul_le_mul_right _ (q_d : (z.length : Int).toNat ≤ 11728124029610)) (by omega)) (Below.refl _ _) (Nat.le_refl _) ?_; intro x9 w6 p2 hb hg_ hnew_; clear hg_ hnew_; (first | rw [← p1.out] at p2 | (simp only [Int.reduceToNat] at p2; rw [← p1.out] at p2)); have z7 := a_ (Kd.S_lower p2 (below_size (q_w1 HB.out I.out))); replace D := a_ (q_bk D.out hb); replace HB := a_ (q_st1 HB.out hb I.out); clear hb p2; obtain ⟨v8, v9, w2, w3, w5, w7, w8, w9, x0, x1⟩ := q_cf5 D.out))
 go_loopg [16] k (fun kq G1 w' => ∃ (l7 : List (List Int)) (q : Int), G1 = .int .i64 q ∧ Aside0 (flow_before.l0 kq l7 z (z.length : Int) q = some r) ∧ Aside0 (kq ≤ k) ∧ Aside0 (Kd.S (Kd.slice 3 (Kd.int .i64)) 27 w' w.heap.size (fun _ => True) x9 l7) ∧ Aside0 (w'.heap[c8]? = some (.cells #[.string b7, (.slice b8 a6.length b9), (.slice c0 a7.length c1), .int .i64 c3, (.slice l6 z.length c4)] 26 (0, 0))) ∧ Aside0 (Below w.heap.size w w'))
 case atStart => exact ⟨(x8), (0), q_r, H', ⟨Nat.le_refl _⟩, ⟨by (with_reducible repeat (first | apply Kd.S_alloc | apply Kd.S_drewN | apply Kd.S_drew)); exact z7.out⟩, ⟨q_k D.out⟩, ⟨q_w1 HB.out I.out⟩⟩
 case round => (
 clear H'; clear c2b0 c2b1 c3b0 c3b1 t8 t9 v0 v1 v2 v8 v9 w2 w3 w5 v3 v4 v5 v6 v7 w7 w8 w9 x0 x1; obtain ⟨l7, q, rfl, HA, g5, HO_3, D, HB⟩ := hrel; cases gk with
 | zero => exact absurd HA.out (by simp [flow_before.l0])
 | succ k1 => (
 have H := HA.out; clear HA; simp only [flow_before.l0] at H
 rcases q_ite H with ⟨c9b0, H⟩ | ⟨c9b0, H⟩
 {
 replace H := q_gD H; obtain ⟨-, c10b0, H⟩ := H; replace H := q_gD H; obtain ⟨-, c11b0, H⟩ := H; replace H := Option.bind_eq_some_iff.mp H; obtain ⟨y, y0, H⟩ := H; have G2 := a_ y0; clear y0; have H' := a_ H
 clear H; obtain ⟨d9, M, O, B6, p3, p4, p5, p6, p7, g6, g7, B7, C0⟩ := b_T69 z6.out HB.out q; cases B6; have p8 := a_ g7; have p9 := a_ g6; clear g7 g6; go_wp2_with (first | ((with_reducible refine gd_ 5 rfl ?_); refine q_box 5 69 #[.slice none 0 0, .int .i64 0, .int .i64 0, .int .i64 0, .int .i64 0] ?_; intro a1 hg I9 g4 hb; have F := a_ (g4); have G3 := a_ ((q_ge1 HB.out hg I.out)); have a0 := a_ ((q_ge1 HB.out hg I.out)); have T := a_ ((q_ne D.out hg)); have k0 := a_ ((q_en D.out hg)); replace HO_3 := a_ (Kd.S_below (by (with_reducible repeat (first | apply Kd.S_alloc | apply Kd.S_drewN | apply Kd.S_drew)); exact HO_3.out) hb); replace D := a_ (q_bk D.out hb); replace HB := a_ (q_st1 HB.out hb I.out); clear hb g4 hg; have G4 := k0.out; have G5 := T.out; obtain ⟨q0, q1, q2, q3, q4, q5, q6, q7, q8, q9⟩ := q_cf5 F.out) | ((with_reducible refine gc_ 44 rfl ?_); refine q_gl 22 #[.agg #[.slice M ((rd_T69 z q).f0).length O, .int .i64 ((rd_T69 z q).f1), .int .i64 ((rd_T69 z q).f2), .int .i64 ((rd_T69 z q).f3), .int .i64 ((rd_T69 z q).f4)]] Tryd.func44 rfl ?_; (with_reducible refine (flow_next.calls _ _ ((rd_T69 z q).f0) ((rd_T69 z q).f1) ((rd_T69 z q).f2) ((rd_T69 z q).f3) ((rd_T69 z q).f4) y _ (Kd.C_below p8.out (q_w2 HB.out I.out a0.out)) p9.out G2.out).mono ?_); rintro e J0 ⟨H4, rfl, z8, hb⟩; refine ⟨_, rfl, ?_⟩; have r0 := a_ (Kd.R_lower z8 (below_size (q_w2 HB.out I.out a0.out))); replace HO_3 := a_ (Kd.S_elder' (by (with_reducible repeat (first | apply Kd.S_alloc | apply Kd.S_drewN | apply Kd.S_drew)); exact (Kd.S_mono (Kd.S_far (p := ⟨a1, 4, none⟩) (Kd.S_far (p := ⟨a1, 3, none⟩) (Kd.S_far (p := ⟨a1, 2, none⟩) (Kd.S_far (p := ⟨a1, 1, none⟩) (Kd.S_far (p := ⟨a1, 0, none⟩) (Kd.S_types HO_3.out F.out (by decide)) (fun _ hk => hk.2) (.slice M ((rd_T69 z q).f0).length O)) (fun _ hk => hk.2) (.int .i64 ((rd_T69 z q).f1))) (fun _ hk => hk.2) (.int .i64 ((rd_T69 z q).f2))) (fun _ hk => hk.2) (.int .i64 ((rd_T69 z q).f3))) (fun _ hk => hk.2) (.int .i64 ((rd_T69 z q).f4))) (fun _ h_ => h_.1))) (Kd.R_base z8) hb); replace D := a_ (blk_below (g := c8) (o := .cells #[.string b7, .slice b8 a6.length b9, .slice c0 a7.length c1, .int .i64 c3, .slice (some d9) z.length c4] 26 (0, 0)) (by (with_reducible repeat (first | refine blk_drewN ?_ _ | refine blk_drew ?_ | refine blk_alloc ?_ _)); refine blk_far ?_ T.out _; (with_reducible repeat (first | refine blk_drewN ?_ _ | refine blk_drew ?_ | refine blk_alloc ?_ _)); refine blk_far ?_ T.out _; (with_reducible repeat (first | refine blk_drewN ?_ _ | refine blk_drew ?_ | refine blk_alloc ?_ _)); refine blk_far ?_ T.out _; (with_reducible repeat (first | refine blk_drewN ?_ _ | refine blk_drew ?_ | refine blk_alloc ?_ _)); refine blk_far ?_ T.out _; (with_reducible repeat (first | refine blk_drewN ?_ _ | refine blk_drew ?_ | refine blk_alloc ?_ _)); refine blk_far ?_ T.out _; (with_reducible repeat (first | refine blk_drewN ?_ _ | refine blk_drew ?_ | refine blk_alloc ?_ _)); exact D.out) hb); replace F := a_ (blk_below (g := a1) (o := .cells #[.slice M ((rd_T69 z q).f0).length O, .int .i64 ((rd_T69 z q).f1), .int .i64 ((rd_T69 z q).f2), .int .i64 ((rd_T69 z q).f3), .int .i64 ((rd_T69 z q).f4)] 69 (0, 0)) (by (with_reducible repeat (first | refine blk_drewN ?_ _ | refine blk_drew ?_ | refine blk_alloc ?_ _)); refine blk_put (cs := #[.slice M ((rd_T69 z q).f0).length O, .int .i64 ((rd_T69 z q).f1), .int .i64 ((rd_T69 z q).f2), .int .i64 ((rd_T69 z q).f3), .int .i64 0]) ?_ 4 _ rfl; (with_reducible repeat (first | refine blk_drewN ?_ _ | refine blk_drew ?_ | refine blk_alloc ?_ _)); refine blk_put (cs := #[.slice M ((rd_T69 z q).f0).length O, .int .i64 ((rd_T69 z q).f1), .int .i64 ((rd_T69 z q).f2), .int .i64 0, .int .i64 0]) ?_ 3 _ rfl; (with_reducible repeat (first | refine blk_drewN ?_ _ | refine blk_drew ?_ | refine blk_alloc ?_ _)); refine blk_put (cs := #[.slice M ((rd_T69 z q).f0).length O, .int .i64 ((rd_T69 z q).f1), .int .i64 0, .int .i64 0, .int .i64 0]) ?_ 2 _ rfl; (with_reducible repeat (first | refine blk_drewN ?_ _ | refine blk_drew ?_ | refine blk_alloc ?_ _)); refine blk_put (cs := #[.slice M ((rd_T69 z q).f0).length O, .int .i64 0, .int .i64 0, .int .i64 0, .int .i64 0]) ?_ 1 _ rfl; (with_reducible repeat (first | refine blk_drewN ?_ _ | refine blk_drew ?_ | refine blk_alloc ?_ _)); refine blk_put (cs := #[.slice none 0 0, .int .i64 0, .int .i64 0, .int .i64 0, .int .i64 0]) ?_ 0 _ rfl; (with_reducible repeat (first | refine blk_drewN ?_ _ | refine blk_drew ?_ | refine blk_alloc ?_ _)); exact F.out) hb); replace HB := a_ (q_st2 HB.out hb I.out a0.out); clear hb z8; obtain ⟨y1, g1, C1⟩ := Kd.R_slice r0.out; subst C1))
 go_loopg [24] k1 (fun kq G6 w' => ∃ (B : List (List Int)) (l : Int), G6 = .int .i64 l ∧ Aside0 (flow_before.l1 kq B q z (z.length : Int) q y (y.length : Int) l = some r) ∧ Aside0 (kq ≤ k1) ∧ Aside0 (Kd.S (Kd.slice 3 (Kd.int .i64)) 27 w' w.heap.size (fun k_ => some k_ ≠ ((.slice y1 y.length g1) : Value).ownBlock) x9 B) ∧ Aside0 (Kd.R (Kd.int .i64) 3 w' w.heap.size (fun _ => True) (.slice y1 y.length g1) y) ∧ Aside0 (w'.heap[c8]? = some (.cells #[.string b7, (.slice b8 a6.length b9), (.slice c0 a7.length c1), .int .i64 c3, (.slice (some d9) z.length c4)] 26 (0, 0))) ∧ Aside0 (w'.heap[a1]? = some (.cells #[(.slice M ((rd_T69 z q).f0).length O), .int .i64 ((rd_T69 z q).f1), .int .i64 ((rd_T69 z q).f2), .int .i64 ((rd_T69 z q).f3), .int .i64 ((rd_T69 z q).f4)] 69 (0, 0))) ∧ Aside0 (Below w.heap.size w w'))
 case atStart => exact ⟨(l7), (0), q_r, H', ⟨Nat.le_refl _⟩, ⟨by (with_reducible repeat (first | apply Kd.S_alloc | apply Kd.S_drewN | apply Kd.S_drew)); exact Kd.S_mono HO_3.out (fun _ hk => hk.2)⟩, ⟨by (with_reducible repeat (first | apply Kd.R_alloc | apply Kd.R_drewN | apply Kd.R_drew)); exact r0.out⟩, ⟨q_k D.out⟩, ⟨q_k F.out⟩, ⟨q_w2 HB.out I.out a0.out⟩⟩
 case round => (
 clear H'; clear c9b0 c10b0 c11b0 q0 q1 q2 q3 q4 q5 q6 q7 q8 q9 p3 p4 p5 p6 p7 B7 C0; obtain ⟨B, l, rfl, HA, g8, HO_3, HO_22, D, F, HB⟩ := hrel; cases gk with
 | zero => exact absurd HA.out (by simp [flow_before.l1])
 | succ k2 => (
 have H := HA.out; clear HA; simp only [flow_before.l1] at H
 rcases q_ite H with ⟨c18b0, H⟩ | ⟨c18b0, H⟩
 {
 replace H := q_gD H; obtain ⟨-, c19b0, H⟩ := H; replace H := q_gD H; obtain ⟨-, c20b0, H⟩ := H; replace H := q_gD H; obtain ⟨-, c21b0, H⟩ := H; replace H := q_gD H; obtain ⟨-, c22b0, H⟩ := H; replace H := q_iBN H; rcases H with ⟨-, c23b0, c23b1, H⟩ | ⟨G7, c23b0, c23b1, H⟩
 {
 replace H := q_g H; obtain ⟨C2, H⟩ := H; have z9 := a_ C2; clear C2; obtain ⟨g9, k3⟩ : ∃ y_ : List Int, y_ = ((rd_L2 B (rd y l)) ++ [q]) := ⟨_, rfl⟩; replace H : (flow_before.l1 k2 (B.set ((rd y l) : Int).toNat g9) q z (z.length : Int) q y (y.length : Int) (wrap64 (l + 1))) = some r := q_rw k3 H
 have A0 := a_ k3; clear k3; obtain ⟨r1, k4⟩ : ∃ y_ : List (List Int), y_ = (B.set ((rd y l) : Int).toNat g9) := ⟨_, rfl⟩; replace H : (flow_before.l1 k2 r1 q z (z.length : Int) q y (y.length : Int) (wrap64 (l + 1))) = some r := q_rw k4 H
 have A1 := a_ k4; clear k4; have H' := a_ H
 clear H; have a9 : 0 ≤ (l : Int) := q_d
 have b0 : l < (y.length : Int) := q_d
 obtain ⟨e0, i0, i1⟩ := Kd.at_int (Kd.R_reads' HO_22.out).2.2 l a9 b0; cases i0; replace a9 := eq_true a9; replace b0 := eq_true b0; obtain ⟨H5, y2, C3⟩ := Kd.S_slice HO_3.out; subst C3; have a3 : 0 ≤ ((rd y l) : Int) := q_d
 have a4 : (rd y l) < (B.length : Int) := q_d
 obtain ⟨e1, e2, b6, i2, G, U, V⟩ := at_L2 (Kd.S_reads' HO_3.out).2.2 (rd y l) a3 a4; cases i2; obtain ⟨r2, c9, d0, a5⟩ := Kd.S_get HO_3.out [] (rd y l) a3 (by first | exact a4 | exact q_d | (have e_ := (Kd.S_reads' HO_3.out).1; omega))
 obtain ⟨i3, rfl, J⟩ := d0; have E := a5 0 _ rfl; rw [Nat.add_zero, show ((Kd.slice 3 (Kd.int .i64))).sz = 1 from rfl, Nat.mul_one] at E; replace E := Option.some.inj (E.symm.trans G); rw [E] at J; have d1 := a_ (show Kd.R (Kd.int .i64) 3 _ _ _ _ (rd_L2 B (rd y l)) from J); clear E J; have i4 := a_ G; clear a5 c9; have i5 := a_ V; have i6 := a_ U; clear V U; replace a3 := eq_true a3; replace a4 := eq_true a4; have l8 : 0 ≤ ((rd y l) : Int) := q_d
 have l9 : (rd y l) < (B.length : Int) := q_d
 obtain ⟨A2, E9, F0, C4, d2, i7, i8⟩ := at_L2 (Kd.S_reads' HO_3.out).2.2 (rd y l) l8 l9; obtain rfl : e1 = A2 := (by injection C4)
 obtain ⟨G8, x2, x3, n0⟩ := Kd.S_get HO_3.out [] (rd y l) l8 (by first | exact l9 | exact q_d | (have e_ := (Kd.S_reads' HO_3.out).1; omega))
 obtain ⟨C5, rfl, e5⟩ := x3; have b1 := n0 0 _ rfl; rw [Nat.add_zero, show ((Kd.slice 3 (Kd.int .i64))).sz = 1 from rfl, Nat.mul_one] at b1; replace b1 := Option.some.inj (b1.symm.trans d2); rw [b1] at e5; have d3 := a_ (show Kd.R (Kd.int .i64) 3 _ _ _ _ (rd_L2 B (rd y l)) from e5); clear b1 e5; have r3 := a_ d2; clear n0 x2; have C6 := a_ i8; have C7 := a_ i7; clear i8 i7; replace l8 := eq_true l8; replace l9 := eq_true l9; have ea_ := Option.some.inj (G.symm.trans d2); injection ea_ with ea_ en_ ec_
 subst ea_; subst ec_; clear en_; obtain ⟨n1, H6, y3, y4, C8, H7, y5⟩ := Kd.S_form HO_3.out (by have h_ : ((rd y l) : Int) < ((B.length : Int) : Int) := q_d; have G9 : 0 ≤ ((rd y l) : Int) := (q_d); omega)
 (first | cases y3 | (injection y3 with ea_ en_ ec_; (first | subst ea_ | (injection ea_ with ea_; subst ea_)); subst ec_; clear en_))
 have C9 := a_ y4; have H8 := a_ y5; clear y4 C8 y5; (first | simp only [add_plain] at G | skip)
 (first | simp only [add_plain] at d2 | skip)
 obtain ⟨r4, H9, A3, D0, r5, _, _, y6⟩ := Kd.S_elem HO_3.out [] ((rd y l) : Int) (q_d) (by have h_ : ((rd y l) : Int) < ((B.length : Int) : Int) := q_d; first | exact h_ | (have e_ := (Kd.S_reads' HO_3.out).1; omega) | simpa using h_)
 obtain ⟨F1, rfl, n2⟩ := D0; have i9 := r5 0 _ rfl; have r6 := r3.out; (try simp only [add_plain] at r6)
 (try simp only [Nat.add_zero] at i9)
 (try rw [show ((Kd.slice 3 (Kd.int .i64))).sz = 1 from rfl, Nat.mul_one] at i9)
 replace i9 := Option.some.inj (i9.symm.trans r6); subst i9; clear r6 r5 A3; have r7 := a_ (show Kd.R (Kd.int .i64) 3 _ w.heap.size r4 (.slice e2 (rd_L2 B (rd y l)).length b6) (rd_L2 B (rd y l)) from n2); have e6 := a_ y6; have r8 := a_ (Kd.S_reads' HO_3.out).1; clear y6 n2; go_wp2_with (first | ((with_reducible refine gate_builtin (b := .append) (xs := #[.tmp 52, .tmp 54]) rfl ?_); at_builtin; refine Kd.R_append (Kd.int .i64) (w0 := w) w.heap.size rfl (.tmp 52) (.tmp 54) 27 3 (.int .i64 0) 8 rfl Tryd.underlying27 info3 rfl (by decide) (by omega) (.slice e2 (rd_L2 B (rd y l)).length b6) (rd_L2 B (rd y l)) q [.int .i64 q] (fun k_ => r4 k_ ∨ ((fun k_ => some k_ ≠ (.slice (some e0) y.length g1 : Value).ownBlock)) k_ ∧ wr.heap.size ≤ k_) (fun _ => False) rfl rfl ?aP (fun _ hk => hk.elim) ?aF ?aO ?aB ?aS ?aL ?_; (case aP => exact rfl); (case aB => exact (q_w2 HB.out I.out a0.out)); (case aF => exact (fun k_ hk => .inr ⟨Kd.fresh' (Kd.R_lt (by (with_reducible repeat (first | apply Kd.R_alloc | apply Kd.R_drewN | apply Kd.R_drew)); exact HO_22.out)) k_ hk, hk⟩)); (case aO => exact (by (with_reducible repeat (first | apply Kd.R_alloc | apply Kd.R_drewN | apply Kd.R_drew)); exact Kd.R_mono r7.out (fun _ hk => .inl hk))); (case aS => exact (below_size (q_w2 HB.out I.out a0.out))); (case aL => have := z9.out; omega); intro I0 D1 ho hb hg hat; rw [← A0.out] at ho; have e7 := a_ (Kd.R_grown2 (by (with_reducible repeat (first | apply Kd.R_alloc | apply Kd.R_drewN | apply Kd.R_drew)); exact HO_22.out) rfl hg (fun k_ e_ => (d3.out.1 k_ e_).1)); have e8 := a_ (blk_grown (g := c8) (o := .cells #[.string b7, .slice b8 a6.length b9, .slice c0 a7.length c1, .int .i64 c3, .slice (some d9) z.length c4] 26 (0, 0)) (q_k D.out) hg (Kd.R_ne d3.out D.out (by decide))); have e9 := a_ (blk_grown (g := a1) (o := .cells #[.slice M ((rd_T69 z q).f0).length O, .int .i64 ((rd_T69 z q).f1), .int .i64 ((rd_T69 z q).f2), .int .i64 ((rd_T69 z q).f3), .int .i64 ((rd_T69 z q).f4)] 69 (0, 0)) (q_k F.out) hg (Kd.R_ne d3.out F.out (by decide))); have f5 := a_ (hb); have f6 := a_ (Kd.H_grown (Kd.H_widen (by repeat (first | exact e6.out | refine Kd.H_alloc ?_ _ | refine Kd.H_drewN ?_ _ | refine Kd.H_drew ?_))) hg (fun k_ e_ => .inl (r7.out.1 k_ e_))); have r9 := a_ (ho); clear HO_22; clear D; clear F; clear HB; clear e6; clear HO_3; clear r7; clear d1; clear d3; have HO_22 := e7; have D := e8; have F := e9; have HB := f5; have e6 := f6; have k5 := r9; clear e7 e8 e9 f5 f6 r9; clear ho hb hg hat; have D2 : 0 ≤ ((rd y l) : Int) := q_d; have D3 : ((rd y l) : Int) < ((B.length : Int) : Int) := q_d; replace D2 := eq_true D2; replace D3 := eq_true D3; obtain ⟨y7, y8, D4⟩ := Kd.R_slice k5.out; subst D4; obtain ⟨_, _, e3, _, _, s0, _⟩ := Kd.H_raw e6.out (q_d) (by have h_ : ((rd y l) : Int) < ((B.length : Int) : Int) := q_d; first | exact h_ | (have e_ := (r8.out); omega) | simpa using h_); obtain ⟨_, s1⟩ := Kd.H_at e6.out (q_d) (by have h_ : ((rd y l) : Int) < ((B.length : Int) : Int) := q_d; first | exact h_ | (have e_ := (r8.out); omega) | simpa using h_); have n3 := s0 0 _ rfl; have n4 := s1 0; (try simp only [Nat.add_zero] at n3 n4); (try rw [show ((Kd.slice 3 (Kd.int .i64))).sz = 1 from rfl, Nat.mul_one] at n3); (try rw [show ((Kd.slice 3 (Kd.int .i64))).sz = 1 from rfl, Nat.mul_one] at n4); have n5 := Kd.S_seg0 e6.out (q_d) (by have h_ : ((rd y l) : Int) < ((B.length : Int) : Int) := q_d; first | exact h_ | (have e_ := (r8.out); omega) | simpa using h_) (seg := [.slice y7 g9.length y8]) (j := 0) (show 1 ≤ 1 from by decide) (x' := g9) (Kd.M_row k5.out) (fun _ hk => hk); (try simp only [show ((Kd.slice 3 (Kd.int .i64))).sz = 1 from rfl, Nat.mul_one, Nat.add_zero] at n5); clear s0 s1) | ((with_reducible refine gate_store (t := 27) (p := 56) rfl ?_); refine store_event (t := 27) (p := 56) (v := ?vo_w30) (w1 := (D1.setCell ⟨n1, ((rd y l) : Int).toNat, none⟩ (.slice y7 g9.length y8))) ?hg ?ho ?hn ?hr ?_; (case ho => rfl); (case hg => rfl); (case hn => rfl); (case hr => first | (go_simp; done) | (go_simp; rfl)); intro A4 hw; have hg : D1.grownBy A4 (some n1) := (by rw [hw]; exact n5.2); have hp_ : Kd.S (Kd.slice 3 (Kd.int .i64)) 27 A4 w.heap.size (fun k_ => some k_ ≠ (.slice (some e0) y.length g1 : Value).ownBlock) (.slice (some ⟨n1, 0, none⟩) B.length y2) r1 := (by rw [hw, A1.out]; exact n5.1); clear n5; have e7 := a_ (Kd.R_over' (v := (.slice (some ⟨n1, 0, none⟩) B.length y2)) (by (with_reducible repeat (first | apply Kd.R_alloc | apply Kd.R_drewN | apply Kd.R_drew)); exact HO_22.out) (Kd.R_typed e3) (by decide) hg); have e8 := a_ (blk_grown (g := c8) (o := .cells #[.string b7, .slice b8 a6.length b9, .slice c0 a7.length c1, .int .i64 c3, .slice (some d9) z.length c4] 26 (0, 0)) (q_k D.out) hg (Kd.R_ne e3 D.out (by decide))); have e9 := a_ (blk_grown (g := a1) (o := .cells #[.slice M ((rd_T69 z q).f0).length O, .int .i64 ((rd_T69 z q).f1), .int .i64 ((rd_T69 z q).f2), .int .i64 ((rd_T69 z q).f3), .int .i64 ((rd_T69 z q).f4)] 69 (0, 0)) (q_k F.out) hg (Kd.R_ne e3 F.out (by decide))); have f5 := a_ ((by rw [hw]; exact below_set HB.out C9.out : Below w.heap.size w A4)); have f6 := a_ (hp_); clear HO_22; clear D; clear F; clear HB; clear k5; clear e6; have HO_22 := e7; have D := e8; have F := e9; have HB := f5; have HO_3 := f6; clear e7 e8 e9 f5 f6; clear hg hw hp_ e3))
 go_roundg k2
 case measure => have := g5.out; have := g8.out; omega
 case rel => exact ⟨(r1), (wrap64 (l + 1)), q_r, H', ⟨by have := g5.out; have := g8.out; omega⟩, ⟨by (with_reducible repeat (first | apply Kd.S_alloc | apply Kd.S_drewN | apply Kd.S_drew)); exact HO_3.out⟩, ⟨by (with_reducible repeat (first | apply Kd.R_alloc | apply Kd.R_drewN | apply Kd.R_drew)); exact HO_22.out⟩, ⟨q_k D.out⟩, ⟨q_k F.out⟩, ⟨q_w2 HB.out I.out a0.out⟩⟩}
 {
 have c23b2 : ¬ ((rd_L2 B (rd y l)) = []) := fun h_ => G7 (by rw [h_]; rfl)
 obtain ⟨c6, k6⟩ : ∃ j_ : Int, (wrap64 (((rd_L2 B (rd y l)).length : Int) - 1)) = j_ := ⟨_, rfl⟩; replace H : (if 0 ≤ (c6) then (if (c6) < ((rd_L2 B (rd y l)).length : Int) then (if (rd (rd_L2 B (rd y l)) (c6)) = q then (flow_before.l1 k2 B q z (z.length : Int) q y (y.length : Int) (wrap64 (l + 1))) else (if (rd_L2 B (rd y l)).length < 17592186044416 then (flow_before.l1 k2 (B.set ((rd y l) : Int).toNat ((rd_L2 B (rd y l)) ++ [q])) q z (z.length : Int) q y (y.length : Int) (wrap64 (l + 1))) else (none))) else (none)) else (none)) = some r := by first | (rw [k6] at H; exact H) | (simp only [k6] at H ⊢; exact H)
 have hji32w : (IntKind.i64.wrap (((rd_L2 B (rd y l)).length : Int) - 1)) = c6 := (i64_w _).trans k6
 replace H := q_gD H; obtain ⟨-, c33b0, H⟩ := H; replace H := q_gD H; obtain ⟨-, c34b0, H⟩ := H; replace H := q_iBN H; rcases H with ⟨-, c35b0, c35b1, H⟩ | ⟨J1, c35b0, c35b1, H⟩
 {
 have H' := a_ H
 clear H; have a9 : 0 ≤ (l : Int) := q_d
 have b0 : l < (y.length : Int) := q_d
 obtain ⟨e0, i0, i1⟩ := Kd.at_int (Kd.R_reads' HO_22.out).2.2 l a9 b0; cases i0; replace a9 := eq_true a9; replace b0 := eq_true b0; obtain ⟨I1, I2, D5⟩ := Kd.S_slice HO_3.out; subst D5; have a3 : 0 ≤ ((rd y l) : Int) := q_d
 have a4 : (rd y l) < (B.length : Int) := q_d
 obtain ⟨e1, e2, b6, i2, G, U, V⟩ := at_L2 (Kd.S_reads' HO_3.out).2.2 (rd y l) a3 a4; cases i2; obtain ⟨r2, c9, d0, a5⟩ := Kd.S_get HO_3.out [] (rd y l) a3 (by first | exact a4 | exact q_d | (have e_ := (Kd.S_reads' HO_3.out).1; omega))
 obtain ⟨i3, rfl, J⟩ := d0; have E := a5 0 _ rfl; rw [Nat.add_zero, show ((Kd.slice 3 (Kd.int .i64))).sz = 1 from rfl, Nat.mul_one] at E; replace E := Option.some.inj (E.symm.trans G); rw [E] at J; have d1 := a_ (show Kd.R (Kd.int .i64) 3 _ _ _ _ (rd_L2 B (rd y l)) from J); clear E J; have i4 := a_ G; clear a5 c9; have i5 := a_ V; have i6 := a_ U; clear V U; replace a3 := eq_true a3; replace a4 := eq_true a4; have d4 : 0 ≤ ((rd y l) : Int) := q_d
 have d5 : (rd y l) < (B.length : Int) := q_d
 obtain ⟨k7, x4, x5, s2, X, b2, b3⟩ := at_L2 (Kd.S_reads' HO_3.out).2.2 (rd y l) d4 d5; obtain rfl : e1 = k7 := (by injection s2)
 obtain ⟨A5, g2, g3, d6⟩ := Kd.S_get HO_3.out [] (rd y l) d4 (by first | exact d5 | exact q_d | (have e_ := (Kd.S_reads' HO_3.out).1; omega))
 obtain ⟨s3, rfl, a2⟩ := g3; have L := d6 0 _ rfl; rw [Nat.add_zero, show ((Kd.slice 3 (Kd.int .i64))).sz = 1 from rfl, Nat.mul_one] at L; replace L := Option.some.inj (L.symm.trans X); rw [L] at a2; have j3 := a_ (show Kd.R (Kd.int .i64) 3 _ _ _ _ (rd_L2 B (rd y l)) from a2); clear L a2; have s4 := a_ X; clear d6 g2; have b4 := a_ b3; have s5 := a_ b2; clear b3 b2; replace d4 := eq_true d4; replace d5 := eq_true d5; have ea_ := Option.some.inj (G.symm.trans X); injection ea_ with ea_ en_ ec_
 subst ea_; subst ec_; clear en_; have f7 : 0 ≤ ((c6) : Int) := q_d
 have f8 : (c6) < ((rd_L2 B (rd y l)).length : Int) := q_d
 obtain ⟨k8, s6, s7⟩ := Kd.at_int (by repeat (first | (with_reducible exact b4.out) | with_reducible first | refine Kd.C_alloc ?_ _ | refine Kd.C_drewN ?_ _ | refine Kd.C_drew ?_ | exact b4.out)) (c6) f7 f8
 cases s6; replace f7 := eq_true f7; replace f8 := eq_true f8; go_wp2
 go_roundg k2
 case measure => have := g5.out; have := g8.out; omega
 case rel => exact ⟨(B), (wrap64 (l + 1)), q_r, H', ⟨by have := g5.out; have := g8.out; omega⟩, ⟨by (with_reducible repeat (first | apply Kd.S_alloc | apply Kd.S_drewN | apply Kd.S_drew)); exact HO_3.out⟩, ⟨by (with_reducible repeat (first | apply Kd.R_alloc | apply Kd.R_drewN | apply Kd.R_drew)); exact HO_22.out⟩, ⟨q_k D.out⟩, ⟨q_k F.out⟩, ⟨q_w2 HB.out I.out a0.out⟩⟩}
 {
 replace H := q_g H; obtain ⟨D6, H⟩ := H; have A6 := a_ D6; clear D6; obtain ⟨j5, k9⟩ : ∃ y_ : List Int, y_ = ((rd_L2 B (rd y l)) ++ [q]) := ⟨_, rfl⟩; replace H : (flow_before.l1 k2 (B.set ((rd y l) : Int).toNat j5) q z (z.length : Int) q y (y.length : Int) (wrap64 (l + 1))) = some r := q_rw k9 H
 have A7 := a_ k9; clear k9; obtain ⟨s8, l4⟩ : ∃ y_ : List (List Int), y_ = (B.set ((rd y l) : Int).toNat j5) := ⟨_, rfl⟩; replace H : (flow_before.l1 k2 s8 q z (z.length : Int) q y (y.length : Int) (wrap64 (l + 1))) = some r := q_rw l4 H
 have A8 := a_ l4; clear l4; have H' := a_ H
 clear H; have a9 : 0 ≤ (l : Int) := q_d
 have b0 : l < (y.length : Int) := q_d
 obtain ⟨e0, i0, i1⟩ := Kd.at_int (Kd.R_reads' HO_22.out).2.2 l a9 b0; cases i0; replace a9 := eq_true a9; replace b0 := eq_true b0; obtain ⟨I3, y9, D7⟩ := Kd.S_slice HO_3.out; subst D7; have a3 : 0 ≤ ((rd y l) : Int) := q_d
 have a4 : (rd y l) < (B.length : Int) := q_d
 obtain ⟨e1, e2, b6, i2, G, U, V⟩ := at_L2 (Kd.S_reads' HO_3.out).2.2 (rd y l) a3 a4; cases i2; obtain ⟨r2, c9, d0, a5⟩ := Kd.S_get HO_3.out [] (rd y l) a3 (by first | exact a4 | exact q_d | (have e_ := (Kd.S_reads' HO_3.out).1; omega))
 obtain ⟨i3, rfl, J⟩ := d0; have E := a5 0 _ rfl; rw [Nat.add_zero, show ((Kd.slice 3 (Kd.int .i64))).sz = 1 from rfl, Nat.mul_one] at E; replace E := Option.some.inj (E.symm.trans G); rw [E] at J; have d1 := a_ (show Kd.R (Kd.int .i64) 3 _ _ _ _ (rd_L2 B (rd y l)) from J); clear E J; have i4 := a_ G; clear a5 c9; have i5 := a_ V; have i6 := a_ U; clear V U; replace a3 := eq_true a3; replace a4 := eq_true a4; have d4 : 0 ≤ ((rd y l) : Int) := q_d
 have d5 : (rd y l) < (B.length : Int) := q_d
 obtain ⟨k7, x4, x5, s2, X, b2, b3⟩ := at_L2 (Kd.S_reads' HO_3.out).2.2 (rd y l) d4 d5; obtain rfl : e1 = k7 := (by injection s2)
 obtain ⟨A5, g2, g3, d6⟩ := Kd.S_get HO_3.out [] (rd y l) d4 (by first | exact d5 | exact q_d | (have e_ := (Kd.S_reads' HO_3.out).1; omega))
 obtain ⟨s3, rfl, a2⟩ := g3; have L := d6 0 _ rfl; rw [Nat.add_zero, show ((Kd.slice 3 (Kd.int .i64))).sz = 1 from rfl, Nat.mul_one] at L; replace L := Option.some.inj (L.symm.trans X); rw [L] at a2; have j3 := a_ (show Kd.R (Kd.int .i64) 3 _ _ _ _ (rd_L2 B (rd y l)) from a2); clear L a2; have s4 := a_ X; clear d6 g2; have b4 := a_ b3; have s5 := a_ b2; clear b3 b2; replace d4 := eq_true d4; replace d5 := eq_true d5; have ea_ := Option.some.inj (G.symm.trans X); injection ea_ with ea_ en_ ec_
 subst ea_; subst ec_; clear en_; have f7 : 0 ≤ ((c6) : Int) := q_d
 have f8 : (c6) < ((rd_L2 B (rd y l)).length : Int) := q_d
 obtain ⟨k8, s6, s7⟩ := Kd.at_int (by repeat (first | (with_reducible exact b4.out) | with_reducible first | refine Kd.C_alloc ?_ _ | refine Kd.C_drewN ?_ _ | refine Kd.C_drew ?_ | exact b4.out)) (c6) f7 f8
 cases s6; replace f7 := eq_true f7; replace f8 := eq_true f8; have n6 : 0 ≤ ((rd y l) : Int) := q_d
 have n7 : (rd y l) < (B.length : Int) := q_d
 obtain ⟨A9, F2, F3, D8, d7, j6, j7⟩ := at_L2 (Kd.S_reads' HO_3.out).2.2 (rd y l) n6 n7; obtain rfl : e1 = A9 := (by injection D8)
 obtain ⟨H0, x6, x7, n8⟩ := Kd.S_get HO_3.out [] (rd y l) n6 (by first | exact n7 | exact q_d | (have e_ := (Kd.S_reads' HO_3.out).1; omega))
 obtain ⟨D9, rfl, f9⟩ := x7; have b5 := n8 0 _ rfl; rw [Nat.add_zero, show ((Kd.slice 3 (Kd.int .i64))).sz = 1 from rfl, Nat.mul_one] at b5; replace b5 := Option.some.inj (b5.symm.trans d7); rw [b5] at f9; have d8 := a_ (show Kd.R (Kd.int .i64) 3 _ _ _ _ (rd_L2 B (rd y l)) from f9); clear b5 f9; have s9 := a_ d7; clear n8 x6; have E0 := a_ j7; have E1 := a_ j6; clear j7 j6; replace n6 := eq_true n6; replace n7 := eq_true n7; have ea_ := Option.some.inj (G.symm.trans d7); injection ea_ with ea_ en_ ec_
 subst ea_; subst ec_; clear en_; obtain ⟨n9, I4, z0, z1, E2, I5, z2⟩ := Kd.S_form HO_3.out (by have h_ : ((rd y l) : Int) < ((B.length : Int) : Int) := q_d; have G9 : 0 ≤ ((rd y l) : Int) := (q_d); omega)
 (first | cases z0 | (injection z0 with ea_ en_ ec_; (first | subst ea_ | (injection ea_ with ea_; subst ea_)); subst ec_; clear en_))
 have E3 := a_ z1; have I6 := a_ z2; clear z1 E2 z2; (first | simp only [add_plain] at G | skip)
 (first | simp only [add_plain] at X | skip)
 (first | simp only [add_plain] at d7 | skip)
 obtain ⟨t0, I7, B1, E4, t1, _, _, z3⟩ := Kd.S_elem HO_3.out [] ((rd y l) : Int) (q_d) (by have h_ : ((rd y l) : Int) < ((B.length : Int) : Int) := q_d; first | exact h_ | (have e_ := (Kd.S_reads' HO_3.out).1; omega) | simpa using h_)
 obtain ⟨F4, rfl, o0⟩ := E4; have j8 := t1 0 _ rfl; have t2 := s9.out; (try simp only [add_plain] at t2)
 (try simp only [Nat.add_zero] at j8)
 (try rw [show ((Kd.slice 3 (Kd.int .i64))).sz = 1 from rfl, Nat.mul_one] at j8)
 replace j8 := Option.some.inj (j8.symm.trans t2); subst j8; clear t2 t1 B1; have t3 := a_ (show Kd.R (Kd.int .i64) 3 _ w.heap.size t0 (.slice (some k8) (rd_L2 B (rd y l)).length b6) (rd_L2 B (rd y l)) from o0); have g0 := a_ z3; have t4 := a_ (Kd.S_reads' HO_3.out).1; clear z3 o0; go_wp2_with (first | ((with_reducible refine gate_builtin (b := .append) (xs := #[.tmp 52, .tmp 54]) rfl ?_); at_builtin; refine Kd.R_append (Kd.int .i64) (w0 := w) w.heap.size rfl (.tmp 52) (.tmp 54) 27 3 (.int .i64 0) 8 rfl Tryd.underlying27 info3 rfl (by decide) (by omega) (.slice (some k8) (rd_L2 B (rd y l)).length b6) (rd_L2 B (rd y l)) q [.int .i64 q] (fun k_ => t0 k_ ∨ ((fun k_ => some k_ ≠ (.slice (some e0) y.length g1 : Value).ownBlock)) k_ ∧ wr.heap.size ≤ k_) (fun _ => False) rfl rfl ?aP (fun _ hk => hk.elim) ?aF ?aO ?aB ?aS ?aL ?_; (case aP => exact rfl); (case aB => exact (q_w2 HB.out I.out a0.out)); (case aF => exact (fun k_ hk => .inr ⟨Kd.fresh' (Kd.R_lt (by (with_reducible repeat (first | apply Kd.R_alloc | apply Kd.R_drewN | apply Kd.R_drew)); exact HO_22.out)) k_ hk, hk⟩)); (case aO => exact (by (with_reducible repeat (first | apply Kd.R_alloc | apply Kd.R_drewN | apply Kd.R_drew)); exact Kd.R_mono t3.out (fun _ hk => .inl hk))); (case aS => exact (below_size (q_w2 HB.out I.out a0.out))); (case aL => have := A6.out; omega); intro I8 E5 ho hb hg hat; rw [← A7.out] at ho; have e7 := a_ (Kd.R_grown2 (by (with_reducible repeat (first | apply Kd.R_alloc | apply Kd.R_drewN | apply Kd.R_drew)); exact HO_22.out) rfl hg (fun k_ e_ => (d8.out.1 k_ e_).1)); have e8 := a_ (blk_grown (g := c8) (o := .cells #[.string b7, .slice b8 a6.length b9, .slice c0 a7.length c1, .int .i64 c3, .slice (some d9) z.length c4] 26 (0, 0)) (q_k D.out) hg (Kd.R_ne d8.out D.out (by decide))); have e9 := a_ (blk_grown (g := a1) (o := .cells #[.slice M ((rd_T69 z q).f0).length O, .int .i64 ((rd_T69 z q).f1), .int .i64 ((rd_T69 z q).f2), .int .i64 ((rd_T69 z q).f3), .int .i64 ((rd_T69 z q).f4)] 69 (0, 0)) (q_k F.out) hg (Kd.R_ne d8.out F.out (by decide))); have f5 := a_ (hb); have f6 := a_ (Kd.H_grown (Kd.H_widen (by repeat (first | exact g0.out | refine Kd.H_alloc ?_ _ | refine Kd.H_drewN ?_ _ | refine Kd.H_drew ?_))) hg (fun k_ e_ => .inl (t3.out.1 k_ e_))); have r9 := a_ (ho); clear HO_22; clear D; clear F; clear HB; clear g0; clear HO_3; clear t3; clear d1; clear j3; clear d8; have HO_22 := e7; have D := e8; have F := e9; have HB := f5; have g0 := f6; have l5 := r9; clear e7 e8 e9 f5 f6 r9; clear ho hb hg hat; have E6 : 0 ≤ ((rd y l) : Int) := q_d; have E7 : ((rd y l) : Int) < ((B.length : Int) : Int) := q_d; replace E6 := eq_true E6; replace E7 := eq_true E7; obtain ⟨z4, z5, E8⟩ := Kd.R_slice l5.out; subst E8; obtain ⟨_, _, e4, _, _, t5, _⟩ := Kd.H_raw g0.out (q_d) (by have h_ : ((rd y l) : Int) < ((B.length : Int) : Int) := q_d; first | exact h_ | (have e_ := (t4.out); omega) | simpa using h_); obtain ⟨_, t6⟩ := Kd.H_at g0.out (q_d) (by have h_ : ((rd y l) : Int) < ((B.length : Int) : Int) := q_d; first | exact h_ | (have e_ := (t4.out); omega) | simpa using h_); have o1 := t5 0 _ rfl; have o2 := t6 0; (try simp only [Nat.add_zero] at o1 o2); (try rw [show ((Kd.slice 3 (Kd.int .i64))).sz = 1 from rfl, Nat.mul_one] at o1); (try rw [show ((Kd.slice 3 (Kd.int .i64))).sz = 1 from rfl, Nat.mul_one] at o2); have o3 := Kd.S_seg0 g0.out (q_d) (by have h_ : ((rd y l) : Int) < ((B.length : Int) : Int) := q_d; first | exact h_ | (have e_ := (t4.out); omega) | simpa using h_) (seg := [.slice z4 j5.length z5]) (j := 0) (show 1 ≤ 1 from by decide) (x' := j5) (Kd.M_row l5.out) (fun _ hk => hk); (try simp only [show ((Kd.slice 3 (Kd.int .i64))).sz = 1 from rfl, Nat.mul_one, Nat.add_zero] at o3); clear t5 t6) | ((with_reducible refine gate_store (t := 27) (p := 56) rfl ?_); refine store_event (t := 27) (p := 56) (v := ?vo_w43) (w1 := (E5.setCell ⟨n9, ((rd y l) : Int).toNat, none⟩ (.slice z4 j5.length z5))) ?hg ?ho ?hn ?hr ?_; (case ho => rfl); (case hg => rfl); (case hn => rfl); (case hr => first | (go_simp; done) | (go_simp; rfl)); intro B2 hw; have hg : E5.grownBy B2 (some n9) := (by rw [hw]; exact o3.2); have hp_ : Kd.S (Kd.slice 3 (Kd.int .i64)) 27 B2 w.heap.size (fun k_ => some k_ ≠ (.slice (some e0) y.length g1 : Value).ownBlock) (.slice (some ⟨n9, 0, none⟩) B.length y9) s8 := (by rw [hw, A8.out]; exact o3.1); clear o3; have e7 := a_ (Kd.R_over' (v := (.slice (some ⟨n9, 0, none⟩) B.length y9)) (by (with_reducible repeat (first | apply Kd.R_alloc | apply Kd.R_drewN | apply Kd.R_drew)); exact HO_22.out) (Kd.R_typed e4) (by decide) hg); have e8 := a_ (blk_grown (g := c8) (o := .cells #[.string b7, .slice b8 a6.length b9, .slice c0 a7.length c1, .int .i64 c3, .slice (some d9) z.length c4] 26 (0, 0)) (q_k D.out) hg (Kd.R_ne e4 D.out (by decide))); have e9 := a_ (blk_grown (g := a1) (o := .cells #[.slice M ((rd_T69 z q).f0).length O, .int .i64 ((rd_T69 z q).f1), .int .i64 ((rd_T69 z q).f2), .int .i64 ((rd_T69 z q).f3), .int .i64 ((rd_T69 z q).f4)] 69 (0, 0)) (q_k F.out) hg (Kd.R_ne e4 F.out (by decide))); have f5 := a_ ((by rw [hw]; exact below_set HB.out E3.out : Below w.heap.size w B2)); have f6 := a_ (hp_); clear HO_22; clear D; clear F; clear HB; clear l5; clear g0; have HO_22 := e7; have D := e8; have F := e9; have HB := f5; have HO_3 := f6; clear e7 e8 e9 f5 f6; clear hg hw hp_ e4))
 go_roundg k2
 case measure => have := g5.out; have := g8.out; omega
 case rel => exact ⟨(s8), (wrap64 (l + 1)), q_r, H', ⟨by have := g5.out; have := g8.out; omega⟩, ⟨by (with_reducible repeat (first | apply Kd.S_alloc | apply Kd.S_drewN | apply Kd.S_drew)); exact HO_3.out⟩, ⟨by (with_reducible repeat (first | apply Kd.R_alloc | apply Kd.R_drewN | apply Kd.R_drew)); exact HO_22.out⟩, ⟨q_k D.out⟩, ⟨q_k F.out⟩, ⟨q_w2 HB.out I.out a0.out⟩⟩}}}
 {
 have H' := a_ H
 clear H; go_wp2
 go_roundg k2
 case measure => have := g5.out; have := g8.out; omega
 case rel => exact ⟨(B), (wrap64 (q + 1)), q_r, H', ⟨by have := g5.out; have := g8.out; omega⟩, ⟨by (with_reducible repeat (first | apply Kd.S_alloc | apply Kd.S_drewN | apply Kd.S_drew)); exact Kd.S_mono HO_3.out (fun _ hk => trivial)⟩, ⟨q_k D.out⟩, ⟨q_w2 HB.out I.out a0.out⟩⟩}))}
 {
 obtain rfl := Option.some.inj H; go_wp2
 go_ret
 exact ⟨_, q_e, by (with_reducible repeat (first | apply Kd.S_alloc | apply Kd.S_drewN | apply Kd.S_drew)); exact HO_3.out, q_w1 HB.out I.out⟩}))
def flow_fields.f (b : Int) : Option (Bool × Bool × Bool × Bool × Bool × Bool × Int × Bool × Bool × Bool × Bool) := if b = 0 then (some (true, false, false, false, false, false, 0, false, true, false, true)) else (if b = 1 then (some (true, true, false, false, false, false, 0, false, false, false, true)) else (if b = 2 then (some (true, true, false, false, false, false, 3, false, false, false, true)) else (if b = 3 then (some (true, true, true, false, false, false, 20, false, false, false, true)) else (if b = 4 then (some (true, false, false, false, false, false, 4, false, false, false, true)) else (if b = 5 then (some (true, false, false, false, false, false, 0, false, false, true, true)) else (if b = 6 then (some (true, true, false, false, true, false, 0, false, false, false, true)) else (if b = 7 then (some (false, true, true, false, true, false, 0, false, false, false, true)) else (if b = 8 then (some (false, true, true, false, true, false, 0, true, false, false, true)) else (if b = 9 then (some (false, false, false, true, false, false, 0, false, false, false, true)) else (if b = 10 then (some (true, true, false, true, false, false, 0, true, false, false, true)) else (if b = 11 then (some (true, false, false, false, false, true, 0, false, false, false, true)) else (some (false, false, false, false, false, false, 0, false, false, false, false)))))))))))))
theorem flow_fields.calls (B : Int) (r1 : Bool) (r2 : Bool) (r3 : Bool) (r4 : Bool) (r5 : Bool) (r6 : Bool) (r7 : Int) (r8 : Bool) (r9 : Bool) (C : Bool) (D : Bool) (w : World) (h : flow_fields.f B = some (r1, r2, r3, r4, r5, r6, r7, r8, r9, C, D)) :
  Calls Tryd.prog 74 #[.int .i64 B] w fun e w' => e = .returned (.tuple #[.agg #[.bool r1, .bool r2, .bool r3, .bool r4, .bool r5, .bool r6, .int .i64 r7, .bool r8, .bool r9, .bool C], .bool D]) ∧ Below w.heap.size w w' := by
 have F6 := Tryd.underlying111; have y := a_ (Below.refl w.heap.size w); have H : (if B = 0 then (some (true, false, false, false, false, false, 0, false, true, false, true)) else (if B = 1 then (some (true, true, false, false, false, false, 0, false, false, false, true)) else (if B = 2 then (some (true, true, false, false, false, false, 3, false, false, false, true)) else (if B = 3 then (some (true, true, true, false, false, false, 20, false, false, false, true)) else (if B = 4 then (some (true, false, false, false, false, false, 4, false, false, false, true)) else (if B = 5 then (some (true, false, false, false, false, false, 0, false, false, true, true)) else (if B = 6 then (some (true, true, false, false, true, false, 0, false, false, false, true)) else (if B = 7 then (some (false, true, true, false, true, false, 0, false, false, false, true)) else (if B = 8 then (some (false, true, true, false, true, false, 0, true, false, false, true)) else (if B = 9 then (some (false, false, false, true, false, false, 0, false, false, false, true)) else (if B = 10 then (some (true, true, false, true, false, false, 0, true, false, false, true)) else (if B = 11 then (some (true, false, false, false, false, true, 0, false, false, false, true)) else (some (false, false, false, false, false, false, 0, false, false, false, false)))))))))))))) = some (r1, r2, r3, r4, r5, r6, r7, r8, r9, C, D) := h
 clear h; replace H := q_iBN H; rcases H with ⟨-, c2b0, c2b1, H⟩ | ⟨c2, c2b0, c2b1, H⟩
 {
 simp only [Option.some.injEq, Prod.mk.injEq] at H
 obtain ⟨rfl, rfl, rfl, rfl, rfl, rfl, rfl, rfl, rfl, rfl, rfl⟩ := H; go_enter Tryd.func74, Tryd.ntmps74
 go_wp2_with (first | ((with_reducible refine gd_ 2 rfl ?_); refine q_box 2 111 #[.bool false, .bool false, .bool false, .bool false, .bool false, .bool false, .int .i64 0, .bool false, .bool false, .bool false] ?_; intro p hg w3 l hb; have b := a_ (l); have z := a_ ((q_ge y.out hg)); have q := a_ ((q_ge y.out hg)); replace y := a_ (q_st y.out hb); clear hb l hg; obtain ⟨A2, A3, A4, A5, A6, A7, A8, A9, B1, B2, B3, B6, B7, C0, C1, C2, C3, C4, C5, C6⟩ := q_cf10 b.out))
 refine bodyPost_ret (results_ct rfl _ _ p 111 #[.bool true, .bool false, .bool false, .bool false, .bool false, .bool false, .int .i64 0, .bool false, .bool true, .bool false] (0, 0) _ rfl (by (with_reducible repeat (first | refine blk_drewN ?_ _ | refine blk_drew ?_ | refine blk_alloc ?_ _)); refine blk_put (cs := #[.bool true, .bool false, .bool false, .bool false, .bool false, .bool false, .int .i64 0, .bool false, .bool true, .bool false]) ?_ 9 _ rfl; (with_reducible repeat (first | refine blk_drewN ?_ _ | refine blk_drew ?_ | refine blk_alloc ?_ _)); refine blk_put (cs := #[.bool true, .bool false, .bool false, .bool false, .bool false, .bool false, .int .i64 0, .bool false, .bool false, .bool false]) ?_ 8 _ rfl; (with_reducible repeat (first | refine blk_drewN ?_ _ | refine blk_drew ?_ | refine blk_alloc ?_ _)); refine blk_put (cs := #[.bool true, .bool false, .bool false, .bool false, .bool false, .bool false, .int .i64 0, .bool false, .bool false, .bool false]) ?_ 7 _ rfl; (with_reducible repeat (first | refine blk_drewN ?_ _ | refine blk_drew ?_ | refine blk_alloc ?_ _)); refine blk_put (cs := #[.bool true, .bool false, .bool false, .bool false, .bool false, .bool false, .int .i64 0, .bool false, .bool false, .bool false]) ?_ 6 _ rfl; (with_reducible repeat (first | refine blk_drewN ?_ _ | refine blk_drew ?_ | refine blk_alloc ?_ _)); refine blk_put (cs := #[.bool true, .bool false, .bool false, .bool false, .bool false, .bool false, .int .i64 0, .bool false, .bool false, .bool false]) ?_ 5 _ rfl; (with_reducible repeat (first | refine blk_drewN ?_ _ | refine blk_drew ?_ | refine blk_alloc ?_ _)); refine blk_put (cs := #[.bool true, .bool false, .bool false, .bool false, .bool false, .bool false, .int .i64 0, .bool false, .bool false, .bool false]) ?_ 4 _ rfl; (with_reducible repeat (first | refine blk_drewN ?_ _ | refine blk_drew ?_ | refine blk_alloc ?_ _)); refine blk_put (cs := #[.bool true, .bool false, .bool false, .bool false, .bool false, .bool false, .int .i64 0, .bool false, .bool false, .bool false]) ?_ 3 _ rfl; (with_reducible repeat (first | refine blk_drewN ?_ _ | refine blk_drew ?_ | refine blk_alloc ?_ _)); refine blk_put (cs := #[.bool true, .bool false, .bool false, .bool false, .bool false, .bool false, .int .i64 0, .bool false, .bool false, .bool false]) ?_ 2 _ rfl; (with_reducible repeat (first | refine blk_drewN ?_ _ | refine blk_drew ?_ | refine blk_alloc ?_ _)); refine blk_put (cs := #[.bool true, .bool false, .bool false, .bool false, .bool false, .bool false, .int .i64 0, .bool false, .bool false, .bool false]) ?_ 1 _ rfl; (with_reducible repeat (first | refine blk_drewN ?_ _ | refine blk_drew ?_ | refine blk_alloc ?_ _)); refine blk_put (cs := #[.bool false, .bool false, .bool false, .bool false, .bool false, .bool false, .int .i64 0, .bool false, .bool false, .bool false]) ?_ 0 _ rfl; (with_reducible repeat (first | refine blk_drewN ?_ _ | refine blk_drew ?_ | refine blk_alloc ?_ _)); exact b.out) Tryd.underlying111 rfl (by kernel_rfl)) rfl ?_
 exact ⟨q_e, q_w1 y.out q.out⟩}
 {
 replace H := q_iBN H; rcases H with ⟨-, c5b0, c5b1, H⟩ | ⟨c5, c5b0, c5b1, H⟩
 {
 simp only [Option.some.injEq, Prod.mk.injEq] at H
 obtain ⟨rfl, rfl, rfl, rfl, rfl, rfl, rfl, rfl, rfl, rfl, rfl⟩ := H; go_enter Tryd.func74, Tryd.ntmps74
 go_wp2_with (first | ((with_reducible refine gd_ 2 rfl ?_); refine q_box 2 111 #[.bool false, .bool false, .bool false, .bool false, .bool false, .bool false, .int .i64 0, .bool false, .bool false, .bool false] ?_; intro p hg w6 l hb; have b := a_ (l); have z := a_ ((q_ge y.out hg)); have q := a_ ((q_ge y.out hg)); replace y := a_ (q_st y.out hb); clear hb l hg; obtain ⟨C7, C8, C9, D0, D1, D2, D3, D4, D5, D6, D7, D8, D9, E0, E1, E2, E3, E4, E5, E6⟩ := q_cf10 b.out))
 refine bodyPost_ret (results_ct rfl _ _ p 111 #[.bool true, .bool true, .bool false, .bool false, .bool false, .bool false, .int .i64 0, .bool false, .bool false, .bool false] (0, 0) _ rfl (by (with_reducible repeat (first | refine blk_drewN ?_ _ | refine blk_drew ?_ | refine blk_alloc ?_ _)); refine blk_put (cs := #[.bool true, .bool true, .bool false, .bool false, .bool false, .bool false, .int .i64 0, .bool false, .bool false, .bool false]) ?_ 9 _ rfl; (with_reducible repeat (first | refine blk_drewN ?_ _ | refine blk_drew ?_ | refine blk_alloc ?_ _)); refine blk_put (cs := #[.bool true, .bool true, .bool false, .bool false, .bool false, .bool false, .int .i64 0, .bool false, .bool false, .bool false]) ?_ 8 _ rfl; (with_reducible repeat (first | refine blk_drewN ?_ _ | refine blk_drew ?_ | refine blk_alloc ?_ _)); refine blk_put (cs := #[.bool true, .bool true, .bool false, .bool false, .bool false, .bool false, .int .i64 0, .bool false, .bool false, .bool false]) ?_ 7 _ rfl; (with_reducible repeat (first | refine blk_drewN ?_ _ | refine blk_drew ?_ | refine blk_alloc ?_ _)); refine blk_put (cs := #[.bool true, .bool true, .bool false, .bool false, .bool false, .bool false, .int .i64 0, .bool false, .bool false, .bool false]) ?_ 6 _ rfl; (with_reducible repeat (first | refine blk_drewN ?_ _ | refine blk_drew ?_ | refine blk_alloc ?_ _)); refine blk_put (cs := #[.bool true, .bool true, .bool false, .bool false, .bool false, .bool false, .int .i64 0, .bool false, .bool false, .bool false]) ?_ 5 _ rfl; (with_reducible repeat (first | refine blk_drewN ?_ _ | refine blk_drew ?_ | refine blk_alloc ?_ _)); refine blk_put (cs := #[.bool true, .bool true, .bool false, .bool false, .bool false, .bool false, .int .i64 0, .bool false, .bool false, .bool false]) ?_ 4 _ rfl; (with_reducible repeat (first | refine blk_drewN ?_ _ | refine blk_drew ?_ | refine blk_alloc ?_ _)); refine blk_put (cs := #[.bool true, .bool true, .bool false, .bool false, .bool false, .bool false, .int .i64 0, .bool false, .bool false, .bool false]) ?_ 3 _ rfl; (with_reducible repeat (first | refine blk_drewN ?_ _ | refine blk_drew ?_ | refine blk_alloc ?_ _)); refine blk_put (cs := #[.bool true, .bool true, .bool false, .bool false, .bool false, .bool false, .int .i64 0, .bool false, .bool false, .bool false]) ?_ 2 _ rfl; (with_reducible repeat (first | refine blk_drewN ?_ _ | refine blk_drew ?_ | refine blk_alloc ?_ _)); refine blk_put (cs := #[.bool true, .bool false, .bool false, .bool false, .bool false, .bool false, .int .i64 0, .bool false, .bool false, .bool false]) ?_ 1 _ rfl; (with_reducible repeat (first | refine blk_drewN ?_ _ | refine blk_drew ?_ | refine blk_alloc ?_ _)); refine blk_put (cs := #[.bool false, .bool false, .bool false, .bool false, .bool false, .bool false, .int .i64 0, .bool false, .bool false, .bool false]) ?_ 0 _ rfl; (with_reducible repeat (first | refine blk_drewN ?_ _ | refine blk_drew ?_ | refine blk_alloc ?_ _)); exact b.out) Tryd.underlying111 rfl (by kernel_rfl)) rfl ?_
 exact ⟨q_e, q_w1 y.out q.out⟩}
 {
 replace H := q_iBN H; rcases H with ⟨-, c8b0, c8b1, H⟩ | ⟨c8, c8b0, c8b1, H⟩
 {
 simp only [Option.some.injEq, Prod.mk.injEq] at H
 obtain ⟨rfl, rfl, rfl, rfl, rfl, rfl, rfl, rfl, rfl, rfl, rfl⟩ := H; go_enter Tryd.func74, Tryd.ntmps74
 go_wp2_with (first | ((with_reducible refine gd_ 2 rfl ?_); refine q_box 2 111 #[.bool false, .bool false, .bool false, .bool false, .bool false, .bool false, .int .i64 0, .bool false, .bool false, .bool false] ?_; intro p hg w9 l hb; have b := a_ (l); have z := a_ ((q_ge y.out hg)); have q := a_ ((q_ge y.out hg)); replace y := a_ (q_st y.out hb); clear hb l hg; obtain ⟨E, F, G, I, J, L, M, N, O, R, S, T, U, V, X, a1, a2, a3, a4, a5⟩ := q_cf10 b.out))
 refine bodyPost_ret (results_ct rfl _ _ p 111 #[.bool true, .bool true, .bool false, .bool false, .bool false, .bool false, .int .i64 3, .bool false, .bool false, .bool false] (0, 0) _ rfl (by (with_reducible repeat (first | refine blk_drewN ?_ _ | refine blk_drew ?_ | refine blk_alloc ?_ _)); refine blk_put (cs := #[.bool true, .bool true, .bool false, .bool false, .bool false, .bool false, .int .i64 3, .bool false, .bool false, .bool false]) ?_ 9 _ rfl; (with_reducible repeat (first | refine blk_drewN ?_ _ | refine blk_drew ?_ | refine blk_alloc ?_ _)); refine blk_put (cs := #[.bool true, .bool true, .bool false, .bool false, .bool false, .bool false, .int .i64 3, .bool false, .bool false, .bool false]) ?_ 8 _ rfl; (with_reducible repeat (first | refine blk_drewN ?_ _ | refine blk_drew ?_ | refine blk_alloc ?_ _)); refine blk_put (cs := #[.bool true, .bool true, .bool false, .bool false, .bool false, .bool false, .int .i64 3, .bool false, .bool false, .bool false]) ?_ 7 _ rfl; (with_reducible repeat (first | refine blk_drewN ?_ _ | refine blk_drew ?_ | refine blk_alloc ?_ _)); refine blk_put (cs := #[.bool true, .bool true, .bool false, .bool false, .bool false, .bool false, .int .i64 0, .bool false, .bool false, .bool false]) ?_ 6 _ rfl; (with_reducible repeat (first | refine blk_drewN ?_ _ | refine blk_drew ?_ | refine blk_alloc ?_ _)); refine blk_put (cs := #[.bool true, .bool true, .bool false, .bool false, .bool false, .bool false, .int .i64 0, .bool false, .bool false, .bool false]) ?_ 5 _ rfl; (with_reducible repeat (first | refine blk_drewN ?_ _ | refine blk_drew ?_ | refine blk_alloc ?_ _)); refine blk_put (cs := #[.bool true, .bool true, .bool false, .bool false, .bool false, .bool false, .int .i64 0, .bool false, .bool false, .bool false]) ?_ 4 _ rfl; (with_reducible repeat (first | refine blk_drewN ?_ _ | refine blk_drew ?_ | refine blk_alloc ?_ _)); refine blk_put (cs := #[.bool true, .bool true, .bool false, .bool false, .bool false, .bool false, .int .i64 0, .bool false, .bool false, .bool false]) ?_ 3 _ rfl; (with_reducible repeat (first | refine blk_drewN ?_ _ | refine blk_drew ?_ | refine blk_alloc ?_ _)); refine blk_put (cs := #[.bool true, .bool true, .bool false, .bool false, .bool false, .bool false, .int .i64 0, .bool false, .bool false, .bool false]) ?_ 2 _ rfl; (with_reducible repeat (first | refine blk_drewN ?_ _ | refine blk_drew ?_ | refine blk_alloc ?_ _)); refine blk_put (cs := #[.bool true, .bool false, .bool false, .bool false, .bool false, .bool false, .int .i64 0, .bool false, .bool false, .bool false]) ?_ 1 _ rfl; (with_reducible repeat (first | refine blk_drewN ?_ _ | refine blk_drew ?_ | refine blk_alloc ?_ _)); refine blk_put (cs := #[.bool false, .bool false, .bool false, .bool false, .bool false, .bool false, .int .i64 0, .bool false, .bool false, .bool false]) ?_ 0 _ rfl; (with_reducible repeat (first | refine blk_drewN ?_ _ | refine blk_drew ?_ | refine blk_alloc ?_ _)); exact b.out) Tryd.underlying111 rfl (by kernel_rfl)) rfl ?_
 exact ⟨q_e, q_w1 y.out q.out⟩}
 {
 replace H := q_iBN H; rcases H with ⟨-, c11b0, c11b1, H⟩ | ⟨F7, c11b0, c11b1, H⟩
 {
 simp only [Option.some.injEq, Prod.mk.injEq] at H
 obtain ⟨rfl, rfl, rfl, rfl, rfl, rfl, rfl, rfl, rfl, rfl, rfl⟩ := H; go_enter Tryd.func74, Tryd.ntmps74
 go_wp2_with (first | ((with_reducible refine gd_ 2 rfl ?_); refine q_box 2 111 #[.bool false, .bool false, .bool false, .bool false, .bool false, .bool false, .int .i64 0, .bool false, .bool false, .bool false] ?_; intro p hg F8 l hb; have b := a_ (l); have z := a_ ((q_ge y.out hg)); have q := a_ ((q_ge y.out hg)); replace y := a_ (q_st y.out hb); clear hb l hg; obtain ⟨a6, a7, a8, a9, b0, b1, b2, b3, b4, b5, b6, b7, b8, b9, c0, c1, c3, c4, c6, c9⟩ := q_cf10 b.out))
 refine bodyPost_ret (results_ct rfl _ _ p 111 #[.bool true, .bool true, .bool true, .bool false, .bool false, .bool false, .int .i64 20, .bool false, .bool false, .bool false] (0, 0) _ rfl (by (with_reducible repeat (first | refine blk_drewN ?_ _ | refine blk_drew ?_ | refine blk_alloc ?_ _)); refine blk_put (cs := #[.bool true, .bool true, .bool true, .bool false, .bool false, .bool false, .int .i64 20, .bool false, .bool false, .bool false]) ?_ 9 _ rfl; (with_reducible repeat (first | refine blk_drewN ?_ _ | refine blk_drew ?_ | refine blk_alloc ?_ _)); refine blk_put (cs := #[.bool true, .bool true, .bool true, .bool false, .bool false, .bool false, .int .i64 20, .bool false, .bool false, .bool false]) ?_ 8 _ rfl; (with_reducible repeat (first | refine blk_drewN ?_ _ | refine blk_drew ?_ | refine blk_alloc ?_ _)); refine blk_put (cs := #[.bool true, .bool true, .bool true, .bool false, .bool false, .bool false, .int .i64 20, .bool false, .bool false, .bool false]) ?_ 7 _ rfl; (with_reducible repeat (first | refine blk_drewN ?_ _ | refine blk_drew ?_ | refine blk_alloc ?_ _)); refine blk_put (cs := #[.bool true, .bool true, .bool true, .bool false, .bool false, .bool false, .int .i64 0, .bool false, .bool false, .bool false]) ?_ 6 _ rfl; (with_reducible repeat (first | refine blk_drewN ?_ _ | refine blk_drew ?_ | refine blk_alloc ?_ _)); refine blk_put (cs := #[.bool true, .bool true, .bool true, .bool false, .bool false, .bool false, .int .i64 0, .bool false, .bool false, .bool false]) ?_ 5 _ rfl; (with_reducible repeat (first | refine blk_drewN ?_ _ | refine blk_drew ?_ | refine blk_alloc ?_ _)); refine blk_put (cs := #[.bool true, .bool true, .bool true, .bool false, .bool false, .bool false, .int .i64 0, .bool false, .bool false, .bool false]) ?_ 4 _ rfl; (with_reducible repeat (first | refine blk_drewN ?_ _ | refine blk_drew ?_ | refine blk_alloc ?_ _)); refine blk_put (cs := #[.bool true, .bool true, .bool true, .bool false, .bool false, .bool false, .int .i64 0, .bool false, .bool false, .bool false]) ?_ 3 _ rfl; (with_reducible repeat (first | refine blk_drewN ?_ _ | refine blk_drew ?_ | refine blk_alloc ?_ _)); refine blk_put (cs := #[.bool true, .bool true, .bool false, .bool false, .bool false, .bool false, .int .i64 0, .bool false, .bool false, .bool false]) ?_ 2 _ rfl; (with_reducible repeat (first | refine blk_drewN ?_ _ | refine blk_drew ?_ | refine blk_alloc ?_ _)); refine blk_put (cs := #[.bool true, .bool false, .bool false, .bool false, .bool false, .bool false, .int .i64 0, .bool false, .bool false, .bool false]) ?_ 1 _ rfl; (with_reducible repeat (first | refine blk_drewN ?_ _ | refine blk_drew ?_ | refine blk_alloc ?_ _)); refine blk_put (cs := #[.bool false, .bool false, .bool false, .bool false, .bool false, .bool false, .int .i64 0, .bool false, .bool false, .bool false]) ?_ 0 _ rfl; (with_reducible repeat (first | refine blk_drewN ?_ _ | refine blk_drew ?_ | refine blk_alloc ?_ _)); exact b.out) Tryd.underlying111 rfl (by kernel_rfl)) rfl ?_
 exact ⟨q_e, q_w1 y.out q.out⟩}
 {
 replace H := q_iBN H; rcases H with ⟨-, c14b0, c14b1, H⟩ | ⟨F9, c14b0, c14b1, H⟩
 {
 simp only [Option.some.injEq, Prod.mk.injEq] at H
 obtain ⟨rfl, rfl, rfl, rfl, rfl, rfl, rfl, rfl, rfl, rfl, rfl⟩ := H; go_enter Tryd.func74, Tryd.ntmps74
 go_wp2_with (first | ((with_reducible refine gd_ 2 rfl ?_); refine q_box 2 111 #[.bool false, .bool false, .bool false, .bool false, .bool false, .bool false, .int .i64 0, .bool false, .bool false, .bool false] ?_; intro p hg G0 l hb; have b := a_ (l); have z := a_ ((q_ge y.out hg)); have q := a_ ((q_ge y.out hg)); replace y := a_ (q_st y.out hb); clear hb l hg; obtain ⟨d0, d1, d2, d3, d4, d5, d6, d7, d8, d9, e0, e1, e2, e3, e4, e5, e6, e7, e8, e9⟩ := q_cf10 b.out))
 refine bodyPost_ret (results_ct rfl _ _ p 111 #[.bool true, .bool false, .bool false, .bool false, .bool false, .bool false, .int .i64 4, .bool false, .bool false, .bool false] (0, 0) _ rfl (by (with_reducible repeat (first | refine blk_drewN ?_ _ | refine blk_drew ?_ | refine blk_alloc ?_ _)); refine blk_put (cs := #[.bool true, .bool false, .bool false, .bool false, .bool false, .bool false, .int .i64 4, .bool false, .bool false, .bool false]) ?_ 9 _ rfl; (with_reducible repeat (first | refine blk_drewN ?_ _ | refine blk_drew ?_ | refine blk_alloc ?_ _)); refine blk_put (cs := #[.bool true, .bool false, .bool false, .bool false, .bool false, .bool false, .int .i64 4, .bool false, .bool false, .bool false]) ?_ 8 _ rfl; (with_reducible repeat (first | refine blk_drewN ?_ _ | refine blk_drew ?_ | refine blk_alloc ?_ _)); refine blk_put (cs := #[.bool true, .bool false, .bool false, .bool false, .bool false, .bool false, .int .i64 4, .bool false, .bool false, .bool false]) ?_ 7 _ rfl; (with_reducible repeat (first | refine blk_drewN ?_ _ | refine blk_drew ?_ | refine blk_alloc ?_ _)); refine blk_put (cs := #[.bool true, .bool false, .bool false, .bool false, .bool false, .bool false, .int .i64 0, .bool false, .bool false, .bool false]) ?_ 6 _ rfl; (with_reducible repeat (first | refine blk_drewN ?_ _ | refine blk_drew ?_ | refine blk_alloc ?_ _)); refine blk_put (cs := #[.bool true, .bool false, .bool false, .bool false, .bool false, .bool false, .int .i64 0, .bool false, .bool false, .bool false]) ?_ 5 _ rfl; (with_reducible repeat (first | refine blk_drewN ?_ _ | refine blk_drew ?_ | refine blk_alloc ?_ _)); refine blk_put (cs := #[.bool true, .bool false, .bool false, .bool false, .bool false, .bool false, .int .i64 0, .bool false, .bool false, .bool false]) ?_ 4 _ rfl; (with_reducible repeat (first | refine blk_drewN ?_ _ | refine blk_drew ?_ | refine blk_alloc ?_ _)); refine blk_put (cs := #[.bool true, .bool false, .bool false, .bool false, .bool false, .bool false, .int .i64 0, .bool false, .bool false, .bool false]) ?_ 3 _ rfl; (with_reducible repeat (first | refine blk_drewN ?_ _ | refine blk_drew ?_ | refine blk_alloc ?_ _)); refine blk_put (cs := #[.bool true, .bool false, .bool false, .bool false, .bool false, .bool false, .int .i64 0, .bool false, .bool false, .bool false]) ?_ 2 _ rfl; (with_reducible repeat (first | refine blk_drewN ?_ _ | refine blk_drew ?_ | refine blk_alloc ?_ _)); refine blk_put (cs := #[.bool true, .bool false, .bool false, .bool false, .bool false, .bool false, .int .i64 0, .bool false, .bool false, .bool false]) ?_ 1 _ rfl; (with_reducible repeat (first | refine blk_drewN ?_ _ | refine blk_drew ?_ | refine blk_alloc ?_ _)); refine blk_put (cs := #[.bool false, .bool false, .bool false, .bool false, .bool false, .bool false, .int .i64 0, .bool false, .bool false, .bool false]) ?_ 0 _ rfl; (with_reducible repeat (first | refine blk_drewN ?_ _ | refine blk_drew ?_ | refine blk_alloc ?_ _)); exact b.out) Tryd.underlying111 rfl (by kernel_rfl)) rfl ?_
 exact ⟨q_e, q_w1 y.out q.out⟩}
 {
 replace H := q_iBN H; rcases H with ⟨-, c17b0, c17b1, H⟩ | ⟨G1, c17b0, c17b1, H⟩
 {
 simp only [Option.some.injEq, Prod.mk.injEq] at H
 obtain ⟨rfl, rfl, rfl, rfl, rfl, rfl, rfl, rfl, rfl, rfl, rfl⟩ := H; go_enter Tryd.func74, Tryd.ntmps74
 go_wp2_with (first | ((with_reducible refine gd_ 2 rfl ?_); refine q_box 2 111 #[.bool false, .bool false, .bool false, .bool false, .bool false, .bool false, .int .i64 0, .bool false, .bool false, .bool false] ?_; intro p hg G2 l hb; have b := a_ (l); have z := a_ ((q_ge y.out hg)); have q := a_ ((q_ge y.out hg)); replace y := a_ (q_st y.out hb); clear hb l hg; obtain ⟨f0, f1, f2, f3, f4, f5, f6, f7, f8, f9, g0, g1, g2, g3, g4, g5, g6, g7, g8, g9⟩ := q_cf10 b.out))
 refine bodyPost_ret (results_ct rfl _ _ p 111 #[.bool true, .bool false, .bool false, .bool false, .bool false, .bool false, .int .i64 0, .bool false, .bool false, .bool true] (0, 0) _ rfl (by (with_reducible repeat (first | refine blk_drewN ?_ _ | refine blk_drew ?_ | refine blk_alloc ?_ _)); refine blk_put (cs := #[.bool true, .bool false, .bool false, .bool false, .bool false, .bool false, .int .i64 0, .bool false, .bool false, .bool false]) ?_ 9 _ rfl; (with_reducible repeat (first | refine blk_drewN ?_ _ | refine blk_drew ?_ | refine blk_alloc ?_ _)); refine blk_put (cs := #[.bool true, .bool false, .bool false, .bool false, .bool false, .bool false, .int .i64 0, .bool false, .bool false, .bool false]) ?_ 8 _ rfl; (with_reducible repeat (first | refine blk_drewN ?_ _ | refine blk_drew ?_ | refine blk_alloc ?_ _)); refine blk_put (cs := #[.bool true, .bool false, .bool false, .bool false, .bool false, .bool false, .int .i64 0, .bool false, .bool false, .bool false]) ?_ 7 _ rfl; (with_reducible repeat (first | refine blk_drewN ?_ _ | refine blk_drew ?_ | refine blk_alloc ?_ _)); refine blk_put (cs := #[.bool true, .bool false, .bool false, .bool false, .bool false, .bool false, .int .i64 0, .bool false, .bool false, .bool false]) ?_ 6 _ rfl; (with_reducible repeat (first | refine blk_drewN ?_ _ | refine blk_drew ?_ | refine blk_alloc ?_ _)); refine blk_put (cs := #[.bool true, .bool false, .bool false, .bool false, .bool false, .bool false, .int .i64 0, .bool false, .bool false, .bool false]) ?_ 5 _ rfl; (with_reducible repeat (first | refine blk_drewN ?_ _ | refine blk_drew ?_ | refine blk_alloc ?_ _)); refine blk_put (cs := #[.bool true, .bool false, .bool false, .bool false, .bool false, .bool false, .int .i64 0, .bool false, .bool false, .bool false]) ?_ 4 _ rfl; (with_reducible repeat (first | refine blk_drewN ?_ _ | refine blk_drew ?_ | refine blk_alloc ?_ _)); refine blk_put (cs := #[.bool true, .bool false, .bool false, .bool false, .bool false, .bool false, .int .i64 0, .bool false, .bool false, .bool false]) ?_ 3 _ rfl; (with_reducible repeat (first | refine blk_drewN ?_ _ | refine blk_drew ?_ | refine blk_alloc ?_ _)); refine blk_put (cs := #[.bool true, .bool false, .bool false, .bool false, .bool false, .bool false, .int .i64 0, .bool false, .bool false, .bool false]) ?_ 2 _ rfl; (with_reducible repeat (first | refine blk_drewN ?_ _ | refine blk_drew ?_ | refine blk_alloc ?_ _)); refine blk_put (cs := #[.bool true, .bool false, .bool false, .bool false, .bool false, .bool false, .int .i64 0, .bool false, .bool false, .bool false]) ?_ 1 _ rfl; (with_reducible repeat (first | refine blk_drewN ?_ _ | refine blk_drew ?_ | refine blk_alloc ?_ _)); refine blk_put (cs := #[.bool false, .bool false, .bool false, .bool false, .bool false, .bool false, .int .i64 0, .bool false, .bool false, .bool false]) ?_ 0 _ rfl; (with_reducible repeat (first | refine blk_drewN ?_ _ | refine blk_drew ?_ | refine blk_alloc ?_ _)); exact b.out) Tryd.underlying111 rfl (by kernel_rfl)) rfl ?_
 exact ⟨q_e, q_w1 y.out q.out⟩}
 {
 replace H := q_iBN H; rcases H with ⟨-, c20b0, c20b1, H⟩ | ⟨G3, c20b0, c20b1, H⟩
 {
 simp only [Option.some.injEq, Prod.mk.injEq] at H
 obtain ⟨rfl, rfl, rfl, rfl, rfl, rfl, rfl, rfl, rfl, rfl, rfl⟩ := H; go_enter Tryd.func74, Tryd.ntmps74
 go_wp2_with (first | ((with_reducible refine gd_ 2 rfl ?_); refine q_box 2 111 #[.bool false, .bool false, .bool false, .bool false, .bool false, .bool false, .int .i64 0, .bool false, .bool false, .bool false] ?_; intro p hg G4 l hb; have b := a_ (l); have z := a_ ((q_ge y.out hg)); have q := a_ ((q_ge y.out hg)); replace y := a_ (q_st y.out hb); clear hb l hg; obtain ⟨i0, i1, i2, i3, i4, i5, i6, i7, i8, i9, j3, j5, j6, j7, j8, j9, k0, k1, k2, k3⟩ := q_cf10 b.out))
 refine bodyPost_ret (results_ct rfl _ _ p 111 #[.bool true, .bool true, .bool false, .bool false, .bool true, .bool false, .int .i64 0, .bool false, .bool false, .bool false] (0, 0) _ rfl (by (with_reducible repeat (first | refine blk_drewN ?_ _ | refine blk_drew ?_ | refine blk_alloc ?_ _)); refine blk_put (cs := #[.bool true, .bool true, .bool false, .bool false, .bool true, .bool false, .int .i64 0, .bool false, .bool false, .bool false]) ?_ 9 _ rfl; (with_reducible repeat (first | refine blk_drewN ?_ _ | refine blk_drew ?_ | refine blk_alloc ?_ _)); refine blk_put (cs := #[.bool true, .bool true, .bool false, .bool false, .bool true, .bool false, .int .i64 0, .bool false, .bool false, .bool false]) ?_ 8 _ rfl; (with_reducible repeat (first | refine blk_drewN ?_ _ | refine blk_drew ?_ | refine blk_alloc ?_ _)); refine blk_put (cs := #[.bool true, .bool true, .bool false, .bool false, .bool true, .bool false, .int .i64 0, .bool false, .bool false, .bool false]) ?_ 7 _ rfl; (with_reducible repeat (first | refine blk_drewN ?_ _ | refine blk_drew ?_ | refine blk_alloc ?_ _)); refine blk_put (cs := #[.bool true, .bool true, .bool false, .bool false, .bool true, .bool false, .int .i64 0, .bool false, .bool false, .bool false]) ?_ 6 _ rfl; (with_reducible repeat (first | refine blk_drewN ?_ _ | refine blk_drew ?_ | refine blk_alloc ?_ _)); refine blk_put (cs := #[.bool true, .bool true, .bool false, .bool false, .bool true, .bool false, .int .i64 0, .bool false, .bool false, .bool false]) ?_ 5 _ rfl; (with_reducible repeat (first | refine blk_drewN ?_ _ | refine blk_drew ?_ | refine blk_alloc ?_ _)); refine blk_put (cs := #[.bool true, .bool true, .bool false, .bool false, .bool false, .bool false, .int .i64 0, .bool false, .bool false, .bool false]) ?_ 4 _ rfl; (with_reducible repeat (first | refine blk_drewN ?_ _ | refine blk_drew ?_ | refine blk_alloc ?_ _)); refine blk_put (cs := #[.bool true, .bool true, .bool false, .bool false, .bool false, .bool false, .int .i64 0, .bool false, .bool false, .bool false]) ?_ 3 _ rfl; (with_reducible repeat (first | refine blk_drewN ?_ _ | refine blk_drew ?_ | refine blk_alloc ?_ _)); refine blk_put (cs := #[.bool true, .bool true, .bool false, .bool false, .bool false, .bool false, .int .i64 0, .bool false, .bool false, .bool false]) ?_ 2 _ rfl; (with_reducible repeat (first | refine blk_drewN ?_ _ | refine blk_drew ?_ | refine blk_alloc ?_ _)); refine blk_put (cs := #[.bool true, .bool false, .bool false, .bool false, .bool false, .bool false, .int .i64 0, .bool false, .bool false, .bool false]) ?_ 1 _ rfl; (with_reducible repeat (first | refine blk_drewN ?_ _ | refine blk_drew ?_ | refine blk_alloc ?_ _)); refine blk_put (cs := #[.bool false, .bool false, .bool false, .bool false, .bool false, .bool false, .int .i64 0, .bool false, .bool false, .bool false]) ?_ 0 _ rfl; (with_reducible repeat (first | refine blk_drewN ?_ _ | refine blk_drew ?_ | refine blk_alloc ?_ _)); exact b.out) Tryd.underlying111 rfl (by kernel_rfl)) rfl ?_
 exact ⟨q_e, q_w1 y.out q.out⟩}
 {
 replace H := q_iBN H; rcases H with ⟨-, c23b0, c23b1, H⟩ | ⟨G5, c23b0, c23b1, H⟩
 {
 simp only [Option.some.injEq, Prod.mk.injEq] at H
 obtain ⟨rfl, rfl, rfl, rfl, rfl, rfl, rfl, rfl, rfl, rfl, rfl⟩ := H; go_enter Tryd.func74, Tryd.ntmps74
 go_wp2_with (first | ((with_reducible refine gd_ 2 rfl ?_); refine q_box 2 111 #[.bool false, .bool false, .bool false, .bool false, .bool false, .bool false, .int .i64 0, .bool false, .bool false, .bool false] ?_; intro p hg G6 l hb; have b := a_ (l); have z := a_ ((q_ge y.out hg)); have q := a_ ((q_ge y.out hg)); replace y := a_ (q_st y.out hb); clear hb l hg; obtain ⟨k4, k5, k6, k7, k8, k9, l4, l5, l6, l7, l8, l9, n0, n1, n2, n3, n4, n5, n6, n7⟩ := q_cf10 b.out))
 refine bodyPost_ret (results_ct rfl _ _ p 111 #[.bool false, .bool true, .bool true, .bool false, .bool true, .bool false, .int .i64 0, .bool false, .bool false, .bool false] (0, 0) _ rfl (by (with_reducible repeat (first | refine blk_drewN ?_ _ | refine blk_drew ?_ | refine blk_alloc ?_ _)); refine blk_put (cs := #[.bool false, .bool true, .bool true, .bool false, .bool true, .bool false, .int .i64 0, .bool false, .bool false, .bool false]) ?_ 9 _ rfl; (with_reducible repeat (first | refine blk_drewN ?_ _ | refine blk_drew ?_ | refine blk_alloc ?_ _)); refine blk_put (cs := #[.bool false, .bool true, .bool true, .bool false, .bool true, .bool false, .int .i64 0, .bool false, .bool false, .bool false]) ?_ 8 _ rfl; (with_reducible repeat (first | refine blk_drewN ?_ _ | refine blk_drew ?_ | refine blk_alloc ?_ _)); refine blk_put (cs := #[.bool false, .bool true, .bool true, .bool false, .bool true, .bool false, .int .i64 0, .bool false, .bool false, .bool false]) ?_ 7 _ rfl; (with_reducible repeat (first | refine blk_drewN ?_ _ | refine blk_drew ?_ | refine blk_alloc ?_ _)); refine blk_put (cs := #[.bool false, .bool true, .bool true, .bool false, .bool true, .bool false, .int .i64 0, .bool false, .bool false, .bool false]) ?_ 6 _ rfl; (with_reducible repeat (first | refine blk_drewN ?_ _ | refine blk_drew ?_ | refine blk_alloc ?_ _)); refine blk_put (cs := #[.bool false, .bool true, .bool true, .bool false, .bool true, .bool false, .int .i64 0, .bool false, .bool false, .bool false]) ?_ 5 _ rfl; (with_reducible repeat (first | refine blk_drewN ?_ _ | refine blk_drew ?_ | refine blk_alloc ?_ _)); refine blk_put (cs := #[.bool false, .bool true, .bool true, .bool false, .bool false, .bool false, .int .i64 0, .bool false, .bool false, .bool false]) ?_ 4 _ rfl; (with_reducible repeat (first | refine blk_drewN ?_ _ | refine blk_drew ?_ | refine blk_alloc ?_ _)); refine blk_put (cs := #[.bool false, .bool true, .bool true, .bool false, .bool false, .bool false, .int .i64 0, .bool false, .bool false, .bool false]) ?_ 3 _ rfl; (with_reducible repeat (first | refine blk_drewN ?_ _ | refine blk_drew ?_ | refine blk_alloc ?_ _)); refine blk_put (cs := #[.bool false, .bool true, .bool false, .bool false, .bool false, .bool false, .int .i64 0, .bool false, .bool false, .bool false]) ?_ 2 _ rfl; (with_reducible repeat (first | refine blk_drewN ?_ _ | refine blk_drew ?_ | refine blk_alloc ?_ _)); refine blk_put (cs := #[.bool false, .bool false, .bool false, .bool false, .bool false, .bool false, .int .i64 0, .bool false, .bool false, .bool false]) ?_ 1 _ rfl; (with_reducible repeat (first | refine blk_drewN ?_ _ | refine blk_drew ?_ | refine blk_alloc ?_ _)); refine blk_put (cs := #[.bool false, .bool false, .bool false, .bool false, .bool false, .bool false, .int .i64 0, .bool false, .bool false, .bool false]) ?_ 0 _ rfl; (with_reducible repeat (first | refine blk_drewN ?_ _ | refine blk_drew ?_ | refine blk_alloc ?_ _)); exact b.out) Tryd.underlying111 rfl (by kernel_rfl)) rfl ?_
 exact ⟨q_e, q_w1 y.out q.out⟩}
 {
 replace H := q_iBN H; rcases H with ⟨-, c26b0, c26b1, H⟩ | ⟨G7, c26b0, c26b1, H⟩
 {
 simp only [Option.some.injEq, Prod.mk.injEq] at H
 obtain ⟨rfl, rfl, rfl, rfl, rfl, rfl, rfl, rfl, rfl, rfl, rfl⟩ := H; go_enter Tryd.func74, Tryd.ntmps74
 go_wp2_with (first | ((with_reducible refine gd_ 2 rfl ?_); refine q_box 2 111 #[.bool false, .bool false, .bool false, .bool false, .bool false, .bool false, .int .i64 0, .bool false, .bool false, .bool false] ?_; intro p hg G8 l hb; have b := a_ (l); have z := a_ ((q_ge y.out hg)); have q := a_ ((q_ge y.out hg)); replace y := a_ (q_st y.out hb); clear hb l hg; obtain ⟨n8, n9, o0, o1, o2, o3, o4, o5, o6, o7, o8, o9, p0, p1, p2, p3, p4, p5, p6, p7⟩ := q_cf10 b.out))
 refine bodyPost_ret (results_ct rfl _ _ p 111 #[.bool false, .bool true, .bool true, .bool false, .bool true, .bool false, .int .i64 0, .bool true, .bool false, .bool false] (0, 0) _ rfl (by (with_reducible repeat (first | refine blk_drewN ?_ _ | refine blk_drew ?_ | refine blk_alloc ?_ _)); refine blk_put (cs := #[.bool false, .bool true, .bool true, .bool false, .bool true, .bool false, .int .i64 0, .bool true, .bool false, .bool false]) ?_ 9 _ rfl; (with_reducible repeat (first | refine blk_drewN ?_ _ | refine blk_drew ?_ | refine blk_alloc ?_ _)); refine blk_put (cs := #[.bool false, .bool true, .bool true, .bool false, .bool true, .bool false, .int .i64 0, .bool true, .bool false, .bool false]) ?_ 8 _ rfl; (with_reducible repeat (first | refine blk_drewN ?_ _ | refine blk_drew ?_ | refine blk_alloc ?_ _)); refine blk_put (cs := #[.bool false, .bool true, .bool true, .bool false, .bool true, .bool false, .int .i64 0, .bool false, .bool false, .bool false]) ?_ 7 _ rfl; (with_reducible repeat (first | refine blk_drewN ?_ _ | refine blk_drew ?_ | refine blk_alloc ?_ _)); refine blk_put (cs := #[.bool false, .bool true, .bool true, .bool false, .bool true, .bool false, .int .i64 0, .bool false, .bool false, .bool false]) ?_ 6 _ rfl; (with_reducible repeat (first | refine blk_drewN ?_ _ | refine blk_drew ?_ | refine blk_alloc ?_ _)); refine blk_put (cs := #[.bool false, .bool true, .bool true, .bool false, .bool true, .bool false, .int .i64 0, .bool false, .bool false, .bool false]) ?_ 5 _ rfl; (with_reducible repeat (first | refine blk_drewN ?_ _ | refine blk_drew ?_ | refine blk_alloc ?_ _)); refine blk_put (cs := #[.bool false, .bool true, .bool true, .bool false, .bool false, .bool false, .int .i64 0, .bool false, .bool false, .bool false]) ?_ 4 _ rfl; (with_reducible repeat (first | refine blk_drewN ?_ _ | refine blk_drew ?_ | refine blk_alloc ?_ _)); refine blk_put (cs := #[.bool false, .bool true, .bool true, .bool false, .bool false, .bool false, .int .i64 0, .bool false, .bool false, .bool false]) ?_ 3 _ rfl; (with_reducible repeat (first | refine blk_drewN ?_ _ | refine blk_drew ?_ | refine blk_alloc ?_ _)); refine blk_put (cs := #[.bool false, .bool true, .bool false, .bool false, .bool false, .bool false, .int .i64 0, .bool false, .bool false, .bool false]) ?_ 2 _ rfl; (with_reducible repeat (first | refine blk_drewN ?_ _ | refine blk_drew ?_ | refine blk_alloc ?_ _)); refine blk_put (cs := #[.bool false, .bool false, .bool false, .bool false, .bool false, .bool false, .int .i64 0, .bool false, .bool false, .bool false]) ?_ 1 _ rfl; (with_reducible repeat (first | refine blk_drewN ?_ _ | refine blk_drew ?_ | refine blk_alloc ?_ _)); refine blk_put (cs := #[.bool false, .bool false, .bool false, .bool false, .bool false, .bool false, .int .i64 0, .bool false, .bool false, .bool false]) ?_ 0 _ rfl; (with_reducible repeat (first | refine blk_drewN ?_ _ | refine blk_drew ?_ | refine blk_alloc ?_ _)); exact b.out) Tryd.underlying111 rfl (by kernel_rfl)) rfl ?_
 exact ⟨q_e, q_w1 y.out q.out⟩}
 {
 replace H := q_iBN H; rcases H with ⟨-, c29b0, c29b1, H⟩ | ⟨G9, c29b0, c29b1, H⟩
 {
 simp only [Option.some.injEq, Prod.mk.injEq] at H
 obtain ⟨rfl, rfl, rfl, rfl, rfl, rfl, rfl, rfl, rfl, rfl, rfl⟩ := H; go_enter Tryd.func74, Tryd.ntmps74
 go_wp2_with (first | ((with_reducible refine gd_ 2 rfl ?_); refine q_box 2 111 #[.bool false, .bool false, .bool false, .bool false, .bool false, .bool false, .int .i64 0, .bool false, .bool false, .bool false] ?_; intro p hg H0 l hb; have b := a_ (l); have z := a_ ((q_ge y.out hg)); have q := a_ ((q_ge y.out hg)); replace y := a_ (q_st y.out hb); clear hb l hg; obtain ⟨p8, p9, q0, q1, q2, q3, q4, q5, q6, q7, q8, q9, r0, s0, s1, s2, s3, s4, s5, s6⟩ := q_cf10 b.out))
 refine bodyPost_ret (results_ct rfl _ _ p 111 #[.bool false, .bool false, .bool false, .bool true, .bool false, .bool false, .int .i64 0, .bool false, .bool false, .bool false] (0, 0) _ rfl (by (with_reducible repeat (first | refine blk_drewN ?_ _ | refine blk_drew ?_ | refine blk_alloc ?_ _)); refine blk_put (cs := #[.bool false, .bool false, .bool false, .bool true, .bool false, .bool false, .int .i64 0, .bool false, .bool false, .bool false]) ?_ 9 _ rfl; (with_reducible repeat (first | refine blk_drewN ?_ _ | refine blk_drew ?_ | refine blk_alloc ?_ _)); refine blk_put (cs := #[.bool false, .bool false, .bool false, .bool true, .bool false, .bool false, .int .i64 0, .bool false, .bool false, .bool false]) ?_ 8 _ rfl; (with_reducible repeat (first | refine blk_drewN ?_ _ | refine blk_drew ?_ | refine blk_alloc ?_ _)); refine blk_put (cs := #[.bool false, .bool false, .bool false, .bool true, .bool false, .bool false, .int .i64 0, .bool false, .bool false, .bool false]) ?_ 7 _ rfl; (with_reducible repeat (first | refine blk_drewN ?_ _ | refine blk_drew ?_ | refine blk_alloc ?_ _)); refine blk_put (cs := #[.bool false, .bool false, .bool false, .bool true, .bool false, .bool false, .int .i64 0, .bool false, .bool false, .bool false]) ?_ 6 _ rfl; (with_reducible repeat (first | refine blk_drewN ?_ _ | refine blk_drew ?_ | refine blk_alloc ?_ _)); refine blk_put (cs := #[.bool false, .bool false, .bool false, .bool true, .bool false, .bool false, .int .i64 0, .bool false, .bool false, .bool false]) ?_ 5 _ rfl; (with_reducible repeat (first | refine blk_drewN ?_ _ | refine blk_drew ?_ | refine blk_alloc ?_ _)); refine blk_put (cs := #[.bool false, .bool false, .bool false, .bool true, .bool false, .bool false, .int .i64 0, .bool false, .bool false, .bool false]) ?_ 4 _ rfl; (with_reducible repeat (first | refine blk_drewN ?_ _ | refine blk_drew ?_ | refine blk_alloc ?_ _)); refine blk_put (cs := #[.bool false, .bool false, .bool false, .bool false, .bool false, .bool false, .int .i64 0, .bool false, .bool false, .bool false]) ?_ 3 _ rfl; (with_reducible repeat (first | refine blk_drewN ?_ _ | refine blk_drew ?_ | refine blk_alloc ?_ _)); refine blk_put (cs := #[.bool false, .bool false, .bool false, .bool false, .bool false, .bool false, .int .i64 0, .bool false, .bool false, .bool false]) ?_ 2 _ rfl; (with_reducible repeat (first | refine blk_drewN ?_ _ | refine blk_drew ?_ | refine blk_alloc ?_ _)); refine blk_put (cs := #[.bool false, .bool false, .bool false, .bool false, .bool false, .bool false, .int .i64 0, .bool false, .bool false, .bool false]) ?_ 1 _ rfl; (with_reducible repeat (first | refine blk_drewN ?_ _ | refine blk_drew ?_ | refine blk_alloc ?_ _)); refine blk_put (cs := #[.bool false, .bool false, .bool false, .bool false, .bool false, .bool false, .int .i64 0, .bool false, .bool false, .bool false]) ?_ 0 _ rfl; (with_reducible repeat (first | refine blk_drewN ?_ _ | refine blk_drew ?_ | refine blk_alloc ?_ _)); exact b.out) Tryd.underlying111 rfl (by kernel_rfl)) rfl ?_
 exact ⟨q_e, q_w1 y.out q.out⟩}
 {
 replace H := q_iBN H; rcases H with ⟨-, c32b0, c32b1, H⟩ | ⟨H1, c32b0, c32b1, H⟩
 {
 simp only [Option.some.injEq, Prod.mk.injEq] at H
 obtain ⟨rfl, rfl, rfl, rfl, rfl, rfl, rfl, rfl, rfl, rfl, rfl⟩ := H; go_enter Tryd.func74, Tryd.ntmps74
 go_wp2_with (first | ((with_reducible refine gd_ 2 rfl ?_); refine q_box 2 111 #[.bool false, .bool false, .bool false, .bool false, .bool false, .bool false, .int .i64 0, .bool false, .bool false, .bool false] ?_; intro p hg H2 l hb; have b := a_ (l); have z := a_ ((q_ge y.out hg)); have q := a_ ((q_ge y.out hg)); replace y := a_ (q_st y.out hb); clear hb l hg; obtain ⟨s7, s8, s9, t0, t1, t2, t3, t4, t5, t6, t7, t8, t9, v0, v1, v2, v3, v4, v5, v6⟩ := q_cf10 b.out))
 refine bodyPost_ret (results_ct rfl _ _ p 111 #[.bool true, .bool true, .bool false, .bool true, .bool false, .bool false, .int .i64 0, .bool true, .bool false, .bool false] (0, 0) _ rfl (by (with_reducible repeat (first | refine blk_drewN ?_ _ | refine blk_drew ?_ | refine blk_alloc ?_ _)); refine blk_put (cs := #[.bool true, .bool true, .bool false, .bool true, .bool false, .bool false, .int .i64 0, .bool true, .bool false, .bool false]) ?_ 9 _ rfl; (with_reducible repeat (first | refine blk_drewN ?_ _ | refine blk_drew ?_ | refine blk_alloc ?_ _)); refine blk_put (cs := #[.bool true, .bool true, .bool false, .bool true, .bool false, .bool false, .int .i64 0, .bool true, .bool false, .bool false]) ?_ 8 _ rfl; (with_reducible repeat (first | refine blk_drewN ?_ _ | refine blk_drew ?_ | refine blk_alloc ?_ _)); refine blk_put (cs := #[.bool true, .bool true, .bool false, .bool true, .bool false, .bool false, .int .i64 0, .bool false, .bool false, .bool false]) ?_ 7 _ rfl; (with_reducible repeat (first | refine blk_drewN ?_ _ | refine blk_drew ?_ | refine blk_alloc ?_ _)); refine blk_put (cs := #[.bool true, .bool true, .bool false, .bool true, .bool false, .bool false, .int .i64 0, .bool false, .bool false, .bool false]) ?_ 6 _ rfl; (with_reducible repeat (first | refine blk_drewN ?_ _ | refine blk_drew ?_ | refine blk_alloc ?_ _)); refine blk_put (cs := #[.bool true, .bool true, .bool false, .bool true, .bool false, .bool false, .int .i64 0, .bool false, .bool false, .bool false]) ?_ 5 _ rfl; (with_reducible repeat (first | refine blk_drewN ?_ _ | refine blk_drew ?_ | refine blk_alloc ?_ _)); refine blk_put (cs := #[.bool true, .bool true, .bool false, .bool true, .bool false, .bool false, .int .i64 0, .bool false, .bool false, .bool false]) ?_ 4 _ rfl; (with_reducible repeat (first | refine blk_drewN ?_ _ | refine blk_drew ?_ | refine blk_alloc ?_ _)); refine blk_put (cs := #[.bool true, .bool true, .bool false, .bool false, .bool false, .bool false, .int .i64 0, .bool false, .bool false, .bool false]) ?_ 3 _ rfl; (with_reducible repeat (first | refine blk_drewN ?_ _ | refine blk_drew ?_ | refine blk_alloc ?_ _)); refine blk_put (cs := #[.bool true, .bool true, .bool false, .bool false, .bool false, .bool false, .int .i64 0, .bool false, .bool false, .bool false]) ?_ 2 _ rfl; (with_reducible repeat (first | refine blk_drewN ?_ _ | refine blk_drew ?_ | refine blk_alloc ?_ _)); refine blk_put (cs := #[.bool true, .bool false, .bool false, .bool false, .bool false, .bool false, .int .i64 0, .bool false, .bool false, .bool false]) ?_ 1 _ rfl; (with_reducible repeat (first | refine blk_drewN ?_ _ | refine blk_drew ?_ | refine blk_alloc ?_ _)); refine blk_put (cs := #[.bool false, .bool false, .bool false, .bool false, .bool false, .bool false, .int .i64 0, .bool false, .bool false, .bool false]) ?_ 0 _ rfl; (with_reducible repeat (first | refine blk_drewN ?_ _ | refine blk_drew ?_ | refine blk_alloc ?_ _)); exact b.out) Tryd.underlying111 rfl (by kernel_rfl)) rfl ?_
 exact ⟨q_e, q_w1 y.out q.out⟩}
 {
 replace H := q_iBN H; rcases H with ⟨-, c35b0, c35b1, H⟩ | ⟨H3, c35b0, c35b1, H⟩
 {
 simp only [Option.some.injEq, Prod.mk.injEq] at H
 obtain ⟨rfl, rfl, rfl, rfl, rfl, rfl, rfl, rfl, rfl, rfl, rfl⟩ := H; go_enter Tryd.func74, Tryd.ntmps74
 go_wp2_with (first | ((with_reducible refine gd_ 2 rfl ?_); refine q_box 2 111 #[.bool false, .bool false, .bool false, .bool false, .bool false, .bool false, .int .i64 0, .bool false, .bool false, .bool false] ?_; intro p hg H4 l hb; have b := a_ (l); have z := a_ ((q_ge y.out hg)); have q := a_ ((q_ge y.out hg)); replace y := a_ (q_st y.out hb); clear hb l hg; obtain ⟨v7, v8, v9, w2, w4, w5, w7, w8, x0, x1, x2, x3, x4, x5, x6, x7, x8, x9, y0, y1⟩ := q_cf10 b.out))
 refine bodyPost_ret (results_ct rfl _ _ p 111 #[.bool true, .bool false, .bool false, .bool false, .bool false, .bool true, .int .i64 0, .bool false, .bool false, .bool false] (0, 0) _ rfl (by (with_reducible repeat (first | refine blk_drewN ?_ _ | refine blk_drew ?_ | refine blk_alloc ?_ _)); refine blk_put (cs := #[.bool true, .bool false, .bool false, .bool false, .bool false, .bool true, .int .i64 0, .bool false, .bool false, .bool false]) ?_ 9 _ rfl; (with_reducible repeat (first | refine blk_drewN ?_ _ | refine blk_drew ?_ | refine blk_alloc ?_ _)); refine blk_put (cs := #[.bool true, .bool false, .bool false, .bool false, .bool false, .bool true, .int .i64 0, .bool false, .bool false, .bool false]) ?_ 8 _ rfl; (with_reducible repeat (first | refine blk_drewN ?_ _ | refine blk_drew ?_ | refine blk_alloc ?_ _)); refine blk_put (cs := #[.bool true, .bool false, .bool false, .bool false, .bool false, .bool true, .int .i64 0, .bool false, .bool false, .bool false]) ?_ 7 _ rfl; (with_reducible repeat (first | refine blk_drewN ?_ _ | refine blk_drew ?_ | refine blk_alloc ?_ _)); refine blk_put (cs := #[.bool true, .bool false, .bool false, .bool false, .bool false, .bool true, .int .i64 0, .bool false, .bool false, .bool false]) ?_ 6 _ rfl; (with_reducible repeat (first | refine blk_drewN ?_ _ | refine blk_drew ?_ | refine blk_alloc ?_ _)); refine blk_put (cs := #[.bool true, .bool false, .bool false, .bool false, .bool false, .bool false, .int .i64 0, .bool false, .bool false, .bool false]) ?_ 5 _ rfl; (with_reducible repeat (first | refine blk_drewN ?_ _ | refine blk_drew ?_ | refine blk_alloc ?_ _)); refine blk_put (cs := #[.bool true, .bool false, .bool false, .bool false, .bool false, .bool false, .int .i64 0, .bool false, .bool false, .bool false]) ?_ 4 _ rfl; (with_reducible repeat (first | refine blk_drewN ?_ _ | refine blk_drew ?_ | refine blk_alloc ?_ _)); refine blk_put (cs := #[.bool true, .bool false, .bool false, .bool false, .bool false, .bool false, .int .i64 0, .bool false, .bool false, .bool false]) ?_ 3 _ rfl; (with_reducible repeat (first | refine blk_drewN ?_ _ | refine blk_drew ?_ | refine blk_alloc ?_ _)); refine blk_put (cs := #[.bool true, .bool false, .bool false, .bool false, .bool false, .bool false, .int .i64 0, .bool false, .bool false, .bool false]) ?_ 2 _ rfl; (with_reducible repeat (first | refine blk_drewN ?_ _ | refine blk_drew ?_ | refine blk_alloc ?_ _)); refine blk_put (cs := #[.bool true, .bool false, .bool false, .bool false, .bool false, .bool false, .int .i64 0, .bool false, .bool false, .bool false]) ?_ 1 _ rfl; (with_reducible repeat (first | refine blk_drewN ?_ _ | refine blk_drew ?_ | refine blk_alloc ?_ _)); refine blk_put (cs := #[.bool false, .bool false, .bool false, .bool false, .bool false, .bool false, .int .i64 0, .bool false, .bool false, .bool false]) ?_ 0 _ rfl; (with_reducible repeat (first | refine blk_drewN ?_ _ | refine blk_drew ?_ | refine blk_alloc ?_ _)); exact b.out) Tryd.underlying111 rfl (by kernel_rfl)) rfl ?_
 exact ⟨q_e, q_w1 y.out q.out⟩}
 {
 simp only [Option.some.injEq, Prod.mk.injEq] at H
 obtain ⟨rfl, rfl, rfl, rfl, rfl, rfl, rfl, rfl, rfl, rfl, rfl⟩ := H; go_enter Tryd.func74, Tryd.ntmps74
 go_wp2_with (first | ((with_reducible refine gd_ 2 rfl ?_); refine q_box 2 111 #[.bool false, .bool false, .bool false, .bool false, .bool false, .bool false, .int .i64 0, .bool false, .bool false, .bool false] ?_; intro p hg H5 l hb; have b := a_ (l); have z := a_ ((q_ge y.out hg)); have q := a_ ((q_ge y.out hg)); replace y := a_ (q_st y.out hb); clear hb l hg; obtain ⟨y2, y3, y4, y5, y6, y7, y8, y9, z0, z1, z2, z3, z4, z5, z6, z7, z8, z9, A0, A1⟩ := q_cf10 b.out))
 refine bodyPost_ret (results_ct rfl _ _ p 111 #[.bool false, .bool false, .bool false, .bool false, .bool false, .bool false, .int .i64 0, .bool false, .bool false, .bool false] (0, 0) _ rfl (by (with_reducible repeat (first | refine blk_drewN ?_ _ | refine blk_drew ?_ | refine blk_alloc ?_ _)); refine blk_put (cs := #[.bool false, .bool false, .bool false, .bool false, .bool false, .bool false, .int .i64 0, .bool false, .bool false, .bool false]) ?_ 9 _ rfl; (with_reducible repeat (first | refine blk_drewN ?_ _ | refine blk_drew ?_ | refine blk_alloc ?_ _)); refine blk_put (cs := #[.bool false, .bool false, .bool false, .bool false, .bool false, .bool false, .int .i64 0, .bool false, .bool false, .bool false]) ?_ 8 _ rfl; (with_reducible repeat (first | refine blk_drewN ?_ _ | refine blk_drew ?_ | refine blk_alloc ?_ _)); refine blk_put (cs := #[.bool false, .bool false, .bool false, .bool false, .bool false, .bool false, .int .i64 0, .bool false, .bool false, .bool false]) ?_ 7 _ rfl; (with_reducible repeat (first | refine blk_drewN ?_ _ | refine blk_drew ?_ | refine blk_alloc ?_ _)); refine blk_put (cs := #[.bool false, .bool false, .bool false, .bool false, .bool false, .bool false, .int .i64 0, .bool false, .bool false, .bool false]) ?_ 6 _ rfl; (with_reducible repeat (first | refine blk_drewN ?_ _ | refine blk_drew ?_ | refine blk_alloc ?_ _)); refine blk_put (cs := #[.bool false, .bool false, .bool false, .bool false, .bool false, .bool false, .int .i64 0, .bool false, .bool false, .bool false]) ?_ 5 _ rfl; (with_reducible repeat (first | refine blk_drewN ?_ _ | refine blk_drew ?_ | refine blk_alloc ?_ _)); refine blk_put (cs := #[.bool false, .bool false, .bool false, .bool false, .bool false, .bool false, .int .i64 0, .bool false, .bool false, .bool false]) ?_ 4 _ rfl; (with_reducible repeat (first | refine blk_drewN ?_ _ | refine blk_drew ?_ | refine blk_alloc ?_ _)); refine blk_put (cs := #[.bool false, .bool false, .bool false, .bool false, .bool false, .bool false, .int .i64 0, .bool false, .bool false, .bool false]) ?_ 3 _ rfl; (with_reducible repeat (first | refine blk_drewN ?_ _ | refine blk_drew ?_ | refine blk_alloc ?_ _)); refine blk_put (cs := #[.bool false, .bool false, .bool false, .bool false, .bool false, .bool false, .int .i64 0, .bool false, .bool false, .bool false]) ?_ 2 _ rfl; (with_reducible repeat (first | refine blk_drewN ?_ _ | refine blk_drew ?_ | refine blk_alloc ?_ _)); refine blk_put (cs := #[.bool false, .bool false, .bool false, .bool false, .bool false, .bool false, .int .i64 0, .bool false, .bool false, .bool false]) ?_ 1 _ rfl; (with_reducible repeat (first | refine blk_drewN ?_ _ | refine blk_drew ?_ | refine blk_alloc ?_ _)); refine blk_put (cs := #[.bool false, .bool false, .bool false, .bool false, .bool false, .bool false, .int .i64 0, .bool false, .bool false, .bool false]) ?_ 0 _ rfl; (with_reducible repeat (first | refine blk_drewN ?_ _ | refine blk_drew ?_ | refine blk_alloc ?_ _)); exact b.out) Tryd.underlying111 rfl (by kernel_rfl)) rfl ?_
 exact ⟨q_e, q_w1 y.out q.out⟩}}}}}}}}}}}}
def flow_array.f (q : ByteArray) (b : List (S83)) (p : List (S85)) (y : Int) (z : List (S69)) (l : Int) : Option (Bool) := if l ≥ 6 then (some (decide ((wrap64 (l)) < (wrap64 (6 + (p.length : Int)))))) else (if l ≥ 0 then (if (wrap64 (l)) < (b.length : Int) then (if 0 ≤ l then (if l < (b.length : Int) then (some ((rd_T83 b l).f1)) else (none)) else (none)) else (some false)) else (some false))
theorem flow_array.calls (D : ByteArray) (E : Option Addr) (F : Nat) (b : List (S83)) (G : Option Addr) (I : Nat) (p : List (S85)) (J : Int) (L : Option Addr) (M : Nat) (y : List (S69)) (R : Int) (r : Bool) (w : World) (S : Kd.C k83 w E b.length b) (T : b.length ≤ F) (U : Kd.C k85 w G p.length p) (V : p.length ≤ I) (X : Kd.C k69 w L y.length y) (a0 : y.length ≤ M) (h : flow_array.f D b p J y R = some r) :
  Calls Tryd.prog 85 #[.agg #[.string D, .slice E b.length F, .slice G p.length I, .int .i64 J, .slice L y.length M], .int .i32 R] w fun e w' => e = .returned (.bool r) ∧ Below w.heap.size w w' := by
 have e7 := Tryd.underlying26; have a4 := a_ S; have e1 := a_ T; clear S T; have e2 := a_ U; have e3 := a_ V; clear U V; have e4 := a_ X; have e5 := a_ a0; clear X a0; have B := a_ (Below.refl w.heap.size w); have H : (if R ≥ 6 then (some (decide ((wrap64 (R)) < (wrap64 (6 + (p.length : Int)))))) else (if R ≥ 0 then (if (wrap64 (R)) < (b.length : Int) then (if 0 ≤ R then (if R < (b.length : Int) then (some ((rd_T83 b R).f1)) else (none)) else (none)) else (some false)) else (some false))) = some r := h
 clear h; rcases q_ite H with ⟨c3b0, H⟩ | ⟨c3b0, H⟩
 {
 obtain rfl := Option.some.inj H; go_enter Tryd.func85, Tryd.ntmps85
 go_wp2_with (first | ((with_reducible refine gd_ 2 rfl ?_); (try (refine gate_guard (by rfl) ?_; dsimp only)); refine q_box 2 26 #[.string D, .slice E b.length F, .slice G p.length I, .int .i64 J, .slice L y.length M] ?_; intro N hg w4 l hb; have z := a_ (l); have O := a_ ((q_ge B.out hg)); have q := a_ ((q_ge B.out hg)); replace B := a_ (q_st B.out hb); clear hb l hg; obtain ⟨d1, d2, d3, d4, d5, d6, d7, d8, d9, e0⟩ := q_cf5 z.out))
 go_ret
 exact ⟨q_e, q_w1 B.out q.out⟩}
 {
 rcases q_ite H with ⟨c6b0, H⟩ | ⟨c6b0, H⟩
 {
 rcases q_ite H with ⟨c7b0, H⟩ | ⟨c7b0, H⟩
 {
 replace H := q_gD H; obtain ⟨-, c8b0, H⟩ := H; replace H := q_gD H; obtain ⟨-, c9b0, H⟩ := H; obtain rfl := Option.some.inj H; go_enter Tryd.func85, Tryd.ntmps85
 go_wp2_with (first | ((with_reducible refine gd_ 2 rfl ?_); (try (refine gate_guard (by rfl) ?_; dsimp only)); refine q_box 2 26 #[.string D, .slice E b.length F, .slice G p.length I, .int .i64 J, .slice L y.length M] ?_; intro N hg e8 l hb; have z := a_ (l); have O := a_ ((q_ge B.out hg)); have q := a_ ((q_ge B.out hg)); replace B := a_ (q_st B.out hb); clear hb l hg; obtain ⟨a5, a6, a7, a8, a9, b0, b1, b2, b3, b4⟩ := q_cf5 z.out; have a2 : 0 ≤ (R : Int) := q_d; have a3 : R < (b.length : Int) := q_d; obtain ⟨e6, b5, b6, b7, a2, a3⟩ := b_T83 a4.out B.out R a2 a3; cases b5))
 go_ret
 exact ⟨q_e, q_w1 B.out q.out⟩}
 {
 obtain rfl := Option.some.inj H; go_enter Tryd.func85, Tryd.ntmps85
 go_wp2_with (first | ((with_reducible refine gd_ 2 rfl ?_); (try (refine gate_guard (by rfl) ?_; dsimp only)); refine q_box 2 26 #[.string D, .slice E b.length F, .slice G p.length I, .int .i64 J, .slice L y.length M] ?_; intro N hg e9 l hb; have z := a_ (l); have O := a_ ((q_ge B.out hg)); have q := a_ ((q_ge B.out hg)); replace B := a_ (q_st B.out hb); clear hb l hg; obtain ⟨b8, b9, c0, c1, c3, c4, c6, c8, c9, d0⟩ := q_cf5 z.out))
 go_ret
 exact ⟨q_e, q_w1 B.out q.out⟩}}
 {
 obtain rfl := Option.some.inj H; go_enter Tryd.func85, Tryd.ntmps85
 go_wp2_with (first | ((with_reducible refine gd_ 2 rfl ?_); (try (refine gate_guard (by rfl) ?_; dsimp only)); refine q_box 2 26 #[.string D, .slice E b.length F, .slice G p.length I, .int .i64 J, .slice L y.length M] ?_; intro N hg f0 l hb; have z := a_ (l); have O := a_ ((q_ge B.out hg)); have q := a_ ((q_ge B.out hg)); replace B := a_ (q_st B.out hb); clear hb l hg))
 go_ret
 exact ⟨q_e, q_w1 B.out q.out⟩}}
def flow_imm.f (p : ByteArray) (l : List (S83)) (q : List (S85)) (y : Int) (z : List (S69)) (G : Bool) (I : Bool) (J : Bool) (B : Bool) (C : Bool) (L : Bool) (M : Int) (N : Bool) (D : Bool) (E : Bool) (O : Int) (R : Int) (S : Int) (T : Int) (U : Int) (b : Int) (V : List Int) : Option (Bool) := if D = true then (some true) else (if E = true then (if b ≥ 0 then (if (wrap64 (b)) < (l.length : Int) then (if 0 ≤ b then (if b < (l.length : Int) then (some (!((rd_T83 l b).f1))) else (none)) else (none)) else (some false)) else (some false)) else (if C = true then ((flow_array.f p l q y z b).bind fun F => (some F)) else (if B = true then (if b ≥ 0 then (some (decide (b ≤ 400))) else (some false)) else (some (b == 0)))))
theorem flow_imm.calls (S : ByteArray) (V : Option Addr) (X : Nat) (N : List (S83)) (a0 : Option Addr) (a1 : Nat) (O : List (S85)) (T : Int) (a2 : Option Addr) (a3 : Nat) (R : List (S69)) (a4 : Bool) (a5 : Bool) (a6 : Bool) (c6 : Bool) (c8 : Bool) (a7 : Bool) (a8 : Int) (a9 : Bool) (d0 : Bool) (c9 : Bool) (b0 : Int) (b1 : Int) (b2 : Int) (b3 : Int) (b4 : Int) (J : Int) (b5 : Option Addr) (b6 : Nat) (U : List Int) (r : Bool) (w : World) (d1 : Kd.C k83 w V N.length N) (d2 : N.length ≤ X) (d3 : Kd.C k85 w a0 O.length O) (d4 : O.length ≤ a1) (d5 : Kd.C k69 w a2 R.length R) (d6 : R.length ≤ a3) (d7 : Kd.C (Kd.int .i64) w b5 U.length U) (d8 : U.length ≤ b6) (h : flow_imm.f S N O T R a4 a5 a6 c6 c8 a7 a8 a9 d0 c9 b0 b1 b2 b3 b4 J U = some r) :
  Calls Tryd.prog 75 #[.agg #[.string S, .slice V N.length X, .slice a0 O.length a1, .int .i64 T, .slice a2 R.length a3], .agg #[.bool a4, .bool a5, .bool a6, .bool c6, .bool c8, .bool a7, .int .i64 a8, .bool a9, .bool d0, .bool c9], .agg #[.int .i64 b0, .int .i64 b1, .int .i64 b2, .int .i64 b3, .int .i64 b4, .int .i32 J, .slice b5 U.length b6]] w fun e w' => e = .returned (.bool r) ∧ Below w.heap.size w w' := by
 have S1 := Tryd.underlying26; have N4 := Tryd.underlying111; have S2 := Tryd.underlying71; have d9 := a_ d1; have e7 := a_ d2; clear d1 d2; have e8 := a_ d3; have e9 := a_ d4; clear d3 d4; have f0 := a_ d5; have f2 := a_ d6; clear d5 d6; have N5 := a_ d7; have N6 := a_ d8; clear d7 d8; have I := a_ (Below.refl w.heap.size w); have H : (if d0 = true then (some true) else (if c9 = true then (if J ≥ 0 then (if (wrap64 (J)) < (N.length : Int) then (if 0 ≤ J then (if J < (N.length : Int) then (some (!((rd_T83 N J).f1))) else (none)) else (none)) else (some false)) else (some false)) else (if c8 = true then ((flow_array.f S N O T R J).bind fun e0 => (some e0)) else (if c6 = true then (if J ≥ 0 then (some (decide (J ≤ 400))) else (some false)) else (some (J == 0)))))) = some r := h
 clear h; by_cases c4 : d0 = true
 {
 subst c4; rw [if_pos rfl] at H; obtain rfl := Option.some.inj H; go_enter Tryd.func75, Tryd.ntmps75
 go_wp2_with (first | ((with_reducible refine gd_ 3 rfl ?_); (try (refine gate_guard (by rfl) ?_; dsimp only)); refine q_box 3 26 #[.string S, .slice V N.length X, .slice a0 O.length a1, .int .i64 T, .slice a2 R.length a3] ?_; intro b7 hg w5 p hb; have b := a_ (p); have b8 := a_ ((q_ge I.out hg)); have l := a_ ((q_ge I.out hg)); replace I := a_ (q_st I.out hb); clear hb p hg) | ((with_reducible refine gd_ 4 rfl ?_); (try (refine gate_guard (by rfl) ?_; dsimp only)); refine q_box 4 111 #[.bool a4, .bool a5, .bool a6, .bool c6, .bool c8, .bool a7, .int .i64 a8, .bool a9, .bool true, .bool c9] ?_; intro b9 hg w6 p hb; have q := a_ (p); have c0 := a_ ((q_ge1 I.out hg l.out)); have y := a_ ((q_ge1 I.out hg l.out)); have z := a_ ((q_ne b.out hg)); have B := a_ ((q_en b.out hg)); replace b := a_ (q_bk b.out hb); replace I := a_ (q_st1 I.out hb l.out); clear hb p hg) | ((with_reducible refine gd_ 5 rfl ?_); (try (refine gate_guard (by rfl) ?_; dsimp only)); refine q_box 5 71 #[.int .i64 b0, .int .i64 b1, .int .i64 b2, .int .i64 b3, .int .i64 b4, .int .i32 J, .slice b5 U.length b6] ?_; intro c1 hg w7 p hb; have L := a_ (p); have c3 := a_ ((q_ge2 I.out hg l.out y.out)); have M := a_ ((q_ge2 I.out hg l.out y.out)); have F := a_ ((q_ne b.out hg)); have G := a_ ((q_en b.out hg)); have D := a_ ((q_ne q.out hg)); have E := a_ ((q_en q.out hg)); replace b := a_ (q_bk b.out hb); replace q := a_ (q_bk q.out hb); replace I := a_ (q_st2 I.out hb l.out y.out); clear hb p hg; have S3 := B.out; have S4 := z.out; have S5 := D.out; have S6 := E.out; obtain ⟨f3, f4, f5, f6, f7, f8, f9, g0, g1, g2, g3, g4, g5, g6, g7, g8, g9, i0, i1, i2⟩ := q_cf10 q.out))
 go_ret
 exact ⟨q_e, q_w3 I.out l.out y.out M.out⟩}
 {
 replace c4 := Bool.eq_false_iff.mpr c4; subst c4; rw [if_neg Bool.false_ne_true] at H; by_cases e1 : c9 = true
 {
 subst e1; rw [if_pos rfl] at H; rcases q_ite H with ⟨c12b0, H⟩ | ⟨c12b0, H⟩
 {
 rcases q_ite H with ⟨c13b0, H⟩ | ⟨c13b0, H⟩
 {
 replace H := q_gD H; obtain ⟨-, c14b0, H⟩ := H; replace H := q_gD H; obtain ⟨-, c15b0, H⟩ := H; obtain rfl := Option.some.inj H; go_enter Tryd.func75, Tryd.ntmps75
 go_wp2_with (first | ((with_reducible refine gd_ 3 rfl ?_); (try (refine gate_guard (by rfl) ?_; dsimp only)); refine q_box 3 26 #[.string S, .slice V N.length X, .slice a0 O.length a1, .int .i64 T, .slice a2 R.length a3] ?_; intro b7 hg S7 p hb; have b := a_ (p); have b8 := a_ ((q_ge I.out hg)); have l := a_ ((q_ge I.out hg)); replace I := a_ (q_st I.out hb); clear hb p hg) | ((with_reducible refine gd_ 4 rfl ?_); (try (refine gate_guard (by rfl) ?_; dsimp only)); refine q_box 4 111 #[.bool a4, .bool a5, .bool a6, .bool c6, .bool c8, .bool a7, .int .i64 a8, .bool a9, .bool false, .bool true] ?_; intro b9 hg S8 p hb; have q := a_ (p); have c0 := a_ ((q_ge1 I.out hg l.out)); have y := a_ ((q_ge1 I.out hg l.out)); have z := a_ ((q_ne b.out hg)); have B := a_ ((q_en b.out hg)); replace b := a_ (q_bk b.out hb); replace I := a_ (q_st1 I.out hb l.out); clear hb p hg) | ((with_reducible refine gd_ 5 rfl ?_); (try (refine gate_guard (by rfl) ?_; dsimp only)); refine q_box 5 71 #[.int .i64 b0, .int .i64 b1, .int .i64 b2, .int .i64 b3, .int .i64 b4, .int .i32 J, .slice b5 U.length b6] ?_; intro c1 hg S9 p hb; have L := a_ (p); have c3 := a_ ((q_ge2 I.out hg l.out y.out)); have M := a_ ((q_ge2 I.out hg l.out y.out)); have F := a_ ((q_ne b.out hg)); have G := a_ ((q_en b.out hg)); have D := a_ ((q_ne q.out hg)); have E := a_ ((q_en q.out hg)); replace b := a_ (q_bk b.out hb); replace q := a_ (q_bk q.out hb); replace I := a_ (q_st2 I.out hb l.out y.out); clear hb p hg; have N7 := B.out; have N8 := z.out; have N9 := D.out; have O0 := E.out; obtain ⟨i3, i4, i5, i6, i7, i8, i9, j3, j5, j6, j7, j8, j9, k0, k1, k2, k3, k4, k5, k6⟩ := q_cf10 q.out; have O1 := G.out; have O2 := F.out; obtain ⟨k7, k8, k9, l4, l5, l6, l7, l8, l9, n0, n1, n2, n3, n4⟩ := q_cf7 L.out; obtain ⟨n5, n6, n7, n8, n9, o0, o1, o2, o3, o4⟩ := q_cf5 b.out; have e4 : 0 ≤ (J : Int) := q_d; have e5 : J < (N.length : Int) := q_d; obtain ⟨O3, o5, o6, o7, e4, e5⟩ := b_T83 d9.out I.out J e4 e5; cases o5))
 go_ret
 exact ⟨q_e, q_w3 I.out l.out y.out M.out⟩}
 {
 obtain rfl := Option.some.inj H; go_enter Tryd.func75, Tryd.ntmps75
 go_wp2_with (first | ((with_reducible refine gd_ 3 rfl ?_); (try (refine gate_guard (by rfl) ?_; dsimp only)); refine q_box 3 26 #[.string S, .slice V N.length X, .slice a0 O.length a1, .int .i64 T, .slice a2 R.length a3] ?_; intro b7 hg T1 p hb; have b := a_ (p); have b8 := a_ ((q_ge I.out hg)); have l := a_ ((q_ge I.out hg)); replace I := a_ (q_st I.out hb); clear hb p hg) | ((with_reducible refine gd_ 4 rfl ?_); (try (refine gate_guard (by rfl) ?_; dsimp only)); refine q_box 4 111 #[.bool a4, .bool a5, .bool a6, .bool c6, .bool c8, .bool a7, .int .i64 a8, .bool a9, .bool false, .bool true] ?_; intro b9 hg T2 p hb; have q := a_ (p); have c0 := a_ ((q_ge1 I.out hg l.out)); have y := a_ ((q_ge1 I.out hg l.out)); have z := a_ ((q_ne b.out hg)); have B := a_ ((q_en b.out hg)); replace b := a_ (q_bk b.out hb); replace I := a_ (q_st1 I.out hb l.out); clear hb p hg) | ((with_reducible refine gd_ 5 rfl ?_); (try (refine gate_guard (by rfl) ?_; dsimp only)); refine q_box 5 71 #[.int .i64 b0, .int .i64 b1, .int .i64 b2, .int .i64 b3, .int .i64 b4, .int .i32 J, .slice b5 U.length b6] ?_; intro c1 hg T3 p hb; have L := a_ (p); have c3 := a_ ((q_ge2 I.out hg l.out y.out)); have M := a_ ((q_ge2 I.out hg l.out y.out)); have F := a_ ((q_ne b.out hg)); have G := a_ ((q_en b.out hg)); have D := a_ ((q_ne q.out hg)); have E := a_ ((q_en q.out hg)); replace b := a_ (q_bk b.out hb); replace q := a_ (q_bk q.out hb); replace I := a_ (q_st2 I.out hb l.out y.out); clear hb p hg; have O4 := B.out; have O5 := z.out; have O6 := D.out; have O7 := E.out; obtain ⟨o8, o9, p0, p1, p2, p3, p4, p5, p6, p7, p8, p9, q0, q1, q2, q3, q4, q5, q6, q7⟩ := q_cf10 q.out; have O8 := G.out; have O9 := F.out; obtain ⟨q8, q9, r0, r1, r2, r3, r4, r5, r6, r7, r8, r9, s0, s1⟩ := q_cf7 L.out; obtain ⟨s2, s3, s4, s5, s6, s7, s8, s9, t0, t1⟩ := q_cf5 b.out))
 go_ret
 exact ⟨q_e, q_w3 I.out l.out y.out M.out⟩}}
 {
 obtain rfl := Option.some.inj H; go_enter Tryd.func75, Tryd.ntmps75
 go_wp2_with (first | ((with_reducible refine gd_ 3 rfl ?_); (try (refine gate_guard (by rfl) ?_; dsimp only)); refine q_box 3 26 #[.string S, .slice V N.length X, .slice a0 O.length a1, .int .i64 T, .slice a2 R.length a3] ?_; intro b7 hg T6 p hb; have b := a_ (p); have b8 := a_ ((q_ge I.out hg)); have l := a_ ((q_ge I.out hg)); replace I := a_ (q_st I.out hb); clear hb p hg) | ((with_reducible refine gd_ 4 rfl ?_); (try (refine gate_guard (by rfl) ?_; dsimp only)); refine q_box 4 111 #[.bool a4, .bool a5, .bool a6, .bool c6, .bool c8, .bool a7, .int .i64 a8, .bool a9, .bool false, .bool true] ?_; intro b9 hg T7 p hb; have q := a_ (p); have c0 := a_ ((q_ge1 I.out hg l.out)); have y := a_ ((q_ge1 I.out hg l.out)); have z := a_ ((q_ne b.out hg)); have B := a_ ((q_en b.out hg)); replace b := a_ (q_bk b.out hb); replace I := a_ (q_st1 I.out hb l.out); clear hb p hg) | ((with_reducible refine gd_ 5 rfl ?_); (try (refine gate_guard (by rfl) ?_; dsimp only)); refine q_box 5 71 #[.int .i64 b0, .int .i64 b1, .int .i64 b2, .int .i64 b3, .int .i64 b4, .int .i32 J, .slice b5 U.length b6] ?_; intro c1 hg U0 p hb; have L := a_ (p); have c3 := a_ ((q_ge2 I.out hg l.out y.out)); have M := a_ ((q_ge2 I.out hg l.out y.out)); have F := a_ ((q_ne b.out hg)); have G := a_ ((q_en b.out hg)); have D := a_ ((q_ne q.out hg)); have E := a_ ((q_en q.out hg)); replace b := a_ (q_bk b.out hb); replace q := a_ (q_bk q.out hb); replace I := a_ (q_st2 I.out hb l.out y.out); clear hb p hg; have P0 := B.out; have P1 := z.out; have P2 := D.out; have P3 := E.out; obtain ⟨t2, t3, t4, t5, t6, t7, t8, t9, v0, v1, v2, v3, v4, v5, v6, v7, v8, v9, w2, w3⟩ := q_cf10 q.out; have P4 := G.out; have P5 := F.out; obtain ⟨w4, w8, w9, x0, x1, x2, x3, x4, x5, x6, x7, x8, x9, y0⟩ := q_cf7 L.out))
 go_ret
 exact ⟨q_e, q_w3 I.out l.out y.out M.out⟩}}
 {
 replace e1 := Bool.eq_false_iff.mpr e1; subst e1; rw [if_neg Bool.false_ne_true] at H; by_cases e2 : c8 = true
 {
 subst e2; rw [if_pos rfl] at H; replace H := Option.bind_eq_some_iff.mp H; obtain ⟨e0, e6, H⟩ := H; have P6 := a_ e6; clear e6; obtain rfl := Option.some.inj H; go_enter Tryd.func75, Tryd.ntmps75
 go_wp2_with (first | ((with_reducible refine gd_ 3 rfl ?_); (try (refine gate_guard (by rfl) ?_; dsimp only)); refine q_box 3 26 #[.string S, .slice V N.length X, .slice a0 O.length a1, .int .i64 T, .slice a2 R.length a3] ?_; intro b7 hg U1 p hb; have b := a_ (p); have b8 := a_ ((q_ge I.out hg)); have l := a_ ((q_ge I.out hg)); replace I := a_ (q_st I.out hb); clear hb p hg) | ((with_reducible refine gd_ 4 rfl ?_); (try (refine gate_guard (by rfl) ?_; dsimp only)); refine q_box 4 111 #[.bool a4, .bool a5, .bool a6, .bool c6, .bool true, .bool a7, .int .i64 a8, .bool a9, .bool false, .bool false] ?_; intro b9 hg U2 p hb; have q := a_ (p); have c0 := a_ ((q_ge1 I.out hg l.out)); have y := a_ ((q_ge1 I.out hg l.out)); have z := a_ ((q_ne b.out hg)); have B := a_ ((q_en b.out hg)); replace b := a_ (q_bk b.out hb); replace I := a_ (q_st1 I.out hb l.out); clear hb p hg) | ((with_reducible refine gd_ 5 rfl ?_); (try (refine gate_guard (by rfl) ?_; dsimp only)); refine q_box 5 71 #[.int .i64 b0, .int .i64 b1, .int .i64 b2, .int .i64 b3, .int .i64 b4, .int .i32 J, .slice b5 U.length b6] ?_; intro c1 hg U3 p hb; have L := a_ (p); have c3 := a_ ((q_ge2 I.out hg l.out y.out)); have M := a_ ((q_ge2 I.out hg l.out y.out)); have F := a_ ((q_ne b.out hg)); have G := a_ ((q_en b.out hg)); have D := a_ ((q_ne q.out hg)); have E := a_ ((q_en q.out hg)); replace b := a_ (q_bk b.out hb); replace q := a_ (q_bk q.out hb); replace I := a_ (q_st2 I.out hb l.out y.out); clear hb p hg; have P7 := B.out; have P8 := z.out; have P9 := D.out; have Q0 := E.out; obtain ⟨y1, y2, y3, y4, y5, y6, y7, y8, y9, z0, z1, z2, z3, z4, z5, z6, z7, z8, z9, A0⟩ := q_cf10 q.out; have Q1 := F.out; have Q2 := G.out; obtain ⟨A1, A2, A3, A4, A5, A6, A7, A8, A9, B1⟩ := q_cf5 b.out; obtain ⟨B2, B3, B6, B7, C0, C1, C2, C3, C4, C5, C6, C7, C8, C9⟩ := q_cf7 L.out) | ((with_reducible refine gc_ 85 rfl ?_); refine q_gl 41 #[.agg #[.string S, .slice V N.length X, .slice a0 O.length a1, .int .i64 T, .slice a2 R.length a3], .int .i32 J] Tryd.func85 rfl ?_; (with_reducible refine (flow_array.calls S _ _ N _ _ O T _ _ R J e0 _ (q_C (Kd.C_below d9.out I.out)) e7.out (q_C (Kd.C_below e8.out I.out)) e9.out (q_C (Kd.C_below f0.out I.out)) f2.out P6.out).mono ?_); rintro e U4 ⟨rfl, hb⟩; refine ⟨_, rfl, ?_⟩; replace b := a_ (q_bk b.out hb); replace q := a_ (q_bk q.out hb); replace L := a_ (q_bk L.out hb); replace I := a_ (q_st3 I.out hb l.out y.out M.out); (clear hb)))
 go_ret
 exact ⟨q_e, q_w3 I.out l.out y.out M.out⟩}
 {
 replace e2 := Bool.eq_false_iff.mpr e2; subst e2; rw [if_neg Bool.false_ne_true] at H; by_cases e3 : c6 = true
 {
 subst e3; rw [if_pos rfl] at H; rcases q_ite H with ⟨c55b0, H⟩ | ⟨c55b0, H⟩
 {
 obtain rfl := Option.some.inj H; go_enter Tryd.func75, Tryd.ntmps75
 go_wp2_with (first | ((with_reducible refine gd_ 3 rfl ?_); (try (refine gate_guard (by rfl) ?_; dsimp only)); refine q_box 3 26 #[.string S, .slice V N.length X, .slice a0 O.length a1, .int .i64 T, .slice a2 R.length a3] ?_; intro b7 hg U5 p hb; have b := a_ (p); have b8 := a_ ((q_ge I.out hg)); have l := a_ ((q_ge I.out hg)); replace I := a_ (q_st I.out hb); clear hb p hg) | ((with_reducible refine gd_ 4 rfl ?_); (try (refine gate_guard (by rfl) ?_; dsimp only)); refine q_box 4 111 #[.bool a4, .bool a5, .bool a6, .bool true, .bool false, .bool a7, .int .i64 a8, .bool a9, .bool false, .bool false] ?_; intro b9 hg U6 p hb; have q := a_ (p); have c0 := a_ ((q_ge1 I.out hg l.out)); have y := a_ ((q_ge1 I.out hg l.out)); have z := a_ ((q_ne b.out hg)); have B := a_ ((q_en b.out hg)); replace b := a_ (q_bk b.out hb); replace I := a_ (q_st1 I.out hb l.out); clear hb p hg) | ((with_reducible refine gd_ 5 rfl ?_); (try (refine gate_guard (by rfl) ?_; dsimp only)); refine q_box 5 71 #[.int .i64 b0, .int .i64 b1, .int .i64 b2, .int .i64 b3, .int .i64 b4, .int .i32 J, .slice b5 U.length b6] ?_; intro c1 hg U7 p hb; have L := a_ (p); have c3 := a_ ((q_ge2 I.out hg l.out y.out)); have M := a_ ((q_ge2 I.out hg l.out y.out)); have F := a_ ((q_ne b.out hg)); have G := a_ ((q_en b.out hg)); have D := a_ ((q_ne q.out hg)); have E := a_ ((q_en q.out hg)); replace b := a_ (q_bk b.out hb); replace q := a_ (q_bk q.out hb); replace I := a_ (q_st2 I.out hb l.out y.out); clear hb p hg; have Q3 := B.out; have Q4 := z.out; have Q5 := D.out; have Q6 := E.out; obtain ⟨D0, D1, D2, D3, D4, D5, D6, D7, D8, D9, E0, E1, E2, E3, E4, E5, E6, E7, E8, E9⟩ := q_cf10 q.out; have Q7 := G.out; have Q8 := F.out; obtain ⟨F0, F1, F2, F3, F4, F5, F6, F7, F8, F9, G0, G1, G2, G3⟩ := q_cf7 L.out))
 go_ret
 exact ⟨q_e, q_w3 I.out l.out y.out M.out⟩}
 {
 obtain rfl := Option.some.inj H; go_enter Tryd.func75, Tryd.ntmps75
 go_wp2_with (first | ((with_reducible refine gd_ 3 rfl ?_); (try (refine gate_guard (by rfl) ?_; dsimp only)); refine q_box 3 26 #[.string S, .slice V N.length X, .slice a0 O.length a1, .int .i64 T, .slice a2 R.length a3] ?_; intro b7 hg U8 p hb; have b := a_ (p); have b8 := a_ ((q_ge I.out hg)); have l := a_ ((q_ge I.out hg)); replace I := a_ (q_st I.out hb); clear hb p hg) | ((with_reducible refine gd_ 4 rfl ?_); (try (refine gate_guard (by rfl) ?_; dsimp only)); refine q_box 4 111 #[.bool a4, .bool a5, .bool a6, .bool true, .bool false, .bool a7, .int .i64 a8, .bool a9, .bool false, .bool false] ?_; intro b9 hg U9 p hb; have q := a_ (p); have c0 := a_ ((q_ge1 I.out hg l.out)); have y := a_ ((q_ge1 I.out hg l.out)); have z := a_ ((q_ne b.out hg)); have B := a_ ((q_en b.out hg)); replace b := a_ (q_bk b.out hb); replace I := a_ (q_st1 I.out hb l.out); clear hb p hg) | ((with_reducible refine gd_ 5 rfl ?_); (try (refine gate_guard (by rfl) ?_; dsimp only)); refine q_box 5 71 #[.int .i64 b0, .int .i64 b1, .int .i64 b2, .int .i64 b3, .int .i64 b4, .int .i32 J, .slice b5 U.length b6] ?_; intro c1 hg V0 p hb; have L := a_ (p); have c3 := a_ ((q_ge2 I.out hg l.out y.out)); have M := a_ ((q_ge2 I.out hg l.out y.out)); have F := a_ ((q_ne b.out hg)); have G := a_ ((q_en b.out hg)); have D := a_ ((q_ne q.out hg)); have E := a_ ((q_en q.out hg)); replace b := a_ (q_bk b.out hb); replace q := a_ (q_bk q.out hb); replace I := a_ (q_st2 I.out hb l.out y.out); clear hb p hg; have Q9 := B.out; have R0 := z.out; have R1 := D.out; have R2 := E.out; obtain ⟨G4, G5, G6, G7, G8, G9, H0, H1, H2, H3, H4, H5, H6, H7, H8, H9, I0, I1, I2, I3⟩ := q_cf10 q.out; have R3 := G.out; have R4 := F.out; obtain ⟨I4, I5, I6, I7, I8, I9, J0, J1, J2, J3, J4, J5, J6, J7⟩ := q_cf7 L.out))
 go_ret
 exact ⟨q_e, q_w3 I.out l.out y.out M.out⟩}}
 {
 replace e3 := Bool.eq_false_iff.mpr e3; subst e3; rw [if_neg Bool.false_ne_true] at H; obtain rfl := Option.some.inj H; go_enter Tryd.func75, Tryd.ntmps75
 go_wp2_with (first | ((with_reducible refine gd_ 3 rfl ?_); (try (refine gate_guard (by rfl) ?_; dsimp only)); refine q_box 3 26 #[.string S, .slice V N.length X, .slice a0 O.length a1, .int .i64 T, .slice a2 R.length a3] ?_; intro b7 hg V1 p hb; have b := a_ (p); have b8 := a_ ((q_ge I.out hg)); have l := a_ ((q_ge I.out hg)); replace I := a_ (q_st I.out hb); clear hb p hg) | ((with_reducible refine gd_ 4 rfl ?_); (try (refine gate_guard (by rfl) ?_; dsimp only)); refine q_box 4 111 #[.bool a4, .bool a5, .bool a6, .bool false, .bool false, .bool a7, .int .i64 a8, .bool a9, .bool false, .bool false] ?_; intro b9 hg V2 p hb; have q := a_ (p); have c0 := a_ ((q_ge1 I.out hg l.out)); have y := a_ ((q_ge1 I.out hg l.out)); have z := a_ ((q_ne b.out hg)); have B := a_ ((q_en b.out hg)); replace b := a_ (q_bk b.out hb); replace I := a_ (q_st1 I.out hb l.out); clear hb p hg) | ((with_reducible refine gd_ 5 rfl ?_); (try (refine gate_guard (by rfl) ?_; dsimp only)); refine q_box 5 71 #[.int .i64 b0, .int .i64 b1, .int .i64 b2, .int .i64 b3, .int .i64 b4, .int .i32 J, .slice b5 U.length b6] ?_; intro c1 hg V3 p hb; have L := a_ (p); have c3 := a_ ((q_ge2 I.out hg l.out y.out)); have M := a_ ((q_ge2 I.out hg l.out y.out)); have F := a_ ((q_ne b.out hg)); have G := a_ ((q_en b.out hg)); have D := a_ ((q_ne q.out hg)); have E := a_ ((q_en q.out hg)); replace b := a_ (q_bk b.out hb); replace q := a_ (q_bk q.out hb); replace I := a_ (q_st2 I.out hb l.out y.out); clear hb p hg; have R5 := B.out; have R6 := z.out; have R7 := D.out; have R8 := E.out; obtain ⟨J8, J9, K0, K1, K2, K3, K4, K5, K6, K7, K8, K9, L0, L1, L2, L3, L4, L5, L6, L7⟩ := q_cf10 q.out; have R9 := G.out; have S0 := F.out; obtain ⟨L8, L9, M0, M1, M2, M3, M4, M5, M6, M7, M8, M9, N0, N1⟩ := q_cf7 L.out))
 go_ret
 exact ⟨q_e, q_w3 I.out l.out y.out M.out⟩}}}}
def num_Neutral.j0 : Nat → Int → Bool → Option (Int × Bool)
 | 0, _, _ => none
 | k + 1, b, l => if l = true then (some (0, true)) else (if b = 18 then (some (2147483647, true)) else (if b = 19 then (some ((-2147483648), true)) else (if b = 5 then (some ((-1), true)) else (some (0, false)))))
def num_Neutral.f (k : Nat) (b : Int) : Option (Int × Bool) := if b = 0 then (num_Neutral.j0 k b (b == 0)) else (if b = 6 then (num_Neutral.j0 k b (b == 6)) else (num_Neutral.j0 k b (b == 7)))
theorem num_Neutral.calls (k : Nat) (b : Int) (y : Int) (z : Bool) (w : World) (h : num_Neutral.f k b = some (y, z)) :
  Calls Tryd.prog 86 #[.int .i64 b] w fun e w' => e = .returned (.tuple #[.int .i32 y, .bool z]) ∧ Drawn0 w w' := by
 have H : (if b = 0 then (num_Neutral.j0 k b (b == 0)) else (if b = 6 then (num_Neutral.j0 k b (b == 6)) else (num_Neutral.j0 k b (b == 7)))) = some (y, z) := h
 clear h; have p := a_ H; clear H; go_enter Tryd.func86, Tryd.ntmps86
 go_upto_if 5 with (fail)
 go_cut [5] (fun B wc => ∃ (kq : Nat) (l : Bool), B = .bool l ∧ Aside0 (num_Neutral.j0 kq b l = some (y, z)) ∧ Aside0 (kq ≤ k) ∧ Drawn0 w wc)
 case first => (
 have H := p.out; clear p; replace H := q_iBN H; rcases H with ⟨-, c3b0, c3b1, H⟩ | ⟨F, c3b0, c3b1, H⟩
 {
 (first | rw [c3b0] | (simp only [i64_w, i32_w]; rw [c3b0]) | skip)
 have q := a_ H
 clear H; go_wp2
 go_meet
 case rel => exact ⟨_, ((b == 0)), q_r, q, ⟨by first | omega | exact Nat.le_refl _⟩, by repeat (first | exact Drawn0.refl _ | apply Drawn0.step)⟩}
 {
 (first | rw [c3b0] | (simp only [i64_w, i32_w]; rw [c3b0]) | skip)
 replace H := q_iBN H; rcases H with ⟨-, c4b0, c4b1, H⟩ | ⟨G, c4b0, c4b1, H⟩
 {
 have q := a_ H
 clear H; go_wp2
 go_meet
 case rel => exact ⟨_, ((b == 6)), q_r, q, ⟨by first | omega | exact Nat.le_refl _⟩, by repeat (first | exact Drawn0.refl _ | apply Drawn0.step)⟩}
 {
 have q := a_ H
 clear H; go_wp2
 go_meet
 case rel => exact ⟨_, ((b == 7)), q_r, q, ⟨by first | omega | exact Nat.le_refl _⟩, by repeat (first | exact Drawn0.refl _ | apply Drawn0.step)⟩}})
 case rest => (
 clear p; obtain ⟨kq, l, rfl, HA, C, ⟨D, rfl⟩⟩ := hcut; cases kq with
 | zero => exact absurd HA.out (by simp [num_Neutral.j0])
 | succ E => (
 have H := HA.out; clear HA; simp only [num_Neutral.j0] at H
 by_cases c5 : l = true
 {
 subst c5; rw [if_pos rfl] at H; simp only [Option.some.injEq, Prod.mk.injEq] at H
 obtain ⟨rfl, rfl⟩ := H; go_wp2
 go_ret2
 exact ⟨by first | rfl | (simp; done) | (simp [*]; done), by repeat (first | exact Drawn0.refl _ | apply Drawn0.step)⟩}
 {
 replace c5 := Bool.eq_false_iff.mpr c5; subst c5; rw [if_neg Bool.false_ne_true] at H; replace H := q_iBN H; rcases H with ⟨-, c6b0, c6b1, H⟩ | ⟨I, c6b0, c6b1, H⟩
 {
 simp only [Option.some.injEq, Prod.mk.injEq] at H
 obtain ⟨rfl, rfl⟩ := H; go_wp2
 go_ret2
 exact ⟨by first | rfl | (simp; done) | (simp [*]; done), by repeat (first | exact Drawn0.refl _ | apply Drawn0.step)⟩}
 {
 replace H := q_iBN H; rcases H with ⟨-, c7b0, c7b1, H⟩ | ⟨c7, c7b0, c7b1, H⟩
 {
 simp only [Option.some.injEq, Prod.mk.injEq] at H
 obtain ⟨rfl, rfl⟩ := H; go_wp2
 go_ret2
 exact ⟨by first | rfl | (simp; done) | (simp [*]; done), by repeat (first | exact Drawn0.refl _ | apply Drawn0.step)⟩}
 {
 replace H := q_iBN H; rcases H with ⟨-, c8b0, c8b1, H⟩ | ⟨J, c8b0, c8b1, H⟩
 {
 simp only [Option.some.injEq, Prod.mk.injEq] at H
 obtain ⟨rfl, rfl⟩ := H; go_wp2
 go_ret2
 exact ⟨by first | rfl | (simp; done) | (simp [*]; done), by repeat (first | exact Drawn0.refl _ | apply Drawn0.step)⟩}
 {
 simp only [Option.some.injEq, Prod.mk.injEq] at H
 obtain ⟨rfl, rfl⟩ := H; go_wp2
 go_ret2
 exact ⟨by first | rfl | (simp; done) | (simp [*]; done), by repeat (first | exact Drawn0.refl _ | apply Drawn0.step)⟩}}}}))
def num_Folds.f (k : Nat) (l : Int) : Option (Bool) := (num_Neutral.f k l).bind fun b => (some b.2)
theorem num_Folds.calls (k : Nat) (p : Int) (r : Bool) (w : World) (h : num_Folds.f k p = some r) :
  Calls Tryd.prog 76 #[.int .i64 p] w fun e w' => e = .returned (.bool r) ∧ Drawn0 w w' := by
 have H : ((num_Neutral.f k p).bind fun l => (some l.2)) = some r := h
 clear h; replace H := Option.bind_eq_some_iff.mp H; obtain ⟨⟨q, b⟩, y, H⟩ := H; replace H : (some b) = some r := H; have z := a_ y; clear y; obtain rfl := Option.some.inj H; go_enter Tryd.func76, Tryd.ntmps76
 go_wp2_with (first | ((with_reducible refine gc_ 86 rfl ?_); refine q_gl 7 #[.int .i64 p] Tryd.func86 rfl ?_; (with_reducible refine (num_Neutral.calls k p q b _ z.out).mono ?_); rintro e w' ⟨rfl, ⟨B, rfl⟩⟩; refine ⟨_, rfl, ?_⟩))
 go_ret
 exact ⟨by first | rfl | (simp; done) | (simp [*]; done), by repeat (first | exact Drawn0.refl _ | apply Drawn0.step)⟩
mutual
def flow_instr.j0 : Nat → Int → Bool → ByteArray → List (S83) → List (S85) → Int → List (S69) → Int → Int → Int → Int → Int → Int → List Int → Bool → Bool → Bool → Bool → Bool → Bool → Int → Bool → Bool → Bool → Option (Bool)
 | 0, _, _, _, _, _, _, _, _, _, _, _, _, _, _, _, _, _, _, _, _, _, _, _, _ => none
 | k + 1, X, a5, p, q, y, z, B, C, b, D, E, F, G, l, M, N, O, R, S, J, I, L, T, U => if a5 = true then (some false) else (if L = true then ((num_Folds.f k b).bind fun a2 => (flow_instr.j1 k X a2 p q y z B C b D E F G l M N O R S J I L T U)) else (if I > 0 then (if b ≥ 0 then (flow_instr.j1 k X (decide (b < I)) p q y z B C b D E F G l M N O R S J I L T U) else (flow_instr.j1 k X false p q y z B C b D E F G l M N O R S J I L T U)) else (flow_instr.j1 k X (b == 0) p q y z B C b D E F G l M N O R S J I L T U)))
def flow_instr.j1 : Nat → Int → Bool → ByteArray → List (S83) → List (S85) → Int → List (S69) → Int → Int → Int → Int → Int → Int → List Int → Bool → Bool → Bool → Bool → Bool → Bool → Int → Bool → Bool → Bool → Option (Bool)
 | 0, _, _, _, _, _, _, _, _, _, _, _, _, _, _, _, _, _, _, _, _, _, _, _, _ => none
 | k + 1, X, x8, p, q, y, z, B, C, b, D, E, F, G, l, M, N, O, R, S, J, I, L, T, U => if J = true then (flow_instr.l0 k X x8 l (l.length : Int) 0 p q y z B C b D E F G l) else (if x8 = true then (some ((l.length : Int) == 0)) else (some false))
def flow_instr.l0 : Nat → Int → Bool → List Int → Int → Int → ByteArray → List (S83) → List (S85) → Int → List (S69) → Int → Int → Int → Int → Int → Int → List Int → Option (Bool)
 | 0, _, _, _, _, _, _, _, _, _, _, _, _, _, _, _, _, _ => none
 | k + 1, X, x8, a0, a1, V, p, q, y, z, B, C, b, D, E, F, G, l => if V < a1 then (if 0 ≤ V then (if V < (a0.length : Int) then (if x8 = true then ((flow_register.f p q y z B true (rd a0 V)).bind fun a4 => (flow_instr.l0 k X a4 a0 a1 (wrap64 (V + 1)) p q y z B C b D E F G l)) else (flow_instr.l0 k X false a0 a1 (wrap64 (V + 1)) p q y z B C b D E F G l)) else (none)) else (none)) else (if x8 = true then (some ((l.length : Int) == X)) else (some false))
end
def flow_instr.f (k : Nat) (l : ByteArray) (p : List (S83)) (q : List (S85)) (y : Int) (z : List (S69)) (B : Int) (F : Int) (C : Int) (D : Int) (E : Int) (G : Int) (I : List Int) (J : Int) : Option (Bool) := (flow_fields.f B).bind fun b => (if b.2.2.2.2.2.2.2.2.2.2 = true then ((flow_register.f l p q y z b.1 C).bind fun L => (if L = true then ((flow_register.f l p q y z b.2.1 D).bind fun M => (if M = true then ((flow_register.f l p q y z b.2.2.1 E).bind fun N => (if N = true then ((flow_imm.f l p q y z b.1 b.2.1 b.2.2.1 b.2.2.2.1 b.2.2.2.2.1 b.2.2.2.2.2.1 b.2.2.2.2.2.2.1 b.2.2.2.2.2.2.2.1 b.2.2.2.2.2.2.2.2.1 b.2.2.2.2.2.2.2.2.2.1 B F C D E G I).bind fun O => (flow_instr.j0 k J (!O) l p q y z B F C D E G I b.1 b.2.1 b.2.2.1 b.2.2.2.1 b.2.2.2.2.1 b.2.2.2.2.2.1 b.2.2.2.2.2.2.1 b.2.2.2.2.2.2.2.1 b.2.2.2.2.2.2.2.2.1 b.2.2.2.2.2.2.2.2.2.1)) else (flow_instr.j0 k J true l p q y z B F C D E G I b.1 b.2.1 b.2.2.1 b.2.2.2.1 b.2.2.2.2.1 b.2.2.2.2.2.1 b.2.2.2.2.2.2.1 b.2.2.2.2.2.2.2.1 b.2.2.2.2.2.2.2.2.1 b.2.2.2.2.2.2.2.2.2.1))) else (flow_instr.j0 k J true l p q y z B F C D E G I b.1 b.2.1 b.2.2.1 b.2.2.2.1 b.2.2.2.2.1 b.2.2.2.2.2.1 b.2.2.2.2.2.2.1 b.2.2.2.2.2.2.2.1 b.2.2.2.2.2.2.2.2.1 b.2.2.2.2.2.2.2.2.2.1))) else (flow_instr.j0 k J true l p q y z B F C D E G I b.1 b.2.1 b.2.2.1 b.2.2.2.1 b.2.2.2.2.1 b.2.2.2.2.2.1 b.2.2.2.2.2.2.1 b.2.2.2.2.2.2.2.1 b.2.2.2.2.2.2.2.2.1 b.2.2.2.2.2.2.2.2.2.1))) else (flow_instr.j0 k J true l p q y z B F C D E G I b.1 b.2.1 b.2.2.1 b.2.2.2.1 b.2.2.2.2.1 b.2.2.2.2.2.1 b.2.2.2.2.2.2.1 b.2.2.2.2.2.2.2.1 b.2.2.2.2.2.2.2.2.1 b.2.2.2.2.2.2.2.2.2.1))
theorem flow_instr.calls (k : Nat) (O : ByteArray) (c3 : Option Addr) (c4 : Nat) (L : List (S83)) (c6 : Option Addr) (c8 : Nat) (M : List (S85)) (R : Int) (c9 : Option Addr) (d0 : Nat) (N : List (S69)) (a9 : Int) (a6 : Int) (a4 : Int) (a5 : Int) (a7 : Int) (b1 : Int) (d1 : Option Addr) (d2 : Nat) (a1 : List Int) (a2 : Int) (r : Bool) (w : World) (k4 : Kd.C k83 w c3 L.length L) (k5 : L.length ≤ c4) (k6 : Kd.C k85 w c6 M.length M) (k7 : M.length ≤ c8) (k8 : Kd.C k69 w c9 N.length N) (k9 : N.length ≤ d0) (l4 : Kd.C (Kd.int .i64) w d1 a1.length a1) (l5 : a1.length ≤ d2) (h : flow_instr.f k O L M R N a9 a6 a4 a5 a7 b1 a1 a2 = some r) :
  Calls Tryd.prog 62 #[.agg #[.string O, .slice c3 L.length c4, .slice c6 M.length c8, .int .i64 R, .slice c9 N.length d0], .agg #[.int .i64 a9, .int .i64 a6, .int .i64 a4, .int .i64 a5, .int .i64 a7, .int .i32 b1, .slice d1 a1.length d2], .int .i64 a2] w fun e w' => e = .returned (.bool r) ∧ Below w.heap.size w w' := by
 have ja := Tryd.underlying26; have jb := Tryd.underlying71; have hO := Tryd.underlying111; have b5 := a_ k4; have b6 := a_ k5; clear k4 k5; have b7 := a_ k6; have b8 := a_ k7; clear k6 k7; have b9 := a_ k8; have c0 := a_ k9; clear k8 k9; have e9 := a_ l4; have s0 := a_ l5; clear l4 l5; have HB := a_ (Below.refl w.heap.size w); have H : ((flow_fields.f a9).bind fun p => (if p.2.2.2.2.2.2.2.2.2.2 = true then ((flow_register.f O L M R N p.1 a4).bind fun e3 => (if e3 = true then ((flow_register.f O L M R N p.2.1 a5).bind fun e4 => (if e4 = true then ((flow_register.f O L M R N p.2.2.1 a7).bind fun e5 => (if e5 = true then ((flow_imm.f O L M R N p.1 p.2.1 p.2.2.1 p.2.2.2.1 p.2.2.2.2.1 p.2.2.2.2.2.1 p.2.2.2.2.2.2.1 p.2.2.2.2.2.2.2.1 p.2.2.2.2.2.2.2.2.1 p.2.2.2.2.2.2.2.2.2.1 a9 a6 a4 a5 a7 b1 a1).bind fun e1 => (flow_instr.j0 k a2 (!e1) O L M R N a9 a6 a4 a5 a7 b1 a1 p.1 p.2.1 p.2.2.1 p.2.2.2.1 p.2.2.2.2.1 p.2.2.2.2.2.1 p.2.2.2.2.2.2.1 p.2.2.2.2.2.2.2.1 p.2.2.2.2.2.2.2.2.1 p.2.2.2.2.2.2.2.2.2.1)) else (flow_instr.j0 k a2 true O L M R N a9 a6 a4 a5 a7 b1 a1 p.1 p.2.1 p.2.2.1 p.2.2.2.1 p.2.2.2.2.1 p.2.2.2.2.2.1 p.2.2.2.2.2.2.1 p.2.2.2.2.2.2.2.1 p.2.2.2.2.2.2.2.2.1 p.2.2.2.2.2.2.2.2.2.1))) else (flow_instr.j0 k a2 true O L M R N a9 a6 a4 a5 a7 b1 a1 p.1 p.2.1 p.2.2.1 p.2.2.2.1 p.2.2.2.2.1 p.2.2.2.2.2.1 p.2.2.2.2.2.2.1 p.2.2.2.2.2.2.2.1 p.2.2.2.2.2.2.2.2.1 p.2.2.2.2.2.2.2.2.2.1))) else (flow_instr.j0 k a2 true O L M R N a9 a6 a4 a5 a7 b1 a1 p.1 p.2.1 p.2.2.1 p.2.2.2.1 p.2.2.2.2.1 p.2.2.2.2.2.1 p.2.2.2.2.2.2.1 p.2.2.2.2.2.2.2.1 p.2.2.2.2.2.2.2.2.1 p.2.2.2.2.2.2.2.2.2.1))) else (flow_instr.j0 k a2 true O L M R N a9 a6 a4 a5 a7 b1 a1 p.1 p.2.1 p.2.2.1 p.2.2.2.1 p.2.2.2.2.1 p.2.2.2.2.2.1 p.2.2.2.2.2.2.1 p.2.2.2.2.2.2.2.1 p.2.2.2.2.2.2.2.2.1 p.2.2.2.2.2.2.2.2.2.1))) = some r := h
 clear h; replace H := Option.bind_eq_some_iff.mp H; obtain ⟨⟨B, E, G, J, S, T, a3, b0, b2, b3, l6⟩, D7, H⟩ := H; replace H : (if l6 = true then ((flow_register.f O L M R N B a4).bind fun e3 => (if e3 = true then ((flow_register.f O L M R N E a5).bind fun e4 => (if e4 = true then ((flow_register.f O L M R N G a7).bind fun e5 => (if e5 = true then ((flow_imm.f O L M R N B E G J S T a3 b0 b2 b3 a9 a6 a4 a5 a7 b1 a1).bind fun e1 => (flow_instr.j0 k a2 (!e1) O L M R N a9 a6 a4 a5 a7 b1 a1 B E G J S T a3 b0 b2 b3)) else (flow_instr.j0 k a2 true O L M R N a9 a6 a4 a5 a7 b1 a1 B E G J S T a3 b0 b2 b3))) else (flow_instr.j0 k a2 true O L M R N a9 a6 a4 a5 a7 b1 a1 B E G J S T a3 b0 b2 b3))) else (flow_instr.j0 k a2 true O L M R N a9 a6 a4 a5 a7 b1 a1 B E G J S T a3 b0 b2 b3))) else (flow_instr.j0 k a2 true O L M R N a9 a6 a4 a5 a7 b1 a1 B E G J S T a3 b0 b2 b3)) = some r := H
 have A4 := a_ D7; clear D7; have s1 := a_ H; clear H; go_enter Tryd.func62, Tryd.ntmps62
 go_upto_region 2 with (first | ((with_reducible refine gd_ 3 rfl ?_); (try (refine gate_guard (by rfl) ?_; dsimp only)); refine q_box 3 26 #[.string O, .slice c3 L.length c4, .slice c6 M.length c8, .int .i64 R, .slice c9 N.length d0] ?_; intro d3 hg w6 d6 hb; have y := a_ (d6); have hP := a_ ((q_ge HB.out hg)); have D := a_ ((q_ge HB.out hg)); replace HB := a_ (q_st HB.out hb); clear hb d6 hg) | ((with_reducible refine gd_ 4 rfl ?_); (try (refine gate_guard (by rfl) ?_; dsimp only)); refine q_box 4 71 #[.int .i64 a9, .int .i64 a6, .int .i64 a4, .int .i64 a5, .int .i64 a7, .int .i32 b1, .slice d1 a1.length d2] ?_; intro d4 hg w7 d6 hb; have q := a_ (d6); have hQ := a_ ((q_ge1 HB.out hg D.out)); have F := a_ ((q_ge1 HB.out hg D.out)); have U := a_ ((q_ne y.out hg)); have V := a_ ((q_en y.out hg)); replace y := a_ (q_bk y.out hb); replace HB := a_ (q_st1 HB.out hb D.out); clear hb d6 hg; have jc := V.out; have jd := U.out; obtain ⟨p0, p1, p2, p3, p4, p5, p6, p7, p8, p9, q0, q1, q2, q3⟩ := q_cf7 q.out) | ((with_reducible refine gc_ 74 rfl ?_); refine q_gl 14 #[.int .i64 a9] Tryd.func74 rfl ?_; (with_reducible refine (flow_fields.calls a9 B E G J S T a3 b0 b2 b3 l6 _ A4.out).mono ?_); rintro e jh ⟨rfl, hb⟩; refine ⟨_, rfl, ?_⟩; replace y := a_ (q_bk y.out hb); replace q := a_ (q_bk q.out hb); replace HB := a_ (q_st2 HB.out hb D.out F.out); (clear hb)) | ((with_reducible refine gd_ 7 rfl ?_); (try (refine gate_guard (by rfl) ?_; dsimp only)); refine q_box 7 111 #[.bool false, .bool false, .bool false, .bool false, .bool false, .bool false, .int .i64 0, .bool false, .bool false, .bool false] ?_; intro d5 hg ji d6 hb; have z := a_ (d6); have hR := a_ ((q_ge2 HB.out hg D.out F.out)); have I := a_ ((q_ge2 HB.out hg D.out F.out)); have b := a_ ((q_ne y.out hg)); have X := a_ ((q_en y.out hg)); have l := a_ ((q_ne q.out hg)); have a0 := a_ ((q_en q.out hg)); replace y := a_ (q_bk y.out hb); replace q := a_ (q_bk q.out hb); replace HB := a_ (q_st2 HB.out hb D.out F.out); clear hb d6 hg; have hS := X.out; have hT := b.out; have hU := a0.out; have hV := l.out; obtain ⟨l7, l8, l9, n0, n1, n2, n3, n4, n5, n6, n7, n8, n9, o0, o1, o2, o3, o4, o5, o6⟩ := q_cf10 z.out))
 (try simp only [Act.put, List.setIfInBounds_toArray, List.set_cons_zero, List.set_cons_succ])
 go_cut [52] (fun hW wc => ∃ (kq : Nat) (e2 : Bool), hW = .bool e2 ∧ Aside0 (flow_instr.j0 kq a2 e2 O L M R N a9 a6 a4 a5 a7 b1 a1 B E G J S T a3 b0 b2 b3 = some r) ∧ Aside0 (kq ≤ k) ∧ Aside0 (wc.heap[d3]? = some (.cells #[.string O, (.slice c3 L.length c4), (.slice c6 M.length c8), .int .i64 R, (.slice c9 N.length d0)] 26 (0, 0))) ∧ Aside0 (wc.heap[d4]? = some (.cells #[.int .i64 a9, .int .i64 a6, .int .i64 a4, .int .i64 a5, .int .i64 a7, .int .i32 b1, (.slice d1 a1.length d2)] 71 (0, 0))) ∧ Aside0 (wc.heap[d5]? = some (.cells #[.bool B, .bool E, .bool G, .bool J, .bool S, .bool T, .int .i64 a3, .bool b0, .bool b2, .bool b3] 111 (0, 0))) ∧ Aside0 (Below w.heap.size w wc))
 case first => (
 have H := s1.out; clear s1; by_cases q4 : l6 = true
 {
 subst q4; rw [if_pos rfl] at H; replace H := Option.bind_eq_some_iff.mp H; obtain ⟨e3, r2, H⟩ := H; have q5 := a_ r2; clear r2; by_cases q6 : e3 = true
 {
 subst q6; rw [if_pos rfl] at H; replace H := Option.bind_eq_some_iff.mp H; obtain ⟨e4, r3, H⟩ := H; have s2 := a_ r3; clear r3; by_cases q7 : e4 = true
 {
 subst q7; rw [if_pos rfl] at H; replace H := Option.bind_eq_some_iff.mp H; obtain ⟨e5, r4, H⟩ := H; have D8 := a_ r4; clear r4; by_cases q8 : e5 = true
 {
 subst q8; rw [if_pos rfl] at H; replace H := Option.bind_eq_some_iff.mp H; obtain ⟨e1, r5, H⟩ := H; have hX := a_ r5; clear r5; have H' := a_ H
 clear H; have hY := U.out; have hZ := V.out; have ia := b.out; have ib := X.out; obtain ⟨D9, E0, E1, E2, E3, E4, E5, E6, E7, E8⟩ := q_cf5 y.out; have ic := a0.out; have id := l.out; obtain ⟨E9, F0, F1, F2, F3, F4, F5, F6, F7, F8, F9, G0, G1, G2, G3, G4, G5, G6, G7, G8⟩ := q_cf10 z.out; obtain ⟨G9, H0, H1, H2, H3, H4, H5, H6, H7, H8, H9, I0, I1, I2⟩ := q_cf7 q.out; go_wp2_with (first | (go_at_call 73; (with_reducible refine (flow_register.calls O _ _ L _ _ M R _ _ N B a4 true _ (Kd.C_below b5.out (q_w3 HB.out D.out F.out I.out)) b6.out (Kd.C_below b7.out (q_w3 HB.out D.out F.out I.out)) b8.out (Kd.C_below b9.out (q_w3 HB.out D.out F.out I.out)) c0.out q5.out).mono ?_); rintro e jj ⟨rfl, hb⟩; replace y := a_ (blk_below (g := d3) (o := .cells #[.string O, .slice c3 L.length c4, .slice c6 M.length c8, .int .i64 R, .slice c9 N.length d0] 26 (0, 0)) (by (with_reducible repeat (first | refine blk_drewN ?_ _ | refine blk_drew ?_ | refine blk_alloc ?_ _)); refine blk_far ?_ b.out _; (with_reducible repeat (first | refine blk_drewN ?_ _ | refine blk_drew ?_ | refine blk_alloc ?_ _)); refine blk_far ?_ b.out _; (with_reducible repeat (first | refine blk_drewN ?_ _ | refine blk_drew ?_ | refine blk_alloc ?_ _)); refine blk_far ?_ b.out _; (with_reducible repeat (first | refine blk_drewN ?_ _ | refine blk_drew ?_ | refine blk_alloc ?_ _)); refine blk_far ?_ b.out _; (with_reducible repeat (first | refine blk_drewN ?_ _ | refine blk_drew ?_ | refine blk_alloc ?_ _)); refine blk_far ?_ b.out _; (with_reducible repeat (first | refine blk_drewN ?_ _ | refine blk_drew ?_ | refine blk_alloc ?_ _)); refine blk_far ?_ b.out _; (with_reducible repeat (first | refine blk_drewN ?_ _ | refine blk_drew ?_ | refine blk_alloc ?_ _)); refine blk_far ?_ b.out _; (with_reducible repeat (first | refine blk_drewN ?_ _ | refine blk_drew ?_ | refine blk_alloc ?_ _)); refine blk_far ?_ b.out _; (with_reducible repeat (first | refine blk_drewN ?_ _ | refine blk_drew ?_ | refine blk_alloc ?_ _)); refine blk_far ?_ b.out _; (with_reducible repeat (first | refine blk_drewN ?_ _ | refine blk_drew ?_ | refine blk_alloc ?_ _)); refine blk_far ?_ b.out _; (with_reducible repeat (first | refine blk_drewN ?_ _ | refine blk_drew ?_ | refine blk_alloc ?_ _)); exact y.out) hb); replace q := a_ (blk_below (g := d4) (o := .cells #[.int .i64 a9, .int .i64 a6, .int .i64 a4, .int .i64 a5, .int .i64 a7, .int .i32 b1, .slice d1 a1.length d2] 71 (0, 0)) (by (with_reducible repeat (first | refine blk_drewN ?_ _ | refine blk_drew ?_ | refine blk_alloc ?_ _)); refine blk_far ?_ l.out _; (with_reducible repeat (first | refine blk_drewN ?_ _ | refine blk_drew ?_ | refine blk_alloc ?_ _)); refine blk_far ?_ l.out _; (with_reducible repeat (first | refine blk_drewN ?_ _ | refine blk_drew ?_ | refine blk_alloc ?_ _)); refine blk_far ?_ l.out _; (with_reducible repeat (first | refine blk_drewN ?_ _ | refine blk_drew ?_ | refine blk_alloc ?_ _)); refine blk_far ?_ l.out _; (with_reducible repeat (first | refine blk_drewN ?_ _ | refine blk_drew ?_ | refine blk_alloc ?_ _)); refine blk_far ?_ l.out _; (with_reducible repeat (first | refine blk_drewN ?_ _ | refine blk_drew ?_ | refine blk_alloc ?_ _)); refine blk_far ?_ l.out _; (with_reducible repeat (first | refine blk_drewN ?_ _ | refine blk_drew ?_ | refine blk_alloc ?_ _)); refine blk_far ?_ l.out _; (with_reducible repeat (first | refine blk_drewN ?_ _ | refine blk_drew ?_ | refine blk_alloc ?_ _)); refine blk_far ?_ l.out _; (with_reducible repeat (first | refine blk_drewN ?_ _ | refine blk_drew ?_ | refine blk_alloc ?_ _)); refine blk_far ?_ l.out _; (with_reducible repeat (first | refine blk_drewN ?_ _ | refine blk_drew ?_ | refine blk_alloc ?_ _)); refine blk_far ?_ l.out _; (with_reducible repeat (first | refine blk_drewN ?_ _ | refine blk_drew ?_ | refine blk_alloc ?_ _)); exact q.out) hb); replace z := a_ (blk_below (g := d5) (o := .cells #[.bool B, .bool E, .bool G, .bool J, .bool S, .bool T, .int .i64 a3, .bool b0, .bool b2, .bool b3] 111 (0, 0)) (by (with_reducible repeat (first | refine blk_drewN ?_ _ | refine blk_drew ?_ | refine blk_alloc ?_ _)); refine blk_put (cs := #[.bool B, .bool E, .bool G, .bool J, .bool S, .bool T, .int .i64 a3, .bool b0, .bool b2, .bool false]) ?_ 9 _ rfl; (with_reducible repeat (first | refine blk_drewN ?_ _ | refine blk_drew ?_ | refine blk_alloc ?_ _)); refine blk_put (cs := #[.bool B, .bool E, .bool G, .bool J, .bool S, .bool T, .int .i64 a3, .bool b0, .bool false, .bool false]) ?_ 8 _ rfl; (with_reducible repeat (first | refine blk_drewN ?_ _ | refine blk_drew ?_ | refine blk_alloc ?_ _)); refine blk_put (cs := #[.bool B, .bool E, .bool G, .bool J, .bool S, .bool T, .int .i64 a3, .bool false, .bool false, .bool false]) ?_ 7 _ rfl; (with_reducible repeat (first | refine blk_drewN ?_ _ | refine blk_drew ?_ | refine blk_alloc ?_ _)); refine blk_put (cs := #[.bool B, .bool E, .bool G, .bool J, .bool S, .bool T, .int .i64 0, .bool false, .bool false, .bool false]) ?_ 6 _ rfl; (with_reducible repeat (first | refine blk_drewN ?_ _ | refine blk_drew ?_ | refine blk_alloc ?_ _)); refine blk_put (cs := #[.bool B, .bool E, .bool G, .bool J, .bool S, .bool false, .int .i64 0, .bool false, .bool false, .bool false]) ?_ 5 _ rfl; (with_reducible repeat (first | refine blk_drewN ?_ _ | refine blk_drew ?_ | refine blk_alloc ?_ _)); refine blk_put (cs := #[.bool B, .bool E, .bool G, .bool J, .bool false, .bool false, .int .i64 0, .bool false, .bool false, .bool false]) ?_ 4 _ rfl; (with_reducible repeat (first | refine blk_drewN ?_ _ | refine blk_drew ?_ | refine blk_alloc ?_ _)); refine blk_put (cs := #[.bool B, .bool E, .bool G, .bool false, .bool false, .bool false, .int .i64 0, .bool false, .bool false, .bool false]) ?_ 3 _ rfl; (with_reducible repeat (first | refine blk_drewN ?_ _ | refine blk_drew ?_ | refine blk_alloc ?_ _)); refine blk_put (cs := #[.bool B, .bool E, .bool false, .bool false, .bool false, .bool false, .int .i64 0, .bool false, .bool false, .bool false]) ?_ 2 _ rfl; (with_reducible repeat (first | refine blk_drewN ?_ _ | refine blk_drew ?_ | refine blk_alloc ?_ _)); refine blk_put (cs := #[.bool B, .bool false, .bool false, .bool false, .bool false, .bool false, .int .i64 0, .bool false, .bool false, .bool false]) ?_ 1 _ rfl; (with_reducible repeat (first | refine blk_drewN ?_ _ | refine blk_drew ?_ | refine blk_alloc ?_ _)); refine blk_put (cs := #[.bool false, .bool false, .bool false, .bool false, .bool false, .bool false, .int .i64 0, .bool false, .bool false, .bool false]) ?_ 0 _ rfl; (with_reducible repeat (first | refine blk_drewN ?_ _ | refine blk_drew ?_ | refine blk_alloc ?_ _)); exact z.out) hb); replace HB := a_ (q_st3 HB.out hb D.out F.out I.out); (clear hb); obtain ⟨I3, I4, I5, I6, I7, I8, I9, J0, J1, J2⟩ := q_cf5 y.out; obtain ⟨J3, J4, J5, J6, J7, J8, J9, K0, K1, K2, K3, K4, K5, K6, K7, K8, K9, L0, L1, L2⟩ := q_cf10 z.out; obtain ⟨L3, L4, L5, L6, L7, L8, L9, M0, M1, M2, M3, M4, M5, M6⟩ := q_cf7 q.out) | (go_at_call 73; (with_reducible refine (flow_register.calls O _ _ L _ _ M R _ _ N E a5 true _ (q_C (Kd.C_below b5.out HB.out)) b6.out (q_C (Kd.C_below b7.out HB.out)) b8.out (q_C (Kd.C_below b9.out HB.out)) c0.out s2.out).mono ?_); rintro e jk ⟨rfl, hb⟩; replace y := a_ (q_bk y.out hb); replace q := a_ (q_bk q.out hb); replace z := a_ (q_bk z.out hb); replace HB := a_ (q_st3 HB.out hb D.out F.out I.out); (clear hb); obtain ⟨M7, M8, M9, N0, N1, N3, N4, N5, N6, N7⟩ := q_cf5 y.out; obtain ⟨N8, N9, O0, O1, O2, O3, O4, O5, O6, O7, O8, O9, P0, P1, P2, P3, P4, P5, P6, P7⟩ := q_cf10 z.out; obtain ⟨P8, P9, Q0, Q1, Q2, Q3, Q4, Q5, Q6, Q7, Q8, Q9, R0, R1⟩ := q_cf7 q.out) | (go_at_call 73; (with_reducible refine (flow_register.calls O _ _ L _ _ M R _ _ N G a7 true _ (q_C (Kd.C_below b5.out HB.out)) b6.out (q_C (Kd.C_below b7.out HB.out)) b8.out (q_C (Kd.C_below b9.out HB.out)) c0.out D8.out).mono ?_); rintro e jl ⟨rfl, hb⟩; replace y := a_ (q_bk y.out hb); replace q := a_ (q_bk q.out hb); replace z := a_ (q_bk z.out hb); replace HB := a_ (q_st3 HB.out hb D.out F.out I.out); (clear hb); obtain ⟨R2, R3, R4, R5, R6, R7, R8, R9, S0, S1⟩ := q_cf5 y.out; obtain ⟨S2, S3, S4, S5, S6, S7, S8, S9, T1, T2, T3, T6, T7, U0, U1, U2, U3, U4, U5, U6⟩ := q_cf10 z.out; obtain ⟨U7, U8, U9, V0, V1, V2, V3, V4, V5, V6, V7, V8, V9, W0⟩ := q_cf7 q.out) | (go_at_call 75; (with_reducible refine (flow_imm.calls O _ _ L _ _ M R _ _ N B E G J S T a3 b0 b2 b3 a9 a6 a4 a5 a7 b1 _ _ a1 e1 _ (q_C (Kd.C_below b5.out HB.out)) b6.out (q_C (Kd.C_below b7.out HB.out)) b8.out (q_C (Kd.C_below b9.out HB.out)) c0.out (q_C (Kd.C_below e9.out HB.out)) s0.out hX.out).mono ?_); rintro e jm ⟨rfl, hb⟩; replace y := a_ (q_bk y.out hb); replace q := a_ (q_bk q.out hb); replace z := a_ (q_bk z.out hb); replace HB := a_ (q_st3 HB.out hb D.out F.out I.out); (clear hb)))
 go_meet
 case rel => exact ⟨_, (!e1), q_r, H', ⟨by first | omega | exact Nat.le_refl _⟩, ⟨q_k y.out⟩, ⟨q_k q.out⟩, ⟨q_k z.out⟩, ⟨q_w3 HB.out D.out F.out I.out⟩⟩}
 {
 replace q8 := Bool.eq_false_iff.mpr q8; subst q8; rw [if_neg Bool.false_ne_true] at H; have H' := a_ H
 clear H; have ie := U.out; have ig := V.out; have ih := b.out; have ii := X.out; obtain ⟨W1, W2, W3, W4, W5, W6, W7, W8, W9, X0⟩ := q_cf5 y.out; have ij := a0.out; have ik := l.out; obtain ⟨X1, X2, X3, X4, X5, X6, X7, X8, X9, Y0, Y1, Y2, Y3, Y4, Y5, Y6, Y7, Y8, Y9, Z0⟩ := q_cf10 z.out; obtain ⟨Z1, Z2, Z3, Z4, Z5, Z6, Z7, Z8, Z9, aa, ab, ac, ad, ae⟩ := q_cf7 q.out; go_wp2_with (first | (go_at_call 73; (with_reducible refine (flow_register.calls O _ _ L _ _ M R _ _ N B a4 true _ (Kd.C_below b5.out (q_w3 HB.out D.out F.out I.out)) b6.out (Kd.C_below b7.out (q_w3 HB.out D.out F.out I.out)) b8.out (Kd.C_below b9.out (q_w3 HB.out D.out F.out I.out)) c0.out q5.out).mono ?_); rintro e jn ⟨rfl, hb⟩; replace y := a_ (blk_below (g := d3) (o := .cells #[.string O, .slice c3 L.length c4, .slice c6 M.length c8, .int .i64 R, .slice c9 N.length d0] 26 (0, 0)) (by (with_reducible repeat (first | refine blk_drewN ?_ _ | refine blk_drew ?_ | refine blk_alloc ?_ _)); refine blk_far ?_ b.out _; (with_reducible repeat (first | refine blk_drewN ?_ _ | refine blk_drew ?_ | refine blk_alloc ?_ _)); refine blk_far ?_ b.out _; (with_reducible repeat (first | refine blk_drewN ?_ _ | refine blk_drew ?_ | refine blk_alloc ?_ _)); refine blk_far ?_ b.out _; (with_reducible repeat (first | refine blk_drewN ?_ _ | refine blk_drew ?_ | refine blk_alloc ?_ _)); refine blk_far ?_ b.out _; (with_reducible repeat (first | refine blk_drewN ?_ _ | refine blk_drew ?_ | refine blk_alloc ?_ _)); refine blk_far ?_ b.out _; (with_reducible repeat (first | refine blk_drewN ?_ _ | refine blk_drew ?_ | refine blk_alloc ?_ _)); refine blk_far ?_ b.out _; (with_reducible repeat (first | refine blk_drewN ?_ _ | refine blk_drew ?_ | refine blk_alloc ?_ _)); refine blk_far ?_ b.out _; (with_reducible repeat (first | refine blk_drewN ?_ _ | refine blk_drew ?_ | refine blk_alloc ?_ _)); refine blk_far ?_ b.out _; (with_reducible repeat (first | refine blk_drewN ?_ _ | refine blk_drew ?_ | refine blk_alloc ?_ _)); refine blk_far ?_ b.out _; (with_reducible repeat (first | refine blk_drewN ?_ _ | refine blk_drew ?_ | refine blk_alloc ?_ _)); refine blk_far ?_ b.out _; (with_reducible repeat (first | refine blk_drewN ?_ _ | refine blk_drew ?_ | refine blk_alloc ?_ _)); exact y.out) hb); replace q := a_ (blk_below (g := d4) (o := .cells #[.int .i64 a9, .int .i64 a6, .int .i64 a4, .int .i64 a5, .int .i64 a7, .int .i32 b1, .slice d1 a1.length d2] 71 (0, 0)) (by (with_reducible repeat (first | refine blk_drewN ?_ _ | refine blk_drew ?_ | refine blk_alloc ?_ _)); refine blk_far ?_ l.out _; (with_reducible repeat (first | refine blk_drewN ?_ _ | refine blk_drew ?_ | refine blk_alloc ?_ _)); refine blk_far ?_ l.out _; (with_reducible repeat (first | refine blk_drewN ?_ _ | refine blk_drew ?_ | refine blk_alloc ?_ _)); refine blk_far ?_ l.out _; (with_reducible repeat (first | refine blk_drewN ?_ _ | refine blk_drew ?_ | refine blk_alloc ?_ _)); refine blk_far ?_ l.out _; (with_reducible repeat (first | refine blk_drewN ?_ _ | refine blk_drew ?_ | refine blk_alloc ?_ _)); refine blk_far ?_ l.out _; (with_reducible repeat (first | refine blk_drewN ?_ _ | refine blk_drew ?_ | refine blk_alloc ?_ _)); refine blk_far ?_ l.out _; (with_reducible repeat (first | refine blk_drewN ?_ _ | refine blk_drew ?_ | refine blk_alloc ?_ _)); refine blk_far ?_ l.out _; (with_reducible repeat (first | refine blk_drewN ?_ _ | refine blk_drew ?_ | refine blk_alloc ?_ _)); refine blk_far ?_ l.out _; (with_reducible repeat (first | refine blk_drewN ?_ _ | refine blk_drew ?_ | refine blk_alloc ?_ _)); refine blk_far ?_ l.out _; (with_reducible repeat (first | refine blk_drewN ?_ _ | refine blk_drew ?_ | refine blk_alloc ?_ _)); refine blk_far ?_ l.out _; (with_reducible repeat (first | refine blk_drewN ?_ _ | refine blk_drew ?_ | refine blk_alloc ?_ _)); exact q.out) hb); replace z := a_ (blk_below (g := d5) (o := .cells #[.bool B, .bool E, .bool G, .bool J, .bool S, .bool T, .int .i64 a3, .bool b0, .bool b2, .bool b3] 111 (0, 0)) (by (with_reducible repeat (first | refine blk_drewN ?_ _ | refine blk_drew ?_ | refine blk_alloc ?_ _)); refine blk_put (cs := #[.bool B, .bool E, .bool G, .bool J, .bool S, .bool T, .int .i64 a3, .bool b0, .bool b2, .bool false]) ?_ 9 _ rfl; (with_reducible repeat (first | refine blk_drewN ?_ _ | refine blk_drew ?_ | refine blk_alloc ?_ _)); refine blk_put (cs := #[.bool B, .bool E, .bool G, .bool J, .bool S, .bool T, .int .i64 a3, .bool b0, .bool false, .bool false]) ?_ 8 _ rfl; (with_reducible repeat (first | refine blk_drewN ?_ _ | refine blk_drew ?_ | refine blk_alloc ?_ _)); refine blk_put (cs := #[.bool B, .bool E, .bool G, .bool J, .bool S, .bool T, .int .i64 a3, .bool false, .bool false, .bool false]) ?_ 7 _ rfl; (with_reducible repeat (first | refine blk_drewN ?_ _ | refine blk_drew ?_ | refine blk_alloc ?_ _)); refine blk_put (cs := #[.bool B, .bool E, .bool G, .bool J, .bool S, .bool T, .int .i64 0, .bool false, .bool false, .bool false]) ?_ 6 _ rfl; (with_reducible repeat (first | refine blk_drewN ?_ _ | refine blk_drew ?_ | refine blk_alloc ?_ _)); refine blk_put (cs := #[.bool B, .bool E, .bool G, .bool J, .bool S, .bool false, .int .i64 0, .bool false, .bool false, .bool false]) ?_ 5 _ rfl; (with_reducible repeat (first | refine blk_drewN ?_ _ | refine blk_drew ?_ | refine blk_alloc ?_ _)); refine blk_put (cs := #[.bool B, .bool E, .bool G, .bool J, .bool false, .bool false, .int .i64 0, .bool false, .bool false, .bool false]) ?_ 4 _ rfl; (with_reducible repeat (first | refine blk_drewN ?_ _ | refine blk_drew ?_ | refine blk_alloc ?_ _)); refine blk_put (cs := #[.bool B, .bool E, .bool G, .bool false, .bool false, .bool false, .int .i64 0, .bool false, .bool false, .bool false]) ?_ 3 _ rfl; (with_reducible repeat (first | refine blk_drewN ?_ _ | refine blk_drew ?_ | refine blk_alloc ?_ _)); refine blk_put (cs := #[.bool B, .bool E, .bool false, .bool false, .bool false, .bool false, .int .i64 0, .bool false, .bool false, .bool false]) ?_ 2 _ rfl; (with_reducible repeat (first | refine blk_drewN ?_ _ | refine blk_drew ?_ | refine blk_alloc ?_ _)); refine blk_put (cs := #[.bool B, .bool false, .bool false, .bool false, .bool false, .bool false, .int .i64 0, .bool false, .bool false, .bool false]) ?_ 1 _ rfl; (with_reducible repeat (first | refine blk_drewN ?_ _ | refine blk_drew ?_ | refine blk_alloc ?_ _)); refine blk_put (cs := #[.bool false, .bool false, .bool false, .bool false, .bool false, .bool false, .int .i64 0, .bool false, .bool false, .bool false]) ?_ 0 _ rfl; (with_reducible repeat (first | refine blk_drewN ?_ _ | refine blk_drew ?_ | refine blk_alloc ?_ _)); exact z.out) hb); replace HB := a_ (q_st3 HB.out hb D.out F.out I.out); (clear hb); obtain ⟨af, ag, ah, ai, aj, ak, al, am, an, ao⟩ := q_cf5 y.out; obtain ⟨ap, aq, au, av, aw, ax, ay, az, aA, aC, aD, aE, aG, aH, aI, aJ, aK, aM, aN, aQ⟩ := q_cf10 z.out; obtain ⟨aR, aT, aU, aV, aW, aX, aY, aZ, ba, bb, bc, bd, be, bf⟩ := q_cf7 q.out) | (go_at_call 73; (with_reducible refine (flow_register.calls O _ _ L _ _ M R _ _ N E a5 true _ (q_C (Kd.C_below b5.out HB.out)) b6.out (q_C (Kd.C_below b7.out HB.out)) b8.out (q_C (Kd.C_below b9.out HB.out)) c0.out s2.out).mono ?_); rintro e jo ⟨rfl, hb⟩; replace y := a_ (q_bk y.out hb); replace q := a_ (q_bk q.out hb); replace z := a_ (q_bk z.out hb); replace HB := a_ (q_st3 HB.out hb D.out F.out I.out); (clear hb); obtain ⟨bg, bh, bi, bj, bk, bl, bm, bn, bo, bp⟩ := q_cf5 y.out; obtain ⟨bq, br, bu, bv, bw, bx, bz, bA, bB, bC, bD, bE, bF, bG, bH, bI, bJ, bK, bL, bM⟩ := q_cf10 z.out; obtain ⟨bN, bO, bP, bQ, bR, bS, bT, bU, bV, bW, bX, bY, bZ, ca⟩ := q_cf7 q.out) | (go_at_call 73; (with_reducible refine (flow_register.calls O _ _ L _ _ M R _ _ N G a7 false _ (q_C (Kd.C_below b5.out HB.out)) b6.out (q_C (Kd.C_below b7.out HB.out)) b8.out (q_C (Kd.C_below b9.out HB.out)) c0.out D8.out).mono ?_); rintro e jp ⟨rfl, hb⟩; replace y := a_ (q_bk y.out hb); replace q := a_ (q_bk q.out hb); replace z := a_ (q_bk z.out hb); replace HB := a_ (q_st3 HB.out hb D.out F.out I.out); (clear hb)))
 go_meet
 case rel => exact ⟨_, (true), q_r, H', ⟨by first | omega | exact Nat.le_refl _⟩, ⟨q_k y.out⟩, ⟨q_k q.out⟩, ⟨q_k z.out⟩, ⟨q_w3 HB.out D.out F.out I.out⟩⟩}}
 {
 replace q7 := Bool.eq_false_iff.mpr q7; subst q7; rw [if_neg Bool.false_ne_true] at H; have H' := a_ H
 clear H; have il := U.out; have im := V.out; have io := b.out; have ip := X.out; obtain ⟨cb, cc, cd, ce, cf, cg, ch, ci, cj, ck⟩ := q_cf5 y.out; have iq := a0.out; have ir := l.out; obtain ⟨cl, cm, cn, co, cp, cq, cr, ct, cu, cv, cx, cy, cz, cA, cB, cC, cD, cE, cF, cG⟩ := q_cf10 z.out; obtain ⟨cH, cI, cJ, cK, cL, cM, cN, cO, cP, cQ, cR, cS, cT, cU⟩ := q_cf7 q.out; go_wp2_with (first | (go_at_call 73; (with_reducible refine (flow_register.calls O _ _ L _ _ M R _ _ N B a4 true _ (Kd.C_below b5.out (q_w3 HB.out D.out F.out I.out)) b6.out (Kd.C_below b7.out (q_w3 HB.out D.out F.out I.out)) b8.out (Kd.C_below b9.out (q_w3 HB.out D.out F.out I.out)) c0.out q5.out).mono ?_); rintro e jq ⟨rfl, hb⟩; replace y := a_ (blk_below (g := d3) (o := .cells #[.string O, .slice c3 L.length c4, .slice c6 M.length c8, .int .i64 R, .slice c9 N.length d0] 26 (0, 0)) (by (with_reducible repeat (first | refine blk_drewN ?_ _ | refine blk_drew ?_ | refine blk_alloc ?_ _)); refine blk_far ?_ b.out _; (with_reducible repeat (first | refine blk_drewN ?_ _ | refine blk_drew ?_ | refine blk_alloc ?_ _)); refine blk_far ?_ b.out _; (with_reducible repeat (first | refine blk_drewN ?_ _ | refine blk_drew ?_ | refine blk_alloc ?_ _)); refine blk_far ?_ b.out _; (with_reducible repeat (first | refine blk_drewN ?_ _ | refine blk_drew ?_ | refine blk_alloc ?_ _)); refine blk_far ?_ b.out _; (with_reducible repeat (first | refine blk_drewN ?_ _ | refine blk_drew ?_ | refine blk_alloc ?_ _)); refine blk_far ?_ b.out _; (with_reducible repeat (first | refine blk_drewN ?_ _ | refine blk_drew ?_ | refine blk_alloc ?_ _)); refine blk_far ?_ b.out _; (with_reducible repeat (first | refine blk_drewN ?_ _ | refine blk_drew ?_ | refine blk_alloc ?_ _)); refine blk_far ?_ b.out _; (with_reducible repeat (first | refine blk_drewN ?_ _ | refine blk_drew ?_ | refine blk_alloc ?_ _)); refine blk_far ?_ b.out _; (with_reducible repeat (first | refine blk_drewN ?_ _ | refine blk_drew ?_ | refine blk_alloc ?_ _)); refine blk_far ?_ b.out _; (with_reducible repeat (first | refine blk_drewN ?_ _ | refine blk_drew ?_ | refine blk_alloc ?_ _)); refine blk_far ?_ b.out _; (with_reducible repeat (first | refine blk_drewN ?_ _ | refine blk_drew ?_ | refine blk_alloc ?_ _)); exact y.out) hb); replace q := a_ (blk_below (g := d4) (o := .cells #[.int .i64 a9, .int .i64 a6, .int .i64 a4, .int .i64 a5, .int .i64 a7, .int .i32 b1, .slice d1 a1.length d2] 71 (0, 0)) (by (with_reducible repeat (first | refine blk_drewN ?_ _ | refine blk_drew ?_ | refine blk_alloc ?_ _)); refine blk_far ?_ l.out _; (with_reducible repeat (first | refine blk_drewN ?_ _ | refine blk_drew ?_ | refine blk_alloc ?_ _)); refine blk_far ?_ l.out _; (with_reducible repeat (first | refine blk_drewN ?_ _ | refine blk_drew ?_ | refine blk_alloc ?_ _)); refine blk_far ?_ l.out _; (with_reducible repeat (first | refine blk_drewN ?_ _ | refine blk_drew ?_ | refine blk_alloc ?_ _)); refine blk_far ?_ l.out _; (with_reducible repeat (first | refine blk_drewN ?_ _ | refine blk_drew ?_ | refine blk_alloc ?_ _)); refine blk_far ?_ l.out _; (with_reducible repeat (first | refine blk_drewN ?_ _ | refine blk_drew ?_ | refine blk_alloc ?_ _)); refine blk_far ?_ l.out _; (with_reducible repeat (first | refine blk_drewN ?_ _ | refine blk_drew ?_ | refine blk_alloc ?_ _)); refine blk_far ?_ l.out _; (with_reducible repeat (first | refine blk_drewN ?_ _ | refine blk_drew ?_ | refine blk_alloc ?_ _)); refine blk_far ?_ l.out _; (with_reducible repeat (first | refine blk_drewN ?_ _ | refine blk_drew ?_ | refine blk_alloc ?_ _)); refine blk_far ?_ l.out _; (with_reducible repeat (first | refine blk_drewN ?_ _ | refine blk_drew ?_ | refine blk_alloc ?_ _)); refine blk_far ?_ l.out _; (with_reducible repeat (first | refine blk_drewN ?_ _ | refine blk_drew ?_ | refine blk_alloc ?_ _)); exact q.out) hb); replace z := a_ (blk_below (g := d5) (o := .cells #[.bool B, .bool E, .bool G, .bool J, .bool S, .bool T, .int .i64 a3, .bool b0, .bool b2, .bool b3] 111 (0, 0)) (by (with_reducible repeat (first | refine blk_drewN ?_ _ | refine blk_drew ?_ | refine blk_alloc ?_ _)); refine blk_put (cs := #[.bool B, .bool E, .bool G, .bool J, .bool S, .bool T, .int .i64 a3, .bool b0, .bool b2, .bool false]) ?_ 9 _ rfl; (with_reducible repeat (first | refine blk_drewN ?_ _ | refine blk_drew ?_ | refine blk_alloc ?_ _)); refine blk_put (cs := #[.bool B, .bool E, .bool G, .bool J, .bool S, .bool T, .int .i64 a3, .bool b0, .bool false, .bool false]) ?_ 8 _ rfl; (with_reducible repeat (first | refine blk_drewN ?_ _ | refine blk_drew ?_ | refine blk_alloc ?_ _)); refine blk_put (cs := #[.bool B, .bool E, .bool G, .bool J, .bool S, .bool T, .int .i64 a3, .bool false, .bool false, .bool false]) ?_ 7 _ rfl; (with_reducible repeat (first | refine blk_drewN ?_ _ | refine blk_drew ?_ | refine blk_alloc ?_ _)); refine blk_put (cs := #[.bool B, .bool E, .bool G, .bool J, .bool S, .bool T, .int .i64 0, .bool false, .bool false, .bool false]) ?_ 6 _ rfl; (with_reducible repeat (first | refine blk_drewN ?_ _ | refine blk_drew ?_ | refine blk_alloc ?_ _)); refine blk_put (cs := #[.bool B, .bool E, .bool G, .bool J, .bool S, .bool false, .int .i64 0, .bool false, .bool false, .bool false]) ?_ 5 _ rfl; (with_reducible repeat (first | refine blk_drewN ?_ _ | refine blk_drew ?_ | refine blk_alloc ?_ _)); refine blk_put (cs := #[.bool B, .bool E, .bool G, .bool J, .bool false, .bool false, .int .i64 0, .bool false, .bool false, .bool false]) ?_ 4 _ rfl; (with_reducible repeat (first | refine blk_drewN ?_ _ | refine blk_drew ?_ | refine blk_alloc ?_ _)); refine blk_put (cs := #[.bool B, .bool E, .bool G, .bool false, .bool false, .bool false, .int .i64 0, .bool false, .bool false, .bool false]) ?_ 3 _ rfl; (with_reducible repeat (first | refine blk_drewN ?_ _ | refine blk_drew ?_ | refine blk_alloc ?_ _)); refine blk_put (cs := #[.bool B, .bool E, .bool false, .bool false, .bool false, .bool false, .int .i64 0, .bool false, .bool false, .bool false]) ?_ 2 _ rfl; (with_reducible repeat (first | refine blk_drewN ?_ _ | refine blk_drew ?_ | refine blk_alloc ?_ _)); refine blk_put (cs := #[.bool B, .bool false, .bool false, .bool false, .bool false, .bool false, .int .i64 0, .bool false, .bool false, .bool false]) ?_ 1 _ rfl; (with_reducible repeat (first | refine blk_drewN ?_ _ | refine blk_drew ?_ | refine blk_alloc ?_ _)); refine blk_put (cs := #[.bool false, .bool false, .bool false, .bool false, .bool false, .bool false, .int .i64 0, .bool false, .bool false, .bool false]) ?_ 0 _ rfl; (with_reducible repeat (first | refine blk_drewN ?_ _ | refine blk_drew ?_ | refine blk_alloc ?_ _)); exact z.out) hb); replace HB := a_ (q_st3 HB.out hb D.out F.out I.out); (clear hb); obtain ⟨cV, cW, cX, cY, cZ, da, db, dc, dd, de⟩ := q_cf5 y.out; obtain ⟨df, dg, dh, di, dj, dk, dl, dm, dn, dp, dq, dr, dt, du, dv, dw, dx, dy, dz, dA⟩ := q_cf10 z.out; obtain ⟨dB, dC, dD, dE, dF, dG, dH, dI, dJ, dK, dL, dM, dN, dO⟩ := q_cf7 q.out) | (go_at_call 73; (with_reducible refine (flow_register.calls O _ _ L _ _ M R _ _ N E a5 false _ (q_C (Kd.C_below b5.out HB.out)) b6.out (q_C (Kd.C_below b7.out HB.out)) b8.out (q_C (Kd.C_below b9.out HB.out)) c0.out s2.out).mono ?_); rintro e jr ⟨rfl, hb⟩; replace y := a_ (q_bk y.out hb); replace q := a_ (q_bk q.out hb); replace z := a_ (q_bk z.out hb); replace HB := a_ (q_st3 HB.out hb D.out F.out I.out); (clear hb)))
 go_meet
 case rel => exact ⟨_, (true), q_r, H', ⟨by first | omega | exact Nat.le_refl _⟩, ⟨q_k y.out⟩, ⟨q_k q.out⟩, ⟨q_k z.out⟩, ⟨q_w3 HB.out D.out F.out I.out⟩⟩}}
 {
 replace q6 := Bool.eq_false_iff.mpr q6; subst q6; rw [if_neg Bool.false_ne_true] at H; have H' := a_ H
 clear H; have it := U.out; have iu := V.out; have iv := b.out; have iw := X.out; obtain ⟨dP, dQ, dR, dS, dT, dU, dV, dW, dX, dY⟩ := q_cf5 y.out; have ix := a0.out; have iy := l.out; obtain ⟨dZ, ea, eb, ec, ed, ee, ef, eg, eh, ei, ej, ek, el, em, en, eo, ep, eq, er, es⟩ := q_cf10 z.out; obtain ⟨et, eu, ev, ew, ex, ey, ez, eA, eB, eC, eD, eE, eF, eG⟩ := q_cf7 q.out; go_wp2_with (first | (go_at_call 73; (with_reducible refine (flow_register.calls O _ _ L _ _ M R _ _ N B a4 false _ (Kd.C_below b5.out (q_w3 HB.out D.out F.out I.out)) b6.out (Kd.C_below b7.out (q_w3 HB.out D.out F.out I.out)) b8.out (Kd.C_below b9.out (q_w3 HB.out D.out F.out I.out)) c0.out q5.out).mono ?_); rintro e js ⟨rfl, hb⟩; replace y := a_ (blk_below (g := d3) (o := .cells #[.string O, .slice c3 L.length c4, .slice c6 M.length c8, .int .i64 R, .slice c9 N.length d0] 26 (0, 0)) (by (with_reducible repeat (first | refine blk_drewN ?_ _ | refine blk_drew ?_ | refine blk_alloc ?_ _)); refine blk_far ?_ b.out _; (with_reducible repeat (first | refine blk_drewN ?_ _ | refine blk_drew ?_ | refine blk_alloc ?_ _)); refine blk_far ?_ b.out _; (with_reducible repeat (first | refine blk_drewN ?_ _ | refine blk_drew ?_ | refine blk_alloc ?_ _)); refine blk_far ?_ b.out _; (with_reducible repeat (first | refine blk_drewN ?_ _ | refine blk_drew ?_ | refine blk_alloc ?_ _)); refine blk_far ?_ b.out _; (with_reducible repeat (first | refine blk_drewN ?_ _ | refine blk_drew ?_ | refine blk_alloc ?_ _)); refine blk_far ?_ b.out _; (with_reducible repeat (first | refine blk_drewN ?_ _ | refine blk_drew ?_ | refine blk_alloc ?_ _)); refine blk_far ?_ b.out _; (with_reducible repeat (first | refine blk_drewN ?_ _ | refine blk_drew ?_ | refine blk_alloc ?_ _)); refine blk_far ?_ b.out _; (with_reducible repeat (first | refine blk_drewN ?_ _ | refine blk_drew ?_ | refine blk_alloc ?_ _)); refine blk_far ?_ b.out _; (with_reducible repeat (first | refine blk_drewN ?_ _ | refine blk_drew ?_ | refine blk_alloc ?_ _)); refine blk_far ?_ b.out _; (with_reducible repeat (first | refine blk_drewN ?_ _ | refine blk_drew ?_ | refine blk_alloc ?_ _)); refine blk_far ?_ b.out _; (with_reducible repeat (first | refine blk_drewN ?_ _ | refine blk_drew ?_ | refine blk_alloc ?_ _)); exact y.out) hb); replace q := a_ (blk_below (g := d4) (o := .cells #[.int .i64 a9, .int .i64 a6, .int .i64 a4, .int .i64 a5, .int .i64 a7, .int .i32 b1, .slice d1 a1.length d2] 71 (0, 0)) (by (with_reducible repeat (first | refine blk_drewN ?_ _ | refine blk_drew ?_ | refine blk_alloc ?_ _)); refine blk_far ?_ l.out _; (with_reducible repeat (first | refine blk_drewN ?_ _ | refine blk_drew ?_ | refine blk_alloc ?_ _)); refine blk_far ?_ l.out _; (with_reducible repeat (first | refine blk_drewN ?_ _ | refine blk_drew ?_ | refine blk_alloc ?_ _)); refine blk_far ?_ l.out _; (with_reducible repeat (first | refine blk_drewN ?_ _ | refine blk_drew ?_ | refine blk_alloc ?_ _)); refine blk_far ?_ l.out _; (with_reducible repeat (first | refine blk_drewN ?_ _ | refine blk_drew ?_ | refine blk_alloc ?_ _)); refine blk_far ?_ l.out _; (with_reducible repeat (first | refine blk_drewN ?_ _ | refine blk_drew ?_ | refine blk_alloc ?_ _)); refine blk_far ?_ l.out _; (with_reducible repeat (first | refine blk_drewN ?_ _ | refine blk_drew ?_ | refine blk_alloc ?_ _)); refine blk_far ?_ l.out _; (with_reducible repeat (first | refine blk_drewN ?_ _ | refine blk_drew ?_ | refine blk_alloc ?_ _)); refine blk_far ?_ l.out _; (with_reducible repeat (first | refine blk_drewN ?_ _ | refine blk_drew ?_ | refine blk_alloc ?_ _)); refine blk_far ?_ l.out _; (with_reducible repeat (first | refine blk_drewN ?_ _ | refine blk_drew ?_ | refine blk_alloc ?_ _)); refine blk_far ?_ l.out _; (with_reducible repeat (first | refine blk_drewN ?_ _ | refine blk_drew ?_ | refine blk_alloc ?_ _)); exact q.out) hb); replace z := a_ (blk_below (g := d5) (o := .cells #[.bool B, .bool E, .bool G, .bool J, .bool S, .bool T, .int .i64 a3, .bool b0, .bool b2, .bool b3] 111 (0, 0)) (by (with_reducible repeat (first | refine blk_drewN ?_ _ | refine blk_drew ?_ | refine blk_alloc ?_ _)); refine blk_put (cs := #[.bool B, .bool E, .bool G, .bool J, .bool S, .bool T, .int .i64 a3, .bool b0, .bool b2, .bool false]) ?_ 9 _ rfl; (with_reducible repeat (first | refine blk_drewN ?_ _ | refine blk_drew ?_ | refine blk_alloc ?_ _)); refine blk_put (cs := #[.bool B, .bool E, .bool G, .bool J, .bool S, .bool T, .int .i64 a3, .bool b0, .bool false, .bool false]) ?_ 8 _ rfl; (with_reducible repeat (first | refine blk_drewN ?_ _ | refine blk_drew ?_ | refine blk_alloc ?_ _)); refine blk_put (cs := #[.bool B, .bool E, .bool G, .bool J, .bool S, .bool T, .int .i64 a3, .bool false, .bool false, .bool false]) ?_ 7 _ rfl; (with_reducible repeat (first | refine blk_drewN ?_ _ | refine blk_drew ?_ | refine blk_alloc ?_ _)); refine blk_put (cs := #[.bool B, .bool E, .bool G, .bool J, .bool S, .bool T, .int .i64 0, .bool false, .bool false, .bool false]) ?_ 6 _ rfl; (with_reducible repeat (first | refine blk_drewN ?_ _ | refine blk_drew ?_ | refine blk_alloc ?_ _)); refine blk_put (cs := #[.bool B, .bool E, .bool G, .bool J, .bool S, .bool false, .int .i64 0, .bool false, .bool false, .bool false]) ?_ 5 _ rfl; (with_reducible repeat (first | refine blk_drewN ?_ _ | refine blk_drew ?_ | refine blk_alloc ?_ _)); refine blk_put (cs := #[.bool B, .bool E, .bool G, .bool J, .bool false, .bool false, .int .i64 0, .bool false, .bool false, .bool false]) ?_ 4 _ rfl; (with_reducible repeat (first | refine blk_drewN ?_ _ | refine blk_drew ?_ | refine blk_alloc ?_ _)); refine blk_put (cs := #[.bool B, .bool E, .bool G, .bool false, .bool false, .bool false, .int .i64 0, .bool false, .bool false, .bool false]) ?_ 3 _ rfl; (with_reducible repeat (first | refine blk_drewN ?_ _ | refine blk_drew ?_ | refine blk_alloc ?_ _)); refine blk_put (cs := #[.bool B, .bool E, .bool false, .bool false, .bool false, .bool false, .int .i64 0, .bool false, .bool false, .bool false]) ?_ 2 _ rfl; (with_reducible repeat (first | refine blk_drewN ?_ _ | refine blk_drew ?_ | refine blk_alloc ?_ _)); refine blk_put (cs := #[.bool B, .bool false, .bool false, .bool false, .bool false, .bool false, .int .i64 0, .bool false, .bool false, .bool false]) ?_ 1 _ rfl; (with_reducible repeat (first | refine blk_drewN ?_ _ | refine blk_drew ?_ | refine blk_alloc ?_ _)); refine blk_put (cs := #[.bool false, .bool false, .bool false, .bool false, .bool false, .bool false, .int .i64 0, .bool false, .bool false, .bool false]) ?_ 0 _ rfl; (with_reducible repeat (first | refine blk_drewN ?_ _ | refine blk_drew ?_ | refine blk_alloc ?_ _)); exact z.out) hb); replace HB := a_ (q_st3 HB.out hb D.out F.out I.out); (clear hb)))
 go_meet
 case rel => exact ⟨_, (true), q_r, H', ⟨by first | omega | exact Nat.le_refl _⟩, ⟨q_k y.out⟩, ⟨q_k q.out⟩, ⟨q_k z.out⟩, ⟨q_w3 HB.out D.out F.out I.out⟩⟩}}
 {
 replace q4 := Bool.eq_false_iff.mpr q4; subst q4; rw [if_neg Bool.false_ne_true] at H; have H' := a_ H
 clear H; go_wp2
 go_meet
 case rel => exact ⟨_, (true), q_r, H', ⟨by first | omega | exact Nat.le_refl _⟩, ⟨by (with_reducible repeat (first | refine blk_drewN ?_ _ | refine blk_drew ?_ | refine blk_alloc ?_ _)); refine blk_far ?_ b.out _; (with_reducible repeat (first | refine blk_drewN ?_ _ | refine blk_drew ?_ | refine blk_alloc ?_ _)); refine blk_far ?_ b.out _; (with_reducible repeat (first | refine blk_drewN ?_ _ | refine blk_drew ?_ | refine blk_alloc ?_ _)); refine blk_far ?_ b.out _; (with_reducible repeat (first | refine blk_drewN ?_ _ | refine blk_drew ?_ | refine blk_alloc ?_ _)); refine blk_far ?_ b.out _; (with_reducible repeat (first | refine blk_drewN ?_ _ | refine blk_drew ?_ | refine blk_alloc ?_ _)); refine blk_far ?_ b.out _; (with_reducible repeat (first | refine blk_drewN ?_ _ | refine blk_drew ?_ | refine blk_alloc ?_ _)); refine blk_far ?_ b.out _; (with_reducible repeat (first | refine blk_drewN ?_ _ | refine blk_drew ?_ | refine blk_alloc ?_ _)); refine blk_far ?_ b.out _; (with_reducible repeat (first | refine blk_drewN ?_ _ | refine blk_drew ?_ | refine blk_alloc ?_ _)); refine blk_far ?_ b.out _; (with_reducible repeat (first | refine blk_drewN ?_ _ | refine blk_drew ?_ | refine blk_alloc ?_ _)); refine blk_far ?_ b.out _; (with_reducible repeat (first | refine blk_drewN ?_ _ | refine blk_drew ?_ | refine blk_alloc ?_ _)); refine blk_far ?_ b.out _; (with_reducible repeat (first | refine blk_drewN ?_ _ | refine blk_drew ?_ | refine blk_alloc ?_ _)); exact y.out⟩, ⟨by (with_reducible repeat (first | refine blk_drewN ?_ _ | refine blk_drew ?_ | refine blk_alloc ?_ _)); refine blk_far ?_ l.out _; (with_reducible repeat (first | refine blk_drewN ?_ _ | refine blk_drew ?_ | refine blk_alloc ?_ _)); refine blk_far ?_ l.out _; (with_reducible repeat (first | refine blk_drewN ?_ _ | refine blk_drew ?_ | refine blk_alloc ?_ _)); refine blk_far ?_ l.out _; (with_reducible repeat (first | refine blk_drewN ?_ _ | refine blk_drew ?_ | refine blk_alloc ?_ _)); refine blk_far ?_ l.out _; (with_reducible repeat (first | refine blk_drewN ?_ _ | refine blk_drew ?_ | refine blk_alloc ?_ _)); refine blk_far ?_ l.out _; (with_reducible repeat (first | refine blk_drewN ?_ _ | refine blk_drew ?_ | refine blk_alloc ?_ _)); refine blk_far ?_ l.out _; (with_reducible repeat (first | refine blk_drewN ?_ _ | refine blk_drew ?_ | refine blk_alloc ?_ _)); refine blk_far ?_ l.out _; (with_reducible repeat (first | refine blk_drewN ?_ _ | refine blk_drew ?_ | refine blk_alloc ?_ _)); refine blk_far ?_ l.out _; (with_reducible repeat (first | refine blk_drewN ?_ _ | refine blk_drew ?_ | refine blk_alloc ?_ _)); refine blk_far ?_ l.out _; (with_reducible repeat (first | refine blk_drewN ?_ _ | refine blk_drew ?_ | refine blk_alloc ?_ _)); refine blk_far ?_ l.out _; (with_reducible repeat (first | refine blk_drewN ?_ _ | refine blk_drew ?_ | refine blk_alloc ?_ _)); exact q.out⟩, ⟨by (with_reducible repeat (first | refine blk_drewN ?_ _ | refine blk_drew ?_ | refine blk_alloc ?_ _)); refine blk_put (cs := #[.bool B, .bool E, .bool G, .bool J, .bool S, .bool T, .int .i64 a3, .bool b0, .bool b2, .bool false]) ?_ 9 _ rfl; (with_reducible repeat (first | refine blk_drewN ?_ _ | refine blk_drew ?_ | refine blk_alloc ?_ _)); refine blk_put (cs := #[.bool B, .bool E, .bool G, .bool J, .bool S, .bool T, .int .i64 a3, .bool b0, .bool false, .bool false]) ?_ 8 _ rfl; (with_reducible repeat (first | refine blk_drewN ?_ _ | refine blk_drew ?_ | refine blk_alloc ?_ _)); refine blk_put (cs := #[.bool B, .bool E, .bool G, .bool J, .bool S, .bool T, .int .i64 a3, .bool false, .bool false, .bool false]) ?_ 7 _ rfl; (with_reducible repeat (first | refine blk_drewN ?_ _ | refine blk_drew ?_ | refine blk_alloc ?_ _)); refine blk_put (cs := #[.bool B, .bool E, .bool G, .bool J, .bool S, .bool T, .int .i64 0, .bool false, .bool false, .bool false]) ?_ 6 _ rfl; (with_reducible repeat (first | refine blk_drewN ?_ _ | refine blk_drew ?_ | refine blk_alloc ?_ _)); refine blk_put (cs := #[.bool B, .bool E, .bool G, .bool J, .bool S, .bool false, .int .i64 0, .bool false, .bool false, .bool false]) ?_ 5 _ rfl; (with_reducible repeat (first | refine blk_drewN ?_ _ | refine blk_drew ?_ | refine blk_alloc ?_ _)); refine blk_put (cs := #[.bool B, .bool E, .bool G, .bool J, .bool false, .bool false, .int .i64 0, .bool false, .bool false, .bool false]) ?_ 4 _ rfl; (with_reducible repeat (first | refine blk_drewN ?_ _ | refine blk_drew ?_ | refine blk_alloc ?_ _)); refine blk_put (cs := #[.bool B, .bool E, .bool G, .bool false, .bool false, .bool false, .int .i64 0, .bool false, .bool false, .bool false]) ?_ 3 _ rfl; (with_reducible repeat (first | refine blk_drewN ?_ _ | refine blk_drew ?_ | refine blk_alloc ?_ _)); refine blk_put (cs := #[.bool B, .bool E, .bool false, .bool false, .bool false, .bool false, .int .i64 0, .bool false, .bool false, .bool false]) ?_ 2 _ rfl; (with_reducible repeat (first | refine blk_drewN ?_ _ | refine blk_drew ?_ | refine blk_alloc ?_ _)); refine blk_put (cs := #[.bool B, .bool false, .bool false, .bool false, .bool false, .bool false, .int .i64 0, .bool false, .bool false, .bool false]) ?_ 1 _ rfl; (with_reducible repeat (first | refine blk_drewN ?_ _ | refine blk_drew ?_ | refine blk_alloc ?_ _)); refine blk_put (cs := #[.bool false, .bool false, .bool false, .bool false, .bool false, .bool false, .int .i64 0, .bool false, .bool false, .bool false]) ?_ 0 _ rfl; (with_reducible repeat (first | refine blk_drewN ?_ _ | refine blk_drew ?_ | refine blk_alloc ?_ _)); exact z.out⟩, ⟨q_w3 HB.out D.out F.out I.out⟩⟩})
 case rest => (
 clear s1 l7 l8 l9 n0 n1 n2 n3 n4 n5 n6 p0 p1 p2 p3 p4 p5 p6 n7 n8 n9 o0 o1 o2 o3 o4 o5 o6 p7 p8 p9 q0 q1 q2 q3; obtain ⟨kq, e2, rfl, HA, e6, y, q, z, HB⟩ := hcut; cases kq with
 | zero => exact absurd HA.out (by simp [flow_instr.j0])
 | succ eH => (
 have H := HA.out; clear HA; simp only [flow_instr.j0] at H
 by_cases q9 : e2 = true
 {
 subst q9; rw [if_pos rfl] at H; obtain rfl := Option.some.inj H; go_wp2
 go_ret
 exact ⟨q_e, q_w3 HB.out D.out F.out I.out⟩}
 {
 replace q9 := Bool.eq_false_iff.mpr q9; subst q9; rw [if_neg Bool.false_ne_true] at H; have o7 := a_ H; clear H; go_upto_block 0 with (fail)
 go_cut [8] (fun v8 wc => ∃ (kq : Nat) (d8 : Bool), v8 = .bool d8 ∧ Aside0 (flow_instr.j1 kq a2 d8 O L M R N a9 a6 a4 a5 a7 b1 a1 B E G J S T a3 b0 b2 b3 = some r) ∧ Aside0 (kq ≤ eH) ∧ Aside0 (wc.heap[d3]? = some (.cells #[.string O, (.slice c3 L.length c4), (.slice c6 M.length c8), .int .i64 R, (.slice c9 N.length d0)] 26 (0, 0))) ∧ Aside0 (wc.heap[d4]? = some (.cells #[.int .i64 a9, .int .i64 a6, .int .i64 a4, .int .i64 a5, .int .i64 a7, .int .i32 b1, (.slice d1 a1.length d2)] 71 (0, 0))) ∧ Aside0 (wc.heap[d5]? = some (.cells #[.bool B, .bool E, .bool G, .bool J, .bool S, .bool T, .int .i64 a3, .bool b0, .bool b2, .bool b3] 111 (0, 0))) ∧ Aside0 (Below w.heap.size w wc))
 case first => (
 have H := o7.out; clear o7; by_cases r0 : b0 = true
 {
 subst r0; rw [if_pos rfl] at H; replace H := Option.bind_eq_some_iff.mp H; obtain ⟨r6, r7, H⟩ := H; have iA := a_ r7; clear r7; have H' := a_ H
 clear H; have iB := X.out; have iC := b.out; have iD := a0.out; have iE := l.out; obtain ⟨eI, eJ, eK, eL, eM, eN, eO, eP, eQ, eR, eS, eT, eU, eV, eW, eX, eY, eZ, fa, fb⟩ := q_cf10 z.out; have iF := V.out; have iG := U.out; obtain ⟨fc, fd, fe, ff, fg, fh, fi, fj, fk, fl, fm, fn, fo, fp⟩ := q_cf7 q.out; go_wp2_with (first | ((with_reducible refine gc_ 76 rfl ?_); refine q_gl 61 #[.int .i64 a6] Tryd.func76 rfl ?_; (with_reducible refine (num_Folds.calls eH a6 r6 _ iA.out).mono ?_); rintro e w' ⟨rfl, ⟨nd, rfl⟩⟩; refine ⟨_, rfl, ?_⟩))
 go_meet
 case rel => exact ⟨_, (r6), q_r, H', ⟨by have := e6.out; first | omega | exact Nat.le_refl _⟩, ⟨q_k y.out⟩, ⟨q_k q.out⟩, ⟨q_k z.out⟩, ⟨q_w3 HB.out D.out F.out I.out⟩⟩}
 {
 replace r0 := Bool.eq_false_iff.mpr r0; subst r0; rw [if_neg Bool.false_ne_true] at H; rcases q_ite H with ⟨c84b0, H⟩ | ⟨c84b0, H⟩
 {
 (first | rw [c84b0] | (simp only [i64_w, i32_w]; rw [c84b0]) | skip)
 rcases q_ite H with ⟨c85b0, H⟩ | ⟨c85b0, H⟩
 {
 have H' := a_ H
 clear H; have iH := X.out; have iI := b.out; have iJ := a0.out; have iK := l.out; obtain ⟨fq, fs, ft, fu, fv, fw, fx, fy, fz, fA, fB, fC, fD, fE, fF, fG, fH, fI, fJ, fK⟩ := q_cf10 z.out; have iL := V.out; have iM := U.out; obtain ⟨fL, fM, fN, fO, fP, fQ, fR, fS, fT, fU, fV, fW, fX, fY⟩ := q_cf7 q.out; go_wp2
 go_meet
 case rel => exact ⟨_, (decide (a6 < a3)), q_r, H', ⟨by have := e6.out; first | omega | exact Nat.le_refl _⟩, ⟨q_k y.out⟩, ⟨q_k q.out⟩, ⟨q_k z.out⟩, ⟨q_w3 HB.out D.out F.out I.out⟩⟩}
 {
 have H' := a_ H
 clear H; have iN := X.out; have iO := b.out; have iP := a0.out; have iQ := l.out; obtain ⟨fZ, ga, gb, gc, ge, gf, gg, gh, gi, gj, gl, gm, gn, go, gp, gq, gr, gs, gt, gu⟩ := q_cf10 z.out; have iR := V.out; have iS := U.out; obtain ⟨gv, gw, gx, gy, gz, gA, gB, gC, gD, gE, gF, gG, gH, gI⟩ := q_cf7 q.out; go_wp2
 go_meet
 case rel => exact ⟨_, (false), q_r, H', ⟨by have := e6.out; first | omega | exact Nat.le_refl _⟩, ⟨q_k y.out⟩, ⟨q_k q.out⟩, ⟨q_k z.out⟩, ⟨q_w3 HB.out D.out F.out I.out⟩⟩}}
 {
 (first | rw [c84b0] | (simp only [i64_w, i32_w]; rw [c84b0]) | skip)
 have H' := a_ H
 clear H; have iT := X.out; have iU := b.out; have iV := a0.out; have iW := l.out; obtain ⟨gJ, gK, gL, gM, gN, gO, gP, gQ, gR, gS, gT, gU, gV, gW, gX, gY, gZ, ha, hc, he⟩ := q_cf10 z.out; have iX := V.out; have iY := U.out; obtain ⟨s4, s5, s6, s7, s8, s9, t0, t1, t2, t3, t4, t5, t6, t7⟩ := q_cf7 q.out; go_wp2
 go_meet
 case rel => exact ⟨_, ((a6 == 0)), q_r, H', ⟨by have := e6.out; first | omega | exact Nat.le_refl _⟩, ⟨q_k y.out⟩, ⟨q_k q.out⟩, ⟨q_k z.out⟩, ⟨q_w3 HB.out D.out F.out I.out⟩⟩}})
 case rest => (
 clear o7; obtain ⟨kq, d8, rfl, HA, f0, y, q, z, HB⟩ := hcut; cases kq with
 | zero => exact absurd HA.out (by simp [flow_instr.j1])
 | succ r8 => (
 have H := HA.out; clear HA; simp only [flow_instr.j1] at H
 by_cases f1 : T = true
 {
 subst f1; rw [if_pos rfl] at H; have H' := a_ H
 clear H; have hh := X.out; have hi := b.out; have hj := a0.out; have hk := l.out; obtain ⟨f5, f6, f7, f8, f9, g0, g1, g2, g3, g4, g5, g6, g7, g8, g9, i0, i1, i2, i3, i4⟩ := q_cf10 z.out; have hq := V.out; have hs := U.out; obtain ⟨i5, i6, i7, i8, i9, j3, j5, j6, j7, j8, j9, k0, k1, k2⟩ := q_cf7 q.out; go_wp2
 go_loopg [8, 89] r8 (fun kq v8 iZ w' => ∃ (e7 : Bool) (b4 : Int), v8 = .bool e7 ∧ iZ = .int .i64 b4 ∧ Aside0 (flow_instr.l0 kq a2 e7 a1 (a1.length : Int) b4 O L M R N a9 a6 a4 a5 a7 b1 a1 = some r) ∧ Aside0 (kq ≤ r8) ∧ Aside0 (w'.heap[d3]? = some (.cells #[.string O, (.slice c3 L.length c4), (.slice c6 M.length c8), .int .i64 R, (.slice c9 N.length d0)] 26 (0, 0))) ∧ Aside0 (w'.heap[d4]? = some (.cells #[.int .i64 a9, .int .i64 a6, .int .i64 a4, .int .i64 a5, .int .i64 a7, .int .i32 b1, (.slice d1 a1.length d2)] 71 (0, 0))) ∧ Aside0 (w'.heap[d5]? = some (.cells #[.bool B, .bool E, .bool G, .bool J, .bool S, .bool true, .int .i64 a3, .bool b0, .bool b2, .bool b3] 111 (0, 0))) ∧ Aside0 (Below w.heap.size w w'))
 case atStart => exact ⟨(d8), (0), q_r, q_r, H', ⟨Nat.le_refl _⟩, ⟨q_k y.out⟩, ⟨q_k q.out⟩, ⟨q_k z.out⟩, ⟨q_w3 HB.out D.out F.out I.out⟩⟩
 case round => (
 clear H'; clear f5 f6 f7 f8 f9 g0 g1 g2 g3 g4 i5 i6 i7 i8 i9 j3 j5 g5 g6 g7 g8 g9 i0 i1 i2 i3 i4 j6 j7 j8 j9 k0 k1 k2; obtain ⟨e7, b4, rfl, rfl, HA, r1, y, q, z, HB⟩ := hrel; cases gk with
 | zero => exact absurd HA.out (by simp [flow_instr.l0])
 | succ k3 => (
 have H := HA.out; clear HA; simp only [flow_instr.l0] at H
 rcases q_ite H with ⟨c107b0, H⟩ | ⟨c107b0, H⟩
 {
 replace H := q_gD H; obtain ⟨-, c108b0, H⟩ := H; replace H := q_gD H; obtain ⟨-, c109b0, H⟩ := H; by_cases f2 : e7 = true
 {
 subst f2; rw [if_pos rfl] at H; replace H := Option.bind_eq_some_iff.mp H; obtain ⟨r9, o8, H⟩ := H; have hf := a_ o8; clear o8; have H' := a_ H
 clear H; have d9 : 0 ≤ (b4 : Int) := q_d
 have e0 : b4 < (a1.length : Int) := q_d
 obtain ⟨s3, o9, c1⟩ := Kd.at_int e9.out b4 d9 e0; cases o9; replace c1 := q_kc HB.out c1; replace d9 := eq_true d9; replace e0 := eq_true e0; have ht := U.out; have hu := V.out; have hv := b.out; have hw := X.out; obtain ⟨t8, t9, v0, v1, v2, v3, v4, v5, v6, v7⟩ := q_cf5 y.out; go_wp2_with (first | (go_at_call 73; (with_reducible refine (flow_register.calls O _ _ L _ _ M R _ _ N true (rd a1 b4) r9 _ (q_C (Kd.C_below b5.out HB.out)) b6.out (q_C (Kd.C_below b7.out HB.out)) b8.out (q_C (Kd.C_below b9.out HB.out)) c0.out hf.out).mono ?_); rintro e jf ⟨rfl, hb⟩; replace y := a_ (q_bk y.out hb); replace q := a_ (q_bk q.out hb); replace z := a_ (q_bk z.out hb); replace HB := a_ (q_st3 HB.out hb D.out F.out I.out); (clear hb)))
 go_roundg k3
 case measure => have := e6.out; have := f0.out; have := r1.out; omega
 case rel => exact ⟨(r9), (wrap64 (b4 + 1)), q_r, q_r, H', ⟨by have := e6.out; have := f0.out; have := r1.out; omega⟩, ⟨q_k y.out⟩, ⟨q_k q.out⟩, ⟨q_k z.out⟩, ⟨q_w3 HB.out D.out F.out I.out⟩⟩}
 {
 replace f2 := Bool.eq_false_iff.mpr f2; subst f2; rw [if_neg Bool.false_ne_true] at H; have H' := a_ H
 clear H; have d9 : 0 ≤ (b4 : Int) := q_d
 have e0 : b4 < (a1.length : Int) := q_d
 obtain ⟨s3, o9, c1⟩ := Kd.at_int e9.out b4 d9 e0; cases o9; replace c1 := q_kc HB.out c1; replace d9 := eq_true d9; replace e0 := eq_true e0; go_wp2
 go_roundg k3
 case measure => have := e6.out; have := f0.out; have := r1.out; omega
 case rel => exact ⟨(false), (wrap64 (b4 + 1)), q_r, q_r, H', ⟨by have := e6.out; have := f0.out; have := r1.out; omega⟩, ⟨q_k y.out⟩, ⟨q_k q.out⟩, ⟨q_k z.out⟩, ⟨q_w3 HB.out D.out F.out I.out⟩⟩}}
 {
 by_cases f3 : e7 = true
 {
 subst f3; rw [if_pos rfl] at H; obtain rfl := Option.some.inj H; have hz := V.out; have hA := U.out; have hB := l.out; have hC := a0.out; obtain ⟨v9, w2, w3, w4, w5, w8, w9, x0, x1, x2, x3, x4, x5, x6⟩ := q_cf7 q.out; go_wp2
 go_ret
 exact ⟨q_e, q_w3 HB.out D.out F.out I.out⟩}
 {
 replace f3 := Bool.eq_false_iff.mpr f3; subst f3; rw [if_neg Bool.false_ne_true] at H; obtain rfl := Option.some.inj H; go_wp2
 go_ret
 exact ⟨q_e, q_w3 HB.out D.out F.out I.out⟩}}))}
 {
 replace f1 := Bool.eq_false_iff.mpr f1; subst f1; rw [if_neg Bool.false_ne_true] at H; by_cases f4 : d8 = true
 {
 subst f4; rw [if_pos rfl] at H; obtain rfl := Option.some.inj H; have hD := X.out; have hE := b.out; have hF := a0.out; have hG := l.out; obtain ⟨x7, x8, x9, y0, y1, y2, y3, y4, y5, y6, y7, y8, y9, z0, z1, z2, z3, z4, z5, z6⟩ := q_cf10 z.out; have hH := V.out; have hJ := U.out; obtain ⟨z7, z8, z9, A0, A1, A2, A3, A5, A6, A7, A8, A9, B1, B2⟩ := q_cf7 q.out; go_wp2
 go_ret
 exact ⟨q_e, q_w3 HB.out D.out F.out I.out⟩}
 {
 replace f4 := Bool.eq_false_iff.mpr f4; subst f4; rw [if_neg Bool.false_ne_true] at H; obtain rfl := Option.some.inj H; have hK := X.out; have hL := b.out; have hM := a0.out; have hN := l.out; obtain ⟨B3, B6, B7, C0, C1, C2, C3, C4, C5, C6, C7, C8, C9, D0, D1, D2, D3, D4, D5, D6⟩ := q_cf10 z.out; go_wp2
 go_ret
 exact ⟨q_e, q_w3 HB.out D.out F.out I.out⟩}}))}))
end Go.Proofs.YtefhpdcafdhcaaaDoor.A
end
section
namespace Go.Proofs.YtefhpdcafdhcaaaDoor.B
open Go Go.RowKit Go.Shelf Go.Proofs.YtefhpdcafdhcaaaDoorW.PrintWords Go.Proofs.YtefhpdcafdhcaaaDoorW.PrintLast Go.Proofs.YtefhpdcafdhcaaaDoorW.PrintMore Go.Proofs.YtefhpdcafdhcaaaDoor Go.Proofs.YtefhpdcafdhcaaaDoor.A
theorem new_at {w : World} {g : Nat} (o : Obj) (hg : g = w.heap.size) : (w.alloc o).heap[g]? = some o := by
 subst hg; exact Go.heap_alloc_new _ _
end Go.Proofs.YtefhpdcafdhcaaaDoor.B
end
section
namespace LexM
abbrev By := UInt8
def letter (c : By) : Bool := (decide (97 ≤ c.toNat) && decide (c.toNat ≤ 122)) || (decide (65 ≤ c.toNat) && decide (c.toNat ≤ 90))
def digit (c : By) : Bool := decide (48 ≤ c.toNat) && decide (c.toNat ≤ 57)
def inner (c : By) : Bool := letter c || digit c || c == 95
def words : List (List By) := [[102, 117, 110, 99], [107, 101, 114, 110, 101, 108], [98, 117, 102, 102, 101, 114], [105, 110, 116], [115, 104, 97, 114, 101, 100], [108, 101, 116], [105, 102], [101, 108, 115, 101], [119, 104, 105, 108, 101], [98, 114, 101, 97, 107], [99, 111, 110, 116, 105, 110, 117, 101], [114, 101, 116, 117, 114, 110], [98, 97, 114, 114, 105, 101, 114], [97, 116, 111, 109, 105, 99], [99, 111, 108, 108, 101, 99, 116], [116, 105, 100], [98, 105, 100], [100, 105, 109], [103, 114, 105, 100], [109, 105, 110], [109, 97, 120], [97, 100, 100], [97, 110, 100], [111, 114], [120, 111, 114]]
def isName (l : List By) : Bool := (match l with
 | [] => false
 | c :: _ => letter c) && l.all inner && decide (l.length ≤ 16) && !(words.contains l)
end LexM
end
section
namespace Go.Proofs.YtefhpdcafdhcaaaDoor.B
open Go Go.RowKit Go.Shelf Go.Proofs.YtefhpdcafdhcaaaDoorW.PrintWords Go.Proofs.YtefhpdcafdhcaaaDoorW.PrintLast Go.Proofs.YtefhpdcafdhcaaaDoorW.PrintMore Go.Proofs.YtefhpdcafdhcaaaDoor Go.Proofs.YtefhpdcafdhcaaaDoor.A
open Go.Maps (Keyed)
theorem law : Keyed Tryd.prog 9 := Go.Maps.string_keyed Tryd.underlying9
def wbytes : ByteArray := ⟨([102, 117, 110, 99, 32, 107, 101, 114, 110, 101, 108, 32, 98, 117, 102, 102, 101, 114, 32, 105, 110, 116, 32, 115, 104, 97, 114, 101, 100, 32, 108, 101, 116, 32, 105, 102, 32, 101, 108, 115, 101, 32, 119, 104, 105, 108, 101, 32, 98, 114, 101, 97, 107, 32, 99, 111, 110, 116, 105, 110, 117, 101, 32, 114, 101, 116, 117, 114, 110, 32, 98, 97, 114, 114, 105, 101, 114, 32, 97, 116, 111, 109, 105, 99, 32, 99, 111, 108, 108, 101, 99, 116, 32, 116, 105, 100, 32, 98, 105, 100, 32, 100, 105, 109, 32, 103, 114, 105, 100, 32, 109, 105, 110, 32, 109, 97, 120, 32, 97, 100, 100, 32, 97, 110, 100, 32, 111, 114, 32, 120, 111, 114] : List UInt8).toArray⟩
theorem wfields : (Lib.fields wbytes.data.toList) = LexM.words := by decide +kernel
def WordsD {H : Type} (D : DataW H) (j : Nat) : Prop := ∀ l : List UInt8, D.atKey (.string l) (.lit (.bool false)) = .lit (.bool ((LexM.words.take j).contains l))
theorem wascii : ∀ (j : Nat) b, wbytes.data.toList[j]? = some b → b.toNat < 128 := fun j b h => by
 have : ∀ b ∈ wbytes.data.toList, b.toNat < 128 := by decide +kernel
 exact this b (List.mem_of_getElem? h)
theorem words_calls {H : Type} (w : World) (hT : Tab w) : Calls Tryd.prog 83 #[] w fun e w' => ∃ (mb n : Nat) (D : DataW H), e = .returned (.map (some mb)) ∧ w.heap.size ≤ mb ∧ w'.ownsMap Tryd.prog 9 (plainElem Tryd.prog 4) mb n D ∧ WordsD D 25 ∧ Below w.heap.size w w' := by
 have cF := fields_calls wbytes (w.alloc (.map #[] 0)) (by decide) wascii (hT.below (below_alloc (Below.refl _ _) _))
 rw [wfields, show LexM.words.length = 25 from rfl] at cF; have hmm := @run_makeMap Tryd.prog; go_enter Tryd.func83, Tryd.ntmps83
 go_wp2_with (first | (go_at_call 90; refine cF.mono ?_; rintro e w' ⟨rfl, rfl⟩))
 clear cF hmm; go_loopg [7] 25 (fun g q wx => ∃ (j : Nat) (D : DataW H), j + g = 25 ∧ q = .int .i64 j ∧ Aside0 (WordsD D j) ∧ Aside0 (wx.ownsMap Tryd.prog 9 (plainElem Tryd.prog 4) w.heap.size j D) ∧ Aside0 (((w.alloc (.map #[] 0)).alloc (.cells (LexM.words.map fun l => Value.string ⟨l.toArray⟩).toArray 9)).grownBy wx (some w.heap.size)))
 case atStart => exact ⟨0, .map [], by omega, rfl, ⟨fun l => rfl⟩, ⟨(World.ownsMap_made _ _ _ _).alloc _⟩, ⟨World.grownBy.refl _ _⟩⟩
 case round => (
 obtain ⟨j, D, hj, rfl, HD, HM, HG⟩ := hrel; cases gk with
 | zero => (
 obtain rfl : j = 25 := by omega
 go_wp2
 go_ret
 refine ⟨w.heap.size, rfl, Nat.le_refl _, ?_⟩
 exact ⟨25, D, HM.out, HD.out, (below_alloc (below_alloc (Below.refl _ _) _) _).grown HG.out (by simp; omega) (fun k hk => by injection hk with hk; omega)⟩)
 | succ gk => (
 have hjl : j < 25 := by omega
 obtain ⟨l, hl⟩ : ∃ l : List UInt8, l = LexM.words[j]'(show j < LexM.words.length from hjl) := ⟨_, rfl⟩; obtain ⟨x, hx⟩ : ∃ x : ByteArray, x = ⟨l.toArray⟩ := ⟨_, rfl⟩; have hcell : wr.cell? ⟨w.heap.size + 1, j, none⟩ = some (.string x) := by {
 refine cell_grown HG.out ((blk_cell (new_at _ (by simp)) j).trans ?_) (by simp)
 rw [hx, hl]; rw [List.getElem?_toArray, List.getElem?_map, List.getElem?_eq_getElem (show j < LexM.words.length from hjl)]; rfl}
 have hxl : x.data.toList = l := by rw [hx]
 have hxs : x.size ≤ maxLen := by {
 have h1 : ∀ l ∈ LexM.words, l.length ≤ 10 := by decide
 have y := h1 l (hl ▸ List.getElem_mem (show j < LexM.words.length from hjl)); rw [← hxl, data_length] at y; unfold maxLen; omega}
 have hkey : keyOf Tryd.prog 9 (.string x) = some (.string x.data.toList) := Go.WideMaps.keyOf_string_mk Tryd.underlying9 hxs
 clear hx; go_wp2_with (first | (at_mapUpdate; refine wpList_mapUpdate_own _ rfl _ _ _ 108 rfl 9 4 law Tryd.underlying108 _ w.heap.size j _ rfl HM.out (by unfold maxLen; omega) _ _ _ rfl rfl hkey _ [] (plainElem_bool Tryd.underlying4 true) ?_; intro w1 b p))
 go_roundg gk
 case rel => (
 refine ⟨j + 1, _, by omega, by go_num, ⟨fun l' => ?_⟩, ⟨b⟩, ⟨HG.out.trans p⟩⟩
 have ht : LexM.words.take (j + 1) = LexM.words.take j ++ [l] := by rw [List.take_succ_eq_append_getElem (show j < LexM.words.length from hjl), hl]
 have hKl : WideAt.IsKeyLit (.string x.data.toList) := law.key hkey
 by_cases e : l' = l
 ·subst e; rw [ht, ← hxl, Maps.atKey_put_same HM.out.isMap hKl]; simp
 {
 have z : (Lit.string l') ≠ Lit.string x.data.toList := fun h => e (by rw [hxl] at h; injection h)
 rw [Maps.atKey_put_other z, HD.out l', ht]; simp [e]})
 case measure => omega))
end Go.Proofs.YtefhpdcafdhcaaaDoor.B
end
section
namespace Go.Proofs.YtefhpdcafdhcaaaDoor.B
open Go Go.RowKit Go.Proofs.YtefhpdcafdhcaaaDoorW.PrintWords Go.Proofs.YtefhpdcafdhcaaaDoor Go.Proofs.YtefhpdcafdhcaaaDoor.A
def lex_isWord.f (b : ByteArray) : Option Bool := if b.size ≤ maxLen then some (LexM.words.contains b.data.toList) else none
theorem look_word {H : Type} {w : World} {mb n : Nat} {D : DataW H} (hown : w.ownsMap Tryd.prog 9 (plainElem Tryd.prog 4) mb n D) (hD : WordsD D 25) (s : ByteArray) (hs : s.size ≤ maxLen) :
  (Instr.lookup 108 (.map (some mb)) (.string s) false).run Tryd.prog w = .ok (.bool (LexM.words.contains s.data.toList)) w := by
 obtain ⟨v, ps, hrun, hv⟩ := hown.lookup law Tryd.underlying108 (z := .bool false) rfl (plainElem_bool Tryd.underlying4 false) (Go.WideMaps.keyOf_string_mk Tryd.underlying9 hs); rw [hD] at hv; rw [show LexM.words.take 25 = LexM.words from rfl] at hv; rw [hrun]; congr 1
 unfold plainElem at hv
 cases v <;> simp_all
def Known (w : World) (mb : Nat) : Prop := ∃ (n : Nat) (D : DataW Unit), w.ownsMap Tryd.prog 9 (plainElem Tryd.prog 4) mb n D ∧ WordsD D 25
theorem words_known (w : World) (hT : Tab w) : Calls Tryd.prog 83 #[] w fun e w' => ∃ mb : Nat, e = .returned (.map (some mb)) ∧ w.heap.size ≤ mb ∧ Known w' mb ∧ Below w.heap.size w w' :=
 (words_calls (H := Unit) w hT).mono fun _ _ ⟨mb, n, D, he, hl, ho, hD, hb⟩ => ⟨mb, he, hl, ⟨n, D, ho, hD⟩, hb⟩
end Go.Proofs.YtefhpdcafdhcaaaDoor.B
namespace Go.Proofs.YtefhpdcafdhcaaaDoor.B
open Go Go.RowKit Go.Proofs.YtefhpdcafdhcaaaDoorW.PrintWords Go.Proofs.YtefhpdcafdhcaaaDoor Go.Proofs.YtefhpdcafdhcaaaDoor.A
def lex_words.f : Option Int := some 0
end Go.Proofs.YtefhpdcafdhcaaaDoor.B
namespace Go.Proofs.YtefhpdcafdhcaaaDoor.B
open Go Go.RowKit Go.Proofs.YtefhpdcafdhcaaaDoorW.PrintWords Go.Proofs.YtefhpdcafdhcaaaDoor Go.Proofs.YtefhpdcafdhcaaaDoor.A
theorem known_run {w : World} {mb : Nat} (hk : Known w mb) (s : ByteArray) {b : Bool} (hb : lex_isWord.f s = some b) : (Instr.lookup 108 (.map (some mb)) (.string s) false).run Tryd.prog w = .ok (.bool b) w := by
 unfold lex_isWord.f at hb
 by_cases hs : s.size ≤ maxLen
 case neg => rw [if_neg hs] at hb; cases hb
 rw [if_pos hs] at hb; obtain rfl := Option.some.inj hb; obtain ⟨n, D, ho, hD⟩ := hk; exact look_word ho hD s hs
end Go.Proofs.YtefhpdcafdhcaaaDoor.B
end
section
namespace Go.Proofs.YtefhpdcafdhcaaaDoor.N
open Go.RowKit Go.Proofs.YtefhpdcafdhcaaaDoorW.PrintWords Go.Proofs.YtefhpdcafdhcaaaDoorW.PrintLast Go.Proofs.YtefhpdcafdhcaaaDoorW.PrintMore Go.Proofs.YtefhpdcafdhcaaaDoor Go.Proofs.YtefhpdcafdhcaaaDoor.A Go.Proofs.YtefhpdcafdhcaaaDoor.B
set_option linter.unusedVariables false
set_option linter.unusedSimpArgs false
def lex_letter.f (b : Int) : Option (Bool) := if b ≥ 97 then (if b ≤ 122 then (some true) else (if b ≥ 65 then (some (decide (b ≤ 90))) else (some false))) else (if b ≥ 65 then (some (decide (b ≤ 90))) else (some false))
theorem lex_letter.calls (b : Int) (r : Bool) (w : World) (h : lex_letter.f b = some r) :
  Calls Tryd.prog 82 #[.int .u8 b] w fun e w' => e = .returned (.bool r) ∧ Drawn0 w w' := by
 have H : (if b ≥ 97 then (if b ≤ 122 then (some true) else (if b ≥ 65 then (some (decide (b ≤ 90))) else (some false))) else (if b ≥ 65 then (some (decide (b ≤ 90))) else (some false))) = some r := h
 clear h; rcases q_ite H with ⟨c2b0, H⟩ | ⟨c2b0, H⟩
 {
 rcases q_ite H with ⟨c3b0, H⟩ | ⟨c3b0, H⟩
 {
 obtain rfl := Option.some.inj H; go_enter Tryd.func82, Tryd.ntmps82
 go_wp2
 go_ret
 exact ⟨by first | rfl | (simp; done) | (simp [*]; done), by repeat (first | exact Drawn0.refl _ | apply Drawn0.step)⟩}
 {
 rcases q_ite H with ⟨c4b0, H⟩ | ⟨c4b0, H⟩
 {
 obtain rfl := Option.some.inj H; go_enter Tryd.func82, Tryd.ntmps82
 go_wp2
 go_ret
 exact ⟨by first | rfl | (simp; done) | (simp [*]; done), by repeat (first | exact Drawn0.refl _ | apply Drawn0.step)⟩}
 {
 obtain rfl := Option.some.inj H; go_enter Tryd.func82, Tryd.ntmps82
 go_wp2
 go_ret
 exact ⟨by first | rfl | (simp; done) | (simp [*]; done), by repeat (first | exact Drawn0.refl _ | apply Drawn0.step)⟩}}}
 {
 rcases q_ite H with ⟨c5b0, H⟩ | ⟨c5b0, H⟩
 {
 obtain rfl := Option.some.inj H; go_enter Tryd.func82, Tryd.ntmps82
 go_wp2
 go_ret
 exact ⟨by first | rfl | (simp; done) | (simp [*]; done), by repeat (first | exact Drawn0.refl _ | apply Drawn0.step)⟩}
 {
 obtain rfl := Option.some.inj H; go_enter Tryd.func82, Tryd.ntmps82
 go_wp2
 go_ret
 exact ⟨by first | rfl | (simp; done) | (simp [*]; done), by repeat (first | exact Drawn0.refl _ | apply Drawn0.step)⟩}}
def lex_digit.f (b : Int) : Option (Bool) := if b ≥ 48 then (some (decide (b ≤ 57))) else (some false)
theorem lex_digit.calls (b : Int) (r : Bool) (w : World) (h : lex_digit.f b = some r) :
  Calls Tryd.prog 91 #[.int .u8 b] w fun e w' => e = .returned (.bool r) ∧ Drawn0 w w' := by
 have H : (if b ≥ 48 then (some (decide (b ≤ 57))) else (some false)) = some r := h
 clear h; rcases q_ite H with ⟨c2b0, H⟩ | ⟨c2b0, H⟩
 {
 obtain rfl := Option.some.inj H; go_enter Tryd.func91, Tryd.ntmps91
 go_wp2
 go_ret
 exact ⟨by first | rfl | (simp; done) | (simp [*]; done), by repeat (first | exact Drawn0.refl _ | apply Drawn0.step)⟩}
 {
 obtain rfl := Option.some.inj H; go_enter Tryd.func91, Tryd.ntmps91
 go_wp2
 go_ret
 exact ⟨by first | rfl | (simp; done) | (simp [*]; done), by repeat (first | exact Drawn0.refl _ | apply Drawn0.step)⟩}
def lex_inner.f (p : Int) : Option (Bool) := (lex_letter.f p).bind fun b => (if b = true then (some true) else ((lex_digit.f p).bind fun l => (if l = true then (some true) else (some (p == 95)))))
theorem lex_inner.calls (b : Int) (r : Bool) (w : World) (h : lex_inner.f b = some r) :
  Calls Tryd.prog 84 #[.int .u8 b] w fun e w' => e = .returned (.bool r) ∧ Drawn0 w w' := by
 have H : ((lex_letter.f b).bind fun l => (if l = true then (some true) else ((lex_digit.f b).bind fun p => (if p = true then (some true) else (some (b == 95)))))) = some r := h
 clear h; replace H := Option.bind_eq_some_iff.mp H; obtain ⟨l, q, H⟩ := H; have C := a_ q; clear q; by_cases z : l = true
 {
 subst z; rw [if_pos rfl] at H; obtain rfl := Option.some.inj H; go_enter Tryd.func84, Tryd.ntmps84
 go_wp2_with (first | ((with_reducible refine gc_ 82 rfl ?_); refine q_gl 4 #[.int .u8 b] Tryd.func82 rfl ?_; (with_reducible refine (lex_letter.calls b true _ C.out).mono ?_); rintro e w' ⟨rfl, ⟨B, rfl⟩⟩; refine ⟨_, rfl, ?_⟩))
 go_ret
 exact ⟨by first | rfl | (simp; done) | (simp [*]; done), by repeat (first | exact Drawn0.refl _ | apply Drawn0.step)⟩}
 {
 replace z := Bool.eq_false_iff.mpr z; subst z; rw [if_neg Bool.false_ne_true] at H; replace H := Option.bind_eq_some_iff.mp H; obtain ⟨p, y, H⟩ := H; have D := a_ y; clear y; by_cases c5 : p = true
 {
 subst c5; rw [if_pos rfl] at H; obtain rfl := Option.some.inj H; go_enter Tryd.func84, Tryd.ntmps84
 go_wp2_with (first | ((with_reducible refine gc_ 82 rfl ?_); refine q_gl 4 #[.int .u8 b] Tryd.func82 rfl ?_; (with_reducible refine (lex_letter.calls b false _ C.out).mono ?_); rintro e w' ⟨rfl, ⟨B, rfl⟩⟩; refine ⟨_, rfl, ?_⟩) | (go_at_call 91; (with_reducible refine (lex_digit.calls b true _ D.out).mono ?_); rintro e w' ⟨rfl, ⟨B, rfl⟩⟩))
 go_ret
 exact ⟨by first | rfl | (simp; done) | (simp [*]; done), by repeat (first | exact Drawn0.refl _ | apply Drawn0.step)⟩}
 {
 replace c5 := Bool.eq_false_iff.mpr c5; subst c5; rw [if_neg Bool.false_ne_true] at H; obtain rfl := Option.some.inj H; go_enter Tryd.func84, Tryd.ntmps84
 go_wp2_with (first | ((with_reducible refine gc_ 82 rfl ?_); refine q_gl 4 #[.int .u8 b] Tryd.func82 rfl ?_; (with_reducible refine (lex_letter.calls b false _ C.out).mono ?_); rintro e w' ⟨rfl, ⟨B, rfl⟩⟩; refine ⟨_, rfl, ?_⟩) | (go_at_call 91; (with_reducible refine (lex_digit.calls b false _ D.out).mono ?_); rintro e w' ⟨rfl, ⟨B, rfl⟩⟩))
 go_ret
 exact ⟨by first | rfl | (simp; done) | (simp [*]; done), by repeat (first | exact Drawn0.refl _ | apply Drawn0.step)⟩}}
mutual
def lex_Name.j0 : Nat → ByteArray → Bool → Option (Bool)
 | 0, _, _ => none
 | k + 1, l, y => if y = true then (some false) else (lex_Name.l0 k l (l.size : Int) 0)
def lex_Name.l0 : Nat → ByteArray → Int → Int → Option (Bool)
 | 0, _, _, _ => none
 | k + 1, l, p, b => if b < p then (if 0 ≤ b then (if b < (l.size : Int) then ((lex_inner.f (bt l b)).bind fun q => (if q = true then (lex_Name.l0 k l p (wrap64 (b + 1))) else (some false))) else (none)) else (none)) else (some true)
end
def lex_Name.f (k : Nat) (b : ByteArray) : Option (Bool) := if b.toList = ([] : List UInt8) then (lex_Name.j0 k b true) else (if (b.size : Int) > 16 then (lex_Name.j0 k b true) else (if 0 < (b.size : Int) then ((lex_letter.f (bt b 0)).bind fun l => (if l = true then ((lex_words.f).bind fun q => ((lex_isWord.f b).bind fun p => (lex_Name.j0 k b p))) else (lex_Name.j0 k b true))) else (none)))
theorem lex_Name.calls (k : Nat) (l : ByteArray) (r : Bool) (w : World) (h : lex_Name.f k l = some r) (hT : Tab w) :
  Calls Tryd.prog 72 #[.string l] w fun e w' => e = .returned (.bool r) ∧ Below w.heap.size w w' := by
 have HT := a_ hT; clear hT; have q := a_ (Below.refl w.heap.size w); have H : (if l.toList = ([] : List UInt8) then (lex_Name.j0 k l true) else (if (l.size : Int) > 16 then (lex_Name.j0 k l true) else (if 0 < (l.size : Int) then ((lex_letter.f (bt l 0)).bind fun z => (if z = true then ((lex_words.f).bind fun M => ((lex_isWord.f l).bind fun B => (lex_Name.j0 k l B))) else (lex_Name.j0 k l true))) else (none)))) = some r := h
 clear h; have J := a_ H; clear H; go_enter Tryd.func72, Tryd.ntmps72
 go_upto_region 1 with (fail)
 go_cut [21] (fun a4 wc => ∃ (kq : Nat) (p : Bool), a4 = .bool p ∧ Aside0 (lex_Name.j0 kq l p = some r) ∧ Aside0 (kq ≤ k) ∧ Aside0 (Below w.heap.size w wc))
 case first => (
 have H := J.out; clear J; by_cases L : l.toList = ([] : List UInt8)
 {
 rw [if_pos L] at H; have c3b0 : (l.toList == ([] : List UInt8)) = true := beq_iff_eq.mpr L
 have c3b1 : (l.toList != ([] : List UInt8)) = false := bne_eq_false_iff_eq.mpr L
 clear L; (first | rw [c3b0] | (simp only [i64_w, i32_w]; rw [c3b0]) | skip)
 have y := a_ H
 clear H; go_wp2
 go_meet
 case rel => exact ⟨_, (true), q_r, y, ⟨by first | omega | exact Nat.le_refl _⟩, ⟨q_w q.out⟩⟩}
 {
 rw [if_neg L] at H; have c3b0 : (l.toList == ([] : List UInt8)) = false := beq_eq_false_iff_ne.mpr L
 have c3b1 : (l.toList != ([] : List UInt8)) = true := bne_iff_ne.mpr L
 (first | rw [c3b0] | (simp only [i64_w, i32_w]; rw [c3b0]) | skip)
 replace H := q_iD H; rcases H with ⟨c4, c4b0, H⟩ | ⟨c4, c4b0, H⟩
 {
 have c4b1 : decide (16 < l.size) = true := decide_eq_true (by omega)
 clear c4; have y := a_ H
 clear H; go_wp2
 go_meet
 case rel => exact ⟨_, (true), q_r, y, ⟨by first | omega | exact Nat.le_refl _⟩, ⟨q_w q.out⟩⟩}
 {
 have c4b1 : decide (16 < l.size) = false := decide_eq_false (by omega)
 clear c4; replace H := q_gD H; obtain ⟨c5, c5b0, H⟩ := H; have c5b1 : decide (0 < l.size) = true := decide_eq_true (by omega)
 clear c5; replace H := Option.bind_eq_some_iff.mp H; obtain ⟨z, N, H⟩ := H; have A7 := a_ N; clear N; by_cases c8 : z = true
 {
 subst c8; rw [if_pos rfl] at H; replace H := Option.bind_eq_some_iff.mp H; obtain ⟨M, O, H⟩ := H; have A9 := a_ O; clear O; replace H := Option.bind_eq_some_iff.mp H; obtain ⟨B, G, H⟩ := H; have R := a_ G; clear G; have y := a_ H
 clear H; have p6 : 0 ≤ (0 : Int) := (by omega)
 have S : 0 < l.size := (by have : (0 : Int) < (l.size : Int) := q_d; omega)
 have a7 : ∀ h : 0 < l.size, ((l[0]'h).toNat : Int) = bt l 0 := bt_at l 0
 clear p6; have a8 : (0 < (l.size : Int)) = True := eq_true (q_d)
 replace S := eq_true S; go_wp2_with (first | (go_at_call 82; (with_reducible refine (lex_letter.calls (bt l 0) true _ A7.out).mono ?_); rintro e w' ⟨rfl, ⟨nd, rfl⟩⟩) | (go_at_call 83; (with_reducible refine (words_known _ (HT.out.below (q_w q.out))).mono ?_); rintro e b2 ⟨mb, rfl, hmb_, hkn_, hb⟩; have HKn := a_ hkn_; clear hkn_ hmb_; have hlk_ := known_run HKn.out l R.out; replace q := a_ (q_st q.out hb); (clear hb)) | (at_lookup; refine known_look rfl _ _ rfl _ rfl HKn.out _ rfl _ R.out ?_))
 go_meet
 case rel => exact ⟨_, (B), q_r, y, ⟨by first | omega | exact Nat.le_refl _⟩, ⟨q_w q.out⟩⟩}
 {
 replace c8 := Bool.eq_false_iff.mpr c8; subst c8; rw [if_neg Bool.false_ne_true] at H; have y := a_ H
 clear H; have p6 : 0 ≤ (0 : Int) := (by omega)
 have S : 0 < l.size := (by have : (0 : Int) < (l.size : Int) := q_d; omega)
 have a7 : ∀ h : 0 < l.size, ((l[0]'h).toNat : Int) = bt l 0 := bt_at l 0
 clear p6; have a8 : (0 < (l.size : Int)) = True := eq_true (q_d)
 replace S := eq_true S; go_wp2_with (first | (go_at_call 82; (with_reducible refine (lex_letter.calls (bt l 0) false _ A7.out).mono ?_); rintro e w' ⟨rfl, ⟨nd, rfl⟩⟩))
 go_meet
 case rel => exact ⟨_, (true), q_r, y, ⟨by first | omega | exact Nat.le_refl _⟩, ⟨q_w q.out⟩⟩}}})
 case rest => (
 clear J; obtain ⟨kq, p, rfl, HA, T, q⟩ := hcut; cases kq with
 | zero => exact absurd HA.out (by simp [lex_Name.j0])
 | succ U => (
 have H := HA.out; clear HA; simp only [lex_Name.j0] at H
 by_cases E : p = true
 {
 subst E; rw [if_pos rfl] at H; obtain rfl := Option.some.inj H; go_wp2
 go_ret
 exact ⟨q_e, q_w q.out⟩}
 {
 replace E := Bool.eq_false_iff.mpr E; subst E; rw [if_neg Bool.false_ne_true] at H; have y := a_ H
 clear H; go_wp2
 go_loopg [24] U (fun kq b0 w' => ∃ (b : Int), b0 = .int .i64 b ∧ Aside0 (lex_Name.l0 kq l (l.size : Int) b = some r) ∧ Aside0 (kq ≤ U) ∧ Aside0 (Below w.heap.size w w'))
 case atStart => exact ⟨(0), q_r, y, ⟨Nat.le_refl _⟩, ⟨q_w q.out⟩⟩
 case round => (
 clear y; obtain ⟨b, rfl, HA, V, q⟩ := hrel; cases gk with
 | zero => exact absurd HA.out (by simp [lex_Name.l0])
 | succ k2 => (
 have H := HA.out; clear HA; simp only [lex_Name.l0] at H
 rcases q_ite H with ⟨c13b0, H⟩ | ⟨c13b0, H⟩
 {
 replace H := q_gD H; obtain ⟨-, c14b0, H⟩ := H; replace H := q_gD H; obtain ⟨-, c15b0, H⟩ := H; replace H := Option.bind_eq_some_iff.mp H; obtain ⟨X, I, H⟩ := H; have a1 := a_ I; clear I; by_cases F : X = true
 {
 subst F; rw [if_pos rfl] at H; have y := a_ H
 clear H; have C : 0 ≤ (b : Int) := q_d
 have D : b < (l.size : Int) := q_d
 have a2 := bt_at l b; replace C := eq_true C; replace D := eq_true D; go_wp2_with (first | ((with_reducible refine gc_ 84 rfl ?_); refine q_gl 30 #[.int .u8 (bt l b)] Tryd.func84 rfl ?_; (with_reducible refine (lex_inner.calls (bt l b) true _ a1.out).mono ?_); rintro e w' ⟨rfl, ⟨nd, rfl⟩⟩; refine ⟨_, rfl, ?_⟩))
 go_roundg k2
 case measure => have := T.out; have := V.out; omega
 case rel => exact ⟨(wrap64 (b + 1)), q_r, y, ⟨by have := T.out; have := V.out; omega⟩, ⟨q_w q.out⟩⟩}
 {
 replace F := Bool.eq_false_iff.mpr F; subst F; rw [if_neg Bool.false_ne_true] at H; obtain rfl := Option.some.inj H; have C : 0 ≤ (b : Int) := q_d
 have D : b < (l.size : Int) := q_d
 have a2 := bt_at l b; replace C := eq_true C; replace D := eq_true D; go_wp2_with (first | ((with_reducible refine gc_ 84 rfl ?_); refine q_gl 30 #[.int .u8 (bt l b)] Tryd.func84 rfl ?_; (with_reducible refine (lex_inner.calls (bt l b) false _ a1.out).mono ?_); rintro e w' ⟨rfl, ⟨nd, rfl⟩⟩; refine ⟨_, rfl, ?_⟩))
 go_ret
 exact ⟨q_e, q_w q.out⟩}}
 {
 obtain rfl := Option.some.inj H; go_wp2
 go_ret
 exact ⟨q_e, q_w q.out⟩}))}))
end Go.Proofs.YtefhpdcafdhcaaaDoor.N
end
section
namespace Go.Proofs.YtefhpdcafdhcaaaDoor.M
open Go Go.RowKit Go.Proofs.YtefhpdcafdhcaaaDoorW.PrintWords Go.Proofs.YtefhpdcafdhcaaaDoorW.PrintLast Go.Proofs.YtefhpdcafdhcaaaDoorW.PrintMore Go.Proofs.YtefhpdcafdhcaaaDoor.A Go.Proofs.YtefhpdcafdhcaaaDoor.B Go.Proofs.YtefhpdcafdhcaaaDoor.N
open LexM (letter digit inner words)
def Evt {α : Type} (f : Nat → Option α) (r : α) : Prop := ∃ K, ∀ k, K ≤ k → f k = some r
section
variable {α β : Type} {f g : Nat → Option α} {r a : α} {b : β}
theorem Evt.const (r : α) : Evt (fun _ => some r) r := ⟨0, fun _ _ => rfl⟩
theorem Evt.succ (h : Evt (fun k => f (k + 1)) r) : Evt f r := by
 obtain ⟨K, h⟩ := h; refine ⟨K + 1, fun k hk => ?_⟩
 obtain ⟨j, rfl⟩ : ∃ j, k = j + 1 := ⟨k - 1, by omega⟩
 exact h j (by omega)
theorem Evt.bind {h : Nat → α → Option β} (h1 : Evt f a) (l : Evt (fun k => h k a) b) : Evt (fun k => (f k).bind (h k)) b := by
 obtain ⟨K, h1⟩ := h1; obtain ⟨L, l⟩ := l; refine ⟨max K L, fun k hk => ?_⟩
 simp only [h1 k (by omega), Option.bind_some]
 exact l k (by omega)
theorem Evt.pos {c : Prop} [Decidable c] (hc : c) (h : Evt f r) : Evt (fun k => if c then f k else g k) r := by
 simpa only [if_pos hc] using h
theorem Evt.neg {c : Prop} [Decidable c] (hc : ¬ c) (h : Evt g r) : Evt (fun k => if c then f k else g k) r := by
 simpa only [if_neg hc] using h
theorem Evt.uniq {r' : α} (h : Evt f r) (h' : Evt f r') : r = r' := by
 obtain ⟨K, h⟩ := h; obtain ⟨L, h'⟩ := h'; have h1 := h (max K L) (by omega)
 have b := h' (max K L) (by omega)
 rw [h1] at b; exact Option.some.inj b
theorem Evt.of_mono (hm : ∀ k, LeO (f k) (f (k + 1))) {k : Nat} (h : f k = some r) : Evt f r := by
 refine ⟨k, fun j hj => ?_⟩
 obtain ⟨d, rfl⟩ := Nat.exists_eq_add_of_le hj; induction d with
 | zero => exact h
 | succ d ih => exact hm _ r (ih (by omega))
theorem Evt.get (h : Evt f r) : ∃ k, f k = some r := by
 obtain ⟨K, h⟩ := h; exact ⟨K, h K (Nat.le_refl _)⟩
end
theorem wrap64_id {x : Int} (b : -9223372036854775808 ≤ x) (h1 : x < 9223372036854775808) : wrap64 x = x := by
 unfold wrap64; omega
theorem wrap_succ (i : Nat) (h : i < 9223372036854775807) : wrap64 ((i : Int) + 1) = ((i + 1 : Nat) : Int) := by
 rw [wrap64_id (by omega) (by omega)]; omega
abbrev bs (s : ByteArray) : List UInt8 := s.data.toList
theorem bs_len (s : ByteArray) : (bs s).length = s.size := data_length s
theorem bt_nat (s : ByteArray) (i : Nat) (h : i < s.size) : bt s (i : Int) = ((bs s)[i]'(by rw [bs_len]; exact h)).toNat := by
 unfold bt
 rw [dif_pos (by simpa using h)]
 simp only [Int.toNat_natCast, bs, Array.getElem_toList]
 rfl
theorem bt_drop (s : ByteArray) (i : Nat) {c : UInt8} {l : List UInt8} (h : (bs s).drop i = c :: l) : i < s.size ∧ bt s (i : Int) = c.toNat := by
 have hi : i < (bs s).length := by
  rcases Nat.lt_or_ge i (bs s).length with h1 | h1
  ·exact h1
  ·rw [List.drop_of_length_le h1] at h; cases h
 have e := List.drop_eq_getElem_cons hi; rw [h] at e; injection e with b _
 rw [bs_len] at hi; exact ⟨hi, by rw [bt_nat s i hi, b]⟩
theorem bt_end (s : ByteArray) (i : Nat) (h : (bs s).drop i = []) : s.size ≤ i := by
 have := congrArg List.length h
 rw [List.length_drop, bs_len] at this; simp at this
 omega
theorem drop_next {s : ByteArray} {i : Nat} {c : UInt8} {l : List UInt8} (h : (bs s).drop i = c :: l) : (bs s).drop (i + 1) = l := by
 have := congrArg List.tail h
 simpa [List.tail_drop] using this
theorem letter_r (c : UInt8) : r2_letter.f (c.toNat : Int) = some (letter c) := by
 unfold r2_letter.f letter
 have b : ((c.toNat : Int) ≥ 97) ↔ 97 ≤ c.toNat := by omega
 have l : ((c.toNat : Int) ≤ 122) ↔ c.toNat ≤ 122 := by omega
 have p : ((c.toNat : Int) ≥ 65) ↔ 65 ≤ c.toNat := by omega
 have q : ((c.toNat : Int) ≤ 90) ↔ c.toNat ≤ 90 := by omega
 simp only [b, l, p, q]
 by_cases h1 : 97 ≤ c.toNat <;> by_cases y : c.toNat ≤ 122 <;> by_cases z : 65 ≤ c.toNat <;> simp [h1, y, z]
theorem digit_r (c : UInt8) : r2_digit.f (c.toNat : Int) = some (digit c) := by
 unfold r2_digit.f digit
 by_cases h1 : 48 ≤ c.toNat <;> by_cases b : c.toNat ≤ 57 <;> (repeat' split) <;> simp_all <;> omega
theorem eq_byte (c : UInt8) (n : Nat) (hn : n < 256) : ((c.toNat : Int) = (n : Int)) ↔ c = UInt8.ofNat n := by
 constructor
 {
 intro h
 have b : c.toNat = n := by omega
 apply UInt8.toNat_inj.1
 rw [b, UInt8.toNat_ofNat']; omega}
 {
 rintro rfl
 rw [UInt8.toNat_ofNat']; have : n % 2 ^ 8 = n := by omega
 omega}
theorem beq_byte (c : UInt8) (n : Nat) (hn : n < 256) : ((c.toNat : Int) == (n : Int)) = (c == UInt8.ofNat n) := by
 rw [Bool.eq_iff_iff]; simp only [beq_iff_eq]
 exact eq_byte c n hn
theorem inner_r (c : UInt8) : r2_Inner.f (c.toNat : Int) = some (inner c) := by
 unfold r2_Inner.f inner
 rw [letter_r, digit_r]; have h := beq_byte c 95 (by omega)
 cases letter c <;> cases digit c <;> simp_all
theorem rdOf_nat {α : Type} (d : α) (xs : List α) (i : Nat) (h : i < xs.length) : rdOf d xs (i : Int) = xs[i] := by simp [rdOf, h]
theorem in_ev (s : ByteArray) (L : List ByteArray) (hL : L.length ≤ 100000) : ∀ (m j : Nat), j + m = L.length → Evt (fun k => r2_In.l0 k s L (j : Int)) (decide (bs s ∈ (L.drop j).map bs))
 | 0, j, hm => by {
 refine Evt.succ ?_
 simp only [r2_In.l0]
 rw [List.drop_of_length_le (show L.length ≤ j by omega)]
 exact Evt.neg (by omega) (Evt.const _)}
 | m + 1, j, hm => by {
 have ih := in_ev s L hL m (j + 1) (by omega)
 have hj : j < L.length := by omega
 refine Evt.succ ?_
 simp only [r2_In.l0, rdOf_nat ByteArray.empty L j hj, wrap_succ j (by omega), ByteArray.toList_eq]
 refine Evt.pos (by omega) (Evt.pos (by omega) ?_)
 rw [List.drop_eq_getElem_cons hj, List.map_cons]; by_cases e : L[j].data.toList = s.data.toList
 {
 have : bs s ∈ bs L[j] :: (L.drop (j + 1)).map bs := by rw [show bs s = bs L[j] from e.symm]; exact List.mem_cons_self
 rw [decide_eq_true this]; exact Evt.pos e (Evt.const _)}
 {
 have : (bs s ∈ bs L[j] :: (L.drop (j + 1)).map bs) ↔ bs s ∈ (L.drop (j + 1)).map bs := by rw [List.mem_cons]; exact ⟨fun h => h.resolve_left (fun h => e h.symm), .inr⟩
 simp only [this]
 exact Evt.neg e ih}}
theorem words_r : ∃ L, r2_Words.f = some L ∧ L.map bs = words := ⟨_, rfl, rfl⟩
theorem letter_l (c : UInt8) : lex_letter.f (c.toNat : Int) = some (letter c) := letter_r c
theorem inner_l (c : UInt8) : lex_inner.f (c.toNat : Int) = some (inner c) := inner_r c
theorem isWord_r (t : ByteArray) (h : t.size ≤ 100000) : lex_isWord.f t = some (decide (bs t ∈ words)) := by
 unfold lex_isWord.f
 rw [if_pos (by unfold maxLen; omega)]
 simp [bs]
theorem all_ev (s : ByteArray) (hs : s.size ≤ 100000) : ∀ (l : List UInt8) (i : Nat), (bs s).drop i = l → Evt (fun k => lex_Name.l0 k s (s.size : Int) (i : Int)) (l.all inner) ∧ Evt (fun k => r2_shaped.l0 k s (i : Int)) (l.all inner)
 | [], i, h => by {
 have := bt_end s i h
 constructor
 {
 refine Evt.succ ?_
 simp only [lex_Name.l0]
 exact Evt.neg (by omega) (Evt.const _)}
 {
 refine Evt.succ ?_
 simp only [r2_shaped.l0]
 exact Evt.neg (by omega) (Evt.const _)}}
 | c :: l, i, h => by {
 obtain ⟨hi, hb⟩ := bt_drop s i h; obtain ⟨b, p⟩ := all_ev s hs l (i + 1) (drop_next h); rw [List.all_cons]; constructor
 {
 refine Evt.succ ?_
 simp only [lex_Name.l0, hb, inner_l, Option.bind_some, wrap_succ i (by omega)]
 refine Evt.pos (by omega) (Evt.pos (by omega) (Evt.pos (by omega) ?_))
 cases hn : inner c with
 | true => exact Evt.pos (by first | rfl | trivial) (by simpa using b)
 | false => exact Evt.neg (by simp) (by simpa using Evt.const _)}
 {
 refine Evt.succ ?_
 simp only [r2_shaped.l0, hb, inner_r, Option.bind_some, wrap_succ i (by omega)]
 refine Evt.pos (by omega) (Evt.pos (by omega) ?_)
 cases hn : inner c with
 | true => exact Evt.pos (by first | rfl | trivial) (by simpa using p)
 | false => exact Evt.neg (by simp) (by simpa using Evt.const _)}}
theorem name_ev (s : ByteArray) (hs : s.size ≤ 100000) : Evt (fun k => lex_Name.f k s) (LexM.isName (bs s)) ∧ Evt (fun k => r2_Name.f k s) (LexM.isName (bs s)) := by
 obtain ⟨q, y⟩ := all_ev s hs (bs s) 0 List.drop_zero; have j1 : ∀ b : Bool, Evt (fun k => lex_Name.j0 k s b) (!b && (bs s).all inner) := fun b => by {
 refine Evt.succ ?_
 simp only [lex_Name.j0]
 cases b with
 | true => exact Evt.pos (by first | rfl | trivial) (Evt.const _)
 | false => exact Evt.neg (by simp) (by simpa using q)}
 have j2 : ∀ b : Bool, Evt (fun k => r2_shaped.j0 k s b) (!b && (bs s).all inner) := fun b => by {
 refine Evt.succ ?_
 simp only [r2_shaped.j0]
 cases b with
 | true => exact Evt.pos (by first | rfl | trivial) (Evt.const _)
 | false => exact Evt.neg (by simp) (by simpa using y)}
 obtain ⟨WL, hW, hWm⟩ := words_r; have hWl : WL.length ≤ 100000 := by {
 have := congrArg List.length hWm
 rw [List.length_map] at this; rw [this]; decide}
 have hin := in_ev s WL hWl WL.length 0 (Nat.zero_add _); rw [List.drop_zero, hWm] at hin; have hin : Evt (fun k => r2_In.f k s WL) (decide (bs s ∈ words)) := hin
 have hcont : words.contains (bs s) = decide (bs s ∈ words) := by simp
 cases hb : bs s with
 | nil => (
 have hz : s.data.toList = [] := hb
 have e : LexM.isName [] = false := rfl
 rw [e]; constructor
 {
 unfold lex_Name.f
 exact Evt.pos (by rw [ByteArray.toList_eq]; exact hz) (by simpa using j1 true)}
 {
 unfold r2_Name.f r2_shaped.f
 refine Evt.bind (Evt.pos (by rw [ByteArray.toList_eq]; exact hz) (by simpa using j2 true)) (Evt.neg (by simp) (Evt.const _))})
 | cons c l => (
 have hz : s.data.toList = c :: l := hb
 obtain ⟨hi, hbt⟩ := bt_drop s 0 (show (bs s).drop 0 = c :: l by rw [List.drop_zero, hb])
 have hbt : bt s 0 = c.toNat := hbt
 have hlen : (c :: l).length = s.size := by rw [← hb, bs_len]
 have hne : ¬ s.toList = [] := by rw [ByteArray.toList_eq, hz]; simp
 rw [hb] at j1 j2 hin hcont
 constructor
 {
 unfold lex_Name.f
 refine Evt.neg hne ?_
 by_cases p : s.size > 16
 {
 have e : LexM.isName (c :: l) = false := by {
 simp only [LexM.isName, hlen]
 rw [decide_eq_false (show ¬ s.size ≤ 16 by omega)]
 simp}
 rw [e]; exact Evt.pos (by omega) (by simpa using j1 true)}
 {
 refine Evt.neg (by omega) (Evt.pos (by omega) ?_)
 rw [hbt, letter_l]; simp only [Option.bind_some]
 cases hc : letter c with
 | false => (
 have e : LexM.isName (c :: l) = false := by simp [LexM.isName, hc]
 rw [e]; exact Evt.neg (by simp) (by simpa using j1 true))
 | true => (
 refine Evt.pos (by first | rfl | trivial) ?_
 rw [isWord_r s hs, hb]; simp only [Option.bind_some]
 have e : LexM.isName (c :: l) = (!decide (c :: l ∈ words) && (c :: l).all inner) := by {
 simp only [LexM.isName, hc, hlen, hcont]
 rw [decide_eq_true (show s.size ≤ 16 by omega)]
 cases (c :: l).all inner <;> simp}
 rw [e]; exact j1 _)}}
 {
 unfold r2_Name.f
 have hsh : Evt (fun k => r2_shaped.f k s) (letter c && (c :: l).all inner) := by {
 unfold r2_shaped.f
 refine Evt.neg hne (Evt.pos (by omega) ?_)
 rw [hbt, letter_r]; simp only [Option.bind_some]
 have := j2 (!letter c)
 simpa using this}
 refine Evt.bind hsh ?_
 simp only [LexM.isName, hlen, hcont]
 cases hq : (letter c && (c :: l).all inner) with
 | false => exact Evt.neg (by simp) (by simpa using Evt.const _)
 | true => (
 refine Evt.pos (by first | rfl | trivial) ?_
 by_cases p : s.size ≤ 16
 {
 refine Evt.pos (by omega) ?_
 rw [hW]; simp only [Option.bind_some]
 refine Evt.bind hin ?_
 rw [decide_eq_true p]; simpa using Evt.const _}
 {
 refine Evt.neg (by omega) ?_
 rw [decide_eq_false p]; simpa using Evt.const _})})
end Go.Proofs.YtefhpdcafdhcaaaDoor.M
end
section
namespace Go.Proofs.YtefhpdcafdhcaaaDoor.A
open Go Go.RowKit Go.Proofs.YtefhpdcafdhcaaaDoorW.PrintWords Go.Proofs.YtefhpdcafdhcaaaDoorW.PrintLast Go.Proofs.YtefhpdcafdhcaaaDoorW.PrintMore
section
variable {P : Program} {ops : Array Oper} {Q : Exit → Act → World → Prop} {md : Region.Mode} {S : World → Prop} {ds : List Nat} {T : Bool × List (List Nat × List Nat)}
theorem pv_ (i K : Nat) {oi : Oper} {v : Value} {fuel : Nat} {l : Array Bool} {a a' : Act} {w : World} (l' : Array Bool) (hi : ops[i]? = some oi) (hN : oi.dst = some K) (HT : Aside0 (rtab md ops = T)) (h : wpAnyLast P md ops Q S ds fuel l' a' w)
  (hc : anyT T l.toList l'.toList i = true := by kernel_rfl) (hw : Region.wanted oi (yielded ops a.tmps) = true := by rfl) (hy : ∀ w, (execOp a.eval oi).run P w = .ok (.value v) w := by (intro w'; go_simp; with_reducible rfl)) (hQ : ∀ c a w, Q (.panic c) (a.put oi.dst v) w → Q (.panic c) a w := by exact fun _ _ _ h => h) (ha : a.put (some K) v = a' := by simp only [Act.put, List.setIfInBounds_toArray, List.set_cons_zero, List.set_cons_succ, i64_w, i32_w]; rfl) : wpAnyLast P md ops Q S ds (fuel + 1) l a w :=
 pure_ l' hi hN (any_of HT.out hc) hQ (Or.inl ⟨hw, hy⟩) ha h
theorem tk_ (i K : Nat) {oi : Oper} {v : Value} {fuel : Nat} {l : Array Bool} {a a' : Act} {w : World} {B : List Nat} (l' : Array Bool) (hi : ops[i]? = some oi) (hN : oi.dst = some K) (HT : Aside0 (rtab md ops = T)) (HW : Aside0 (waitsOk T.2 B = true)) (hS : S w) (h : wpAnyLast P md ops Q S ds fuel l' a' w)
  (hc : takeW T B ds l.toList l'.toList i = true := by kernel_rfl) (hw : Region.wanted oi (yielded ops a.tmps) = true := by rfl) (hy : ∀ w, S w → (execOp a.eval oi).run P w = .ok (.value v) w := by (intro w' b; (repeat (obtain ⟨_, b⟩ := b)); go_simp; with_reducible rfl)) (hQ : ∀ c a w, Q (.panic c) (a.put oi.dst v) w → Q (.panic c) a w := by exact fun _ _ _ h => h) (ha : a.put (some K) v = a' := by simp only [Act.put, List.setIfInBounds_toArray, List.set_cons_zero, List.set_cons_succ, i64_w, i32_w]; rfl) : wpAnyLast P md ops Q S ds (fuel + 1) l a w :=
 take_ l' hi hN (take_ofW HT.out HW.out hc) hQ (Or.inl ⟨hw, hy⟩) hS ha h
end
def pr.T10 : Bool × List (List Nat × List Nat) := (true, [([], []), ([], []), ([], []), ([1, 2], [1, 2]), ([3], [3]), ([], []), ([], []), ([], []), ([6, 7], [6, 7]), ([8], [8]), ([5, 9], [5, 9]), ([10], [10]), ([], []), ([12], [12]), ([11, 13], [11, 13]), ([0, 4, 0, 1, 2, 3, 4, 5, 6, 7, 8, 9, 10, 11, 12, 13, 14], [0, 4]), ([15, 14, 14, 0, 1, 2, 3, 4, 5, 6, 7, 8, 9, 10, 11, 12, 13, 14], [14, 15])])
def pr.B10 : List Nat := [0, 0, 0, 6, 14, 0, 0, 0, 192, 448, 992, 2016, 0, 4096, 16352, 32767, 65535]
theorem pr.tab10 : rtab .any (opsOf Tryd.f47 10) = pr.T10 := by kernel_rfl
theorem pr.bits10 : waitsOk pr.T10.2 pr.B10 = true := by kernel_rfl
abbrev pr.b10_0 : Array Bool := #[Z,Z,Z,Z,Z,Z,Z,Z,Z,Z,Z,Z,Z,Z,Z,Z,Z]
abbrev pr.b10_17 : Array Bool := #[Y,Y,Y,Y,Y,Y,Y,Y,Y,Y,Y,Y,Y,Y,Y,Y,Y]
theorem keep_cell {N : Nat} {W b : World} {p : Addr} {v : Value} (hc : W.cell? p = some v) (hl : p.block < N) (hb : Below N W b) : b.cell? p = some v := (hb.cell hl).trans hc
end Go.Proofs.YtefhpdcafdhcaaaDoor.A
end
