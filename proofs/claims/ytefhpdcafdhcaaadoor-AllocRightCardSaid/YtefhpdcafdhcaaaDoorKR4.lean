/- Texts of this claim, cut down to what its theorem uses and laid end to end (wip/shake.py). -/
import Derived.ArgAppend
import Derived.Below
import Derived.BigQuiet
import Derived.ChangeOld
import Derived.ChangeVars
import Derived.Deep.AppendLies
import Derived.Deep.CutBlock
import Derived.Deep.DeepCutAuto
import Derived.Deep.Draws
import Derived.Deep.LoopGhost
import Derived.Deep.MidRow
import Derived.Deep.OwnRows
import Derived.Deep.QuietTactic
import Derived.Deep.RegionHeld3
import Derived.Deep.Slices
import Derived.KernelRfl
import Derived.LaidLaws
import Derived.LaidMore
import Derived.Laws.Bits64b
import Derived.Laws.BitsLemmas
import Derived.Laws.BytesArg
import Derived.Laws.CopyRow
import Derived.Laws.IdiomCopy
import Derived.Laws.MakeOwn
import Derived.Laws.OwnMore
import Derived.Laws.Rows
import Derived.Laws.Slices
import Derived.Laws.StructEq
import Derived.Lay
import Derived.Lib.AppendStr
import Derived.Lib.ConvBytes
import Derived.Lib.LaidTab
import Derived.Maps.AppendAt
import Derived.Maps.OwnOps
import Derived.Maps.OwnSet
import Derived.OpenShut
import Derived.OrdersHeld
import Derived.OwnWalk
import Derived.ProofKit
import Derived.RowKit
import Derived.RowKit3
import Derived.SevenTiedAt
import Derived.Shelf.Strings.Fields
import Derived.ShutString
import Derived.SizedLaws
import Derived.Stop.Joined
import Derived.StringKeys
import Derived.Tactics
import Derived.Test.YtefhpdcafdhcaaaDoorCards
import Derived.Test.YtefhpdcafdhcaaaDoorProg
import Derived.Test.YtefhpdcafdhcaaaDoorRows
import Derived.Test.YtefhpdcafdhcaaaDoorTie
import Derived.WalkKit
import Derived.WideLaws
import Derived.Test.YtefhpdcafdhcaaaDoorKR3
set_option maxHeartbeats 16000000
set_option maxRecDepth 100000
set_option exponentiation.threshold 3000
section
namespace Go.Proofs.YtefhpdcafdhcaaaDoor.V
open Go.RowKit Go.Proofs.YtefhpdcafdhcaaaDoorW.PrintWords Go.Proofs.YtefhpdcafdhcaaaDoorW.PrintLast Go.Proofs.YtefhpdcafdhcaaaDoorW.PrintMore Go.Proofs.YtefhpdcafdhcaaaDoor Go.Proofs.YtefhpdcafdhcaaaDoor.A Go.Proofs.YtefhpdcafdhcaaaDoor.B
set_option linter.unusedVariables false
set_option linter.unusedSimpArgs false
mutual
def r6_Valid.j0 : Nat → Bool → ByteArray → List (S83) → List (S85) → Int → List (S69) → Option (Bool)
 | 0, _, _, _, _, _, _ => none
 | k + 1, O, l, p, q, y, b => if O = true then (some false) else (r6_Valid.l0 k (b.length : Int) 0 l p q y b)
def r6_Valid.l0 : Nat → Int → Int → ByteArray → List (S83) → List (S85) → Int → List (S69) → Option (Bool)
 | 0, _, _, _, _, _, _, _ => none
 | k + 1, R, D, l, p, q, y, b => if D < (b.length : Int) then (if 0 ≤ D then (if (wrap64 (R + (((rd_T69 b D).f0).length : Int))) > 2000 then (some false) else ((r6_ends.f k l p q y b ((rd_T69 b D).f0) ((rd_T69 b D).f1) ((rd_T69 b D).f2) ((rd_T69 b D).f3) ((rd_T69 b D).f4)).bind fun G => (if G = true then (r6_Valid.l0 k (wrap64 (R + (((rd_T69 b D).f0).length : Int))) (wrap64 (D + 1)) l p q y b) else (some false)))) else (none)) else ((r6_Preds.f k l p q y b).bind fun I => ((r6_reached.f k l p q y b).bind fun J => (r6_Valid.l1 k I J 0 l p q y b)))
def r6_Valid.l1 : Nat → List (List Int) → List Bool → Int → ByteArray → List (S83) → List (S85) → Int → List (S69) → Option (Bool)
 | 0, _, _, _, _, _, _, _, _ => none
 | k + 1, E, F, C, l, p, q, y, b => if C < (b.length : Int) then (if 0 ≤ C then (if C < (F.length : Int) then (if rdOf false F C = true then (r6_Valid.l2 k E F C ((rd_T69 b C).f0) 0 l p q y b) else (some false)) else (none)) else (none)) else (some true)
def r6_Valid.l2 : Nat → List (List Int) → List Bool → Int → List (S71) → Int → ByteArray → List (S83) → List (S85) → Int → List (S69) → Option (Bool)
 | 0, _, _, _, _, _, _, _, _, _, _ => none
 | k + 1, E, F, C, B, z, l, p, q, y, b => if z < (B.length : Int) then (if 0 ≤ z then (if 0 ≤ C then (if C < (E.length : Int) then ((r6_instr.f k l p q y b ((rd_T71 B z).f0) ((rd_T71 B z).f1) ((rd_T71 B z).f2) ((rd_T71 B z).f3) ((rd_T71 B z).f4) ((rd_T71 B z).f5) ((rd_T71 B z).f6) ((rd_L2 E C).length : Int)).bind fun L => (if L = true then (if ((rd_T71 B z).f0) = 11 then (if C = 0 then (some false) else (if z > 0 then (if 0 ≤ (wrap64 (z - 1)) then (if (wrap64 (z - 1)) < (B.length : Int) then (if ((rd_T71 B (wrap64 (z - 1))).f0) = 11 then (if z ≤ (B.length : Int) then ((r6_twice.f k (B.take (z : Int).toNat) ((rd_T71 B z).f2)).bind fun M => (if M = true then (some false) else (r6_Valid.l2 k E F C B (wrap64 (z + 1)) l p q y b))) else (none)) else (some false)) else (none)) else (none)) else (if z ≤ (B.length : Int) then ((r6_twice.f k (B.take (z : Int).toNat) ((rd_T71 B z).f2)).bind fun N => (if N = true then (some false) else (r6_Valid.l2 k E F C B (wrap64 (z + 1)) l p q y b))) else (none)))) else (r6_Valid.l2 k E F C B (wrap64 (z + 1)) l p q y b)) else (some false))) else (none)) else (none)) else (none)) else (r6_Valid.l1 k E F (wrap64 (C + 1)) l p q y b)
end
def r6_Valid.f (k : Nat) (p : ByteArray) (q : List (S83)) (y : List (S85)) (b : Int) (l : List (S69)) : Option (Bool) := (r6_Heads.f k p q y).bind fun z => (if z = true then (if b < 0 then (r6_Valid.j0 k true p q y b l) else (if b > 2000 then (r6_Valid.j0 k true p q y b l) else (if (l.length : Int) < 1 then (r6_Valid.j0 k true p q y b l) else (r6_Valid.j0 k (decide ((l.length : Int) > 2000)) p q y b l)))) else (r6_Valid.j0 k true p q y b l))
def r6_Valid.T8 : Bool × List (List Nat × List Nat) := (true, [([], []), ([0], [0]), ([1], [1]), ([2], [2]), ([2], [2]), ([4, 2], [2, 4]), ([2], [2]), ([5, 6, 2], [2, 5, 6]), ([7, 2], [2, 7]), ([3, 8, 2, 2], [2, 3, 8]), ([9, 2], [2, 9]), ([2, 10], [2, 10])])
def r6_Valid.B8 : List Nat := [0, 1, 3, 7, 7, 23, 7, 119, 247, 511, 1023, 2047]
theorem r6_Valid.tab8 : rtab .any (opsOf Tryd.f27 8) = r6_Valid.T8 := by kernel_rfl
theorem r6_Valid.bits8 : waitsOk r6_Valid.T8.2 r6_Valid.B8 = true := by kernel_rfl
def r6_Valid.T20 : Bool × List (List Nat × List Nat) := (true, [([], []), ([], []), ([], []), ([1, 2], [1, 2]), ([3], [3]), ([], []), ([], []), ([5, 6], [5, 6]), ([7], [7]), ([8], [8]), ([0, 4, 9], [0, 4, 9]), ([10], [10]), ([11, 10], [11]), ([12], [12]), ([12], [12]), ([13, 14, 12], [12, 13, 14]), ([15, 12], [12, 15]), ([16, 12], [12, 16]), ([17, 12], [12, 17]), ([18, 12, 12], [12, 18]), ([19], [19]), ([20, 19], [19, 20]), ([21, 19, 19], [19, 21]), ([22], [22]), ([23, 22], [22, 23]), ([24, 22, 22], [22, 24]), ([25], [25]), ([25], [25]), ([27, 25], [25, 27]), ([26, 28, 25], [25, 26, 28]), ([29, 25], [25, 29]), ([30, 25], [25, 30]), ([31, 25], [25, 31]), ([25, 32, 22], [22, 25, 32]), ([22, 33, 19], [19, 22, 33]), ([34, 25, 19], [19, 34]), ([35], [35]), ([35], [35]), ([36, 37, 35], [35, 36, 37]), ([35], [35]), ([35], [35]), ([39, 40, 35], [35, 39, 40]), ([41, 35], [35, 41]), ([42, 35], [35, 42]), ([38, 43, 35, 35], [35, 38, 43]), ([35, 44, 19], [19, 35, 44]), ([19, 45, 12], [12, 19, 45]), ([12, 46], [12, 46])])
def r6_Valid.B20 : List Nat := [0, 0, 0, 6, 14, 0, 0, 96, 224, 480, 1023, 2047, 4095, 8191, 8191, 32767, 65535, 131071, 262143, 524287, 1048575, 2097151, 4194303, 8388607, 16777215, 33554431, 67108863, 67108863, 201326591, 536870911, 1073741823, 2147483647, 4294967295, 8589934591, 17179869183, 34359738367, 68719476735, 68719476735, 274877906943, 68719476735, 68719476735, 1717986918399, 3917010173951, 8315056685055, 17592186044415, 35184372088831, 70368744177663, 140737488355327]
theorem r6_Valid.tab20 : rtab .any (opsOf Tryd.f27 20) = r6_Valid.T20 := by kernel_rfl
theorem r6_Valid.bits20 : waitsOk r6_Valid.T20.2 r6_Valid.B20 = true := by kernel_rfl
theorem r6_Valid.calls (k : Nat) (I : ByteArray) (V : Option Addr) (X : Nat) (E : List (S83)) (a0 : Option Addr) (a1 : Nat) (F : List (S85)) (J : Int) (d7 : Option Addr) (a4 : Nat) (p : List (S69)) (r : Bool) (w : World) (D9 : Kd.C k83 w V E.length E) (E0 : E.length ≤ X) (E1 : Kd.C k85 w a0 F.length F) (E2 : F.length ≤ a1) (E3 : Kd.C k69 w d7 p.length p) (E4 : p.length ≤ a4) (h : r6_Valid.f k I E F J p = some r) :
  Calls Tryd.prog 27 #[.agg #[.string I, .slice V E.length X, .slice a0 F.length a1, .int .i64 J, .slice d7 p.length a4]] w fun e w' => e = .returned (.bool r) ∧ Below w.heap.size w w' := by
 have S1 := Tryd.underlying26; have S2 := Tryd.underlying69; have S3 := Tryd.underlying71; have a9 := a_ D9; have b0 := a_ E0; clear D9 E0; have b1 := a_ E1; have b2 := a_ E2; clear E1 E2; have a5 := a_ E3; have g8 := a_ E4; clear E3 E4; have y := a_ (Below.refl w.heap.size w); have H : ((r6_Heads.f k I E F).bind fun E5 => (if E5 = true then (if J < 0 then (r6_Valid.j0 k true I E F J p) else (if J > 2000 then (r6_Valid.j0 k true I E F J p) else (if (p.length : Int) < 1 then (r6_Valid.j0 k true I E F J p) else (r6_Valid.j0 k (decide ((p.length : Int) > 2000)) I E F J p)))) else (r6_Valid.j0 k true I E F J p))) = some r := h
 clear h; have J7 := a_ H; clear H; go_enter Tryd.func27, Tryd.ntmps27
 go_upto_region 1 with (first | ((with_reducible refine gd_ 1 rfl ?_); (try (refine gate_guard (by rfl) ?_; dsimp only)); refine q_box 1 26 #[.string I, .slice V E.length X, .slice a0 F.length a1, .int .i64 J, .slice d7 p.length a4] ?_; intro b6 hg w3 I9 hb; have l := a_ (I9); have Q5 := a_ ((q_ge y.out hg)); have z := a_ ((q_ge y.out hg)); replace y := a_ (q_st y.out hb); clear hb I9 hg))
 (try simp only [Act.put, List.setIfInBounds_toArray, List.set_cons_zero, List.set_cons_succ])
 go_cut [39] (fun Q6 wc => ∃ (kq : Nat) (i5 : Bool), Q6 = .bool i5 ∧ Aside0 (r6_Valid.j0 kq i5 I E F J p = some r) ∧ Aside0 (kq ≤ k) ∧ Aside0 (wc.heap[b6]? = some (.cells #[.string I, (.slice V E.length X), (.slice a0 F.length a1), .int .i64 J, (.slice d7 p.length a4)] 26 (0, 0))) ∧ Aside0 (Below w.heap.size w wc))
 case first => (
 have H := J7.out; clear J7; replace H := Option.bind_eq_some_iff.mp H; obtain ⟨E5, M6, H⟩ := H; have A4 := a_ M6; clear M6; by_cases c5 : E5 = true
 {
 subst c5; rw [if_pos rfl] at H; rcases q_ite H with ⟨c6b0, H⟩ | ⟨c6b0, H⟩
 {
 (first | rw [c6b0] | (simp only [i64_w, i32_w]; rw [c6b0]) | skip)
 have H' := a_ H
 clear H; obtain ⟨A5, A6, A7, A8, A9, B2, B3, B6, B7, C0⟩ := q_cf5 l.out; go_wp2_with (first | ((with_reducible refine gc_ 45 rfl ?_); refine q_gl 16 #[.string I, .slice V E.length X, .slice a0 F.length a1] Tryd.func45 rfl ?_; (with_reducible refine (r6_Heads.calls k I _ _ E _ _ F true _ (q_C (Kd.C_below a9.out y.out)) b0.out (q_C (Kd.C_below b1.out y.out)) b2.out A4.out).mono ?_); rintro e w8 ⟨rfl, hb⟩; refine ⟨_, rfl, ?_⟩; replace l := a_ (q_bk l.out hb); replace y := a_ (q_st1 y.out hb z.out); (try clear hb); (try clear i7); (try clear hk); (try clear hi); obtain ⟨C1, C2, C3, C4, C5, C6, C7, C8, C9, D0⟩ := q_cf5 l.out))
 go_meet
 case rel => exact ⟨_, (true), q_r, H', ⟨by first | omega | exact Nat.le_refl _⟩, ⟨q_k l.out⟩, ⟨q_w1 y.out z.out⟩⟩}
 {
 (first | rw [c6b0] | (simp only [i64_w, i32_w]; rw [c6b0]) | skip)
 rcases q_ite H with ⟨c10b0, H⟩ | ⟨c10b0, H⟩
 {
 have H' := a_ H
 clear H; obtain ⟨i8, i9, j3, j5, j6, j7, j8, j9, k0, k1⟩ := q_cf5 l.out; go_wp2_with (first | ((with_reducible refine gc_ 45 rfl ?_); refine q_gl 16 #[.string I, .slice V E.length X, .slice a0 F.length a1] Tryd.func45 rfl ?_; (with_reducible refine (r6_Heads.calls k I _ _ E _ _ F true _ (q_C (Kd.C_below a9.out y.out)) b0.out (q_C (Kd.C_below b1.out y.out)) b2.out A4.out).mono ?_); rintro e U2 ⟨rfl, hb⟩; refine ⟨_, rfl, ?_⟩; replace l := a_ (q_bk l.out hb); replace y := a_ (q_st1 y.out hb z.out); (try clear hb); (try clear i7); (try clear hk); (try clear hi); obtain ⟨k5, k6, k7, k8, k9, l4, l5, l6, l7, l8⟩ := q_cf5 l.out))
 go_meet
 case rel => exact ⟨_, (true), q_r, H', ⟨by first | omega | exact Nat.le_refl _⟩, ⟨q_k l.out⟩, ⟨q_w1 y.out z.out⟩⟩}
 {
 replace H := q_iD H; rcases H with ⟨E6, c14b0, H⟩ | ⟨E6, c14b0, H⟩
 {
 have c14b1 : decide (p.length < 1) = true := decide_eq_true (by omega)
 clear E6; have H' := a_ H
 clear H; obtain ⟨l9, n0, n1, n2, n3, n4, n5, n6, n7, n8⟩ := q_cf5 l.out; go_wp2_with (first | ((with_reducible refine gc_ 45 rfl ?_); refine q_gl 16 #[.string I, .slice V E.length X, .slice a0 F.length a1] Tryd.func45 rfl ?_; (with_reducible refine (r6_Heads.calls k I _ _ E _ _ F true _ (q_C (Kd.C_below a9.out y.out)) b0.out (q_C (Kd.C_below b1.out y.out)) b2.out A4.out).mono ?_); rintro e U3 ⟨rfl, hb⟩; refine ⟨_, rfl, ?_⟩; replace l := a_ (q_bk l.out hb); replace y := a_ (q_st1 y.out hb z.out); (try clear hb); (try clear i7); (try clear hk); (try clear hi); obtain ⟨n9, o0, o1, o2, o3, o4, o5, o6, o7, o8⟩ := q_cf5 l.out))
 go_meet
 case rel => exact ⟨_, (true), q_r, H', ⟨by first | omega | exact Nat.le_refl _⟩, ⟨q_k l.out⟩, ⟨q_w1 y.out z.out⟩⟩}
 {
 have c14b1 : decide (p.length < 1) = false := decide_eq_false (by omega)
 clear E6; have H' := a_ H
 clear H; obtain ⟨o9, p0, p3, p4, p5, p7, p8, p9, q0, q2⟩ := q_cf5 l.out; go_wp2_with (first | ((with_reducible refine gc_ 45 rfl ?_); refine q_gl 16 #[.string I, .slice V E.length X, .slice a0 F.length a1] Tryd.func45 rfl ?_; (with_reducible refine (r6_Heads.calls k I _ _ E _ _ F true _ (q_C (Kd.C_below a9.out y.out)) b0.out (q_C (Kd.C_below b1.out y.out)) b2.out A4.out).mono ?_); rintro e U4 ⟨rfl, hb⟩; refine ⟨_, rfl, ?_⟩; replace l := a_ (q_bk l.out hb); replace y := a_ (q_st1 y.out hb z.out); (try clear hb); (try clear i7); (try clear hk); (try clear hi); obtain ⟨q3, q5, q6, q7, q8, q9, r0, r1, r2, r3⟩ := q_cf5 l.out))
 go_meet
 case rel => exact ⟨_, (decide ((p.length : Int) > 2000)), q_r, H', ⟨by first | omega | exact Nat.le_refl _⟩, ⟨q_k l.out⟩, ⟨q_w1 y.out z.out⟩⟩}}}}
 {
 replace c5 := Bool.eq_false_iff.mpr c5; subst c5; rw [if_neg Bool.false_ne_true] at H; have H' := a_ H
 clear H; obtain ⟨r4, r5, r6, r7, r8, r9, t0, t1, t2, t3⟩ := q_cf5 l.out; go_wp2_with (first | ((with_reducible refine gc_ 45 rfl ?_); refine q_gl 16 #[.string I, .slice V E.length X, .slice a0 F.length a1] Tryd.func45 rfl ?_; (with_reducible refine (r6_Heads.calls k I _ _ E _ _ F false _ (q_C (Kd.C_below a9.out y.out)) b0.out (q_C (Kd.C_below b1.out y.out)) b2.out A4.out).mono ?_); rintro e U5 ⟨rfl, hb⟩; refine ⟨_, rfl, ?_⟩; replace l := a_ (q_bk l.out hb); replace y := a_ (q_st1 y.out hb z.out); (try clear hb); (try clear i7); (try clear hk); (try clear hi)))
 go_meet
 case rel => exact ⟨_, (true), q_r, H', ⟨by first | omega | exact Nat.le_refl _⟩, ⟨q_k l.out⟩, ⟨q_w1 y.out z.out⟩⟩})
 case rest => (
 clear J7; try clear c1
 try clear c2
 try clear p2
 try clear c4
 try clear c5
 try clear c6
 try clear c6b0
 try clear J8
 try clear c10b0
 try clear E6
 try clear c14b0
 try clear c14b1
 try clear i8
 try clear i9
 try clear j3
 try clear j5
 try clear j6
 try clear k5
 try clear k6
 try clear k7
 try clear k8
 try clear k9
 try clear l9
 try clear n0
 try clear n1
 try clear n2
 try clear n3
 try clear n9
 try clear o0
 try clear o1
 try clear o2
 try clear o3
 try clear o9
 try clear p0
 try clear p3
 try clear p4
 try clear p5
 try clear q3
 try clear q5
 try clear q6
 try clear q7
 try clear q8
 try clear r4
 try clear r5
 try clear r6
 try clear r7
 try clear r8
 try clear A5
 try clear A6
 try clear A7
 try clear A8
 try clear A9
 try clear C1
 try clear C2
 try clear C3
 try clear C4
 try clear C5
 try clear j7
 try clear j8
 try clear j9
 try clear k0
 try clear k1
 try clear l4
 try clear l5
 try clear l6
 try clear l7
 try clear l8
 try clear n4
 try clear n5
 try clear n6
 try clear n7
 try clear n8
 try clear o4
 try clear o5
 try clear o6
 try clear o7
 try clear o8
 try clear p7
 try clear p8
 try clear p9
 try clear q0
 try clear q2
 try clear q9
 try clear r0
 try clear r1
 try clear r2
 try clear r3
 try clear r9
 try clear t0
 try clear t1
 try clear t2
 try clear t3
 try clear B2
 try clear B3
 try clear B6
 try clear B7
 try clear C0
 try clear C6
 try clear C7
 try clear C8
 try clear C9
 try clear D0
 obtain ⟨kq, i5, rfl, HA, i3, l, y⟩ := hcut; cases kq with
 | zero => exact absurd HA.out (by simp [r6_Valid.j0])
 | succ M9 => (
 have H := HA.out; clear HA; simp only [r6_Valid.j0] at H
 by_cases E7 : i5 = true
 {
 subst E7; rw [if_pos rfl] at H; obtain rfl := Option.some.inj H; go_wp2
 go_ret
 exact ⟨q_e, q_w1 y.out z.out⟩}
 {
 replace E7 := Bool.eq_false_iff.mpr E7; subst E7; rw [if_neg Bool.false_ne_true] at H; have H' := a_ H
 clear H; obtain ⟨E8, E9, F0, F1, F2, F3, F4, F5, F6, F7⟩ := q_cf5 l.out; go_wp2
 go_loopg [3, 4] M9 (fun kq v3 v4 w' => ∃ (D1 : Int) (D : Int), v3 = .int .i64 D1 ∧ v4 = .int .i64 D ∧ Aside0 (r6_Valid.l0 kq D1 D I E F J p = some r) ∧ Aside0 (kq ≤ M9) ∧ Aside0 (w'.heap[b6]? = some (.cells #[.string I, (.slice V E.length X), (.slice a0 F.length a1), .int .i64 J, (.slice d7 p.length a4)] 26 (0, 0))) ∧ Aside0 (Below w.heap.size w w'))
 case atStart => exact ⟨((p.length : Int)), (0), q_r, q_r, H', ⟨Nat.le_refl _⟩, ⟨q_k l.out⟩, ⟨q_w1 y.out z.out⟩⟩
 case round => (
 clear H'; try clear c1
 try clear c2
 try clear p2
 try clear c4
 try clear c5
 try clear c6
 try clear c6b0
 try clear J8
 try clear c10b0
 try clear E6
 try clear c14b0
 try clear c14b1
 try clear E7
 try clear i8
 try clear i9
 try clear j3
 try clear j5
 try clear j6
 try clear k5
 try clear k6
 try clear k7
 try clear k8
 try clear k9
 try clear l9
 try clear n0
 try clear n1
 try clear n2
 try clear n3
 try clear n9
 try clear o0
 try clear o1
 try clear o2
 try clear o3
 try clear o9
 try clear p0
 try clear p3
 try clear p4
 try clear p5
 try clear q3
 try clear q5
 try clear q6
 try clear q7
 try clear q8
 try clear r4
 try clear r5
 try clear r6
 try clear r7
 try clear r8
 try clear E8
 try clear E9
 try clear F0
 try clear F1
 try clear F2
 try clear A5
 try clear A6
 try clear A7
 try clear A8
 try clear A9
 try clear C1
 try clear C2
 try clear C3
 try clear C4
 try clear C5
 try clear j7
 try clear j8
 try clear j9
 try clear k0
 try clear k1
 try clear l4
 try clear l5
 try clear l6
 try clear l7
 try clear l8
 try clear n4
 try clear n5
 try clear n6
 try clear n7
 try clear n8
 try clear o4
 try clear o5
 try clear o6
 try clear o7
 try clear o8
 try clear p7
 try clear p8
 try clear p9
 try clear q0
 try clear q2
 try clear q9
 try clear r0
 try clear r1
 try clear r2
 try clear r3
 try clear r9
 try clear t0
 try clear t1
 try clear t2
 try clear t3
 try clear F3
 try clear F4
 try clear F5
 try clear F6
 try clear F7
 try clear B2
 try clear B3
 try clear B6
 try clear B7
 try clear C0
 try clear C6
 try clear C7
 try clear C8
 try clear C9
 try clear D0
 try clear p2
 obtain ⟨D1, D, rfl, rfl, HA, i4, l, y⟩ := hrel; cases gk with
 | zero => exact absurd HA.out (by simp [r6_Valid.l0])
 | succ k2 => (
 have H := HA.out; clear HA; simp only [r6_Valid.l0] at H
 rcases q_ite H with ⟨c25b0, H⟩ | ⟨c25b0, H⟩
 {
 replace H := q_gD H; obtain ⟨-, c26b0, H⟩ := H; rcases q_ite H with ⟨c27b0, H⟩ | ⟨c27b0, H⟩
 {
 obtain rfl := Option.some.inj H; obtain ⟨N0, N1, N3, N4, N5, N6, N7, N8, N9, O0⟩ := q_cf5 l.out; obtain ⟨b3, D2, D3, t4, d8, d9, e0, e1, e2, a2, a3, D4, D5⟩ := b_T69 a5.out y.out D; cases t4; have t5 := a_ a3; have t6 := a_ a2; clear a3 a2; try go_wp2
 have a6 := a_ (blk_drew l.out); have a7 := a_ (below_drew1 y.out); clear l y; have l := a6; have y := a7; clear a6 a7; refine q_s 12 (S := fun w' => True) trivial (fun G => ?_); refine with_tabW r6_Valid.tab8 r6_Valid.bits8 (fun b d3 => ?_)
 generalize wr.drew = U9 at l y G ⊢
 refine qv_ 0 b ?_
 refine qv_ 1 b ?_
 refine qv_ 2 b ?_
 refine qu_ 3 b ?_
 refine qu_ 4 b ?_
 refine qu_ 5 b ?_
 refine qu_ 6 b ?_
 refine qu_ 7 b ?_
 refine qu_ 8 b ?_
 refine qu_ 9 b ?_
 refine qu_ 10 b ?_
 refine qv_ 11 b ?_
 refine done_ (done_of b.out (by kernel_rfl)) ?_
 try go_wp2
 go_ret
 exact ⟨q_e, q_w1 y.out z.out⟩}
 {
 replace H := Option.bind_eq_some_iff.mp H; obtain ⟨O1, J0, H⟩ := H; have O2 := a_ J0; clear J0; by_cases D8 : O1 = true
 {
 subst D8; rw [if_pos rfl] at H; have H' := a_ H
 clear H; obtain ⟨t7, t8, t9, v0, v1, v2, v5, v6, v8, w2⟩ := q_cf5 l.out; obtain ⟨b3, D2, D3, t4, d8, d9, e0, e1, e2, a2, a3, D4, D5⟩ := b_T69 a5.out y.out D; cases t4; have t5 := a_ a3; have t6 := a_ a2; clear a3 a2; try go_wp2
 have a6 := a_ (blk_drew l.out); have a7 := a_ (below_drew1 y.out); clear l y; have l := a6; have y := a7; clear a6 a7; have e3 : 0 ≤ (D : Int) := q_d
 have e4 : D < (p.length : Int) := q_d
 obtain ⟨z5, e5, e6, F8, L, M, O, T, U, b7, b8⟩ := at_T69 a5.out D e3 e4; have b9 := U; have c0 := T; have c8 := O; have c9 := M; have d0 := L; obtain rfl : b3 = z5 := (by injection F8)
 replace L := q_kc y.out L; replace M := q_kc y.out M; replace O := q_kc y.out O; replace T := q_kc y.out T; replace U := q_kc y.out U; have d1 := a_ b8; have g9 := a_ b7; clear b8 b7; replace e3 := eq_true e3; replace e4 := eq_true e4; refine q_s 12 (S := fun w' => cg5 w' b6 (.string I) (.slice V E.length X) (.slice a0 F.length a1) (.int .i64 J) (.slice (some b3) p.length a4) (cp5_ w' (b3.add ((D).toNat * 5)) (.slice e5 ((rd_T69 p D).f0).length e6) (.int .i64 ((rd_T69 p D).f1)) (.int .i64 ((rd_T69 p D).f2)) (.int .i64 ((rd_T69 p D).f3)) (.int .i64 ((rd_T69 p D).f4)))) (q_g5 l.out ⟨(q_kc y.out d0), (q_kc y.out c9), (q_kc y.out c8), (q_kc y.out c0), (q_kc y.out b9)⟩) (fun G => ?_); refine with_tabW r6_Valid.tab8 r6_Valid.bits8 (fun b d3 => ?_)
 generalize wr.drew = V0 at l y d1 L M O T U G ⊢
 refine qv_ 0 b ?_
 refine qv_ 1 b ?_
 refine qv_ 2 b ?_
 refine qv_ 4 b ?_
 refine qv_ 6 b ?_
 refine qt10_ 3 b d3 G ?_
 refine qt10_ 5 b d3 G ?_
 refine qv_ 7 b ?_
 refine qt10_ 8 b d3 G ?_
 refine q_o 9 b (fun K hK => ?_)
 refine q_go #[.agg #[.string I, .slice V E.length X, .slice a0 F.length a1, .int .i64 J, .slice (some b3) p.length a4], .agg #[.slice e5 ((rd_T69 p D).f0).length e6, .int .i64 ((rd_T69 p D).f1), .int .i64 ((rd_T69 p D).f2), .int .i64 ((rd_T69 p D).f3), .int .i64 ((rd_T69 p D).f4)]] Tryd.func46 rfl ?_
 with_reducible refine (r6_ends.calls k2 I _ _ E _ _ F J _ _ p _ _ ((rd_T69 p D).f0) ((rd_T69 p D).f1) ((rd_T69 p D).f2) ((rd_T69 p D).f3) ((rd_T69 p D).f4) true _ (q_C (Kd.C_below a9.out y.out)) b0.out (q_C (Kd.C_below b1.out y.out)) b2.out (q_C (Kd.C_below a5.out y.out)) g8.out (q_C (Kd.C_below d1.out y.out)) g9.out O2.out).mono ?_
 rintro e V1 ⟨rfl, hb⟩
 refine ⟨_, rfl, ?_⟩
 have a6 := a_ (q_bk l.out hb); have a7 := a_ (q_st1 y.out hb z.out); clear l y; have l := a6; have y := a7; clear a6 a7; (try clear hb)
 (try clear i7)
 (try clear hk)
 (try clear hi)
 refine q_nk hK.out (q_g5 l.out ⟨(q_kc y.out d0), (q_kc y.out c9), (q_kc y.out c8), (q_kc y.out c0), (q_kc y.out b9)⟩) (fun G => ?_)
 clear hK K
 refine qv_ 10 b ?_
 refine qv_ 11 b ?_
 refine done_ (done_of b.out (by kernel_rfl)) ?_
 try go_wp2
 go_roundg k2
 case measure => have := i3.out; have := i4.out; omega
 case rel => exact ⟨(wrap64 (D1 + (((rd_T69 p D).f0).length : Int))), (wrap64 (D + 1)), q_r, q_r, H', ⟨by have := i3.out; have := i4.out; omega⟩, ⟨q_k l.out⟩, ⟨q_w1 y.out z.out⟩⟩}
 {
 replace D8 := Bool.eq_false_iff.mpr D8; subst D8; rw [if_neg Bool.false_ne_true] at H; obtain rfl := Option.some.inj H; obtain ⟨w4, w5, w6, w7, w9, x0, x1, x2, x3, x4⟩ := q_cf5 l.out; obtain ⟨b3, D2, D3, t4, d8, d9, e0, e1, e2, a2, a3, D4, D5⟩ := b_T69 a5.out y.out D; cases t4; have t5 := a_ a3; have t6 := a_ a2; clear a3 a2; try go_wp2
 have a6 := a_ (blk_drew l.out); have a7 := a_ (below_drew1 y.out); clear l y; have l := a6; have y := a7; clear a6 a7; have e3 : 0 ≤ (D : Int) := q_d
 have e4 : D < (p.length : Int) := q_d
 obtain ⟨z5, e5, e6, F8, L, M, O, T, U, b7, b8⟩ := at_T69 a5.out D e3 e4; have b9 := U; have c0 := T; have c8 := O; have c9 := M; have d0 := L; obtain rfl : b3 = z5 := (by injection F8)
 replace L := q_kc y.out L; replace M := q_kc y.out M; replace O := q_kc y.out O; replace T := q_kc y.out T; replace U := q_kc y.out U; have d1 := a_ b8; have g9 := a_ b7; clear b8 b7; replace e3 := eq_true e3; replace e4 := eq_true e4; refine q_s 12 (S := fun w' => cg5 w' b6 (.string I) (.slice V E.length X) (.slice a0 F.length a1) (.int .i64 J) (.slice (some b3) p.length a4) (cp5_ w' (b3.add ((D).toNat * 5)) (.slice e5 ((rd_T69 p D).f0).length e6) (.int .i64 ((rd_T69 p D).f1)) (.int .i64 ((rd_T69 p D).f2)) (.int .i64 ((rd_T69 p D).f3)) (.int .i64 ((rd_T69 p D).f4)))) (q_g5 l.out ⟨(q_kc y.out d0), (q_kc y.out c9), (q_kc y.out c8), (q_kc y.out c0), (q_kc y.out b9)⟩) (fun G => ?_); refine with_tabW r6_Valid.tab8 r6_Valid.bits8 (fun b d3 => ?_)
 generalize wr.drew = V2 at l y d1 L M O T U G ⊢
 refine qv_ 0 b ?_
 refine qv_ 1 b ?_
 refine qv_ 2 b ?_
 refine qv_ 4 b ?_
 refine qv_ 6 b ?_
 refine qt10_ 3 b d3 G ?_
 refine qt10_ 5 b d3 G ?_
 refine qv_ 7 b ?_
 refine qt10_ 8 b d3 G ?_
 refine q_o 9 b (fun K hK => ?_)
 refine q_go #[.agg #[.string I, .slice V E.length X, .slice a0 F.length a1, .int .i64 J, .slice (some b3) p.length a4], .agg #[.slice e5 ((rd_T69 p D).f0).length e6, .int .i64 ((rd_T69 p D).f1), .int .i64 ((rd_T69 p D).f2), .int .i64 ((rd_T69 p D).f3), .int .i64 ((rd_T69 p D).f4)]] Tryd.func46 rfl ?_
 with_reducible refine (r6_ends.calls k2 I _ _ E _ _ F J _ _ p _ _ ((rd_T69 p D).f0) ((rd_T69 p D).f1) ((rd_T69 p D).f2) ((rd_T69 p D).f3) ((rd_T69 p D).f4) false _ (q_C (Kd.C_below a9.out y.out)) b0.out (q_C (Kd.C_below b1.out y.out)) b2.out (q_C (Kd.C_below a5.out y.out)) g8.out (q_C (Kd.C_below d1.out y.out)) g9.out O2.out).mono ?_
 rintro e V3 ⟨rfl, hb⟩
 refine ⟨_, rfl, ?_⟩
 have a6 := a_ (q_bk l.out hb); have a7 := a_ (q_st1 y.out hb z.out); clear l y; have l := a6; have y := a7; clear a6 a7; (try clear hb)
 (try clear i7)
 (try clear hk)
 (try clear hi)
 refine q_nk hK.out (q_g5 l.out ⟨(q_kc y.out d0), (q_kc y.out c9), (q_kc y.out c8), (q_kc y.out c0), (q_kc y.out b9)⟩) (fun G => ?_)
 clear hK K
 refine qv_ 10 b ?_
 refine qv_ 11 b ?_
 refine done_ (done_of b.out (by kernel_rfl)) ?_
 try go_wp2
 go_ret
 exact ⟨q_e, q_w1 y.out z.out⟩}}}
 {
 replace H := Option.bind_eq_some_iff.mp H; obtain ⟨d4, J1, H⟩ := H; have Q9 := a_ J1; clear J1; replace H := Option.bind_eq_some_iff.mp H; obtain ⟨d5, J2, H⟩ := H; have R0 := a_ J2; clear J2; have H' := a_ H
 clear H; obtain ⟨x5, x6, x7, x8, x9, y0, y1, y2, y3, y4⟩ := q_cf5 l.out; try go_wp2
 have a6 := a_ (blk_drew l.out); have a7 := a_ (below_drew1 y.out); clear l y; have l := a6; have y := a7; clear a6 a7; refine q_s 6 (S := fun w' => cg5_ w' b6 (.string I) (.slice V E.length X) (.slice a0 F.length a1) (.int .i64 J) (.slice d7 p.length a4)) (q_g5_ l.out) (fun G => ?_)
 generalize wr.drew = V4 at l y G ⊢
 refine take_ (i := 0) (N := some 71) (v := ?_) (a' := ?_) qb6_155 rfl rfl (by kernel_rfl) (fun _ _ _ h => h) (Or.inl ⟨by rfl, ?_⟩) G ?_ ?_
 rotate_left
 {
 rintro w' ⟨s0, s1, s2, s3, s4⟩
 go_simp
 with_reducible rfl}
 rotate_left
 {
 simp only [Act.put, List.setIfInBounds_toArray, List.set_cons_zero, List.set_cons_succ, i64_w, i32_w]
 rfl}
 refine take_ (i := 2) (N := some 73) (v := ?_) (a' := ?_) qb6_156 rfl rfl (by kernel_rfl) (fun _ _ _ h => h) (Or.inl ⟨by rfl, ?_⟩) G ?_ ?_
 rotate_left
 {
 rintro w' ⟨s0, s1, s2, s3, s4⟩
 go_simp
 with_reducible rfl}
 rotate_left
 {
 simp only [Act.put, List.setIfInBounds_toArray, List.set_cons_zero, List.set_cons_succ, i64_w, i32_w]
 rfl}
 refine one_ (i := 1) (N := some 72) qb6_157 rfl rfl (by kernel_rfl) (by decide) (fun K hK => ?_)
 refine q_go #[.agg #[.string I, .slice V E.length X, .slice a0 F.length a1, .int .i64 J, .slice d7 p.length a4]] Tryd.func47 rfl ?_
 with_reducible refine (r6_Preds.calls k2 I _ _ E _ _ F J _ _ p d4 _ (q_C (Kd.C_below a9.out y.out)) b0.out (q_C (Kd.C_below b1.out y.out)) b2.out (q_C (Kd.C_below a5.out y.out)) g8.out Q9.out).mono ?_
 rintro e V5 ⟨J3, rfl, F9, hb⟩
 refine ⟨_, rfl, ?_⟩
 have a6 := a_ (Kd.S_lower F9 (below_size (q_w1 y.out z.out))); have a7 := a_ (q_bk l.out hb); have G0 := a_ (q_st1 y.out hb z.out); clear l y; have z6 := a6; have l := a7; have y := G0; clear a6 a7 G0; (try clear hb)
 (try clear i7)
 (try clear hk)
 (try clear hi)
 (try clear F9)
 refine q_nk hK.out (q_g5_ l.out) (fun G => ?_)
 clear hK K
 refine one_ (i := 3) (N := some 74) qb6_158 rfl rfl (by kernel_rfl) (by decide) (fun K hK => ?_)
 refine q_go #[.agg #[.string I, .slice V E.length X, .slice a0 F.length a1, .int .i64 J, .slice d7 p.length a4]] Tryd.func48 rfl ?_
 with_reducible refine (r6_reached.calls k2 I _ _ E _ _ F J _ _ p d5 _ (q_C (Kd.C_below a9.out y.out)) b0.out (q_C (Kd.C_below b1.out y.out)) b2.out (q_C (Kd.C_below a5.out y.out)) g8.out R0.out).mono ?_
 rintro e V6 ⟨O3, rfl, F9, hb⟩
 refine ⟨_, rfl, ?_⟩
 have K0 := a_ (Kd.R_lower F9 (below_size (q_w1 y.out z.out))); replace z6 := a_ (Kd.S_below (by (with_reducible repeat (first | apply Kd.S_alloc | apply Kd.S_drewN | apply Kd.S_drew)); exact z6.out) hb); replace l := a_ (q_bk l.out hb); replace y := a_ (q_st1 y.out hb z.out); (try clear hb)
 (try clear i7)
 (try clear hk)
 (try clear hi)
 (try clear F9)
 refine q_nk hK.out (q_g5_ l.out) (fun G => ?_)
 clear hK K
 refine pure_ (i := 4) (N := some 5) (v := ?_) (a' := ?_) qb6_159 rfl rfl (by kernel_rfl) (fun _ _ _ h => h) (Or.inl ⟨by rfl, ?_⟩) ?_ ?_
 rotate_left
 {
 intro w'
 go_simp
 with_reducible rfl}
 rotate_left
 {
 simp only [Act.put, List.setIfInBounds_toArray, List.set_cons_zero, List.set_cons_succ, i64_w, i32_w]
 rfl}
 refine pure_ (i := 5) (N := some 6) (v := ?_) (a' := ?_) qb6_160 rfl rfl (by kernel_rfl) (fun _ _ _ h => h) (Or.inl ⟨by rfl, ?_⟩) ?_ ?_
 rotate_left
 {
 intro w'
 go_simp
 with_reducible rfl}
 rotate_left
 {
 simp only [Act.put, List.setIfInBounds_toArray, List.set_cons_zero, List.set_cons_succ, i64_w, i32_w]
 rfl}
 refine done_ (by kernel_rfl) ?_
 try go_wp2
 go_loopg [7] k2 (fun kq v7 w' => ∃ (q : Int), v7 = .int .i64 q ∧ Aside0 (r6_Valid.l1 kq d4 d5 q I E F J p = some r) ∧ Aside0 (kq ≤ k2) ∧ Aside0 (Kd.S (Kd.slice 3 (Kd.int .i64)) 27 w' w.heap.size (fun _ => True) J3 d4) ∧ Aside0 (Kd.R Kd.bool 4 w' w.heap.size (fun _ => True) O3 d5) ∧ Aside0 (w'.heap[b6]? = some (.cells #[.string I, (.slice V E.length X), (.slice a0 F.length a1), .int .i64 J, (.slice d7 p.length a4)] 26 (0, 0))) ∧ Aside0 (Below w.heap.size w w'))
 case atStart => exact ⟨(0), q_r, H', ⟨Nat.le_refl _⟩, ⟨by (with_reducible repeat (first | apply Kd.S_alloc | apply Kd.S_drewN | apply Kd.S_drew)); exact z6.out⟩, ⟨by (with_reducible repeat (first | apply Kd.R_alloc | apply Kd.R_drewN | apply Kd.R_drew)); exact K0.out⟩, ⟨q_k l.out⟩, ⟨q_w1 y.out z.out⟩⟩
 case round => (
 clear H'; try clear c1
 try clear p1
 try clear q1
 try clear R1
 try clear c2
 try clear p2
 try clear c3
 try clear c4
 try clear p6
 try clear J8
 try clear O4
 try clear O5
 try clear O6
 try clear R2
 try clear c25b0
 try clear R3
 try clear R4
 try clear c27b0
 try clear D8
 try clear t7
 try clear t8
 try clear t9
 try clear v0
 try clear v1
 try clear w4
 try clear w5
 try clear w6
 try clear w7
 try clear w9
 try clear x5
 try clear x6
 try clear x7
 try clear x8
 try clear x9
 try clear v2
 try clear v5
 try clear v6
 try clear v8
 try clear w2
 try clear x0
 try clear x1
 try clear x2
 try clear x3
 try clear x4
 try clear y0
 try clear y1
 try clear y2
 try clear y3
 try clear y4
 try clear d8
 try clear d9
 try clear e0
 try clear e1
 try clear e2
 try clear L
 try clear M
 try clear O
 try clear T
 try clear U
 try clear D4
 try clear e3
 try clear D5
 try clear e4
 obtain ⟨q, rfl, HA, y5, HO_5, HO_6, l, y⟩ := hrel; cases gk with
 | zero => exact absurd HA.out (by simp [r6_Valid.l1])
 | succ k3 => (
 have H := HA.out; clear HA; simp only [r6_Valid.l1] at H
 rcases q_ite H with ⟨c44b0, H⟩ | ⟨c44b0, H⟩
 {
 replace H := q_gD H; obtain ⟨-, c45b0, H⟩ := H; replace H := q_gD H; obtain ⟨-, c46b0, H⟩ := H; obtain ⟨J4, z7⟩ : ∃ b_ : Bool, b_ = (rdOf false d5 q) := ⟨_, rfl⟩; replace H : (if J4 = true then (r6_Valid.l2 k3 d4 d5 q ((rd_T69 p q).f0) 0 I E F J p) else (some false)) = some r := by rw [← z7] at H; exact H
 have G1 := a_ z7; clear z7; by_cases G2 : J4 = true
 {
 subst G2; rw [if_pos rfl] at H; have H' := a_ H
 clear H; obtain ⟨G3, G4, G5, G6, G7, G8, G9, H0, H1, H2⟩ := q_cf5 l.out; obtain ⟨T6, O7, O8⟩ := Kd.R_slice HO_6.out; subst O8; have g6 : 0 ≤ (q : Int) := q_d
 have g7 : q < (d5.length : Int) := q_d
 obtain ⟨H3, H4, e7⟩ := Kd.at_bool (Kd.R_reads' HO_6.out).2.2 q g6 g7; (try rw [← G1.out] at e7)
 cases H4; replace g6 := eq_true g6; replace g7 := eq_true g7; obtain ⟨z8, Q4, d2, O9, H5, H6, H7, H8, H9, y6, y7, P0, P1⟩ := b_T69 a5.out y.out q; cases O9; have e8 := a_ y7; have e9 := a_ y6; clear y7 y6; go_wp2
 go_loopg [9] k3 (fun kq v9 w' => ∃ (B : Int), v9 = .int .i64 B ∧ Aside0 (r6_Valid.l2 kq d4 d5 q ((rd_T69 p q).f0) B I E F J p = some r) ∧ Aside0 (kq ≤ k3) ∧ Aside0 (Kd.S (Kd.slice 3 (Kd.int .i64)) 27 w' w.heap.size (fun _ => True) J3 d4) ∧ Aside0 (Kd.R Kd.bool 4 w' w.heap.size (fun _ => True) (.slice (some H3) d5.length O7) d5) ∧ Aside0 (w'.heap[b6]? = some (.cells #[.string I, (.slice V E.length X), (.slice a0 F.length a1), .int .i64 J, (.slice (some z8) p.length a4)] 26 (0, 0))) ∧ Aside0 (Below w.heap.size w w'))
 case atStart => exact ⟨(0), q_r, H', ⟨Nat.le_refl _⟩, ⟨by (with_reducible repeat (first | apply Kd.S_alloc | apply Kd.S_drewN | apply Kd.S_drew)); exact HO_5.out⟩, ⟨by (with_reducible repeat (first | apply Kd.R_alloc | apply Kd.R_drewN | apply Kd.R_drew)); exact HO_6.out⟩, ⟨q_k l.out⟩, ⟨q_w1 y.out z.out⟩⟩
 case round => (
 clear H'; try clear c1
 try clear p1
 try clear q1
 try clear R1
 try clear c2
 try clear p2
 try clear c3
 try clear c4
 try clear q4
 try clear p6
 try clear J8
 try clear O4
 try clear O5
 try clear O6
 try clear W0
 try clear W1
 try clear W2
 try clear T7
 try clear R2
 try clear c25b0
 try clear R3
 try clear R4
 try clear c27b0
 try clear D8
 try clear W3
 try clear c44b0
 try clear W4
 try clear c45b0
 try clear W5
 try clear c46b0
 try clear W6
 try clear W7
 try clear G2
 try clear t7
 try clear t8
 try clear t9
 try clear v0
 try clear v1
 try clear w4
 try clear w5
 try clear w6
 try clear w7
 try clear w9
 try clear x5
 try clear x6
 try clear x7
 try clear x8
 try clear x9
 try clear G3
 try clear G4
 try clear G5
 try clear G6
 try clear G7
 try clear v2
 try clear v5
 try clear v6
 try clear v8
 try clear w2
 try clear x0
 try clear x1
 try clear x2
 try clear x3
 try clear x4
 try clear y0
 try clear y1
 try clear y2
 try clear y3
 try clear y4
 try clear G8
 try clear G9
 try clear H0
 try clear H1
 try clear H2
 try clear d8
 try clear d9
 try clear e0
 try clear e1
 try clear e2
 try clear L
 try clear M
 try clear O
 try clear T
 try clear U
 try clear e7
 try clear H5
 try clear H6
 try clear H7
 try clear H8
 try clear H9
 try clear p1
 try clear O4
 try clear D4
 try clear e3
 try clear g6
 try clear P0
 try clear p2
 try clear p6
 try clear q1
 try clear O5
 try clear D5
 try clear e4
 try clear g7
 try clear P1
 obtain ⟨B, rfl, HA, y8, HO_5, HO_6, l, y⟩ := hrel; cases gk with
 | zero => exact absurd HA.out (by simp [r6_Valid.l2])
 | succ k4 => (
 have H := HA.out; clear HA; simp only [r6_Valid.l2] at H
 rcases q_ite H with ⟨c51b0, H⟩ | ⟨c51b0, H⟩
 {
 replace H := q_gD H; obtain ⟨-, c52b0, H⟩ := H; replace H := q_gD H; obtain ⟨-, c53b0, H⟩ := H; replace H := q_gD H; obtain ⟨-, c54b0, H⟩ := H; replace H := Option.bind_eq_some_iff.mp H; obtain ⟨J5, J6, H⟩ := H; have R6 := a_ J6; clear J6; obtain ⟨a8, d6⟩ : ∃ j_ : Int, (wrap64 (B - 1)) = j_ := ⟨_, rfl⟩; simp only [d6] at H
 have hji63w : (IntKind.i64.wrap (B - 1)) = a8 := (i64_w _).trans d6
 try go_wp2
 have a6 := a_ (Kd.S_drew HO_5.out); have a7 := a_ (Kd.R_drew HO_6.out); have G0 := a_ (blk_drew l.out); have P2 := a_ (below_drew1 y.out); clear HO_5 HO_6 l y; have HO_5 := a6; have HO_6 := a7; have l := G0; have y := P2; clear a6 a7 G0 P2; have I0 : 0 ≤ (B : Int) := q_d
 have I1 : B < (((rd_T69 p q).f0).length : Int) := q_d
 obtain ⟨b4, D6, D7, P3, f7, f8, f9, g0, g1, g2, g3, y9, z0⟩ := at_T71 e8.out B I0 I1; cases P3; have I2 := a_ z0; have I3 := a_ y9; clear z0 y9; replace I0 := eq_true I0; replace I1 := eq_true I1; have hpw : (0 ≤ a8 ∧ a8 < (((rd_T69 p q).f0).length : Int) → w.cell? (b4.add ((a8).toNat * 7)) = some (.int .i64 ((rd_T71 ((rd_T69 p q).f0) a8).f0))) := by {
 rintro ⟨hp_, hq_⟩
 obtain ⟨K2, _, _, P4, I4, _⟩ := at_T71 e8.out a8 hp_ hq_; obtain rfl : b4 = K2 := (by injection P4)
 exact I4}
 obtain ⟨U0, U1, P5⟩ := Kd.S_slice HO_5.out; subst P5; have I5 : 0 ≤ (q : Int) := q_d
 have I6 : q < (d4.length : Int) := q_d
 obtain ⟨K3, I7, I8, P6, i0, _, _⟩ := at_L2 (Kd.S_reads' HO_5.out).2.2 q I5 I6; cases P6; replace I5 := eq_true I5; replace I6 := eq_true I6; refine zs_ 48 (S := fun w' => cg5 w' b6 (.string I) (.slice V E.length X) (.slice a0 F.length a1) (.int .i64 J) (.slice (some z8) p.length a4) (cp7 w' (b4.add ((B).toNat * 7)) (.int .i64 ((rd_T71 ((rd_T69 p q).f0) B).f0)) (.int .i64 ((rd_T71 ((rd_T69 p q).f0) B).f1)) (.int .i64 ((rd_T71 ((rd_T69 p q).f0) B).f2)) (.int .i64 ((rd_T71 ((rd_T69 p q).f0) B).f3)) (.int .i64 ((rd_T71 ((rd_T69 p q).f0) B).f4)) (.int .i32 ((rd_T71 ((rd_T69 p q).f0) B).f5)) (.slice D6 ((rd_T71 ((rd_T69 p q).f0) B).f6).length D7) (w'.cell? (K3.add (q).toNat) = some (.slice I7 (rd_L2 d4 q).length I8) ∧ (0 ≤ a8 ∧ a8 < (((rd_T69 p q).f0).length : Int) → w'.cell? (b4.add ((a8).toNat * 7)) = some (.int .i64 ((rd_T71 ((rd_T69 p q).f0) a8).f0)))))) ⟨q_b l.out 0, q_b l.out 1, q_b l.out 2, q_b l.out 3, q_b l.out 4, (q_kc y.out f7), (q_kc y.out f8), (q_kc y.out f9), (q_kc y.out g0), (q_kc y.out g1), (q_kc y.out g2), (q_kc y.out g3), i0, fun h_ => q_kc y.out (hpw h_)⟩ (fun G => ?_)
 refine with_tabW r6_Valid.tab20 r6_Valid.bits20 (fun b d3 => ?_)
 generalize wr.drew = W8 at HO_5 HO_6 l y i0 G ⊢
 refine zv_ 1 b ?_
 refine zv_ 2 b ?_
 refine zv_ 3 b ?_
 refine zv_ 5 b ?_
 refine zv_ 6 b ?_
 refine zv_ 7 b ?_
 refine zt_ 0 b d3 G ?_
 refine zt_ 4 b d3 G ?_
 refine zt_ 8 b d3 G ?_
 refine zv_ 9 b ?_
 refine zo_ 10 b (fun K hK => ?_)
 refine q_go #[.agg #[.string I, .slice V E.length X, .slice a0 F.length a1, .int .i64 J, .slice (some z8) p.length a4], .agg #[.int .i64 ((rd_T71 ((rd_T69 p q).f0) B).f0), .int .i64 ((rd_T71 ((rd_T69 p q).f0) B).f1), .int .i64 ((rd_T71 ((rd_T69 p q).f0) B).f2), .int .i64 ((rd_T71 ((rd_T69 p q).f0) B).f3), .int .i64 ((rd_T71 ((rd_T69 p q).f0) B).f4), .int .i32 ((rd_T71 ((rd_T69 p q).f0) B).f5), .slice D6 ((rd_T71 ((rd_T69 p q).f0) B).f6).length D7], .int .i64 ((rd_L2 d4 q).length : Int)] Tryd.func49 rfl ?_
 with_reducible refine (r6_instr.calls k4 I _ _ E _ _ F J _ _ p ((rd_T71 ((rd_T69 p q).f0) B).f0) ((rd_T71 ((rd_T69 p q).f0) B).f1) ((rd_T71 ((rd_T69 p q).f0) B).f2) ((rd_T71 ((rd_T69 p q).f0) B).f3) ((rd_T71 ((rd_T69 p q).f0) B).f4) ((rd_T71 ((rd_T69 p q).f0) B).f5) _ _ ((rd_T71 ((rd_T69 p q).f0) B).f6) ((rd_L2 d4 q).length : Int) J5 _ (q_C (Kd.C_below a9.out y.out)) b0.out (q_C (Kd.C_below b1.out y.out)) b2.out (q_C (Kd.C_below a5.out y.out)) g8.out (q_C (Kd.C_below I2.out y.out)) I3.out R6.out).mono ?_
 rintro e W9 ⟨rfl, hb⟩
 have z9 := q_kc hb (G.2.2.2.2.2.2.2.2.2.2.2.2.1); have A0 := fun h_ => q_kc hb (G.2.2.2.2.2.2.2.2.2.2.2.2.2 h_)
 refine ⟨_, rfl, ?_⟩
 replace HO_5 := a_ (Kd.S_below (by (with_reducible repeat (first | apply Kd.S_alloc | apply Kd.S_drewN | apply Kd.S_drew)); exact HO_5.out) hb); replace HO_6 := a_ (Kd.R_below (by (with_reducible repeat (first | apply Kd.R_alloc | apply Kd.R_drewN | apply Kd.R_drew)); exact HO_6.out) hb); replace l := a_ (q_bk l.out hb); replace y := a_ (q_st1 y.out hb z.out); clear hb i0; refine q_nk hK.out (q_g5 l.out ⟨(q_kc y.out f7), (q_kc y.out f8), (q_kc y.out f9), (q_kc y.out g0), (q_kc y.out g1), (q_kc y.out g2), (q_kc y.out g3), z9, A0⟩) (fun G => ?_)
 clear hK K
 cases J5
 {
 rw [if_neg (show ¬ (false = true) by decide)] at H
 obtain rfl := Option.some.inj H; refine zv_ 11 b ?_
 refine zv_ 12 b ?_
 refine zu_ 13 b ?_
 refine zu_ 14 b ?_
 refine zu_ 15 b ?_
 refine zu_ 16 b ?_
 refine zu_ 17 b ?_
 refine zu_ 18 b ?_
 refine zu_ 19 b ?_
 refine zu_ 20 b ?_
 refine zu_ 21 b ?_
 refine zu_ 22 b ?_
 refine zu_ 23 b ?_
 refine zu_ 24 b ?_
 refine zu_ 25 b ?_
 refine zu_ 26 b ?_
 refine zu_ 27 b ?_
 refine zu_ 28 b ?_
 refine zu_ 29 b ?_
 refine zu_ 30 b ?_
 refine zu_ 31 b ?_
 refine zu_ 32 b ?_
 refine zu_ 33 b ?_
 refine zu_ 34 b ?_
 refine zu_ 35 b ?_
 refine zu_ 36 b ?_
 refine zu_ 37 b ?_
 refine zu_ 38 b ?_
 refine zu_ 39 b ?_
 refine zu_ 40 b ?_
 refine zu_ 41 b ?_
 refine zu_ 42 b ?_
 refine zu_ 43 b ?_
 refine zu_ 44 b ?_
 refine zu_ 45 b ?_
 refine zu_ 46 b ?_
 refine zv_ 47 b ?_
 refine done_ (done_of b.out (by kernel_rfl)) ?_
 try go_wp2
 go_ret
 exact ⟨(by first | rfl | (simp [errW_none, errW_some] <;> rfl) | (simp only [← d6]; first | rfl | (simp [errW_none, errW_some] <;> rfl)) | (simp [*, errW_none, errW_some] <;> rfl)), q_w1 y.out z.out⟩}
 rw [if_pos rfl] at H; refine zv_ 11 b ?_
 refine zv_ 12 b ?_
 refine zv_ 13 b ?_
 refine zv_ 14 b ?_
 refine zv_ 15 b ?_
 refine zv_ 16 b ?_
 refine zt_ 17 b d3 G ?_
 replace H := q_iBN H; rcases H with ⟨-, c57b0, c57b1, H⟩ | ⟨-, c57b0, c57b1, H⟩
 {
 replace H := q_iBN H; rcases H with ⟨-, c58b0, c58b1, H⟩ | ⟨-, c58b0, c58b1, H⟩
 {
 obtain rfl := Option.some.inj H; refine zv_ 18 b ?_
 refine zv_ 19 b ?_
 refine zv_ 20 b ?_
 refine zv_ 21 b ?_
 refine zv_ 22 b ?_
 refine zu_ 23 b ?_
 refine zu_ 24 b ?_
 refine zu_ 25 b ?_
 refine zu_ 26 b ?_
 refine zu_ 27 b ?_
 refine zu_ 28 b ?_
 refine zu_ 29 b ?_
 refine zu_ 30 b ?_
 refine zu_ 31 b ?_
 refine zu_ 32 b ?_
 refine zu_ 33 b ?_
 refine zv_ 34 b ?_
 refine zv_ 35 b ?_
 refine zu_ 36 b ?_
 refine zu_ 37 b ?_
 refine zu_ 38 b ?_
 refine zu_ 39 b ?_
 refine zu_ 40 b ?_
 refine zu_ 41 b ?_
 refine zu_ 42 b ?_
 refine zu_ 43 b ?_
 refine zu_ 44 b ?_
 refine zv_ 45 b ?_
 refine zv_ 46 b ?_
 refine zv_ 47 b ?_
 refine done_ (done_of b.out (by kernel_rfl)) ?_
 try go_wp2
 go_ret
 exact ⟨(by first | rfl | (simp [errW_none, errW_some] <;> rfl) | (simp only [← d6]; first | rfl | (simp [errW_none, errW_some] <;> rfl)) | (simp [*, errW_none, errW_some] <;> rfl)), q_w1 y.out z.out⟩}
 {
 rcases q_ite H with ⟨c62b0, H⟩ | ⟨c62b0, H⟩
 {
 replace H := q_gD H; obtain ⟨-, c64b0, H⟩ := H; replace H := q_gD H; obtain ⟨-, c65b0, H⟩ := H; have P7 := eq_true (q_d : 0 ≤ a8); have P8 := eq_true (q_d : a8 < (((rd_T69 p q).f0).length : Int)); have P9 : 0 ≤ a8 ∧ a8 < (((rd_T69 p q).f0).length : Int) := ⟨of_eq_true P7, of_eq_true P8⟩
 refine zv_ 18 b ?_
 refine zv_ 19 b ?_
 refine zv_ 20 b ?_
 refine zv_ 21 b ?_
 refine zv_ 22 b ?_
 refine zv_ 23 b ?_
 refine zv_ 24 b ?_
 refine zv_ 25 b ?_
 refine zv_ 26 b ?_
 refine zv_ 27 b ?_
 refine zv_ 28 b ?_
 refine zv_ 29 b ?_
 refine zv_ 30 b ?_
 refine zt_ 31 b d3 G ?_ (hy := by rintro w' ⟨s0, s1, s2, s3, s4, s5, s6, s7, s8, s9, X0, X1, X2, Q0⟩; replace Q0 := Q0 P9; go_simp; with_reducible rfl)
 replace H := q_iBN H; rcases H with ⟨-, c66b0, c66b1, H⟩ | ⟨-, c66b0, c66b1, H⟩
 {
 refine zv_ 32 b ?_
 refine zv_ 33 b ?_
 refine zv_ 34 b ?_
 refine zv_ 35 b ?_
 have c68c := eq_true (q_d : 0 ≤ B); replace H := q_gDE H; obtain ⟨Q1, c68b1, R7, H⟩ := H; obtain ⟨g4, b5⟩ : ∃ y_ : List (S71), y_ = (((rd_T69 p q).f0).take (B : Int).toNat) := ⟨_, rfl⟩; rw [← b5] at H; obtain ⟨Q2, i1, _, A1, _⟩ := info_parts info71; have i6 := cut_to (P := Tryd.prog) 67 71 .i64 Tryd.underlying67 i1 (some b4) ((rd_T69 p q).f0).length d2 B (q_d) Q1 e9.out; have z1 : Kd.C k71 _ (some b4) ((rd_T69 p q).f0).length ((rd_T69 p q).f0) := e8.out
 have i2 := Kd.C_take (m := (B : Int).toNat) z1 (by omega)
 have z2 : g4.length = (B : Int).toNat := (by rw [b5, List.length_take]; omega)
 rw [← b5] at i2; rw [← z2] at i6; have A2 := a_ i2; have A3 := a_ (show g4.length ≤ d2 from by have := e9.out; omega)
 clear i2 z1 i1 A1 b5 z2 Q1; replace H := Option.bind_eq_some_iff.mp H; obtain ⟨z3, z4, H⟩ := H; have K4 := a_ z4; clear z4; refine zv_ 36 b ?_
 refine zv_ 37 b ?_
 refine zv_ 38 b ?_
 refine zv_ 39 b ?_
 refine zv_ 40 b ?_
 refine zv_ 41 b ?_
 refine zv_ 42 b ?_
 refine zt_ 43 b d3 G ?_
 refine zo_ 44 b (fun K hK => ?_)
 refine q_go #[.slice (some b4) g4.length d2, .int .i64 ((rd_T71 ((rd_T69 p q).f0) B).f2)] Tryd.func50 rfl ?_
 with_reducible refine (r6_twice.calls k4 _ _ g4 ((rd_T71 ((rd_T69 p q).f0) B).f2) z3 _ (q_C (Kd.C_below A2.out y.out)) A3.out K4.out).mono ?_
 rintro e w' ⟨rfl, ⟨nd, rfl⟩⟩
 refine ⟨_, rfl, ?_⟩
 have HBn := a_ (pw_below_drewN y.out nd); refine q_nk hK.out (q_g5 l.out ⟨(q_kc HBn.out f7), (q_kc HBn.out f8), (q_kc HBn.out f9), (q_kc HBn.out g0), (q_kc HBn.out g1), (q_kc HBn.out g2), (q_kc HBn.out g3), z9, A0⟩) (fun G => ?_)
 clear hK K
 cases z3
 {
 rw [if_neg (show ¬ (false = true) by decide)] at H
 have H' := a_ H
 clear H; refine zv_ 45 b ?_
 refine zv_ 46 b ?_
 refine zv_ 47 b ?_
 refine done_ (done_of b.out (by kernel_rfl)) ?_
 try go_wp2
 go_roundg k4
 case measure => have := i3.out; have := i4.out; have := y5.out; have := y8.out; omega
 case rel => exact ⟨(wrap64 (B + 1)), q_r, H', ⟨by have := i3.out; have := i4.out; have := y5.out; have := y8.out; omega⟩, ⟨by (with_reducible repeat (first | apply Kd.S_alloc | apply Kd.S_drewN | apply Kd.S_drew)); exact HO_5.out⟩, ⟨by (with_reducible repeat (first | apply Kd.R_alloc | apply Kd.R_drewN | apply Kd.R_drew)); exact HO_6.out⟩, ⟨q_k l.out⟩, ⟨q_w1 y.out z.out⟩⟩}
 {
 rw [if_pos rfl] at H; obtain rfl := Option.some.inj H; refine zv_ 45 b ?_
 refine zv_ 46 b ?_
 refine zv_ 47 b ?_
 refine done_ (done_of b.out (by kernel_rfl)) ?_
 try go_wp2
 go_ret
 exact ⟨(by first | rfl | (simp [errW_none, errW_some] <;> rfl) | (simp only [← d6]; first | rfl | (simp [errW_none, errW_some] <;> rfl)) | (simp [*, errW_none, errW_some] <;> rfl)), q_w1 y.out z.out⟩}}
 {
 obtain rfl := Option.some.inj H; refine zv_ 32 b ?_
 refine zv_ 33 b ?_
 refine zv_ 34 b ?_
 refine zv_ 35 b ?_
 refine zu_ 36 b ?_
 refine zu_ 37 b ?_
 refine zu_ 38 b ?_
 refine zu_ 39 b ?_
 refine zu_ 40 b ?_
 refine zu_ 41 b ?_
 refine zu_ 42 b ?_
 refine zu_ 43 b ?_
 refine zu_ 44 b ?_
 refine zv_ 45 b ?_
 refine zv_ 46 b ?_
 refine zv_ 47 b ?_
 refine done_ (done_of b.out (by kernel_rfl)) ?_
 try go_wp2
 go_ret
 exact ⟨(by first | rfl | (simp [errW_none, errW_some] <;> rfl) | (simp only [← d6]; first | rfl | (simp [errW_none, errW_some] <;> rfl)) | (simp [*, errW_none, errW_some] <;> rfl)), q_w1 y.out z.out⟩}}
 {
 refine zv_ 18 b ?_
 refine zv_ 19 b ?_
 refine zv_ 20 b ?_
 refine zv_ 21 b ?_
 refine zv_ 22 b ?_
 refine zv_ 23 b ?_
 refine zv_ 24 b ?_
 refine zv_ 25 b ?_
 refine zu_ 26 b ?_
 refine zu_ 27 b ?_
 refine zu_ 28 b ?_
 refine zu_ 29 b ?_
 refine zu_ 30 b ?_
 refine zu_ 31 b ?_
 refine zu_ 32 b ?_
 refine zv_ 33 b ?_
 refine zv_ 34 b ?_
 refine zv_ 35 b ?_
 have c83c := eq_true (q_d : 0 ≤ B); replace H := q_gDE H; obtain ⟨Q3, c83b1, R7, H⟩ := H; obtain ⟨g4, b5⟩ : ∃ y_ : List (S71), y_ = (((rd_T69 p q).f0).take (B : Int).toNat) := ⟨_, rfl⟩; rw [← b5] at H; obtain ⟨Q2, i1, _, A1, _⟩ := info_parts info71; have i6 := cut_to (P := Tryd.prog) 67 71 .i64 Tryd.underlying67 i1 (some b4) ((rd_T69 p q).f0).length d2 B (q_d) Q3 e9.out; have z1 : Kd.C k71 _ (some b4) ((rd_T69 p q).f0).length ((rd_T69 p q).f0) := e8.out
 have i2 := Kd.C_take (m := (B : Int).toNat) z1 (by omega)
 have z2 : g4.length = (B : Int).toNat := (by rw [b5, List.length_take]; omega)
 rw [← b5] at i2; rw [← z2] at i6; have A2 := a_ i2; have A3 := a_ (show g4.length ≤ d2 from by have := e9.out; omega)
 clear i2 z1 i1 A1 b5 z2 Q3; replace H := Option.bind_eq_some_iff.mp H; obtain ⟨z3, z4, H⟩ := H; have K4 := a_ z4; clear z4; refine zv_ 36 b ?_
 refine zv_ 37 b ?_
 refine zv_ 38 b ?_
 refine zv_ 39 b ?_
 refine zv_ 40 b ?_
 refine zv_ 41 b ?_
 refine zv_ 42 b ?_
 refine zt_ 43 b d3 G ?_
 refine zo_ 44 b (fun K hK => ?_)
 refine q_go #[.slice (some b4) g4.length d2, .int .i64 ((rd_T71 ((rd_T69 p q).f0) B).f2)] Tryd.func50 rfl ?_
 with_reducible refine (r6_twice.calls k4 _ _ g4 ((rd_T71 ((rd_T69 p q).f0) B).f2) z3 _ (q_C (Kd.C_below A2.out y.out)) A3.out K4.out).mono ?_
 rintro e w' ⟨rfl, ⟨nd, rfl⟩⟩
 refine ⟨_, rfl, ?_⟩
 have HBn := a_ (pw_below_drewN y.out nd); refine q_nk hK.out (q_g5 l.out ⟨(q_kc HBn.out f7), (q_kc HBn.out f8), (q_kc HBn.out f9), (q_kc HBn.out g0), (q_kc HBn.out g1), (q_kc HBn.out g2), (q_kc HBn.out g3), z9, A0⟩) (fun G => ?_)
 clear hK K
 cases z3
 {
 rw [if_neg (show ¬ (false = true) by decide)] at H
 have H' := a_ H
 clear H; refine zv_ 45 b ?_
 refine zv_ 46 b ?_
 refine zv_ 47 b ?_
 refine done_ (done_of b.out (by kernel_rfl)) ?_
 try go_wp2
 go_roundg k4
 case measure => have := i3.out; have := i4.out; have := y5.out; have := y8.out; omega
 case rel => exact ⟨(wrap64 (B + 1)), q_r, H', ⟨by have := i3.out; have := i4.out; have := y5.out; have := y8.out; omega⟩, ⟨by (with_reducible repeat (first | apply Kd.S_alloc | apply Kd.S_drewN | apply Kd.S_drew)); exact HO_5.out⟩, ⟨by (with_reducible repeat (first | apply Kd.R_alloc | apply Kd.R_drewN | apply Kd.R_drew)); exact HO_6.out⟩, ⟨q_k l.out⟩, ⟨q_w1 y.out z.out⟩⟩}
 {
 rw [if_pos rfl] at H; obtain rfl := Option.some.inj H; refine zv_ 45 b ?_
 refine zv_ 46 b ?_
 refine zv_ 47 b ?_
 refine done_ (done_of b.out (by kernel_rfl)) ?_
 try go_wp2
 go_ret
 exact ⟨(by first | rfl | (simp [errW_none, errW_some] <;> rfl) | (simp only [← d6]; first | rfl | (simp [errW_none, errW_some] <;> rfl)) | (simp [*, errW_none, errW_some] <;> rfl)), q_w1 y.out z.out⟩}}}}
 {
 have H' := a_ H
 clear H; refine zv_ 18 b ?_
 refine zv_ 19 b ?_
 refine zu_ 20 b ?_
 refine zu_ 21 b ?_
 refine zu_ 22 b ?_
 refine zu_ 23 b ?_
 refine zu_ 24 b ?_
 refine zu_ 25 b ?_
 refine zu_ 26 b ?_
 refine zu_ 27 b ?_
 refine zu_ 28 b ?_
 refine zu_ 29 b ?_
 refine zu_ 30 b ?_
 refine zu_ 31 b ?_
 refine zu_ 32 b ?_
 refine zu_ 33 b ?_
 refine zu_ 34 b ?_
 refine zu_ 35 b ?_
 refine zu_ 36 b ?_
 refine zu_ 37 b ?_
 refine zu_ 38 b ?_
 refine zu_ 39 b ?_
 refine zu_ 40 b ?_
 refine zu_ 41 b ?_
 refine zu_ 42 b ?_
 refine zu_ 43 b ?_
 refine zu_ 44 b ?_
 refine zu_ 45 b ?_
 refine zv_ 46 b ?_
 refine zv_ 47 b ?_
 refine done_ (done_of b.out (by kernel_rfl)) ?_
 try go_wp2
 go_roundg k4
 case measure => have := i3.out; have := i4.out; have := y5.out; have := y8.out; omega
 case rel => exact ⟨(wrap64 (B + 1)), q_r, H', ⟨by have := i3.out; have := i4.out; have := y5.out; have := y8.out; omega⟩, ⟨by (with_reducible repeat (first | apply Kd.S_alloc | apply Kd.S_drewN | apply Kd.S_drew)); exact HO_5.out⟩, ⟨by (with_reducible repeat (first | apply Kd.R_alloc | apply Kd.R_drewN | apply Kd.R_drew)); exact HO_6.out⟩, ⟨q_k l.out⟩, ⟨q_w1 y.out z.out⟩⟩}}
 {
 have H' := a_ H
 clear H; go_wp2
 go_roundg k4
 case measure => have := i3.out; have := i4.out; have := y5.out; have := y8.out; omega
 case rel => exact ⟨(wrap64 (q + 1)), q_r, H', ⟨by have := i3.out; have := i4.out; have := y5.out; have := y8.out; omega⟩, ⟨by (with_reducible repeat (first | apply Kd.S_alloc | apply Kd.S_drewN | apply Kd.S_drew)); exact HO_5.out⟩, ⟨by (with_reducible repeat (first | apply Kd.R_alloc | apply Kd.R_drewN | apply Kd.R_drew)); exact HO_6.out⟩, ⟨q_k l.out⟩, ⟨q_w1 y.out z.out⟩⟩}))}
 {
 replace G2 := Bool.eq_false_iff.mpr G2; subst G2; rw [if_neg Bool.false_ne_true] at H; obtain rfl := Option.some.inj H; obtain ⟨K6, K7, K8, K9, L0, L1, L2, L3, L4, L5⟩ := q_cf5 l.out; obtain ⟨R9, S0, K5⟩ := Kd.R_slice HO_6.out; subst K5; have g6 : 0 ≤ (q : Int) := q_d
 have g7 : q < (d5.length : Int) := q_d
 obtain ⟨H3, H4, e7⟩ := Kd.at_bool (Kd.R_reads' HO_6.out).2.2 q g6 g7; (try rw [← G1.out] at e7)
 cases H4; replace g6 := eq_true g6; replace g7 := eq_true g7; go_wp2
 go_ret
 exact ⟨q_e, q_w1 y.out z.out⟩}}
 {
 obtain rfl := Option.some.inj H; obtain ⟨L6, L7, L8, L9, M0, M1, M2, M3, M4, M5⟩ := q_cf5 l.out; go_wp2
 go_ret
 exact ⟨q_e, q_w1 y.out z.out⟩}))}))}))
def r11_Error.f (k : Nat) (b : ByteArray) (l : List (S83)) (p : List (S85)) (q : Int) (y : List (S69)) : Option (Int) := (r6_Valid.f k b l p q y).bind fun z => (if z = true then ((r6_Phis.f k b l p q y).bind fun B => (if B > 0 then (some 6) else (some 0))) else (some 1))
theorem r11_Error.calls (k : Nat) (y : ByteArray) (E : Option Addr) (F : Nat) (l : List (S83)) (G : Option Addr) (I : Nat) (p : List (S85)) (z : Int) (J : Option Addr) (L : Nat) (q : List (S69)) (r : Int) (w : World) (X : Kd.C k83 w E l.length l) (a0 : l.length ≤ F) (a1 : Kd.C k85 w G p.length p) (a2 : p.length ≤ I) (a3 : Kd.C k69 w J q.length q) (a4 : q.length ≤ L) (h : r11_Error.f k y l p z q = some r) :
  Calls Tryd.prog 10 #[.agg #[.string y, .slice E l.length F, .slice G p.length I, .int .i64 z, .slice J q.length L]] w fun e w' => e = .returned (.int .i64 r) ∧ Below w.heap.size w w' := by
 have g6 := Tryd.underlying26; have N := a_ X; have O := a_ a0; clear X a0; have R := a_ a1; have S := a_ a2; clear a1 a2; have T := a_ a3; have U := a_ a4; clear a3 a4; have D := a_ (Below.refl w.heap.size w); have H : ((r6_Valid.f k y l p z q).bind fun a5 => (if a5 = true then ((r6_Phis.f k y l p z q).bind fun V => (if V > 0 then (some 6) else (some 0))) else (some 1))) = some r := h
 clear h; replace H := Option.bind_eq_some_iff.mp H; obtain ⟨a5, a8, H⟩ := H; have A2 := a_ a8; clear a8; by_cases c3 : a5 = true
 {
 subst c3; rw [if_pos rfl] at H; replace H := Option.bind_eq_some_iff.mp H; obtain ⟨V, a9, H⟩ := H; have A4 := a_ a9; clear a9; rcases q_ite H with ⟨c5b0, H⟩ | ⟨c5b0, H⟩
 {
 obtain rfl := Option.some.inj H; go_enter Tryd.func10, Tryd.ntmps10
 go_wp2_with (first | ((with_reducible refine gd_ 1 rfl ?_); refine q_box 1 26 #[.string y, .slice E l.length F, .slice G p.length I, .int .i64 z, .slice J q.length L] ?_; intro a6 hg w6 M hb; have b := a_ (M); have a7 := a_ ((q_ge D.out hg)); have B := a_ ((q_ge D.out hg)); replace D := a_ (q_st D.out hb); clear hb M hg; obtain ⟨e5, e6, e7, e8, e9, f0, f1, f2, f3, f4⟩ := q_cf5 b.out) | ((with_reducible refine gc_ 27 rfl ?_); refine q_gl 4 #[.agg #[.string y, .slice E l.length F, .slice G p.length I, .int .i64 z, .slice J q.length L]] Tryd.func27 rfl ?_; (with_reducible refine (r6_Valid.calls k y _ _ l _ _ p z _ _ q true _ (q_C (Kd.C_below N.out D.out)) O.out (q_C (Kd.C_below R.out D.out)) S.out (q_C (Kd.C_below T.out D.out)) U.out A2.out).mono ?_); rintro e w8 ⟨rfl, hb⟩; refine ⟨_, rfl, ?_⟩; replace b := a_ (q_bk b.out hb); replace D := a_ (q_st1 D.out hb B.out); (clear hb); obtain ⟨f5, f6, f7, f8, f9, g0, g1, g2, g3, g4⟩ := q_cf5 b.out) | ((with_reducible refine gc_ 32 rfl ?_); refine q_gl 7 #[.agg #[.string y, .slice E l.length F, .slice G p.length I, .int .i64 z, .slice J q.length L]] Tryd.func32 rfl ?_; (with_reducible refine (r6_Phis.calls k y _ _ l _ _ p z _ _ q V _ (q_C (Kd.C_below N.out D.out)) O.out (q_C (Kd.C_below R.out D.out)) S.out (q_C (Kd.C_below T.out D.out)) U.out A4.out).mono ?_); rintro e g8 ⟨rfl, hb⟩; refine ⟨_, rfl, ?_⟩; replace b := a_ (q_bk b.out hb); replace D := a_ (q_st1 D.out hb B.out); (clear hb)))
 go_ret
 exact ⟨q_e, q_w1 D.out B.out⟩}
 {
 obtain rfl := Option.some.inj H; go_enter Tryd.func10, Tryd.ntmps10
 go_wp2_with (first | ((with_reducible refine gd_ 1 rfl ?_); refine q_box 1 26 #[.string y, .slice E l.length F, .slice G p.length I, .int .i64 z, .slice J q.length L] ?_; intro a6 hg g9 M hb; have b := a_ (M); have a7 := a_ ((q_ge D.out hg)); have B := a_ ((q_ge D.out hg)); replace D := a_ (q_st D.out hb); clear hb M hg; obtain ⟨b0, b1, b2, b3, b4, b5, b6, b7, b8, b9⟩ := q_cf5 b.out) | ((with_reducible refine gc_ 27 rfl ?_); refine q_gl 4 #[.agg #[.string y, .slice E l.length F, .slice G p.length I, .int .i64 z, .slice J q.length L]] Tryd.func27 rfl ?_; (with_reducible refine (r6_Valid.calls k y _ _ l _ _ p z _ _ q true _ (q_C (Kd.C_below N.out D.out)) O.out (q_C (Kd.C_below R.out D.out)) S.out (q_C (Kd.C_below T.out D.out)) U.out A2.out).mono ?_); rintro e i0 ⟨rfl, hb⟩; refine ⟨_, rfl, ?_⟩; replace b := a_ (q_bk b.out hb); replace D := a_ (q_st1 D.out hb B.out); (clear hb); obtain ⟨c0, c1, c4, c6, c8, c9, d0, d1, d2, d3⟩ := q_cf5 b.out) | ((with_reducible refine gc_ 32 rfl ?_); refine q_gl 7 #[.agg #[.string y, .slice E l.length F, .slice G p.length I, .int .i64 z, .slice J q.length L]] Tryd.func32 rfl ?_; (with_reducible refine (r6_Phis.calls k y _ _ l _ _ p z _ _ q V _ (q_C (Kd.C_below N.out D.out)) O.out (q_C (Kd.C_below R.out D.out)) S.out (q_C (Kd.C_below T.out D.out)) U.out A4.out).mono ?_); rintro e i1 ⟨rfl, hb⟩; refine ⟨_, rfl, ?_⟩; replace b := a_ (q_bk b.out hb); replace D := a_ (q_st1 D.out hb B.out); (clear hb)))
 go_ret
 exact ⟨q_e, q_w1 D.out B.out⟩}}
 {
 replace c3 := Bool.eq_false_iff.mpr c3; subst c3; rw [if_neg Bool.false_ne_true] at H; obtain rfl := Option.some.inj H; go_enter Tryd.func10, Tryd.ntmps10
 go_wp2_with (first | ((with_reducible refine gd_ 1 rfl ?_); refine q_box 1 26 #[.string y, .slice E l.length F, .slice G p.length I, .int .i64 z, .slice J q.length L] ?_; intro a6 hg i2 M hb; have b := a_ (M); have a7 := a_ ((q_ge D.out hg)); have B := a_ ((q_ge D.out hg)); replace D := a_ (q_st D.out hb); clear hb M hg; obtain ⟨d4, d5, d6, d7, d8, d9, e0, e1, e2, e3⟩ := q_cf5 b.out) | ((with_reducible refine gc_ 27 rfl ?_); refine q_gl 4 #[.agg #[.string y, .slice E l.length F, .slice G p.length I, .int .i64 z, .slice J q.length L]] Tryd.func27 rfl ?_; (with_reducible refine (r6_Valid.calls k y _ _ l _ _ p z _ _ q false _ (q_C (Kd.C_below N.out D.out)) O.out (q_C (Kd.C_below R.out D.out)) S.out (q_C (Kd.C_below T.out D.out)) U.out A2.out).mono ?_); rintro e i3 ⟨rfl, hb⟩; refine ⟨_, rfl, ?_⟩; replace b := a_ (q_bk b.out hb); replace D := a_ (q_st1 D.out hb B.out); (clear hb)))
 go_ret
 exact ⟨q_e, q_w1 D.out B.out⟩}
def l11_wide.f (k : Nat) (l : ByteArray) (p : List (S83)) (q : List (S85)) (b : Int) (y : List (S69)) : Option (Bool) := (l6_Wide.f k l p q b y).bind fun z => (if z = true then (some true) else (if b > 300 then ((r6_Valid.f k l p q b y).bind fun B => (some B)) else (some false)))
theorem l11_wide.calls (k : Nat) (z : ByteArray) (E : Option Addr) (F : Nat) (l : List (S83)) (G : Option Addr) (I : Nat) (p : List (S85)) (y : Int) (J : Option Addr) (L : Nat) (q : List (S69)) (r : Bool) (w : World) (V : Kd.C k83 w E l.length l) (X : l.length ≤ F) (a0 : Kd.C k85 w G p.length p) (a1 : p.length ≤ I) (a2 : Kd.C k69 w J q.length q) (a3 : q.length ≤ L) (h : l11_wide.f k z l p y q = some r) :
  Calls Tryd.prog 7 #[.agg #[.string z, .slice E l.length F, .slice G p.length I, .int .i64 y, .slice J q.length L]] w fun e w' => e = .returned (.bool r) ∧ Below w.heap.size w w' := by
 have g6 := Tryd.underlying26; have N := a_ V; have O := a_ X; clear V X; have R := a_ a0; have S := a_ a1; clear a0 a1; have T := a_ a2; have U := a_ a3; clear a2 a3; have D := a_ (Below.refl w.heap.size w); have H : ((l6_Wide.f k z l p y q).bind fun a4 => (if a4 = true then (some true) else (if y > 300 then ((r6_Valid.f k z l p y q).bind fun a5 => (some a5)) else (some false)))) = some r := h
 clear h; replace H := Option.bind_eq_some_iff.mp H; obtain ⟨a4, a8, H⟩ := H; have A2 := a_ a8; clear a8; by_cases c3 : a4 = true
 {
 subst c3; rw [if_pos rfl] at H; obtain rfl := Option.some.inj H; go_enter Tryd.func7, Tryd.ntmps7
 go_wp2_with (first | ((with_reducible refine gd_ 1 rfl ?_); refine q_box 1 26 #[.string z, .slice E l.length F, .slice G p.length I, .int .i64 y, .slice J q.length L] ?_; intro a6 hg w4 M hb; have b := a_ (M); have a7 := a_ ((q_ge D.out hg)); have B := a_ ((q_ge D.out hg)); replace D := a_ (q_st D.out hb); clear hb M hg; obtain ⟨f5, f6, f7, f8, f9, g0, g1, g2, g3, g4⟩ := q_cf5 b.out) | ((with_reducible refine gc_ 26 rfl ?_); refine q_gl 4 #[.agg #[.string z, .slice E l.length F, .slice G p.length I, .int .i64 y, .slice J q.length L]] Tryd.func26 rfl ?_; (with_reducible refine (l6_Wide.calls k z _ _ l _ _ p y _ _ q true _ (q_C (Kd.C_below N.out D.out)) O.out (q_C (Kd.C_below R.out D.out)) S.out (q_C (Kd.C_below T.out D.out)) U.out A2.out).mono ?_); rintro e w6 ⟨rfl, hb⟩; refine ⟨_, rfl, ?_⟩; replace b := a_ (q_bk b.out hb); replace D := a_ (q_st1 D.out hb B.out); (clear hb)))
 go_ret
 exact ⟨q_e, q_w1 D.out B.out⟩}
 {
 replace c3 := Bool.eq_false_iff.mpr c3; subst c3; rw [if_neg Bool.false_ne_true] at H; rcases q_ite H with ⟨c7b0, H⟩ | ⟨c7b0, H⟩
 {
 replace H := Option.bind_eq_some_iff.mp H; obtain ⟨a5, a9, H⟩ := H; have A8 := a_ a9; clear a9; obtain rfl := Option.some.inj H; go_enter Tryd.func7, Tryd.ntmps7
 go_wp2_with (first | ((with_reducible refine gd_ 1 rfl ?_); refine q_box 1 26 #[.string z, .slice E l.length F, .slice G p.length I, .int .i64 y, .slice J q.length L] ?_; intro a6 hg w9 M hb; have b := a_ (M); have a7 := a_ ((q_ge D.out hg)); have B := a_ ((q_ge D.out hg)); replace D := a_ (q_st D.out hb); clear hb M hg; obtain ⟨b0, b1, b2, b3, b4, b5, b6, b7, b8, b9⟩ := q_cf5 b.out) | ((with_reducible refine gc_ 26 rfl ?_); refine q_gl 4 #[.agg #[.string z, .slice E l.length F, .slice G p.length I, .int .i64 y, .slice J q.length L]] Tryd.func26 rfl ?_; (with_reducible refine (l6_Wide.calls k z _ _ l _ _ p y _ _ q false _ (q_C (Kd.C_below N.out D.out)) O.out (q_C (Kd.C_below R.out D.out)) S.out (q_C (Kd.C_below T.out D.out)) U.out A2.out).mono ?_); rintro e g8 ⟨rfl, hb⟩; refine ⟨_, rfl, ?_⟩; replace b := a_ (q_bk b.out hb); replace D := a_ (q_st1 D.out hb B.out); (clear hb); obtain ⟨c0, c1, c4, c6, c8, c9, d0, d1, d2, d3⟩ := q_cf5 b.out) | (go_at_call 27; (with_reducible refine (r6_Valid.calls k z _ _ l _ _ p y _ _ q a5 _ (q_C (Kd.C_below N.out D.out)) O.out (q_C (Kd.C_below R.out D.out)) S.out (q_C (Kd.C_below T.out D.out)) U.out A8.out).mono ?_); rintro e g9 ⟨rfl, hb⟩; replace b := a_ (q_bk b.out hb); replace D := a_ (q_st1 D.out hb B.out); (clear hb)))
 go_ret
 exact ⟨q_e, q_w1 D.out B.out⟩}
 {
 obtain rfl := Option.some.inj H; go_enter Tryd.func7, Tryd.ntmps7
 go_wp2_with (first | ((with_reducible refine gd_ 1 rfl ?_); refine q_box 1 26 #[.string z, .slice E l.length F, .slice G p.length I, .int .i64 y, .slice J q.length L] ?_; intro a6 hg i0 M hb; have b := a_ (M); have a7 := a_ ((q_ge D.out hg)); have B := a_ ((q_ge D.out hg)); replace D := a_ (q_st D.out hb); clear hb M hg; obtain ⟨d4, d5, d6, d7, d8, d9, e0, e1, e2, e3⟩ := q_cf5 b.out) | ((with_reducible refine gc_ 26 rfl ?_); refine q_gl 4 #[.agg #[.string z, .slice E l.length F, .slice G p.length I, .int .i64 y, .slice J q.length L]] Tryd.func26 rfl ?_; (with_reducible refine (l6_Wide.calls k z _ _ l _ _ p y _ _ q false _ (q_C (Kd.C_below N.out D.out)) O.out (q_C (Kd.C_below R.out D.out)) S.out (q_C (Kd.C_below T.out D.out)) U.out A2.out).mono ?_); rintro e i1 ⟨rfl, hb⟩; refine ⟨_, rfl, ?_⟩; replace b := a_ (q_bk b.out hb); replace D := a_ (q_st1 D.out hb B.out); (clear hb); obtain ⟨e4, e5, e6, e7, e8, e9, f0, f1, f2, f3⟩ := q_cf5 b.out))
 go_ret
 exact ⟨q_e, q_w1 D.out B.out⟩}}
def alloc_fits.l0 : Nat → List (S69) → Int → Int → Option (Int)
 | 0, _, _, _ => none
 | k + 1, p, l, b => if b < l then (if 0 ≤ b then (if b < (p.length : Int) then (if (((rd_T69 p b).f0).length : Int) > 0 then (if 0 < (((rd_T69 p b).f0).length : Int) then (if ((rd_T71 ((rd_T69 p b).f0) 0).f0) = 11 then (some 6) else (alloc_fits.l0 k p l (wrap64 (b + 1)))) else (none)) else (alloc_fits.l0 k p l (wrap64 (b + 1)))) else (none)) else (none)) else (some 0)
def alloc_fits.f (k : Nat) (l : ByteArray) (p : List (S83)) (q : List (S85)) (y : Int) (b : List (S69)) : Option (Int) := (flow_Valid.f k l p q y b).bind fun z => (if z = true then (alloc_fits.l0 k b (b.length : Int) 0) else (some 1))
theorem alloc_fits.calls (k : Nat) (a8 : ByteArray) (b1 : Option Addr) (b2 : Nat) (a4 : List (S83)) (b3 : Option Addr) (b4 : Nat) (a5 : List (S85)) (a9 : Int) (b5 : Option Addr) (b6 : Nat) (q : List (S69)) (r : Int) (w : World) (d4 : Kd.C k83 w b1 a4.length a4) (d5 : a4.length ≤ b2) (d6 : Kd.C k85 w b3 a5.length a5) (d7 : a5.length ≤ b4) (d8 : Kd.C k69 w b5 q.length q) (d9 : q.length ≤ b6) (h : alloc_fits.f k a8 a4 a5 a9 q = some r) (hT : Tab w) :
  Calls Tryd.prog 29 #[.agg #[.string a8, .slice b1 a4.length b2, .slice b3 a5.length b4, .int .i64 a9, .slice b5 q.length b6]] w fun e w' => e = .returned (.int .i64 r) ∧ Below w.heap.size w w' := by
 have HT := a_ hT; clear hT; have q4 := Tryd.underlying26; have q5 := Tryd.underlying69; have e0 := a_ d4; have e1 := a_ d5; clear d4 d5; have e2 := a_ d6; have e3 := a_ d7; clear d6 d7; have b7 := a_ d8; have e4 := a_ d9; clear d8 d9; have V := a_ (Below.refl w.heap.size w); have H : ((flow_Valid.f k a8 a4 a5 a9 q).bind fun e5 => (if e5 = true then (alloc_fits.l0 k q (q.length : Int) 0) else (some 1))) = some r := h
 clear h; replace H := Option.bind_eq_some_iff.mp H; obtain ⟨e5, j9, H⟩ := H; have A2 := a_ j9; clear j9; by_cases c3 : e5 = true
 {
 subst c3; rw [if_pos rfl] at H; have H' := a_ H
 clear H; go_enter Tryd.func29, Tryd.ntmps29
 go_wp2_with (first | ((with_reducible refine gd_ 1 rfl ?_); refine q_box 1 26 #[.string a8, .slice b1 a4.length b2, .slice b3 a5.length b4, .int .i64 a9, .slice b5 q.length b6] ?_; intro e6 hg w4 a3 hb; have R := a_ (a3); have j5 := a_ ((q_ge V.out hg)); have T := a_ ((q_ge V.out hg)); replace V := a_ (q_st V.out hb); clear hb a3 hg; obtain ⟨f6, f7, f8, f9, g0, g1, g2, g3, g4, g5⟩ := q_cf5 R.out) | ((with_reducible refine gc_ 43 rfl ?_); refine q_gl 6 #[.agg #[.string a8, .slice b1 a4.length b2, .slice b3 a5.length b4, .int .i64 a9, .slice b5 q.length b6]] Tryd.func43 rfl ?_; (with_reducible refine (flow_Valid.calls k a8 _ _ a4 _ _ a5 a9 _ _ q true _ (q_C (Kd.C_below e0.out V.out)) e1.out (q_C (Kd.C_below e2.out V.out)) e3.out (q_C (Kd.C_below b7.out V.out)) e4.out A2.out ?hTab).mono ?_); (case hTab => exact HT.out.below (q_w1 V.out T.out)); rintro e w6 ⟨rfl, hb⟩; refine ⟨_, rfl, ?_⟩; replace R := a_ (q_bk R.out hb); replace V := a_ (q_st1 V.out hb T.out); (clear hb); obtain ⟨g6, g7, g8, g9, i0, i1, i2, i3, i4, i5⟩ := q_cf5 R.out))
 go_loopg [11] k (fun kq p6 w' => ∃ (b : Int), p6 = .int .i64 b ∧ Aside0 (alloc_fits.l0 kq q (q.length : Int) b = some r) ∧ Aside0 (kq ≤ k) ∧ Aside0 (w'.heap[e6]? = some (.cells #[.string a8, (.slice b1 a4.length b2), (.slice b3 a5.length b4), .int .i64 a9, (.slice b5 q.length b6)] 26 (0, 0))) ∧ Aside0 (Below w.heap.size w w'))
 case atStart => exact ⟨(0), q_r, H', ⟨Nat.le_refl _⟩, ⟨q_k R.out⟩, ⟨q_w1 V.out T.out⟩⟩
 case round => (
 clear H'; clear f6 f7 f8 f9 g0 g6 g7 g8 g9 i0 g1 g2 g3 g4 g5 i1 i2 i3 i4 i5; obtain ⟨b, rfl, HA, i6, R, V⟩ := hrel; cases gk with
 | zero => exact absurd HA.out (by simp [alloc_fits.l0])
 | succ k1 => (
 have H := HA.out; clear HA; simp only [alloc_fits.l0] at H
 rcases q_ite H with ⟨c8b0, H⟩ | ⟨c8b0, H⟩
 {
 replace H := q_gD H; obtain ⟨-, c9b0, H⟩ := H; replace H := q_gD H; obtain ⟨-, c10b0, H⟩ := H; replace H := q_iD H; rcases H with ⟨j6, c11b0, H⟩ | ⟨j6, c11b0, H⟩
 {
 have c11b1 : decide (0 < ((rd_T69 q b).f0).length) = true := decide_eq_true (by omega)
 clear j6; replace H := q_gD H; obtain ⟨p7, c12b0, H⟩ := H; have c12b1 : decide (0 < ((rd_T69 q b).f0).length) = true := decide_eq_true (by omega)
 clear p7; replace H := q_iBN H; rcases H with ⟨-, c13b0, c13b1, H⟩ | ⟨q8, c13b0, c13b1, H⟩
 {
 obtain rfl := Option.some.inj H; obtain ⟨e7, d3, S, c4, c6, c8, c9, d0, d1, X, a0, i9, j3⟩ := b_T69 b7.out V.out b; cases c4; have b0 := a_ a0; have d2 := a_ X; clear a0 X; go_wp2_with (first | ((with_reducible refine gd_ 4 rfl ?_); refine q_box 4 69 #[.slice none 0 0, .int .i64 0, .int .i64 0, .int .i64 0, .int .i64 0] ?_; intro l hg q9 a3 hb; have b8 := a_ (a3); have a1 := a_ ((q_ge1 V.out hg T.out)); have b9 := a_ ((q_ge1 V.out hg T.out)); have U := a_ ((q_ne R.out hg)); have a2 := a_ ((q_en R.out hg)); replace R := a_ (q_bk R.out hb); replace V := a_ (q_st1 V.out hb T.out); clear hb a3 hg; have p8 := a2.out; have p9 := U.out; obtain ⟨k0, k2, k3, k4, k5, k6, k7, k8, k9, l4⟩ := q_cf5 b8.out; have c0 : 0 ≤ (0 : Int) := (by omega); have c1 : 0 < (((rd_T69 q b).f0).length : Int) := q_d; obtain ⟨O, i7, i8, e8, F, G, I, J, L, M, N, a6, a7⟩ := at_T71 b0.out 0 c0 c1; cases e8; have j7 : (0 < ((rd_T69 q b).f0).length) = True := eq_true (by omega); (try rw [show ((0 : Int)).toNat = 0 from rfl] at F); (try rw [show 0 * 7 = 0 from rfl] at F); (try rw [Addr.add_zero'] at F); (try rw [show ((0 : Int)).toNat = 0 from rfl] at G); (try rw [show 0 * 7 = 0 from rfl] at G); (try rw [Addr.add_zero'] at G); (try rw [show ((0 : Int)).toNat = 0 from rfl] at I); (try rw [show 0 * 7 = 0 from rfl] at I); (try rw [Addr.add_zero'] at I); (try rw [show ((0 : Int)).toNat = 0 from rfl] at J); (try rw [show 0 * 7 = 0 from rfl] at J); (try rw [Addr.add_zero'] at J); (try rw [show ((0 : Int)).toNat = 0 from rfl] at L); (try rw [show 0 * 7 = 0 from rfl] at L); (try rw [Addr.add_zero'] at L); (try rw [show ((0 : Int)).toNat = 0 from rfl] at M); (try rw [show 0 * 7 = 0 from rfl] at M); (try rw [Addr.add_zero'] at M); (try rw [show ((0 : Int)).toNat = 0 from rfl] at N); (try rw [show 0 * 7 = 0 from rfl] at N); (try rw [Addr.add_zero'] at N); have y : O.block ≠ l := Nat.ne_of_lt (Nat.lt_of_lt_of_le (by have := World.block_lt_of_cell? _ _ F; first | rwa [add_block] at this | exact this) a1.out); have z : O.block ≠ l := Nat.ne_of_lt (Nat.lt_of_lt_of_le (by have := World.block_lt_of_cell? _ _ F; first | rwa [add_block] at this | exact this) a1.out); have B : O.block ≠ l := Nat.ne_of_lt (Nat.lt_of_lt_of_le (by have := World.block_lt_of_cell? _ _ F; first | rwa [add_block] at this | exact this) a1.out); have D : O.block ≠ l := Nat.ne_of_lt (Nat.lt_of_lt_of_le (by have := World.block_lt_of_cell? _ _ F; first | rwa [add_block] at this | exact this) a1.out); have E : O.block ≠ l := Nat.ne_of_lt (Nat.lt_of_lt_of_le (by have := World.block_lt_of_cell? _ _ F; first | rwa [add_block] at this | exact this) a1.out); replace F := q_kc V.out F; replace G := q_kc V.out G; replace I := q_kc V.out I; replace J := q_kc V.out J; replace L := q_kc V.out L; replace M := q_kc V.out M; replace N := q_kc V.out N; have e9 := a_ a7; have f5 := a_ a6; clear a7 a6; replace F := (cell_far (p := ⟨l, 0, none⟩) (by first | (rw [add_block]; exact y) | (show (Addr.add _ _).block ≠ _; rw [add_block]; exact y) | exact y) (.slice (some O) ((rd_T69 q b).f0).length S)).trans F; replace G := (cell_far (p := ⟨l, 0, none⟩) (by first | (rw [add_block]; exact y) | (show (Addr.add _ _).block ≠ _; rw [add_block]; exact y) | exact y) (.slice (some O) ((rd_T69 q b).f0).length S)).trans G; replace I := (cell_far (p := ⟨l, 0, none⟩) (by first | (rw [add_block]; exact y) | (show (Addr.add _ _).block ≠ _; rw [add_block]; exact y) | exact y) (.slice (some O) ((rd_T69 q b).f0).length S)).trans I; replace J := (cell_far (p := ⟨l, 0, none⟩) (by first | (rw [add_block]; exact y) | (show (Addr.add _ _).block ≠ _; rw [add_block]; exact y) | exact y) (.slice (some O) ((rd_T69 q b).f0).length S)).trans J; replace L := (cell_far (p := ⟨l, 0, none⟩) (by first | (rw [add_block]; exact y) | (show (Addr.add _ _).block ≠ _; rw [add_block]; exact y) | exact y) (.slice (some O) ((rd_T69 q b).f0).length S)).trans L; replace M := (cell_far (p := ⟨l, 0, none⟩) (by first | (rw [add_block]; exact y) | (show (Addr.add _ _).block ≠ _; rw [add_block]; exact y) | exact y) (.slice (some O) ((rd_T69 q b).f0).length S)).trans M; replace N := (cell_far (p := ⟨l, 0, none⟩) (by first | (rw [add_block]; exact y) | (show (Addr.add _ _).block ≠ _; rw [add_block]; exact y) | exact y) (.slice (some O) ((rd_T69 q b).f0).length S)).trans N; replace F := (cell_far (p := ⟨l, 1, none⟩) (by first | (rw [add_block]; exact z) | (show (Addr.add _ _).block ≠ _; rw [add_block]; exact z) | exact z) (.int .i64 ((rd_T69 q b).f1))).trans F; replace G := (cell_far (p := ⟨l, 1, none⟩) (by first | (rw [add_block]; exact z) | (show (Addr.add _ _).block ≠ _; rw [add_block]; exact z) | exact z) (.int .i64 ((rd_T69 q b).f1))).trans G; replace I := (cell_far (p := ⟨l, 1, none⟩) (by first | (rw [add_block]; exact z) | (show (Addr.add _ _).block ≠ _; rw [add_block]; exact z) | exact z) (.int .i64 ((rd_T69 q b).f1))).trans I; replace J := (cell_far (p := ⟨l, 1, none⟩) (by first | (rw [add_block]; exact z) | (show (Addr.add _ _).block ≠ _; rw [add_block]; exact z) | exact z) (.int .i64 ((rd_T69 q b).f1))).trans J; replace L := (cell_far (p := ⟨l, 1, none⟩) (by first | (rw [add_block]; exact z) | (show (Addr.add _ _).block ≠ _; rw [add_block]; exact z) | exact z) (.int .i64 ((rd_T69 q b).f1))).trans L; replace M := (cell_far (p := ⟨l, 1, none⟩) (by first | (rw [add_block]; exact z) | (show (Addr.add _ _).block ≠ _; rw [add_block]; exact z) | exact z) (.int .i64 ((rd_T69 q b).f1))).trans M; replace N := (cell_far (p := ⟨l, 1, none⟩) (by first | (rw [add_block]; exact z) | (show (Addr.add _ _).block ≠ _; rw [add_block]; exact z) | exact z) (.int .i64 ((rd_T69 q b).f1))).trans N; replace F := (cell_far (p := ⟨l, 2, none⟩) (by first | (rw [add_block]; exact B) | (show (Addr.add _ _).block ≠ _; rw [add_block]; exact B) | exact B) (.int .i64 ((rd_T69 q b).f2))).trans F; replace G := (cell_far (p := ⟨l, 2, none⟩) (by first | (rw [add_block]; exact B) | (show (Addr.add _ _).block ≠ _; rw [add_block]; exact B) | exact B) (.int .i64 ((rd_T69 q b).f2))).trans G; replace I := (cell_far (p := ⟨l, 2, none⟩) (by first | (rw [add_block]; exact B) | (show (Addr.add _ _).block ≠ _; rw [add_block]; exact B) | exact B) (.int .i64 ((rd_T69 q b).f2))).trans I; replace J := (cell_far (p := ⟨l, 2, none⟩) (by first | (rw [add_block]; exact B) | (show (Addr.add _ _).block ≠ _; rw [add_block]; exact B) | exact B) (.int .i64 ((rd_T69 q b).f2))).trans J; replace L := (cell_far (p := ⟨l, 2, none⟩) (by first | (rw [add_block]; exact B) | (show (Addr.add _ _).block ≠ _; rw [add_block]; exact B) | exact B) (.int .i64 ((rd_T69 q b).f2))).trans L; replace M := (cell_far (p := ⟨l, 2, none⟩) (by first | (rw [add_block]; exact B) | (show (Addr.add _ _).block ≠ _; rw [add_block]; exact B) | exact B) (.int .i64 ((rd_T69 q b).f2))).trans M; replace N := (cell_far (p := ⟨l, 2, none⟩) (by first | (rw [add_block]; exact B) | (show (Addr.add _ _).block ≠ _; rw [add_block]; exact B) | exact B) (.int .i64 ((rd_T69 q b).f2))).trans N; replace F := (cell_far (p := ⟨l, 3, none⟩) (by first | (rw [add_block]; exact D) | (show (Addr.add _ _).block ≠ _; rw [add_block]; exact D) | exact D) (.int .i64 ((rd_T69 q b).f3))).trans F; replace G := (cell_far (p := ⟨l, 3, none⟩) (by first | (rw [add_block]; exact D) | (show (Addr.add _ _).block ≠ _; rw [add_block]; exact D) | exact D) (.int .i64 ((rd_T69 q b).f3))).trans G; replace I := (cell_far (p := ⟨l, 3, none⟩) (by first | (rw [add_block]; exact D) | (show (Addr.add _ _).block ≠ _; rw [add_block]; exact D) | exact D) (.int .i64 ((rd_T69 q b).f3))).trans I; replace J := (cell_far (p := ⟨l, 3, none⟩) (by first | (rw [add_block]; exact D) | (show (Addr.add _ _).block ≠ _; rw [add_block]; exact D) | exact D) (.int .i64 ((rd_T69 q b).f3))).trans J; replace L := (cell_far (p := ⟨l, 3, none⟩) (by first | (rw [add_block]; exact D) | (show (Addr.add _ _).block ≠ _; rw [add_block]; exact D) | exact D) (.int .i64 ((rd_T69 q b).f3))).trans L; replace M := (cell_far (p := ⟨l, 3, none⟩) (by first | (rw [add_block]; exact D) | (show (Addr.add _ _).block ≠ _; rw [add_block]; exact D) | exact D) (.int .i64 ((rd_T69 q b).f3))).trans M; replace N := (cell_far (p := ⟨l, 3, none⟩) (by first | (rw [add_block]; exact D) | (show (Addr.add _ _).block ≠ _; rw [add_block]; exact D) | exact D) (.int .i64 ((rd_T69 q b).f3))).trans N; replace F := (cell_far (p := ⟨l, 4, none⟩) (by first | (rw [add_block]; exact E) | (show (Addr.add _ _).block ≠ _; rw [add_block]; exact E) | exact E) (.int .i64 ((rd_T69 q b).f4))).trans F; replace G := (cell_far (p := ⟨l, 4, none⟩) (by first | (rw [add_block]; exact E) | (show (Addr.add _ _).block ≠ _; rw [add_block]; exact E) | exact E) (.int .i64 ((rd_T69 q b).f4))).trans G; replace I := (cell_far (p := ⟨l, 4, none⟩) (by first | (rw [add_block]; exact E) | (show (Addr.add _ _).block ≠ _; rw [add_block]; exact E) | exact E) (.int .i64 ((rd_T69 q b).f4))).trans I; replace J := (cell_far (p := ⟨l, 4, none⟩) (by first | (rw [add_block]; exact E) | (show (Addr.add _ _).block ≠ _; rw [add_block]; exact E) | exact E) (.int .i64 ((rd_T69 q b).f4))).trans J; replace L := (cell_far (p := ⟨l, 4, none⟩) (by first | (rw [add_block]; exact E) | (show (Addr.add _ _).block ≠ _; rw [add_block]; exact E) | exact E) (.int .i64 ((rd_T69 q b).f4))).trans L; replace M := (cell_far (p := ⟨l, 4, none⟩) (by first | (rw [add_block]; exact E) | (show (Addr.add _ _).block ≠ _; rw [add_block]; exact E) | exact E) (.int .i64 ((rd_T69 q b).f4))).trans M; replace N := (cell_far (p := ⟨l, 4, none⟩) (by first | (rw [add_block]; exact E) | (show (Addr.add _ _).block ≠ _; rw [add_block]; exact E) | exact E) (.int .i64 ((rd_T69 q b).f4))).trans N; clear y; clear z; clear B; clear D; clear E; replace c0 := eq_true c0; replace c1 := eq_true c1))
 go_ret
 exact ⟨q_e, q_w2 V.out T.out b9.out⟩}
 {
 have H' := a_ H
 clear H; obtain ⟨e7, d3, S, c4, c6, c8, c9, d0, d1, X, a0, i9, j3⟩ := b_T69 b7.out V.out b; cases c4; have b0 := a_ a0; have d2 := a_ X; clear a0 X; go_wp2_with (first | ((with_reducible refine gd_ 4 rfl ?_); refine q_box 4 69 #[.slice none 0 0, .int .i64 0, .int .i64 0, .int .i64 0, .int .i64 0] ?_; intro l hg r0 a3 hb; have b8 := a_ (a3); have a1 := a_ ((q_ge1 V.out hg T.out)); have b9 := a_ ((q_ge1 V.out hg T.out)); have U := a_ ((q_ne R.out hg)); have a2 := a_ ((q_en R.out hg)); replace R := a_ (q_bk R.out hb); replace V := a_ (q_st1 V.out hb T.out); clear hb a3 hg; have q0 := a2.out; have q1 := U.out; obtain ⟨l5, l6, l7, l8, l9, n0, n1, n2, n3, n4⟩ := q_cf5 b8.out; have c0 : 0 ≤ (0 : Int) := (by omega); have c1 : 0 < (((rd_T69 q b).f0).length : Int) := q_d; obtain ⟨O, i7, i8, e8, F, G, I, J, L, M, N, a6, a7⟩ := at_T71 b0.out 0 c0 c1; cases e8; have j7 : (0 < ((rd_T69 q b).f0).length) = True := eq_true (by omega); (try rw [show ((0 : Int)).toNat = 0 from rfl] at F); (try rw [show 0 * 7 = 0 from rfl] at F); (try rw [Addr.add_zero'] at F); (try rw [show ((0 : Int)).toNat = 0 from rfl] at G); (try rw [show 0 * 7 = 0 from rfl] at G); (try rw [Addr.add_zero'] at G); (try rw [show ((0 : Int)).toNat = 0 from rfl] at I); (try rw [show 0 * 7 = 0 from rfl] at I); (try rw [Addr.add_zero'] at I); (try rw [show ((0 : Int)).toNat = 0 from rfl] at J); (try rw [show 0 * 7 = 0 from rfl] at J); (try rw [Addr.add_zero'] at J); (try rw [show ((0 : Int)).toNat = 0 from rfl] at L); (try rw [show 0 * 7 = 0 from rfl] at L); (try rw [Addr.add_zero'] at L); (try rw [show ((0 : Int)).toNat = 0 from rfl] at M); (try rw [show 0 * 7 = 0 from rfl] at M); (try rw [Addr.add_zero'] at M); (try rw [show ((0 : Int)).toNat = 0 from rfl] at N); (try rw [show 0 * 7 = 0 from rfl] at N); (try rw [Addr.add_zero'] at N); have y : O.block ≠ l := Nat.ne_of_lt (Nat.lt_of_lt_of_le (by have := World.block_lt_of_cell? _ _ F; first | rwa [add_block] at this | exact this) a1.out); have z : O.block ≠ l := Nat.ne_of_lt (Nat.lt_of_lt_of_le (by have := World.block_lt_of_cell? _ _ F; first | rwa [add_block] at this | exact this) a1.out); have B : O.block ≠ l := Nat.ne_of_lt (Nat.lt_of_lt_of_le (by have := World.block_lt_of_cell? _ _ F; first | rwa [add_block] at this | exact this) a1.out); have D : O.block ≠ l := Nat.ne_of_lt (Nat.lt_of_lt_of_le (by have := World.block_lt_of_cell? _ _ F; first | rwa [add_block] at this | exact this) a1.out); have E : O.block ≠ l := Nat.ne_of_lt (Nat.lt_of_lt_of_le (by have := World.block_lt_of_cell? _ _ F; first | rwa [add_block] at this | exact this) a1.out); replace F := q_kc V.out F; replace G := q_kc V.out G; replace I := q_kc V.out I; replace J := q_kc V.out J; replace L := q_kc V.out L; replace M := q_kc V.out M; replace N := q_kc V.out N; have e9 := a_ a7; have f5 := a_ a6; clear a7 a6; replace F := (cell_far (p := ⟨l, 0, none⟩) (by first | (rw [add_block]; exact y) | (show (Addr.add _ _).block ≠ _; rw [add_block]; exact y) | exact y) (.slice (some O) ((rd_T69 q b).f0).length S)).trans F; replace G := (cell_far (p := ⟨l, 0, none⟩) (by first | (rw [add_block]; exact y) | (show (Addr.add _ _).block ≠ _; rw [add_block]; exact y) | exact y) (.slice (some O) ((rd_T69 q b).f0).length S)).trans G; replace I := (cell_far (p := ⟨l, 0, none⟩) (by first | (rw [add_block]; exact y) | (show (Addr.add _ _).block ≠ _; rw [add_block]; exact y) | exact y) (.slice (some O) ((rd_T69 q b).f0).length S)).trans I; replace J := (cell_far (p := ⟨l, 0, none⟩) (by first | (rw [add_block]; exact y) | (show (Addr.add _ _).block ≠ _; rw [add_block]; exact y) | exact y) (.slice (some O) ((rd_T69 q b).f0).length S)).trans J; replace L := (cell_far (p := ⟨l, 0, none⟩) (by first | (rw [add_block]; exact y) | (show (Addr.add _ _).block ≠ _; rw [add_block]; exact y) | exact y) (.slice (some O) ((rd_T69 q b).f0).length S)).trans L; replace M := (cell_far (p := ⟨l, 0, none⟩) (by first | (rw [add_block]; exact y) | (show (Addr.add _ _).block ≠ _; rw [add_block]; exact y) | exact y) (.slice (some O) ((rd_T69 q b).f0).length S)).trans M; replace N := (cell_far (p := ⟨l, 0, none⟩) (by first | (rw [add_block]; exact y) | (show (Addr.add _ _).block ≠ _; rw [add_block]; exact y) | exact y) (.slice (some O) ((rd_T69 q b).f0).length S)).trans N; replace F := (cell_far (p := ⟨l, 1, none⟩) (by first | (rw [add_block]; exact z) | (show (Addr.add _ _).block ≠ _; rw [add_block]; exact z) | exact z) (.int .i64 ((rd_T69 q b).f1))).trans F; replace G := (cell_far (p := ⟨l, 1, none⟩) (by first | (rw [add_block]; exact z) | (show (Addr.add _ _).block ≠ _; rw [add_block]; exact z) | exact z) (.int .i64 ((rd_T69 q b).f1))).trans G; replace I := (cell_far (p := ⟨l, 1, none⟩) (by first | (rw [add_block]; exact z) | (show (Addr.add _ _).block ≠ _; rw [add_block]; exact z) | exact z) (.int .i64 ((rd_T69 q b).f1))).trans I; replace J := (cell_far (p := ⟨l, 1, none⟩) (by first | (rw [add_block]; exact z) | (show (Addr.add _ _).block ≠ _; rw [add_block]; exact z) | exact z) (.int .i64 ((rd_T69 q b).f1))).trans J; replace L := (cell_far (p := ⟨l, 1, none⟩) (by first | (rw [add_block]; exact z) | (show (Addr.add _ _).block ≠ _; rw [add_block]; exact z) | exact z) (.int .i64 ((rd_T69 q b).f1))).trans L; replace M := (cell_far (p := ⟨l, 1, none⟩) (by first | (rw [add_block]; exact z) | (show (Addr.add _ _).block ≠ _; rw [add_block]; exact z) | exact z) (.int .i64 ((rd_T69 q b).f1))).trans M; replace N := (cell_far (p := ⟨l, 1, none⟩) (by first | (rw [add_block]; exact z) | (show (Addr.add _ _).block ≠ _; rw [add_block]; exact z) | exact z) (.int .i64 ((rd_T69 q b).f1))).trans N; replace F := (cell_far (p := ⟨l, 2, none⟩) (by first | (rw [add_block]; exact B) | (show (Addr.add _ _).block ≠ _; rw [add_block]; exact B) | exact B) (.int .i64 ((rd_T69 q b).f2))).trans F; replace G := (cell_far (p := ⟨l, 2, none⟩) (by first | (rw [add_block]; exact B) | (show (Addr.add _ _).block ≠ _; rw [add_block]; exact B) | exact B) (.int .i64 ((rd_T69 q b).f2))).trans G; replace I := (cell_far (p := ⟨l, 2, none⟩) (by first | (rw [add_block]; exact B) | (show (Addr.add _ _).block ≠ _; rw [add_block]; exact B) | exact B) (.int .i64 ((rd_T69 q b).f2))).trans I; replace J := (cell_far (p := ⟨l, 2, none⟩) (by first | (rw [add_block]; exact B) | (show (Addr.add _ _).block ≠ _; rw [add_block]; exact B) | exact B) (.int .i64 ((rd_T69 q b).f2))).trans J; replace L := (cell_far (p := ⟨l, 2, none⟩) (by first | (rw [add_block]; exact B) | (show (Addr.add _ _).block ≠ _; rw [add_block]; exact B) | exact B) (.int .i64 ((rd_T69 q b).f2))).trans L; replace M := (cell_far (p := ⟨l, 2, none⟩) (by first | (rw [add_block]; exact B) | (show (Addr.add _ _).block ≠ _; rw [add_block]; exact B) | exact B) (.int .i64 ((rd_T69 q b).f2))).trans M; replace N := (cell_far (p := ⟨l, 2, none⟩) (by first | (rw [add_block]; exact B) | (show (Addr.add _ _).block ≠ _; rw [add_block]; exact B) | exact B) (.int .i64 ((rd_T69 q b).f2))).trans N; replace F := (cell_far (p := ⟨l, 3, none⟩) (by first | (rw [add_block]; exact D) | (show (Addr.add _ _).block ≠ _; rw [add_block]; exact D) | exact D) (.int .i64 ((rd_T69 q b).f3))).trans F; replace G := (cell_far (p := ⟨l, 3, none⟩) (by first | (rw [add_block]; exact D) | (show (Addr.add _ _).block ≠ _; rw [add_block]; exact D) | exact D) (.int .i64 ((rd_T69 q b).f3))).trans G; replace I := (cell_far (p := ⟨l, 3, none⟩) (by first | (rw [add_block]; exact D) | (show (Addr.add _ _).block ≠ _; rw [add_block]; exact D) | exact D) (.int .i64 ((rd_T69 q b).f3))).trans I; replace J := (cell_far (p := ⟨l, 3, none⟩) (by first | (rw [add_block]; exact D) | (show (Addr.add _ _).block ≠ _; rw [add_block]; exact D) | exact D) (.int .i64 ((rd_T69 q b).f3))).trans J; replace L := (cell_far (p := ⟨l, 3, none⟩) (by first | (rw [add_block]; exact D) | (show (Addr.add _ _).block ≠ _; rw [add_block]; exact D) | exact D) (.int .i64 ((rd_T69 q b).f3))).trans L; replace M := (cell_far (p := ⟨l, 3, none⟩) (by first | (rw [add_block]; exact D) | (show (Addr.add _ _).block ≠ _; rw [add_block]; exact D) | exact D) (.int .i64 ((rd_T69 q b).f3))).trans M; replace N := (cell_far (p := ⟨l, 3, none⟩) (by first | (rw [add_block]; exact D) | (show (Addr.add _ _).block ≠ _; rw [add_block]; exact D) | exact D) (.int .i64 ((rd_T69 q b).f3))).trans N; replace F := (cell_far (p := ⟨l, 4, none⟩) (by first | (rw [add_block]; exact E) | (show (Addr.add _ _).block ≠ _; rw [add_block]; exact E) | exact E) (.int .i64 ((rd_T69 q b).f4))).trans F; replace G := (cell_far (p := ⟨l, 4, none⟩) (by first | (rw [add_block]; exact E) | (show (Addr.add _ _).block ≠ _; rw [add_block]; exact E) | exact E) (.int .i64 ((rd_T69 q b).f4))).trans G; replace I := (cell_far (p := ⟨l, 4, none⟩) (by first | (rw [add_block]; exact E) | (show (Addr.add _ _).block ≠ _; rw [add_block]; exact E) | exact E) (.int .i64 ((rd_T69 q b).f4))).trans I; replace J := (cell_far (p := ⟨l, 4, none⟩) (by first | (rw [add_block]; exact E) | (show (Addr.add _ _).block ≠ _; rw [add_block]; exact E) | exact E) (.int .i64 ((rd_T69 q b).f4))).trans J; replace L := (cell_far (p := ⟨l, 4, none⟩) (by first | (rw [add_block]; exact E) | (show (Addr.add _ _).block ≠ _; rw [add_block]; exact E) | exact E) (.int .i64 ((rd_T69 q b).f4))).trans L; replace M := (cell_far (p := ⟨l, 4, none⟩) (by first | (rw [add_block]; exact E) | (show (Addr.add _ _).block ≠ _; rw [add_block]; exact E) | exact E) (.int .i64 ((rd_T69 q b).f4))).trans M; replace N := (cell_far (p := ⟨l, 4, none⟩) (by first | (rw [add_block]; exact E) | (show (Addr.add _ _).block ≠ _; rw [add_block]; exact E) | exact E) (.int .i64 ((rd_T69 q b).f4))).trans N; clear y; clear z; clear B; clear D; clear E; replace c0 := eq_true c0; replace c1 := eq_true c1))
 go_roundg k1
 case measure => have := i6.out; omega
 case rel => exact ⟨(wrap64 (b + 1)), q_r, H', ⟨by have := i6.out; omega⟩, ⟨q_f1 R.out U.out⟩, ⟨q_w2 V.out T.out b9.out⟩⟩}}
 {
 have c11b1 : decide (0 < ((rd_T69 q b).f0).length) = false := decide_eq_false (by omega)
 clear j6; have H' := a_ H
 clear H; obtain ⟨e7, d3, S, c4, c6, c8, c9, d0, d1, X, a0, i9, j3⟩ := b_T69 b7.out V.out b; cases c4; have b0 := a_ a0; have d2 := a_ X; clear a0 X; go_wp2_with (first | ((with_reducible refine gd_ 4 rfl ?_); refine q_box 4 69 #[.slice none 0 0, .int .i64 0, .int .i64 0, .int .i64 0, .int .i64 0] ?_; intro l hg r1 a3 hb; have b8 := a_ (a3); have a1 := a_ ((q_ge1 V.out hg T.out)); have b9 := a_ ((q_ge1 V.out hg T.out)); have U := a_ ((q_ne R.out hg)); have a2 := a_ ((q_en R.out hg)); replace R := a_ (q_bk R.out hb); replace V := a_ (q_st1 V.out hb T.out); clear hb a3 hg; have q2 := a2.out; have q3 := U.out; obtain ⟨n5, n6, n7, n8, n9, o0, o1, o2, o3, o4⟩ := q_cf5 b8.out))
 go_roundg k1
 case measure => have := i6.out; omega
 case rel => exact ⟨(wrap64 (b + 1)), q_r, H', ⟨by have := i6.out; omega⟩, ⟨q_f1 R.out U.out⟩, ⟨q_w2 V.out T.out b9.out⟩⟩}}
 {
 obtain rfl := Option.some.inj H; go_wp2
 go_ret
 exact ⟨q_e, q_w1 V.out T.out⟩}))}
 {
 replace c3 := Bool.eq_false_iff.mpr c3; subst c3; rw [if_neg Bool.false_ne_true] at H; obtain rfl := Option.some.inj H; go_enter Tryd.func29, Tryd.ntmps29
 go_wp2_with (first | ((with_reducible refine gd_ 1 rfl ?_); refine q_box 1 26 #[.string a8, .slice b1 a4.length b2, .slice b3 a5.length b4, .int .i64 a9, .slice b5 q.length b6] ?_; intro e6 hg r2 a3 hb; have R := a_ (a3); have j5 := a_ ((q_ge V.out hg)); have T := a_ ((q_ge V.out hg)); replace V := a_ (q_st V.out hb); clear hb a3 hg; obtain ⟨o5, o6, o7, o8, o9, p0, p1, p2, p3, p4⟩ := q_cf5 R.out) | ((with_reducible refine gc_ 43 rfl ?_); refine q_gl 6 #[.agg #[.string a8, .slice b1 a4.length b2, .slice b3 a5.length b4, .int .i64 a9, .slice b5 q.length b6]] Tryd.func43 rfl ?_; (with_reducible refine (flow_Valid.calls k a8 _ _ a4 _ _ a5 a9 _ _ q false _ (q_C (Kd.C_below e0.out V.out)) e1.out (q_C (Kd.C_below e2.out V.out)) e3.out (q_C (Kd.C_below b7.out V.out)) e4.out A2.out ?hTab).mono ?_); (case hTab => exact HT.out.below (q_w1 V.out T.out)); rintro e r3 ⟨rfl, hb⟩; refine ⟨_, rfl, ?_⟩; replace R := a_ (q_bk R.out hb); replace V := a_ (q_st1 V.out hb T.out); (clear hb)))
 go_ret
 exact ⟨q_e, q_w1 V.out T.out⟩}
def flow_Successors.l0 : Nat → List (List Int) → List (S69) → Int → Int → Option ((List (List Int)) × Int)
 | 0, _, _, _, _ => none
 | k + 1, y, l, p, b => if b < p then (if 0 ≤ b then (if b < (l.length : Int) then ((flow_next.f ((rd_T69 l b).f0) ((rd_T69 l b).f1) ((rd_T69 l b).f2) ((rd_T69 l b).f3) ((rd_T69 l b).f4)).bind fun q => (if y.length < 5864062014805 then (flow_Successors.l0 k (y ++ [q]) l p (wrap64 (b + 1))) else (none))) else (none)) else (none)) else (some (y, 0))
def flow_Successors.f (k : Nat) (l : ByteArray) (p : List (S83)) (q : List (S85)) (y : Int) (b : List (S69)) : Option ((List (List Int)) × Int) := (flow_Valid.f k l p q y b).bind fun z => (if z = true then (flow_Successors.l0 k ([] : List (List Int)) b (b.length : Int) 0) else (some (([] : List (List Int)), 1)))
theorem flow_Successors.calls (k : Nat) (F : ByteArray) (M : Option Addr) (N : Nat) (B : List (S83)) (O : Option Addr) (R : Nat) (D : List (S85)) (G : Int) (a0 : Option Addr) (T : Nat) (l : List (S69)) (r1 : List (List Int)) (r2 : Int) (w : World) (b1 : Kd.C k83 w M B.length B) (b2 : B.length ≤ N) (b3 : Kd.C k85 w O D.length D) (b4 : D.length ≤ R) (b5 : Kd.C k69 w a0 l.length l) (b6 : l.length ≤ T) (h : flow_Successors.f k F B D G l = some (r1, r2)) (hT : Tab w) :
  Calls Tryd.prog 24 #[.agg #[.string F, .slice M B.length N, .slice O D.length R, .int .i64 G, .slice a0 l.length T]] w fun e w' => ∃ g6 : Value, e = .returned (.tuple #[g6, .int .i64 r2]) ∧ Kd.S (Kd.slice 3 (Kd.int .i64)) 27 w' w.heap.size (fun _ => True) g6 r1 ∧ Below w.heap.size w w' := by
 have HT := a_ hT; clear hT; have n7 := Tryd.underlying26; have n8 := Tryd.underlying69; have b7 := a_ b1; have b8 := a_ b2; clear b1 b2; have b9 := a_ b3; have c0 := a_ b4; clear b3 b4; have a7 := a_ b5; have c1 := a_ b6; clear b5 b6; have E := a_ (Below.refl w.heap.size w); have H : ((flow_Valid.f k F B D G l).bind fun c4 => (if c4 = true then (flow_Successors.l0 k ([] : List (List Int)) l (l.length : Int) 0) else (some (([] : List (List Int)), 1)))) = some (r1, r2) := h
 clear h; replace H := Option.bind_eq_some_iff.mp H; obtain ⟨c4, g7, H⟩ := H; have A2 := a_ g7; clear g7; by_cases c3 : c4 = true
 {
 subst c3; rw [if_pos rfl] at H; have H' := a_ H
 clear H; go_enter Tryd.func24, Tryd.ntmps24
 go_wp2_with (first | ((with_reducible refine gd_ 1 rfl ?_); refine q_box 1 26 #[.string F, .slice M B.length N, .slice O D.length R, .int .i64 G, .slice a0 l.length T] ?_; intro a8 hg w4 U hb; have y := a_ (U); have f8 := a_ ((q_ge E.out hg)); have z := a_ ((q_ge E.out hg)); replace E := a_ (q_st E.out hb); clear hb U hg; obtain ⟨c9, d0, d1, d2, d3, d4, d5, d6, d7, d8⟩ := q_cf5 y.out) | ((with_reducible refine gc_ 43 rfl ?_); refine q_gl 8 #[.agg #[.string F, .slice M B.length N, .slice O D.length R, .int .i64 G, .slice a0 l.length T]] Tryd.func43 rfl ?_; (with_reducible refine (flow_Valid.calls k F _ _ B _ _ D G _ _ l true _ (q_C (Kd.C_below b7.out E.out)) b8.out (q_C (Kd.C_below b9.out E.out)) c0.out (q_C (Kd.C_below a7.out E.out)) c1.out A2.out ?hTab).mono ?_); (case hTab => exact HT.out.below (q_w1 E.out z.out)); rintro e w6 ⟨rfl, hb⟩; refine ⟨_, rfl, ?_⟩; replace y := a_ (q_bk y.out hb); replace E := a_ (q_st1 E.out hb z.out); (clear hb); obtain ⟨d9, e0, e1, e2, e3, e4, e5, e6, e7, e8⟩ := q_cf5 y.out))
 go_loopg [4, 13] k (fun kq v4 n2 w' => ∃ (a3 : List (List Int)) (q : Int), n2 = .int .i64 q ∧ Aside0 (flow_Successors.l0 kq a3 l (l.length : Int) q = some (r1, r2)) ∧ Aside0 (kq ≤ k) ∧ Aside0 (Kd.S (Kd.slice 3 (Kd.int .i64)) 27 w' w.heap.size (fun _ => True) v4 a3) ∧ Aside0 (w'.heap[a8]? = some (.cells #[.string F, (.slice M B.length N), (.slice O D.length R), .int .i64 G, (.slice a0 l.length T)] 26 (0, 0))) ∧ Aside0 (Below w.heap.size w w'))
 case atStart => exact ⟨(([] : List (List Int))), (0), q_r, H', ⟨Nat.le_refl _⟩, ⟨by first | exact Kd.S_nil _ _ _ _ _ | exact Kd.N_nil _ _ _ _ _ | exact Kd.V_nil _ _ _ _ _ | exact Kd.Q_nil _ _ _ _ _ | exact Kd.R_nil _ _ _ _ _⟩, ⟨q_k y.out⟩, ⟨q_w1 E.out z.out⟩⟩
 case round => (
 clear H'; clear c9 d0 d1 d2 d3 d9 e0 e1 e2 e3 d4 d5 d6 d7 d8 e4 e5 e6 e7 e8; obtain ⟨a3, q, rfl, HA, g8, HO_4, y, E⟩ := hrel; cases gk with
 | zero => exact absurd HA.out (by simp [flow_Successors.l0])
 | succ k1 => (
 have H := HA.out; clear HA; simp only [flow_Successors.l0] at H
 rcases q_ite H with ⟨c8b0, H⟩ | ⟨c8b0, H⟩
 {
 replace H := q_gD H; obtain ⟨-, c9b0, H⟩ := H; replace H := q_gD H; obtain ⟨-, c10b0, H⟩ := H; replace H := Option.bind_eq_some_iff.mp H; obtain ⟨a4, e9, H⟩ := H; have n3 := a_ e9; clear e9; replace H := q_g H; obtain ⟨g9, H⟩ := H; have f9 := a_ g9; clear g9; obtain ⟨f5, a9⟩ : ∃ y_ : List (List Int), y_ = (a3 ++ [a4]) := ⟨_, rfl⟩; replace H : (flow_Successors.l0 k1 f5 l (l.length : Int) (wrap64 (q + 1))) = some (r1, r2) := q_rw a9 H
 have g0 := a_ a9; clear a9; have H' := a_ H
 clear H; obtain ⟨g1, V, X, i0, i1, i2, i3, i4, i5, a5, a6, o1, o2⟩ := b_T69 a7.out E.out q; cases i0; have c6 := a_ a6; have c8 := a_ a5; clear a6 a5; go_wp2_with (first | ((with_reducible refine gd_ 6 rfl ?_); refine q_box 6 69 #[.slice none 0 0, .int .i64 0, .int .i64 0, .int .i64 0, .int .i64 0] ?_; intro J hg o6 U hb; have I := a_ (U); have n4 := a_ ((q_ge1 E.out hg z.out)); have L := a_ ((q_ge1 E.out hg z.out)); have a1 := a_ ((q_ne y.out hg)); have b0 := a_ ((q_en y.out hg)); replace HO_4 := a_ (Kd.S_below (by (with_reducible repeat (first | apply Kd.S_alloc | apply Kd.S_drewN | apply Kd.S_drew)); exact HO_4.out) hb); replace y := a_ (q_bk y.out hb); replace E := a_ (q_st1 E.out hb z.out); clear hb U hg; have n5 := b0.out; have n6 := a1.out; obtain ⟨i6, i7, i8, i9, j3, j5, j6, j7, j8, j9⟩ := q_cf5 I.out) | ((with_reducible refine gc_ 44 rfl ?_); refine q_gl 19 #[.agg #[.slice V ((rd_T69 l q).f0).length X, .int .i64 ((rd_T69 l q).f1), .int .i64 ((rd_T69 l q).f2), .int .i64 ((rd_T69 l q).f3), .int .i64 ((rd_T69 l q).f4)]] Tryd.func44 rfl ?_; (with_reducible refine (flow_next.calls _ _ ((rd_T69 l q).f0) ((rd_T69 l q).f1) ((rd_T69 l q).f2) ((rd_T69 l q).f3) ((rd_T69 l q).f4) a4 _ (Kd.C_below c6.out (q_w2 E.out z.out L.out)) c8.out n3.out).mono ?_); rintro e o7 ⟨o3, rfl, g2, hb⟩; refine ⟨_, rfl, ?_⟩; have a2 := a_ (Kd.R_lower g2 (below_size (q_w2 E.out z.out L.out))); replace HO_4 := a_ (Kd.S_elder' (by (with_reducible repeat (first | apply Kd.S_alloc | apply Kd.S_drewN | apply Kd.S_drew)); exact (Kd.S_mono (Kd.S_far (p := ⟨J, 4, none⟩) (Kd.S_far (p := ⟨J, 3, none⟩) (Kd.S_far (p := ⟨J, 2, none⟩) (Kd.S_far (p := ⟨J, 1, none⟩) (Kd.S_far (p := ⟨J, 0, none⟩) (Kd.S_types HO_4.out I.out (by decide)) (fun _ hk => hk.2) (.slice V ((rd_T69 l q).f0).length X)) (fun _ hk => hk.2) (.int .i64 ((rd_T69 l q).f1))) (fun _ hk => hk.2) (.int .i64 ((rd_T69 l q).f2))) (fun _ hk => hk.2) (.int .i64 ((rd_T69 l q).f3))) (fun _ hk => hk.2) (.int .i64 ((rd_T69 l q).f4))) (fun _ h_ => h_.1))) (Kd.R_base g2) hb); replace y := a_ (blk_below (q_f1 y.out a1.out) hb); replace I := a_ (blk_below (g := J) (o := .cells #[.slice V ((rd_T69 l q).f0).length X, .int .i64 ((rd_T69 l q).f1), .int .i64 ((rd_T69 l q).f2), .int .i64 ((rd_T69 l q).f3), .int .i64 ((rd_T69 l q).f4)] 69 (0, 0)) (q_p I.out) hb); replace E := a_ (q_st2 E.out hb z.out L.out); clear hb g2; obtain ⟨f6, f7, k0⟩ := Kd.R_slice a2.out; subst k0) | ((with_reducible refine gate_builtin (b := .append) (xs := #[.tmp 17, .tmp 20]) rfl ?_); at_builtin; refine Kd.S_append (Kd.slice 3 (Kd.int .i64)) (w0 := w) w.heap.size rfl (.tmp 17) (.tmp 20) 42 27 (.slice none 0 0) 24 rfl Tryd.underlying42 info27 rfl (by decide) (by omega) u4 a3 a4 [.slice f6 a4.length f7] (fun _ => True) (fun k_ => some k_ = (.slice f6 a4.length f7 : Value).ownBlock) rfl rfl ?aP (fun k_ hk_ => ((Kd.R_mono (ok' := fun k_ => ((fun _ => True)) k_ ∧ some k_ ≠ (u4 : Value).ownBlock) (Kd.R_apart' (a2.out) (Kd.S_typed HO_4.out) (by decide)) (fun k_ hk => ⟨trivial, hk.2⟩))).1 k_ hk_.symm) ?aF ?aO ?aB ?aS ?aL ?_; (case aP => exact Kd.M_row (Kd.R_mono (Kd.R_tight rfl (Kd.R_mono (ok' := fun k_ => ((fun _ => True)) k_ ∧ some k_ ≠ (u4 : Value).ownBlock) (Kd.R_apart' (a2.out) (Kd.S_typed HO_4.out) (by decide)) (fun k_ hk => ⟨trivial, hk.2⟩))) (fun _ h_ => h_))); (case aB => exact (q_w2 E.out z.out L.out)); (case aF => exact (fun _ _ => trivial)); (case aO => exact (by (with_reducible repeat (first | apply Kd.S_alloc | apply Kd.S_drewN | apply Kd.S_drew)); exact Kd.S_mono HO_4.out (fun k_ hk => ⟨trivial, fun e_ => hk.2 e_⟩))); (case aS => exact (below_size (q_w2 E.out z.out L.out))); (case aL => have := f9.out; omega); intro o4 o8 ho hb hg hat; rw [← g0.out] at ho; have k2 := a_ (blk_grown (g := a8) (o := .cells #[.string F, .slice M B.length N, .slice O D.length R, .int .i64 G, .slice (some g1) l.length T] 26 (0, 0)) (q_k y.out) hg (Kd.S_ne HO_4.out y.out (by decide))); have k3 := a_ (blk_grown (g := J) (o := .cells #[.slice V ((rd_T69 l q).f0).length X, .int .i64 ((rd_T69 l q).f1), .int .i64 ((rd_T69 l q).f2), .int .i64 ((rd_T69 l q).f3), .int .i64 ((rd_T69 l q).f4)] 69 (0, 0)) (q_k I.out) hg (Kd.S_ne HO_4.out I.out (by decide))); have k4 := a_ (hb); have k5 := a_ (ho); clear y; clear I; clear E; clear HO_4; clear a2; have y := k2; have I := k3; have E := k4; have g3 := k5; clear k2 k3 k4 k5; clear ho hb hg hat))
 go_roundg k1
 case measure => have := g8.out; omega
 case rel => exact ⟨(f5), (wrap64 (q + 1)), q_r, H', ⟨by have := g8.out; omega⟩, ⟨by (with_reducible repeat (first | apply Kd.S_alloc | apply Kd.S_drewN | apply Kd.S_drew)); exact g3.out⟩, ⟨q_k y.out⟩, ⟨q_w2 E.out z.out L.out⟩⟩}
 {
 simp only [Option.some.injEq, Prod.mk.injEq] at H
 obtain ⟨rfl, rfl⟩ := H; go_wp2
 go_ret2
 exact ⟨_, q_e, by (with_reducible repeat (first | apply Kd.S_alloc | apply Kd.S_drewN | apply Kd.S_drew)); exact HO_4.out, q_w1 E.out z.out⟩}))}
 {
 replace c3 := Bool.eq_false_iff.mpr c3; subst c3; rw [if_neg Bool.false_ne_true] at H; simp only [Option.some.injEq, Prod.mk.injEq] at H
 obtain ⟨rfl, rfl⟩ := H; go_enter Tryd.func24, Tryd.ntmps24
 go_wp2_with (first | ((with_reducible refine gd_ 1 rfl ?_); refine q_box 1 26 #[.string F, .slice M B.length N, .slice O D.length R, .int .i64 G, .slice a0 l.length T] ?_; intro a8 hg o9 U hb; have y := a_ (U); have f8 := a_ ((q_ge E.out hg)); have z := a_ ((q_ge E.out hg)); replace E := a_ (q_st E.out hb); clear hb U hg; obtain ⟨k6, k7, k8, k9, l4, l5, l6, l7, l8, l9⟩ := q_cf5 y.out) | ((with_reducible refine gc_ 43 rfl ?_); refine q_gl 8 #[.agg #[.string F, .slice M B.length N, .slice O D.length R, .int .i64 G, .slice a0 l.length T]] Tryd.func43 rfl ?_; (with_reducible refine (flow_Valid.calls k F _ _ B _ _ D G _ _ l false _ (q_C (Kd.C_below b7.out E.out)) b8.out (q_C (Kd.C_below b9.out E.out)) c0.out (q_C (Kd.C_below a7.out E.out)) c1.out A2.out ?hTab).mono ?_); (case hTab => exact HT.out.below (q_w1 E.out z.out)); rintro e p0 ⟨rfl, hb⟩; refine ⟨_, rfl, ?_⟩; replace y := a_ (q_bk y.out hb); replace E := a_ (q_st1 E.out hb z.out); (clear hb)))
 go_ret2
 exact ⟨_, q_e, by first | exact Kd.S_nil _ _ _ _ _ | exact Kd.N_nil _ _ _ _ _ | exact Kd.V_nil _ _ _ _ _ | exact Kd.Q_nil _ _ _ _ _ | exact Kd.R_nil _ _ _ _ _, q_w1 E.out z.out⟩}
end Go.Proofs.YtefhpdcafdhcaaaDoor.V
end
section
namespace Go.Proofs.YtefhpdcafdhcaaaDoor.M
open Go Go.RowKit Go.Proofs.YtefhpdcafdhcaaaDoorW.PrintWords Go.Proofs.YtefhpdcafdhcaaaDoorW.PrintLast Go.Proofs.YtefhpdcafdhcaaaDoorW.PrintMore Go.Proofs.YtefhpdcafdhcaaaDoor Go.Proofs.YtefhpdcafdhcaaaDoor.A Go.Proofs.YtefhpdcafdhcaaaDoor.B Go.Proofs.YtefhpdcafdhcaaaDoor.N Go.Proofs.YtefhpdcafdhcaaaDoor.V
open FlowM (next hasD hasA hasB Fine FineNd FineG)
def Ints (N : List S69) : Prop := ∀ n ∈ N, ∀ y ∈ n.f0, (-2147483648 ≤ y.f5 ∧ y.f5 ≤ 2147483647) ∧ (-9223372036854775808 ≤ y.f2 ∧ y.f2 ≤ 9223372036854775807)
theorem twice_ev {L : List S71} (hL : L.length < 100000) (d : Int) : ∀ (rest : List S71) (i : Nat), L.drop i = rest → Evt (fun k => r6_twice.l0 k L d (i : Int)) (rest.any fun y => y.f2 == d)
 | [], i, hd => by {
 have := drop_nil_ge hd
 refine Evt.succ ?_
 simp only [r6_twice.l0]
 exact Evt.neg (by omega) (Evt.const _)}
 | y :: rest, i, hd => by {
 obtain ⟨hr, hi, b⟩ := rd71_drop hd; refine Evt.succ ?_
 simp only [r6_twice.l0]
 refine Evt.pos (by omega) (Evt.pos (by omega) ?_)
 rw [hr, List.any_cons, wrap_succ i (by omega)]
 by_cases h : y.f2 = d
 ·rw [beq_iff_eq.2 h]; exact Evt.pos h (Evt.const _)
 ·rw [beq_eq_false_iff_ne.2 h, Bool.false_or]; exact Evt.neg h (twice_ev hL d rest (i + 1) b)}
def phis (l : List S71) : Bool := l.all fun y => y.f0 == 11
section
variable (nm : ByteArray) {ps : List S83} {ar : List S85} (rg : Int) {N : List S69}
theorem ins_ev (hp : ps.length ≤ 6) (ha : ar.length ≤ 400) (hrg : 0 ≤ rg) (P : List (List Int)) (S : List Bool) (i : Nat) (hi : i < P.length) (L : List S71) (hL : L.length ≤ 400) (hA : ∀ y ∈ L, y.f6.length ≤ 400) (hI : ∀ y ∈ L, (-2147483648 ≤ y.f5 ∧ y.f5 ≤ 2147483647) ∧ (-9223372036854775808 ≤ y.f2 ∧ y.f2 ≤ 9223372036854775807)) {r : Bool}
  (hr : Evt (fun k => r6_Valid.l1 k P S ((i + 1 : Nat) : Int) nm ps ar rg N) r) (hib : i < 100000) :
  ∀ (xs : List S71) (q : Nat), L.drop q = xs → ∀ (ph : Bool) (ch : List Int), ph = (decide (0 < i) && phis (L.take q)) → (q = 0 ∨ phis (L.take q) = ((rd_T71 L ((q : Int) - 1)).f0 == 11)) → (phis (L.take q) = true → ∀ d, d ∈ ch ↔ ((L.take q).any fun y => y.f2 == d) = true) →
   ∃ b, Evt (fun k => vIns k nm ps ar rg N ((P.getD i []).length : Int) xs ph ch) b ∧ Evt (fun k => r6_Valid.l2 k P S (i : Int) L (q : Int) nm ps ar rg N) (b && r) ∧ (b = true → (∀ y ∈ xs, FineA rg.toNat y) ∧ ((∃ y ∈ xs, y.f0 = 11) → ∃ x l, xs = x :: l ∧ x.f0 = 11 ∧ phis (L.take q) = true))
 | [], q, hd, ph, ch, _, _, _ => by {
 have := drop_nil_ge hd
 refine ⟨true, Evt.const _, ?_, fun _ => ⟨fun y hy => (by cases hy), fun ⟨y, hy, _⟩ => (by cases hy)⟩⟩
 refine Evt.succ ?_
 simp only [r6_Valid.l2]
 refine Evt.neg (by omega) ?_
 rw [wrap_succ i (by omega), Bool.true_and]
 exact hr}
 | x :: xs, q, hd, ph, ch, hph, hq, hch => by {
 obtain ⟨hrx, hqi, I⟩ := rd71_drop hd; have hxm : x ∈ L := by rw [← List.take_append_drop q L, hd]; simp
 have B : rd_L2 P (i : Int) = P.getD i [] := by simp [rd_L2]
 obtain ⟨O, hR, hF, hfine⟩ := instr_ev nm rg N (ps := ps) (ar := ar) hp ha hrg ((P.getD i []).length : Int) x (by have := hA x hxm; omega) (hI x hxm).1
 have htk : L.take (q + 1) = L.take q ++ [x] := by rw [List.take_add_one, List.getElem?_eq_getElem hqi]; congr 1; simp [← hrx, rd_T71, hqi]
 have hphis : phis (L.take (q + 1)) = (phis (L.take q) && x.f0 == 11) := by rw [htk, phis, List.all_append]; simp [phis]
 have hprev : (((q + 1 : Nat) : Int) - 1) = (q : Int) := by omega
 have hrange := (hI x hxm).2; have hw : wrap64 ((q : Int) + 1) = ((q + 1 : Nat) : Int) := wrap_succ q (by omega)
 cases O with
 | false => (
 refine ⟨false, ?_, ?_, fun h => by cases h⟩
 {
 simp only [vIns]
 refine Evt.pos hrange ?_
 by_cases hc : x.f0 = 11 ∧ (ph = false ∨ x.f2 ∈ ch)
 ·exact Evt.pos hc (Evt.const _)
 ·exact Evt.neg hc (Evt.bind hF (Evt.neg (by simp) (Evt.const _)))}
 {
 refine Evt.succ ?_
 simp only [r6_Valid.l2]
 refine Evt.pos (by omega) (Evt.pos (by omega) (Evt.pos (by omega) (Evt.pos (by omega) ?_)))
 rw [hrx, B]; exact Evt.bind hR (Evt.neg (by simp) (Evt.const _))})
 | true => (
 have hfx := hfine rfl; by_cases p : x.f0 = 11
 {
 have h11b : (x.f0 == 11) = true := beq_iff_eq.2 p
 by_cases R : i = 0
 {
 refine ⟨false, ?_, ?_, fun h => by cases h⟩
 {
 simp only [vIns]
 exact Evt.pos hrange (Evt.pos ⟨p, .inl (by rw [hph, decide_eq_false (by omega)]; rfl)⟩ (Evt.const _))}
 {
 refine Evt.succ ?_
 simp only [r6_Valid.l2]
 refine Evt.pos (by omega) (Evt.pos (by omega) (Evt.pos (by omega) (Evt.pos (by omega) ?_)))
 rw [hrx, B]; exact Evt.bind hR (Evt.pos rfl (Evt.pos p (Evt.pos (by omega) (Evt.const _))))}}
 {
 have D : ph = phis (L.take q) := by rw [hph, decide_eq_true (by omega), Bool.true_and]
 cases hphq : phis (L.take q) with
 | false => (
 have M : 0 < q := by {
 rcases Nat.eq_zero_or_pos q with h | h
 ·rw [h] at hphq; cases hphq
 ·exact h}
 have z : ¬ (rd_T71 L ((q : Int) - 1)).f0 = 11 := by {
 rcases hq with h | h
 ·omega
 ·rw [hphq] at h; exact beq_eq_false_iff_ne.1 h.symm}
 refine ⟨false, ?_, ?_, fun h => by cases h⟩
 {
 simp only [vIns]
 exact Evt.pos hrange (Evt.pos ⟨p, .inl (by rw [D, hphq])⟩ (Evt.const _))}
 {
 refine Evt.succ ?_
 simp only [r6_Valid.l2]
 refine Evt.pos (by omega) (Evt.pos (by omega) (Evt.pos (by omega) (Evt.pos (by omega) ?_)))
 rw [hrx, B, wrap64_id (x := (q : Int) - 1) (by omega) (by omega)]
 exact Evt.bind hR (Evt.pos rfl (Evt.pos p (Evt.neg (by omega) (Evt.pos (by omega) (Evt.pos (by omega) (Evt.pos (by omega) (Evt.neg z (Evt.const _))))))))})
 | true => (
 have htw : Evt (fun k => r6_twice.f k (L.take q) x.f2) ((L.take q).any fun y => y.f2 == x.f2) := by {
 have := twice_ev (L := L.take q) (by rw [List.length_take]; omega) x.f2 (L.take q) 0 rfl
 exact this}
 have hRR : ∀ v : Bool, Evt (fun k => if ((L.take q).any fun y => y.f2 == x.f2) = true then some false else r6_Valid.l2 k P S (i : Int) L ((q + 1 : Nat) : Int) nm ps ar rg N) v → Evt (fun k => r6_Valid.l2 k P S (i : Int) L (q : Int) nm ps ar rg N) v := by {
 intro v hv
 refine Evt.succ ?_
 simp only [r6_Valid.l2]
 refine Evt.pos (by omega) (Evt.pos (by omega) (Evt.pos (by omega) (Evt.pos (by omega) ?_)))
 rw [hrx, B, Int.toNat_natCast, hw]; refine Evt.bind hR (Evt.pos rfl (Evt.pos p (Evt.neg (by omega) ?_)))
 by_cases M : 0 < q
 {
 have z : (rd_T71 L ((q : Int) - 1)).f0 = 11 := by {
 rcases hq with h | h
 ·omega
 ·rw [hphq] at h; exact beq_iff_eq.1 h.symm}
 rw [wrap64_id (x := (q : Int) - 1) (by omega) (by omega)]
 exact Evt.pos (by omega) (Evt.pos (by omega) (Evt.pos (by omega) (Evt.pos z (Evt.pos (by omega) (Evt.bind htw hv)))))}
 ·exact Evt.neg (by omega) (Evt.pos (by omega) (Evt.bind htw hv))}
 by_cases hdup : ((L.take q).any fun y => y.f2 == x.f2) = true
 {
 refine ⟨false, ?_, ?_, fun h => by cases h⟩
 {
 simp only [vIns]
 exact Evt.pos hrange (Evt.pos ⟨p, .inr ((hch hphq _).2 hdup)⟩ (Evt.const _))}
 ·exact hRR _ (Evt.pos hdup (Evt.const _))}
 {
 obtain ⟨b, F, G, C⟩ := ins_ev hp ha hrg P S i hi L hL hA hI hr hib xs (q + 1) I (ph && x.f0 == 11) (if (decide (x.f2 ∈ ch) || x.f0 == 11) = true then ch ++ [x.f2] else ch)
  (by rw [hphis, hph, Bool.and_assoc]) (.inr (by rw [hphis, hprev, hrx, hphq, Bool.true_and])) (fun _ d => by
   rw [h11b, Bool.or_true, if_pos rfl, htk, List.any_append, List.mem_append, Bool.or_eq_true, hch hphq d, List.mem_singleton]; simp only [List.any_cons, List.any_nil, Bool.or_false, beq_iff_eq]
   exact or_congr Iff.rfl eq_comm)
 refine ⟨b, ?_, hRR _ (Evt.neg hdup G), fun h => ⟨fun y hy => ?_, fun _ => ⟨x, xs, rfl, p, rfl⟩⟩⟩
 {
 simp only [vIns]
 refine Evt.pos hrange (Evt.neg (fun h => ?_) (Evt.bind hF (Evt.pos rfl F)))
 rcases h.2 with J | J
 ·rw [D, hphq] at J; cases J
 ·exact hdup ((hch hphq _).1 J)}
 {
 rcases List.mem_cons.1 hy with rfl | hy
 ·exact hfx
 ·exact (C h).1 y hy}})}}
 {
 have h11b : (x.f0 == 11) = false := beq_eq_false_iff_ne.2 p
 obtain ⟨b, F, G, C⟩ := ins_ev hp ha hrg P S i hi L hL hA hI hr hib xs (q + 1) I (ph && x.f0 == 11) (if (decide (x.f2 ∈ ch) || x.f0 == 11) = true then ch ++ [x.f2] else ch)
  (by rw [hphis, hph, Bool.and_assoc]) (.inr (by rw [hphis, hprev, hrx, h11b, Bool.and_false])) (fun h => by rw [hphis, h11b, Bool.and_false] at h; cases h)
 refine ⟨b, ?_, ?_, fun h => ⟨fun y hy => ?_, fun ⟨y, hy, E⟩ => ?_⟩⟩
 {
 simp only [vIns]
 exact Evt.pos hrange (Evt.neg (fun h => p h.1) (Evt.bind hF (Evt.pos rfl F)))}
 {
 refine Evt.succ ?_
 simp only [r6_Valid.l2]
 refine Evt.pos (by omega) (Evt.pos (by omega) (Evt.pos (by omega) (Evt.pos (by omega) ?_)))
 rw [hrx, B, hw]; exact Evt.bind hR (Evt.pos rfl (Evt.neg p G))}
 {
 rcases List.mem_cons.1 hy with rfl | hy
 ·exact hfx
 ·exact (C h).1 y hy}
 {
 rcases List.mem_cons.1 hy with rfl | hy
 ·exact absurd E p
 ·obtain ⟨_, _, _, _, hc⟩ := (C h).2 ⟨y, hy, E⟩; rw [hphis, h11b, Bool.and_false] at hc; cases hc}})}
end
end Go.Proofs.YtefhpdcafdhcaaaDoor.M
end
section
namespace Go.Proofs.YtefhpdcafdhcaaaDoor
open Go Go.RowKit Go.Proofs.YtefhpdcafdhcaaaDoorW.PrintWords Go.Proofs.YtefhpdcafdhcaaaDoor.A Go.Proofs.YtefhpdcafdhcaaaDoor.Op
open Go.Proofs.YtefhpdcafdhcaaaDoor.M (Big big Ints)
abbrev laidL : List (String × DataW Unit) := [("unicode.White_Space", Rows.laid_unicode_White_Space), ("strings.asciiSpace", Rows.laid_strings_asciiSpace)]
theorem tab_data : (Rows.laid_strings_asciiSpace : DataW Unit) = Lib.tabData .u8 Lib.asciiSpaceTab := by kernel_rfl
theorem laid_tab {W : World} (h : laidMetH Tryd.prog laidL W) : Tab W := by
 rw [MakeChecks.laidMetH_plain _ _ _ (by kernel_rfl)] at h
 obtain ⟨ps, ⟨_, _, _, _, _, _, _, _, _, _, ⟨g, t, cs, fuel, p, q, hg, hty, hvar, hd, _, _⟩, _⟩, _⟩ := h; refine Tab.of ?_
 obtain rfl := Option.some.inj (hg157.symm.trans hg); obtain ⟨n, e, h1, b, l, y, z⟩ : ∃ n e, (Tryd.prog.globals[ren.g 0]?).map (·.type) = some t ∧ Tryd.prog.underlying t = some (.array n e) ∧ Tryd.prog.underlying e = some (.int .u8) ∧ Tryd.prog.cellsOf e = 1 ∧ Tryd.prog.cellsOf t = n := by
  have B : (Tryd.prog.globals[ren.g 0]?).map (·.type) = some 122 := by kernel_rfl
  obtain rfl := Option.some.inj (B.symm.trans hty); exact ⟨256, 5, hty, by kernel_rfl, by kernel_rfl, by kernel_rfl, by kernel_rfl⟩
 rw [tab_data] at hd; unfold Lib.TabIs
 rw [hvar, ← Lib.cells_of_tab b l y z hd]
theorem of_bytes {P : Program} {e : TypeId} {n : Nat} (hb : P.bytesOf e ≠ 0) (h : n * P.bytesOf e ≤ reachBytes) : n ≤ reachBytes :=
 Nat.le_trans (Nat.le_mul_of_pos_right n (Nat.pos_of_ne_zero hb)) h
theorem wf_i64 {n : Int} (h : (Lit.int .i64 n).wf = true) : -9223372036854775808 ≤ n ∧ n ≤ 9223372036854775807 := by
 simp only [Lit.wf, Bool.and_eq_true, decide_eq_true_eq] at h
 have b : IntKind.i64.min = -9223372036854775808 := by decide
 have l : IntKind.i64.max = 9223372036854775807 := by decide
 omega
theorem wf_i32 {n : Int} (h : (Lit.int .i32 n).wf = true) : -2147483648 ≤ n ∧ n ≤ 2147483647 := by
 simp only [Lit.wf, Bool.and_eq_true, decide_eq_true_eq] at h
 have b : IntKind.i32.min = -2147483648 := by decide
 have l : IntKind.i32.max = 2147483647 := by decide
 omega
def InsOK (y : S71) : Prop := ((-2147483648 ≤ y.f5 ∧ y.f5 ≤ 2147483647) ∧ (-9223372036854775808 ≤ y.f2 ∧ y.f2 ≤ 9223372036854775807)) ∧ y.f6.length ≤ reachBytes
theorem opens_places : Opens Tryd.prog 27 (Kd.slice 3 (Kd.int .i64)) (fun ys => ys.length ≤ reachBytes ∧ ∀ y ∈ ys, -9223372036854775808 ≤ y ∧ y ≤ 9223372036854775807) :=
 opens_imp (opens_slice (by kernel_rfl) (by kernel_rfl) (opens_int (by kernel_rfl))) fun _ h => ⟨of_bytes (by decide +kernel) h.1, fun y hy => wf_i64 (h.2 y hy)⟩
theorem opens_ins : Opens Tryd.prog 71 k71 InsOK := by
 refine opens_imp (opens_iso (fun x : S71 => (x.f0, x.f1, x.f2, x.f3, x.f4, x.f5, x.f6)) (fun y => ⟨y.1, y.2.1, y.2.2.1, y.2.2.2.1, y.2.2.2.2.1, y.2.2.2.2.2.1, y.2.2.2.2.2.2⟩) (fun _ => rfl)
  (opens_struct Tryd.underlying71 (by kernel_rfl) (fs_cons rfl (by kernel_rfl) (opens_int (by kernel_rfl)) (fs_cons rfl (by kernel_rfl) (opens_int (by kernel_rfl)) (fs_cons rfl (by kernel_rfl) (opens_int (by kernel_rfl)) (fs_cons rfl (by kernel_rfl) (opens_int (by kernel_rfl)) (fs_cons rfl (by kernel_rfl) (opens_int (by kernel_rfl)) (fs_cons rfl (by kernel_rfl) (opens_int (by kernel_rfl)) (fs_one rfl (by kernel_rfl) opens_places))))))))) ?_
 rintro y ⟨_, _, b, _, _, l, h6⟩
 exact ⟨⟨wf_i32 l, wf_i64 b⟩, h6.1⟩
theorem opens_node : Opens Tryd.prog 69 k69 (fun n => n.f0.length ≤ reachBytes ∧ ∀ y ∈ n.f0, InsOK y) := by
 refine opens_imp (opens_iso (fun x : S69 => (x.f0, x.f1, x.f2, x.f3, x.f4)) (fun y => ⟨y.1, y.2.1, y.2.2.1, y.2.2.2.1, y.2.2.2.2⟩) (fun _ => rfl)
  (opens_struct Tryd.underlying69 (by kernel_rfl) (fs_cons rfl (by kernel_rfl) (opens_slice (by kernel_rfl) (by kernel_rfl) opens_ins) (fs_cons rfl (by kernel_rfl) (opens_int (by kernel_rfl)) (fs_cons rfl (by kernel_rfl) (opens_int (by kernel_rfl)) (fs_cons rfl (by kernel_rfl) (opens_int (by kernel_rfl)) (fs_one rfl (by kernel_rfl) (opens_int (by kernel_rfl))))))))) ?_
 rintro y ⟨b, _⟩
 exact ⟨of_bytes (by decide +kernel) b.1, b.2⟩
theorem opens_par : Opens Tryd.prog 83 k83 (fun _ => True) :=
 opens_imp (opens_iso (fun x : S83 => (x.f0, x.f1)) (fun y => ⟨y.1, y.2⟩) (fun _ => rfl) (opens_struct Tryd.underlying83 (by kernel_rfl) (fs_cons rfl (by kernel_rfl) (opens_string (by kernel_rfl)) (fs_one rfl (by kernel_rfl) (opens_bool (by kernel_rfl)))))) fun _ _ => trivial
theorem opens_arr : Opens Tryd.prog 85 k85 (fun _ => True) :=
 opens_imp (opens_iso (fun x : S85 => (x.f0, x.f1)) (fun y => ⟨y.1, y.2⟩) (fun _ => rfl) (opens_struct Tryd.underlying85 (by kernel_rfl) (fs_cons rfl (by kernel_rfl) (opens_string (by kernel_rfl)) (fs_one rfl (by kernel_rfl) (opens_int (by kernel_rfl)))))) fun _ _ => trivial
abbrev FlowT : Type := ByteArray × List S83 × List S85 × Int × List S69
def kFlow : Kd FlowT := Kd.pair Kd.string (Kd.pair (Kd.slice 83 k83) (Kd.pair (Kd.slice 85 k85) (Kd.pair (Kd.int .i64) (Kd.slice 69 k69))))
theorem kFlow_open {w : World} {x : FlowT} {cs : List Value} (h : kFlow.K w x cs) : ∃ b l p c2 q y, cs = [.string x.1, .slice b x.2.1.length l, .slice p x.2.2.1.length c2, .int .i64 x.2.2.2.1, .slice q x.2.2.2.2.length y] ∧ (x.2.1.length ≤ l ∧ Kd.C k83 w b x.2.1.length x.2.1) ∧ (x.2.2.1.length ≤ c2 ∧ Kd.C k85 w p x.2.2.1.length x.2.2.1) ∧ (x.2.2.2.2.length ≤ y ∧ Kd.C k69 w q x.2.2.2.2.length x.2.2.2.2) := by
 obtain ⟨_, _, rfl, rfl, ⟨_, _, rfl, ⟨b, l, rfl, l1, z⟩, ⟨_, _, rfl, ⟨p, c2, rfl, l2, B⟩, ⟨_, _, rfl, rfl, ⟨q, y, rfl, D, E⟩⟩⟩⟩⟩ := h; exact ⟨b, l, p, c2, q, y, rfl, ⟨l1, z⟩, ⟨l2, B⟩, ⟨D, E⟩⟩
theorem reach_big : reachBytes < big := by unfold big; decide
theorem opens_flow : Opens Tryd.prog 26 kFlow (fun x => Big x.2.1 x.2.2.1 x.2.2.2.2 ∧ Ints x.2.2.2.2) := by
 refine opens_imp (opens_struct Tryd.underlying26 (by kernel_rfl) (fs_cons rfl (by kernel_rfl) (opens_string (by kernel_rfl)) (fs_cons rfl (by kernel_rfl) (opens_slice (by kernel_rfl) (by kernel_rfl) opens_par) (fs_cons rfl (by kernel_rfl) (opens_slice (by kernel_rfl) (by kernel_rfl) opens_arr) (fs_cons rfl (by kernel_rfl) (opens_int (by kernel_rfl)) (fs_one rfl (by kernel_rfl) (opens_slice (by kernel_rfl) (by kernel_rfl) opens_node))))))) ?_
 rintro ⟨nm, ps, ar, rg, N⟩ ⟨_, h1, l, _, b⟩
 have hb := reach_big; have p := of_bytes (by decide +kernel) h1.1
 have q := of_bytes (by decide +kernel) l.1
 have z := of_bytes (by decide +kernel) b.1
 exact ⟨⟨Nat.lt_of_le_of_lt z hb, Nat.lt_of_le_of_lt p hb, Nat.lt_of_le_of_lt q hb, fun n hn => Nat.lt_of_le_of_lt (b.2 n hn).1 hb, fun n hn y hy => Nat.lt_of_le_of_lt ((b.2 n hn).2 y hy).2 hb⟩, fun n hn y hy => ((b.2 n hn).2 y hy).1⟩
end Go.Proofs.YtefhpdcafdhcaaaDoor
end
section
namespace Go.Proofs.YtefhpdcafdhcaaaDoor.M
open Go Go.RowKit Go.Proofs.YtefhpdcafdhcaaaDoorW.PrintWords Go.Proofs.YtefhpdcafdhcaaaDoorW.PrintLast Go.Proofs.YtefhpdcafdhcaaaDoorW.PrintMore Go.Proofs.YtefhpdcafdhcaaaDoor Go.Proofs.YtefhpdcafdhcaaaDoor.A Go.Proofs.YtefhpdcafdhcaaaDoor.B Go.Proofs.YtefhpdcafdhcaaaDoor.N Go.Proofs.YtefhpdcafdhcaaaDoor.V
open FlowM (next hasD hasA hasB Fine FineNd FineG)
section
variable (nm : ByteArray) {ps : List S83} {ar : List S85} (rg : Int) {N : List S69}
theorem wNds_cons (n : S69) (l : List S69) : wNds (n :: l) = n.f0.length + wArgs n.f0 + wNds l := by simp [wNds]
theorem wArgs_mem : ∀ {l : List S71} {y : S71}, y ∈ l → y.f6.length ≤ wArgs l
 | x :: l, y, h => by {
 have e : wArgs (x :: l) = x.f6.length + wArgs l := by simp [wArgs]
 rw [e]; rcases List.mem_cons.1 h with rfl | h
 ·omega
 ·have := wArgs_mem h; omega}
def FirstPhi (n : S69) : Prop := (∃ y ∈ n.f0, y.f0 = 11) → ∃ x l, n.f0 = x :: l ∧ x.f0 = 11
theorem nds_ev (hp : ps.length ≤ 6) (ha : ar.length ≤ 400) (hrg : 0 ≤ rg) (hI : Ints N) (P : List (List Int)) (S : List Bool) (hP : P.length = N.length) (hS : S.length = N.length) (hN : N.length ≤ 400) :
  ∀ (rest : List S69) (i : Nat), N.drop i = rest → wNds rest ≤ 400 → ∀ s : Nat, s + wNds rest ≤ 2000 → ∃ b, Evt (fun k => vNds k nm ps ar rg N P i (s : Int) rest) b ∧ Evt (fun k => r6_Valid.l1 k P S (i : Int) nm ps ar rg N) ((S.drop i).all id && b) ∧ (b = true → ∀ n ∈ rest, (∀ y ∈ n.f0, FineA rg.toNat y) ∧ FirstPhi n)
 | [], i, hd, _, s, _ => by {
 have := drop_nil_ge hd
 refine ⟨true, Evt.const _, ?_, fun _ n hn => by cases hn⟩
 refine Evt.succ ?_
 simp only [r6_Valid.l1]
 refine Evt.neg (by omega) ?_
 rw [List.drop_of_length_le (by omega)]
 exact Evt.const _}
 | n :: rest, i, hd, hw, s, hs => by {
 obtain ⟨hrn, hi, p⟩ := rd69_drop hd; have hnm : n ∈ N := by rw [← List.take_append_drop i N, hd]; simp
 rw [wNds_cons] at hw hs
 obtain ⟨bR, h1, q, B⟩ := nds_ev hp ha hrg hI P S hP hS hN rest (i + 1) p (by omega) (s + n.f0.length) (by omega)
 obtain ⟨bI, C, D, z⟩ := ins_ev nm rg (N := N) hp ha hrg P S i (by omega) n.f0 (by omega) (fun y hy => by have := wArgs_mem hy; omega) (hI n hnm) q (by omega) n.f0 0 rfl (decide (0 < i)) [] (by simp [phis]) (.inl rfl) (fun _ d => by simp)
 have hiS : i < S.length := by omega
 refine ⟨bI && bR, ?_, ?_, fun h m hm => ?_⟩
 {
 simp only [vNds]
 refine Evt.pos (by omega) (Evt.neg (by omega) (Evt.bind C ?_))
 cases bI with
 | false => exact Evt.neg (by simp) (Evt.const _)
 | true => (
 refine Evt.pos rfl ?_
 rw [show ((s : Int) + (n.f0.length : Int)) = ((s + n.f0.length : Nat) : Int) by omega, Bool.true_and]
 exact h1)}
 {
 refine Evt.succ ?_
 simp only [r6_Valid.l1]
 refine Evt.pos (by omega) (Evt.pos (by omega) (Evt.pos (by omega) ?_))
 rw [hrn, rdOf_nat _ _ _ hiS, List.drop_eq_getElem_cons hiS, List.all_cons]; cases hSi : S[i] with
 | false => (
 refine Evt.neg (by simp) ?_
 exact Evt.const _)
 | true => (
 refine Evt.pos rfl ?_
 rw [show (id true && (S.drop (i + 1)).all id && (bI && bR)) = (bI && ((S.drop (i + 1)).all id && bR)) by cases bI <;> cases (S.drop (i + 1)).all id <;> rfl]
 exact D)}
 {
 rw [Bool.and_eq_true] at h; rcases List.mem_cons.1 hm with rfl | hm
 ·exact ⟨(z h.1).1, fun hy => by obtain ⟨x, l, h1, q, _⟩ := (z h.1).2 hy; exact ⟨x, l, h1, q⟩⟩
 ·exact B h.2 m hm}}
theorem rl0_ev {r : Bool} (hN : N.length ≤ 400) (hr : N.all (endOK N.length rg) = true → Evt (fun k => (r6_Preds.f k nm ps ar rg N).bind fun P => (r6_reached.f k nm ps ar rg N).bind fun S => r6_Valid.l1 k P S 0 nm ps ar rg N) r) :
  ∀ (rest : List S69) (i : Nat), N.drop i = rest → (N.all (endOK N.length rg) = rest.all (endOK N.length rg)) → ∀ c : Nat, c + wNds rest ≤ 2000 → Evt (fun k => r6_Valid.l0 k (c : Int) (i : Int) nm ps ar rg N) (rest.all (endOK N.length rg) && r)
 | [], i, hd, he, c, _ => by {
 have := drop_nil_ge hd
 refine Evt.succ ?_
 simp only [r6_Valid.l0]
 refine Evt.neg (by omega) ?_
 rw [List.all_nil, Bool.true_and]; exact hr (by rw [he]; rfl)}
 | n :: rest, i, hd, he, c, hc => by {
 obtain ⟨hrn, hi, b⟩ := rd69_drop hd; rw [wNds_cons] at hc; refine Evt.succ ?_
 simp only [r6_Valid.l0]
 refine Evt.pos (by omega) (Evt.pos (by omega) ?_)
 rw [hrn, show wrap64 ((c : Int) + (n.f0.length : Int)) = ((c + n.f0.length : Nat) : Int) by rw [wrap64_id (by omega) (by omega)]; omega, wrap_succ i (by omega)]
 refine Evt.neg (by omega) (Evt.bind (rends_ev nm ps ar rg N n) ?_)
 rw [List.all_cons]; cases hb : endOK N.length rg n with
 | false => exact Evt.neg (by simp) (Evt.const _)
 | true => (
 refine Evt.pos rfl ?_
 rw [Bool.true_and]; exact rl0_ev hN hr rest (i + 1) b (by rw [he, List.all_cons, hb, Bool.true_and]) (c + n.f0.length) (by omega))}
theorem cnt_all {S : List Bool} : S.all id = decide (cnt S = S.length) := by
 rw [Bool.eq_iff_iff, decide_eq_true_eq, List.all_eq_true, cnt, List.count_eq_length]; exact ⟨fun h b hb => (h b hb).symm, fun h b hb => (h b hb).symm⟩
structure VF (nm : ByteArray) (ps : List S83) (ar : List S85) (rg : Int) (N : List S69) : Prop where
 r0 : 0 ≤ rg
 r1 : rg ≤ 2000
 n0 : 0 < N.length
 fine : FineG rg.toNat N
 first : ∀ n ∈ N, FirstPhi n
 args : ∀ n ∈ N, ∀ y ∈ n.f0, y.f0 ≠ 11 → y.f6 = []
theorem end_fine {rg : Int} {len : Nat} {n : S69} (hrg : 0 ≤ rg) (h : endOK len rg n = true) (hy : ∀ y ∈ n.f0, Fine rg.toNat y) : FineNd rg.toNat len n := by
 unfold endOK at h
 rw [Bool.and_eq_true] at h; refine ⟨hy, fun h1 => ?_, fun k hk => ?_⟩
 ·have b := h.2; unfold endK at b
  rw [if_neg (by omega), if_pos h1, Bool.and_eq_true, decide_eq_true_eq, decide_eq_true_eq] at b
  omega
 ·have := tgt_iff.1 (List.all_eq_true.1 h.1 k hk)
  omega
theorem j0bad : Evt (fun k => r6_Valid.j0 k true nm ps ar rg N) false := by
 refine Evt.succ ?_
 simp only [r6_Valid.j0]
 exact Evt.pos trivial (Evt.const _)
theorem valid_ev (hs : Small nm ps ar N) (hI : Ints N) : ∃ b, Evt (fun k => r6_Valid.f k nm ps ar rg N) b ∧ Evt (fun k => flow_Valid.f k nm ps ar rg N) b ∧ (b = true → VF nm ps ar rg N) := by
 have hsum := hs.sum; have hH := heads_ev hs; have hsm : smallF nm ps ar = true := by {
 unfold smallF
 rw [Bool.and_eq_true, Bool.and_eq_true, decide_eq_true_eq, List.all_eq_true, List.all_eq_true]; exact ⟨⟨by have := hs.name; omega, fun p hp => decide_eq_true (by have := hs.pars p hp; omega)⟩, fun p hp => decide_eq_true (by have := hs.arrs p hp; omega)⟩}
 by_cases hn : N.length < 1
 {
 refine ⟨false, ?_, ?_, fun h => by cases h⟩
 {
 unfold r6_Valid.f
 refine Evt.bind hH ?_
 by_cases h1 : headOK nm ps ar = true
 {
 refine Evt.pos h1 ?_
 by_cases B : rg < 0
 ·exact Evt.pos B (j0bad nm rg)
 {
 refine Evt.neg B ?_
 by_cases E : rg > 2000
 ·exact Evt.pos E (j0bad nm rg)
 ·exact Evt.neg E (Evt.pos (by omega) (j0bad nm rg))}}
 ·exact Evt.neg h1 (j0bad nm rg)}
 {
 unfold flow_Valid.f
 exact Evt.pos (.inl hn) (Evt.const _)}}
 {
 by_cases hb : headB nm ps ar rg = true
 {
 have C := hb; rw [head_eq, Bool.and_eq_true, Bool.and_eq_true, decide_eq_true_eq, decide_eq_true_eq] at C; obtain ⟨hh, q, F⟩ := C; have G : ps.length ≤ 6 := by {
 have h := hh; unfold headOK head3 at h
 simp only [Bool.and_eq_true, decide_eq_true_eq] at h
 exact h.1.1.1.2}
 have hRpre : ∀ v, Evt (fun k => r6_Valid.l0 k (N.length : Int) 0 nm ps ar rg N) v → Evt (fun k => r6_Valid.f k nm ps ar rg N) v := by {
 intro v hv
 unfold r6_Valid.f
 refine Evt.bind hH (Evt.pos hh (Evt.neg (by omega) (Evt.neg (by omega) (Evt.neg (by omega) (Evt.succ ?_)))))
 simp only [r6_Valid.j0]
 exact Evt.neg (by simp; omega) hv}
 by_cases hE : N.all (endOK N.length rg) = true
 {
 have hT : ∀ n ∈ N, ∀ m ∈ next n, 0 ≤ m ∧ m < (N.length : Int) := by {
 intro n l m hm
 have h := List.all_eq_true.1 hE n l; unfold endOK at h
 rw [Bool.and_eq_true] at h; have := tgt_iff.1 (List.all_eq_true.1 h.1 m hm)
 omega}
 obtain ⟨S, hS, hSr, hSf⟩ := reached_ev nm ps ar rg (N := N) (by omega) (by omega) hT
 obtain ⟨P, hP, hPr, hPf⟩ := preds_ev nm ps ar rg (N := N) (by omega) hT
 obtain ⟨b, I, D, z⟩ := nds_ev nm rg (ps := ps) (ar := ar) (N := N) G (by omega) q hI P S hP hS (by omega) N 0 rfl (by omega) N.length (by omega)
 rw [List.drop_zero, cnt_all, hS] at D; have hR := hRpre _ (rl0_ev nm rg (by omega) (fun _ => Evt.bind hPr (Evt.bind hSr D)) N 0 rfl rfl N.length (by omega))
 rw [hE, Bool.true_and] at hR; have hF := fends_ev nm ps ar rg (S := S) (N := N) (by omega) (by omega) (fun _ => hSf) N 0 rfl rfl
 rw [hE, Bool.true_and] at hF; refine ⟨_, hR, ?_, fun h => ?_⟩
 {
 unfold flow_Valid.f
 refine Evt.neg (by omega) (Evt.pos hsm (Evt.pos hb (Evt.bind (a := decide (cnt S = N.length)) ?_ ?_)))
 {
 unfold flow_ends.f
 exact hF}
 {
 cases hc : decide (cnt S = N.length) with
 | false => exact Evt.neg (by simp) (Evt.const _)
 | true => (
 refine Evt.pos rfl (Evt.bind hPf (Evt.pos hP ?_))
 rw [Bool.true_and]; exact I)}}
 ·rw [Bool.and_eq_true] at h; exact ⟨q, F, by omega, fun n l => end_fine q (List.all_eq_true.1 hE n l) (fun y hy => ((z h.2 n l).1 y hy).1), fun n l => (z h.2 n l).2, fun n l y hy => ((z h.2 n l).1 y hy).2⟩}
 {
 refine ⟨false, ?_, ?_, fun h => by cases h⟩
 {
 have hR := hRpre _ (rl0_ev (r := true) nm rg (by omega) (fun h => absurd h hE) N 0 rfl rfl N.length (by omega))
 rw [Bool.eq_false_iff.2 hE] at hR; exact hR}
 {
 have hF := fends_ev nm ps ar rg (S := []) (N := N) (by omega) (by omega) (fun h => absurd h hE) N 0 rfl rfl
 rw [Bool.eq_false_iff.2 hE, Bool.false_and] at hF; unfold flow_Valid.f
 refine Evt.neg (by omega) (Evt.pos hsm (Evt.pos hb (Evt.bind (a := false) ?_ (Evt.neg (by simp) (Evt.const _)))))
 unfold flow_ends.f
 exact hF}}}
 {
 refine ⟨false, ?_, ?_, fun h => by cases h⟩
 {
 unfold r6_Valid.f
 refine Evt.bind hH ?_
 by_cases h1 : headOK nm ps ar = true
 {
 refine Evt.pos h1 ?_
 by_cases B : rg < 0
 ·exact Evt.pos B (j0bad nm rg)
 {
 refine Evt.neg B ?_
 by_cases E : rg > 2000
 ·exact Evt.pos E (j0bad nm rg)
 {
 exfalso
 apply hb
 rw [head_eq, h1, decide_eq_true (show 0 ≤ rg by omega), decide_eq_true (show rg ≤ 2000 by omega)]
 rfl}}}
 ·exact Evt.neg h1 (j0bad nm rg)}
 {
 unfold flow_Valid.f
 exact Evt.neg (by omega) (Evt.pos hsm (Evt.neg hb (Evt.const _)))}}}
end
end Go.Proofs.YtefhpdcafdhcaaaDoor.M
end
section
namespace Go.Proofs.YtefhpdcafdhcaaaDoor.S
open Go Go.RowKit Go.Proofs.YtefhpdcafdhcaaaDoorW.PrintWords Go.Proofs.YtefhpdcafdhcaaaDoorW.PrintLast Go.Proofs.YtefhpdcafdhcaaaDoorW.PrintMore Go.Proofs.YtefhpdcafdhcaaaDoor Go.Proofs.YtefhpdcafdhcaaaDoor.A FlowM
def cw (s j : Nat) : Value := .int .u64 ((word s j : Nat) : Int)
def cellsL (l : List Nat) : List Value := (List.range (32 * l.length)).map fun k => cw (l.getD (k / 32) 0) (k % 32)
theorem cellsL_len (l : List Nat) : (cellsL l).length = 32 * l.length := by simp [cellsL]
theorem cellsL_get (l : List Nat) {i j : Nat} (hi : i < l.length) (hj : j < 32) : (cellsL l)[32 * i + j]? = some (cw (l.getD i 0) j) := by
 have h1 : 32 * i + j < 32 * l.length := by omega
 unfold cellsL
 rw [List.getElem?_map, List.getElem?_range h1]; rw [Option.map_some, show (32 * i + j) / 32 = i by omega, show (32 * i + j) % 32 = j by omega]
theorem cellsL_one (l : List Nat) : ∀ v ∈ cellsL l, v.oneCell' = true := by
 intro v hv
 unfold cellsL at hv
 obtain ⟨k, _, rfl⟩ := List.mem_map.1 hv; rfl
theorem cellsL_ext {l : List Nat} {cs : List Value} (hl : cs.length = 32 * l.length) (h : ∀ i j, i < l.length → j < 32 → cs[32 * i + j]? = some (cw (l.getD i 0) j)) : cs = cellsL l := by
 apply List.ext_getElem?
 intro k
 by_cases hk : k < 32 * l.length
 {
 have e : k = 32 * (k / 32) + k % 32 := by omega
 have h1 : k / 32 < l.length := by omega
 have b : k % 32 < 32 := by omega
 rw [e, h _ _ h1 b, cellsL_get l h1 b]}
 ·rw [List.getElem?_eq_none (by omega), List.getElem?_eq_none (by rw [cellsL_len]; omega)]
theorem cellsL_set {l : List Nat} {i j s : Nat} (hi : i < l.length) (hj : j < 32) (h : ∀ k, k < 32 → k ≠ j → word s k = word (l.getD i 0) k) : (cellsL l).set (32 * i + j) (cw s j) = cellsL (l.set i s) := by
 apply cellsL_ext
 ·simp [cellsL_len]
 {
 intro a b ha hb
 rw [List.length_set] at ha; rw [List.getElem?_set]; by_cases he : 32 * i + j = 32 * a + b
 {
 obtain rfl : i = a := by omega
 obtain rfl : j = b := by omega
 rw [if_pos rfl, if_pos (by rw [cellsL_len]; omega), getD_set hi, if_pos rfl]}
 {
 rw [if_neg he, cellsL_get l ha hb, getD_set hi]; by_cases hia : i = a
 {
 subst hia; rw [if_pos rfl]; unfold cw
 rw [h b hb (by omega)]}
 ·rw [if_neg hia]}}
theorem cellsL_put {l : List Nat} {i s : Nat} (hi : i < l.length) : (cellsL l).take (32 * i) ++ cellsL [s] ++ (cellsL l).drop (32 * i + 32) = cellsL (l.set i s) := by
 have q : (cellsL [s]).length = 32 := by rw [cellsL_len]; rfl
 have p := cellsL_len l; apply cellsL_ext
 ·simp only [List.length_append, List.length_take, List.length_drop, q, p, List.length_set]; omega
 {
 intro a b ha hb
 rw [List.length_set] at ha; rw [getD_set hi]; by_cases h1 : a < i
 ·rw [List.getElem?_append_left (by simp only [List.length_append, List.length_take, q, p]; omega), List.getElem?_append_left (by simp only [List.length_take, p]; omega), List.getElem?_take, if_pos (by omega), cellsL_get l ha hb, if_neg (by omega)]
 {
 by_cases y : a = i
 {
 subst y; rw [List.getElem?_append_left (by simp only [List.length_append, List.length_take, q, p]; omega), List.getElem?_append_right (by simp only [List.length_take, p]; omega), if_pos rfl]
 have : 32 * a + b - (List.take (32 * a) (cellsL l)).length = 32 * 0 + b := by simp only [List.length_take, p]; omega
 rw [this, cellsL_get [s] (by simp) hb]
 rfl}
 {
 rw [List.getElem?_append_right (by simp only [List.length_append, List.length_take, q, p]; omega), List.getElem?_drop, if_neg (by omega)]
 have : 32 * i + 32 + (32 * a + b - (List.take (32 * i) (cellsL l) ++ cellsL [s]).length) = 32 * a + b := by simp only [List.length_append, List.length_take, q, p]; omega
 rw [this, cellsL_get l ha hb]}}}
def SetsAt (w : World) (g : Nat) (l : List Nat) : Prop := w.heap[g]? = some (.cells (cellsL l).toArray 59 (0, 0))
section
variable {w w' : World} {g : Nat} {l : List Nat}
theorem SetsAt.lt (h : SetsAt w g l) : g < w.heap.size := blk_lt h
theorem SetsAt.grown (h : SetsAt w g l) {row : Option Nat} (hg : w.grownBy w' row) (hne : some g ≠ row) : SetsAt w' g l := blk_grown h hg hne
theorem SetsAt.below (h : SetsAt w g l) {B : Nat} (hb : Below B w w') (hB : g < B) : SetsAt w' g l := (hb.block g hB).trans h
theorem SetsAt.cell (h : SetsAt w g l) {i j : Nat} (hi : i < l.length) (hj : j < 32) : w.cell? ⟨g, 32 * i + j, none⟩ = some (cw (l.getD i 0) j) := by
 rw [blk_cell h, List.getElem?_toArray, cellsL_get l hi hj]
theorem SetsAt.frozen (h : SetsAt w g l) (i : Nat) : w.frozen? ⟨g, i, none⟩ = false := blk_frozen h i
theorem SetsAt.range (h : SetsAt w g l) {i : Nat} (hi : i < l.length) : w.rangeAt g (32 * i) (cellsL [l.getD i 0]) := by
 intro j v hv
 have hj : j < 32 := by have := (List.getElem?_eq_some_iff.1 hv).1; rw [cellsL_len] at this; simpa using this
 have h1 := cellsL_get [l.getD i 0] (i := 0) (j := j) (by simp) hj
 rw [Nat.mul_zero, Nat.zero_add] at h1; rw [h1] at hv; rw [h.cell hi hj]; exact hv
theorem SetsAt.set (h : SetsAt w g l) {i j s : Nat} (hi : i < l.length) (hj : j < 32) (hw : ∀ k, k < 32 → k ≠ j → word s k = word (l.getD i 0) k) : SetsAt (w.setCell ⟨g, 32 * i + j, none⟩ (cw s j)) g (l.set i s) := by
 unfold SetsAt at h ⊢
 refine (blk_put h (32 * i + j) (cw s j) rfl).trans ?_
 rw [List.setIfInBounds_toArray, cellsL_set hi hj hw]
end
theorem grown_set (w : World) (g o : Nat) (v : Value) : w.grownBy (w.setCell ⟨g, o, none⟩ v) (some g) := ⟨rfl, rfl, rfl, by simp [World.setCell], fun k _ hne => Below.heap_setCell _ _ _ _ (fun e => hne (by rw [e]))⟩
theorem grown_drew {w w' : World} {row : Option Nat} (h : w.grownBy w' row) : w.grownBy w'.drew row := ⟨h.os, h.tape, h.output, h.size, h.block⟩
theorem SetsAt.drew {w : World} {g : Nat} {l : List Nat} (h : SetsAt w g l) : SetsAt w.drew g l := h
end Go.Proofs.YtefhpdcafdhcaaaDoor.S
end
section
namespace Go.Proofs.YtefhpdcafdhcaaaDoor.S
open Go Go.RowKit Go.Proofs.YtefhpdcafdhcaaaDoorW.PrintWords Go.Proofs.YtefhpdcafdhcaaaDoorW.PrintLast Go.Proofs.YtefhpdcafdhcaaaDoorW.PrintMore Go.Proofs.YtefhpdcafdhcaaaDoor Go.Proofs.YtefhpdcafdhcaaaDoor.A FlowM
theorem wrap_u64_small (n : Nat) (h : n < 18446744073709551616) : IntKind.u64.wrap (n : Int) = (n : Int) := by
 simp [IntKind.wrap, IntKind.signed, IntKind.bits]
 omega
theorem wrap64_id {n : Int} (b : -9223372036854775808 ≤ n) (h1 : n < 9223372036854775808) : wrap64 n = n := by unfold wrap64; omega
theorem wrap_shl {b : Nat} (hb : b < 64) : IntKind.u64.wrap (2 ^ min b 64) = ((1 <<< b : Nat) : Int) := by
 rw [Nat.min_eq_left (by omega), Nat.one_shiftLeft, show (2 : Int) ^ b = ((2 ^ b : Nat) : Int) by simp]
 have : 2 ^ b < 2 ^ 64 := Nat.pow_lt_pow_right (by omega) hb
 exact wrap_u64_small _ (by omega)
theorem word_high (s j : Nat) {b : Nat} (hb : ¬ b < 64) : (word s j).testBit b = false := Nat.testBit_lt_two_pow (Nat.lt_of_lt_of_le (word_lt s j) (Nat.pow_le_pow_right (by omega) (by omega)))
theorem word_put_ne {s r k : Nat} (h : k ≠ r / 64) : word (put s r) k = word s k := by rw [word_put, if_neg (Ne.symm h)]
theorem word_take_ne {s r k : Nat} (h : k ≠ r / 64) : word (take s r) k = word s k := by
 refine Nat.eq_of_testBit_eq fun b => ?_
 by_cases hb : b < 64
 ·rw [word_bit _ _ _ hb, word_bit _ _ _ hb, take_bit, decide_eq_false (by omega)]; simp
 ·rw [word_high _ _ hb, word_high _ _ hb]
theorem put_word (s r : Nat) : bits .or .u64 (word s (r / 64) : Int) ((1 <<< (r % 64) : Nat) : Int) = ((word (put s r) (r / 64) : Nat) : Int) := by
 have h1 : (1 : Nat) <<< (r % 64) < 2 ^ 64 := by rw [Nat.one_shiftLeft]; exact Nat.pow_lt_pow_right (by omega) (Nat.mod_lt _ (by omega))
 have b := word_lt s (r / 64); rw [bits_or_u64_nat _ _ (by omega) (by omega), word_put, if_pos rfl]
theorem take_word (s r : Nat) : bits .andNot .u64 (word s (r / 64) : Int) ((1 <<< (r % 64) : Nat) : Int) = ((word (take s r) (r / 64) : Nat) : Int) := by
 have h1 : (1 : Nat) <<< (r % 64) < 2 ^ 64 := by rw [Nat.one_shiftLeft]; exact Nat.pow_lt_pow_right (by omega) (Nat.mod_lt _ (by omega))
 have y := word_lt s (r / 64); have l : (BitVec.ofInt 64 (word s (r / 64) : Int)).toNat = word s (r / 64) := by rw [BitVec.ofInt_natCast, BitVec.toNat_ofNat]; exact Nat.mod_eq_of_lt (by omega)
 have p : (BitVec.ofInt 64 ((1 <<< (r % 64) : Nat) : Int)).toNat = 1 <<< (r % 64) := by rw [BitVec.ofInt_natCast, BitVec.toNat_ofNat]; exact Nat.mod_eq_of_lt (by omega)
 show IntKind.u64.wrap ((BitVec.ofInt 64 (word s (r / 64) : Int) &&& ~~~ BitVec.ofInt 64 ((1 <<< (r % 64) : Nat) : Int)).toNat : Int) = _
 have q : (BitVec.ofInt 64 (word s (r / 64) : Int) &&& ~~~ BitVec.ofInt 64 ((1 <<< (r % 64) : Nat) : Int)).toNat = word (take s r) (r / 64) := by {
 rw [BitVec.toNat_and, BitVec.toNat_not, l, p]; refine Nat.eq_of_testBit_eq fun b => ?_
 rw [Nat.testBit_and, show 2 ^ 64 - 1 - 1 <<< (r % 64) = 2 ^ 64 - (1 <<< (r % 64) + 1) by omega, Nat.testBit_two_pow_sub_succ h1]
 by_cases hb : b < 64
 {
 rw [word_bit _ _ _ hb, word_bit _ _ _ hb, take_bit, bit_one]; have : decide (r % 64 = b) = decide (r = 64 * (r / 64) + b) := decide_eq_decide.2 (by omega)
 rw [this]; simp [hb]}
 ·rw [word_high _ _ hb, word_high _ _ hb]; simp}
 rw [q]; exact wrap_u64_small _ (word_lt _ _)
def wput.T0 : Bool × List (List Nat × List Nat) := (true, [([], []), ([], []), ([1], [1]), ([0], [0]), ([3, 2], [2, 3]), ([4], [4]), ([], []), ([6], [6]), ([7], [7]), ([8], [8]), ([5, 9], [5, 9]), ([0], [0]), ([11, 2, 0, 1, 2, 3, 4, 5, 6, 7, 8, 9, 10], [2, 11]), ([12, 10, 0, 1, 2, 3, 4, 5, 6, 7, 8, 9, 10], [10, 12])])
def wput.B0 : List Nat := [0, 0, 2, 1, 15, 31, 0, 64, 192, 448, 1023, 1, 4095, 8191]
theorem wput.tab0 : rtab .any (opsOf Tryd.f36 0) = wput.T0 := by kernel_rfl
theorem wput.bits0 : waitsOk wput.T0.2 wput.B0 = true := by kernel_rfl
abbrev wput.b0_0 : Array Bool := #[Z,Z,Z,Z,Z,Z,Z,Z,Z,Z,Z,Z,Z,Z]
abbrev wput.b0_14 : Array Bool := #[Y,Y,Y,Y,Y,Y,Y,Y,Y,Y,Y,Y,Y,Y]
theorem put_calls (w : World) (g i r : Nat) (l : List Nat) (hs : SetsAt w g l) (hi : i < l.length) (hr : r < 2048) :
  Calls Tryd.prog 36 #[.pointer (some ⟨g, 32 * i, none⟩), .int .i64 (r : Int)] w fun e w' => e = .returned (.tuple #[]) ∧ w.grownBy w' (some g) ∧ SetsAt w' g (l.set i (put (l.getD i 0) r)) := by
 have HS := a_ hs; have HI := a_ hi; have HR := a_ hr; obtain ⟨q, hq⟩ : ∃ q, q = r / 64 := ⟨_, rfl⟩; have C : Aside0 (IntKind.i64.wrap ((r : Int) / 64) = (q : Int)) := ⟨by rw [hq, show ((r : Int) / 64) = ((r / 64 : Nat) : Int) by omega]; rw [i64_w, wrap64_id (by omega) (by omega)]⟩
 obtain ⟨b, hb⟩ : ∃ b, b = r % 64 := ⟨_, rfl⟩; have D : Aside0 (IntKind.u64.wrap (r : Int) = (r : Int)) := ⟨wrap_u64_small _ (by omega)⟩
 have E : Aside0 ((r : Int).tmod 64 = (b : Int)) := ⟨by rw [hb, Int.tmod_eq_emod_of_nonneg (by omega)]; omega⟩
 obtain ⟨m, hm⟩ : ∃ m, m = 1 <<< b := ⟨_, rfl⟩; have F : Aside0 (IntKind.u64.wrap (2 ^ min b 64) = (m : Int)) := ⟨by rw [hm]; exact wrap_shl (by omega)⟩
 have HM := a_ hm; obtain ⟨x, hx⟩ : ∃ x, x = word (l.getD i 0) q := ⟨_, rfl⟩; obtain ⟨y, hy⟩ : ∃ y, y = word (put (l.getD i 0) r) q := ⟨_, rfl⟩; have G : Aside0 (bits .or .u64 (x : Int) (m : Int) = (y : Int)) := ⟨by rw [hx, hm, hy, hb, hq]; exact put_word _ _⟩
 have HY := a_ hy; have I := a_ hb; have J : ((q : Int) < 32) = True := eq_true (by omega)
 have HC : Aside0 (w.cell? ⟨g, 32 * i + q, none⟩ = some (.int .u64 (x : Int))) := ⟨by rw [hx]; exact hs.cell hi (by omega)⟩
 have HQ := a_ hq; clear hs hi hr hq hb hm hx hy; go_enter Tryd.func36, Tryd.ntmps36
 go_upto_region 0 with (fail)
 refine start_ (n := 14) (S := fun W' => W'.cell? ⟨g, 32 * i + q, none⟩ = some (.int .u64 (x : Int))) (ds := [13]) wput.b0_0 (by kernel_rfl) rfl rfl HC.out (fun z => ?_)
 refine with_tabW wput.tab0 wput.bits0 (fun p B => ?_)
 refine qv_ 0 p ?_
 refine qv_ 1 p ?_
 refine qv_ (v := .int .i64 (q : Int)) 2 p ?_ (hy := by intro w'; go_simp; first | done | rw [C.out])
 refine qv_ 3 p ?_
 refine qv_ 4 p ?_
 refine qv_ 6 p ?_
 refine qv_ (v := .int .u64 (r : Int)) 7 p ?_ (hy := by intro w'; go_simp; first | done | rw [D.out])
 refine qv_ (v := .int .u64 (b : Int)) 8 p ?_ (hy := by intro w'; go_simp; first | done | rw [E.out])
 refine qv_ (v := .int .u64 (m : Int)) 9 p ?_ (hy := by intro w'; go_simp; first | done | rw [F.out])
 refine qv_ 11 p ?_
 refine qt_ 5 p B z ?_
 refine qv_ (v := .int .u64 (y : Int)) 10 p ?_ (hy := by intro w'; go_simp; first | done | rw [G.out])
 refine qv_ 12 p ?_
 refine last_ (i := 13) (N := none) wput.b0_14 rfl rfl (one_of p.out (by kernel_rfl)) (by decide) (fun K hK => ?_)
 refine skip_ (w1 := ?_) (by rfl) rfl ?_ ?_
 rotate_left
 ·have := HS.out.frozen (32 * i + q)
  go_simp
  first | done | rfl
 refine hK.out _ _ ?_
 clear hK K; refine done_ (done_of p.out (by kernel_rfl)) ?_
 refine bodyPost_end (results_none rfl _ _ _) rfl ?_
 refine ⟨rfl, grown_drew (grown_set w g (32 * i + q) _), ?_⟩
 have h_ := HS.out.set (j := q) (s := put (l.getD i 0) r) HI.out (by have := HR.out; have := HQ.out; omega) (fun k _ hk => word_put_ne (by rw [← HQ.out]; exact hk))
 unfold cw at h_
 rw [← HY.out] at h_; exact h_
def wtake.T0 : Bool × List (List Nat × List Nat) := (true, [([], []), ([], []), ([1], [1]), ([0], [0]), ([3, 2], [2, 3]), ([4], [4]), ([], []), ([6], [6]), ([7], [7]), ([8], [8]), ([5, 9], [5, 9]), ([0], [0]), ([11, 2, 0, 1, 2, 3, 4, 5, 6, 7, 8, 9, 10], [2, 11]), ([12, 10, 0, 1, 2, 3, 4, 5, 6, 7, 8, 9, 10], [10, 12])])
def wtake.B0 : List Nat := [0, 0, 2, 1, 15, 31, 0, 64, 192, 448, 1023, 1, 4095, 8191]
theorem wtake.tab0 : rtab .any (opsOf Tryd.f70 0) = wtake.T0 := by kernel_rfl
theorem wtake.bits0 : waitsOk wtake.T0.2 wtake.B0 = true := by kernel_rfl
abbrev wtake.b0_0 : Array Bool := #[Z,Z,Z,Z,Z,Z,Z,Z,Z,Z,Z,Z,Z,Z]
abbrev wtake.b0_14 : Array Bool := #[Y,Y,Y,Y,Y,Y,Y,Y,Y,Y,Y,Y,Y,Y]
theorem take_calls (w : World) (g i r : Nat) (l : List Nat) (hs : SetsAt w g l) (hi : i < l.length) (hr : r < 2048) :
  Calls Tryd.prog 70 #[.pointer (some ⟨g, 32 * i, none⟩), .int .i64 (r : Int)] w fun e w' => e = .returned (.tuple #[]) ∧ w.grownBy w' (some g) ∧ SetsAt w' g (l.set i (take (l.getD i 0) r)) := by
 have HS := a_ hs; have HI := a_ hi; have HR := a_ hr; obtain ⟨q, hq⟩ : ∃ q, q = r / 64 := ⟨_, rfl⟩; have C : Aside0 (IntKind.i64.wrap ((r : Int) / 64) = (q : Int)) := ⟨by rw [hq, show ((r : Int) / 64) = ((r / 64 : Nat) : Int) by omega]; rw [i64_w, wrap64_id (by omega) (by omega)]⟩
 obtain ⟨b, hb⟩ : ∃ b, b = r % 64 := ⟨_, rfl⟩; have D : Aside0 (IntKind.u64.wrap (r : Int) = (r : Int)) := ⟨wrap_u64_small _ (by omega)⟩
 have E : Aside0 ((r : Int).tmod 64 = (b : Int)) := ⟨by rw [hb, Int.tmod_eq_emod_of_nonneg (by omega)]; omega⟩
 obtain ⟨m, hm⟩ : ∃ m, m = 1 <<< b := ⟨_, rfl⟩; have F : Aside0 (IntKind.u64.wrap (2 ^ min b 64) = (m : Int)) := ⟨by rw [hm]; exact wrap_shl (by omega)⟩
 have HM := a_ hm; obtain ⟨x, hx⟩ : ∃ x, x = word (l.getD i 0) q := ⟨_, rfl⟩; obtain ⟨y, hy⟩ : ∃ y, y = word (take (l.getD i 0) r) q := ⟨_, rfl⟩; have G : Aside0 (bits .andNot .u64 (x : Int) (m : Int) = (y : Int)) := ⟨by rw [hx, hm, hy, hb, hq]; exact take_word _ _⟩
 have HY := a_ hy; have I := a_ hb; have J : ((q : Int) < 32) = True := eq_true (by omega)
 have HC : Aside0 (w.cell? ⟨g, 32 * i + q, none⟩ = some (.int .u64 (x : Int))) := ⟨by rw [hx]; exact hs.cell hi (by omega)⟩
 have HQ := a_ hq; clear hs hi hr hq hb hm hx hy; go_enter Tryd.func70, Tryd.ntmps70
 go_upto_region 0 with (fail)
 refine start_ (n := 14) (S := fun W' => W'.cell? ⟨g, 32 * i + q, none⟩ = some (.int .u64 (x : Int))) (ds := [13]) wtake.b0_0 (by kernel_rfl) rfl rfl HC.out (fun z => ?_)
 refine with_tabW wtake.tab0 wtake.bits0 (fun p B => ?_)
 refine qv_ 0 p ?_
 refine qv_ 1 p ?_
 refine qv_ (v := .int .i64 (q : Int)) 2 p ?_ (hy := by intro w'; go_simp; first | done | rw [C.out])
 refine qv_ 3 p ?_
 refine qv_ 4 p ?_
 refine qv_ 6 p ?_
 refine qv_ (v := .int .u64 (r : Int)) 7 p ?_ (hy := by intro w'; go_simp; first | done | rw [D.out])
 refine qv_ (v := .int .u64 (b : Int)) 8 p ?_ (hy := by intro w'; go_simp; first | done | rw [E.out])
 refine qv_ (v := .int .u64 (m : Int)) 9 p ?_ (hy := by intro w'; go_simp; first | done | rw [F.out])
 refine qv_ 11 p ?_
 refine qt_ 5 p B z ?_
 refine qv_ (v := .int .u64 (y : Int)) 10 p ?_ (hy := by intro w'; go_simp; first | done | rw [G.out])
 refine qv_ 12 p ?_
 refine last_ (i := 13) (N := none) wtake.b0_14 rfl rfl (one_of p.out (by kernel_rfl)) (by decide) (fun K hK => ?_)
 refine skip_ (w1 := ?_) (by rfl) rfl ?_ ?_
 rotate_left
 ·have := HS.out.frozen (32 * i + q)
  go_simp
  first | done | rfl
 refine hK.out _ _ ?_
 clear hK K; refine done_ (done_of p.out (by kernel_rfl)) ?_
 refine bodyPost_end (results_none rfl _ _ _) rfl ?_
 refine ⟨rfl, grown_drew (grown_set w g (32 * i + q) _), ?_⟩
 have h_ := HS.out.set (j := q) (s := take (l.getD i 0) r) HI.out (by have := HR.out; have := HQ.out; omega) (fun k _ hk => word_take_ne (by rw [← HQ.out]; exact hk))
 unfold cw at h_
 rw [← HY.out] at h_; exact h_
theorem has_word (s r : Nat) : (bits .and .u64 ((word s (r / 64) : Int) / 2 ^ min (r % 64) 64) 1 == 1) = s.testBit r := by
 have hb : r % 64 < 64 := Nat.mod_lt _ (by omega)
 have b : ((word s (r / 64) : Nat) : Int) / 2 ^ min (r % 64) 64 = ((word s (r / 64) / 2 ^ (r % 64) : Nat) : Int) := by rw [Nat.min_eq_left (by omega), show (2 : Int) ^ (r % 64) = ((2 ^ (r % 64) : Nat) : Int) by simp]; rfl
 have h1 := word_lt s (r / 64); have p : word s (r / 64) / 2 ^ (r % 64) ≤ word s (r / 64) := Nat.div_le_self _ _
 rw [b, show (1 : Int) = ((1 : Nat) : Int) from rfl, bits_and_u64_nat _ _ (by omega) (by omega), Nat.and_one_is_mod]
 have l : s.testBit r = (word s (r / 64)).testBit (r % 64) := by rw [word_bit _ _ _ hb]; congr 1; omega
 rw [l, Nat.testBit_eq_decide_div_mod_eq]; by_cases h : word s (r / 64) / 2 ^ (r % 64) % 2 = 1
 ·rw [h]; rfl
 {
 rw [decide_eq_false h]; simp only [beq_eq_false_iff_ne]
 omega}
theorem has_calls (w : World) (g i r : Nat) (l : List Nat) (hs : SetsAt w g l) (hi : i < l.length) (hr : r < 2048) :
  Calls Tryd.prog 34 #[.pointer (some ⟨g, 32 * i, none⟩), .int .i64 (r : Int)] w fun e w' => e = .returned (.bool ((l.getD i 0).testBit r)) ∧ Below w.heap.size w w' := by
 obtain ⟨q, hq⟩ : ∃ q, q = r / 64 := ⟨_, rfl⟩; have y : IntKind.i64.wrap ((r : Int) / 64) = (q : Int) := by rw [hq, show ((r : Int) / 64) = ((r / 64 : Nat) : Int) by omega]; rw [i64_w, wrap64_id (by omega) (by omega)]
 obtain ⟨b, hb⟩ : ∃ b, b = r % 64 := ⟨_, rfl⟩; have z : IntKind.u64.wrap (r : Int) = (r : Int) := wrap_u64_small _ (by omega)
 have B : (r : Int).tmod 64 = (b : Int) := by rw [hb, Int.tmod_eq_emod_of_nonneg (by omega)]; omega
 have C : ((q : Int) < 32) = True := eq_true (by omega)
 obtain ⟨x, hx⟩ : ∃ x, x = word (l.getD i 0) q := ⟨_, rfl⟩; have hc : w.cell? ⟨g, 32 * i + q, none⟩ = some (.int .u64 (x : Int)) := by rw [hx]; exact hs.cell hi (by omega)
 have HX := a_ hx; have HQ := a_ hq; have p := a_ hb; obtain ⟨R, hR⟩ : ∃ R, R = (l.getD i 0).testBit r := ⟨_, rfl⟩; rw [← hR]; have HR := a_ hR; clear hs hi hr hq hb hx hR; go_enter Tryd.func34, Tryd.ntmps34
 go_wp2
 have e_ : (bits BinOp.and IntKind.u64 ((x : Int) / 2 ^ min b 64) 1 == 1) = R := by rw [HX.out, HQ.out, p.out, HR.out]; exact has_word _ _
 rw [e_]; go_ret
 exact ⟨rfl, Below.refl _ _⟩
theorem hasC (w : World) (g i : Nat) (x : Int) (l : List Nat) (b : Bool) (hs : SetsAt w g l) (hi : i < l.length) (p : 0 ≤ x) (h1 : x < 2048) (hb : (l.getD i 0).testBit x.toNat = b) :
  Calls Tryd.prog 34 #[.pointer (some ⟨g, 32 * i, none⟩), .int .i64 x] w fun e w' => e = .returned (.bool b) ∧ Below w.heap.size w w' := by
 obtain ⟨r, rfl⟩ := Int.eq_ofNat_of_zero_le p; rw [← hb, Int.toNat_natCast]; exact has_calls w g i r l hs hi (by omega)
theorem putC (w : World) (g i : Nat) (x : Int) (l : List Nat) (hs : SetsAt w g l) (hi : i < l.length) (b : 0 ≤ x) (h1 : x < 2048) :
  Calls Tryd.prog 36 #[.pointer (some ⟨g, 32 * i, none⟩), .int .i64 x] w fun e w' => e = .returned (.tuple #[]) ∧ w.grownBy w' (some g) ∧ SetsAt w' g (l.set i (put (l.getD i 0) x.toNat)) := by
 obtain ⟨r, rfl⟩ := Int.eq_ofNat_of_zero_le b; rw [Int.toNat_natCast]; exact put_calls w g i r l hs hi (by omega)
theorem takeC (w : World) (g i : Nat) (x : Int) (l : List Nat) (hs : SetsAt w g l) (hi : i < l.length) (b : 0 ≤ x) (h1 : x < 2048) :
  Calls Tryd.prog 70 #[.pointer (some ⟨g, 32 * i, none⟩), .int .i64 x] w fun e w' => e = .returned (.tuple #[]) ∧ w.grownBy w' (some g) ∧ SetsAt w' g (l.set i (take (l.getD i 0) x.toNat)) := by
 obtain ⟨r, rfl⟩ := Int.eq_ofNat_of_zero_le b; rw [Int.toNat_natCast]; exact take_calls w g i r l hs hi (by omega)
def regsL (s n : Nat) : List Int := (listOf s n).map Int.ofNat
theorem regsL_zero (s : Nat) : regsL s 0 = [] := rfl
theorem regsL_succ (s n : Nat) : regsL s (n + 1) = if s.testBit n then regsL s n ++ [(n : Int)] else regsL s n := by
 unfold regsL listOf
 rw [List.range_succ, List.filter_append]; by_cases h : s.testBit n = true
 ·rw [if_pos h, List.filter_cons_of_pos h, List.filter_nil, List.map_append]; rfl
 ·rw [if_neg h, List.filter_cons_of_neg h, List.filter_nil, List.append_nil]
theorem regsL_len (s n : Nat) : (regsL s n).length ≤ n := by
 unfold regsL listOf
 rw [List.length_map]; exact Nat.le_trans (List.length_filter_le _ _) (by rw [List.length_range]; exact Nat.le_refl _)
theorem listC (w : World) (g i n : Nat) (l : List Nat) (s : Nat) (hs : SetsAt w g l) (hi : i < l.length) (hn : n ≤ 2048) (hse : l.getD i 0 = s) :
  Calls Tryd.prog 31 #[.pointer (some ⟨g, 32 * i, none⟩), .int .i64 (n : Int)] w fun e w' => ∃ v : Value, e = .returned v ∧ Kd.R (Kd.int .i64) 3 w' w.heap.size (fun _ => True) v (regsL s n) ∧ Below w.heap.size w w' := by
 have HS := a_ hs; have HI := a_ hi; have HN := a_ hn; have HSE := a_ hse; obtain ⟨nI, hnI⟩ : ∃ nI : Int, nI = (n : Int) := ⟨_, rfl⟩; rw [← hnI]; have HNI := a_ hnI; clear hs hi hn hse hnI; go_enter Tryd.func31, Tryd.ntmps31
 go_wp2
 go_loopg [5, 8] n (fun gk G I wx => ∃ x : Int, I = .int .i64 x ∧ Aside0 (∃ j : Nat, x = (j : Int) ∧ j + gk = n ∧ Kd.R (Kd.int .i64) 3 wx w.heap.size (fun _ => True) G (regsL s j)) ∧ Aside0 (Below w.heap.size w wx))
 case atStart => exact ⟨0, rfl, ⟨0, rfl, by omega, by rw [regsL_zero]; exact Kd.R_nil _ _ _ _ _⟩, ⟨Below.refl _ _⟩⟩
 case round => (
 obtain ⟨x, rfl, ⟨j, hx, hj, hR⟩, y⟩ := hrel; have HX := a_ hx; have HJ := a_ hj; have HR := a_ hR; cases gk with
 | zero => (
 have J : decide (x < nI) = false := decide_eq_false (by have := HNI.out; omega)
 clear hx hj hR; go_wp2
 go_ret
 exact ⟨_, rfl, by have := HJ.out; rw [show n = j by omega]; exact HR.out, y.out⟩)
 | succ gO => (
 have J : decide (x < nI) = true := decide_eq_true (by have := HNI.out; omega)
 have hw : wrap64 (x + 1) = x + 1 := wrap64_id (by omega) (by have := HN.out; omega)
 have B : 0 ≤ x := by omega
 have h1 : x < 2048 := by have := HN.out; omega
 have hxj : x.toNat = j := by omega
 have E := a_ B; have F := a_ h1; have HXJ := a_ hxj; by_cases ht : s.testBit j = true
 {
 have HT := a_ ht; clear hx hj hR B h1 hxj ht; go_wp2_with (first | (go_at_call 34; (with_reducible refine (hasC _ g i x l true (HS.out.below y.out HS.out.lt) HI.out E.out F.out (by rw [HSE.out, HXJ.out]; exact HT.out)).mono ?_); rintro e L ⟨rfl, p⟩; have q := a_ (below_then y.out y.out.size p); have z := a_ (Kd.R_below HR.out p); clear p) | ((with_reducible refine gate_builtin (b := .append) (xs := #[.tmp 14, .tmp 16]) rfl ?_); at_builtin; refine Kd.R_append (Kd.int .i64) (w0 := w) w.heap.size rfl (.tmp 14) (.tmp 16) 27 3 (.int .i64 0) 8 rfl Tryd.underlying27 info3 rfl (by decide) (by omega) _ (regsL s j) x [.int .i64 x] (fun _ => True) (fun _ => False) rfl rfl ?aP (fun _ hk => hk.elim) ?aF ?aO ?aB ?aS ?aL ?_; (case aP => exact rfl); (case aF => exact fun _ _ => trivial); (case aO => exact (by (with_reducible repeat (first | apply Kd.R_alloc | apply Kd.R_drewN | apply Kd.R_drew)); exact z.out)); (case aB => exact (q_w q.out)); (case aS => exact (below_size (q_w q.out))); (case aL => have := regsL_len s j; have := HN.out; have := HJ.out; omega); intro M N ho hb hg hat; have C := a_ ho; have D := a_ hb; clear ho hb hg hat))
 go_roundg gO
 case measure => omega
 case rel => exact ⟨x + 1, by go_num, ⟨j + 1, by have := HX.out; omega, by have := HJ.out; omega, by rw [regsL_succ, if_pos HT.out, ← HX.out]; exact C.out⟩, ⟨D.out⟩⟩}
 {
 have HT := a_ ht; clear hx hj hR B h1 hxj ht; go_wp2_with (first | (go_at_call 34; (with_reducible refine (hasC _ g i x l false (HS.out.below y.out HS.out.lt) HI.out E.out F.out (by rw [HSE.out, HXJ.out]; exact Bool.eq_false_iff.2 HT.out)).mono ?_); rintro e L ⟨rfl, p⟩; have q := a_ (below_then y.out y.out.size p); have z := a_ (Kd.R_below HR.out p); clear p))
 go_roundg gO
 case measure => omega
 case rel => exact ⟨x + 1, by go_num, ⟨j + 1, by have := HX.out; omega, by have := HJ.out; omega, by rw [regsL_succ, if_neg HT.out]; exact z.out⟩, ⟨q.out⟩⟩}))
theorem R_sets {α : Type} {d : Kd α} {e : TypeId} {W w1 : World} {base : Nat} {ok : Nat → Prop} {u : Value} {xs : List α} {g : Nat} {l : List Nat} (h : d.R e W base ok u xs) (hs : SetsAt W g l) (ht : ∀ q, q ∈ e :: d.E → q ≠ 59) (hg : W.grownBy w1 (some g)) : d.R e w1 base ok u xs :=
 Kd.R_over' (v := .slice (some ⟨g, 0, none⟩) 0 0) h (fun k hk => by obtain rfl := Option.some.inj hk; exact ⟨_, hs⟩) ht hg
theorem S_sets {α : Type} {d : Kd α} {e : TypeId} {W w1 : World} {base : Nat} {ok : Nat → Prop} {u : Value} {xs : List α} {g : Nat} {l : List Nat} (h : Kd.S d e W base ok u xs) (hs : SetsAt W g l) (ht : ∀ q, q ∈ e :: d.E → q ≠ 59) (hg : W.grownBy w1 (some g)) : Kd.S d e w1 base ok u xs := by
 obtain ⟨f, h⟩ := h; exact ⟨f, R_sets h hs ht hg⟩
theorem below_grown {w0 w w1 : World} {g : Nat} (h : Below w0.heap.size w0 w) (hg : w.grownBy w1 (some g)) (hlt : w0.heap.size ≤ g) : Below w0.heap.size w0 w1 := h.grown hg h.size (fun k hk => by obtain rfl := Option.some.inj hk; exact hlt)
theorem grown_then {w0 w w1 : World} {row : Option Nat} (h : w0.grownBy w row) (hg : w.grownBy w1 row) : w0.grownBy w1 row := ⟨hg.os.trans h.os, hg.tape.trans h.tape, hg.output.trans h.output, Nat.le_trans h.size hg.size, fun k hk hne => (hg.block k (Nat.lt_of_lt_of_le hk h.size) hne).trans (h.block k hk hne)⟩
theorem grown_of {w0 w : World} {row : Option Nat} (h : Below w0.heap.size w0 w) : w0.grownBy w row := ⟨h.os, h.tape, h.output, h.size, fun k hk _ => h.block k hk⟩
theorem defines_f (y : S71) : alloc_defines.f y.f0 y.f1 y.f2 y.f3 y.f4 y.f5 y.f6 = some (defs y) := by
 unfold alloc_defines.f defs
 by_cases h1 : y.f0 = 7
 ·rw [if_pos h1, h1]; rfl
 ·rw [if_neg h1]; by_cases b : y.f0 = 8
  ·rw [if_pos b, b]; rfl
  ·rw [if_neg b, beq_eq_false_iff_ne.2 h1, beq_eq_false_iff_ne.2 b]; rfl
theorem uses_f (y : S71) : alloc_uses.f 1 y.f0 y.f1 y.f2 y.f3 y.f4 y.f5 y.f6 = some (useList y) := by
 unfold alloc_uses.f useList alloc_uses.j0
 by_cases h1 : y.f0 = 1
 ·simp [h1]
 by_cases b : y.f0 = 2
 ·simp [b]
 by_cases l : y.f0 = 6
 ·simp [l]
 by_cases p : y.f0 = 10
 ·simp [p]
 by_cases q : y.f0 = 3
 ·simp [q]
 by_cases h6 : y.f0 = 7
 ·simp [h6]
 by_cases z : y.f0 = 8
 ·simp [z]
 simp [h1, b, l, p, q, h6, z]
theorem definesC (w : World) (y : S71) (p : Option Addr) (q : Nat) (b : Bool) (h6 : Kd.C (Kd.int .i64) w p y.f6.length y.f6) (l : y.f6.length ≤ q) (hb : defs y = b) :
  Calls Tryd.prog 52 #[.agg #[.int .i64 y.f0, .int .i64 y.f1, .int .i64 y.f2, .int .i64 y.f3, .int .i64 y.f4, .int .i32 y.f5, .slice p y.f6.length q]] w fun e w' => e = .returned (.bool b) ∧ Below w.heap.size w w' := alloc_defines.calls _ _ _ _ _ _ _ _ _ b w h6 l (by rw [← hb]; exact defines_f y)
theorem usesC (w : World) (y : S71) (l : Option Addr) (p : Nat) (h6 : Kd.C (Kd.int .i64) w l y.f6.length y.f6) (b : y.f6.length ≤ p) :
  Calls Tryd.prog 54 #[.agg #[.int .i64 y.f0, .int .i64 y.f1, .int .i64 y.f2, .int .i64 y.f3, .int .i64 y.f4, .int .i32 y.f5, .slice l y.f6.length p]] w fun e w' => ∃ v : Value, e = .returned v ∧ Kd.R (Kd.int .i64) 3 w' w.heap.size (fun _ => True) v (useList y) ∧ Below w.heap.size w w' := alloc_uses.calls 1 _ _ _ _ _ _ _ _ _ _ w h6 b (uses_f y)
def Good (y : S71) : Prop := (defs y = true → 0 ≤ y.f2 ∧ y.f2 < 2048) ∧ ∀ r ∈ useList y, 0 ≤ r ∧ r < 2048
def putsI (s : Nat) (l : List Int) : Nat := l.foldl (fun s r => put s r.toNat) s
theorem back_eq (s : Nat) (y : S71) : back s y = putsI (if defs y then take s y.f2.toNat else s) (useList y) := rfl
theorem set_same {l : List Nat} {i : Nat} (hi : i < l.length) : l.set i (l.getD i 0) = l := by
 rw [List.getD_eq_getElem?_getD, List.getElem?_eq_getElem hi]; simp
theorem set_set {l : List Nat} {i a b : Nat} : (l.set i a).set i b = l.set i b := by rw [List.set_set]
theorem putsI_take (s : Nat) {us : List Int} {j : Nat} (hj : j < us.length) : putsI s (us.take (j + 1)) = put (putsI s (us.take j)) us[j].toNat := by
 unfold putsI
 rw [List.take_succ_eq_append_getElem hj, List.foldl_append]; rfl
theorem backC (w : World) (g i : Nat) (l : List Nat) (y : S71) (X : Option Addr) (c6 : Nat) (hs : SetsAt w g l) (hi : i < l.length) (h6 : ∀ w', w.grownBy w' (some g) → Kd.C (Kd.int .i64) w' X y.f6.length y.f6) (a1 : y.f6.length ≤ c6) (hy : Good y) :
  Calls Tryd.prog 53 #[.pointer (some ⟨g, 32 * i, none⟩), .agg #[.int .i64 y.f0, .int .i64 y.f1, .int .i64 y.f2, .int .i64 y.f3, .int .i64 y.f4, .int .i32 y.f5, .slice X y.f6.length c6]] w fun e w' => e = .returned (.tuple #[]) ∧ w.grownBy w' (some g) ∧ SetsAt w' g (l.set i (back (l.getD i 0) y)) := by
 have c0 := Tryd.underlying71; obtain ⟨a2, a3⟩ := hy; have HS := a_ hs; have HI := a_ hi; have H6 := a_ h6; have J := a_ a1; have a4 := a_ a2; have a5 := a_ a3; have HGL := a_ hs.lt; obtain ⟨us, hus⟩ : ∃ us, us = useList y := ⟨_, rfl⟩; have HUS := a_ hus; clear hs hi h6 a1 a2 a3 hus; cases hd : defs y with
 | true => (
 have HD := a_ hd; clear hd; go_enter Tryd.func53, Tryd.ntmps53
 go_wp2_with (first | (go_at_call 52; (with_reducible refine (definesC _ y X c6 true (H6.out _ (grown_of (below_alloc (Below.refl _ _) _))) J.out HD.out).mono ?_); rintro e w2 ⟨rfl, p⟩; have q := a_ (below_then (below_alloc (Below.refl _ _) _) (below_alloc (Below.refl _ _) _).size p); have L := a_ (blk_below (heap_alloc_new w _) p); clear p; obtain ⟨a6, a7, a8, a9, b0, b1, b2⟩ := q_c7 L.out) | (go_at_call 70; (with_reducible refine (takeC _ g i y.f2 l (HS.out.below q.out HGL.out) HI.out (a4.out HD.out).1 (a4.out HD.out).2).mono ?_); rintro e w3 ⟨rfl, M, b3⟩; have b4 := a_ (grown_then (grown_of q.out) M); have b5 := a_ b3; have b7 := a_ (blk_grown L.out M (fun e => absurd (Option.some.inj e) (Nat.ne_of_gt HGL.out))); clear M b3; obtain ⟨c3, c4, c8, c9, d0, d1, d2⟩ := q_c7 b7.out) | (go_at_call 54; (with_reducible refine (usesC _ y X c6 (H6.out _ b4.out) J.out).mono ?_); rintro e w4 ⟨v4, rfl, b, z⟩; obtain ⟨Av, cv, rfl⟩ := Kd.R_slice b; rw [← HUS.out] at b; have D := a_ b; have E := a_ (grown_then b4.out (grown_of z)); have F := a_ (SetsAt.below b5.out z b5.out.lt); (try rw [← HUS.out]); clear z b))
 have G : Aside0 (SetsAt w4 g (l.set i (putsI (take (l.getD i 0) y.f2.toNat) (us.take 0)))) := ⟨by exact F.out⟩
 go_loopg [15] us.length (fun gk N wx => ∃ x : Int, N = .int .i64 x ∧ Aside0 (∃ j : Nat, x = (j : Int) ∧ j + gk = us.length ∧ SetsAt wx g (l.set i (putsI (take (l.getD i 0) y.f2.toNat) (us.take j)))) ∧ Aside0 (w.grownBy wx (some g)) ∧ Aside0 (Kd.R (Kd.int .i64) 3 wx _ (fun _ => True) (.slice Av us.length cv) us))
 case atStart => exact ⟨0, rfl, ⟨0, rfl, by omega, G.out⟩, ⟨E.out⟩, ⟨D.out⟩⟩
 case round => (
 clear D E F G; obtain ⟨x, rfl, ⟨j, hx, hj, hS⟩, HG, HR⟩ := hrel; have HX := a_ hx; have HJ := a_ hj; have HSx := a_ hS; cases gk with
 | zero => (
 have c1 : decide (x < (us.length : Int)) = false := decide_eq_false (by omega)
 have c1b : decide (((us.length : Nat) : Int) ≤ x) = true := decide_eq_true (by omega)
 clear hx hj hS; go_wp2
 refine bodyPost_end (results_none rfl _ _ _) rfl ?_
 refine ⟨rfl, HG.out, ?_⟩
 have h_ := HSx.out; have hj_ := HJ.out; rw [show j = us.length by omega, List.take_length] at h_
 rw [back_eq, ← HUS.out, HD.out]; exact h_)
 | succ gO => (
 have c1 : decide (x < (us.length : Int)) = true := decide_eq_true (by omega)
 have hjl : j < us.length := by omega
 have O : 0 ≤ x := by omega
 have S : x < (us.length : Int) := by omega
 obtain ⟨ad, e, hcu⟩ := Kd.at_int (Kd.R_reads' HR.out).2.2 x O S; cases e; obtain ⟨u, hu⟩ : ∃ u, u = rd us x := ⟨_, rfl⟩; rw [← hu] at hcu; have huj : u = us[j] := by rw [hu, hx]; simp [rd, hjl]
 have hur := a5.out u (by rw [← HUS.out, huj]; exact List.getElem_mem _)
 have HU := a_ hur; have HUJ : Aside0 (putsI (take (l.getD i 0) y.f2.toNat) (us.take (j + 1)) = put (putsI (take (l.getD i 0) y.f2.toNat) (us.take j)) u.toNat) := ⟨by rw [putsI_take _ hjl, huj]⟩
 have hlen : us.length ≤ 2 := by rw [HUS.out]; unfold useList; split <;> (try split) <;> simp
 have hw : wrap64 (x + 1) = x + 1 := wrap64_id (by omega) (by omega)
 replace O := eq_true O; replace S := eq_true S; clear hx hj hS hu huj hur hjl hlen; go_wp2_with (first | (go_at_call 36; (with_reducible refine (putC _ g i u _ HSx.out (by rw [List.length_set]; exact HI.out) HU.out.1 HU.out.2).mono ?_); rintro e w5 ⟨rfl, B, I⟩; have T := a_ (grown_then HG.out B); have U := a_ I; have V := a_ (R_sets HR.out HSx.out (by decide) B); clear B I))
 go_roundg gO
 case measure => omega
 case rel => exact ⟨x + 1, by go_num, ⟨j + 1, by have := HX.out; omega, by have := HJ.out; omega, by have h_ := U.out; rw [set_set, getD_set HI.out, if_pos rfl, ← HUJ.out] at h_; exact h_⟩, ⟨T.out⟩, ⟨V.out⟩⟩)))
 | false => (
 have HD := a_ hd; clear hd; go_enter Tryd.func53, Tryd.ntmps53
 go_wp2_with (first | (go_at_call 52; (with_reducible refine (definesC _ y X c6 false (H6.out _ (grown_of (below_alloc (Below.refl _ _) _))) J.out HD.out).mono ?_); rintro e w2 ⟨rfl, p⟩; have q := a_ (below_then (below_alloc (Below.refl _ _) _) (below_alloc (Below.refl _ _) _).size p); have L := a_ (blk_below (heap_alloc_new w _) p); clear p; obtain ⟨a6, a7, a8, a9, b0, b1, b2⟩ := q_c7 L.out) | (go_at_call 54; (with_reducible refine (usesC _ y X c6 (H6.out _ (grown_of q.out)) J.out).mono ?_); rintro e w4 ⟨v4, rfl, b, z⟩; obtain ⟨Av, cv, rfl⟩ := Kd.R_slice b; rw [← HUS.out] at b; have D := a_ b; have E := a_ (grown_then (grown_of (row := some g) q.out) (grown_of z)); have F := a_ (SetsAt.below (HS.out.below q.out HGL.out) z (HS.out.below q.out HGL.out).lt); (try rw [← HUS.out]); clear z b))
 have G : Aside0 (SetsAt w4 g (l.set i (putsI (l.getD i 0) (us.take 0)))) := ⟨by have h_ := F.out; rw [show l = l.set i (l.getD i 0) from (set_same HI.out).symm] at h_; exact h_⟩
 go_loopg [15] us.length (fun gk N wx => ∃ x : Int, N = .int .i64 x ∧ Aside0 (∃ j : Nat, x = (j : Int) ∧ j + gk = us.length ∧ SetsAt wx g (l.set i (putsI (l.getD i 0) (us.take j)))) ∧ Aside0 (w.grownBy wx (some g)) ∧ Aside0 (Kd.R (Kd.int .i64) 3 wx _ (fun _ => True) (.slice Av us.length cv) us))
 case atStart => exact ⟨0, rfl, ⟨0, rfl, by omega, G.out⟩, ⟨E.out⟩, ⟨D.out⟩⟩
 case round => (
 clear D E F G; obtain ⟨x, rfl, ⟨j, hx, hj, hS⟩, HG, HR⟩ := hrel; have HX := a_ hx; have HJ := a_ hj; have HSx := a_ hS; cases gk with
 | zero => (
 have c1 : decide (x < (us.length : Int)) = false := decide_eq_false (by omega)
 have c1b : decide (((us.length : Nat) : Int) ≤ x) = true := decide_eq_true (by omega)
 clear hx hj hS; go_wp2
 refine bodyPost_end (results_none rfl _ _ _) rfl ?_
 refine ⟨rfl, HG.out, ?_⟩
 have h_ := HSx.out; have hj_ := HJ.out; rw [show j = us.length by omega, List.take_length] at h_
 rw [back_eq, ← HUS.out, HD.out]; exact h_)
 | succ gO => (
 have c1 : decide (x < (us.length : Int)) = true := decide_eq_true (by omega)
 have hjl : j < us.length := by omega
 have O : 0 ≤ x := by omega
 have S : x < (us.length : Int) := by omega
 obtain ⟨ad, e, hcu⟩ := Kd.at_int (Kd.R_reads' HR.out).2.2 x O S; cases e; obtain ⟨u, hu⟩ : ∃ u, u = rd us x := ⟨_, rfl⟩; rw [← hu] at hcu; have huj : u = us[j] := by rw [hu, hx]; simp [rd, hjl]
 have hur := a5.out u (by rw [← HUS.out, huj]; exact List.getElem_mem _)
 have HU := a_ hur; have HUJ : Aside0 (putsI (l.getD i 0) (us.take (j + 1)) = put (putsI (l.getD i 0) (us.take j)) u.toNat) := ⟨by rw [putsI_take _ hjl, huj]⟩
 have hlen : us.length ≤ 2 := by rw [HUS.out]; unfold useList; split <;> (try split) <;> simp
 have hw : wrap64 (x + 1) = x + 1 := wrap64_id (by omega) (by omega)
 replace O := eq_true O; replace S := eq_true S; clear hx hj hS hu huj hur hjl hlen; go_wp2_with (first | (go_at_call 36; (with_reducible refine (putC _ g i u _ HSx.out (by rw [List.length_set]; exact HI.out) HU.out.1 HU.out.2).mono ?_); rintro e w5 ⟨rfl, B, I⟩; have T := a_ (grown_then HG.out B); have U := a_ I; have V := a_ (R_sets HR.out HSx.out (by decide) B); clear B I))
 go_roundg gO
 case measure => omega
 case rel => exact ⟨x + 1, by go_num, ⟨j + 1, by have := HX.out; omega, by have := HJ.out; omega, by have h_ := U.out; rw [set_set, getD_set HI.out, if_pos rfl, ← HUJ.out] at h_; exact h_⟩, ⟨T.out⟩, ⟨V.out⟩⟩)))
end Go.Proofs.YtefhpdcafdhcaaaDoor.S
end
section
namespace Go.Proofs.YtefhpdcafdhcaaaDoor.S
open Go Go.RowKit Go.Proofs Go.Proofs.YtefhpdcafdhcaaaDoorW.PrintWords Go.Proofs.YtefhpdcafdhcaaaDoorW.PrintLast Go.Proofs.YtefhpdcafdhcaaaDoorW.PrintMore Go.Proofs.YtefhpdcafdhcaaaDoor Go.Proofs.YtefhpdcafdhcaaaDoor.A FlowM
def setV (s : Nat) : Value := .agg (cellsL [s]).toArray
theorem info59s : (Tryd.prog.info? 59).map (·.size) = some 32 := by kernel_rfl
theorem size59 (s : Nat) : (Tryd.prog.info? 59).map (·.size) = some (cellsL [s]).length := by
 rw [cellsL_len]; exact info59s
section
variable {ops : Array Oper} {o : Oper} {rest : List Oper} {a : Act} {Q : Exit → Act → World → Prop}
theorem load_event {W : World} {g i off : Nat} {l : List Nat} {x : Operand} {s : Nat} (hgd : o.guard = none) (ho : o.op = .load 59 x) (hx : a.eval x = .pointer (some ⟨g, off, none⟩)) (he : off = 32 * i) (hS : SetsAt W g l) (hi : i < l.length) (hs : l.getD i 0 = s)
  (h : wpList Tryd.prog ops Q rest (a.put o.dst (setV s)) W) : wpList Tryd.prog ops Q (o :: rest) a W := by
 subst he hs; exact wpList_load_mid hgd 59 x ho g (32 * i) hx (cellsL [l.getD i 0]) (.array 32 57) (hS.range hi) Tryd.underlying59 rfl (size59 _) h
theorem grown_row (w : World) (g : Nat) (cs : Array Value) : w.grownBy (w.setRow g cs) (some g) := ⟨rfl, rfl, rfl, by simp [World.setRow], fun k _ hne => setRow_other w g k cs (fun e => hne (by rw [e]))⟩
theorem run_put {W : World} {g i : Nat} {l : List Nat} (s : Nat) (hS : SetsAt W g l) (hi : i < l.length) :
  ∃ p, (Instr.storeAt 59 (.pointer (some ⟨g, 32 * i, none⟩)) (setV s)).run Tryd.prog W = .ok () p ∧ W.grownBy p (some g) ∧ SetsAt p g (l.set i s) := by
 have b : (cellsL [s]).length = 32 := by rw [cellsL_len]; rfl
 have h1 := run_storeCells_at (P := Tryd.prog) g (32 * i) 59 (cellsL [s]) 0 (cellsL l).toArray W hS (by rw [b]; simp only [List.size_toArray, cellsL_len]; omega) (cellsL_one _)
 rw [Nat.add_zero, b, show ((cellsL l).toArray).toList = cellsL l from rfl, cellsL_put hi] at h1; refine ⟨_, ?_, grown_row W g _, setRow_heap W g _ _ 59 (0, 0) hS⟩
 have hsz := info59s; cases hq : Tryd.prog.info? 59 with
 | none => simp [hq] at hsz
 | some f => (
 have hs : f.size = 32 := by simpa [hq] using hsz
 have : (storeVar 59 ⟨g, 32 * i, none⟩ (setV s)).run Tryd.prog W = .ok () (W.setRow g (cellsL (l.set i s)).toArray) := by simp [storeVar, sizeOf, typeInfo, hq, setV, Value.cells, hs, b, h1]
 simp only [Instr.storeAt, Instr.sureAddr, Sem.run_bind, Sem.run_pure, Result.andThen_ok, this])
theorem put_event {W : World} {g i off : Nat} {l : List Nat} {x y : Operand} {s : Nat} (hgd : o.guard = none) (hN : o.dst = none) (ho : o.op = .store 59 x y) (hx : a.eval x = .pointer (some ⟨g, off, none⟩)) (he : off = 32 * i) (hy : a.eval y = setV s) (hS : SetsAt W g l) (hi : i < l.length)
  (h : ∀ b, W.grownBy b (some g) → SetsAt b g (l.set i s) → wpList Tryd.prog ops Q rest a b) : wpList Tryd.prog ops Q (o :: rest) a W := by
 subst he; obtain ⟨b, hr, hg, hs⟩ := run_put s hS hi; refine wpList_plain hgd fun K hK => ?_
 have hrun : (execOp a.eval o).run Tryd.prog W = .ok .skip b := by
  unfold execOp
  simp only [ho, hx, hy, Sem.run_bind, hr, Result.andThen_ok]
  rfl
 unfold Oper.wp
 rw [hrun]; show K (a.put o.dst undef) b
 rw [hN]; exact hK _ _ (h b hg hs)
end
theorem zero_cells : (Array.replicate 32 (.int .u64 0 : Value)) = (cellsL [0]).toArray := by kernel_rfl
end Go.Proofs.YtefhpdcafdhcaaaDoor.S
end
section
namespace Go.Proofs.YtefhpdcafdhcaaaDoor.S
open Go Go.RowKit Go.Proofs Go.Proofs.YtefhpdcafdhcaaaDoorW.PrintWords Go.Proofs.YtefhpdcafdhcaaaDoorW.PrintLast Go.Proofs.YtefhpdcafdhcaaaDoorW.PrintMore Go.Proofs.YtefhpdcafdhcaaaDoor Go.Proofs.YtefhpdcafdhcaaaDoor.A FlowM
theorem cell_old {w0 w : World} {p : Addr} {v : Value} (hc : w0.cell? p = some v) (hb : Below w0.heap.size w0 w) : w.cell? p = some v := q_kc hb hc
def mixw (o s i : Nat) : Nat := o ||| (s % 2 ^ (64 * i))
theorem mixw_zero (o s : Nat) : mixw o s 0 = o := by simp [mixw, Nat.mod_one]
theorem mixw_full {o s : Nat} (h : s < 2 ^ (64 * 32)) : mixw o s 32 = o ||| s := by unfold mixw; rw [Nat.mod_eq_of_lt h]
theorem mixw_bit (o s i k : Nat) : (mixw o s i).testBit k = (o.testBit k || (decide (k < 64 * i) && s.testBit k)) := by unfold mixw; rw [Nat.testBit_or, Nat.testBit_mod_two_pow]
theorem word_mix_at (o s i : Nat) : word (mixw o s (i + 1)) i = word (mixw o s i) i ||| word s i := by
 refine Nat.eq_of_testBit_eq fun b => ?_
 rw [Nat.testBit_or]; by_cases hb : b < 64
 ·rw [word_bit _ _ _ hb, word_bit _ _ _ hb, word_bit _ _ _ hb, mixw_bit, mixw_bit, decide_eq_true (show 64 * i + b < 64 * (i + 1) by omega), decide_eq_false (show ¬ 64 * i + b < 64 * i by omega)]; simp
 ·rw [word_high _ _ hb, word_high _ _ hb, word_high _ _ hb]; rfl
theorem word_mix_ne {o s i k : Nat} (h : k ≠ i) : word (mixw o s (i + 1)) k = word (mixw o s i) k := by
 refine Nat.eq_of_testBit_eq fun b => ?_
 by_cases hb : b < 64
 ·rw [word_bit _ _ _ hb, word_bit _ _ _ hb, mixw_bit, mixw_bit, decide_eq_decide.2 (show 64 * k + b < 64 * (i + 1) ↔ 64 * k + b < 64 * i by omega)]
 ·rw [word_high _ _ hb, word_high _ _ hb]
theorem SetsAt.far {w : World} {g : Nat} {l : List Nat} (h : SetsAt w g l) {p : Addr} (hp : g ≠ p.block) (u : Value) : SetsAt (w.setCell p u) g l := blk_far h hp u
theorem SetsAt.set1 {w : World} {g s : Nat} (h : SetsAt w g [s]) {j t : Nat} (hj : j < 32) (hw : ∀ k, k ≠ j → word t k = word s k) : SetsAt (w.setCell ⟨g, j, none⟩ (cw t j)) g [t] := by
 have := h.set (i := 0) (j := j) (s := t) (by simp) hj (fun k _ hk => hw k hk)
 rwa [Nat.mul_zero, Nat.zero_add] at this
theorem SetsAt.cell1 {w : World} {g s : Nat} (h : SetsAt w g [s]) {j : Nat} (hj : j < 32) : w.cell? ⟨g, j, none⟩ = some (.int .u64 ((word s j : Nat) : Int)) := by
 have := h.cell (i := 0) (j := j) (by simp) hj
 rwa [Nat.mul_zero, Nat.zero_add] at this
theorem run_index (W : World) (s j : Nat) (x : Int) (hx : x = (j : Int)) (hj : j < 32) : (Instr.index 59 (setV s) (.int .i64 x)).run Tryd.prog W = .ok (.int .u64 ((word s j : Nat) : Int)) W := by
 subst hx; have h1 : (cellsL [s])[j]? = some (.int .u64 ((word s j : Nat) : Int)) := by {
 have := cellsL_get [s] (i := 0) (j := j) (by simp) hj
 rw [Nat.mul_zero, Nat.zero_add] at this; rw [this]; rfl}
 have b : (Tryd.prog.info? 57).map (·.size) = some 1 := by kernel_rfl
 cases hq : Tryd.prog.info? 57 with
 | none => simp [hq] at b
 | some f => (
 have hs : f.size = 1 := by simpa [hq] using b
 simp only [Instr.index, setV, asIntOf, Sem.run_bind, Sem.run_pure, Result.andThen_ok, run_underlying Tryd.underlying59]
 have c : (0 ≤ (j : Int) ∧ (j : Int) < ((32 : Nat) : Int)) := by omega
 simp only [c, if_true, and_self, sizeOf, typeInfo, Sem.run_bind]
 simp [hq, hs, part, isAgg, Sem.run_bind, run_underlying Tryd.underlying57, h1])
section
variable {ops : Array Oper} {o : Oper} {rest : List Oper} {a : Act} {Q : Exit → Act → World → Prop}
theorem index_event {W : World} {x y : Operand} {s j : Nat} {k : Int} (hgd : o.guard = none) (ho : o.op = .index 59 x y) (hx : a.eval x = setV s) (hy : a.eval y = .int .i64 k) (hk : k = (j : Int)) (hj : j < 32)
  (h : wpList Tryd.prog ops Q rest (a.put o.dst (.int .u64 ((word s j : Nat) : Int))) W) : wpList Tryd.prog ops Q (o :: rest) a W := by
 refine Kd.event_run hgd ?_ h
 unfold execOp
 simp only [ho, hx, hy, Sem.run_bind, run_index W s j k hk hj, Result.andThen_ok]
 rfl
end
theorem after_take {nx : List Int} {I : List Nat} {j : Nat} (hj : j < nx.length) : after (nx.take (j + 1)) I = after (nx.take j) I ||| I.getD nx[j].toNat 0 := by
 unfold after
 rw [List.take_succ_eq_append_getElem hj, List.foldl_append]; rfl
theorem afterC (w : World) (nx : List Int) (An : Option Addr) (cn : Nat) (gi : Nat) (I : List Nat) (cI : Nat) (hn : Kd.C (Kd.int .i64) w An nx.length nx) (hI : SetsAt w gi I) (hb : ∀ s ∈ I, s < 2 ^ (64 * 32)) (hm : ∀ m ∈ nx, 0 ≤ m ∧ m < (I.length : Int)) (hl : nx.length ≤ 1000000) :
  Calls Tryd.prog 39 #[.slice An nx.length cn, .slice (some ⟨gi, 0, none⟩) I.length cI] w fun e w' => e = .returned (setV (after nx I)) ∧ Below w.heap.size w w' := by
 have HN := a_ hn; have HI := a_ hI; have HBD := a_ hb; have HM := a_ hm; have HL := a_ hl; have HGL := a_ hI.lt; clear hn hI hb hm hl; go_enter Tryd.func39, Tryd.ntmps39
 go_wp2_with (first | ((with_reducible refine gd_ 4 rfl ?_); refine box_event ?hg (N := 4) ?hd (cs := (cellsL [0]).toArray) (t := 59) ?hr ?_; (case hd => rfl); (case hg => rfl); (case hr => rw [← zero_cells]; first | (go_simp; done) | (go_simp; rfl)); intro D U w4 E V; have b : Aside0 (SetsAt w4 D [0]) := ⟨E⟩; have a6 : Aside0 (w.heap.size ≤ D) := ⟨by rw [U]; exact Nat.le_refl _⟩; have q := a_ V; have F := a_ (blk_lt E); clear U E V) | ((with_reducible refine gd_ 5 rfl ?_); refine box_event ?hg (N := 5) ?hd (cs := (cellsL [0]).toArray) (t := 59) ?hr ?_; (case hd => rfl); (case hg => rfl); (case hr => rw [← zero_cells]; first | (go_simp; done) | (go_simp; rfl)); intro T G w5 X J; have a1 : Aside0 (SetsAt w5 T [0]) := ⟨X⟩; have a7 : Aside0 (w.heap.size ≤ T) := ⟨by rw [G]; exact q.out.size⟩; have HNE : Aside0 (D < T) := ⟨by rw [G]; exact F.out⟩; have a2 := a_ (below_then q.out q.out.size J); have y := a_ (b.out.below J F.out); clear G X J))
 go_loopg [12] nx.length (fun gk a8 wx => ∃ x : Int, a8 = .int .i64 x ∧ Aside0 (∃ j : Nat, x = (j : Int) ∧ j + gk = nx.length ∧ SetsAt wx T [after (nx.take j) I]) ∧ Aside0 (Below w.heap.size w wx) ∧ Aside0 (SetsAt wx D [0]))
 case atStart => exact ⟨0, rfl, ⟨0, rfl, by omega, a1.out⟩, ⟨a2.out⟩, ⟨y.out⟩⟩
 case round => (
 clear a1 a2 y b q F; obtain ⟨x, rfl, ⟨j, hx, hj, hS⟩, B, b⟩ := hrel; have HX := a_ hx; have HJ := a_ hj; have HS := a_ hS; cases gk with
 | zero => (
 have c1 : decide (x < (nx.length : Int)) = false := decide_eq_false (by omega)
 have c1b : decide (((nx.length : Nat) : Int) ≤ x) = true := decide_eq_true (by omega)
 clear hx hj hS; go_wp2_with (first | ((with_reducible refine gd_ 32 rfl ?_); refine load_event (g := T) (i := 0) (off := 0) (l := [after (nx.take j) I]) (s := after (nx.take j) I) rfl rfl ?hx rfl HS.out (by simp) rfl ?_; (case hx => first | rfl | (go_simp; done) | (go_simp; rfl))) | ((with_reducible refine gate_store (t := 59) (p := 4) rfl ?_); refine put_event (g := D) (i := 0) (off := 0) (l := [0]) (s := after (nx.take j) I) rfl rfl rfl ?hx rfl ?hy b.out (by simp) ?_; (case hx => first | rfl | (go_simp; done) | (go_simp; rfl)); (case hy => first | rfl | (go_simp; done) | (go_simp; rfl)); intro w6 a3 a4; have a9 := a_ a4; have b1 := a_ (below_grown B.out a3 a6.out); clear a3 a4))
 (try simp only [Exit.inBlock, Exit.then])
 refine bodyPost_ret (results_cell_row rfl _ _ D 59 (cellsL [after (nx.take j) I]).toArray (0, 0) (.array 32 57) rfl a9.out Tryd.underlying59 rfl (size59 _)) rfl ?_
 refine ⟨?_, b1.out⟩
 have hj_ := HJ.out; rw [show j = nx.length by omega, List.take_length]
 rfl)
 | succ gO => (
 have c1 : decide (x < (nx.length : Int)) = true := decide_eq_true (by omega)
 have hjl : j < nx.length := by omega
 have p0 : 0 ≤ x := by omega
 have q0 : x < (nx.length : Int) := by omega
 obtain ⟨ad, e, hcu⟩ := Kd.at_int HN.out x p0 q0; cases e; replace hcu := cell_old hcu B.out; obtain ⟨u, hu⟩ : ∃ u, u = rd nx x := ⟨_, rfl⟩; rw [← hu] at hcu; have huj : u = nx[j] := by rw [hu, hx]; simp [rd, hjl]
 have hur := HM.out u (by rw [huj]; exact List.getElem_mem _)
 obtain ⟨L, a5⟩ := hur; obtain ⟨s, hs⟩ : ∃ s, s = I.getD u.toNat 0 := ⟨_, rfl⟩; have hul : u.toNat < I.length := by omega
 have hsb : s < 2 ^ (64 * 32) := by rw [hs, List.getD_eq_getElem?_getD, List.getElem?_eq_getElem hul]; exact HBD.out _ (List.getElem_mem _)
 have HSE := a_ hs; have HSB := a_ hsb; have HUL := a_ hul; have HNX : Aside0 (after (nx.take (j + 1)) I = after (nx.take j) I ||| s) := ⟨by rw [after_take hjl, hs, huj]⟩
 obtain ⟨o, ho⟩ : ∃ o, o = after (nx.take j) I := ⟨_, rfl⟩; rw [← ho] at HS HNX
 have hw : wrap64 (x + 1) = x + 1 := wrap64_id (by omega) (by have := HL.out; omega)
 have HW := a_ hw; replace p0 := eq_true p0; replace q0 := eq_true q0; have c2 := eq_true L; have c3 := eq_true a5; have c4 : decide (0 ≤ u) = true := decide_eq_true L
 clear hx hj hS hu huj hjl hs hsb hul L a5 ho hw; go_wp2_with (first | ((with_reducible refine gd_ 19 rfl ?_); refine load_event (g := gi) (i := u.toNat) (off := u.toNat * 32) (l := I) (s := s) rfl rfl ?hx (Nat.mul_comm _ _) (HI.out.below B.out HGL.out) HUL.out HSE.out.symm ?_; (case hx => first | rfl | (go_simp; done) | (go_simp; rfl))))
 go_loopg [20] 32 (fun gk b4 wy => ∃ z : Int, b4 = .int .i64 z ∧ Aside0 (∃ i : Nat, z = (i : Int) ∧ i + gk = 32 ∧ SetsAt wy T [mixw o s i]) ∧ Aside0 (Below w.heap.size w wy) ∧ Aside0 (SetsAt wy D [0]))
 case atStart => exact ⟨0, rfl, ⟨0, rfl, by omega, by rw [mixw_zero]; exact HS.out⟩, ⟨B.out⟩, ⟨b.out⟩⟩
 case round => (
 clear HS B b; obtain ⟨z, rfl, ⟨i, hz, hi, hSy⟩, B, b⟩ := hrel; have HZ := a_ hz; have HIj := a_ hi; have HSy := a_ hSy; cases gk with
 | zero => (
 have d1 : decide (z < 32) = false := decide_eq_false (by omega)
 have d1b : decide (32 ≤ z) = true := decide_eq_true (by omega)
 have hw := HW.out; clear hz hi hSy; go_wp2
 go_roundg gO
 case measure => omega
 case rel => exact ⟨x + 1, by go_num, ⟨j + 1, by have := HX.out; omega, by have := HJ.out; omega, by rw [HNX.out, ← mixw_full HSB.out]; have h_ := HSy.out; have d0 := HIj.out; rwa [show i = 32 by omega] at h_⟩, ⟨B.out⟩, ⟨b.out⟩⟩)
 | succ gI => (
 have d1 : decide (z < 32) = true := decide_eq_true (by omega)
 have hil : i < 32 := by omega
 have z0 := eq_true (show 0 ≤ z by omega)
 have z1 := eq_true (show z < 32 by omega)
 have hzi : z.toNat = i := by omega
 have d2 : wrap64 (z + 1) = z + 1 := wrap64_id (by omega) (by omega)
 obtain ⟨a0, M⟩ : ∃ a0, a0 = word (mixw o s i) i := ⟨_, rfl⟩; obtain ⟨b0, O⟩ : ∃ b0, b0 = word s i := ⟨_, rfl⟩; obtain ⟨n0, R⟩ : ∃ n0, n0 = word (mixw o s (i + 1)) i := ⟨_, rfl⟩; have hbits : bits .or .u64 (a0 : Int) (b0 : Int) = (n0 : Int) := by rw [M, O, R, word_mix_at]; exact bits_or_u64_nat _ _ (word_lt _ _) (word_lt _ _)
 have hcz := hSy.cell1 hil; have hfz := hSy.frozen i; rw [← M] at hcz; have b8 := a_ O; have b9 := a_ R; have HIL := a_ hil; clear hz hi hSy hil M O R; go_wp2_with (first | ((with_reducible refine gd_ 23 rfl ?_); refine index_event (s := s) (j := i) rfl rfl ?hx ?hy HZ.out HIL.out ?_; (case hx => first | rfl | (go_simp; done) | (go_simp; rfl)); (case hy => first | rfl | (go_simp; done) | (go_simp; rfl)); rw [← b8.out]))
 go_roundg gI
 case measure => omega
 case rel => exact ⟨z + 1, by go_num, ⟨i + 1, by have := HZ.out; omega, by have := HIj.out; omega, by have h_ := HSy.out.set1 (t := mixw o s (i + 1)) HIL.out (fun k hk => word_mix_ne hk); unfold cw at h_; rw [← b9.out] at h_; exact h_⟩, ⟨B.out.setCell a7.out _⟩, ⟨Go.Proofs.YtefhpdcafdhcaaaDoor.S.SetsAt.far b.out (Nat.ne_of_lt HNE.out) _⟩⟩))))
end Go.Proofs.YtefhpdcafdhcaaaDoor.S
end
section
namespace Go.Proofs.YtefhpdcafdhcaaaDoor.S
open Go Go.RowKit Go.Proofs Go.Proofs.YtefhpdcafdhcaaaDoorW.PrintWords Go.Proofs.YtefhpdcafdhcaaaDoorW.PrintLast Go.Proofs.YtefhpdcafdhcaaaDoorW.PrintMore Go.Proofs.YtefhpdcafdhcaaaDoor Go.Proofs.YtefhpdcafdhcaaaDoor.A FlowM
theorem run_part (W : World) (s j : Nat) (hj : j < 32) : (part 57 (cellsL [s]).toArray j).run Tryd.prog W = .ok (.int .u64 ((word s j : Nat) : Int)) W := by
 have h1 : (cellsL [s])[j]? = some (.int .u64 ((word s j : Nat) : Int)) := by
  have := cellsL_get [s] (i := 0) (j := j) (by simp) hj
  rw [Nat.mul_zero, Nat.zero_add] at this; rw [this]; rfl
 simp [part, isAgg, Sem.run_bind, run_underlying Tryd.underlying57, h1]
theorem run_same (W : World) (d s t : Nat) : (Op.equalIn (d + 2) 59 (setV s) (setV t)).run Tryd.prog W = .ok ((List.range 32).all fun j => word s j == word t j) W := by
 have l : (Tryd.prog.info? 57).map (·.size) = some 1 := by kernel_rfl
 cases hq : Tryd.prog.info? 57 with
 | none => simp [hq] at l
 | some f => (
 have hs : f.size = 1 := by simpa [hq] using l
 rw [show d + 2 = (d + 1) + 1 from rfl, Op.equalIn]; simp only [setV, Sem.run_bind, run_underlying Tryd.underlying59, Result.andThen_ok, sizeOf, typeInfo]
 simp [hq, hs]
 have key : ∀ n a, a + n ≤ 32 → (forIn (m := Sem) (List.range' a n) ((none, ()) : Option Bool × Unit) fun i _ => do
     let x ← part 57 (cellsL [s]).toArray i
     let y ← part 57 (cellsL [t]).toArray i
     let b ← Op.equalIn (d + 1) 57 x y
     if b = false then pure (ForInStep.done (some false, ())) else pure (ForInStep.yield (none, ()))).run Tryd.prog W = .ok (if (List.range' a n).all (fun j => word s j == word t j) then (none, ()) else (some false, ())) W := by
  intro n
  induction n with
  | zero => intro a _; simp
  | succ n ih =>
   intro a ha
   rw [List.range'_succ, List.forIn_cons]; simp only [Sem.run_bind, run_part W s a (by omega), run_part W t a (by omega), Result.andThen_ok, run_equalIn_int W d 57 .u64 .u64 _ _ Tryd.underlying57]
   by_cases he : word s a = word t a
   ·have p : (((word s a : Nat) : Int) == ((word t a : Nat) : Int)) = true := beq_iff_eq.2 (by omega)
    simp only [p, Bool.true_eq_false, if_false, Sem.run_pure, Result.andThen_ok]
    rw [ih (a + 1) (by omega), List.all_cons, beq_iff_eq.2 he, Bool.true_and]
   ·have p : (((word s a : Nat) : Int) == ((word t a : Nat) : Int)) = false := beq_eq_false_iff_ne.2 (by omega)
    simp only [p, if_true, Sem.run_pure, Result.andThen_ok]
    rw [List.all_cons, beq_eq_false_iff_ne.2 he, Bool.false_and, if_neg (by simp)]
 rw [key 32 0 (by omega), List.range_eq_range']
 cases h : (List.range' 0 32).all (fun j => word s j == word t j) <;> simp)
theorem same_iff {s t : Nat} (hs : s < 2 ^ (64 * 32)) (ht : t < 2 ^ (64 * 32)) : ((List.range 32).all fun j => word s j == word t j) = decide (s = t) := by
 by_cases h : s = t
 ·subst h; rw [decide_eq_true rfl]; simp
 {
 rw [decide_eq_false h]; refine Bool.eq_false_iff.2 fun hall => h ?_
 refine word_ext (m := 32) hs ht fun j hj => ?_
 have := List.all_eq_true.1 hall j (List.mem_range.2 hj)
 simpa using this}
theorem run_neq {o : Oper} {a : Act} {x y : Operand} {s t : Nat} (ho : o.op = .binOp .neq 59 x y 59) (hx : a.eval x = setV s) (hy : a.eval y = setV t) (hs : s < 2 ^ (64 * 32)) (ht : t < 2 ^ (64 * 32)) (W : World) :
  (execOp a.eval o).run Tryd.prog W = .ok (.value (.bool (!decide (s = t)))) W := by
 have h1 := run_same W 9998 s t; rw [same_iff hs ht] at h1; have b : (Op.equal 59 (setV s) (setV t)).run Tryd.prog W = .ok (decide (s = t)) W := h1
 unfold execOp
 simp only [ho, hx, hy, Sem.run_bind]
 unfold setV at b ⊢
 rw [run_eqGuard_agg W .neq 59 x y _ _ (by kernel_rfl)]
 simp only [Result.andThen_ok, binOp, Sem.run_bind, b, Sem.run_pure]
end Go.Proofs.YtefhpdcafdhcaaaDoor.S
end
section
namespace Go.Proofs.YtefhpdcafdhcaaaDoor.S
open Go Go.RowKit Go.Proofs Go.Proofs.YtefhpdcafdhcaaaDoorW.PrintWords Go.Proofs.YtefhpdcafdhcaaaDoorW.PrintLast Go.Proofs.YtefhpdcafdhcaaaDoorW.PrintMore Go.Proofs.YtefhpdcafdhcaaaDoor Go.Proofs.YtefhpdcafdhcaaaDoor.A FlowM
theorem made_zero (n : Nat) : madeCells (Array.replicate 32 (.int .u64 0 : Value)) (n * 32) = (cellsL (List.replicate n 0)).toArray := by
 apply Array.ext_getElem?
 intro k
 rw [show (cellsL (List.replicate n 0)).toArray[k]? = (cellsL (List.replicate n 0))[k]? from List.getElem?_toArray ..]
 by_cases hk : k < n * 32
 {
 have e : k = 32 * (k / 32) + k % 32 := by omega
 have hl : k / 32 < (List.replicate n 0).length := by rw [List.length_replicate]; omega
 have b : (List.replicate n 0).getD (k / 32) 0 = 0 := by rw [List.getD_eq_getElem?_getD, List.getElem?_eq_getElem hl, List.getElem_replicate]; rfl
 have h1 : (cellsL (List.replicate n 0))[k]? = some (cw 0 (k % 32)) := by {
 have := cellsL_get (List.replicate n 0) hl (show k % 32 < 32 by omega)
 rw [b, ← e] at this; exact this}
 rw [h1]; have l : k % 32 < (Array.replicate 32 (.int .u64 0 : Value)).size := by simp; omega
 simp only [madeCells, Array.getElem?_map, Array.getElem?_range, Array.size_replicate]
 rw [if_pos hk]; simp only [Option.map_some]
 rw [getElem!_pos _ _ (by simp; omega)]
 simp [cw, word]}
 {
 rw [List.getElem?_eq_none (by rw [cellsL_len, List.length_replicate]; omega)]
 rw [Array.getElem?_eq_none (by rw [size_madeCells]; omega)]}
theorem info59 : (Tryd.prog.info? 59).map (fun i => (i.zero, i.size, i.bytes)) = some (some (.agg (Array.replicate 32 (.int .u64 0))), 32, 256) := by kernel_rfl
theorem run_make59 (W : World) (n : Nat) (hn : n ≤ 1000000) : (Instr.makeSlice 55 (.int .i64 (n : Int)) (.int .i64 (n : Int))).run Tryd.prog W = .ok (.slice (some ⟨W.heap.size, 0, none⟩) n n) (W.alloc (.cells (cellsL (List.replicate n 0)).toArray 59)) := by
 obtain ⟨q, hi, hzz⟩ := Option.map_eq_some_iff.1 info59; simp only [Prod.mk.injEq] at hzz
 obtain ⟨b, l, p⟩ := hzz; have hr := run_make (P := Tryd.prog) W 55 59 q _ Tryd.underlying55 hi b .i64 .i64 (n : Int) (n : Int) (by omega) (by omega) (by rw [p]; omega) (by omega)
 simp only [Int.toNat_natCast] at hr
 rw [l] at hr; rw [hr]; have : (Value.agg (Array.replicate 32 (.int .u64 0))).cells = Array.replicate 32 (.int .u64 0 : Value) := rfl
 rw [this, made_zero]
section
variable {ops : Array Oper} {o : Oper} {rest : List Oper} {a : Act} {Q : Exit → Act → World → Prop}
theorem make_event {W : World} {x y : Operand} {k : Int} {n : Nat} (hgd : o.guard = none) (ho : o.op = .makeSlice 55 x y) (hx : a.eval x = .int .i64 k) (hy : a.eval y = .int .i64 k) (hk : k = (n : Int)) (hn : n ≤ 1000000)
  (h : ∀ g b, W.heap.size ≤ g → SetsAt b g (List.replicate n 0) → Below W.heap.size W b → wpList Tryd.prog ops Q rest (a.put o.dst (.slice (some ⟨g, 0, none⟩) n n)) b) : wpList Tryd.prog ops Q (o :: rest) a W := by
 subst hk; refine Kd.event_run hgd ?_ (h W.heap.size _ (Nat.le_refl _) (heap_alloc_new W _) (below_alloc (Below.refl _ _) _))
 unfold execOp
 simp only [ho, hx, hy, Sem.run_bind, run_make59 W n hn, Result.andThen_ok]
 rfl
theorem run_load59 {W : World} {g i off : Nat} {l : List Nat} {x : Operand} {s : Nat} (ho : o.op = .load 59 x) (hx : a.eval x = .pointer (some ⟨g, off, none⟩)) (he : off = 32 * i) (hS : SetsAt W g l) (hi : i < l.length) (hs : l.getD i 0 = s) :
  (execOp a.eval o).run Tryd.prog W = .ok (.value (setV s)) W := by
 subst he hs; unfold execOp
 simp only [ho, hx, Sem.run_bind, run_loadAt_mid W g (32 * i) 59 (cellsL [l.getD i 0]) (.array 32 57) (hS.range hi) Tryd.underlying59 rfl (size59 _), Result.andThen_ok]
 rfl
end
end Go.Proofs.YtefhpdcafdhcaaaDoor.S
end
section
namespace Go.Proofs.YtefhpdcafdhcaaaDoor.S
open Go Go.RowKit Go.Proofs Go.Proofs.YtefhpdcafdhcaaaDoorW.PrintWords Go.Proofs.YtefhpdcafdhcaaaDoorW.PrintLast Go.Proofs.YtefhpdcafdhcaaaDoorW.PrintMore Go.Proofs.YtefhpdcafdhcaaaDoor Go.Proofs.YtefhpdcafdhcaaaDoor.A FlowM
theorem below_setg {B : Nat} {w W : World} {g j : Nat} {v : Value} (h : Below B w W) (hg : B ≤ g) : Below B w (W.setCell ⟨g, j, none⟩ v) := h.setCell hg _
theorem grown_below {w0 w w1 : World} {row : Option Nat} (h : w0.grownBy w row) (hb : Below w.heap.size w w1) : w0.grownBy w1 row := grown_then h (grown_of hb)
theorem fine_good {m : Nat} (hm : m ≤ 2048) {y : S71} (h : Fine m y) : Good y := by
 refine ⟨fun hd => ?_, fun r hr => ?_⟩
 ·have := h.2.2.1 (by rw [← defs_hasD h]; exact hd); omega
 ·have := useList_fine h r hr; omega
theorem next_len (n : S69) : (next n).length ≤ 2 := by unfold next; split <;> (try split) <;> simp
theorem rd_L2_map (l : List S69) (j : Nat) (hj : j < l.length) : rd_L2 (l.map next) (j : Int) = next l[j] := by simp [rd_L2, hj]
theorem getD_bound {J : List Nat} {B : Nat} (h : ∀ s ∈ J, s < B) (b : 0 < B) (i : Nat) : J.getD i 0 < B := by
 rw [List.getD_eq_getElem?_getD]; rcases Nat.lt_or_ge i J.length with hi | hi
 ·rw [List.getElem?_eq_getElem hi]; exact h _ (List.getElem_mem hi)
 ·rw [List.getElem?_eq_none hi]; exact b
theorem getD_atR (l : List Nat) {i : Nat} (h : i < l.length) : l.getD i 0 = l[i] := by rw [List.getD_eq_getElem?_getD, List.getElem?_eq_getElem h]; rfl
theorem afterC2 (w : World) (nx : List Int) (An : Option Addr) (cn : Nat) (gi : Nat) (I : List Nat) (n cI : Nat) (hIn : I.length = n) (hn : Kd.C (Kd.int .i64) w An nx.length nx) (hI : SetsAt w gi I) (hb : ∀ s ∈ I, s < 2 ^ (64 * 32)) (hm : ∀ m ∈ nx, 0 ≤ m ∧ m < (n : Int)) (hl : nx.length ≤ 1000000) :
  Calls Tryd.prog 39 #[.slice An nx.length cn, .slice (some ⟨gi, 0, none⟩) n cI] w fun e w' => e = .returned (setV (after nx I)) ∧ Below w.heap.size w w' := by
 subst hIn; exact afterC w nx An cn gi I cI hn hI hb hm hl
theorem putC1 (w : World) (g : Nat) (x : Int) (s : Nat) (hs : SetsAt w g [s]) (b : 0 ≤ x) (h1 : x < 2048) :
  Calls Tryd.prog 36 #[.pointer (some ⟨g, 0, none⟩), .int .i64 x] w fun e w' => e = .returned (.tuple #[]) ∧ w.grownBy w' (some g) ∧ SetsAt w' g [put s x.toNat] := putC w g 0 x [s] hs (by simp) b h1
theorem backC1 (w : World) (g : Nat) (s : Nat) (y : S71) (b : Option Addr) (l : Nat) (hs : SetsAt w g [s]) (h6 : ∀ w', w.grownBy w' (some g) → Kd.C (Kd.int .i64) w' b y.f6.length y.f6) (p : y.f6.length ≤ l) (hy : Good y) :
  Calls Tryd.prog 53 #[.pointer (some ⟨g, 0, none⟩), .agg #[.int .i64 y.f0, .int .i64 y.f1, .int .i64 y.f2, .int .i64 y.f3, .int .i64 y.f4, .int .i32 y.f5, .slice b y.f6.length l]] w fun e w' => e = .returned (.tuple #[]) ∧ w.grownBy w' (some g) ∧ SetsAt w' g [back s y] := backC w g 0 [s] y b l hs (by simp) h6 p hy
theorem listC1 (w : World) (g n : Nat) (s : Nat) (hs : SetsAt w g [s]) (hn : n ≤ 2048) :
  Calls Tryd.prog 31 #[.pointer (some ⟨g, 0, none⟩), .int .i64 (n : Int)] w fun e w' => ∃ v : Value, e = .returned v ∧ Kd.R (Kd.int .i64) 3 w' w.heap.size (fun _ => True) v (regsL s n) ∧ Below w.heap.size w w' := listC w g 0 n [s] s hs (by simp) hn rfl
theorem hasC1 (w : World) (g : Nat) (x : Int) (s : Nat) (b : Bool) (hs : SetsAt w g [s]) (l : 0 ≤ x) (h1 : x < 2048) (hb : s.testBit x.toNat = b) :
  Calls Tryd.prog 34 #[.pointer (some ⟨g, 0, none⟩), .int .i64 x] w fun e w' => e = .returned (.bool b) ∧ Below w.heap.size w w' := hasC w g 0 x [s] b hs (by simp) l h1 hb
end Go.Proofs.YtefhpdcafdhcaaaDoor.S
end
section
namespace Go.Proofs.YtefhpdcafdhcaaaDoor.S
open Go Go.RowKit Go.Proofs Go.Proofs.YtefhpdcafdhcaaaDoorW.PrintWords Go.Proofs.YtefhpdcafdhcaaaDoorW.PrintLast Go.Proofs.YtefhpdcafdhcaaaDoorW.PrintMore Go.Proofs.YtefhpdcafdhcaaaDoor Go.Proofs.YtefhpdcafdhcaaaDoor.A Go.Proofs.YtefhpdcafdhcaaaDoor.B Go.Proofs.YtefhpdcafdhcaaaDoor.V FlowM
def lv.T17 : Bool × List (List Nat × List Nat) := (true, [([], []), ([], []), ([], []), ([1, 2], [1, 2]), ([3], [3]), ([0, 4], [0, 4])])
def lv.B17 : List Nat := [0, 0, 0, 6, 14, 31]
theorem lv.tab17 : rtab .any (opsOf Tryd.f38 17) = lv.T17 := by kernel_rfl
theorem lv.bits17 : waitsOk lv.T17.2 lv.B17 = true := by kernel_rfl
theorem liveC (k : Nat) (d0 : ByteArray) (d1 : Option Addr) (d2 : Nat) (L : List S83) (d3 : Option Addr) (d4 : Nat) (M : List S85) (d5 : Int) (d6 : Option Addr) (d7 : Nat) (b : List S69) (w : World) (K : Nat) (R : List Nat)
  (e0 : Kd.C k83 w d1 L.length L) (e1 : L.length ≤ d2) (e2 : Kd.C k85 w d3 M.length M) (e3 : M.length ≤ d4) (e4 : Kd.C k69 w d6 b.length b) (e5 : b.length ≤ d7)
  (h : flow_Successors.f k d0 L M d5 b = some (b.map next, 0)) (hT : Tab w) (m : Nat) (hm : m ≤ 2048) (hF : FineG m b) (hlen : b.length ≤ 1000000) (hlens : ∀ n ∈ b, n.f0.length ≤ 1000000) (hK : liveF b K (List.replicate b.length 0) = some R) :
  Calls Tryd.prog 38 #[.agg #[.string d0, .slice d1 L.length d2, .slice d3 M.length d4, .int .i64 d5, .slice d6 b.length d7]] w fun e w' => ∃ (g c : Nat) (v2 : Value), e = .returned (.tuple #[.slice (some ⟨g, 0, none⟩) b.length c, v2]) ∧ w.heap.size ≤ g ∧ SetsAt w' g R ∧ Kd.S (Kd.slice 3 (Kd.int .i64)) 27 w' w.heap.size (fun _ => True) v2 (b.map next) ∧ Below w.heap.size w w' := by
 obtain ⟨nx, hnx⟩ : ∃ nx, nx = b.map next := ⟨_, rfl⟩; rw [← hnx] at h ⊢
 have HNX := a_ hnx; have HNL : Aside0 (nx.length = b.length) := ⟨by rw [hnx, List.length_map]⟩
 have t8 := Tryd.underlying26; have t9 := Tryd.underlying69; have v0 := Tryd.underlying71; have HT := a_ hT; have s4 := a_ e0; have s5 := a_ e2; have o0 := a_ e4; have s6 := a_ e1; have s7 := a_ e3; have s8 := a_ e5; have HSU := a_ h; have HMM := a_ hm; have HF := a_ hF; have HLEN := a_ hlen; have HLENS := a_ hlens; have HK := a_ hK; clear hnx e0 e2 e4 e1 e3 e5 h hT hm hF hlen hlens hK; go_enter Tryd.func38, Tryd.ntmps38
 go_wp2_with (first | ((with_reducible refine gd_ 1 rfl ?_); refine q_box 1 26 #[.string d0, .slice d1 L.length d2, .slice d3 M.length d4, .int .i64 d5, .slice d6 b.length d7] ?_; intro g1 o1 w1 a1 o2; have o3 := a_ a1; have b4 := a_ o2; have x3 : Aside0 (w.heap.size ≤ g1) := ⟨by rw [o1]; exact Nat.le_refl _⟩; clear o1 a1 o2; obtain ⟨v1, v3, v4, v6, v9⟩ := q_c5 o3.out) | (go_at_call 24; (with_reducible refine (flow_Successors.calls k d0 d1 d2 L d3 d4 M d5 d6 d7 b _ _ _ (Kd.C_below s4.out b4.out) s6.out (Kd.C_below s5.out b4.out) s7.out (Kd.C_below o0.out b4.out) s8.out HSU.out (HT.out.below b4.out)).mono ?_); rintro e w5 ⟨v5, rfl, k0, k1⟩; obtain ⟨A5, c5, rfl⟩ := Kd.S_slice k0; have k2 := a_ (blk_below o3.out k1); have k3 := a_ (below_then b4.out b4.out.size k1); have s9 := a_ (Kd.S_lower k0 b4.out.size); clear k0 k1; obtain ⟨w2, w3, w4, w7, w8⟩ := q_c5 k2.out) | ((with_reducible refine gd_ 20 rfl ?_); refine make_event (n := b.length) rfl rfl ?hx ?hy rfl HLEN.out ?_; (case hx => first | rfl | (go_simp; done) | (go_simp; rfl)); (case hy => first | rfl | (go_simp; done) | (go_simp; rfl)); intro gI w6 hgI o4 i4; have k4 := a_ o4; have HGI : Aside0 (w.heap.size ≤ gI) := ⟨Nat.le_trans k3.out.size hgI⟩; have HNE : Aside0 (g1 ≠ gI) := ⟨fun e => by have := blk_lt k2.out; omega⟩; have o5 := a_ (blk_below k2.out i4); have o6 := a_ (below_then k3.out k3.out.size i4); have o7 := a_ (Kd.S_below s9.out i4); clear hgI o4 i4))
 go_loopg [7] K (fun gk v7 wx => ∃ c : Bool, v7 = .bool c ∧ Aside0 (∃ I, (c = true → liveF b gk I = some R) ∧ (c = false → I = R) ∧ SetsAt wx gI I ∧ I.length = b.length ∧ ∀ s ∈ I, s < 2 ^ m) ∧ Aside0 (w6.grownBy wx (some gI)))
 case atStart => exact ⟨true, rfl, ⟨List.replicate b.length 0, fun _ => HK.out, fun h => (by cases h), k4.out, List.length_replicate, (fun s hs => (by rw [(List.mem_replicate.1 hs).2]; exact Nat.two_pow_pos m))⟩, ⟨⟨rfl, rfl, rfl, Nat.le_refl _, fun _ _ _ => rfl⟩⟩⟩
 case round => (
 clear HK; obtain ⟨c, rfl, ⟨I, k5, k6, hSI, hIL, hIB⟩, HG⟩ := hrel; have HBx := a_ (below_grown o6.out HG.out HGI.out); have BKx := a_ (blk_grown o5.out HG.out (fun e => HNE.out (Option.some.inj e)))
 cases c with
 | false => (
 have t1 : Aside0 (SetsAt wr gI R) := ⟨by have := k6 rfl; rwa [this] at hSI⟩
 have t2 := a_ (S_sets o7.out k4.out (by decide) HG.out)
 clear k5 k6 hSI hIL hIB; go_wp2
 (try simp only [Exit.inBlock, Exit.then])
 refine bodyPost_ret (results_tmp2 rfl _ _ _) rfl ?_
 exact ⟨gI, _, _, rfl, HGI.out, t1.out, t2.out, HBx.out⟩)
 | true => (
 have i5 := k5 rfl; clear k5 k6; cases gk with
 | zero => cases i5
 | succ gO => (
 rw [liveF] at i5; have HV := a_ i5; have HSI := a_ hSI; have HIL := a_ hIL; have HIB := a_ hIB; clear i5 hSI hIL hIB; obtain ⟨i6, i7, i8, i9, j3⟩ := q_c5 BKx.out; have hw : wrap64 ((b.length : Int) - 1) = (b.length : Int) - 1 := wrap64_id (by omega) (by have := HLEN.out; omega)
 go_wp2
 go_loopg [7, 8] b.length (fun gk v7 v8 wy => ∃ (c : Bool) (x : Int), v7 = .bool c ∧ v8 = .int .i64 x ∧ Aside0 (∃ J, x = (gk : Int) - 1 ∧ gk ≤ b.length ∧ sweep b b.length I false = sweep b gk J c ∧ SetsAt wy gI J ∧ J.length = b.length ∧ ∀ s ∈ J, s < 2 ^ m) ∧ Aside0 (w6.grownBy wy (some gI)))
 case atStart => exact ⟨false, (b.length : Int) - 1, rfl, by rw [hw], ⟨I, rfl, Nat.le_refl _, rfl, HSI.out, HIL.out, HIB.out⟩, ⟨HG.out⟩⟩
 case round => (
 clear i6 i7 i8 i9 j3 hw HSI HIL HIB HG HBx BKx; obtain ⟨c, x, rfl, rfl, ⟨J, hx, hgk, hsw, hSJ, hJL, hJB⟩, HG⟩ := hrel; have HBx := a_ (below_grown o6.out HG.out HGI.out); have BKx := a_ (blk_grown o5.out HG.out (fun e => HNE.out (Option.some.inj e)))
 have hOx := S_sets o7.out k4.out (by decide) HG.out
 have HOx := a_ hOx; have HX := a_ hx; have HSW := a_ hsw; have HSJ := a_ hSJ; have HJL := a_ hJL; have HJB := a_ hJB; cases gk with
 | zero => (
 have c1 : decide (0 ≤ x) = false := decide_eq_false (by omega)
 clear hx hgk hsw hSJ hJL hJB hOx; go_wp2
 go_roundg gO
 case measure => omega
 case rel => (
 have hv := HV.out; rw [HSW.out, sweep] at hv; refine ⟨c, rfl, ⟨J, fun hc => ?_, fun hc => ?_, HSJ.out, HJL.out, HJB.out⟩, ⟨HG.out⟩⟩
 ·subst hc; rwa [if_pos rfl] at hv
 ·subst hc; rw [if_neg (by simp)] at hv; exact Option.some.inj hv))
 | succ gN => (
 have c1 : decide (0 ≤ x) = true := decide_eq_true (by omega)
 have hxn : x = (gN : Int) := by omega
 have hNl : gN < b.length := hgk
 have p0 : 0 ≤ x := by omega
 have qN : x < (b.length : Int) := by omega
 have qX : x < (nx.length : Int) := by have := HNL.out; omega
 obtain ⟨adN, A0, c0, e, k7, k8, k9, l4, l5, j5, hCI⟩ := at_T69 o0.out x p0 qN; cases e; obtain ⟨adX, AR, cR, e, hrow, hlrow, hCR⟩ := at_L2 (Kd.S_reads' hOx).2.2 x p0 qX; cases e; obtain ⟨z, hnd⟩ : ∃ z, z = rd_T69 b x := ⟨_, rfl⟩; rw [← hnd] at k7 k8 k9 l4 l5 j5 hCI
 have hndl : z = b[gN] := by rw [hnd, hxn]; simp [rd_T69, hNl]
 have hrl : rd_L2 nx x = next z := by rw [HNX.out, hxn, rd_L2_map _ _ hNl, hndl]
 obtain ⟨row, hrowe⟩ : ∃ row, row = next z := ⟨_, rfl⟩; rw [hrl, ← hrowe] at hrow hlrow hCR
 have HROW := a_ hrowe; have HCI := a_ hCI; have HCR := a_ hCR; have HND : Aside0 (z = b.getD gN nd0) := ⟨by rw [hndl, getD_at _ hNl]⟩
 have E := a_ hNl; have hndF : FineNd m b.length z := HF.out z (by rw [hndl]; exact List.getElem_mem _)
 have HNF := a_ hndF; have HNLEN : Aside0 (z.f0.length ≤ 1000000) := ⟨HLENS.out z (by rw [hndl]; exact List.getElem_mem _)⟩
 replace k7 := cell_old k7 HBx.out; replace k8 := cell_old k8 HBx.out; replace k9 := cell_old k9 HBx.out; replace l4 := cell_old l4 HBx.out; replace l5 := cell_old l5 HBx.out; obtain ⟨i6, i7, i8, i9, j3⟩ := q_c5 BKx.out; have hjr := HJB.out; replace p0 := eq_true p0; replace qN := eq_true qN; replace qX := eq_true qX; have o9 := hJL.symm; clear hx hgk hsw hSJ hJL hJB hOx hnd hndl hrl hrowe hCI hCR hNl hndF hxn hjr j5 hlrow o9; have j6 := HSJ.out.lt; have d8 := a_ j6; clear j6; by_cases hE : z.f1 = 1
 case pos => (
 have c2 : (z.f1 == 1) = true := beq_iff_eq.mpr hE
 have j7 : Aside0 (0 ≤ z.f2 ∧ z.f2 < 2048) := ⟨by have x5 := HNF.out.2.1 hE; have x6 := HMM.out; omega⟩
 have l6 := a_ hE; clear hE; go_wp2_with (first | ((with_reducible refine gd_ 9 rfl ?_); refine q_box 9 69 #[.slice none 0 0, .int .i64 0, .int .i64 0, .int .i64 0, .int .i64 0] ?_; intro G e6 w9 e7 b5; have e8 := a_ e7; have a2 := a_ b5; have a3 : Aside0 (wr.heap.size ≤ G) := ⟨by rw [e6]; exact Nat.le_refl _⟩; have p1 : G ≠ g1 := (by have := blk_lt BKx.out; omega); have p2 : g1 ≠ G := (by omega); have hra : (adX.add x.toNat).block < wr.heap.size := World.block_lt_of_cell? wr _ hrow; rw [add_block] at hra; have hrd : adX.block ≠ G := (by omega); have B : G ≠ adX.block := (by omega); have p3 : (⟨G, 0, none⟩ : Addr) ≠ adX.add x.toNat := (fun e_ => B ((congrArg Addr.block e_).trans (add_block _ _))); have p4 : (⟨G, 1, none⟩ : Addr) ≠ adX.add x.toNat := (fun e_ => B ((congrArg Addr.block e_).trans (add_block _ _))); have p5 : (⟨G, 2, none⟩ : Addr) ≠ adX.add x.toNat := (fun e_ => B ((congrArg Addr.block e_).trans (add_block _ _))); have p6 : (⟨G, 3, none⟩ : Addr) ≠ adX.add x.toNat := (fun e_ => B ((congrArg Addr.block e_).trans (add_block _ _))); have p7 : (⟨G, 4, none⟩ : Addr) ≠ adX.add x.toNat := (fun e_ => B ((congrArg Addr.block e_).trans (add_block _ _))); have l7 := cell_old hrow b5; clear e6 e7 b5; clear hra; obtain ⟨p8, p9, q1, q2, q3, q4, q5, q6, q7, q8⟩ := q_cf5 e8.out) | (go_at_call 39; (with_reducible refine (afterC2 _ row AR cR gI J b.length _ HJL.out ?hn ?hI ?hb ?hm ?hl).mono ?_); (case hn => exact Kd.C_below HCR.out (by (repeat (with_reducible refine below_setg ?_ a3.out)); exact a2.out)); (case hI => exact SetsAt.below HSJ.out (by (repeat (with_reducible refine below_setg ?_ a3.out)); exact a2.out) d8.out); (case hb => exact fun s hs => Nat.lt_of_lt_of_le (HJB.out s hs) (Nat.pow_le_pow_right (by decide) HMM.out)); (case hm => exact fun q hq => by have := HNF.out.2.2 q (by rw [← HROW.out]; exact hq); exact this); (case hl => rw [HROW.out]; exact Nat.le_trans (next_len _) (by omega)); rintro e l8 ⟨rfl, O⟩; have T : Aside0 (Below wr.heap.size wr l8) := ⟨below_then (by (repeat (with_reducible refine below_setg ?_ a3.out)); exact a2.out) (Below.size (by (repeat (with_reducible refine below_setg ?_ a3.out)); exact a2.out)) O⟩; have a4 := a_ (blk_below (g := G) (o := .cells #[.slice A0 z.f0.length c0, .int .i64 z.f1, .int .i64 z.f2, .int .i64 z.f3, .int .i64 z.f4] 69 (0, 0)) (q_p e8.out) O); clear O) | ((with_reducible refine gd_ 10 rfl ?_); refine box_event ?hg (N := 10) ?hd (cs := (cellsL [0]).toArray) (t := 59) ?hr ?_; (case hd => rfl); (case hg => rfl); (case hr => rw [← zero_cells]; first | (go_simp; done) | (go_simp; rfl)); intro gA hgA l9 a5 U; have e9 : Aside0 (SetsAt l9 gA [0]) := ⟨a5⟩; have HGA : Aside0 (wr.heap.size ≤ gA) := ⟨by rw [hgA]; exact T.out.size⟩; have HNA : Aside0 (G ≠ gA) := ⟨by have := blk_lt a4.out; omega⟩; have f5 := a_ (below_then T.out T.out.size U); have f6 := a_ (blk_below a4.out U); clear hgA a5 U) | ((with_reducible refine gate_store (t := 59) (p := 10) rfl ?_); refine put_event (g := gA) (i := 0) (off := 0) (l := [0]) (s := after row J) rfl rfl rfl ?hx rfl ?hy e9.out (by simp) ?_; (case hx => first | rfl | (go_simp; done) | (go_simp; rfl)); (case hy => first | rfl | (go_simp; done) | (go_simp; rfl)); intro n0 V a6; have f7 := a_ a6; have f8 := a_ (below_grown f5.out V HGA.out); have a7 := a_ (blk_grown f6.out V (fun e => HNA.out (Option.some.inj e))); clear V a6; obtain ⟨f9, g0, g2, g3, g4⟩ := q_c5 a7.out) | (go_at_call 36; (with_reducible refine (putC1 _ gA z.f2 (after row J) f7.out j7.out.1 j7.out.2).mono ?_); rintro e q9 ⟨rfl, g5, j8⟩; have r0 := a_ j8; have r1 := a_ (below_grown f8.out g5 HGA.out); have j9 := a_ (blk_grown a7.out g5 (fun e => HNA.out (Option.some.inj e))); clear g5 j8; obtain ⟨r2, r3, r4, r5, r6⟩ := q_c5 j9.out))
 obtain ⟨s1, b6⟩ : ∃ s1, s1 = atEnd z (after row J) := ⟨_, rfl⟩; have n1 : Aside0 (SetsAt q9 gA [s1]) := ⟨by rw [b6, atEnd, if_pos l6.out]; exact r0.out⟩
 have HSE := a_ b6; clear b6; have g6 : wrap64 ((z.f0.length : Int) - 1) = (z.f0.length : Int) - 1 := wrap64_id (by omega) (by have := HNLEN.out; omega)
 go_loopg [11] z.f0.length (fun gz n2 wz => ∃ y : Int, n2 = .int .i64 y ∧ Aside0 (y = (gz : Int) - 1 ∧ gz ≤ z.f0.length ∧ SetsAt wz gA [(z.f0.drop gz).foldr (fun x s => back s x) s1]) ∧ Aside0 (q9.grownBy wz (some gA)))
 case atStart => exact ⟨(z.f0.length : Int) - 1, by rw [g6], ⟨rfl, Nat.le_refl _, by rw [List.drop_length]; exact n1.out⟩, ⟨⟨rfl, rfl, rfl, Nat.le_refl _, fun _ _ _ => rfl⟩⟩⟩
 case round => (
 clear g6 r2 r3 r4 r5 r6 f9 g0 g2 g3 g4; obtain ⟨y, rfl, ⟨hy, hgz, hSz⟩, HGz⟩ := hrel; have HBz := a_ (below_grown r1.out HGz.out HGA.out); have BKz := a_ (blk_grown j9.out HGz.out (fun e => HNA.out (Option.some.inj e)))
 have HSz := a_ hSz; have HY := a_ hy; cases gk with
 | zero => (
 have c1 : decide (0 ≤ y) = false := decide_eq_false (by omega)
 have hnow : (z.f0.drop 0).foldr (fun x s => back s x) s1 = transfer z row J := by rw [HSE.out, List.drop_zero, transfer]; rfl
 rw [hnow] at hSz; obtain ⟨now, hnw⟩ : ∃ now, now = transfer z row J := ⟨_, rfl⟩; rw [← hnw] at hSz; have HNOW := a_ hnw; have HSN := a_ hSz; clear hy hgz hSz hnow hnw HSz; have HJz : Aside0 (SetsAt wr gI J) := ⟨(HSJ.out.below HBz.out d8.out)⟩
 have n3 : Aside0 (now < 2 ^ (64 * 32)) := ⟨Nat.lt_of_lt_of_le (by rw [HNOW.out]; exact transfer_lt HNF.out row HJB.out) (Nat.pow_le_pow_right (by decide) HMM.out)⟩
 have n4 : Aside0 (J.getD gN 0 < 2 ^ (64 * 32)) := ⟨getD_bound (fun s hs => Nat.lt_of_lt_of_le (HJB.out s hs) (Nat.pow_le_pow_right (by decide) HMM.out)) (Nat.two_pow_pos _) gN⟩
 have HXT : Aside0 (x.toNat * 32 = 32 * gN) := ⟨by have := HX.out; omega⟩
 have a9 : Aside0 (gN < J.length) := ⟨by rw [HJL.out]; exact E.out⟩
 obtain ⟨bq, hbq⟩ : ∃ bq : Bool, bq = !decide (now = J.getD gN 0) := ⟨_, rfl⟩; have HBQ := a_ hbq; clear hbq; go_upto_region 17 with (fail)
 refine q_s 6 (S := fun W' => SetsAt W' gA [now] ∧ SetsAt W' gI J) ⟨HSN.out.drew, HJz.out.drew⟩ (fun F => ?_)
 refine with_tabW lv.tab17 lv.bits17 (fun D g7 => ?_)
 refine qv_ 1 D ?_
 refine qv_ 2 D ?_
 refine qv_ 3 D ?_
 refine qt_ (v := setV now) 0 D g7 F ?_ (hy := by intro w' s0; exact run_load59 (i := 0) rfl rfl rfl s0.1 (by simp) rfl)
 refine qt_ (v := setV (J.getD gN 0)) 4 D g7 F ?_ (hy := by intro w' s0; exact run_load59 (i := gN) rfl rfl HXT.out s0.2 a9.out rfl)
 refine qv_ (v := .bool bq) 5 D ?_ (hy := by intro w'; rw [HBQ.out]; exact run_neq rfl rfl rfl n3.out n4.out w')
 refine done_ (done_of D.out (by kernel_rfl)) ?_
 clear D g7 F; have hsw := HSW.out; rw [sweep, ← HND.out, ← HROW.out, ← HNOW.out] at hsw; have hq := HBQ.out; cases bq with
 | false => (
 have hne : now = J.getD gN 0 := by simpa using hq
 rw [if_pos hne] at hsw; have X := a_ hsw; clear hsw hne hq; go_wp2
 go_roundg gN
 case measure => omega
 case rel => exact ⟨c, wrap64 (x - 1), rfl, rfl, ⟨J, by rw [HX.out, wrap64_id (by omega) (by have := E.out; have := HLEN.out; omega)]; omega, Nat.le_of_lt E.out, X.out, HJz.out.drew, HJL.out, HJB.out⟩, ⟨grown_drew (grown_below HG.out HBz.out)⟩⟩)
 | true => (
 have hne : ¬ now = J.getD gN 0 := by simpa using hq
 rw [if_neg hne] at hsw; have X := a_ hsw; clear hsw hne hq; go_wp2_with (first | ((with_reducible refine gd_ 69 rfl ?_); refine load_event (g := gA) (i := 0) (off := 0) (l := [now]) (s := now) rfl rfl ?hx rfl HSN.out.drew (by simp) rfl ?_; (case hx => first | rfl | (go_simp; done) | (go_simp; rfl))) | ((with_reducible refine gate_store (t := 59) (p := 70) rfl ?_); refine put_event (g := gI) (i := gN) (off := x.toNat * 32) (l := J) (s := now) rfl rfl rfl ?hx HXT.out ?hy HJz.out.drew a9.out ?_; (case hx => first | rfl | (go_simp; done) | (go_simp; rfl)); (case hy => first | rfl | (go_simp; done) | (go_simp; rfl)); intro t3 b0 b1; have g8 := a_ b1; have i0 := a_ (grown_then (grown_drew (grown_below HG.out HBz.out)) b0); clear b0 b1))
 go_roundg gN
 case measure => omega
 case rel => exact ⟨true, wrap64 (x - 1), rfl, rfl, ⟨J.set gN now, by rw [HX.out, wrap64_id (by omega) (by have := E.out; have := HLEN.out; omega)]; omega, Nat.le_of_lt E.out, X.out, g8.out, by rw [List.length_set]; exact HJL.out, fun s hs => (by rcases List.mem_or_eq_of_mem_set hs with h_ | h_; exact HJB.out s h_; rw [h_, HNOW.out]; exact transfer_lt HNF.out row HJB.out)⟩, ⟨i0.out⟩⟩))
 | succ gO => (
 have c1 : decide (0 ≤ y) = true := decide_eq_true (by omega)
 have hyn : y = (gO : Int) := by omega
 have hOl : gO < z.f0.length := hgz
 have p0 : 0 ≤ y := by omega
 have q0 : y < (z.f0.length : Int) := by omega
 obtain ⟨adI, A6, c6, e, b7, a1, b8, b9, c3, c4, c8, a0, c9⟩ := at_T71 HCI.out y p0 q0; cases e; obtain ⟨p, hp⟩ : ∃ p, p = rd_T71 z.f0 y := ⟨_, rfl⟩; rw [← hp] at b7 a1 b8 b9 c3 c4 c8 a0 c9
 have hpl : p = z.f0[gO] := by rw [hp, hyn]; simp [rd_T71, hOl]
 have HDR : Aside0 ((z.f0.drop gO).foldr (fun x s => back s x) s1 = back ((z.f0.drop (gO + 1)).foldr (fun x s => back s x) s1) p) := ⟨by rw [List.drop_eq_getElem_cons hOl, List.foldr_cons, ← hpl]⟩
 have HGD : Aside0 (Good p) := ⟨fine_good HMM.out (HNF.out.1 p (by rw [hpl]; exact List.getElem_mem _))⟩
 have n7 := a_ c9; have n8 := a_ a0; have HBw := a_ (below_then HBx.out HBx.out.size HBz.out); replace b7 := cell_old b7 HBw.out; replace a1 := cell_old a1 HBw.out; replace b8 := cell_old b8 HBw.out; replace b9 := cell_old b9 HBw.out; replace c3 := cell_old c3 HBw.out; replace c4 := cell_old c4 HBw.out; replace c8 := cell_old c8 HBw.out; replace p0 := eq_true p0; replace q0 := eq_true q0; obtain ⟨r7, r8, r9, s2, s3⟩ := q_c5 BKz.out; obtain ⟨sO, hsO⟩ : ∃ sO, sO = (z.f0.drop (gO + 1)).foldr (fun x s => back s x) s1 := ⟨_, rfl⟩
 rw [← hsO] at hSz HDR
 have HSO := a_ hSz; have HHO := a_ hgz; clear hy hgz hSz hyn hp hpl c9 a0 hOl hsO HSz; go_wp2_with (first | (go_at_call 53; (with_reducible refine (backC1 _ gA sO p A6 c6 HSO.out ?h6 n8.out HGD.out).mono ?_); (case h6 => exact fun w' hg => Kd.C_below n7.out (below_then HBx.out HBx.out.size (below_grown HBz.out hg HGA.out))); rintro e t6 ⟨rfl, b2, b3⟩; have i1 := a_ b3; have i2 := a_ (grown_then HGz.out b2); clear b2 b3))
 go_roundg gO
 case measure => omega
 case rel => exact ⟨wrap64 (y - 1), rfl, ⟨by rw [HY.out, wrap64_id (by omega) (by have := HNLEN.out; have := HHO.out; omega)]; omega, Nat.le_of_lt HHO.out, by rw [HDR.out]; exact i1.out⟩, ⟨i2.out⟩⟩)))
 case neg => (
 have c2 : (z.f1 == 1) = false := beq_eq_false_iff_ne.mpr hE
 have l6 := a_ hE; clear hE; go_wp2_with (first | ((with_reducible refine gd_ 9 rfl ?_); refine q_box 9 69 #[.slice none 0 0, .int .i64 0, .int .i64 0, .int .i64 0, .int .i64 0] ?_; intro G e6 w9 e7 b5; have e8 := a_ e7; have a2 := a_ b5; have a3 : Aside0 (wr.heap.size ≤ G) := ⟨by rw [e6]; exact Nat.le_refl _⟩; have p1 : G ≠ g1 := (by have := blk_lt BKx.out; omega); have p2 : g1 ≠ G := (by omega); have hra : (adX.add x.toNat).block < wr.heap.size := World.block_lt_of_cell? wr _ hrow; rw [add_block] at hra; have hrd : adX.block ≠ G := (by omega); have B : G ≠ adX.block := (by omega); have p3 : (⟨G, 0, none⟩ : Addr) ≠ adX.add x.toNat := (fun e_ => B ((congrArg Addr.block e_).trans (add_block _ _))); have p4 : (⟨G, 1, none⟩ : Addr) ≠ adX.add x.toNat := (fun e_ => B ((congrArg Addr.block e_).trans (add_block _ _))); have p5 : (⟨G, 2, none⟩ : Addr) ≠ adX.add x.toNat := (fun e_ => B ((congrArg Addr.block e_).trans (add_block _ _))); have p6 : (⟨G, 3, none⟩ : Addr) ≠ adX.add x.toNat := (fun e_ => B ((congrArg Addr.block e_).trans (add_block _ _))); have p7 : (⟨G, 4, none⟩ : Addr) ≠ adX.add x.toNat := (fun e_ => B ((congrArg Addr.block e_).trans (add_block _ _))); have l7 := cell_old hrow b5; clear e6 e7 b5; clear hra; obtain ⟨p8, p9, q1, q2, q3, q4, q5, q6, q7, q8⟩ := q_cf5 e8.out) | (go_at_call 39; (with_reducible refine (afterC2 _ row AR cR gI J b.length _ HJL.out ?hn ?hI ?hb ?hm ?hl).mono ?_); (case hn => exact Kd.C_below HCR.out (by (repeat (with_reducible refine below_setg ?_ a3.out)); exact a2.out)); (case hI => exact SetsAt.below HSJ.out (by (repeat (with_reducible refine below_setg ?_ a3.out)); exact a2.out) d8.out); (case hb => exact fun s hs => Nat.lt_of_lt_of_le (HJB.out s hs) (Nat.pow_le_pow_right (by decide) HMM.out)); (case hm => exact fun q hq => by have := HNF.out.2.2 q (by rw [← HROW.out]; exact hq); exact this); (case hl => rw [HROW.out]; exact Nat.le_trans (next_len _) (by omega)); rintro e l8 ⟨rfl, O⟩; have T : Aside0 (Below wr.heap.size wr l8) := ⟨below_then (by (repeat (with_reducible refine below_setg ?_ a3.out)); exact a2.out) (Below.size (by (repeat (with_reducible refine below_setg ?_ a3.out)); exact a2.out)) O⟩; have a4 := a_ (blk_below (g := G) (o := .cells #[.slice A0 z.f0.length c0, .int .i64 z.f1, .int .i64 z.f2, .int .i64 z.f3, .int .i64 z.f4] 69 (0, 0)) (q_p e8.out) O); clear O) | ((with_reducible refine gd_ 10 rfl ?_); refine box_event ?hg (N := 10) ?hd (cs := (cellsL [0]).toArray) (t := 59) ?hr ?_; (case hd => rfl); (case hg => rfl); (case hr => rw [← zero_cells]; first | (go_simp; done) | (go_simp; rfl)); intro gA hgA l9 a5 U; have e9 : Aside0 (SetsAt l9 gA [0]) := ⟨a5⟩; have HGA : Aside0 (wr.heap.size ≤ gA) := ⟨by rw [hgA]; exact T.out.size⟩; have HNA : Aside0 (G ≠ gA) := ⟨by have := blk_lt a4.out; omega⟩; have f5 := a_ (below_then T.out T.out.size U); have f6 := a_ (blk_below a4.out U); clear hgA a5 U) | ((with_reducible refine gate_store (t := 59) (p := 10) rfl ?_); refine put_event (g := gA) (i := 0) (off := 0) (l := [0]) (s := after row J) rfl rfl rfl ?hx rfl ?hy e9.out (by simp) ?_; (case hx => first | rfl | (go_simp; done) | (go_simp; rfl)); (case hy => first | rfl | (go_simp; done) | (go_simp; rfl)); intro n0 V a6; have f7 := a_ a6; have f8 := a_ (below_grown f5.out V HGA.out); have a7 := a_ (blk_grown f6.out V (fun e => HNA.out (Option.some.inj e))); clear V a6; obtain ⟨f9, g0, g2, g3, g4⟩ := q_c5 a7.out))
 obtain ⟨s1, b6⟩ : ∃ s1, s1 = atEnd z (after row J) := ⟨_, rfl⟩; have n1 : Aside0 (SetsAt n0 gA [s1]) := ⟨by rw [b6, atEnd, if_neg l6.out]; exact f7.out⟩
 have HSE := a_ b6; clear b6; have g6 : wrap64 ((z.f0.length : Int) - 1) = (z.f0.length : Int) - 1 := wrap64_id (by omega) (by have := HNLEN.out; omega)
 go_loopg [11] z.f0.length (fun gz n2 wz => ∃ y : Int, n2 = .int .i64 y ∧ Aside0 (y = (gz : Int) - 1 ∧ gz ≤ z.f0.length ∧ SetsAt wz gA [(z.f0.drop gz).foldr (fun x s => back s x) s1]) ∧ Aside0 (n0.grownBy wz (some gA)))
 case atStart => exact ⟨(z.f0.length : Int) - 1, by rw [g6], ⟨rfl, Nat.le_refl _, by rw [List.drop_length]; exact n1.out⟩, ⟨⟨rfl, rfl, rfl, Nat.le_refl _, fun _ _ _ => rfl⟩⟩⟩
 case round => (
 clear g6 f9 g0 g2 g3 g4; obtain ⟨y, rfl, ⟨hy, hgz, hSz⟩, HGz⟩ := hrel; have HBz := a_ (below_grown f8.out HGz.out HGA.out); have BKz := a_ (blk_grown a7.out HGz.out (fun e => HNA.out (Option.some.inj e)))
 have HSz := a_ hSz; have HY := a_ hy; cases gk with
 | zero => (
 have c1 : decide (0 ≤ y) = false := decide_eq_false (by omega)
 have hnow : (z.f0.drop 0).foldr (fun x s => back s x) s1 = transfer z row J := by rw [HSE.out, List.drop_zero, transfer]; rfl
 rw [hnow] at hSz; obtain ⟨now, hnw⟩ : ∃ now, now = transfer z row J := ⟨_, rfl⟩; rw [← hnw] at hSz; have HNOW := a_ hnw; have HSN := a_ hSz; clear hy hgz hSz hnow hnw HSz; have HJz : Aside0 (SetsAt wr gI J) := ⟨(HSJ.out.below HBz.out d8.out)⟩
 have n3 : Aside0 (now < 2 ^ (64 * 32)) := ⟨Nat.lt_of_lt_of_le (by rw [HNOW.out]; exact transfer_lt HNF.out row HJB.out) (Nat.pow_le_pow_right (by decide) HMM.out)⟩
 have n4 : Aside0 (J.getD gN 0 < 2 ^ (64 * 32)) := ⟨getD_bound (fun s hs => Nat.lt_of_lt_of_le (HJB.out s hs) (Nat.pow_le_pow_right (by decide) HMM.out)) (Nat.two_pow_pos _) gN⟩
 have HXT : Aside0 (x.toNat * 32 = 32 * gN) := ⟨by have := HX.out; omega⟩
 have a9 : Aside0 (gN < J.length) := ⟨by rw [HJL.out]; exact E.out⟩
 obtain ⟨bq, hbq⟩ : ∃ bq : Bool, bq = !decide (now = J.getD gN 0) := ⟨_, rfl⟩; have HBQ := a_ hbq; clear hbq; go_upto_region 17 with (fail)
 refine q_s 6 (S := fun W' => SetsAt W' gA [now] ∧ SetsAt W' gI J) ⟨HSN.out.drew, HJz.out.drew⟩ (fun F => ?_)
 refine with_tabW lv.tab17 lv.bits17 (fun D i3 => ?_)
 refine qv_ 1 D ?_
 refine qv_ 2 D ?_
 refine qv_ 3 D ?_
 refine qt_ (v := setV now) 0 D i3 F ?_ (hy := by intro w' s0; exact run_load59 (i := 0) rfl rfl rfl s0.1 (by simp) rfl)
 refine qt_ (v := setV (J.getD gN 0)) 4 D i3 F ?_ (hy := by intro w' s0; exact run_load59 (i := gN) rfl rfl HXT.out s0.2 a9.out rfl)
 refine qv_ (v := .bool bq) 5 D ?_ (hy := by intro w'; rw [HBQ.out]; exact run_neq rfl rfl rfl n3.out n4.out w')
 refine done_ (done_of D.out (by kernel_rfl)) ?_
 clear D i3 F; have hsw := HSW.out; rw [sweep, ← HND.out, ← HROW.out, ← HNOW.out] at hsw; have hq := HBQ.out; cases bq with
 | false => (
 have hne : now = J.getD gN 0 := by simpa using hq
 rw [if_pos hne] at hsw; have X := a_ hsw; clear hsw hne hq; go_wp2
 go_roundg gN
 case measure => omega
 case rel => exact ⟨c, wrap64 (x - 1), rfl, rfl, ⟨J, by rw [HX.out, wrap64_id (by omega) (by have := E.out; have := HLEN.out; omega)]; omega, Nat.le_of_lt E.out, X.out, HJz.out.drew, HJL.out, HJB.out⟩, ⟨grown_drew (grown_below HG.out HBz.out)⟩⟩)
 | true => (
 have hne : ¬ now = J.getD gN 0 := by simpa using hq
 rw [if_neg hne] at hsw; have X := a_ hsw; clear hsw hne hq; go_wp2_with (first | ((with_reducible refine gd_ 69 rfl ?_); refine load_event (g := gA) (i := 0) (off := 0) (l := [now]) (s := now) rfl rfl ?hx rfl HSN.out.drew (by simp) rfl ?_; (case hx => first | rfl | (go_simp; done) | (go_simp; rfl))) | ((with_reducible refine gate_store (t := 59) (p := 70) rfl ?_); refine put_event (g := gI) (i := gN) (off := x.toNat * 32) (l := J) (s := now) rfl rfl rfl ?hx HXT.out ?hy HJz.out.drew a9.out ?_; (case hx => first | rfl | (go_simp; done) | (go_simp; rfl)); (case hy => first | rfl | (go_simp; done) | (go_simp; rfl)); intro t3 b0 b1; have g8 := a_ b1; have i0 := a_ (grown_then (grown_drew (grown_below HG.out HBz.out)) b0); clear b0 b1))
 go_roundg gN
 case measure => omega
 case rel => exact ⟨true, wrap64 (x - 1), rfl, rfl, ⟨J.set gN now, by rw [HX.out, wrap64_id (by omega) (by have := E.out; have := HLEN.out; omega)]; omega, Nat.le_of_lt E.out, X.out, g8.out, by rw [List.length_set]; exact HJL.out, fun s hs => (by rcases List.mem_or_eq_of_mem_set hs with h_ | h_; exact HJB.out s h_; rw [h_, HNOW.out]; exact transfer_lt HNF.out row HJB.out)⟩, ⟨i0.out⟩⟩))
 | succ gO => (
 have c1 : decide (0 ≤ y) = true := decide_eq_true (by omega)
 have hyn : y = (gO : Int) := by omega
 have hOl : gO < z.f0.length := hgz
 have p0 : 0 ≤ y := by omega
 have q0 : y < (z.f0.length : Int) := by omega
 obtain ⟨adI, A6, c6, e, b7, a1, b8, b9, c3, c4, c8, a0, c9⟩ := at_T71 HCI.out y p0 q0; cases e; obtain ⟨p, hp⟩ : ∃ p, p = rd_T71 z.f0 y := ⟨_, rfl⟩; rw [← hp] at b7 a1 b8 b9 c3 c4 c8 a0 c9
 have hpl : p = z.f0[gO] := by rw [hp, hyn]; simp [rd_T71, hOl]
 have HDR : Aside0 ((z.f0.drop gO).foldr (fun x s => back s x) s1 = back ((z.f0.drop (gO + 1)).foldr (fun x s => back s x) s1) p) := ⟨by rw [List.drop_eq_getElem_cons hOl, List.foldr_cons, ← hpl]⟩
 have HGD : Aside0 (Good p) := ⟨fine_good HMM.out (HNF.out.1 p (by rw [hpl]; exact List.getElem_mem _))⟩
 have n7 := a_ c9; have n8 := a_ a0; have HBw := a_ (below_then HBx.out HBx.out.size HBz.out); replace b7 := cell_old b7 HBw.out; replace a1 := cell_old a1 HBw.out; replace b8 := cell_old b8 HBw.out; replace b9 := cell_old b9 HBw.out; replace c3 := cell_old c3 HBw.out; replace c4 := cell_old c4 HBw.out; replace c8 := cell_old c8 HBw.out; replace p0 := eq_true p0; replace q0 := eq_true q0; obtain ⟨r7, r8, r9, s2, s3⟩ := q_c5 BKz.out; obtain ⟨sO, hsO⟩ : ∃ sO, sO = (z.f0.drop (gO + 1)).foldr (fun x s => back s x) s1 := ⟨_, rfl⟩
 rw [← hsO] at hSz HDR
 have HSO := a_ hSz; have HHO := a_ hgz; clear hy hgz hSz hyn hp hpl c9 a0 hOl hsO HSz; go_wp2_with (first | (go_at_call 53; (with_reducible refine (backC1 _ gA sO p A6 c6 HSO.out ?h6 n8.out HGD.out).mono ?_); (case h6 => exact fun w' hg => Kd.C_below n7.out (below_then HBx.out HBx.out.size (below_grown HBz.out hg HGA.out))); rintro e t6 ⟨rfl, b2, b3⟩; have i1 := a_ b3; have i2 := a_ (grown_then HGz.out b2); clear b2 b3))
 go_roundg gO
 case measure => omega
 case rel => exact ⟨wrap64 (y - 1), rfl, ⟨by rw [HY.out, wrap64_id (by omega) (by have := HNLEN.out; have := HHO.out; omega)]; omega, Nat.le_of_lt HHO.out, by rw [HDR.out]; exact i1.out⟩, ⟨i2.out⟩⟩))))))))
end Go.Proofs.YtefhpdcafdhcaaaDoor.S
end
