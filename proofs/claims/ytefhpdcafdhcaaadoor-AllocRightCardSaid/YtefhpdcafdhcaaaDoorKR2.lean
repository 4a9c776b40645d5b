/- Texts of this claim, cut down to what its theorem uses and laid end to end (wip/shake.py). -/
import Derived.ArgAppend
import Derived.Below
import Derived.BigQuiet
import Derived.ChangeOld
import Derived.ChangeVars
import Derived.Deep.AppendLies
import Derived.Deep.CutBlock
import Derived.Deep.DeepCutAuto
import Derived.Deep.Draws
import Derived.Deep.LoopGhost
import Derived.Deep.MidRow
import Derived.Deep.OwnRows
import Derived.Deep.QuietTactic
import Derived.Deep.RegionHeld3
import Derived.Deep.Slices
import Derived.KernelRfl
import Derived.LaidLaws
import Derived.LaidMore
import Derived.Laws.Bits64b
import Derived.Laws.BitsLemmas
import Derived.Laws.BytesArg
import Derived.Laws.CopyRow
import Derived.Laws.IdiomCopy
import Derived.Laws.MakeOwn
import Derived.Laws.OwnMore
import Derived.Laws.Rows
import Derived.Laws.Slices
import Derived.Laws.StructEq
import Derived.Lay
import Derived.Lib.AppendStr
import Derived.Lib.ConvBytes
import Derived.Lib.LaidTab
import Derived.Maps.AppendAt
import Derived.Maps.OwnOps
import Derived.Maps.OwnSet
import Derived.OpenShut
import Derived.OrdersHeld
import Derived.OwnWalk
import Derived.ProofKit
import Derived.RowKit
import Derived.RowKit3
import Derived.SevenTiedAt
import Derived.Shelf.Strings.Fields
import Derived.ShutString
import Derived.SizedLaws
import Derived.Stop.Joined
import Derived.StringKeys
import Derived.Tactics
import Derived.Test.YtefhpdcafdhcaaaDoorCards
import Derived.Test.YtefhpdcafdhcaaaDoorProg
import Derived.Test.YtefhpdcafdhcaaaDoorRows
import Derived.Test.YtefhpdcafdhcaaaDoorTie
import Derived.WalkKit
import Derived.WideLaws
import Derived.Test.YtefhpdcafdhcaaaDoorKR1
set_option maxHeartbeats 16000000
set_option maxRecDepth 100000
set_option exponentiation.threshold 3000
section
namespace Go.Proofs.YtefhpdcafdhcaaaDoor.A
open Go.RowKit Go.Proofs.YtefhpdcafdhcaaaDoorW.PrintWords Go.Proofs.YtefhpdcafdhcaaaDoorW.PrintLast Go.Proofs.YtefhpdcafdhcaaaDoorW.PrintMore
set_option linter.unusedVariables false
set_option linter.unusedSimpArgs false
def r6_ends.l0 : Nat → List Int → Int → ByteArray → List (S83) → List (S85) → Int → List (S69) → List (S71) → Int → Int → Int → Int → Option (Bool)
 | 0, _, _, _, _, _, _, _, _, _, _, _, _ => none
 | k + 1, G, F, B, C, D, q, y, E, l, b, z, p => if F < (G.length : Int) then (if 0 ≤ F then (if (rd G F) < 1 then (some false) else (if (rd G F) ≥ (y.length : Int) then (some false) else (r6_ends.l0 k G (wrap64 (F + 1)) B C D q y E l b z p))) else (none)) else (if l = 0 then (if b = 0 then (some (p == 0)) else (some false)) else (if l = 1 then (if b ≥ 0 then (some (decide (b < q))) else (some false)) else (if l = 2 then (if b = 0 then (if z = 0 then (some (p == 0)) else (some false)) else (some false)) else (some false))))
def r6_ends.f (k : Nat) (z : ByteArray) (B : List (S83)) (C : List (S85)) (D : Int) (E : List (S69)) (b : List (S71)) (l : Int) (p : Int) (q : Int) (y : Int) : Option (Bool) := (r6_Next.f b l p q y).bind fun F => (r6_ends.l0 k F 0 z B C D E b l p q y)
theorem r6_ends.calls (k : Nat) (V : ByteArray) (a2 : Option Addr) (a3 : Nat) (N : List (S83)) (a4 : Option Addr) (a5 : Nat) (O : List (S85)) (X : Int) (a6 : Option Addr) (a7 : Nat) (S : List (S69)) (a8 : Option Addr) (a9 : Nat) (F : List (S71)) (G : Int) (I : Int) (J : Int) (L : Int) (r : Bool) (w : World) (d3 : Kd.C k83 w a2 N.length N) (d4 : N.length ≤ a3) (d5 : Kd.C k85 w a4 O.length O) (d6 : O.length ≤ a5) (d7 : Kd.C k69 w a6 S.length S) (d8 : S.length ≤ a7) (d9 : Kd.C k71 w a8 F.length F) (e0 : F.length ≤ a9) (h : r6_ends.f k V N O X S F G I J L = some r) :
  Calls Tryd.prog 46 #[.agg #[.string V, .slice a2 N.length a3, .slice a4 O.length a5, .int .i64 X, .slice a6 S.length a7], .agg #[.slice a8 F.length a9, .int .i64 G, .int .i64 I, .int .i64 J, .int .i64 L]] w fun e w' => e = .returned (.bool r) ∧ Below w.heap.size w w' := by
 have y4 := Tryd.underlying26; have y5 := Tryd.underlying69; have v1 := a_ d3; have v2 := a_ d4; clear d3 d4; have v3 := a_ d5; have v4 := a_ d6; clear d5 d6; have v5 := a_ d7; have v7 := a_ d8; clear d7 d8; have c4 := a_ d9; have c6 := a_ e0; clear d9 e0; have E := a_ (Below.refl w.heap.size w); have H : ((r6_Next.f F G I J L).bind fun M => (r6_ends.l0 k M 0 V N O X S F G I J L)) = some r := h
 clear h; replace H := Option.bind_eq_some_iff.mp H; obtain ⟨M, e8, H⟩ := H; have A3 := a_ e8; clear e8; have H' := a_ H
 clear H; go_enter Tryd.func46, Tryd.ntmps46
 go_wp2_with (first | ((with_reducible refine gd_ 2 rfl ?_); (try (refine gate_guard (by rfl) ?_; dsimp only)); refine q_box 2 26 #[.string V, .slice a2 N.length a3, .slice a4 O.length a5, .int .i64 X, .slice a6 S.length a7] ?_; intro c8 hg w4 D hb; have q := a_ (D); have e1 := a_ ((q_ge E.out hg)); have p := a_ ((q_ge E.out hg)); replace E := a_ (q_st E.out hb); clear hb D hg) | ((with_reducible refine gd_ 3 rfl ?_); (try (refine gate_guard (by rfl) ?_; dsimp only)); refine q_box 3 69 #[.slice a8 F.length a9, .int .i64 G, .int .i64 I, .int .i64 J, .int .i64 L] ?_; intro c9 hg w5 D hb; have y := a_ (D); have e2 := a_ ((q_ge1 E.out hg p.out)); have z := a_ ((q_ge1 E.out hg p.out)); have b := a_ ((q_ne q.out hg)); have l := a_ ((q_en q.out hg)); replace q := a_ (q_bk q.out hb); replace E := a_ (q_st1 E.out hb p.out); clear hb D hg; have e6 := l.out; have e7 := b.out; obtain ⟨b0, b1, b2, b3, b4, b5, b6, b7, b8, b9⟩ := q_cf5 y.out) | (go_at_call 56; (with_reducible refine (r6_Next.calls _ _ F G I J L M _ (q_C (Kd.C_below c4.out E.out)) c6.out A3.out).mono ?_); rintro e w8 ⟨e3, rfl, d2, hb⟩; have d0 := a_ (Kd.R_lower d2 (below_size (q_w2 E.out p.out z.out))); replace q := a_ (q_bk q.out hb); replace y := a_ (q_bk y.out hb); replace E := a_ (q_st2 E.out hb p.out z.out); clear hb d2))
 repeat (go_quiet (first | ((with_reducible refine gd_ 2 rfl ?_); (try (refine gate_guard (by rfl) ?_; dsimp only)); refine q_box 2 26 #[.string V, .slice a2 N.length a3, .slice a4 O.length a5, .int .i64 X, .slice a6 S.length a7] ?_; intro c8 hg w4 D hb; have q := a_ (D); have e1 := a_ ((q_ge E.out hg)); have p := a_ ((q_ge E.out hg)); replace E := a_ (q_st E.out hb); clear hb D hg) | ((with_reducible refine gd_ 3 rfl ?_); (try (refine gate_guard (by rfl) ?_; dsimp only)); refine q_box 3 69 #[.slice a8 F.length a9, .int .i64 G, .int .i64 I, .int .i64 J, .int .i64 L] ?_; intro c9 hg w5 D hb; have y := a_ (D); have e2 := a_ ((q_ge1 E.out hg p.out)); have z := a_ ((q_ge1 E.out hg p.out)); have b := a_ ((q_ne q.out hg)); have l := a_ ((q_en q.out hg)); replace q := a_ (q_bk q.out hb); replace E := a_ (q_st1 E.out hb p.out); clear hb D hg; have e6 := l.out; have e7 := b.out; obtain ⟨b0, b1, b2, b3, b4, b5, b6, b7, b8, b9⟩ := q_cf5 y.out) | (go_at_call 56; (with_reducible refine (r6_Next.calls _ _ F G I J L M _ (q_C (Kd.C_below c4.out E.out)) c6.out A3.out).mono ?_); rintro e w8 ⟨e3, rfl, d2, hb⟩; have d0 := a_ (Kd.R_lower d2 (below_size (q_w2 E.out p.out z.out))); replace q := a_ (q_bk q.out hb); replace y := a_ (q_bk y.out hb); replace E := a_ (q_st2 E.out hb p.out z.out))); try go_wp2_with (first | ((with_reducible refine gd_ 2 rfl ?_); (try (refine gate_guard (by rfl) ?_; dsimp only)); refine q_box 2 26 #[.string V, .slice a2 N.length a3, .slice a4 O.length a5, .int .i64 X, .slice a6 S.length a7] ?_; intro c8 hg w4 D hb; have q := a_ (D); have e1 := a_ ((q_ge E.out hg)); have p := a_ ((q_ge E.out hg)); replace E := a_ (q_st E.out hb); clear hb D hg) | ((with_reducible refine gd_ 3 rfl ?_); (try (refine gate_guard (by rfl) ?_; dsimp only)); refine q_box 3 69 #[.slice a8 F.length a9, .int .i64 G, .int .i64 I, .int .i64 J, .int .i64 L] ?_; intro c9 hg w5 D hb; have y := a_ (D); have e2 := a_ ((q_ge1 E.out hg p.out)); have z := a_ ((q_ge1 E.out hg p.out)); have b := a_ ((q_ne q.out hg)); have l := a_ ((q_en q.out hg)); replace q := a_ (q_bk q.out hb); replace E := a_ (q_st1 E.out hb p.out); clear hb D hg; have e6 := l.out; have e7 := b.out; obtain ⟨b0, b1, b2, b3, b4, b5, b6, b7, b8, b9⟩ := q_cf5 y.out) | (go_at_call 56; (with_reducible refine (r6_Next.calls _ _ F G I J L M _ (q_C (Kd.C_below c4.out E.out)) c6.out A3.out).mono ?_); rintro e w8 ⟨e3, rfl, d2, hb⟩; have d0 := a_ (Kd.R_lower d2 (below_size (q_w2 E.out p.out z.out))); replace q := a_ (q_bk q.out hb); replace y := a_ (q_bk y.out hb); replace E := a_ (q_st2 E.out hb p.out z.out))))
 go_loopg [6] k (fun kq v6 w' => ∃ (B : Int), v6 = .int .i64 B ∧ Aside0 (r6_ends.l0 kq M B V N O X S F G I J L = some r) ∧ Aside0 (kq ≤ k) ∧ Aside0 (Kd.R (Kd.int .i64) 3 w' w.heap.size (fun _ => True) e3 M) ∧ Aside0 (w'.heap[c8]? = some (.cells #[.string V, (.slice a2 N.length a3), (.slice a4 O.length a5), .int .i64 X, (.slice a6 S.length a7)] 26 (0, 0))) ∧ Aside0 (w'.heap[c9]? = some (.cells #[(.slice a8 F.length a9), .int .i64 G, .int .i64 I, .int .i64 J, .int .i64 L] 69 (0, 0))) ∧ Aside0 (Below w.heap.size w w'))
 case atStart => exact ⟨(0), q_r, H', ⟨Nat.le_refl _⟩, ⟨by (with_reducible repeat (first | apply Kd.R_alloc | apply Kd.R_drewN | apply Kd.R_drew)); exact d0.out⟩, ⟨q_k q.out⟩, ⟨q_k y.out⟩, ⟨q_w2 E.out p.out z.out⟩⟩
 case round => (
 clear H'; clear b0 b1 b2 b3 b4 b5 b6 b7 b8 b9; obtain ⟨B, rfl, HA, e9, HO_5, q, y, E⟩ := hrel; cases gk with
 | zero => exact absurd HA.out (by simp [r6_ends.l0])
 | succ k1 => (
 have H := HA.out; clear HA; simp only [r6_ends.l0] at H
 rcases q_ite H with ⟨c9b0, H⟩ | ⟨c9b0, H⟩
 {
 replace H := q_gD H; obtain ⟨-, c10b0, H⟩ := H; rcases q_ite H with ⟨c11b0, H⟩ | ⟨c11b0, H⟩
 {
 obtain rfl := Option.some.inj H; obtain ⟨y9, z0, f0⟩ := Kd.R_slice HO_5.out; subst f0; have T : 0 ≤ (B : Int) := q_d
 have U : B < (M.length : Int) := q_d
 obtain ⟨c0, c1, c3⟩ := Kd.at_int (Kd.R_reads' HO_5.out).2.2 B T U; cases c1; replace T := eq_true T; replace U := eq_true U; go_wp2
 repeat (go_quiet (fail); try go_wp2)
 go_ret
 exact ⟨q_e, q_w2 E.out p.out z.out⟩}
 {
 rcases q_ite H with ⟨c13b0, H⟩ | ⟨c13b0, H⟩
 {
 obtain rfl := Option.some.inj H; obtain ⟨z1, z2, f1⟩ := Kd.R_slice HO_5.out; subst f1; have T : 0 ≤ (B : Int) := q_d
 have U : B < (M.length : Int) := q_d
 obtain ⟨c0, c1, c3⟩ := Kd.at_int (Kd.R_reads' HO_5.out).2.2 B T U; cases c1; replace T := eq_true T; replace U := eq_true U; have a0 : 0 ≤ (B : Int) := q_d
 have a1 : B < (M.length : Int) := q_d
 obtain ⟨d1, e4, e5⟩ := Kd.at_int (Kd.R_reads' HO_5.out).2.2 B a0 a1; obtain rfl : c0 = d1 := (by injection e4)
 replace a0 := eq_true a0; replace a1 := eq_true a1; have v9 := b.out; have w2 := l.out; obtain ⟨f2, f3, f4, f5, f6, f7, f8, f9, g0, g1⟩ := q_cf5 q.out; go_wp2
 repeat (go_quiet (fail); try go_wp2)
 go_ret
 exact ⟨q_e, q_w2 E.out p.out z.out⟩}
 {
 have H' := a_ H
 clear H; obtain ⟨z3, z4, g2⟩ := Kd.R_slice HO_5.out; subst g2; have T : 0 ≤ (B : Int) := q_d
 have U : B < (M.length : Int) := q_d
 obtain ⟨c0, c1, c3⟩ := Kd.at_int (Kd.R_reads' HO_5.out).2.2 B T U; cases c1; replace T := eq_true T; replace U := eq_true U; have a0 : 0 ≤ (B : Int) := q_d
 have a1 : B < (M.length : Int) := q_d
 obtain ⟨d1, e4, e5⟩ := Kd.at_int (Kd.R_reads' HO_5.out).2.2 B a0 a1; obtain rfl : c0 = d1 := (by injection e4)
 replace a0 := eq_true a0; replace a1 := eq_true a1; have w3 := b.out; have w6 := l.out; obtain ⟨g3, g4, g5, g6, g7, g8, g9, i0, i1, i2⟩ := q_cf5 q.out; go_wp2
 repeat (go_quiet (fail); try go_wp2)
 go_roundg k1
 case measure => have := e9.out; omega
 case rel => exact ⟨(wrap64 (B + 1)), q_r, H', ⟨by have := e9.out; omega⟩, ⟨by (with_reducible repeat (first | apply Kd.R_alloc | apply Kd.R_drewN | apply Kd.R_drew)); exact HO_5.out⟩, ⟨q_k q.out⟩, ⟨q_k y.out⟩, ⟨q_w2 E.out p.out z.out⟩⟩}}}
 {
 replace H := q_iBN H; rcases H with ⟨-, c20b0, c20b1, H⟩ | ⟨C0, c20b0, c20b1, H⟩
 {
 replace H := q_iBN H; rcases H with ⟨-, c21b0, c21b1, H⟩ | ⟨C1, c21b0, c21b1, H⟩
 {
 obtain rfl := Option.some.inj H; obtain ⟨z5, z6, i3⟩ := Kd.R_slice HO_5.out; subst i3; have w7 := l.out; have w9 := b.out; obtain ⟨i4, i5, i6, i7, i8, i9, j3, j5, j6, j7⟩ := q_cf5 y.out; go_wp2
 repeat (go_quiet (fail); try go_wp2)
 go_ret
 exact ⟨q_e, q_w2 E.out p.out z.out⟩}
 {
 obtain rfl := Option.some.inj H; obtain ⟨z7, z8, j8⟩ := Kd.R_slice HO_5.out; subst j8; have x0 := l.out; have x1 := b.out; obtain ⟨j9, k0, k2, k3, k4, k5, k6, k7, k8, k9⟩ := q_cf5 y.out; go_wp2
 repeat (go_quiet (fail); try go_wp2)
 go_ret
 exact ⟨q_e, q_w2 E.out p.out z.out⟩}}
 {
 replace H := q_iBN H; rcases H with ⟨-, c28b0, c28b1, H⟩ | ⟨C2, c28b0, c28b1, H⟩
 {
 rcases q_ite H with ⟨c29b0, H⟩ | ⟨c29b0, H⟩
 {
 obtain rfl := Option.some.inj H; obtain ⟨z9, A0, l4⟩ := Kd.R_slice HO_5.out; subst l4; have x2 := l.out; have x3 := b.out; obtain ⟨l5, l6, l7, l8, l9, n0, n1, n2, n3, n4⟩ := q_cf5 y.out; obtain ⟨n5, n6, n7, n8, n9, o0, o1, o2, o3, o4⟩ := q_cf5 q.out; go_wp2
 repeat (go_quiet (fail); try go_wp2)
 go_ret
 exact ⟨q_e, q_w2 E.out p.out z.out⟩}
 {
 obtain rfl := Option.some.inj H; obtain ⟨A1, A2, o5⟩ := Kd.R_slice HO_5.out; subst o5; have x4 := l.out; have x5 := b.out; obtain ⟨o6, o7, o8, o9, p0, p1, p2, p3, p4, p5⟩ := q_cf5 y.out; go_wp2
 repeat (go_quiet (fail); try go_wp2)
 go_ret
 exact ⟨q_e, q_w2 E.out p.out z.out⟩}}
 {
 replace H := q_iBN H; rcases H with ⟨-, c37b0, c37b1, H⟩ | ⟨C3, c37b0, c37b1, H⟩
 {
 replace H := q_iBN H; rcases H with ⟨-, c38b0, c38b1, H⟩ | ⟨C4, c38b0, c38b1, H⟩
 {
 replace H := q_iBN H; rcases H with ⟨-, c39b0, c39b1, H⟩ | ⟨C5, c39b0, c39b1, H⟩
 {
 obtain rfl := Option.some.inj H; obtain ⟨A4, A5, p6⟩ := Kd.R_slice HO_5.out; subst p6; have x6 := l.out; have x7 := b.out; obtain ⟨p7, p8, p9, q0, q1, q2, q3, q4, q5, q6⟩ := q_cf5 y.out; go_wp2
 repeat (go_quiet (fail); try go_wp2)
 go_ret
 exact ⟨q_e, q_w2 E.out p.out z.out⟩}
 {
 obtain rfl := Option.some.inj H; obtain ⟨A6, A7, q7⟩ := Kd.R_slice HO_5.out; subst q7; have x8 := l.out; have x9 := b.out; obtain ⟨q8, q9, r0, r1, r2, r3, r4, r5, r6, r7⟩ := q_cf5 y.out; go_wp2
 repeat (go_quiet (fail); try go_wp2)
 go_ret
 exact ⟨q_e, q_w2 E.out p.out z.out⟩}}
 {
 obtain rfl := Option.some.inj H; obtain ⟨A8, A9, r8⟩ := Kd.R_slice HO_5.out; subst r8; have y0 := l.out; have y1 := b.out; obtain ⟨r9, s0, s1, s2, s3, s4, s5, s6, s7, s8⟩ := q_cf5 y.out; go_wp2
 repeat (go_quiet (fail); try go_wp2)
 go_ret
 exact ⟨q_e, q_w2 E.out p.out z.out⟩}}
 {
 obtain rfl := Option.some.inj H; obtain ⟨B2, B3, s9⟩ := Kd.R_slice HO_5.out; subst s9; have y2 := l.out; have y3 := b.out; obtain ⟨t0, t1, t2, t3, t4, t5, t6, t7, t8, t9⟩ := q_cf5 y.out; go_wp2
 repeat (go_quiet (fail); try go_wp2)
 go_ret
 exact ⟨q_e, q_w2 E.out p.out z.out⟩}}}}))
mutual
def r6_reached.l0 : Nat → List Bool → List Int → ByteArray → List (S83) → List (S85) → Int → List (S69) → Option (List Bool)
 | 0, _, _, _, _, _, _, _ => none
 | k + 1, C, z, l, p, q, y, b => if (z.length : Int) > 0 then (if 0 < (z.length : Int) then (if 0 ≤ (rd z 0) then (if (rd z 0) < (b.length : Int) then ((r6_Next.f ((rd_T69 b (rd z 0)).f0) ((rd_T69 b (rd z 0)).f1) ((rd_T69 b (rd z 0)).f2) ((rd_T69 b (rd z 0)).f3) ((rd_T69 b (rd z 0)).f4)).bind fun E => (if 1 ≤ (z.length : Int) then (r6_reached.l1 k C (z.drop (1 : Int).toNat) E 0 l p q y b) else (none))) else (none)) else (none)) else (none)) else (some C)
def r6_reached.l1 : Nat → List Bool → List Int → List Int → Int → ByteArray → List (S83) → List (S85) → Int → List (S69) → Option (List Bool)
 | 0, _, _, _, _, _, _, _, _, _ => none
 | k + 1, C, z, D, B, l, p, q, y, b => if B < (D.length : Int) then (if 0 ≤ B then (if 0 ≤ (rd D B) then (if (rd D B) < (C.length : Int) then (if (rdOf false C (rd D B) = true) then (r6_reached.l1 k C z D (wrap64 (B + 1)) l p q y b) else (if z.length < 17592186044416 then (r6_reached.l1 k (C.set ((rd D B) : Int).toNat true) (z ++ [rd D B]) D (wrap64 (B + 1)) l p q y b) else (none))) else (none)) else (none)) else (none)) else (r6_reached.l0 k C z l p q y b)
end
def r6_reached.f (k : Nat) (p : ByteArray) (q : List (S83)) (y : List (S85)) (z : Int) (b : List (S69)) : Option (List Bool) := if 0 ≤ (b.length : Int) then (if ((b.length : Int) : Int).toNat ≤ 281474976710656 then ((some (List.replicate ((b.length : Int) : Int).toNat false : List Bool)).bind fun l => (if 0 < (l.length : Int) then (r6_reached.l0 k (l.set (0 : Int).toNat true) (([0] : List Int)) p q y z b) else (none))) else (none)) else (none)
def r6_reached.T5 : Bool × List (List Nat × List Nat) := (true, [([], []), ([0], [0]), ([], []), ([2], [2]), ([3], [3]), ([1, 4], [1, 4]), ([5], [5]), ([6], [6]), ([7, 7, 0, 1, 2, 3, 4, 5, 6, 7], [7])])
def r6_reached.B5 : List Nat := [0, 1, 0, 4, 12, 31, 63, 127, 255]
theorem r6_reached.tab5 : rtab .any (opsOf Tryd.f48 5) = r6_reached.T5 := by kernel_rfl
theorem r6_reached.bits5 : waitsOk r6_reached.T5.2 r6_reached.B5 = true := by kernel_rfl
theorem r6_reached.calls (k : Nat) (I : ByteArray) (a7 : Option Addr) (a8 : Nat) (F : List (S83)) (a9 : Option Addr) (b0 : Nat) (G : List (S85)) (J : Int) (d1 : Option Addr) (b1 : Nat) (l : List (S69)) (r : List Bool) (w : World) (i0 : Kd.C k83 w a7 F.length F) (i1 : F.length ≤ a8) (i2 : Kd.C k85 w a9 G.length G) (i3 : G.length ≤ b0) (i4 : Kd.C k69 w d1 l.length l) (i5 : l.length ≤ b1) (h : r6_reached.f k I F G J l = some r) :
  Calls Tryd.prog 48 #[.agg #[.string I, .slice a7 F.length a8, .slice a9 G.length b0, .int .i64 J, .slice d1 l.length b1]] w fun e w' => ∃ r4 : Value, e = .returned (r4) ∧ Kd.R Kd.bool 4 w' w.heap.size (fun _ => True) r4 r ∧ Below w.heap.size w w' := by
 have w9 := Tryd.underlying26; have x0 := Tryd.underlying69; have v0 := a_ i0; have v1 := a_ i1; clear i0 i1; have v2 := a_ i2; have v3 := a_ i3; clear i2 i3; have p1 := a_ i4; have v5 := a_ i5; clear i4 i5; have T := a_ (Below.refl w.heap.size w); have H : (if 0 ≤ (l.length : Int) then (if ((l.length : Int) : Int).toNat ≤ 281474976710656 then ((some (List.replicate ((l.length : Int) : Int).toNat false : List Bool)).bind fun a0 => (if 0 < (a0.length : Int) then (r6_reached.l0 k (a0.set (0 : Int).toNat true) (([0] : List Int)) I F G J l) else (none))) else (none)) else (none)) = some r := h
 clear h; replace H := q_gED H; obtain ⟨-, c2b0, c2b1, H⟩ := H; replace H := q_gED H; obtain ⟨-, c3b0, c3b1, H⟩ := H; obtain ⟨a0, e2⟩ : ∃ y_ : List Bool, y_ = (List.replicate ((l.length : Int) : Int).toNat false) := ⟨_, rfl⟩; replace H : (if 0 < (a0.length : Int) then (r6_reached.l0 k (a0.set (0 : Int).toNat true) (([0] : List Int)) I F G J l) else (none)) = some r := q_rw e2 H
 have i6 := a_ e2; clear e2; replace H := q_gD H; obtain ⟨c4, c4b0, H⟩ := H; have c4b1 : decide (0 < a0.length) = true := decide_eq_true (by omega)
 clear c4; obtain ⟨f6, e3⟩ : ∃ y_ : List Bool, y_ = (a0.set (0 : Int).toNat true) := ⟨_, rfl⟩; replace H : (r6_reached.l0 k f6 (([0] : List Int)) I F G J l) = some r := q_rw e3 H
 have p2 := a_ e3; clear e3; obtain ⟨o6, e4⟩ : ∃ y_ : List Int, y_ = (([0] : List Int)) := ⟨_, rfl⟩; replace H : (r6_reached.l0 k f6 o6 I F G J l) = some r := q_rw e4 H
 have i7 := a_ e4; clear e4; have H' := a_ H
 clear H; go_enter Tryd.func48, Tryd.ntmps48
 go_wp2_with (first | ((with_reducible refine gd_ 1 rfl ?_); refine q_box 1 26 #[.string I, .slice a7 F.length a8, .slice a9 G.length b0, .int .i64 J, .slice d1 l.length b1] ?_; intro b2 hg w6 o7 hb; have q := a_ (o7); have v7 := a_ ((q_ge T.out hg)); have L := a_ ((q_ge T.out hg)); replace T := a_ (q_st T.out hb); clear hb o7 hg; obtain ⟨n3, n4, n5, n6, n7, n8, n9, o0, o1, o2⟩ := q_cf5 q.out) | ((with_reducible refine gd_ 10 rfl ?_); refine Kd.R_make Kd.bool _ 4 rfl (N := 10) rfl 37 _ _ rfl (l.length : Int) rfl rfl Tryd.underlying37 (.bool false) 1 info4 rfl (by decide) (by omega) false (ok := fun _ => True) (okp := fun _ => True) rfl (fun _ hk => hk) trivial (q_d) (Nat.le_trans (Nat.mul_le_mul_right _ (q_d : (l.length : Int).toNat ≤ 281474976710656)) (by omega)) (Below.refl _ _) (Nat.le_refl _) ?_; intro x1 w8 i9 hb hg_ hnew_; clear hg_ hnew_; (first | rw [← i6.out] at i9 | (simp only [Int.reduceToNat] at i9; rw [← i6.out] at i9)); have V := a_ (Kd.R_lower i9 (below_size (q_w1 T.out L.out))); replace q := a_ (q_bk q.out hb); replace T := a_ (q_st1 T.out hb L.out); clear hb i9; have p5 : 0 ≤ (0 : Int) := (by omega); have q5 : (0 : Int) < ((a0.length : Int) : Int) := q_d; have v8 : (0 < a0.length) = True := eq_true (by omega); obtain ⟨b5, g7, r5, r6, v9, y5, r7⟩ := Kd.R_form V.out (by omega); (first | cases r5 | (injection r5 with ea_ en_ ec_; (first | subst ea_ | (injection ea_ with ea_; subst ea_)); subst ec_; clear en_)); have r8 := a_ r6; have y6 := a_ r7; clear r6 v9 r7; obtain ⟨e5, j3⟩ := Kd.R_celln false V.out (0 : Int) p5 q5; (try rw [show ((0 : Int)).toNat = 0 from rfl] at e5); (try simp only [Nat.reduceMul, Nat.zero_mul, Nat.zero_add, Nat.reduceAdd] at e5); (try rw [show ((0 : Int)).toNat = 0 from rfl] at j3); (try simp only [Nat.reduceMul, Nat.zero_mul, Nat.zero_add, Nat.reduceAdd] at j3); replace p5 := eq_true p5; replace q5 := eq_true q5; obtain ⟨j5, j6⟩ := Kd.R_celln false V.out (0 : Int) (by omega) (q_d); (try simp only [Int.reduceToNat, Int.toNat_zero, Int.toNat_ofNat, Nat.reduceMul, Nat.zero_mul, Nat.zero_add] at j5 j6); (try rw [show ((0 : Int)).toNat = 0 from rfl] at j5); (try rw [show ((0 : Int)).toNat = 0 from rfl] at j6); have j7 := Kd.R_putg V.out (0 : Int) true) | ((with_reducible refine gate_store (t := 4) (p := 12) rfl ?_); refine store_event (t := 4) (p := 12) (v := ?vo_w11) (w1 := (w8.setCell ⟨b5, (0 : Int).toNat, none⟩ (.bool true))) ?hg ?ho ?hn ?hr ?_; (case ho => rfl); (case hg => rfl); (case hn => rfl); (case hr => first | (go_simp; done) | (go_simp; rfl)); intro p3 hw; have hg : w8.grownBy p3 (some b5) := (by rw [hw]; exact j7.2); have hp_ : Kd.R Kd.bool 4 p3 w.heap.size (fun _ => True) (.slice (some ⟨b5, 0, none⟩) a0.length g7) f6 := (by rw [hw, p2.out]; exact j7.1); clear j7; replace q := a_ (blk_grown (g := b2) (o := .cells #[.string I, .slice a7 F.length a8, .slice a9 G.length b0, .int .i64 J, .slice d1 l.length b1] 26 (0, 0)) (q_k q.out) hg (Kd.R_ne V.out q.out (by decide))); replace V := a_ (hp_); replace T := a_ ((by rw [hw]; exact below_set (T.out) r8.out : Below w.heap.size w p3)); clear hg hw hp_) | ((with_reducible refine gd_ 13 rfl ?_); refine Kd.R_lit (Kd.int .i64) _ 3 ?hg (N := 13) ?hd (xs := ([0] : List Int)) (inner := [.int .i64 0]) (ok := fun _ => True) (okp := fun _ => True) ?hr ?hp (fun _ hk => hk) trivial (Below.refl _ _) (Nat.le_refl _) (by simp) ?_; (case hd => rfl); (case hg => rfl); (case hr => first | (go_simp; done) | (go_simp; rfl)); (case hp => exact (Reps.one (show Kd.M (Kd.int .i64) _ _ _ 0 [.int .i64 0] from rfl) (Reps.none _ _))); intro x3 y7 d2 hb hg_ hnew_; clear hg_ hnew_; (first | rw [← i7.out] at d2 | (simp only [Int.reduceToNat] at d2; rw [← i7.out] at d2)); have p4 := a_ (Kd.R_lower d2 (below_size (q_w1 T.out L.out))); replace V := a_ (Kd.R_below (by (with_reducible repeat (first | apply Kd.R_alloc | apply Kd.R_drewN | apply Kd.R_drew)); exact V.out) hb); replace q := a_ (q_bk q.out hb); replace T := a_ (q_st1 T.out hb L.out); clear hb d2))
 go_loopg [4] k (fun kq v4 w' => ∃ (c8 : List Bool) (B : List Int), Aside0 (r6_reached.l0 kq c8 B I F G J l = some r) ∧ Aside0 (kq ≤ k) ∧ Aside0 (Kd.R Kd.bool 4 w' w.heap.size (fun _ => True) (.slice (some ⟨b5, 0, none⟩) a0.length g7) c8) ∧ Aside0 (Kd.Q (Kd.int .i64) 3 w' w.heap.size (fun _ => True) v4 B) ∧ Aside0 (w'.heap[b2]? = some (.cells #[.string I, (.slice a7 F.length a8), (.slice a9 G.length b0), .int .i64 J, (.slice d1 l.length b1)] 26 (0, 0))) ∧ Aside0 (Below w.heap.size w w'))
 case atStart => exact ⟨(f6), (o6), H', ⟨Nat.le_refl _⟩, ⟨by (with_reducible repeat (first | apply Kd.R_alloc | apply Kd.R_drewN | apply Kd.R_drew)); exact V.out⟩, ⟨Kd.Q_of_R (by (with_reducible repeat (first | apply Kd.R_alloc | apply Kd.R_drewN | apply Kd.R_drew)); exact p4.out)⟩, ⟨q_k q.out⟩, ⟨q_w1 T.out L.out⟩⟩
 case round => (
 clear H'; clear c2b0 c2b1 c3b0 c3b1 c4b0 c4b1 p5 q5 v8 n3 n4 n5 n6 n7 n8 n9 o0 o1 o2 e5; obtain ⟨c8, B, HA, g8, HO_3, HO_4, q, T⟩ := hrel; have z := (Kd.R_reads' HO_3.out).1; rw [z] at HO_3; (try simp only [z])
 (try simp only [z] at q)
 (try simp only [z] at HO_4)
 cases gk with
 | zero => exact absurd HA.out (by simp [r6_reached.l0])
 | succ k1 => (
 have H := HA.out; clear HA; simp only [r6_reached.l0] at H
 replace H := q_iD H; rcases H with ⟨p6, c14b0, H⟩ | ⟨p6, c14b0, H⟩
 {
 have c14b7 := c14b0; (try simp only [z] at c14b7)
 have c14b1 : decide (0 < B.length) = true := decide_eq_true (by omega)
 clear p6; replace H := q_gD H; obtain ⟨w3, c15b0, H⟩ := H; have c15b7 := c15b0; (try simp only [z] at c15b7)
 have c15b1 : decide (0 < B.length) = true := decide_eq_true (by omega)
 clear w3; replace H := q_gD H; obtain ⟨-, c16b0, H⟩ := H; replace H := q_gD H; obtain ⟨-, c17b0, H⟩ := H; replace H := Option.bind_eq_some_iff.mp H; obtain ⟨D, o8, H⟩ := H; have w4 := a_ o8; clear o8; replace H := q_gED H; obtain ⟨-, c19b0, c19b1, H⟩ := H; obtain ⟨b6, e6⟩ : ∃ y_ : List Int, y_ = (B.drop (1 : Int).toNat) := ⟨_, rfl⟩; replace H : (r6_reached.l1 k1 c8 b6 D 0 I F G J l) = some r := q_rw e6 H
 have j8 := a_ e6; clear e6; have H' := a_ H
 clear H; obtain ⟨x4, f7, r9, _⟩ := Kd.Q_slice HO_4.out; subst r9; try go_wp2
 have j9 := a_ (Kd.R_drew HO_3.out); have k0 := a_ (Kd.Q_drew HO_4.out); have k3 := a_ (blk_drew q.out); have k4 := a_ (below_drew1 T.out); clear HO_3 HO_4 q T; have HO_3 := j9; have HO_4 := k0; have q := k3; have T := k4; clear j9 k0 k3 k4; have f8 : 0 ≤ (0 : Int) := (by omega)
 have f9 : 0 < (B.length : Int) := q_d
 obtain ⟨b3, s0, a1⟩ := Kd.at_int (Kd.Q_reads' HO_4.out).2.2 0 f8 f9; cases s0; have w5 : (0 < B.length) = True := eq_true (by omega)
 (try rw [show ((0 : Int)).toNat = 0 from rfl] at a1)
 (try rw [Addr.add_zero'] at a1)
 replace f8 := eq_true f8; replace f9 := eq_true f9; have g0 : 0 ≤ ((rd B 0) : Int) := q_d
 have g1 : (rd B 0) < (l.length : Int) := q_d
 obtain ⟨b7, g2, g3, s1, a2, a3, a4, a5, a6, d3, d4⟩ := at_T69 p1.out (rd B 0) g0 g1; have d5 := a6; have d6 := a5; have d7 := a4; have d8 := a3; have d9 := a2; cases s1; replace a2 := q_kc T.out a2; replace a3 := q_kc T.out a3; replace a4 := q_kc T.out a4; replace a5 := q_kc T.out a5; replace a6 := q_kc T.out a6; have e0 := a_ d4; have k5 := a_ d3; clear d4 d3; replace g0 := eq_true g0; replace g1 := eq_true g1; refine q_s 9 (S := fun w' => cg5 w' b2 (.string I) (.slice a7 F.length a8) (.slice a9 G.length b0) (.int .i64 J) (.slice (some b7) l.length b1) (w'.cell? b3 = some (.int .i64 (rd B 0)) ∧ cp5_ w' (b7.add (((rd B 0)).toNat * 5)) (.slice g2 ((rd_T69 l (rd B 0)).f0).length g3) (.int .i64 ((rd_T69 l (rd B 0)).f1)) (.int .i64 ((rd_T69 l (rd B 0)).f2)) (.int .i64 ((rd_T69 l (rd B 0)).f3)) (.int .i64 ((rd_T69 l (rd B 0)).f4)))) (q_g5 q.out ⟨a1, (q_kc T.out d9), (q_kc T.out d8), (q_kc T.out d7), (q_kc T.out d6), (q_kc T.out d5)⟩) (fun b4 => ?_); refine with_tabW r6_reached.tab5 r6_reached.bits5 (fun c6 p7 => ?_)
 generalize wr.drew = y8 at HO_3 HO_4 q T e0 a1 a2 a3 a4 a5 a6 b4 ⊢
 refine qv_ 0 c6 ?_
 refine qv_ 2 c6 ?_
 refine qv_ 3 c6 ?_
 refine qt11_ 1 c6 p7 b4 ?_
 refine qt11_ 4 c6 p7 b4 ?_
 refine qv_ 5 c6 ?_
 refine qt11_ 6 c6 p7 b4 ?_
 refine q_o 7 c6 (fun K hK => ?_)
 refine q_go #[.agg #[.slice g2 ((rd_T69 l (rd B 0)).f0).length g3, .int .i64 ((rd_T69 l (rd B 0)).f1), .int .i64 ((rd_T69 l (rd B 0)).f2), .int .i64 ((rd_T69 l (rd B 0)).f3), .int .i64 ((rd_T69 l (rd B 0)).f4)]] Tryd.func56 rfl ?_
 with_reducible refine (r6_Next.calls _ _ ((rd_T69 l (rd B 0)).f0) ((rd_T69 l (rd B 0)).f1) ((rd_T69 l (rd B 0)).f2) ((rd_T69 l (rd B 0)).f3) ((rd_T69 l (rd B 0)).f4) D _ (q_C (Kd.C_below e0.out T.out)) k5.out w4.out).mono ?_
 rintro e w7 ⟨g4, rfl, p8, hb⟩
 have s2 := q_kc hb (b4.2.2.2.2.2.1); refine ⟨_, rfl, ?_⟩
 have c9 := a_ (Kd.R_lower (Kd.R_new' p8 (Kd.Q_lt (by (with_reducible repeat (first | apply Kd.Q_alloc | apply Kd.Q_drewN | apply Kd.Q_drew)); exact HO_4.out))) (below_size (q_w1 T.out L.out))); replace HO_3 := a_ (Kd.R_below (by (with_reducible repeat (first | apply Kd.R_alloc | apply Kd.R_drewN | apply Kd.R_drew)); exact HO_3.out) hb); replace HO_4 := a_ (Kd.Q_elder' (by (with_reducible repeat (first | apply Kd.Q_alloc | apply Kd.Q_drewN | apply Kd.Q_drew)); exact HO_4.out) (Kd.R_base p8) hb); replace q := a_ (q_bk q.out hb); replace T := a_ (q_st1 T.out hb L.out); (clear hb)
 (clear p8)
 refine q_nk hK.out (q_g5 q.out ⟨s2, (q_kc T.out d9), (q_kc T.out d8), (q_kc T.out d7), (q_kc T.out d6), (q_kc T.out d5)⟩) (fun b4 => ?_)
 clear hK K
 refine qv_ 8 c6 ?_
 refine done_ (done_of c6.out (by kernel_rfl)) ?_
 have n_ := a_ (Kd.Q_mono (ok' := (fun k_ => some k_ ≠ (g4 : Value).ownBlock)) HO_4.out (fun k_ hk => hk.2))
 clear HO_4; have HO_4 := n_; clear n_; have o3 : (1 : Int) ≤ ((B.length : Int) : Int) := q_d
 obtain ⟨x5, k6, _, k7, _⟩ := info_parts info3; have o4 := cut_from (P := Tryd.prog) 27 3 .i64 Tryd.underlying27 k6 1 k7 (some b3) B.length f7 1 (by omega) o3
 have e1 := Kd.Q_drop (k := (1 : Int).toNat) HO_4.out (by omega)
 obtain ⟨p9, g5⟩ : ∃ A1, A1 = (if f7 = (1 : Int).toNat then (some b3) else ((some b3) : Option Addr).map (·.add ((1 : Int).toNat * 1))) := ⟨_, rfl⟩
 obtain ⟨q0, k8⟩ : ∃ c1, c1 = f7 - (1 : Int).toNat := ⟨_, rfl⟩; have k9 : b6.length = B.length - (1 : Int).toNat := (by rw [j8.out, List.length_drop])
 rw [← j8.out] at e1; rw [← k9, ← g5, ← k8] at o4; replace e1 : Kd.Q (Kd.int .i64) 3 w7 w.heap.size (fun k_ => some k_ ≠ (g4 : Value).ownBlock) (.slice p9 b6.length q0) b6 := (by rw [g5, k8, k9]; exact e1)
 have s3 : Aside0 ((Value.slice p9 b6.length q0).ownBlock = (.slice (some b3) B.length f7 : Value).ownBlock) := ⟨by rw [g5]; split <;> (cases ((some b3) : Option Addr) <;> rfl)⟩
 clear k9 k6 k7 HO_4 g5 k8; have q1 := a_ e1; clear e1; replace o3 := eq_true o3; have n_ := a_ (Kd.R_mono (ok' := fun k_ => (True ∧ some k_ ≠ (.slice p9 b6.length q0 : Value).ownBlock)) c9.out (fun k_ hk => ⟨trivial, (by rw [s3.out]; exact hk.2)⟩))
 clear c9; have c9 := n_; clear n_; try go_wp2
 go_loopg [4, 6] k1 (fun kq v4 v6 w' => ∃ (U : List Bool) (X : List Int) (y : Int), v6 = .int .i64 y ∧ Aside0 (r6_reached.l1 kq U X D y I F G J l = some r) ∧ Aside0 (kq ≤ k1) ∧ Aside0 (Kd.R Kd.bool 4 w' w.heap.size (fun _ => True) (.slice (some ⟨b5, 0, none⟩) c8.length g7) U) ∧ Aside0 (Kd.Q (Kd.int .i64) 3 w' w.heap.size (fun k_ => some k_ ≠ (g4 : Value).ownBlock) v4 X) ∧ Aside0 (Kd.R (Kd.int .i64) 3 w' w.heap.size (fun k_ => some k_ ≠ (v4 : Value).ownBlock) g4 D) ∧ Aside0 (w'.heap[b2]? = some (.cells #[.string I, (.slice a7 F.length a8), (.slice a9 G.length b0), .int .i64 J, (.slice (some b7) l.length b1)] 26 (0, 0))) ∧ Aside0 (Below w.heap.size w w'))
 case atStart => exact ⟨(c8), (b6), (0), q_r, H', ⟨Nat.le_refl _⟩, ⟨by (try simp only [z]); (with_reducible repeat (first | apply Kd.R_alloc | apply Kd.R_drewN | apply Kd.R_drew)); exact HO_3.out⟩, ⟨by (try simp only [z]); (with_reducible repeat (first | apply Kd.Q_alloc | apply Kd.Q_drewN | apply Kd.Q_drew)); exact q1.out⟩, ⟨by (try simp only [z]); (with_reducible repeat (first | apply Kd.R_alloc | apply Kd.R_drewN | apply Kd.R_drew)); exact Kd.R_mono c9.out (fun _ hk => hk.2)⟩, ⟨by (try simp only [z]); (with_reducible repeat (first | refine blk_drewN ?_ _ | refine blk_drew ?_ | refine blk_alloc ?_ _)); exact q.out⟩, ⟨q_w1 T.out L.out⟩⟩
 case round => (
 clear H'; clear c14b0 c14b1 c15b0 c15b1 c16b0 c17b0 c19b0 c19b1 o3 a1 a2 a3 a4 a5 a6 f8 g0 f9 g1; obtain ⟨U, X, y, rfl, HA, g9, HO_3, HO_4, HO_5, q, T⟩ := hrel; have E := (Kd.R_reads' HO_3.out).1; rw [E] at HO_3; (try simp only [E])
 (try simp only [E] at q)
 (try simp only [E] at HO_4)
 (try simp only [E] at HO_5)
 cases gk with
 | zero => exact absurd HA.out (by simp [r6_reached.l1])
 | succ k2 => (
 have H := HA.out; clear HA; simp only [r6_reached.l1] at H
 replace H := q_iD H; rcases H with ⟨q3, c24b0, H⟩ | ⟨q3, c24b0, H⟩
 {
 have c24b7 := c24b0; (try simp only [z, E] at c24b7)
 clear q3; replace H := q_gD H; obtain ⟨-, c25b0, H⟩ := H; replace H := q_gD H; obtain ⟨-, c26b0, H⟩ := H; replace H := q_gD H; obtain ⟨-, c27b0, H⟩ := H; obtain ⟨o9, e7⟩ : ∃ b_ : Bool, b_ = (rdOf false U (rd D y)) := ⟨_, rfl⟩; replace H : (if (o9 = true) then (r6_reached.l1 k2 U X D (wrap64 (y + 1)) I F G J l) else (if X.length < 17592186044416 then (r6_reached.l1 k2 (U.set ((rd D y) : Int).toNat true) (X ++ [rd D y]) D (wrap64 (y + 1)) I F G J l) else (none))) = some r := by rw [← e7] at H; exact H
 have l4 := a_ e7; clear e7; by_cases o5 : (o9 = true)
 {
 subst o5; rw [if_pos rfl] at H; have H' := a_ H
 clear H; obtain ⟨x6, x7, s4⟩ := Kd.R_slice HO_5.out; subst s4; have b8 : 0 ≤ (y : Int) := q_d
 have b9 : y < (D.length : Int) := q_d
 obtain ⟨d0, l5, l6⟩ := Kd.at_int (Kd.R_reads' HO_5.out).2.2 y b8 b9; cases l5; replace b8 := eq_true b8; replace b9 := eq_true b9; have c0 : 0 ≤ ((rd D y) : Int) := q_d
 have c3 : (rd D y) < (U.length : Int) := q_d
 obtain ⟨e8, l7, O⟩ := Kd.at_bool (Kd.R_reads' HO_3.out).2.2 (rd D y) c0 c3; (try rw [← l4.out] at O)
 obtain rfl : (⟨b5, 0, none⟩ : Addr) = e8 := (by injection l7)
 (first | simp only [add_plain] at O | simp only [add_at] at O | simp only [Addr.add, Nat.zero_add] at O | skip)
 replace c0 := eq_true c0; replace c3 := eq_true c3; go_wp2
 (try simp only [← E])
 go_roundg k2
 case measure => have := g8.out; have := g9.out; omega
 case rel => exact ⟨(U), (X), (wrap64 (y + 1)), q_r, H', ⟨by have := g8.out; have := g9.out; omega⟩, ⟨by (try simp only [z]); (try simp only [E]); (with_reducible repeat (first | apply Kd.R_alloc | apply Kd.R_drewN | apply Kd.R_drew)); exact HO_3.out⟩, ⟨by (try simp only [z]); (try simp only [E]); (with_reducible repeat (first | apply Kd.Q_alloc | apply Kd.Q_drewN | apply Kd.Q_drew)); exact HO_4.out⟩, ⟨by (try simp only [z]); (try simp only [E]); (with_reducible repeat (first | apply Kd.R_alloc | apply Kd.R_drewN | apply Kd.R_drew)); exact HO_5.out⟩, ⟨by (try simp only [z]); (try simp only [E]); (with_reducible repeat (first | refine blk_drewN ?_ _ | refine blk_drew ?_ | refine blk_alloc ?_ _)); exact q.out⟩, ⟨q_w1 T.out L.out⟩⟩}
 {
 replace o5 := Bool.eq_false_iff.mpr o5; subst o5; rw [if_neg Bool.false_ne_true] at H; obtain ⟨g6, e9⟩ : ∃ y_ : List Bool, y_ = (U.set ((rd D y) : Int).toNat true) := ⟨_, rfl⟩; replace H : (if X.length < 17592186044416 then (r6_reached.l1 k2 g6 (X ++ [rd D y]) D (wrap64 (y + 1)) I F G J l) else (none)) = some r := q_rw e9 H
 have q4 := a_ e9; clear e9; replace H := q_g H; obtain ⟨s5, H⟩ := H; have q6 := a_ s5; clear s5; obtain ⟨p0, f5⟩ : ∃ y_ : List Int, y_ = (X ++ [rd D y]) := ⟨_, rfl⟩; replace H : (r6_reached.l1 k2 g6 p0 D (wrap64 (y + 1)) I F G J l) = some r := q_rw f5 H
 have q7 := a_ f5; clear f5; have H' := a_ H
 clear H; obtain ⟨x8, s6, s7⟩ := Kd.R_slice HO_5.out; subst s7; have b8 : 0 ≤ (y : Int) := q_d
 have b9 : y < (D.length : Int) := q_d
 obtain ⟨d0, l5, l6⟩ := Kd.at_int (Kd.R_reads' HO_5.out).2.2 y b8 b9; cases l5; replace b8 := eq_true b8; replace b9 := eq_true b9; have c0 : 0 ≤ ((rd D y) : Int) := q_d
 have c3 : (rd D y) < (U.length : Int) := q_d
 obtain ⟨e8, l7, O⟩ := Kd.at_bool (Kd.R_reads' HO_3.out).2.2 (rd D y) c0 c3; (try rw [← l4.out] at O)
 obtain rfl : (⟨b5, 0, none⟩ : Addr) = e8 := (by injection l7)
 (first | simp only [add_plain] at O | simp only [add_at] at O | simp only [Addr.add, Nat.zero_add] at O | skip)
 replace c0 := eq_true c0; replace c3 := eq_true c3; have l8 : 0 ≤ (y : Int) := q_d
 have l9 : y < (D.length : Int) := q_d
 obtain ⟨q8, s8, s9⟩ := Kd.at_int (Kd.R_reads' HO_5.out).2.2 y l8 l9; obtain rfl : d0 = q8 := (by injection s8)
 replace l8 := eq_true l8; replace l9 := eq_true l9; have q9 : 0 ≤ ((rd D y) : Int) := q_d
 have r0 : ((rd D y) : Int) < ((U.length : Int) : Int) := q_d
 obtain ⟨t8, t9⟩ := Kd.R_celln false HO_3.out ((rd D y) : Int) q9 r0; replace q9 := eq_true q9; replace r0 := eq_true r0; have n0 := Kd.R_putg HO_3.out ((rd D y) : Int) true; go_wp2_with (first | ((with_reducible refine gate_store (t := 4) (p := 46) rfl ?_); refine store_event (t := 4) (p := 46) (v := ?vo_w35) (w1 := (wr.setCell ⟨b5, ((rd D y) : Int).toNat, none⟩ (.bool true))) ?hg ?ho ?hn ?hr ?_; (case ho => rfl); (case hg => rfl); (case hn => rfl); (case hr => first | (go_simp; done) | (go_simp; rfl)); intro r1 hw; have hg : wr.grownBy r1 (some b5) := (by rw [hw]; exact n0.2); have hp_ : Kd.R Kd.bool 4 r1 w.heap.size (fun _ => True) (.slice (some ⟨b5, 0, none⟩) U.length g7) g6 := (by rw [hw, q4.out]; exact n0.1); clear n0; replace T := a_ ((by rw [hw]; exact below_set (T.out) r8.out : Below w.heap.size w r1)); replace q := a_ (blk_grown (g := b2) (o := .cells #[.string I, .slice a7 F.length a8, .slice a9 G.length b0, .int .i64 J, .slice (some b7) l.length b1] 26 (0, 0)) (q_k q.out) hg (Kd.R_ne HO_3.out q.out (by decide))); replace HO_5 := a_ (Kd.R_over' (v := (.slice (some ⟨b5, 0, none⟩) U.length g7)) (by (with_reducible repeat (first | apply Kd.R_alloc | apply Kd.R_drewN | apply Kd.R_drew)); exact HO_5.out) (Kd.R_typed HO_3.out) (by decide) hg); replace HO_4 := a_ (Kd.Q_over' (v := (.slice (some ⟨b5, 0, none⟩) U.length g7)) (by (with_reducible repeat (first | apply Kd.Q_alloc | apply Kd.Q_drewN | apply Kd.Q_drew)); exact HO_4.out) (Kd.R_typed HO_3.out) (by decide) hg); replace HO_3 := a_ (hp_); clear hg hw hp_; have n1 : 0 ≤ (y : Int) := q_d; have n2 : y < (D.length : Int) := q_d; obtain ⟨r2, t0, t1⟩ := Kd.at_int (Kd.R_reads' HO_5.out).2.2 y n1 n2; obtain rfl : d0 = r2 := (by injection t0); replace n1 := eq_true n1; replace n2 := eq_true n2) | ((with_reducible refine gate_builtin (b := .append) (xs := #[.tmp 47, .tmp 52]) rfl ?_); at_builtin; refine Kd.Q_append (Kd.int .i64) (w0 := w) w.heap.size rfl (.tmp 47) (.tmp 52) 27 3 (.int .i64 0) 8 rfl Tryd.underlying27 info3 rfl (by decide) (by omega) u4 X (rd D y) [.int .i64 (rd D y)] (fun k_ => some k_ ≠ (.slice (some d0) D.length s6 : Value).ownBlock) (fun _ => False) rfl rfl ?aP (fun _ hk => hk.elim) ?aF ?aO ?aB ?aS ?aL ?_; (case aP => exact rfl); (case aB => exact (q_w1 T.out L.out)); (case aF => exact (fun k_ hk => Kd.fresh' (Kd.R_lt (by (with_reducible repeat (first | apply Kd.R_alloc | apply Kd.R_drewN | apply Kd.R_drew)); exact HO_5.out)) k_ hk)); (case aO => exact (by (with_reducible repeat (first | apply Kd.Q_alloc | apply Kd.Q_drewN | apply Kd.Q_drew)); exact HO_4.out)); (case aS => exact (below_size (q_w1 T.out L.out))); (case aL => have := q6.out; omega); intro x9 z2 ho hb hg hat; rw [← q7.out] at ho; have j9 := a_ (Kd.R_over' (by (with_reducible repeat (first | apply Kd.R_alloc | apply Kd.R_drewN | apply Kd.R_drew)); exact HO_3.out) (Kd.Q_typed (by (with_reducible repeat (first | apply Kd.Q_alloc | apply Kd.Q_drewN | apply Kd.Q_drew)); exact HO_4.out)) (by decide) hg); have k0 := a_ (Kd.R_after (ok := (fun _ => True)) (by (with_reducible repeat (first | apply Kd.R_alloc | apply Kd.R_drewN | apply Kd.R_drew)); exact Kd.R_mono HO_5.out (fun _ hk => ⟨trivial, hk⟩)) hg hat); have k3 := a_ (blk_grown (g := b2) (o := .cells #[.string I, .slice a7 F.length a8, .slice a9 G.length b0, .int .i64 J, .slice (some b7) l.length b1] 26 (0, 0)) (q_k q.out) hg (Kd.Q_ne HO_4.out q.out (by decide))); have k4 := a_ (hb); have t2 := a_ (ho); clear HO_3; clear HO_5; clear q; clear T; clear HO_4; have HO_3 := j9; have HO_5 := k0; have q := k3; have T := k4; have r3 := t2; clear j9 k0 k3 k4 t2; clear ho hb hg hat))
 (try simp only [← E])
 go_roundg k2
 case measure => have := g8.out; have := g9.out; omega
 case rel => exact ⟨(g6), (p0), (wrap64 (y + 1)), q_r, H', ⟨by have := g8.out; have := g9.out; omega⟩, ⟨by (try simp only [z]); (try simp only [E]); (with_reducible repeat (first | apply Kd.R_alloc | apply Kd.R_drewN | apply Kd.R_drew)); exact HO_3.out⟩, ⟨by (try simp only [z]); (try simp only [E]); (with_reducible repeat (first | apply Kd.Q_alloc | apply Kd.Q_drewN | apply Kd.Q_drew)); exact r3.out⟩, ⟨by (try simp only [z]); (try simp only [E]); (with_reducible repeat (first | apply Kd.R_alloc | apply Kd.R_drewN | apply Kd.R_drew)); exact Kd.R_mono HO_5.out (fun _ hk => hk.2)⟩, ⟨by (try simp only [z]); (try simp only [E]); (with_reducible repeat (first | refine blk_drewN ?_ _ | refine blk_drew ?_ | refine blk_alloc ?_ _)); exact q.out⟩, ⟨q_w1 T.out L.out⟩⟩}}
 {
 have c24b7 := c24b0; (try simp only [z, E] at c24b7)
 clear q3; have H' := a_ H
 clear H; obtain ⟨y0, y1, t3⟩ := Kd.R_slice HO_5.out; subst t3; go_wp2
 (try simp only [← z, ← E])
 go_roundg k2
 case measure => have := g8.out; have := g9.out; omega
 case rel => exact ⟨(U), (X), H', ⟨by have := g8.out; have := g9.out; omega⟩, ⟨by (try simp only [z]); (try simp only [E]); (with_reducible repeat (first | apply Kd.R_alloc | apply Kd.R_drewN | apply Kd.R_drew)); exact HO_3.out⟩, ⟨by (try simp only [z]); (try simp only [E]); (with_reducible repeat (first | apply Kd.Q_alloc | apply Kd.Q_drewN | apply Kd.Q_drew)); exact Kd.Q_mono HO_4.out (fun _ hk => trivial)⟩, ⟨by (try simp only [z]); (try simp only [E]); (with_reducible repeat (first | refine blk_drewN ?_ _ | refine blk_drew ?_ | refine blk_alloc ?_ _)); exact q.out⟩, ⟨q_w1 T.out L.out⟩⟩}))}
 {
 have c14b7 := c14b0; (try simp only [z, E] at c14b7)
 have c14b1 : decide (0 < B.length) = false := decide_eq_false (by omega)
 clear p6; obtain rfl := Option.some.inj H; obtain ⟨y2, y3, t4, _⟩ := Kd.Q_slice HO_4.out; subst t4; go_wp2
 go_ret
 exact ⟨_, q_e, by (with_reducible repeat (first | apply Kd.R_alloc | apply Kd.R_drewN | apply Kd.R_drew)); exact HO_3.out, q_w1 T.out L.out⟩}))
def r6_reg.f (l : Bool) (b : Int) (p : Int) : Option (Bool) := if l = true then (if b ≥ 0 then (if b < p then (some true) else (some false)) else (some false)) else (some (b == 0))
theorem r6_reg.calls (l : Bool) (b : Int) (q : Int) (r : Bool) (w : World) (h : r6_reg.f l b q = some r) :
  Calls Tryd.prog 65 #[.bool l, .int .i64 b, .int .i64 q] w fun e w' => e = .returned (.bool r) ∧ Drawn0 w w' := by
 have H : (if l = true then (if b ≥ 0 then (if b < q then (some true) else (some false)) else (some false)) else (some (b == 0))) = some r := h
 clear h; by_cases p : l = true
 {
 subst p; rw [if_pos rfl] at H; rcases q_ite H with ⟨c5b0, H⟩ | ⟨c5b0, H⟩
 {
 rcases q_ite H with ⟨c6b0, H⟩ | ⟨c6b0, H⟩
 {
 obtain rfl := Option.some.inj H; go_enter Tryd.func65, Tryd.ntmps65
 go_wp2
 go_ret
 exact ⟨by first | rfl | (simp; done) | (simp [*]; done), by repeat (first | exact Drawn0.refl _ | apply Drawn0.step)⟩}
 {
 obtain rfl := Option.some.inj H; go_enter Tryd.func65, Tryd.ntmps65
 go_wp2
 go_ret
 exact ⟨by first | rfl | (simp; done) | (simp [*]; done), by repeat (first | exact Drawn0.refl _ | apply Drawn0.step)⟩}}
 {
 obtain rfl := Option.some.inj H; go_enter Tryd.func65, Tryd.ntmps65
 go_wp2
 go_ret
 exact ⟨by first | rfl | (simp; done) | (simp [*]; done), by repeat (first | exact Drawn0.refl _ | apply Drawn0.step)⟩}}
 {
 replace p := Bool.eq_false_iff.mpr p; subst p; rw [if_neg Bool.false_ne_true] at H; obtain rfl := Option.some.inj H; go_enter Tryd.func65, Tryd.ntmps65
 go_wp2
 go_ret
 exact ⟨by first | rfl | (simp; done) | (simp [*]; done), by repeat (first | exact Drawn0.refl _ | apply Drawn0.step)⟩}
def r1_IsUnary.f (b : Int) : Option (Bool) := if b ≥ 0 then (some (decide (b < 3))) else (some false)
theorem r1_IsUnary.calls (b : Int) (r : Bool) (w : World) (h : r1_IsUnary.f b = some r) :
  Calls Tryd.prog 78 #[.int .i64 b] w fun e w' => e = .returned (.bool r) ∧ Drawn0 w w' := by
 have H : (if b ≥ 0 then (some (decide (b < 3))) else (some false)) = some r := h
 clear h; rcases q_ite H with ⟨c2b0, H⟩ | ⟨c2b0, H⟩
 {
 obtain rfl := Option.some.inj H; go_enter Tryd.func78, Tryd.ntmps78
 go_wp2
 go_ret
 exact ⟨by first | rfl | (simp; done) | (simp [*]; done), by repeat (first | exact Drawn0.refl _ | apply Drawn0.step)⟩}
 {
 obtain rfl := Option.some.inj H; go_enter Tryd.func78, Tryd.ntmps78
 go_wp2
 go_ret
 exact ⟨by first | rfl | (simp; done) | (simp [*]; done), by repeat (first | exact Drawn0.refl _ | apply Drawn0.step)⟩}
def r1_IsBinary.f (b : Int) : Option (Bool) := if b ≥ 0 then (some (decide (b < 20))) else (some false)
theorem r1_IsBinary.calls (b : Int) (r : Bool) (w : World) (h : r1_IsBinary.f b = some r) :
  Calls Tryd.prog 79 #[.int .i64 b] w fun e w' => e = .returned (.bool r) ∧ Drawn0 w w' := by
 have H : (if b ≥ 0 then (some (decide (b < 20))) else (some false)) = some r := h
 clear h; rcases q_ite H with ⟨c2b0, H⟩ | ⟨c2b0, H⟩
 {
 obtain rfl := Option.some.inj H; go_enter Tryd.func79, Tryd.ntmps79
 go_wp2
 go_ret
 exact ⟨by first | rfl | (simp; done) | (simp [*]; done), by repeat (first | exact Drawn0.refl _ | apply Drawn0.step)⟩}
 {
 obtain rfl := Option.some.inj H; go_enter Tryd.func79, Tryd.ntmps79
 go_wp2
 go_ret
 exact ⟨by first | rfl | (simp; done) | (simp [*]; done), by repeat (first | exact Drawn0.refl _ | apply Drawn0.step)⟩}
def r1_Neutral.j0 : Nat → Int → Bool → Option (Int × Bool)
 | 0, _, _ => none
 | k + 1, b, l => if l = true then (some (0, true)) else (if b = 18 then (some (2147483647, true)) else (if b = 19 then (some ((-2147483648), true)) else (if b = 5 then (some ((-1), true)) else (some (0, false)))))
def r1_Neutral.f (k : Nat) (b : Int) : Option (Int × Bool) := if b = 0 then (r1_Neutral.j0 k b (b == 0)) else (if b = 6 then (r1_Neutral.j0 k b (b == 6)) else (r1_Neutral.j0 k b (b == 7)))
theorem r1_Neutral.calls (k : Nat) (b : Int) (y : Int) (z : Bool) (w : World) (h : r1_Neutral.f k b = some (y, z)) :
  Calls Tryd.prog 89 #[.int .i64 b] w fun e w' => e = .returned (.tuple #[.int .i32 y, .bool z]) ∧ Drawn0 w w' := by
 have H : (if b = 0 then (r1_Neutral.j0 k b (b == 0)) else (if b = 6 then (r1_Neutral.j0 k b (b == 6)) else (r1_Neutral.j0 k b (b == 7)))) = some (y, z) := h
 clear h; have p := a_ H; clear H; go_enter Tryd.func89, Tryd.ntmps89
 go_upto_if 5 with (fail)
 go_cut [5] (fun B wc => ∃ (kq : Nat) (l : Bool), B = .bool l ∧ Aside0 (r1_Neutral.j0 kq b l = some (y, z)) ∧ Aside0 (kq ≤ k) ∧ Drawn0 w wc)
 case first => (
 have H := p.out; clear p; replace H := q_iBN H; rcases H with ⟨-, c3b0, c3b1, H⟩ | ⟨F, c3b0, c3b1, H⟩
 {
 (first | rw [c3b0] | (simp only [i64_w, i32_w]; rw [c3b0]) | skip)
 have q := a_ H
 clear H; go_wp2
 go_meet
 case rel => exact ⟨_, ((b == 0)), q_r, q, ⟨by first | omega | exact Nat.le_refl _⟩, by repeat (first | exact Drawn0.refl _ | apply Drawn0.step)⟩}
 {
 (first | rw [c3b0] | (simp only [i64_w, i32_w]; rw [c3b0]) | skip)
 replace H := q_iBN H; rcases H with ⟨-, c4b0, c4b1, H⟩ | ⟨G, c4b0, c4b1, H⟩
 {
 have q := a_ H
 clear H; go_wp2
 go_meet
 case rel => exact ⟨_, ((b == 6)), q_r, q, ⟨by first | omega | exact Nat.le_refl _⟩, by repeat (first | exact Drawn0.refl _ | apply Drawn0.step)⟩}
 {
 have q := a_ H
 clear H; go_wp2
 go_meet
 case rel => exact ⟨_, ((b == 7)), q_r, q, ⟨by first | omega | exact Nat.le_refl _⟩, by repeat (first | exact Drawn0.refl _ | apply Drawn0.step)⟩}})
 case rest => (
 clear p; obtain ⟨kq, l, rfl, HA, C, ⟨D, rfl⟩⟩ := hcut; cases kq with
 | zero => exact absurd HA.out (by simp [r1_Neutral.j0])
 | succ E => (
 have H := HA.out; clear HA; simp only [r1_Neutral.j0] at H
 by_cases c5 : l = true
 {
 subst c5; rw [if_pos rfl] at H; simp only [Option.some.injEq, Prod.mk.injEq] at H
 obtain ⟨rfl, rfl⟩ := H; go_wp2
 go_ret2
 exact ⟨by first | rfl | (simp; done) | (simp [*]; done), by repeat (first | exact Drawn0.refl _ | apply Drawn0.step)⟩}
 {
 replace c5 := Bool.eq_false_iff.mpr c5; subst c5; rw [if_neg Bool.false_ne_true] at H; replace H := q_iBN H; rcases H with ⟨-, c6b0, c6b1, H⟩ | ⟨I, c6b0, c6b1, H⟩
 {
 simp only [Option.some.injEq, Prod.mk.injEq] at H
 obtain ⟨rfl, rfl⟩ := H; go_wp2
 go_ret2
 exact ⟨by first | rfl | (simp; done) | (simp [*]; done), by repeat (first | exact Drawn0.refl _ | apply Drawn0.step)⟩}
 {
 replace H := q_iBN H; rcases H with ⟨-, c7b0, c7b1, H⟩ | ⟨c7, c7b0, c7b1, H⟩
 {
 simp only [Option.some.injEq, Prod.mk.injEq] at H
 obtain ⟨rfl, rfl⟩ := H; go_wp2
 go_ret2
 exact ⟨by first | rfl | (simp; done) | (simp [*]; done), by repeat (first | exact Drawn0.refl _ | apply Drawn0.step)⟩}
 {
 replace H := q_iBN H; rcases H with ⟨-, c8b0, c8b1, H⟩ | ⟨J, c8b0, c8b1, H⟩
 {
 simp only [Option.some.injEq, Prod.mk.injEq] at H
 obtain ⟨rfl, rfl⟩ := H; go_wp2
 go_ret2
 exact ⟨by first | rfl | (simp; done) | (simp [*]; done), by repeat (first | exact Drawn0.refl _ | apply Drawn0.step)⟩}
 {
 simp only [Option.some.injEq, Prod.mk.injEq] at H
 obtain ⟨rfl, rfl⟩ := H; go_wp2
 go_ret2
 exact ⟨by first | rfl | (simp; done) | (simp [*]; done), by repeat (first | exact Drawn0.refl _ | apply Drawn0.step)⟩}}}}))
def r1_Folds.f (k : Nat) (l : Int) : Option (Bool) := (r1_Neutral.f k l).bind fun b => (some b.2)
theorem r1_Folds.calls (k : Nat) (p : Int) (r : Bool) (w : World) (h : r1_Folds.f k p = some r) :
  Calls Tryd.prog 80 #[.int .i64 p] w fun e w' => e = .returned (.bool r) ∧ Drawn0 w w' := by
 have H : ((r1_Neutral.f k p).bind fun l => (some l.2)) = some r := h
 clear h; replace H := Option.bind_eq_some_iff.mp H; obtain ⟨⟨q, b⟩, y, H⟩ := H; replace H : (some b) = some r := H; have z := a_ y; clear y; obtain rfl := Option.some.inj H; go_enter Tryd.func80, Tryd.ntmps80
 go_wp2_with (first | ((with_reducible refine gc_ 89 rfl ?_); refine q_gl 7 #[.int .i64 p] Tryd.func89 rfl ?_; (with_reducible refine (r1_Neutral.calls k p q b _ z.out).mono ?_); rintro e w' ⟨rfl, ⟨B, rfl⟩⟩; refine ⟨_, rfl, ?_⟩))
 go_ret
 exact ⟨by first | rfl | (simp; done) | (simp [*]; done), by repeat (first | exact Drawn0.refl _ | apply Drawn0.step)⟩
def r6_Sign.f (k : Nat) (y : Int) (b : Int) : Option (Bool) := if y = 1 then ((r1_IsUnary.f b).bind fun l => (some l)) else (if y = 2 then ((r1_IsBinary.f b).bind fun p => (some p)) else (if y = 3 then (if b ≥ 0 then (some (decide (b < 4))) else (some false)) else (if y = 4 then ((r1_Folds.f k b).bind fun q => (some q)) else (some (b == 0)))))
theorem r6_Sign.calls (k : Nat) (z : Int) (b : Int) (r : Bool) (w : World) (h : r6_Sign.f k z b = some r) :
  Calls Tryd.prog 66 #[.int .i64 z, .int .i64 b] w fun e w' => e = .returned (.bool r) ∧ Drawn0 w w' := by
 have H : (if z = 1 then ((r1_IsUnary.f b).bind fun l => (some l)) else (if z = 2 then ((r1_IsBinary.f b).bind fun p => (some p)) else (if z = 3 then (if b ≥ 0 then (some (decide (b < 4))) else (some false)) else (if z = 4 then ((r1_Folds.f k b).bind fun q => (some q)) else (some (b == 0)))))) = some r := h
 clear h; replace H := q_iBN H; rcases H with ⟨-, c3b0, c3b1, H⟩ | ⟨I, c3b0, c3b1, H⟩
 {
 replace H := Option.bind_eq_some_iff.mp H; obtain ⟨l, B, H⟩ := H; have F := a_ B; clear B; obtain rfl := Option.some.inj H; go_enter Tryd.func66, Tryd.ntmps66
 go_wp2_with (first | ((with_reducible refine gc_ 78 rfl ?_); refine q_gl 9 #[.int .i64 b] Tryd.func78 rfl ?_; (with_reducible refine (r1_IsUnary.calls b l _ F.out).mono ?_); rintro e w' ⟨rfl, ⟨E, rfl⟩⟩; refine ⟨_, rfl, ?_⟩))
 go_ret
 exact ⟨by first | rfl | (simp; done) | (simp [*]; done), by repeat (first | exact Drawn0.refl _ | apply Drawn0.step)⟩}
 {
 replace H := q_iBN H; rcases H with ⟨-, c5b0, c5b1, H⟩ | ⟨c5, c5b0, c5b1, H⟩
 {
 replace H := Option.bind_eq_some_iff.mp H; obtain ⟨p, C, H⟩ := H; have G := a_ C; clear C; obtain rfl := Option.some.inj H; go_enter Tryd.func66, Tryd.ntmps66
 go_wp2_with (first | ((with_reducible refine gc_ 79 rfl ?_); refine q_gl 13 #[.int .i64 b] Tryd.func79 rfl ?_; (with_reducible refine (r1_IsBinary.calls b p _ G.out).mono ?_); rintro e w' ⟨rfl, ⟨E, rfl⟩⟩; refine ⟨_, rfl, ?_⟩))
 go_ret
 exact ⟨by first | rfl | (simp; done) | (simp [*]; done), by repeat (first | exact Drawn0.refl _ | apply Drawn0.step)⟩}
 {
 replace H := q_iBN H; rcases H with ⟨-, c7b0, c7b1, H⟩ | ⟨c7, c7b0, c7b1, H⟩
 {
 rcases q_ite H with ⟨c8b0, H⟩ | ⟨c8b0, H⟩
 {
 obtain rfl := Option.some.inj H; go_enter Tryd.func66, Tryd.ntmps66
 go_wp2
 go_ret
 exact ⟨by first | rfl | (simp; done) | (simp [*]; done), by repeat (first | exact Drawn0.refl _ | apply Drawn0.step)⟩}
 {
 obtain rfl := Option.some.inj H; go_enter Tryd.func66, Tryd.ntmps66
 go_wp2
 go_ret
 exact ⟨by first | rfl | (simp; done) | (simp [*]; done), by repeat (first | exact Drawn0.refl _ | apply Drawn0.step)⟩}}
 {
 replace H := q_iBN H; rcases H with ⟨-, c9b0, c9b1, H⟩ | ⟨J, c9b0, c9b1, H⟩
 {
 replace H := Option.bind_eq_some_iff.mp H; obtain ⟨q, y, H⟩ := H; have D := a_ y; clear y; obtain rfl := Option.some.inj H; go_enter Tryd.func66, Tryd.ntmps66
 go_wp2_with (first | ((with_reducible refine gc_ 80 rfl ?_); refine q_gl 25 #[.int .i64 b] Tryd.func80 rfl ?_; (with_reducible refine (r1_Folds.calls k b q _ D.out).mono ?_); rintro e w' ⟨rfl, ⟨E, rfl⟩⟩; refine ⟨_, rfl, ?_⟩))
 go_ret
 exact ⟨by first | rfl | (simp; done) | (simp [*]; done), by repeat (first | exact Drawn0.refl _ | apply Drawn0.step)⟩}
 {
 obtain rfl := Option.some.inj H; go_enter Tryd.func66, Tryd.ntmps66
 go_wp2
 go_ret
 exact ⟨by first | rfl | (simp; done) | (simp [*]; done), by repeat (first | exact Drawn0.refl _ | apply Drawn0.step)⟩}}}}
def r6_how.f (b : Int) : Option (Int) := if b = 2 then (some 1) else (if b = 3 then (some 2) else (if b = 4 then (some 3) else (if b = 8 then (some 4) else (if b = 10 then (some 4) else (some 0)))))
theorem r6_how.calls (b : Int) (r : Int) (w : World) (h : r6_how.f b = some r) :
  Calls Tryd.prog 67 #[.int .i64 b] w fun e w' => e = .returned (.int .i64 r) ∧ Drawn0 w w' := by
 have H : (if b = 2 then (some 1) else (if b = 3 then (some 2) else (if b = 4 then (some 3) else (if b = 8 then (some 4) else (if b = 10 then (some 4) else (some 0)))))) = some r := h
 clear h; replace H := q_iBN H; rcases H with ⟨-, c2b0, c2b1, H⟩ | ⟨c2, c2b0, c2b1, H⟩
 {
 obtain rfl := Option.some.inj H; go_enter Tryd.func67, Tryd.ntmps67
 go_wp2
 go_ret
 exact ⟨by first | rfl | (simp; done) | (simp [*]; done), by repeat (first | exact Drawn0.refl _ | apply Drawn0.step)⟩}
 {
 replace H := q_iBN H; rcases H with ⟨-, c3b0, c3b1, H⟩ | ⟨l, c3b0, c3b1, H⟩
 {
 obtain rfl := Option.some.inj H; go_enter Tryd.func67, Tryd.ntmps67
 go_wp2
 go_ret
 exact ⟨by first | rfl | (simp; done) | (simp [*]; done), by repeat (first | exact Drawn0.refl _ | apply Drawn0.step)⟩}
 {
 replace H := q_iBN H; rcases H with ⟨-, c4b0, c4b1, H⟩ | ⟨p, c4b0, c4b1, H⟩
 {
 obtain rfl := Option.some.inj H; go_enter Tryd.func67, Tryd.ntmps67
 go_wp2
 go_ret
 exact ⟨by first | rfl | (simp; done) | (simp [*]; done), by repeat (first | exact Drawn0.refl _ | apply Drawn0.step)⟩}
 {
 replace H := q_iBN H; rcases H with ⟨-, c5b0, c5b1, H⟩ | ⟨c5, c5b0, c5b1, H⟩
 {
 obtain rfl := Option.some.inj H; go_enter Tryd.func67, Tryd.ntmps67
 go_wp2
 go_ret
 exact ⟨by first | rfl | (simp; done) | (simp [*]; done), by repeat (first | exact Drawn0.refl _ | apply Drawn0.step)⟩}
 {
 replace H := q_iBN H; rcases H with ⟨-, c6b0, c6b1, H⟩ | ⟨q, c6b0, c6b1, H⟩
 {
 obtain rfl := Option.some.inj H; go_enter Tryd.func67, Tryd.ntmps67
 go_wp2
 go_ret
 exact ⟨by first | rfl | (simp; done) | (simp [*]; done), by repeat (first | exact Drawn0.refl _ | apply Drawn0.step)⟩}
 {
 obtain rfl := Option.some.inj H; go_enter Tryd.func67, Tryd.ntmps67
 go_wp2
 go_ret
 exact ⟨by first | rfl | (simp; done) | (simp [*]; done), by repeat (first | exact Drawn0.refl _ | apply Drawn0.step)⟩}}}}}
def r6_Word.f (l : Int) (b : Int) (l2 : List (S83)) (l3 : List (S85)) : Option (Bool) := if l = 0 then (if b ≥ 0 then (if (wrap64 (b)) < (l2.length : Int) then (if 0 ≤ b then (if b < (l2.length : Int) then (some (!((rd_T83 l2 b).f1))) else (none)) else (none)) else (some false)) else (some false)) else (if l = 1 then (if b ≥ 0 then (if (wrap64 (b)) < (l2.length : Int) then (if 0 ≤ b then (if b < (l2.length : Int) then (if (rd_T83 l2 b).f1 = true then (some true) else (if b ≥ 6 then (some (decide ((wrap64 (b)) < (wrap64 (6 + (l3.length : Int)))))) else (some false))) else (none)) else (none)) else (if b ≥ 6 then (some (decide ((wrap64 (b)) < (wrap64 (6 + (l3.length : Int)))))) else (some false))) else (if b ≥ 6 then (some (decide ((wrap64 (b)) < (wrap64 (6 + (l3.length : Int)))))) else (some false))) else (if l = 2 then (if b ≥ 0 then (some (decide (b ≤ 400))) else (some false)) else (if l = 3 then (some true) else (some (b == 0)))))
theorem r6_Word.calls (M : Int) (b : Int) (A2 : Option Addr) (c2 : Nat) (l2 : List (S83)) (A3 : Option Addr) (c3 : Nat) (l3 : List (S85)) (r : Bool) (w : World) (N : Kd.C k83 w A2 l2.length l2) (O : l2.length ≤ c2) (R : Kd.C k85 w A3 l3.length l3) (S : l3.length ≤ c3) (h : r6_Word.f M b l2 l3 = some r) :
  Calls Tryd.prog 68 #[.int .i64 M, .int .i32 b, .slice A2 l2.length c2, .slice A3 l3.length c3] w fun e w' => e = .returned (.bool r) ∧ Drawn0 w w' := by
 have I := a_ N; have a5 := a_ O; clear N O; have a6 := a_ R; have a7 := a_ S; clear R S; have H : (if M = 0 then (if b ≥ 0 then (if (wrap64 (b)) < (l2.length : Int) then (if 0 ≤ b then (if b < (l2.length : Int) then (some (!((rd_T83 l2 b).f1))) else (none)) else (none)) else (some false)) else (some false)) else (if M = 1 then (if b ≥ 0 then (if (wrap64 (b)) < (l2.length : Int) then (if 0 ≤ b then (if b < (l2.length : Int) then (if (rd_T83 l2 b).f1 = true then (some true) else (if b ≥ 6 then (some (decide ((wrap64 (b)) < (wrap64 (6 + (l3.length : Int)))))) else (some false))) else (none)) else (none)) else (if b ≥ 6 then (some (decide ((wrap64 (b)) < (wrap64 (6 + (l3.length : Int)))))) else (some false))) else (if b ≥ 6 then (some (decide ((wrap64 (b)) < (wrap64 (6 + (l3.length : Int)))))) else (some false))) else (if M = 2 then (if b ≥ 0 then (some (decide (b ≤ 400))) else (some false)) else (if M = 3 then (some true) else (some (b == 0)))))) = some r := h
 clear h; replace H := q_iBN H; rcases H with ⟨-, c5b0, c5b1, H⟩ | ⟨c5, c5b0, c5b1, H⟩
 {
 rcases q_ite H with ⟨c6b0, H⟩ | ⟨c6b0, H⟩
 {
 rcases q_ite H with ⟨c7b0, H⟩ | ⟨c7b0, H⟩
 {
 replace H := q_gD H; obtain ⟨-, c8b0, H⟩ := H; replace H := q_gD H; obtain ⟨-, c9b0, H⟩ := H; obtain rfl := Option.some.inj H; have E : 0 ≤ (b : Int) := q_d
 have F : b < (l2.length : Int) := q_d
 obtain ⟨X, T, U, V⟩ := at_T83 I.out b E F; cases T; replace E := eq_true E; replace F := eq_true F; go_enter Tryd.func68, Tryd.ntmps68
 go_wp2
 go_ret
 exact ⟨by first | rfl | (simp; done) | (simp [*]; done), by repeat (first | exact Drawn0.refl _ | apply Drawn0.step)⟩}
 {
 obtain rfl := Option.some.inj H; go_enter Tryd.func68, Tryd.ntmps68
 go_wp2
 go_ret
 exact ⟨by first | rfl | (simp; done) | (simp [*]; done), by repeat (first | exact Drawn0.refl _ | apply Drawn0.step)⟩}}
 {
 obtain rfl := Option.some.inj H; go_enter Tryd.func68, Tryd.ntmps68
 go_wp2
 go_ret
 exact ⟨by first | rfl | (simp; done) | (simp [*]; done), by repeat (first | exact Drawn0.refl _ | apply Drawn0.step)⟩}}
 {
 replace H := q_iBN H; rcases H with ⟨-, c10b0, c10b1, H⟩ | ⟨a8, c10b0, c10b1, H⟩
 {
 rcases q_ite H with ⟨c11b0, H⟩ | ⟨c11b0, H⟩
 {
 rcases q_ite H with ⟨c12b0, H⟩ | ⟨c12b0, H⟩
 {
 replace H := q_gD H; obtain ⟨-, c13b0, H⟩ := H; replace H := q_gD H; obtain ⟨-, c14b0, H⟩ := H; obtain ⟨L, B⟩ : ∃ b_ : Bool, b_ = ((rd_T83 l2 b).f1) := ⟨_, rfl⟩; replace H : (if L = true then (some true) else (if b ≥ 6 then (some (decide ((wrap64 (b)) < (wrap64 (6 + (l3.length : Int)))))) else (some false))) = some r := by rw [← B] at H; exact H
 have D := a_ B; clear B; by_cases J : L = true
 {
 subst J; rw [if_pos rfl] at H; obtain rfl := Option.some.inj H; have l : 0 ≤ (b : Int) := q_d
 have p : b < (l2.length : Int) := q_d
 obtain ⟨G, y, z, q⟩ := at_T83 I.out b l p; (try rw [← D.out] at q)
 cases y; replace l := eq_true l; replace p := eq_true p; go_enter Tryd.func68, Tryd.ntmps68
 go_wp2
 go_ret
 exact ⟨by first | rfl | (simp; done) | (simp [*]; done), by repeat (first | exact Drawn0.refl _ | apply Drawn0.step)⟩}
 {
 replace J := Bool.eq_false_iff.mpr J; subst J; rw [if_neg Bool.false_ne_true] at H; rcases q_ite H with ⟨c17b0, H⟩ | ⟨c17b0, H⟩
 {
 obtain rfl := Option.some.inj H; have l : 0 ≤ (b : Int) := q_d
 have p : b < (l2.length : Int) := q_d
 obtain ⟨G, y, z, q⟩ := at_T83 I.out b l p; (try rw [← D.out] at q)
 cases y; replace l := eq_true l; replace p := eq_true p; go_enter Tryd.func68, Tryd.ntmps68
 go_wp2
 go_ret
 exact ⟨by first | rfl | (simp; done) | (simp [*]; done), by repeat (first | exact Drawn0.refl _ | apply Drawn0.step)⟩}
 {
 obtain rfl := Option.some.inj H; have l : 0 ≤ (b : Int) := q_d
 have p : b < (l2.length : Int) := q_d
 obtain ⟨G, y, z, q⟩ := at_T83 I.out b l p; (try rw [← D.out] at q)
 cases y; replace l := eq_true l; replace p := eq_true p; go_enter Tryd.func68, Tryd.ntmps68
 go_wp2
 go_ret
 exact ⟨by first | rfl | (simp; done) | (simp [*]; done), by repeat (first | exact Drawn0.refl _ | apply Drawn0.step)⟩}}}
 {
 rcases q_ite H with ⟨c18b0, H⟩ | ⟨c18b0, H⟩
 {
 obtain rfl := Option.some.inj H; go_enter Tryd.func68, Tryd.ntmps68
 go_wp2
 go_ret
 exact ⟨by first | rfl | (simp; done) | (simp [*]; done), by repeat (first | exact Drawn0.refl _ | apply Drawn0.step)⟩}
 {
 obtain rfl := Option.some.inj H; go_enter Tryd.func68, Tryd.ntmps68
 go_wp2
 go_ret
 exact ⟨by first | rfl | (simp; done) | (simp [*]; done), by repeat (first | exact Drawn0.refl _ | apply Drawn0.step)⟩}}}
 {
 rcases q_ite H with ⟨c19b0, H⟩ | ⟨c19b0, H⟩
 {
 obtain rfl := Option.some.inj H; go_enter Tryd.func68, Tryd.ntmps68
 go_wp2
 go_ret
 exact ⟨by first | rfl | (simp; done) | (simp [*]; done), by repeat (first | exact Drawn0.refl _ | apply Drawn0.step)⟩}
 {
 obtain rfl := Option.some.inj H; go_enter Tryd.func68, Tryd.ntmps68
 go_wp2
 go_ret
 exact ⟨by first | rfl | (simp; done) | (simp [*]; done), by repeat (first | exact Drawn0.refl _ | apply Drawn0.step)⟩}}}
 {
 replace H := q_iBN H; rcases H with ⟨-, c20b0, c20b1, H⟩ | ⟨a9, c20b0, c20b1, H⟩
 {
 rcases q_ite H with ⟨c21b0, H⟩ | ⟨c21b0, H⟩
 {
 obtain rfl := Option.some.inj H; go_enter Tryd.func68, Tryd.ntmps68
 go_wp2
 go_ret
 exact ⟨by first | rfl | (simp; done) | (simp [*]; done), by repeat (first | exact Drawn0.refl _ | apply Drawn0.step)⟩}
 {
 obtain rfl := Option.some.inj H; go_enter Tryd.func68, Tryd.ntmps68
 go_wp2
 go_ret
 exact ⟨by first | rfl | (simp; done) | (simp [*]; done), by repeat (first | exact Drawn0.refl _ | apply Drawn0.step)⟩}}
 {
 replace H := q_iBN H; rcases H with ⟨-, c22b0, c22b1, H⟩ | ⟨b0, c22b0, c22b1, H⟩
 {
 obtain rfl := Option.some.inj H; go_enter Tryd.func68, Tryd.ntmps68
 go_wp2
 go_ret
 exact ⟨by first | rfl | (simp; done) | (simp [*]; done), by repeat (first | exact Drawn0.refl _ | apply Drawn0.step)⟩}
 {
 obtain rfl := Option.some.inj H; go_enter Tryd.func68, Tryd.ntmps68
 go_wp2
 go_ret
 exact ⟨by first | rfl | (simp; done) | (simp [*]; done), by repeat (first | exact Drawn0.refl _ | apply Drawn0.step)⟩}}}}
def r6_what.j0 : Nat → Int → Bool → Option (Int)
 | 0, _, _ => none
 | k + 1, b, l => if l = true then (some 1) else (if b = 9 then (some 2) else (if b = 10 then (some 2) else (some 4)))
def r6_what.f (k : Nat) (b : Int) : Option (Int) := if b = 0 then (some 3) else (if b = 5 then (some 0) else (if b = 6 then (r6_what.j0 k b (b == 6)) else (if b = 7 then (r6_what.j0 k b (b == 7)) else (r6_what.j0 k b (b == 8)))))
theorem r6_what.calls (k : Nat) (b : Int) (r : Int) (w : World) (h : r6_what.f k b = some r) :
  Calls Tryd.prog 69 #[.int .i64 b] w fun e w' => e = .returned (.int .i64 r) ∧ Drawn0 w w' := by
 have H : (if b = 0 then (some 3) else (if b = 5 then (some 0) else (if b = 6 then (r6_what.j0 k b (b == 6)) else (if b = 7 then (r6_what.j0 k b (b == 7)) else (r6_what.j0 k b (b == 8)))))) = some r := h
 clear h; replace H := q_iBN H; rcases H with ⟨-, c2b0, c2b1, H⟩ | ⟨c2, c2b0, c2b1, H⟩
 {
 obtain rfl := Option.some.inj H; go_enter Tryd.func69, Tryd.ntmps69
 go_wp2
 go_ret
 exact ⟨by first | rfl | (simp; done) | (simp [*]; done), by repeat (first | exact Drawn0.refl _ | apply Drawn0.step)⟩}
 {
 replace H := q_iBN H; rcases H with ⟨-, c3b0, c3b1, H⟩ | ⟨y, c3b0, c3b1, H⟩
 {
 obtain rfl := Option.some.inj H; go_enter Tryd.func69, Tryd.ntmps69
 go_wp2
 go_ret
 exact ⟨by first | rfl | (simp; done) | (simp [*]; done), by repeat (first | exact Drawn0.refl _ | apply Drawn0.step)⟩}
 {
 have p := a_ H; clear H; go_enter Tryd.func69, Tryd.ntmps69
 go_upto_if 8 with (fail)
 go_cut [8] (fun z wc => ∃ (kq : Nat) (l : Bool), z = .bool l ∧ Aside0 (r6_what.j0 kq b l = some r) ∧ Aside0 (kq ≤ k) ∧ Drawn0 w wc)
 case first => (
 have H := p.out; clear p; replace H := q_iBN H; rcases H with ⟨-, c5b0, c5b1, H⟩ | ⟨c5, c5b0, c5b1, H⟩
 {
 (first | rw [c5b0] | (simp only [i64_w, i32_w]; rw [c5b0]) | skip)
 have q := a_ H
 clear H; go_wp2
 go_meet
 case rel => exact ⟨_, ((b == 6)), q_r, q, ⟨by first | omega | exact Nat.le_refl _⟩, by repeat (first | exact Drawn0.refl _ | apply Drawn0.step)⟩}
 {
 (first | rw [c5b0] | (simp only [i64_w, i32_w]; rw [c5b0]) | skip)
 replace H := q_iBN H; rcases H with ⟨-, c6b0, c6b1, H⟩ | ⟨E, c6b0, c6b1, H⟩
 {
 have q := a_ H
 clear H; go_wp2
 go_meet
 case rel => exact ⟨_, ((b == 7)), q_r, q, ⟨by first | omega | exact Nat.le_refl _⟩, by repeat (first | exact Drawn0.refl _ | apply Drawn0.step)⟩}
 {
 have q := a_ H
 clear H; go_wp2
 go_meet
 case rel => exact ⟨_, ((b == 8)), q_r, q, ⟨by first | omega | exact Nat.le_refl _⟩, by repeat (first | exact Drawn0.refl _ | apply Drawn0.step)⟩}})
 case rest => (
 clear p c2 c2b0 c2b1 y c3b0 c3b1; obtain ⟨kq, l, rfl, HA, B, ⟨C, rfl⟩⟩ := hcut; cases kq with
 | zero => exact absurd HA.out (by simp [r6_what.j0])
 | succ D => (
 have H := HA.out; clear HA; simp only [r6_what.j0] at H
 by_cases c7 : l = true
 {
 subst c7; rw [if_pos rfl] at H; obtain rfl := Option.some.inj H; go_wp2
 go_ret
 exact ⟨by first | rfl | (simp; done) | (simp [*]; done), by repeat (first | exact Drawn0.refl _ | apply Drawn0.step)⟩}
 {
 replace c7 := Bool.eq_false_iff.mpr c7; subst c7; rw [if_neg Bool.false_ne_true] at H; replace H := q_iBN H; rcases H with ⟨-, c8b0, c8b1, H⟩ | ⟨F, c8b0, c8b1, H⟩
 {
 obtain rfl := Option.some.inj H; go_wp2
 go_ret
 exact ⟨by first | rfl | (simp; done) | (simp [*]; done), by repeat (first | exact Drawn0.refl _ | apply Drawn0.step)⟩}
 {
 replace H := q_iBN H; rcases H with ⟨-, c9b0, c9b1, H⟩ | ⟨G, c9b0, c9b1, H⟩
 {
 obtain rfl := Option.some.inj H; go_wp2
 go_ret
 exact ⟨by first | rfl | (simp; done) | (simp [*]; done), by repeat (first | exact Drawn0.refl _ | apply Drawn0.step)⟩}
 {
 obtain rfl := Option.some.inj H; go_wp2
 go_ret
 exact ⟨by first | rfl | (simp; done) | (simp [*]; done), by repeat (first | exact Drawn0.refl _ | apply Drawn0.step)⟩}}}))}}
mutual
def r6_instr.j0 : Nat → Int → Bool → ByteArray → List (S83) → List (S85) → Int → List (S69) → Int → Int → Int → Int → Int → Int → List Int → Option (Bool)
 | 0, _, _, _, _, _, _, _, _, _, _, _, _, _, _ => none
 | k + 1, L, V, F, q, y, l, G, p, z, B, C, D, E, b => if V = true then (some false) else ((r6_Has.f k p).bind fun I => ((r6_reg.f I.1 B l).bind fun M => (if M = true then ((r6_reg.f I.2.1 C l).bind fun N => (if N = true then ((r6_reg.f I.2.2 D l).bind fun O => (if O = true then ((r6_how.f p).bind fun R => ((r6_Sign.f k R z).bind fun S => (if S = true then ((r6_what.f k p).bind fun T => ((r6_Word.f T E q y).bind fun U => (r6_instr.j1 k L (!U) F q y l G p z B C D E b))) else (r6_instr.j1 k L true F q y l G p z B C D E b)))) else (r6_instr.j1 k L true F q y l G p z B C D E b))) else (r6_instr.j1 k L true F q y l G p z B C D E b))) else (r6_instr.j1 k L true F q y l G p z B C D E b))))
def r6_instr.j1 : Nat → Int → Bool → ByteArray → List (S83) → List (S85) → Int → List (S69) → Int → Int → Int → Int → Int → Int → List Int → Option (Bool)
 | 0, _, _, _, _, _, _, _, _, _, _, _, _, _, _ => none
 | k + 1, L, X, F, q, y, l, G, p, z, B, C, D, E, b => if X = true then (some false) else (if p = 11 then (r6_instr.l0 k L 0 F q y l G p z B C D E b) else (some ((b.length : Int) == 0)))
def r6_instr.l0 : Nat → Int → Int → ByteArray → List (S83) → List (S85) → Int → List (S69) → Int → Int → Int → Int → Int → Int → List Int → Option (Bool)
 | 0, _, _, _, _, _, _, _, _, _, _, _, _, _, _ => none
 | k + 1, L, J, F, q, y, l, G, p, z, B, C, D, E, b => if J < (b.length : Int) then (if 0 ≤ J then (if (rd b J) < 0 then (some false) else (if (rd b J) ≥ l then (some false) else (r6_instr.l0 k L (wrap64 (J + 1)) F q y l G p z B C D E b))) else (none)) else (some ((b.length : Int) == L))
end
def r6_instr.f (k : Nat) (l : ByteArray) (p : List (S83)) (q : List (S85)) (y : Int) (z : List (S69)) (b : Int) (B : Int) (C : Int) (D : Int) (E : Int) (F : Int) (G : List Int) (I : Int) : Option (Bool) := if b < 0 then (r6_instr.j0 k I true l p q y z b B C D E F G) else (r6_instr.j0 k I (decide (b ≥ 12)) l p q y z b B C D E F G)
def r6_instr.T4 : Bool × List (List Nat × List Nat) := (true, [([], []), ([], []), ([1], [1]), ([], []), ([3], [3]), ([0, 2, 4], [0, 2, 4]), ([5], [5]), ([6, 5], [6]), ([7], [7]), ([7], [7]), ([9, 7], [7, 9]), ([7], [7]), ([11, 7], [7, 11]), ([8, 10, 12, 7, 7], [7, 8, 10, 12]), ([13, 7], [7, 13]), ([7, 14], [7, 14]), ([15, 13], [15]), ([16], [16]), ([16], [16]), ([18, 16], [16, 18]), ([16], [16]), ([20, 16], [16, 20]), ([17, 19, 21, 16, 16], [16, 17, 19, 21]), ([22, 16], [16, 22]), ([16, 23], [16, 23]), ([24, 22], [24]), ([25], [25]), ([26, 25], [25, 26]), ([27, 25, 25], [25, 27]), ([25], [25]), ([29, 25], [25, 29]), ([28, 30, 28, 25], [25, 28, 30]), ([31, 25], [25, 31]), ([25, 32], [25, 32]), ([33, 31], [33]), ([34], [34]), ([35, 34], [34, 35]), ([36, 34, 34], [34, 36]), ([34], [34]), ([38, 34], [34, 38]), ([34], [34]), ([40, 34], [34, 40]), ([34], [34]), ([42, 34], [34, 42]), ([37, 39, 41, 43, 37, 34], [34, 37, 39, 41, 43]), ([44, 34], [34, 44]), ([34, 45], [34, 45])])
def r6_instr.B4 : List Nat := [0, 0, 2, 0, 8, 31, 63, 127, 255, 255, 767, 255, 2303, 8191, 16383, 32767, 65535, 131071, 131071, 393215, 131071, 1179647, 4194303, 8388607, 16777215, 33554431, 67108863, 134217727, 268435455, 67108863, 603979775, 2147483647, 4294967295, 8589934591, 17179869183, 34359738367, 68719476735, 137438953471, 34359738367, 309237645311, 34359738367, 1133871366143, 34359738367, 4432406249471, 17592186044415, 35184372088831, 70368744177663]
theorem r6_instr.tab4 : rtab .any (opsOf Tryd.f49 4) = r6_instr.T4 := by kernel_rfl
theorem r6_instr.bits4 : waitsOk r6_instr.T4.2 r6_instr.B4 = true := by kernel_rfl
def r6_instr.T11 : Bool × List (List Nat × List Nat) := (true, [([], []), ([0], [0]), ([], []), ([1, 2], [1, 2]), ([3], [3]), ([4], [4]), ([5], [5]), ([6], [6]), ([7, 6], [6, 7]), ([6], [6]), ([8, 9, 6], [6, 8, 9]), ([10, 6], [6, 10]), ([6], [6]), ([12, 6], [6, 12]), ([11, 13, 6], [6, 11, 13]), ([6, 14], [6, 14])])
def r6_instr.B11 : List Nat := [0, 1, 0, 7, 15, 31, 63, 127, 255, 127, 1023, 2047, 127, 4223, 16383, 32767]
theorem r6_instr.tab11 : rtab .any (opsOf Tryd.f49 11) = r6_instr.T11 := by kernel_rfl
theorem r6_instr.bits11 : waitsOk r6_instr.T11.2 r6_instr.B11 = true := by kernel_rfl
theorem r6_instr.calls (k : Nat) (a0 : ByteArray) (a9 : Option Addr) (b0 : Nat) (J : List (S83)) (b1 : Option Addr) (b2 : Nat) (L : List (S85)) (y : Int) (b5 : Option Addr) (b6 : Nat) (T : List (S69)) (B : Int) (M : Int) (E : Int) (G : Int) (I : Int) (O : Int) (b8 : Option Addr) (b3 : Nat) (D : List Int) (a2 : Int) (r : Bool) (w : World) (e4 : Kd.C k83 w a9 J.length J) (e5 : J.length ≤ b0) (e6 : Kd.C k85 w b1 L.length L) (e7 : L.length ≤ b2) (e8 : Kd.C k69 w b5 T.length T) (e9 : T.length ≤ b6) (f0 : Kd.C (Kd.int .i64) w b8 D.length D) (f1 : D.length ≤ b3) (h : r6_instr.f k a0 J L y T B M E G I O D a2 = some r) :
  Calls Tryd.prog 49 #[.agg #[.string a0, .slice a9 J.length b0, .slice b1 L.length b2, .int .i64 y, .slice b5 T.length b6], .agg #[.int .i64 B, .int .i64 M, .int .i64 E, .int .i64 G, .int .i64 I, .int .i32 O, .slice b8 D.length b3], .int .i64 a2] w fun e w' => e = .returned (.bool r) ∧ Below w.heap.size w w' := by
 have C7 := Tryd.underlying26; have C8 := Tryd.underlying71; have k5 := a_ e4; have k6 := a_ e5; clear e4 e5; have k7 := a_ e6; have k8 := a_ e7; clear e6 e7; have z4 := a_ e8; have z5 := a_ e9; clear e8 e9; have d0 := a_ f0; have z6 := a_ f1; clear f0 f1; have X := a_ (Below.refl w.heap.size w); have H : (if B < 0 then (r6_instr.j0 k a2 true a0 J L y T B M E G I O D) else (r6_instr.j0 k a2 (decide (B ≥ 12)) a0 J L y T B M E G I O D)) = some r := h
 clear h; have k9 := a_ H; clear H; go_enter Tryd.func49, Tryd.ntmps49
 go_upto_region 1 with (first | ((with_reducible refine gd_ 3 rfl ?_); refine q_box 3 26 #[.string a0, .slice a9 J.length b0, .slice b1 L.length b2, .int .i64 y, .slice b5 T.length b6] ?_; intro b4 hg w5 d7 hb; have p := a_ (d7); have z7 := a_ ((q_ge X.out hg)); have R := a_ ((q_ge X.out hg)); replace X := a_ (q_st X.out hb); clear hb d7 hg) | ((with_reducible refine gd_ 4 rfl ?_); refine q_box 4 71 #[.int .i64 B, .int .i64 M, .int .i64 E, .int .i64 G, .int .i64 I, .int .i32 O, .slice b8 D.length b3] ?_; intro a8 hg w6 d7 hb; have l := a_ (d7); have z8 := a_ ((q_ge1 X.out hg R.out)); have a1 := a_ ((q_ge1 X.out hg R.out)); have U := a_ ((q_ne p.out hg)); have V := a_ ((q_en p.out hg)); replace p := a_ (q_bk p.out hb); replace X := a_ (q_st1 X.out hb R.out); clear hb d7 hg))
 (try simp only [Act.put, List.setIfInBounds_toArray, List.set_cons_zero, List.set_cons_succ])
 go_cut [18] (fun z9 wc => ∃ (kq : Nat) (d5 : Bool), z9 = .bool d5 ∧ Aside0 (r6_instr.j0 kq a2 d5 a0 J L y T B M E G I O D = some r) ∧ Aside0 (kq ≤ k) ∧ Aside0 (wc.heap[b4]? = some (.cells #[.string a0, (.slice a9 J.length b0), (.slice b1 L.length b2), .int .i64 y, (.slice b5 T.length b6)] 26 (0, 0))) ∧ Aside0 (wc.heap[a8]? = some (.cells #[.int .i64 B, .int .i64 M, .int .i64 E, .int .i64 G, .int .i64 I, .int .i32 O, (.slice b8 D.length b3)] 71 (0, 0))) ∧ Aside0 (Below w.heap.size w wc))
 case first => (
 have H := k9.out; clear k9; rcases q_ite H with ⟨c7b0, H⟩ | ⟨c7b0, H⟩
 {
 (first | rw [c7b0] | (simp only [i64_w, i32_w]; rw [c7b0]) | skip)
 have H' := a_ H
 clear H; have C9 := V.out; have D0 := U.out; obtain ⟨y0, y1, y2, y3, y4, y5, y6, y7, y8, y9, z0, z1, z2, z3⟩ := q_cf7 l.out; go_wp2
 go_meet
 case rel => exact ⟨_, (true), q_r, H', ⟨by first | omega | exact Nat.le_refl _⟩, ⟨q_k p.out⟩, ⟨q_k l.out⟩, ⟨q_w2 X.out R.out a1.out⟩⟩}
 {
 (first | rw [c7b0] | (simp only [i64_w, i32_w]; rw [c7b0]) | skip)
 have H' := a_ H
 clear H; have A0 := V.out; have A1 := U.out; obtain ⟨l5, l6, l7, l8, l9, n0, n1, n2, n3, n4, n5, n6, n7, n8⟩ := q_cf7 l.out; go_wp2
 go_meet
 case rel => exact ⟨_, (decide (B ≥ 12)), q_r, H', ⟨by first | omega | exact Nat.le_refl _⟩, ⟨q_k p.out⟩, ⟨q_k l.out⟩, ⟨q_w2 X.out R.out a1.out⟩⟩})
 case rest => (
 clear k9; obtain ⟨kq, d5, rfl, HA, e0, p, l, X⟩ := hcut; cases kq with
 | zero => exact absurd HA.out (by simp [r6_instr.j0])
 | succ c8 => (
 have H := HA.out; clear HA; simp only [r6_instr.j0] at H
 by_cases i3 : d5 = true
 {
 subst i3; rw [if_pos rfl] at H; obtain rfl := Option.some.inj H; go_wp2
 go_ret
 exact ⟨q_e, q_w2 X.out R.out a1.out⟩}
 {
 replace i3 := Bool.eq_false_iff.mpr i3; subst i3; rw [if_neg Bool.false_ne_true] at H; replace H := Option.bind_eq_some_iff.mp H; obtain ⟨⟨b7, c3, c4⟩, j3, H⟩ := H; replace H : ((r6_reg.f b7 E y).bind fun f2 => (if f2 = true then ((r6_reg.f c3 G y).bind fun f3 => (if f3 = true then ((r6_reg.f c4 I y).bind fun f4 => (if f4 = true then ((r6_how.f B).bind fun c6 => ((r6_Sign.f c8 c6 M).bind fun f5 => (if f5 = true then ((r6_what.f c8 B).bind fun d8 => ((r6_Word.f d8 O J L).bind fun e2 => (r6_instr.j1 c8 a2 (!e2) a0 J L y T B M E G I O D))) else (r6_instr.j1 c8 a2 true a0 J L y T B M E G I O D)))) else (r6_instr.j1 c8 a2 true a0 J L y T B M E G I O D))) else (r6_instr.j1 c8 a2 true a0 J L y T B M E G I O D))) else (r6_instr.j1 c8 a2 true a0 J L y T B M E G I O D))) = some r := H
 have A2 := a_ j3; clear j3; have f6 := a_ H; clear H; have A3 := V.out; have A4 := U.out; obtain ⟨n9, o0, o1, o2, o3, o4, o5, o6, o7, o8, o9, p0, p1, p2⟩ := q_cf7 l.out; go_upto_region 4 with (first | ((with_reducible refine gc_ 37 rfl ?_); refine q_gl 22 #[.int .i64 B] Tryd.func37 rfl ?_; (with_reducible refine (r6_Has.calls c8 B b7 c3 c4 _ A2.out).mono ?_); rintro e w' ⟨rfl, ⟨nd, rfl⟩⟩; refine ⟨_, rfl, ?_⟩))
 have a4 := a_ (blk_drewN p.out nd); have a5 := a_ (blk_drewN l.out nd); have a6 := a_ (pw_below_drewN X.out nd); clear p l X; have p := a4; have l := a5; have X := a6; clear a4 a5 a6; generalize World.drewN wc nd = wc at p l X ⊢
 (try simp only [Act.put, List.setIfInBounds_toArray, List.set_cons_zero, List.set_cons_succ])
 go_cut [72] (fun A5 wc => ∃ (kq : Nat) (c9 : Bool), A5 = .bool c9 ∧ Aside0 (r6_instr.j1 kq a2 c9 a0 J L y T B M E G I O D = some r) ∧ Aside0 (kq ≤ c8) ∧ Aside0 (wc.heap[b4]? = some (.cells #[.string a0, (.slice a9 J.length b0), (.slice b1 L.length b2), .int .i64 y, (.slice b5 T.length b6)] 26 (0, 0))) ∧ Aside0 (wc.heap[a8]? = some (.cells #[.int .i64 B, .int .i64 M, .int .i64 E, .int .i64 G, .int .i64 I, .int .i32 O, (.slice b8 D.length b3)] 71 (0, 0))) ∧ Aside0 (Below w.heap.size w wc))
 case first => (
 have H := f6.out; clear f6; replace H := Option.bind_eq_some_iff.mp H; obtain ⟨f2, j5, H⟩ := H; have f7 := a_ j5; clear j5; by_cases i4 : f2 = true
 {
 subst i4; rw [if_pos rfl] at H; replace H := Option.bind_eq_some_iff.mp H; obtain ⟨f3, j6, H⟩ := H; have i5 := a_ j6; clear j6; by_cases i6 : f3 = true
 {
 subst i6; rw [if_pos rfl] at H; replace H := Option.bind_eq_some_iff.mp H; obtain ⟨f4, j7, H⟩ := H; have l4 := a_ j7; clear j7; by_cases i7 : f4 = true
 {
 subst i7; rw [if_pos rfl] at H; replace H := Option.bind_eq_some_iff.mp H; obtain ⟨c6, j8, H⟩ := H; have p3 := a_ j8; clear j8; replace H := Option.bind_eq_some_iff.mp H; obtain ⟨f5, j9, H⟩ := H; have p4 := a_ j9; clear j9; by_cases i8 : f5 = true
 {
 subst i8; rw [if_pos rfl] at H; replace H := Option.bind_eq_some_iff.mp H; obtain ⟨d8, k0, H⟩ := H; have A6 := a_ k0; clear k0; replace H := Option.bind_eq_some_iff.mp H; obtain ⟨e2, k1, H⟩ := H; have A7 := a_ k1; clear k1; have H' := a_ H
 clear H; try go_wp2
 have a4 := a_ (blk_drew p.out); have a5 := a_ (blk_drew l.out); have a6 := a_ (below_drew1 X.out); clear p l X; have p := a4; have l := a5; have X := a6; clear a4 a5 a6; refine q_s 47 (S := fun w' => cg7 w' a8 (.int .i64 B) (.int .i64 M) (.int .i64 E) (.int .i64 G) (.int .i64 I) (.int .i32 O) (.slice b8 D.length b3) (cg5_ w' b4 (.string a0) (.slice a9 J.length b0) (.slice b1 L.length b2) (.int .i64 y) (.slice b5 T.length b6))) (q_g7 l.out (q_g5_ p.out)) (fun q => ?_); refine with_tabW r6_instr.tab4 r6_instr.bits4 (fun b F => ?_)
 generalize wc.drew = D1 at p l X q ⊢
 refine qv_ 0 b ?_
 refine qv_ 1 b ?_
 refine qv_ 3 b ?_
 refine qt12_ 2 b F q ?_
 refine qt12_ 4 b F q ?_
 refine q_o 5 b (fun K hK => ?_)
 refine q_go #[.bool b7, .int .i64 E, .int .i64 y] Tryd.func65 rfl ?_
 with_reducible refine (r6_reg.calls b7 E y true _ f7.out).mono ?_
 rintro e w' ⟨rfl, ⟨nd, rfl⟩⟩
 refine ⟨_, rfl, ?_⟩
 refine q_nk hK.out (q_g7 l.out (q_g5_ p.out)) (fun q => ?_)
 clear hK K
 refine qv_ 6 b ?_
 refine qv_ 7 b ?_
 refine qv_ 8 b ?_
 refine qv_ 9 b ?_
 refine qv_ 11 b ?_
 refine qt12_ 10 b F q ?_
 refine qt12_ 12 b F q ?_
 refine q_o 13 b (fun K hK => ?_)
 refine q_go #[.bool c3, .int .i64 G, .int .i64 y] Tryd.func65 rfl ?_
 with_reducible refine (r6_reg.calls c3 G y true _ i5.out).mono ?_
 rintro e w' ⟨rfl, ⟨nd, rfl⟩⟩
 refine ⟨_, rfl, ?_⟩
 refine q_nk hK.out (q_g7 l.out (q_g5_ p.out)) (fun q => ?_)
 clear hK K
 refine qv_ 14 b ?_
 refine qv_ 15 b ?_
 refine qv_ 16 b ?_
 refine qv_ 17 b ?_
 refine qv_ 18 b ?_
 refine qv_ 20 b ?_
 refine qt12_ 19 b F q ?_
 refine qt12_ 21 b F q ?_
 refine q_o 22 b (fun K hK => ?_)
 refine q_go #[.bool c4, .int .i64 I, .int .i64 y] Tryd.func65 rfl ?_
 with_reducible refine (r6_reg.calls c4 I y true _ l4.out).mono ?_
 rintro e w' ⟨rfl, ⟨nd, rfl⟩⟩
 refine ⟨_, rfl, ?_⟩
 refine q_nk hK.out (q_g7 l.out (q_g5_ p.out)) (fun q => ?_)
 clear hK K
 refine qv_ 23 b ?_
 refine qv_ 24 b ?_
 refine qv_ 25 b ?_
 refine qv_ 26 b ?_
 refine qv_ 29 b ?_
 refine qt12_ 27 b F q ?_
 refine qt12_ 30 b F q ?_
 refine q_o 28 b (fun K hK => ?_)
 refine q_go #[.int .i64 B] Tryd.func67 rfl ?_
 with_reducible refine (r6_how.calls B c6 _ p3.out).mono ?_
 rintro e w' ⟨rfl, ⟨nd, rfl⟩⟩
 refine ⟨_, rfl, ?_⟩
 refine q_nk hK.out (q_g7 l.out (q_g5_ p.out)) (fun q => ?_)
 clear hK K
 refine q_o 31 b (fun K hK => ?_)
 refine q_go #[.int .i64 c6, .int .i64 M] Tryd.func66 rfl ?_
 with_reducible refine (r6_Sign.calls c8 c6 M true _ p4.out).mono ?_
 rintro e w' ⟨rfl, ⟨nd, rfl⟩⟩
 refine ⟨_, rfl, ?_⟩
 refine q_nk hK.out (q_g7 l.out (q_g5_ p.out)) (fun q => ?_)
 clear hK K
 refine qv_ 32 b ?_
 refine qv_ 33 b ?_
 refine qv_ 34 b ?_
 refine qv_ 35 b ?_
 refine qv_ 38 b ?_
 refine qv_ 40 b ?_
 refine qv_ 42 b ?_
 refine qt12_ 36 b F q ?_
 refine qt12_ 39 b F q ?_
 refine qt12_ 41 b F q ?_
 refine qt12_ 43 b F q ?_
 refine q_o 37 b (fun K hK => ?_)
 refine q_go #[.int .i64 B] Tryd.func69 rfl ?_
 with_reducible refine (r6_what.calls c8 B d8 _ A6.out).mono ?_
 rintro e w' ⟨rfl, ⟨nd, rfl⟩⟩
 refine ⟨_, rfl, ?_⟩
 refine q_nk hK.out (q_g7 l.out (q_g5_ p.out)) (fun q => ?_)
 clear hK K
 refine q_o 44 b (fun K hK => ?_)
 refine q_go #[.int .i64 d8, .int .i32 O, .slice a9 J.length b0, .slice b1 L.length b2] Tryd.func68 rfl ?_
 with_reducible refine (r6_Word.calls d8 O _ _ J _ _ L e2 _ (q_C (Kd.C_below k5.out (q_w2 X.out R.out a1.out))) k6.out (q_C (Kd.C_below k7.out (q_w2 X.out R.out a1.out))) k8.out A7.out).mono ?_
 rintro e w' ⟨rfl, ⟨nd, rfl⟩⟩
 refine ⟨_, rfl, ?_⟩
 refine q_nk hK.out (q_g7 l.out (q_g5_ p.out)) (fun q => ?_)
 clear hK K
 refine qv_ 45 b ?_
 refine qv_ 46 b ?_
 refine done_ (done_of b.out (by kernel_rfl)) ?_
 try go_wp2
 go_meet
 case rel => exact ⟨_, (!e2), q_r, H', ⟨by have := e0.out; first | omega | exact Nat.le_refl _⟩, ⟨q_k p.out⟩, ⟨q_k l.out⟩, ⟨q_w2 X.out R.out a1.out⟩⟩}
 {
 replace i8 := Bool.eq_false_iff.mpr i8; subst i8; rw [if_neg Bool.false_ne_true] at H; have H' := a_ H
 clear H; try go_wp2
 have a4 := a_ (blk_drew p.out); have a5 := a_ (blk_drew l.out); have a6 := a_ (below_drew1 X.out); clear p l X; have p := a4; have l := a5; have X := a6; clear a4 a5 a6; refine q_s 47 (S := fun w' => cg7 w' a8 (.int .i64 B) (.int .i64 M) (.int .i64 E) (.int .i64 G) (.int .i64 I) (.int .i32 O) (.slice b8 D.length b3) (cg5_ w' b4 (.string a0) (.slice a9 J.length b0) (.slice b1 L.length b2) (.int .i64 y) (.slice b5 T.length b6))) (q_g7 l.out (q_g5_ p.out)) (fun q => ?_); refine with_tabW r6_instr.tab4 r6_instr.bits4 (fun b F => ?_)
 generalize wc.drew = D2 at p l X q ⊢
 refine qv_ 0 b ?_
 refine qv_ 1 b ?_
 refine qv_ 3 b ?_
 refine qt12_ 2 b F q ?_
 refine qt12_ 4 b F q ?_
 refine q_o 5 b (fun K hK => ?_)
 refine q_go #[.bool b7, .int .i64 E, .int .i64 y] Tryd.func65 rfl ?_
 with_reducible refine (r6_reg.calls b7 E y true _ f7.out).mono ?_
 rintro e w' ⟨rfl, ⟨nd, rfl⟩⟩
 refine ⟨_, rfl, ?_⟩
 refine q_nk hK.out (q_g7 l.out (q_g5_ p.out)) (fun q => ?_)
 clear hK K
 refine qv_ 6 b ?_
 refine qv_ 7 b ?_
 refine qv_ 8 b ?_
 refine qv_ 9 b ?_
 refine qv_ 11 b ?_
 refine qt12_ 10 b F q ?_
 refine qt12_ 12 b F q ?_
 refine q_o 13 b (fun K hK => ?_)
 refine q_go #[.bool c3, .int .i64 G, .int .i64 y] Tryd.func65 rfl ?_
 with_reducible refine (r6_reg.calls c3 G y true _ i5.out).mono ?_
 rintro e w' ⟨rfl, ⟨nd, rfl⟩⟩
 refine ⟨_, rfl, ?_⟩
 refine q_nk hK.out (q_g7 l.out (q_g5_ p.out)) (fun q => ?_)
 clear hK K
 refine qv_ 14 b ?_
 refine qv_ 15 b ?_
 refine qv_ 16 b ?_
 refine qv_ 17 b ?_
 refine qv_ 18 b ?_
 refine qv_ 20 b ?_
 refine qt12_ 19 b F q ?_
 refine qt12_ 21 b F q ?_
 refine q_o 22 b (fun K hK => ?_)
 refine q_go #[.bool c4, .int .i64 I, .int .i64 y] Tryd.func65 rfl ?_
 with_reducible refine (r6_reg.calls c4 I y true _ l4.out).mono ?_
 rintro e w' ⟨rfl, ⟨nd, rfl⟩⟩
 refine ⟨_, rfl, ?_⟩
 refine q_nk hK.out (q_g7 l.out (q_g5_ p.out)) (fun q => ?_)
 clear hK K
 refine qv_ 23 b ?_
 refine qv_ 24 b ?_
 refine qv_ 25 b ?_
 refine qv_ 26 b ?_
 refine qv_ 29 b ?_
 refine qt12_ 27 b F q ?_
 refine qt12_ 30 b F q ?_
 refine q_o 28 b (fun K hK => ?_)
 refine q_go #[.int .i64 B] Tryd.func67 rfl ?_
 with_reducible refine (r6_how.calls B c6 _ p3.out).mono ?_
 rintro e w' ⟨rfl, ⟨nd, rfl⟩⟩
 refine ⟨_, rfl, ?_⟩
 refine q_nk hK.out (q_g7 l.out (q_g5_ p.out)) (fun q => ?_)
 clear hK K
 refine q_o 31 b (fun K hK => ?_)
 refine q_go #[.int .i64 c6, .int .i64 M] Tryd.func66 rfl ?_
 with_reducible refine (r6_Sign.calls c8 c6 M false _ p4.out).mono ?_
 rintro e w' ⟨rfl, ⟨nd, rfl⟩⟩
 refine ⟨_, rfl, ?_⟩
 refine q_nk hK.out (q_g7 l.out (q_g5_ p.out)) (fun q => ?_)
 clear hK K
 refine qv_ 32 b ?_
 refine qv_ 33 b ?_
 refine qv_ 34 b ?_
 refine qu_ 35 b ?_
 refine qu_ 36 b ?_
 refine qu_ 37 b ?_
 refine qu_ 38 b ?_
 refine qu_ 39 b ?_
 refine qu_ 40 b ?_
 refine qu_ 41 b ?_
 refine qu_ 42 b ?_
 refine qu_ 43 b ?_
 refine qu_ 44 b ?_
 refine qu_ 45 b ?_
 refine qv_ 46 b ?_
 refine done_ (done_of b.out (by kernel_rfl)) ?_
 try go_wp2
 go_meet
 case rel => exact ⟨_, (true), q_r, H', ⟨by have := e0.out; first | omega | exact Nat.le_refl _⟩, ⟨q_k p.out⟩, ⟨q_k l.out⟩, ⟨q_w2 X.out R.out a1.out⟩⟩}}
 {
 replace i7 := Bool.eq_false_iff.mpr i7; subst i7; rw [if_neg Bool.false_ne_true] at H; have H' := a_ H
 clear H; try go_wp2
 have a4 := a_ (blk_drew p.out); have a5 := a_ (blk_drew l.out); have a6 := a_ (below_drew1 X.out); clear p l X; have p := a4; have l := a5; have X := a6; clear a4 a5 a6; refine q_s 47 (S := fun w' => cg7 w' a8 (.int .i64 B) (.int .i64 M) (.int .i64 E) (.int .i64 G) (.int .i64 I) (.int .i32 O) (.slice b8 D.length b3) (cg5_ w' b4 (.string a0) (.slice a9 J.length b0) (.slice b1 L.length b2) (.int .i64 y) (.slice b5 T.length b6))) (q_g7 l.out (q_g5_ p.out)) (fun q => ?_); refine with_tabW r6_instr.tab4 r6_instr.bits4 (fun b F => ?_)
 generalize wc.drew = D3 at p l X q ⊢
 refine qv_ 0 b ?_
 refine qv_ 1 b ?_
 refine qv_ 3 b ?_
 refine qt12_ 2 b F q ?_
 refine qt12_ 4 b F q ?_
 refine q_o 5 b (fun K hK => ?_)
 refine q_go #[.bool b7, .int .i64 E, .int .i64 y] Tryd.func65 rfl ?_
 with_reducible refine (r6_reg.calls b7 E y true _ f7.out).mono ?_
 rintro e w' ⟨rfl, ⟨nd, rfl⟩⟩
 refine ⟨_, rfl, ?_⟩
 refine q_nk hK.out (q_g7 l.out (q_g5_ p.out)) (fun q => ?_)
 clear hK K
 refine qv_ 6 b ?_
 refine qv_ 7 b ?_
 refine qv_ 8 b ?_
 refine qv_ 9 b ?_
 refine qv_ 11 b ?_
 refine qt12_ 10 b F q ?_
 refine qt12_ 12 b F q ?_
 refine q_o 13 b (fun K hK => ?_)
 refine q_go #[.bool c3, .int .i64 G, .int .i64 y] Tryd.func65 rfl ?_
 with_reducible refine (r6_reg.calls c3 G y true _ i5.out).mono ?_
 rintro e w' ⟨rfl, ⟨nd, rfl⟩⟩
 refine ⟨_, rfl, ?_⟩
 refine q_nk hK.out (q_g7 l.out (q_g5_ p.out)) (fun q => ?_)
 clear hK K
 refine qv_ 14 b ?_
 refine qv_ 15 b ?_
 refine qv_ 16 b ?_
 refine qv_ 17 b ?_
 refine qv_ 18 b ?_
 refine qv_ 20 b ?_
 refine qt12_ 19 b F q ?_
 refine qt12_ 21 b F q ?_
 refine q_o 22 b (fun K hK => ?_)
 refine q_go #[.bool c4, .int .i64 I, .int .i64 y] Tryd.func65 rfl ?_
 with_reducible refine (r6_reg.calls c4 I y false _ l4.out).mono ?_
 rintro e w' ⟨rfl, ⟨nd, rfl⟩⟩
 refine ⟨_, rfl, ?_⟩
 refine q_nk hK.out (q_g7 l.out (q_g5_ p.out)) (fun q => ?_)
 clear hK K
 refine qv_ 23 b ?_
 refine qv_ 24 b ?_
 refine qv_ 25 b ?_
 refine qu_ 26 b ?_
 refine qu_ 27 b ?_
 refine qu_ 28 b ?_
 refine qu_ 29 b ?_
 refine qu_ 30 b ?_
 refine qu_ 31 b ?_
 refine qu_ 32 b ?_
 refine qv_ 33 b ?_
 refine qv_ 34 b ?_
 refine qu_ 35 b ?_
 refine qu_ 36 b ?_
 refine qu_ 37 b ?_
 refine qu_ 38 b ?_
 refine qu_ 39 b ?_
 refine qu_ 40 b ?_
 refine qu_ 41 b ?_
 refine qu_ 42 b ?_
 refine qu_ 43 b ?_
 refine qu_ 44 b ?_
 refine qu_ 45 b ?_
 refine qv_ 46 b ?_
 refine done_ (done_of b.out (by kernel_rfl)) ?_
 try go_wp2
 go_meet
 case rel => exact ⟨_, (true), q_r, H', ⟨by have := e0.out; first | omega | exact Nat.le_refl _⟩, ⟨q_k p.out⟩, ⟨q_k l.out⟩, ⟨q_w2 X.out R.out a1.out⟩⟩}}
 {
 replace i6 := Bool.eq_false_iff.mpr i6; subst i6; rw [if_neg Bool.false_ne_true] at H; have H' := a_ H
 clear H; try go_wp2
 have a4 := a_ (blk_drew p.out); have a5 := a_ (blk_drew l.out); have a6 := a_ (below_drew1 X.out); clear p l X; have p := a4; have l := a5; have X := a6; clear a4 a5 a6; refine q_s 47 (S := fun w' => cg7 w' a8 (.int .i64 B) (.int .i64 M) (.int .i64 E) (.int .i64 G) (.int .i64 I) (.int .i32 O) (.slice b8 D.length b3) (cg5_ w' b4 (.string a0) (.slice a9 J.length b0) (.slice b1 L.length b2) (.int .i64 y) (.slice b5 T.length b6))) (q_g7 l.out (q_g5_ p.out)) (fun q => ?_); refine with_tabW r6_instr.tab4 r6_instr.bits4 (fun b F => ?_)
 generalize wc.drew = D4 at p l X q ⊢
 refine qv_ 0 b ?_
 refine qv_ 1 b ?_
 refine qv_ 3 b ?_
 refine qt12_ 2 b F q ?_
 refine qt12_ 4 b F q ?_
 refine q_o 5 b (fun K hK => ?_)
 refine q_go #[.bool b7, .int .i64 E, .int .i64 y] Tryd.func65 rfl ?_
 with_reducible refine (r6_reg.calls b7 E y true _ f7.out).mono ?_
 rintro e w' ⟨rfl, ⟨nd, rfl⟩⟩
 refine ⟨_, rfl, ?_⟩
 refine q_nk hK.out (q_g7 l.out (q_g5_ p.out)) (fun q => ?_)
 clear hK K
 refine qv_ 6 b ?_
 refine qv_ 7 b ?_
 refine qv_ 8 b ?_
 refine qv_ 9 b ?_
 refine qv_ 11 b ?_
 refine qt12_ 10 b F q ?_
 refine qt12_ 12 b F q ?_
 refine q_o 13 b (fun K hK => ?_)
 refine q_go #[.bool c3, .int .i64 G, .int .i64 y] Tryd.func65 rfl ?_
 with_reducible refine (r6_reg.calls c3 G y false _ i5.out).mono ?_
 rintro e w' ⟨rfl, ⟨nd, rfl⟩⟩
 refine ⟨_, rfl, ?_⟩
 refine q_nk hK.out (q_g7 l.out (q_g5_ p.out)) (fun q => ?_)
 clear hK K
 refine qv_ 14 b ?_
 refine qv_ 15 b ?_
 refine qv_ 16 b ?_
 refine qu_ 17 b ?_
 refine qu_ 18 b ?_
 refine qu_ 19 b ?_
 refine qu_ 20 b ?_
 refine qu_ 21 b ?_
 refine qu_ 22 b ?_
 refine qu_ 23 b ?_
 refine qv_ 24 b ?_
 refine qv_ 25 b ?_
 refine qu_ 26 b ?_
 refine qu_ 27 b ?_
 refine qu_ 28 b ?_
 refine qu_ 29 b ?_
 refine qu_ 30 b ?_
 refine qu_ 31 b ?_
 refine qu_ 32 b ?_
 refine qv_ 33 b ?_
 refine qv_ 34 b ?_
 refine qu_ 35 b ?_
 refine qu_ 36 b ?_
 refine qu_ 37 b ?_
 refine qu_ 38 b ?_
 refine qu_ 39 b ?_
 refine qu_ 40 b ?_
 refine qu_ 41 b ?_
 refine qu_ 42 b ?_
 refine qu_ 43 b ?_
 refine qu_ 44 b ?_
 refine qu_ 45 b ?_
 refine qv_ 46 b ?_
 refine done_ (done_of b.out (by kernel_rfl)) ?_
 try go_wp2
 go_meet
 case rel => exact ⟨_, (true), q_r, H', ⟨by have := e0.out; first | omega | exact Nat.le_refl _⟩, ⟨q_k p.out⟩, ⟨q_k l.out⟩, ⟨q_w2 X.out R.out a1.out⟩⟩}}
 {
 replace i4 := Bool.eq_false_iff.mpr i4; subst i4; rw [if_neg Bool.false_ne_true] at H; have H' := a_ H
 clear H; try go_wp2
 have a4 := a_ (blk_drew p.out); have a5 := a_ (blk_drew l.out); have a6 := a_ (below_drew1 X.out); clear p l X; have p := a4; have l := a5; have X := a6; clear a4 a5 a6; refine q_s 47 (S := fun w' => cg7 w' a8 (.int .i64 B) (.int .i64 M) (.int .i64 E) (.int .i64 G) (.int .i64 I) (.int .i32 O) (.slice b8 D.length b3) (cg5_ w' b4 (.string a0) (.slice a9 J.length b0) (.slice b1 L.length b2) (.int .i64 y) (.slice b5 T.length b6))) (q_g7 l.out (q_g5_ p.out)) (fun q => ?_); refine with_tabW r6_instr.tab4 r6_instr.bits4 (fun b F => ?_)
 generalize wc.drew = D5 at p l X q ⊢
 refine qv_ 0 b ?_
 refine qv_ 1 b ?_
 refine qv_ 3 b ?_
 refine qt12_ 2 b F q ?_
 refine qt12_ 4 b F q ?_
 refine q_o 5 b (fun K hK => ?_)
 refine q_go #[.bool b7, .int .i64 E, .int .i64 y] Tryd.func65 rfl ?_
 with_reducible refine (r6_reg.calls b7 E y false _ f7.out).mono ?_
 rintro e w' ⟨rfl, ⟨nd, rfl⟩⟩
 refine ⟨_, rfl, ?_⟩
 refine q_nk hK.out (q_g7 l.out (q_g5_ p.out)) (fun q => ?_)
 clear hK K
 refine qv_ 6 b ?_
 refine qv_ 7 b ?_
 refine qu_ 8 b ?_
 refine qu_ 9 b ?_
 refine qu_ 10 b ?_
 refine qu_ 11 b ?_
 refine qu_ 12 b ?_
 refine qu_ 13 b ?_
 refine qu_ 14 b ?_
 refine qv_ 15 b ?_
 refine qv_ 16 b ?_
 refine qu_ 17 b ?_
 refine qu_ 18 b ?_
 refine qu_ 19 b ?_
 refine qu_ 20 b ?_
 refine qu_ 21 b ?_
 refine qu_ 22 b ?_
 refine qu_ 23 b ?_
 refine qv_ 24 b ?_
 refine qv_ 25 b ?_
 refine qu_ 26 b ?_
 refine qu_ 27 b ?_
 refine qu_ 28 b ?_
 refine qu_ 29 b ?_
 refine qu_ 30 b ?_
 refine qu_ 31 b ?_
 refine qu_ 32 b ?_
 refine qv_ 33 b ?_
 refine qv_ 34 b ?_
 refine qu_ 35 b ?_
 refine qu_ 36 b ?_
 refine qu_ 37 b ?_
 refine qu_ 38 b ?_
 refine qu_ 39 b ?_
 refine qu_ 40 b ?_
 refine qu_ 41 b ?_
 refine qu_ 42 b ?_
 refine qu_ 43 b ?_
 refine qu_ 44 b ?_
 refine qu_ 45 b ?_
 refine qv_ 46 b ?_
 refine done_ (done_of b.out (by kernel_rfl)) ?_
 try go_wp2
 go_meet
 case rel => exact ⟨_, (true), q_r, H', ⟨by have := e0.out; first | omega | exact Nat.le_refl _⟩, ⟨q_k p.out⟩, ⟨q_k l.out⟩, ⟨q_w2 X.out R.out a1.out⟩⟩})
 case rest => (
 clear f6; obtain ⟨kq, c9, rfl, HA, k2, p, l, X⟩ := hcut; cases kq with
 | zero => exact absurd HA.out (by simp [r6_instr.j1])
 | succ k4 => (
 have H := HA.out; clear HA; simp only [r6_instr.j1] at H
 by_cases i9 : c9 = true
 {
 subst i9; rw [if_pos rfl] at H; obtain rfl := Option.some.inj H; go_wp2
 go_ret
 exact ⟨q_e, q_w2 X.out R.out a1.out⟩}
 {
 replace i9 := Bool.eq_false_iff.mpr i9; subst i9; rw [if_neg Bool.false_ne_true] at H; replace H := q_iBN H; rcases H with ⟨-, c34b0, c34b1, H⟩ | ⟨D6, c34b0, c34b1, H⟩
 {
 have H' := a_ H
 clear H; have A8 := V.out; have A9 := U.out; obtain ⟨f8, f9, g0, g1, g2, g3, g4, g5, g6, g7, g8, g9, i0, i1⟩ := q_cf7 l.out; go_wp2
 go_loopg [10] k4 (fun kq B2 w' => ∃ (z : Int), B2 = .int .i64 z ∧ Aside0 (r6_instr.l0 kq a2 z a0 J L y T B M E G I O D = some r) ∧ Aside0 (kq ≤ k4) ∧ Aside0 (w'.heap[b4]? = some (.cells #[.string a0, (.slice a9 J.length b0), (.slice b1 L.length b2), .int .i64 y, (.slice b5 T.length b6)] 26 (0, 0))) ∧ Aside0 (w'.heap[a8]? = some (.cells #[.int .i64 B, .int .i64 M, .int .i64 E, .int .i64 G, .int .i64 I, .int .i32 O, (.slice b8 D.length b3)] 71 (0, 0))) ∧ Aside0 (Below w.heap.size w w'))
 case atStart => exact ⟨(0), q_r, H', ⟨Nat.le_refl _⟩, ⟨q_k p.out⟩, ⟨q_k l.out⟩, ⟨q_w2 X.out R.out a1.out⟩⟩
 case round => (
 clear H'; clear c34b0 c34b1 f8 f9 g0 g1 g2 g3 g4 g5 g6 g7 g8 g9 i0 i1; obtain ⟨z, rfl, HA, p5, p, l, X⟩ := hrel; cases gk with
 | zero => exact absurd HA.out (by simp [r6_instr.l0])
 | succ k3 => (
 have H := HA.out; clear HA; simp only [r6_instr.l0] at H
 rcases q_ite H with ⟨c37b0, H⟩ | ⟨c37b0, H⟩
 {
 replace H := q_gD H; obtain ⟨-, c38b0, H⟩ := H; rcases q_ite H with ⟨c39b0, H⟩ | ⟨c39b0, H⟩
 {
 obtain rfl := Option.some.inj H; have B3 := V.out; have B6 := U.out; obtain ⟨p6, p7, p8, p9, q0, q1, q2, q3, q4, q5, q6, q7, q8, q9⟩ := q_cf7 l.out; try go_wp2
 have a4 := a_ (blk_drew p.out); have a5 := a_ (blk_drew l.out); have a6 := a_ (below_drew1 X.out); clear p l X; have p := a4; have l := a5; have X := a6; clear a4 a5 a6; have b9 : 0 ≤ (z : Int) := q_d
 have c0 : z < (D.length : Int) := q_d
 obtain ⟨a7, d9, N⟩ := Kd.at_int d0.out z b9 c0; have c1 := N; cases d9; replace N := q_kc X.out N; replace b9 := eq_true b9; replace c0 := eq_true c0; refine q_s 16 (S := fun w' => cg7 w' a8 (.int .i64 B) (.int .i64 M) (.int .i64 E) (.int .i64 G) (.int .i64 I) (.int .i32 O) (.slice (some a7) D.length b3) (w'.cell? (a7.add (z).toNat) = some (.int .i64 (rd D z)))) (q_g7 l.out ((q_kc X.out c1))) (fun q => ?_); refine with_tabW r6_instr.tab11 r6_instr.bits11 (fun b F => ?_)
 generalize wr.drew = D8 at p l X N q ⊢
 refine qv_ 0 b ?_
 refine qv_ 2 b ?_
 refine qt8_ 1 b F q ?_
 refine qv_ 3 b ?_
 refine qt8_ 4 b F q ?_
 refine qv_ 5 b ?_
 refine qv_ 6 b ?_
 refine qu_ 7 b ?_
 refine qu_ 8 b ?_
 refine qu_ 9 b ?_
 refine qu_ 10 b ?_
 refine qu_ 11 b ?_
 refine qu_ 12 b ?_
 refine qu_ 13 b ?_
 refine qu_ 14 b ?_
 refine qv_ 15 b ?_
 refine done_ (done_of b.out (by kernel_rfl)) ?_
 try go_wp2
 go_ret
 exact ⟨q_e, q_w2 X.out R.out a1.out⟩}
 {
 rcases q_ite H with ⟨c43b0, H⟩ | ⟨c43b0, H⟩
 {
 obtain rfl := Option.some.inj H; have B7 := V.out; have C0 := U.out; obtain ⟨r0, r1, r2, r3, r4, r5, r6, r7, r8, r9, s0, s1, s2, s3⟩ := q_cf7 l.out; try go_wp2
 have a4 := a_ (blk_drew p.out); have a5 := a_ (blk_drew l.out); have a6 := a_ (below_drew1 X.out); clear p l X; have p := a4; have l := a5; have X := a6; clear a4 a5 a6; have b9 : 0 ≤ (z : Int) := q_d
 have c0 : z < (D.length : Int) := q_d
 obtain ⟨a7, d9, N⟩ := Kd.at_int d0.out z b9 c0; have c1 := N; cases d9; replace N := q_kc X.out N; replace b9 := eq_true b9; replace c0 := eq_true c0; have d1 : 0 ≤ (z : Int) := q_d
 have d2 : z < (D.length : Int) := q_d
 obtain ⟨e1, i2, a3⟩ := Kd.at_int d0.out z d1 d2; have d3 := a3; obtain rfl : a7 = e1 := (by injection i2)
 replace a3 := q_kc X.out a3; replace d1 := eq_true d1; replace d2 := eq_true d2; refine q_s 16 (S := fun w' => cg7 w' a8 (.int .i64 B) (.int .i64 M) (.int .i64 E) (.int .i64 G) (.int .i64 I) (.int .i32 O) (.slice (some a7) D.length b3) (cg5 w' b4 (.string a0) (.slice a9 J.length b0) (.slice b1 L.length b2) (.int .i64 y) (.slice b5 T.length b6) (w'.cell? (a7.add (z).toNat) = some (.int .i64 (rd D z)) ∧ w'.cell? (a7.add (z).toNat) = some (.int .i64 (rd D z))))) (q_g7 l.out (q_g5 p.out ⟨(q_kc X.out c1), (q_kc X.out d3)⟩)) (fun q => ?_); refine with_tabW r6_instr.tab11 r6_instr.bits11 (fun b F => ?_)
 generalize wr.drew = D9 at p l X N a3 q ⊢
 refine qv_ 0 b ?_
 refine qv_ 2 b ?_
 refine qt14_ 1 b F q ?_
 refine qv_ 3 b ?_
 refine qt14_ 4 b F q ?_
 refine qv_ 5 b ?_
 refine qv_ 6 b ?_
 refine qv_ 7 b ?_
 refine qv_ 9 b ?_
 refine qv_ 12 b ?_
 refine qt14_ 8 b F q ?_
 refine qv_ 10 b ?_
 refine qt14_ 11 b F q ?_
 refine qt14_ 13 b F q ?_
 refine qv_ 14 b ?_
 refine qv_ 15 b ?_
 refine done_ (done_of b.out (by kernel_rfl)) ?_
 try go_wp2
 go_ret
 exact ⟨q_e, q_w2 X.out R.out a1.out⟩}
 {
 have H' := a_ H
 clear H; have C1 := V.out; have C2 := U.out; obtain ⟨s4, s5, s6, s7, s8, s9, t0, t1, t2, t3, t4, t5, t6, t7⟩ := q_cf7 l.out; try go_wp2
 have a4 := a_ (blk_drew p.out); have a5 := a_ (blk_drew l.out); have a6 := a_ (below_drew1 X.out); clear p l X; have p := a4; have l := a5; have X := a6; clear a4 a5 a6; have b9 : 0 ≤ (z : Int) := q_d
 have c0 : z < (D.length : Int) := q_d
 obtain ⟨a7, d9, N⟩ := Kd.at_int d0.out z b9 c0; have c1 := N; cases d9; replace N := q_kc X.out N; replace b9 := eq_true b9; replace c0 := eq_true c0; have d1 : 0 ≤ (z : Int) := q_d
 have d2 : z < (D.length : Int) := q_d
 obtain ⟨e1, i2, a3⟩ := Kd.at_int d0.out z d1 d2; have d3 := a3; obtain rfl : a7 = e1 := (by injection i2)
 replace a3 := q_kc X.out a3; replace d1 := eq_true d1; replace d2 := eq_true d2; refine q_s 16 (S := fun w' => cg7 w' a8 (.int .i64 B) (.int .i64 M) (.int .i64 E) (.int .i64 G) (.int .i64 I) (.int .i32 O) (.slice (some a7) D.length b3) (cg5 w' b4 (.string a0) (.slice a9 J.length b0) (.slice b1 L.length b2) (.int .i64 y) (.slice b5 T.length b6) (w'.cell? (a7.add (z).toNat) = some (.int .i64 (rd D z)) ∧ w'.cell? (a7.add (z).toNat) = some (.int .i64 (rd D z))))) (q_g7 l.out (q_g5 p.out ⟨(q_kc X.out c1), (q_kc X.out d3)⟩)) (fun q => ?_); refine with_tabW r6_instr.tab11 r6_instr.bits11 (fun b F => ?_)
 generalize wr.drew = E0 at p l X N a3 q ⊢
 refine qv_ 0 b ?_
 refine qv_ 2 b ?_
 refine qt14_ 1 b F q ?_
 refine qv_ 3 b ?_
 refine qt14_ 4 b F q ?_
 refine qv_ 5 b ?_
 refine qv_ 6 b ?_
 refine qv_ 7 b ?_
 refine qv_ 9 b ?_
 refine qv_ 12 b ?_
 refine qt14_ 8 b F q ?_
 refine qv_ 10 b ?_
 refine qt14_ 11 b F q ?_
 refine qt14_ 13 b F q ?_
 refine qv_ 14 b ?_
 refine qv_ 15 b ?_
 refine done_ (done_of b.out (by kernel_rfl)) ?_
 try go_wp2
 go_roundg k3
 case measure => have := e0.out; have := k2.out; have := p5.out; omega
 case rel => exact ⟨(wrap64 (z + 1)), q_r, H', ⟨by have := e0.out; have := k2.out; have := p5.out; omega⟩, ⟨q_k p.out⟩, ⟨q_k l.out⟩, ⟨q_w2 X.out R.out a1.out⟩⟩}}}
 {
 obtain rfl := Option.some.inj H; have C3 := V.out; have C4 := U.out; obtain ⟨t8, t9, v0, v1, v2, v3, v4, v5, v6, v7, v8, v9, w2, w3⟩ := q_cf7 l.out; go_wp2
 go_ret
 exact ⟨q_e, q_w2 X.out R.out a1.out⟩}))}
 {
 obtain rfl := Option.some.inj H; have C5 := V.out; have C6 := U.out; obtain ⟨w4, w7, w8, w9, x0, x1, x2, x3, x4, x5, x6, x7, x8, x9⟩ := q_cf7 l.out; go_wp2
 go_ret
 exact ⟨q_e, q_w2 X.out R.out a1.out⟩}}))}))
def r6_twice.l0 : Nat → List (S71) → Int → Int → Option (Bool)
 | 0, _, _, _ => none
 | k + 1, l, p, b => if b < (l.length : Int) then (if 0 ≤ b then (if ((rd_T71 l b).f2) = p then (some true) else (r6_twice.l0 k l p (wrap64 (b + 1)))) else (none)) else (some false)
def r6_twice.f (k : Nat) (l0 : List (S71)) (b : Int) : Option (Bool) := r6_twice.l0 k l0 b 0
theorem r6_twice.calls (k : Nat) (A0 : Option Addr) (c0 : Nat) (l0 : List (S71)) (X : Int) (r : Bool) (w : World) (S : Kd.C k71 w A0 l0.length l0) (T : l0.length ≤ c0) (h : r6_twice.f k l0 X = some r) :
  Calls Tryd.prog 50 #[.slice A0 l0.length c0, .int .i64 X] w fun e w' => e = .returned (.bool r) ∧ Drawn0 w w' := by
 have U := a_ S; have a4 := a_ T; clear S T; have H : (r6_twice.l0 k l0 X 0) = some r := h
 clear h; have H' := a_ H
 clear H; go_enter Tryd.func50, Tryd.ntmps50
 go_wp2
 go_loopg [5] k (fun kq v5 w' => ∃ (p : Int), v5 = .int .i64 p ∧ Aside0 (r6_twice.l0 kq l0 X p = some r) ∧ Aside0 (kq ≤ k) ∧ Drawn0 w w')
 case atStart => exact ⟨(0), q_r, H', ⟨Nat.le_refl _⟩, by repeat (first | exact Drawn0.refl _ | apply Drawn0.step)⟩
 case round => (
 clear H'; obtain ⟨p, rfl, HA, V, ⟨m1, rfl⟩⟩ := hrel; cases gk with
 | zero => exact absurd HA.out (by simp [r6_twice.l0])
 | succ k1 => (
 have H := HA.out; clear HA; simp only [r6_twice.l0] at H
 rcases q_ite H with ⟨c3b0, H⟩ | ⟨c3b0, H⟩
 {
 replace H := q_gD H; obtain ⟨-, c4b0, H⟩ := H; replace H := q_iBN H; rcases H with ⟨-, c5b0, c5b1, H⟩ | ⟨c5, c5b0, c5b1, H⟩
 {
 obtain rfl := Option.some.inj H; have q : 0 ≤ (p : Int) := q_d
 have y : p < (l0.length : Int) := q_d
 obtain ⟨R, N, O, z, B, D, E, F, G, I, J, b, l⟩ := at_T71 U.out p q y; cases z; have L := a_ l; have M := a_ b; clear l b; replace q := eq_true q; replace y := eq_true y; go_wp2
 go_ret
 exact ⟨by first | rfl | (simp; done) | (simp [*]; done), by repeat (first | exact Drawn0.refl _ | apply Drawn0.step)⟩}
 {
 have H' := a_ H
 clear H; have q : 0 ≤ (p : Int) := q_d
 have y : p < (l0.length : Int) := q_d
 obtain ⟨R, N, O, z, B, D, E, F, G, I, J, b, l⟩ := at_T71 U.out p q y; cases z; have L := a_ l; have M := a_ b; clear l b; replace q := eq_true q; replace y := eq_true y; go_wp2
 go_roundg k1
 case measure => have := V.out; omega
 case rel => exact ⟨(wrap64 (p + 1)), q_r, H', ⟨by have := V.out; omega⟩, by repeat (first | exact Drawn0.refl _ | apply Drawn0.step)⟩}}
 {
 obtain rfl := Option.some.inj H; go_wp2
 go_ret
 exact ⟨by first | rfl | (simp; done) | (simp [*]; done), by repeat (first | exact Drawn0.refl _ | apply Drawn0.step)⟩}))
def alloc_defines.f (b : Int) (l : Int) (p : Int) (q : Int) (y : Int) (z : Int) (B : List Int) : Option (Bool) := if b = 7 then (some false) else (if b = 8 then (some false) else (some (b != 9)))
theorem alloc_defines.calls (b : Int) (z : Int) (B : Int) (D : Int) (E : Int) (F : Int) (G : Option Addr) (I : Nat) (l : List Int) (r : Bool) (w : World) (L : Kd.C (Kd.int .i64) w G l.length l) (M : l.length ≤ I) (h : alloc_defines.f b z B D E F l = some r) :
  Calls Tryd.prog 52 #[.agg #[.int .i64 b, .int .i64 z, .int .i64 B, .int .i64 D, .int .i64 E, .int .i32 F, .slice G l.length I]] w fun e w' => e = .returned (.bool r) ∧ Below w.heap.size w w' := by
 have e1 := Tryd.underlying71; have d9 := a_ L; have e0 := a_ M; clear L M; have J := a_ (Below.refl w.heap.size w); have H : (if b = 7 then (some false) else (if b = 8 then (some false) else (some (b != 9)))) = some r := h
 clear h; replace H := q_iBN H; rcases H with ⟨-, c2b0, c2b1, H⟩ | ⟨c2, c2b0, c2b1, H⟩
 {
 obtain rfl := Option.some.inj H; go_enter Tryd.func52, Tryd.ntmps52
 go_wp2_with (first | ((with_reducible refine gd_ 1 rfl ?_); refine q_box 1 71 #[.int .i64 b, .int .i64 z, .int .i64 B, .int .i64 D, .int .i64 E, .int .i32 F, .slice G l.length I] ?_; intro N hg w3 p hb; have q := a_ (p); have O := a_ ((q_ge J.out hg)); have y := a_ ((q_ge J.out hg)); replace J := a_ (q_st J.out hb); clear hb p hg; obtain ⟨R, S, T, U, V, X, a0, a1, a2, a3, a4, a5, a6, a7⟩ := q_cf7 q.out))
 go_ret
 exact ⟨q_e, q_w1 J.out y.out⟩}
 {
 replace H := q_iBN H; rcases H with ⟨-, c5b0, c5b1, H⟩ | ⟨c5, c5b0, c5b1, H⟩
 {
 obtain rfl := Option.some.inj H; go_enter Tryd.func52, Tryd.ntmps52
 go_wp2_with (first | ((with_reducible refine gd_ 1 rfl ?_); refine q_box 1 71 #[.int .i64 b, .int .i64 z, .int .i64 B, .int .i64 D, .int .i64 E, .int .i32 F, .slice G l.length I] ?_; intro N hg w6 p hb; have q := a_ (p); have O := a_ ((q_ge J.out hg)); have y := a_ ((q_ge J.out hg)); replace J := a_ (q_st J.out hb); clear hb p hg; obtain ⟨a8, a9, b0, b1, b2, b3, b4, b5, b6, b7, b8, b9, c0, c1⟩ := q_cf7 q.out))
 go_ret
 exact ⟨q_e, q_w1 J.out y.out⟩}
 {
 obtain rfl := Option.some.inj H; go_enter Tryd.func52, Tryd.ntmps52
 go_wp2_with (first | ((with_reducible refine gd_ 1 rfl ?_); refine q_box 1 71 #[.int .i64 b, .int .i64 z, .int .i64 B, .int .i64 D, .int .i64 E, .int .i32 F, .slice G l.length I] ?_; intro N hg w8 p hb; have q := a_ (p); have O := a_ ((q_ge J.out hg)); have y := a_ ((q_ge J.out hg)); replace J := a_ (q_st J.out hb); clear hb p hg; obtain ⟨c3, c4, c6, c8, c9, d0, d1, d2, d3, d4, d5, d6, d7, d8⟩ := q_cf7 q.out))
 go_ret
 exact ⟨q_e, q_w1 J.out y.out⟩}}
def alloc_uses.j0 : Nat → Int → Bool → Int → Int → Int → Int → Int → Int → List Int → Option (List Int)
 | 0, _, _, _, _, _, _, _, _, _ => none
 | k + 1, C, D, p, q, y, b, l, z, B => if D = true then (some (([b] : List Int))) else (if C = 3 then (some (([b, l] : List Int))) else (if C = 7 then (some (([b, l] : List Int))) else (if C = 8 then (some (([b, l] : List Int))) else (some ([] : List Int)))))
def alloc_uses.f (k : Nat) (b : Int) (l : Int) (p : Int) (q : Int) (y : Int) (z : Int) (B : List Int) : Option (List Int) := if b = 1 then (alloc_uses.j0 k b (b == 1) b l p q y z B) else (if b = 2 then (alloc_uses.j0 k b (b == 2) b l p q y z B) else (if b = 6 then (alloc_uses.j0 k b (b == 6) b l p q y z B) else (alloc_uses.j0 k b (b == 10) b l p q y z B)))
theorem alloc_uses.calls (k : Nat) (l : Int) (B : Int) (D : Int) (b : Int) (q : Int) (E : Int) (V : Option Addr) (X : Nat) (z : List Int) (r : List Int) (w : World) (a1 : Kd.C (Kd.int .i64) w V z.length z) (a2 : z.length ≤ X) (h : alloc_uses.f k l B D b q E z = some r) :
  Calls Tryd.prog 54 #[.agg #[.int .i64 l, .int .i64 B, .int .i64 D, .int .i64 b, .int .i64 q, .int .i32 E, .slice V z.length X]] w fun e w' => ∃ d4 : Value, e = .returned (d4) ∧ Kd.R (Kd.int .i64) 3 w' w.heap.size (fun _ => True) d4 r ∧ Below w.heap.size w w' := by
 have l7 := Tryd.underlying71; have l4 := a_ a1; have l5 := a_ a2; clear a1 a2; have F := a_ (Below.refl w.heap.size w); have H : (if l = 1 then (alloc_uses.j0 k l (l == 1) l B D b q E z) else (if l = 2 then (alloc_uses.j0 k l (l == 2) l B D b q E z) else (if l = 6 then (alloc_uses.j0 k l (l == 6) l B D b q E z) else (alloc_uses.j0 k l (l == 10) l B D b q E z)))) = some r := h
 clear h; have c3 := a_ H; clear H; go_enter Tryd.func54, Tryd.ntmps54
 go_upto_if 5 with (first | ((with_reducible refine gd_ 1 rfl ?_); refine q_box 1 71 #[.int .i64 l, .int .i64 B, .int .i64 D, .int .i64 b, .int .i64 q, .int .i32 E, .slice V z.length X] ?_; intro c4 hg w3 c1 hb; have p := a_ (c1); have l6 := a_ ((q_ge F.out hg)); have y := a_ ((q_ge F.out hg)); replace F := a_ (q_st F.out hb); clear hb c1 hg; obtain ⟨a7, a8, a9, b0, b1, b2, b3, b4, b5, b6, b7, b8, b9, c0⟩ := q_cf7 p.out))
 (try simp only [Act.put, List.setIfInBounds_toArray, List.set_cons_zero, List.set_cons_succ])
 go_cut [5] (fun v5 wc => ∃ (kq : Nat) (a0 : Bool), v5 = .bool a0 ∧ Aside0 (alloc_uses.j0 kq l a0 l B D b q E z = some r) ∧ Aside0 (kq ≤ k) ∧ Aside0 (wc.heap[c4]? = some (.cells #[.int .i64 l, .int .i64 B, .int .i64 D, .int .i64 b, .int .i64 q, .int .i32 E, (.slice V z.length X)] 71 (0, 0))) ∧ Aside0 (Below w.heap.size w wc))
 case first => (
 have H := c3.out; clear c3; replace H := q_iBN H; rcases H with ⟨-, c5b0, c5b1, H⟩ | ⟨c5, c5b0, c5b1, H⟩
 {
 (first | rw [c5b0] | (simp only [i64_w, i32_w]; rw [c5b0]) | skip)
 have H' := a_ H
 clear H; go_wp2
 go_meet
 case rel => exact ⟨_, ((l == 1)), q_r, H', ⟨by first | omega | exact Nat.le_refl _⟩, ⟨q_k p.out⟩, ⟨q_w1 F.out y.out⟩⟩}
 {
 (first | rw [c5b0] | (simp only [i64_w, i32_w]; rw [c5b0]) | skip)
 replace H := q_iBN H; rcases H with ⟨-, c6b0, c6b1, H⟩ | ⟨c6, c6b0, c6b1, H⟩
 {
 have H' := a_ H
 clear H; go_wp2
 go_meet
 case rel => exact ⟨_, ((l == 2)), q_r, H', ⟨by first | omega | exact Nat.le_refl _⟩, ⟨q_k p.out⟩, ⟨q_w1 F.out y.out⟩⟩}
 {
 replace H := q_iBN H; rcases H with ⟨-, c7b0, c7b1, H⟩ | ⟨c7, c7b0, c7b1, H⟩
 {
 have H' := a_ H
 clear H; go_wp2
 go_meet
 case rel => exact ⟨_, ((l == 6)), q_r, H', ⟨by first | omega | exact Nat.le_refl _⟩, ⟨q_k p.out⟩, ⟨q_w1 F.out y.out⟩⟩}
 {
 have H' := a_ H
 clear H; go_wp2
 go_meet
 case rel => exact ⟨_, ((l == 10)), q_r, H', ⟨by first | omega | exact Nat.le_refl _⟩, ⟨q_k p.out⟩, ⟨q_w1 F.out y.out⟩⟩}}})
 case rest => (
 clear c3 a7 a8 a9 b0 b1 b2 b3 b4 b5 b6 b7 b8 b9 c0; obtain ⟨kq, a0, rfl, HA, n3, p, F⟩ := hcut; cases kq with
 | zero => exact absurd HA.out (by simp [alloc_uses.j0])
 | succ n4 => (
 have H := HA.out; clear HA; simp only [alloc_uses.j0] at H
 by_cases c8 : a0 = true
 {
 subst c8; rw [if_pos rfl] at H; obtain ⟨d5, O⟩ : ∃ y_ : List Int, y_ = (([b] : List Int)) := ⟨_, rfl⟩; replace H : (some d5) = some r := q_rw O H
 have a3 := a_ O; clear O; obtain rfl := Option.some.inj H; obtain ⟨j6, j7, j8, j9, k0, k1, k2, k3, k4, k5, k6, k7, k8, k9⟩ := q_cf7 p.out; go_wp2_with (first | ((with_reducible refine gd_ 12 rfl ?_); refine Kd.R_lit (Kd.int .i64) _ 3 ?hg (N := 12) ?hd (xs := ([b] : List Int)) (inner := [.int .i64 b]) (ok := fun _ => True) (okp := fun _ => True) ?hr ?hp (fun _ hk => hk) trivial (Below.refl _ _) (Nat.le_refl _) (by simp) ?_; (case hd => rfl); (case hg => rfl); (case hr => first | (go_simp; done) | (go_simp; rfl)); (case hp => exact (Reps.one (show Kd.M (Kd.int .i64) _ _ _ b [.int .i64 b] from rfl) (Reps.none _ _))); intro l8 n5 G hb hg_ hnew_; clear hg_ hnew_; (first | rw [← a3.out] at G | (simp only [Int.reduceToNat] at G; rw [← a3.out] at G)); have d0 := a_ (Kd.R_lower G (below_size (q_w1 F.out y.out))); replace p := a_ (q_bk p.out hb); replace F := a_ (q_st1 F.out hb y.out); clear hb G))
 go_ret
 exact ⟨_, q_e, by (with_reducible repeat (first | apply Kd.R_alloc | apply Kd.R_drewN | apply Kd.R_drew)); exact d0.out, q_w1 F.out y.out⟩}
 {
 replace c8 := Bool.eq_false_iff.mpr c8; subst c8; rw [if_neg Bool.false_ne_true] at H; replace H := q_iBN H; rcases H with ⟨-, c12b0, c12b1, H⟩ | ⟨n6, c12b0, c12b1, H⟩
 {
 obtain ⟨d6, S⟩ : ∃ y_ : List Int, y_ = (([b, q] : List Int)) := ⟨_, rfl⟩; replace H : (some d6) = some r := q_rw S H
 have a4 := a_ S; clear S; obtain rfl := Option.some.inj H; obtain ⟨d7, d8, d9, e0, e1, e2, e3, e4, e5, e6, e7, e8, e9, f0⟩ := q_cf7 p.out; go_wp2_with (first | ((with_reducible refine gd_ 21 rfl ?_); refine Kd.R_lit (Kd.int .i64) _ 3 ?hg (N := 21) ?hd (xs := ([b, q] : List Int)) (inner := [.int .i64 b, .int .i64 q]) (ok := fun _ => True) (okp := fun _ => True) ?hr ?hp (fun _ hk => hk) trivial (Below.refl _ _) (Nat.le_refl _) (by simp) ?_; (case hd => rfl); (case hg => rfl); (case hr => first | (go_simp; done) | (go_simp; rfl)); (case hp => exact (Reps.one (show Kd.M (Kd.int .i64) _ _ _ b [.int .i64 b] from rfl) (Reps.one (show Kd.M (Kd.int .i64) _ _ _ q [.int .i64 q] from rfl) (Reps.none _ _)))); intro l9 n7 I hb hg_ hnew_; clear hg_ hnew_; (first | rw [← a4.out] at I | (simp only [Int.reduceToNat] at I; rw [← a4.out] at I)); have d1 := a_ (Kd.R_lower I (below_size (q_w1 F.out y.out))); replace p := a_ (q_bk p.out hb); replace F := a_ (q_st1 F.out hb y.out); clear hb I))
 go_ret
 exact ⟨_, q_e, by (with_reducible repeat (first | apply Kd.R_alloc | apply Kd.R_drewN | apply Kd.R_drew)); exact d1.out, q_w1 F.out y.out⟩}
 {
 replace H := q_iBN H; rcases H with ⟨-, c16b0, c16b1, H⟩ | ⟨n8, c16b0, c16b1, H⟩
 {
 obtain ⟨f1, T⟩ : ∃ y_ : List Int, y_ = (([b, q] : List Int)) := ⟨_, rfl⟩; replace H : (some f1) = some r := q_rw T H
 have a5 := a_ T; clear T; obtain rfl := Option.some.inj H; obtain ⟨f2, f3, f4, f5, f6, f7, f8, f9, g0, g1, g2, g3, g4, g5⟩ := q_cf7 p.out; go_wp2_with (first | ((with_reducible refine gd_ 21 rfl ?_); refine Kd.R_lit (Kd.int .i64) _ 3 ?hg (N := 21) ?hd (xs := ([b, q] : List Int)) (inner := [.int .i64 b, .int .i64 q]) (ok := fun _ => True) (okp := fun _ => True) ?hr ?hp (fun _ hk => hk) trivial (Below.refl _ _) (Nat.le_refl _) (by simp) ?_; (case hd => rfl); (case hg => rfl); (case hr => first | (go_simp; done) | (go_simp; rfl)); (case hp => exact (Reps.one (show Kd.M (Kd.int .i64) _ _ _ b [.int .i64 b] from rfl) (Reps.one (show Kd.M (Kd.int .i64) _ _ _ q [.int .i64 q] from rfl) (Reps.none _ _)))); intro n0 n9 J hb hg_ hnew_; clear hg_ hnew_; (first | rw [← a5.out] at J | (simp only [Int.reduceToNat] at J; rw [← a5.out] at J)); have d2 := a_ (Kd.R_lower J (below_size (q_w1 F.out y.out))); replace p := a_ (q_bk p.out hb); replace F := a_ (q_st1 F.out hb y.out); clear hb J))
 go_ret
 exact ⟨_, q_e, by (with_reducible repeat (first | apply Kd.R_alloc | apply Kd.R_drewN | apply Kd.R_drew)); exact d2.out, q_w1 F.out y.out⟩}
 {
 replace H := q_iBN H; rcases H with ⟨-, c20b0, c20b1, H⟩ | ⟨o0, c20b0, c20b1, H⟩
 {
 obtain ⟨g6, U⟩ : ∃ y_ : List Int, y_ = (([b, q] : List Int)) := ⟨_, rfl⟩; replace H : (some g6) = some r := q_rw U H
 have a6 := a_ U; clear U; obtain rfl := Option.some.inj H; obtain ⟨g7, g8, g9, i0, i1, i2, i3, i4, i5, i6, i7, i8, i9, j3⟩ := q_cf7 p.out; go_wp2_with (first | ((with_reducible refine gd_ 21 rfl ?_); refine Kd.R_lit (Kd.int .i64) _ 3 ?hg (N := 21) ?hd (xs := ([b, q] : List Int)) (inner := [.int .i64 b, .int .i64 q]) (ok := fun _ => True) (okp := fun _ => True) ?hr ?hp (fun _ hk => hk) trivial (Below.refl _ _) (Nat.le_refl _) (by simp) ?_; (case hd => rfl); (case hg => rfl); (case hr => first | (go_simp; done) | (go_simp; rfl)); (case hp => exact (Reps.one (show Kd.M (Kd.int .i64) _ _ _ b [.int .i64 b] from rfl) (Reps.one (show Kd.M (Kd.int .i64) _ _ _ q [.int .i64 q] from rfl) (Reps.none _ _)))); intro n1 o1 L hb hg_ hnew_; clear hg_ hnew_; (first | rw [← a6.out] at L | (simp only [Int.reduceToNat] at L; rw [← a6.out] at L)); have d3 := a_ (Kd.R_lower L (below_size (q_w1 F.out y.out))); replace p := a_ (q_bk p.out hb); replace F := a_ (q_st1 F.out hb y.out); clear hb L))
 go_ret
 exact ⟨_, q_e, by (with_reducible repeat (first | apply Kd.R_alloc | apply Kd.R_drewN | apply Kd.R_drew)); exact d3.out, q_w1 F.out y.out⟩}
 {
 obtain rfl := Option.some.inj H; go_wp2
 go_ret
 exact ⟨_, q_e, by first | exact Kd.R_nil _ _ _ _ _ | exact Kd.N_nil _ _ _ _ _ | exact Kd.V_nil _ _ _ _ _ | exact Kd.Q_nil _ _ _ _ _ | exact Kd.S_nil _ _ _ _ _, q_w1 F.out y.out⟩}}}}))
def flow_register.f (p : ByteArray) (q : List (S83)) (y : List (S85)) (b : Int) (z : List (S69)) (B : Bool) (l : Int) : Option (Bool) := if B = true then (if l ≥ 0 then (some (decide (l < b))) else (some false)) else (some (l == 0))
theorem flow_register.calls (B : ByteArray) (D : Option Addr) (E : Nat) (b : List (S83)) (F : Option Addr) (G : Nat) (l : List (S85)) (z : Int) (I : Option Addr) (J : Nat) (p : List (S69)) (a1 : Bool) (a2 : Int) (r : Bool) (w : World) (N : Kd.C k83 w D b.length b) (O : b.length ≤ E) (R : Kd.C k85 w F l.length l) (S : l.length ≤ G) (T : Kd.C k69 w I p.length p) (U : p.length ≤ J) (h : flow_register.f B b l z p a1 a2 = some r) :
  Calls Tryd.prog 73 #[.agg #[.string B, .slice D b.length E, .slice F l.length G, .int .i64 z, .slice I p.length J], .bool a1, .int .i64 a2] w fun e w' => e = .returned (.bool r) ∧ Below w.heap.size w w' := by
 have c1 := Tryd.underlying26; have b5 := a_ N; have b6 := a_ O; clear N O; have b7 := a_ R; have b8 := a_ S; clear R S; have b9 := a_ T; have c0 := a_ U; clear T U; have L := a_ (Below.refl w.heap.size w); have H : (if a1 = true then (if a2 ≥ 0 then (some (decide (a2 < z))) else (some false)) else (some (a2 == 0))) = some r := h
 clear h; by_cases c4 : a1 = true
 {
 subst c4; rw [if_pos rfl] at H; rcases q_ite H with ⟨c5b0, H⟩ | ⟨c5b0, H⟩
 {
 obtain rfl := Option.some.inj H; go_enter Tryd.func73, Tryd.ntmps73
 go_wp2_with (first | ((with_reducible refine gd_ 3 rfl ?_); refine q_box 3 26 #[.string B, .slice D b.length E, .slice F l.length G, .int .i64 z, .slice I p.length J] ?_; intro V hg w6 q hb; have M := a_ (q); have X := a_ ((q_ge L.out hg)); have y := a_ ((q_ge L.out hg)); replace L := a_ (q_st L.out hb); clear hb q hg; obtain ⟨a5, a6, a7, a8, a9, b0, b1, b2, b3, b4⟩ := q_cf5 M.out))
 go_ret
 exact ⟨q_e, q_w1 L.out y.out⟩}
 {
 obtain rfl := Option.some.inj H; go_enter Tryd.func73, Tryd.ntmps73
 go_wp2_with (first | ((with_reducible refine gd_ 3 rfl ?_); refine q_box 3 26 #[.string B, .slice D b.length E, .slice F l.length G, .int .i64 z, .slice I p.length J] ?_; intro V hg w8 q hb; have M := a_ (q); have X := a_ ((q_ge L.out hg)); have y := a_ ((q_ge L.out hg)); replace L := a_ (q_st L.out hb); clear hb q hg))
 go_ret
 exact ⟨q_e, q_w1 L.out y.out⟩}}
 {
 replace c4 := Bool.eq_false_iff.mpr c4; subst c4; rw [if_neg Bool.false_ne_true] at H; obtain rfl := Option.some.inj H; go_enter Tryd.func73, Tryd.ntmps73
 go_wp2_with (first | ((with_reducible refine gd_ 3 rfl ?_); refine q_box 3 26 #[.string B, .slice D b.length E, .slice F l.length G, .int .i64 z, .slice I p.length J] ?_; intro V hg w9 q hb; have M := a_ (q); have X := a_ ((q_ge L.out hg)); have y := a_ ((q_ge L.out hg)); replace L := a_ (q_st L.out hb); clear hb q hg))
 go_ret
 exact ⟨q_e, q_w1 L.out y.out⟩}
mutual
def flow_ends.l0 : Nat → List (S69) → Int → Int → ByteArray → List (S83) → List (S85) → Int → List (S69) → Option (Bool)
 | 0, _, _, _, _, _, _, _, _ => none
 | k + 1, G, I, F, l, p, q, y, b => if F < I then (if 0 ≤ F then (if F < (G.length : Int) then (if ((rd_T69 G F).f1) < 0 then (flow_ends.j1 k G I F true l p q y b ((rd_T69 G F).f0) ((rd_T69 G F).f1) ((rd_T69 G F).f2) ((rd_T69 G F).f3) ((rd_T69 G F).f4)) else (flow_ends.j1 k G I F (decide (((rd_T69 G F).f1) > 2)) l p q y b ((rd_T69 G F).f0) ((rd_T69 G F).f1) ((rd_T69 G F).f2) ((rd_T69 G F).f3) ((rd_T69 G F).f4))) else (none)) else (none)) else (if 0 ≤ (b.length : Int) then (if ((b.length : Int) : Int).toNat ≤ 281474976710656 then ((some (List.replicate ((b.length : Int) : Int).toNat false : List Bool)).bind fun T => (if 0 < (T.length : Int) then (flow_ends.l2 k (T.set (0 : Int).toNat true) (([0] : List Int)) 0 l p q y b) else (none))) else (none)) else (none))
def flow_ends.j1 : Nat → List (S69) → Int → Int → Bool → ByteArray → List (S83) → List (S85) → Int → List (S69) → List (S71) → Int → Int → Int → Int → Option (Bool)
 | 0, _, _, _, _, _, _, _, _, _, _, _, _, _, _ => none
 | k + 1, G, I, F, a3, l, p, q, y, b, E, z, B, C, D => if a3 = true then (some false) else (if z = 1 then (if z = 2 then (if C = 0 then ((flow_register.f l p q y b true B).bind fun a0 => (flow_ends.j2 k G I F (!a0) l p q y b E z B C D)) else (flow_ends.j2 k G I F true l p q y b E z B C D)) else ((flow_register.f l p q y b true B).bind fun a1 => (flow_ends.j2 k G I F (!a1) l p q y b E z B C D))) else (if B = 0 then (if D = 0 then (if z = 2 then (if C = 0 then (flow_ends.j2 k G I F false l p q y b E z B C D) else (flow_ends.j2 k G I F true l p q y b E z B C D)) else (flow_ends.j2 k G I F false l p q y b E z B C D)) else (flow_ends.j2 k G I F true l p q y b E z B C D)) else (flow_ends.j2 k G I F true l p q y b E z B C D)))
def flow_ends.j2 : Nat → List (S69) → Int → Int → Bool → ByteArray → List (S83) → List (S85) → Int → List (S69) → List (S71) → Int → Int → Int → Int → Option (Bool)
 | 0, _, _, _, _, _, _, _, _, _, _, _, _, _, _ => none
 | k + 1, G, I, F, a4, l, p, q, y, b, E, z, B, C, D => if a4 = true then (some false) else ((flow_next.f E z B C D).bind fun U => (flow_ends.l1 k G I F U (U.length : Int) 0 l p q y b))
def flow_ends.l1 : Nat → List (S69) → Int → Int → List Int → Int → Int → ByteArray → List (S83) → List (S85) → Int → List (S69) → Option (Bool)
 | 0, _, _, _, _, _, _, _, _, _, _, _ => none
 | k + 1, G, I, F, S, a2, O, l, p, q, y, b => if O < a2 then (if 0 ≤ O then (if O < (S.length : Int) then (if (rd S O) < 1 then (some false) else (if (rd S O) ≥ (b.length : Int) then (some false) else (flow_ends.l1 k G I F S a2 (wrap64 (O + 1)) l p q y b))) else (none)) else (none)) else (flow_ends.l0 k G I (wrap64 (F + 1)) l p q y b)
def flow_ends.l2 : Nat → List Bool → List Int → Int → ByteArray → List (S83) → List (S85) → Int → List (S69) → Option (Bool)
 | 0, _, _, _, _, _, _, _, _ => none
 | k + 1, X, M, N, l, p, q, y, b => if N < (M.length : Int) then (if 0 ≤ N then (if 0 ≤ (rd M N) then (if (rd M N) < (b.length : Int) then ((flow_next.f ((rd_T69 b (rd M N)).f0) ((rd_T69 b (rd M N)).f1) ((rd_T69 b (rd M N)).f2) ((rd_T69 b (rd M N)).f3) ((rd_T69 b (rd M N)).f4)).bind fun V => (flow_ends.l3 k X M N V (V.length : Int) 0 l p q y b)) else (none)) else (none)) else (none)) else (some ((M.length : Int) == (b.length : Int)))
def flow_ends.l3 : Nat → List Bool → List Int → Int → List Int → Int → Int → ByteArray → List (S83) → List (S85) → Int → List (S69) → Option (Bool)
 | 0, _, _, _, _, _, _, _, _, _, _, _ => none
 | k + 1, X, M, N, L, R, J, l, p, q, y, b => if J < R then (if 0 ≤ J then (if J < (L.length : Int) then (if 0 ≤ (rd L J) then (if (rd L J) < (X.length : Int) then (if (rdOf false X (rd L J) = true) then (flow_ends.l3 k X M N L R (wrap64 (J + 1)) l p q y b) else (if M.length < 17592186044416 then (flow_ends.l3 k (X.set ((rd L J) : Int).toNat true) (M ++ [rd L J]) N L R (wrap64 (J + 1)) l p q y b) else (none))) else (none)) else (none)) else (none)) else (none)) else (flow_ends.l2 k X M (wrap64 (N + 1)) l p q y b)
end
def flow_ends.f (k : Nat) (l : ByteArray) (p : List (S83)) (q : List (S85)) (y : Int) (b : List (S69)) : Option (Bool) := flow_ends.l0 k b (b.length : Int) 0 l p q y b
def flow_ends.T21 : Bool × List (List Nat × List Nat) := (true, [([], []), ([0], [0]), ([], []), ([], []), ([2, 3], [2, 3]), ([4], [4]), ([1, 5], [1, 5]), ([6], [6]), ([7], [7]), ([8], [8]), ([], [])])
def flow_ends.B21 : List Nat := [0, 1, 0, 0, 12, 28, 63, 127, 255, 511, 0]
theorem flow_ends.tab21 : rtab .any (opsOf Tryd.f60 21) = flow_ends.T21 := by kernel_rfl
theorem flow_ends.bits21 : waitsOk flow_ends.T21.2 flow_ends.B21 = true := by kernel_rfl
theorem flow_ends.calls (k : Nat) (V : ByteArray) (a6 : Option Addr) (a7 : Nat) (L : List (S83)) (a8 : Option Addr) (a9 : Nat) (O : List (S85)) (X : Int) (e0 : Option Addr) (b0 : Nat) (l : List (S69)) (r : Bool) (w : World) (k6 : Kd.C k83 w a6 L.length L) (k7 : L.length ≤ a7) (k8 : Kd.C k85 w a8 O.length O) (k9 : O.length ≤ a9) (l4 : Kd.C k69 w e0 l.length l) (l5 : l.length ≤ b0) (h : flow_ends.f k V L O X l = some r) :
  Calls Tryd.prog 60 #[.agg #[.string V, .slice a6 L.length a7, .slice a8 O.length a9, .int .i64 X, .slice e0 l.length b0]] w fun e w' => e = .returned (.bool r) ∧ Below w.heap.size w w' := by
 have W1 := Tryd.underlying26; have W2 := Tryd.underlying69; have l6 := a_ k6; have l7 := a_ k7; clear k6 k7; have l8 := a_ k8; have l9 := a_ k9; clear k8 k9; have e2 := a_ l4; have n0 := a_ l5; clear l4 l5; have U := a_ (Below.refl w.heap.size w); have H : (flow_ends.l0 k l (l.length : Int) 0 V L O X l) = some r := h
 clear h; have H' := a_ H
 clear H; go_enter Tryd.func60, Tryd.ntmps60
 go_wp2_with (first | ((with_reducible refine gd_ 1 rfl ?_); (try (refine gate_guard (by rfl) ?_; dsimp only)); refine q_box 1 26 #[.string V, .slice a6 L.length a7, .slice a8 O.length a9, .int .i64 X, .slice e0 l.length b0] ?_; intro a5 hg w2 e5 hb; have q := a_ (e5); have R3 := a_ ((q_ge U.out hg)); have B := a_ ((q_ge U.out hg)); replace U := a_ (q_st U.out hb); clear hb e5 hg; obtain ⟨s9, t0, t1, t2, t3, t4, t5, t6, t7, t8⟩ := q_cf5 q.out))
 go_loopg [15] k (fun kq R4 w' => ∃ (y : Int), R4 = .int .i64 y ∧ Aside0 (flow_ends.l0 kq l (l.length : Int) y V L O X l = some r) ∧ Aside0 (kq ≤ k) ∧ Aside0 (w'.heap[a5]? = some (.cells #[.string V, (.slice a6 L.length a7), (.slice a8 O.length a9), .int .i64 X, (.slice e0 l.length b0)] 26 (0, 0))) ∧ Aside0 (Below w.heap.size w w'))
 case atStart => exact ⟨(0), q_r, H', ⟨Nat.le_refl _⟩, ⟨q_k q.out⟩, ⟨q_w1 U.out B.out⟩⟩
 case round => (
 clear H'; clear s9 t0 t1 t2 t3 t4 t5 t6 t7 t8; obtain ⟨y, rfl, HA, b2, q, U⟩ := hrel; cases gk with
 | zero => exact absurd HA.out (by simp [flow_ends.l0])
 | succ k1 => (
 have H := HA.out; clear HA; simp only [flow_ends.l0] at H
 rcases q_ite H with ⟨c4b0, H⟩ | ⟨c4b0, H⟩
 {
 replace H := q_gD H; obtain ⟨-, c5b0, H⟩ := H; replace H := q_gD H; obtain ⟨-, c6b0, H⟩ := H; have x7 := a_ H; clear H; obtain ⟨g6, d1, d2, z4, n1, n2, n3, n4, n5, e6, e7, z5, z6⟩ := b_T69 e2.out U.out y; cases z4; have n6 := a_ e7; have n7 := a_ e6; clear e7 e6; go_upto_region 4 with (first | ((with_reducible refine gd_ 4 rfl ?_); (try (refine gate_guard (by rfl) ?_; dsimp only)); refine q_box 4 69 #[.slice none 0 0, .int .i64 0, .int .i64 0, .int .i64 0, .int .i64 0] ?_; intro g7 hg w8 e5 hb; have D := a_ (e5); have R5 := a_ ((q_ge1 U.out hg B.out)); have a0 := a_ ((q_ge1 U.out hg B.out)); have E := a_ ((q_ne q.out hg)); have F := a_ ((q_en q.out hg)); replace q := a_ (q_bk q.out hb); replace U := a_ (q_st1 U.out hb B.out); clear hb e5 hg; have W3 := F.out; have W4 := E.out; obtain ⟨n8, n9, o0, o1, o2, o3, o4, o5, o6, o7⟩ := q_cf5 D.out))
 (try simp only [Act.put, List.setIfInBounds_toArray, List.set_cons_zero, List.set_cons_succ])
 go_cut [26] (fun R6 wc => ∃ (kq : Nat) (e3 : Bool), R6 = .bool e3 ∧ Aside0 (flow_ends.j1 kq l (l.length : Int) y e3 V L O X l ((rd_T69 l y).f0) ((rd_T69 l y).f1) ((rd_T69 l y).f2) ((rd_T69 l y).f3) ((rd_T69 l y).f4) = some r) ∧ Aside0 (kq ≤ k1) ∧ Aside0 (wc.heap[a5]? = some (.cells #[.string V, (.slice a6 L.length a7), (.slice a8 O.length a9), .int .i64 X, (.slice (some g6) l.length b0)] 26 (0, 0))) ∧ Aside0 (wc.heap[g7]? = some (.cells #[(.slice d1 ((rd_T69 l y).f0).length d2), .int .i64 ((rd_T69 l y).f1), .int .i64 ((rd_T69 l y).f2), .int .i64 ((rd_T69 l y).f3), .int .i64 ((rd_T69 l y).f4)] 69 (0, 0))) ∧ Aside0 (Below w.heap.size w wc))
 case first => (
 have H := x7.out; clear x7; rcases q_ite H with ⟨c11b0, H⟩ | ⟨c11b0, H⟩
 {
 (first | rw [c11b0] | (simp only [i64_w, i32_w]; rw [c11b0]) | skip)
 have H' := a_ H
 clear H; have R7 := F.out; have R8 := E.out; obtain ⟨z7, z8, z9, A0, A1, A2, A3, A4, A5, A6⟩ := q_cf5 D.out; go_wp2
 go_meet
 case rel => exact ⟨_, (true), q_r, H', ⟨q_n b2.out⟩, ⟨q_f1 q.out E.out⟩, ⟨q_p D.out⟩, ⟨q_w2 U.out B.out a0.out⟩⟩}
 {
 (first | rw [c11b0] | (simp only [i64_w, i32_w]; rw [c11b0]) | skip)
 have H' := a_ H
 clear H; have R9 := F.out; have S0 := E.out; obtain ⟨A7, A8, A9, B2, B3, B6, B7, C0, C1, C2⟩ := q_cf5 D.out; go_wp2
 go_meet
 case rel => exact ⟨_, (decide (((rd_T69 l y).f1) > 2)), q_r, H', ⟨q_n b2.out⟩, ⟨q_f1 q.out E.out⟩, ⟨q_p D.out⟩, ⟨q_w2 U.out B.out a0.out⟩⟩})
 case rest => (
 clear x7 c4b0 c5b0 c6b0 n8 n9 o0 o1 o2 o3 o4 o5 o6 o7 n1 n2 n3 n4 n5 z5 z6; obtain ⟨kq, e3, rfl, HA, c9, q, D, U⟩ := hcut; cases kq with
 | zero => exact absurd HA.out (by simp [flow_ends.j1])
 | succ S1 => (
 have H := HA.out; clear HA; simp only [flow_ends.j1] at H
 by_cases t9 : e3 = true
 {
 subst t9; rw [if_pos rfl] at H; obtain rfl := Option.some.inj H; go_wp2
 go_ret
 exact ⟨q_e, q_w2 U.out B.out a0.out⟩}
 {
 replace t9 := Bool.eq_false_iff.mpr t9; subst t9; rw [if_neg Bool.false_ne_true] at H; have o8 := a_ H; clear H; go_upto_region 6 with (fail)
 go_cut [61] (fun S2 wc => ∃ (kq : Nat) (d3 : Bool), S2 = .bool d3 ∧ Aside0 (flow_ends.j2 kq l (l.length : Int) y d3 V L O X l ((rd_T69 l y).f0) ((rd_T69 l y).f1) ((rd_T69 l y).f2) ((rd_T69 l y).f3) ((rd_T69 l y).f4) = some r) ∧ Aside0 (kq ≤ S1) ∧ Aside0 (wc.heap[a5]? = some (.cells #[.string V, (.slice a6 L.length a7), (.slice a8 O.length a9), .int .i64 X, (.slice (some g6) l.length b0)] 26 (0, 0))) ∧ Aside0 (wc.heap[g7]? = some (.cells #[(.slice d1 ((rd_T69 l y).f0).length d2), .int .i64 ((rd_T69 l y).f1), .int .i64 ((rd_T69 l y).f2), .int .i64 ((rd_T69 l y).f3), .int .i64 ((rd_T69 l y).f4)] 69 (0, 0))) ∧ Aside0 (Below w.heap.size w wc))
 case first => (
 have H := o8.out; clear o8; replace H := q_iBN H; rcases H with ⟨-, c18b0, c18b1, H⟩ | ⟨X8, c18b0, c18b1, H⟩
 {
 (first | rw [c18b0] | (simp only [i64_w, i32_w]; rw [c18b0]) | skip)
 replace H := q_iBN H; rcases H with ⟨-, c19b0, c19b1, H⟩ | ⟨X9, c19b0, c19b1, H⟩
 {
 replace H := q_iBN H; rcases H with ⟨-, c20b0, c20b1, H⟩ | ⟨Y0, c20b0, c20b1, H⟩
 {
 replace H := Option.bind_eq_some_iff.mp H; obtain ⟨v5, v6, H⟩ := H; have S3 := a_ v6; clear v6; have H' := a_ H
 clear H; have S4 := F.out; have S5 := E.out; obtain ⟨C3, C4, C5, C6, C7, C8, C9, D0, D1, D2⟩ := q_cf5 D.out; obtain ⟨D3, D4, D5, D6, D7, D8, D9, E0, E1, E2⟩ := q_cf5 q.out; go_wp2_with (first | (go_at_call 73; (with_reducible refine (flow_register.calls V _ _ L _ _ O X _ _ l true ((rd_T69 l y).f2) v5 _ (q_C (Kd.C_below l6.out U.out)) l7.out (q_C (Kd.C_below l8.out U.out)) l9.out (q_C (Kd.C_below e2.out U.out)) n0.out S3.out).mono ?_); rintro e Y1 ⟨rfl, hb⟩; replace q := a_ (q_bk q.out hb); replace D := a_ (q_bk D.out hb); replace U := a_ (q_st2 U.out hb B.out a0.out); (clear hb)))
 go_meet
 case rel => exact ⟨_, (!v5), q_r, H', ⟨by have := b2.out; have := c9.out; first | omega | exact Nat.le_refl _⟩, ⟨q_k q.out⟩, ⟨q_k D.out⟩, ⟨q_w2 U.out B.out a0.out⟩⟩}
 {
 have H' := a_ H
 clear H; have S6 := F.out; have S7 := E.out; obtain ⟨E3, E4, E5, E6, E7, E8, E9, F0, F1, F2⟩ := q_cf5 D.out; go_wp2
 go_meet
 case rel => exact ⟨_, (true), q_r, H', ⟨by have := b2.out; have := c9.out; first | omega | exact Nat.le_refl _⟩, ⟨q_k q.out⟩, ⟨q_k D.out⟩, ⟨q_w2 U.out B.out a0.out⟩⟩}}
 {
 replace H := Option.bind_eq_some_iff.mp H; obtain ⟨v7, w3, H⟩ := H; have S8 := a_ w3; clear w3; have H' := a_ H
 clear H; have S9 := F.out; have T2 := E.out; obtain ⟨F3, F4, F5, F6, F7, F8, F9, G0, G1, G2⟩ := q_cf5 D.out; obtain ⟨G3, G4, G5, G6, G7, G8, G9, H0, H1, H2⟩ := q_cf5 q.out; go_wp2_with (first | (go_at_call 73; (with_reducible refine (flow_register.calls V _ _ L _ _ O X _ _ l true ((rd_T69 l y).f2) v7 _ (q_C (Kd.C_below l6.out U.out)) l7.out (q_C (Kd.C_below l8.out U.out)) l9.out (q_C (Kd.C_below e2.out U.out)) n0.out S8.out).mono ?_); rintro e Y2 ⟨rfl, hb⟩; replace q := a_ (q_bk q.out hb); replace D := a_ (q_bk D.out hb); replace U := a_ (q_st2 U.out hb B.out a0.out); (clear hb)))
 go_meet
 case rel => exact ⟨_, (!v7), q_r, H', ⟨by have := b2.out; have := c9.out; first | omega | exact Nat.le_refl _⟩, ⟨q_k q.out⟩, ⟨q_k D.out⟩, ⟨q_w2 U.out B.out a0.out⟩⟩}}
 {
 (first | rw [c18b0] | (simp only [i64_w, i32_w]; rw [c18b0]) | skip)
 replace H := q_iBN H; rcases H with ⟨-, c33b0, c33b1, H⟩ | ⟨Y3, c33b0, c33b1, H⟩
 {
 replace H := q_iBN H; rcases H with ⟨-, c34b0, c34b1, H⟩ | ⟨Y4, c34b0, c34b1, H⟩
 {
 replace H := q_iBN H; rcases H with ⟨-, c35b0, c35b1, H⟩ | ⟨Y5, c35b0, c35b1, H⟩
 {
 replace H := q_iBN H; rcases H with ⟨-, c36b0, c36b1, H⟩ | ⟨Y6, c36b0, c36b1, H⟩
 {
 have H' := a_ H
 clear H; have T3 := F.out; have T6 := E.out; obtain ⟨H3, H4, H5, H6, H7, H8, H9, I0, I1, I2⟩ := q_cf5 D.out; go_wp2
 go_meet
 case rel => exact ⟨_, (false), q_r, H', ⟨by have := b2.out; have := c9.out; first | omega | exact Nat.le_refl _⟩, ⟨q_k q.out⟩, ⟨q_k D.out⟩, ⟨q_w2 U.out B.out a0.out⟩⟩}
 {
 have H' := a_ H
 clear H; have T7 := F.out; have U0 := E.out; obtain ⟨I3, I4, I5, I6, I7, I8, I9, J0, J1, J2⟩ := q_cf5 D.out; go_wp2
 go_meet
 case rel => exact ⟨_, (true), q_r, H', ⟨by have := b2.out; have := c9.out; first | omega | exact Nat.le_refl _⟩, ⟨q_k q.out⟩, ⟨q_k D.out⟩, ⟨q_w2 U.out B.out a0.out⟩⟩}}
 {
 have H' := a_ H
 clear H; have U1 := F.out; have U2 := E.out; obtain ⟨J3, J4, J5, J6, J7, J8, J9, K0, K1, K2⟩ := q_cf5 D.out; go_wp2
 go_meet
 case rel => exact ⟨_, (false), q_r, H', ⟨by have := b2.out; have := c9.out; first | omega | exact Nat.le_refl _⟩, ⟨q_k q.out⟩, ⟨q_k D.out⟩, ⟨q_w2 U.out B.out a0.out⟩⟩}}
 {
 have H' := a_ H
 clear H; have U3 := F.out; have U4 := E.out; obtain ⟨K3, K4, K5, K6, K7, K8, K9, L0, L1, L2⟩ := q_cf5 D.out; go_wp2
 go_meet
 case rel => exact ⟨_, (true), q_r, H', ⟨by have := b2.out; have := c9.out; first | omega | exact Nat.le_refl _⟩, ⟨q_k q.out⟩, ⟨q_k D.out⟩, ⟨q_w2 U.out B.out a0.out⟩⟩}}
 {
 have H' := a_ H
 clear H; have U5 := F.out; have U6 := E.out; obtain ⟨L3, L4, L5, L6, L7, L8, L9, M0, M1, M2⟩ := q_cf5 D.out; go_wp2
 go_meet
 case rel => exact ⟨_, (true), q_r, H', ⟨by have := b2.out; have := c9.out; first | omega | exact Nat.le_refl _⟩, ⟨q_k q.out⟩, ⟨q_k D.out⟩, ⟨q_w2 U.out B.out a0.out⟩⟩}})
 case rest => (
 clear o8; obtain ⟨kq, d3, rfl, HA, i5, q, D, U⟩ := hcut; cases kq with
 | zero => exact absurd HA.out (by simp [flow_ends.j2])
 | succ w4 => (
 have H := HA.out; clear HA; simp only [flow_ends.j2] at H
 by_cases v0 : d3 = true
 {
 subst v0; rw [if_pos rfl] at H; obtain rfl := Option.some.inj H; go_wp2
 go_ret
 exact ⟨q_e, q_w2 U.out B.out a0.out⟩}
 {
 replace v0 := Bool.eq_false_iff.mpr v0; subst v0; rw [if_neg Bool.false_ne_true] at H; replace H := Option.bind_eq_some_iff.mp H; obtain ⟨c6, w5, H⟩ := H; have U7 := a_ w5; clear w5; have H' := a_ H
 clear H; have U8 := F.out; have U9 := E.out; obtain ⟨o9, p0, p1, p2, p3, p4, p5, p6, p7, p8⟩ := q_cf5 D.out; go_wp2_with (first | ((with_reducible refine gc_ 44 rfl ?_); refine q_gl 63 #[.agg #[.slice d1 ((rd_T69 l y).f0).length d2, .int .i64 ((rd_T69 l y).f1), .int .i64 ((rd_T69 l y).f2), .int .i64 ((rd_T69 l y).f3), .int .i64 ((rd_T69 l y).f4)]] Tryd.func44 rfl ?_; (with_reducible refine (flow_next.calls _ _ ((rd_T69 l y).f0) ((rd_T69 l y).f1) ((rd_T69 l y).f2) ((rd_T69 l y).f3) ((rd_T69 l y).f4) c6 _ (q_C (Kd.C_below n6.out U.out)) n7.out U7.out).mono ?_); rintro e Y7 ⟨W5, rfl, j9, hb⟩; refine ⟨_, rfl, ?_⟩; have p9 := a_ (Kd.R_lower j9 (below_size (q_w2 U.out B.out a0.out))); replace q := a_ (q_bk q.out hb); replace D := a_ (q_bk D.out hb); replace U := a_ (q_st2 U.out hb B.out a0.out); clear hb j9; obtain ⟨M3, M4, M5⟩ := Kd.R_slice p9.out; subst M5))
 go_loopg [65] w4 (fun kq V0 w' => ∃ (a3 : Int), V0 = .int .i64 a3 ∧ Aside0 (flow_ends.l1 kq l (l.length : Int) y c6 (c6.length : Int) a3 V L O X l = some r) ∧ Aside0 (kq ≤ w4) ∧ Aside0 (Kd.R (Kd.int .i64) 3 w' w.heap.size (fun _ => True) (.slice M3 c6.length M4) c6) ∧ Aside0 (w'.heap[a5]? = some (.cells #[.string V, (.slice a6 L.length a7), (.slice a8 O.length a9), .int .i64 X, (.slice (some g6) l.length b0)] 26 (0, 0))) ∧ Aside0 (w'.heap[g7]? = some (.cells #[(.slice d1 ((rd_T69 l y).f0).length d2), .int .i64 ((rd_T69 l y).f1), .int .i64 ((rd_T69 l y).f2), .int .i64 ((rd_T69 l y).f3), .int .i64 ((rd_T69 l y).f4)] 69 (0, 0))) ∧ Aside0 (Below w.heap.size w w'))
 case atStart => exact ⟨(0), q_r, H', ⟨Nat.le_refl _⟩, ⟨by (with_reducible repeat (first | apply Kd.R_alloc | apply Kd.R_drewN | apply Kd.R_drew)); exact p9.out⟩, ⟨q_k q.out⟩, ⟨q_k D.out⟩, ⟨q_w2 U.out B.out a0.out⟩⟩
 case round => (
 clear H'; clear o9 p0 p1 p2 p3 p4 p5 p6 p7 p8; obtain ⟨a3, rfl, HA, v1, HO_63, q, D, U⟩ := hrel; cases gk with
 | zero => exact absurd HA.out (by simp [flow_ends.l1])
 | succ k4 => (
 have H := HA.out; clear HA; simp only [flow_ends.l1] at H
 rcases q_ite H with ⟨c53b0, H⟩ | ⟨c53b0, H⟩
 {
 replace H := q_gD H; obtain ⟨-, c54b0, H⟩ := H; replace H := q_gD H; obtain ⟨-, c55b0, H⟩ := H; rcases q_ite H with ⟨c56b0, H⟩ | ⟨c56b0, H⟩
 {
 obtain rfl := Option.some.inj H; have b6 : 0 ≤ (a3 : Int) := q_d
 have b7 : a3 < (c6.length : Int) := q_d
 obtain ⟨q0, e8, e9⟩ := Kd.at_int (Kd.R_reads' HO_63.out).2.2 a3 b6 b7; cases e8; replace b6 := eq_true b6; replace b7 := eq_true b7; go_wp2
 go_ret
 exact ⟨q_e, q_w2 U.out B.out a0.out⟩}
 {
 rcases q_ite H with ⟨c57b0, H⟩ | ⟨c57b0, H⟩
 {
 obtain rfl := Option.some.inj H; have b6 : 0 ≤ (a3 : Int) := q_d
 have b7 : a3 < (c6.length : Int) := q_d
 obtain ⟨q0, e8, e9⟩ := Kd.at_int (Kd.R_reads' HO_63.out).2.2 a3 b6 b7; cases e8; replace b6 := eq_true b6; replace b7 := eq_true b7; have V1 := E.out; have V2 := F.out; obtain ⟨M6, M7, M8, M9, N0, N1, N3, N4, N5, N6⟩ := q_cf5 q.out; go_wp2
 go_ret
 exact ⟨q_e, q_w2 U.out B.out a0.out⟩}
 {
 have H' := a_ H
 clear H; have b6 : 0 ≤ (a3 : Int) := q_d
 have b7 : a3 < (c6.length : Int) := q_d
 obtain ⟨q0, e8, e9⟩ := Kd.at_int (Kd.R_reads' HO_63.out).2.2 a3 b6 b7; cases e8; replace b6 := eq_true b6; replace b7 := eq_true b7; have V3 := E.out; have V4 := F.out; obtain ⟨N7, N8, N9, O0, O1, O2, O3, O4, O5, O6⟩ := q_cf5 q.out; go_wp2
 go_roundg k4
 case measure => have := b2.out; have := c9.out; have := i5.out; have := v1.out; omega
 case rel => exact ⟨(wrap64 (a3 + 1)), q_r, H', ⟨by have := b2.out; have := c9.out; have := i5.out; have := v1.out; omega⟩, ⟨by (with_reducible repeat (first | apply Kd.R_alloc | apply Kd.R_drewN | apply Kd.R_drew)); exact HO_63.out⟩, ⟨q_k q.out⟩, ⟨q_k D.out⟩, ⟨q_w2 U.out B.out a0.out⟩⟩}}}
 {
 have H' := a_ H
 clear H; go_wp2
 go_roundg k4
 case measure => have := b2.out; have := c9.out; have := i5.out; have := v1.out; omega
 case rel => exact ⟨(wrap64 (y + 1)), q_r, H', ⟨by have := b2.out; have := c9.out; have := i5.out; have := v1.out; omega⟩, ⟨q_k q.out⟩, ⟨q_w2 U.out B.out a0.out⟩⟩}))}))}))}
 {
 replace H := q_gED H; obtain ⟨-, c62b0, c62b1, H⟩ := H; replace H := q_gED H; obtain ⟨-, c63b0, c63b1, H⟩ := H; obtain ⟨c8, g8⟩ : ∃ y_ : List Bool, y_ = (List.replicate ((l.length : Int) : Int).toNat false) := ⟨_, rfl⟩; replace H : (if 0 < (c8.length : Int) then (flow_ends.l2 k1 (c8.set (0 : Int).toNat true) (([0] : List Int)) 0 V L O X l) else (none)) = some r := q_rw g8 H
 have q1 := a_ g8; clear g8; replace H := q_gD H; obtain ⟨V5, c64b0, H⟩ := H; have c64b1 : decide (0 < c8.length) = true := decide_eq_true (by omega)
 clear V5; obtain ⟨i6, g9⟩ : ∃ y_ : List Bool, y_ = (c8.set (0 : Int).toNat true) := ⟨_, rfl⟩; replace H : (flow_ends.l2 k1 i6 (([0] : List Int)) 0 V L O X l) = some r := q_rw g9 H
 have x8 := a_ g9; clear g9; obtain ⟨w6, i0⟩ : ∃ y_ : List Int, y_ = (([0] : List Int)) := ⟨_, rfl⟩; replace H : (flow_ends.l2 k1 i6 w6 0 V L O X l) = some r := q_rw i0 H
 have q2 := a_ i0; clear i0; have H' := a_ H
 clear H; obtain ⟨q3, q4, q5, q6, q7, q8, q9, r0, r1, r2⟩ := q_cf5 q.out; go_wp2_with (first | ((with_reducible refine gd_ 83 rfl ?_); (try (refine gate_guard (by rfl) ?_; dsimp only)); refine Kd.R_make Kd.bool _ 4 rfl (N := 83) rfl 37 _ _ rfl (l.length : Int) rfl rfl Tryd.underlying37 (.bool false) 1 info4 rfl (by decide) (by omega) false (ok := fun _ => True) (okp := fun _ => True) rfl (fun _ hk => hk) trivial (q_d) (Nat.le_trans (Nat.mul_le_mul_right _ (q_d : (l.length : Int).toNat ≤ 281474976710656)) (by omega)) (Below.refl _ _) (Nat.le_refl _) ?_; intro W7 O7 f5 hb hg_ hnew_; clear hg_ hnew_; (first | rw [← q1.out] at f5 | (simp only [Int.reduceToNat] at f5; rw [← q1.out] at f5)); have b3 := a_ (Kd.R_lower f5 (below_size (q_w1 U.out B.out))); replace q := a_ (q_bk q.out hb); replace U := a_ (q_st1 U.out hb B.out); clear hb f5; have v2 : 0 ≤ (0 : Int) := (by omega); have v3 : (0 : Int) < ((c8.length : Int) : Int) := q_d; have O8 : (0 < c8.length) = True := eq_true (by omega); obtain ⟨b4, e1, w7, w9, O9, W8, x0⟩ := Kd.R_form b3.out (by omega); (first | cases w7 | (injection w7 with ea_ en_ ec_; (first | subst ea_ | (injection ea_ with ea_; subst ea_)); subst ec_; clear en_)); have x1 := a_ w9; have W9 := a_ x0; clear w9 O9 x0; obtain ⟨e4, i7⟩ := Kd.R_celln false b3.out (0 : Int) v2 v3; (try rw [show ((0 : Int)).toNat = 0 from rfl] at e4); (try simp only [Nat.reduceMul, Nat.zero_mul, Nat.zero_add, Nat.reduceAdd] at e4); (try rw [show ((0 : Int)).toNat = 0 from rfl] at i7); (try simp only [Nat.reduceMul, Nat.zero_mul, Nat.zero_add, Nat.reduceAdd] at i7); replace v2 := eq_true v2; replace v3 := eq_true v3; obtain ⟨r3, r4⟩ := Kd.R_celln false b3.out (0 : Int) (by omega) (q_d); (try simp only [Int.reduceToNat, Int.toNat_zero, Int.toNat_ofNat, Nat.reduceMul, Nat.zero_mul, Nat.zero_add] at r3 r4); (try rw [show ((0 : Int)).toNat = 0 from rfl] at r3); (try rw [show ((0 : Int)).toNat = 0 from rfl] at r4); have r5 := Kd.R_putg b3.out (0 : Int) true) | ((with_reducible refine gate_store (t := 4) (p := 85) rfl ?_); refine store_event (t := 4) (p := 85) (v := ?vo_w70) (w1 := (O7.setCell ⟨b4, (0 : Int).toNat, none⟩ (.bool true))) ?hg ?ho ?hn ?hr ?_; (case ho => rfl); (case hg => rfl); (case hn => rfl); (case hr => first | (go_simp; done) | (go_simp; rfl)); intro x9 hw; have hg : O7.grownBy x9 (some b4) := (by rw [hw]; exact r5.2); have hp_ : Kd.R Kd.bool 4 x9 w.heap.size (fun _ => True) (.slice (some ⟨b4, 0, none⟩) c8.length e1) i6 := (by rw [hw, x8.out]; exact r5.1); clear r5; replace q := a_ (blk_grown (g := a5) (o := .cells #[.string V, .slice a6 L.length a7, .slice a8 O.length a9, .int .i64 X, .slice e0 l.length b0] 26 (0, 0)) (q_k q.out) hg (Kd.R_ne b3.out q.out (by decide))); replace b3 := a_ (hp_); replace U := a_ ((by rw [hw]; exact below_set (U.out) x1.out : Below w.heap.size w x9)); clear hg hw hp_) | ((with_reducible refine gd_ 86 rfl ?_); (try (refine gate_guard (by rfl) ?_; dsimp only)); refine Kd.R_lit (Kd.int .i64) _ 3 ?hg (N := 86) ?hd (xs := ([0] : List Int)) (inner := [.int .i64 0]) (ok := fun _ => True) (okp := fun _ => True) ?hr ?hp (fun _ hk => hk) trivial (Below.refl _ _) (Nat.le_refl _) (by simp) ?_; (case hd => rfl); (case hg => rfl); (case hr => first | (go_simp; done) | (go_simp; rfl)); (case hp => exact (Reps.one (show Kd.M (Kd.int .i64) _ _ _ 0 [.int .i64 0] from rfl) (Reps.none _ _))); intro X0 Y8 f6 hb hg_ hnew_; clear hg_ hnew_; (first | rw [← q2.out] at f6 | (simp only [Int.reduceToNat] at f6; rw [← q2.out] at f6)); have y0 := a_ (Kd.R_lower f6 (below_size (q_w1 U.out B.out))); replace b3 := a_ (Kd.R_below (by (with_reducible repeat (first | apply Kd.R_alloc | apply Kd.R_drewN | apply Kd.R_drew)); exact b3.out) hb); replace q := a_ (q_bk q.out hb); replace U := a_ (q_st1 U.out hb B.out); clear hb f6))
 go_loopg [8, 9] k1 (fun kq v8 v9 w' => ∃ (f7 : List Bool) (a1 : List Int) (J : Int), v9 = .int .i64 J ∧ Aside0 (flow_ends.l2 kq f7 a1 J V L O X l = some r) ∧ Aside0 (kq ≤ k1) ∧ Aside0 (Kd.R Kd.bool 4 w' w.heap.size (fun _ => True) (.slice (some ⟨b4, 0, none⟩) c8.length e1) f7) ∧ Aside0 (Kd.R (Kd.int .i64) 3 w' w.heap.size (fun _ => True) v8 a1) ∧ Aside0 (w'.heap[a5]? = some (.cells #[.string V, (.slice a6 L.length a7), (.slice a8 O.length a9), .int .i64 X, (.slice e0 l.length b0)] 26 (0, 0))) ∧ Aside0 (Below w.heap.size w w'))
 case atStart => exact ⟨(i6), (w6), (0), q_r, H', ⟨Nat.le_refl _⟩, ⟨by (with_reducible repeat (first | apply Kd.R_alloc | apply Kd.R_drewN | apply Kd.R_drew)); exact b3.out⟩, ⟨by (with_reducible repeat (first | apply Kd.R_alloc | apply Kd.R_drewN | apply Kd.R_drew)); exact y0.out⟩, ⟨q_k q.out⟩, ⟨q_w1 U.out B.out⟩⟩
 case round => (
 clear H'; clear c4b0 c62b0 c62b1 c63b0 c63b1 c64b0 c64b1 v2 v3 O8 q3 q4 q5 q6 q7 q8 q9 r0 r1 r2 e4; obtain ⟨f7, a1, J, rfl, HA, k0, HO_7, HO_8, q, U⟩ := hrel; have I := (Kd.R_reads' HO_7.out).1; rw [I] at HO_7; (try simp only [I])
 (try simp only [I] at q)
 (try simp only [I] at HO_8)
 cases gk with
 | zero => exact absurd HA.out (by simp [flow_ends.l2])
 | succ k2 => (
 have H := HA.out; clear HA; simp only [flow_ends.l2] at H
 replace H := q_iD H; rcases H with ⟨y1, c73b0, H⟩ | ⟨y1, c73b0, H⟩
 {
 have c73b7 := c73b0; (try simp only [I] at c73b7)
 clear y1; replace H := q_gD H; obtain ⟨-, c74b0, H⟩ := H; replace H := q_gD H; obtain ⟨-, c75b0, H⟩ := H; replace H := q_gD H; obtain ⟨-, c76b0, H⟩ := H; replace H := Option.bind_eq_some_iff.mp H; obtain ⟨G, x2, H⟩ := H; have V6 := a_ x2; clear x2; have H' := a_ H
 clear H; obtain ⟨X2, X3, P0⟩ := Kd.R_slice HO_8.out; subst P0; try go_wp2
 have r6 := a_ (Kd.R_drew HO_7.out); have r7 := a_ (Kd.R_drew HO_8.out); have r8 := a_ (blk_drew q.out); have r9 := a_ (below_drew1 U.out); clear HO_7 HO_8 q U; have HO_7 := r6; have HO_8 := r7; have q := r8; have U := r9; clear r6 r7 r8 r9; have i8 : 0 ≤ (J : Int) := q_d
 have i9 : J < (a1.length : Int) := q_d
 obtain ⟨y2, P1, d4⟩ := Kd.at_int (Kd.R_reads' HO_8.out).2.2 J i8 i9; cases P1; replace i8 := eq_true i8; replace i9 := eq_true i9; have j3 : 0 ≤ ((rd a1 J) : Int) := q_d
 have j5 : (rd a1 J) < (l.length : Int) := q_d
 obtain ⟨d5, j6, j7, P2, b8, b9, c0, c1, c3, f8, f9⟩ := at_T69 e2.out (rd a1 J) j3 j5; have g0 := c3; have g1 := c1; have g2 := c0; have g3 := b9; have g4 := b8; cases P2; replace b8 := q_kc U.out b8; replace b9 := q_kc U.out b9; replace c0 := q_kc U.out c0; replace c1 := q_kc U.out c1; replace c3 := q_kc U.out c3; have g5 := a_ f9; have s0 := a_ f8; clear f9 f8; replace j3 := eq_true j3; replace j5 := eq_true j5; refine q_s 11 (S := fun w' => cg5 w' a5 (.string V) (.slice a6 L.length a7) (.slice a8 O.length a9) (.int .i64 X) (.slice (some d5) l.length b0) (w'.cell? (y2.add (J).toNat) = some (.int .i64 (rd a1 J)) ∧ cp5_ w' (d5.add (((rd a1 J)).toNat * 5)) (.slice j6 ((rd_T69 l (rd a1 J)).f0).length j7) (.int .i64 ((rd_T69 l (rd a1 J)).f1)) (.int .i64 ((rd_T69 l (rd a1 J)).f2)) (.int .i64 ((rd_T69 l (rd a1 J)).f3)) (.int .i64 ((rd_T69 l (rd a1 J)).f4)))) (q_g5 q.out ⟨d4, (q_kc U.out g4), (q_kc U.out g3), (q_kc U.out g2), (q_kc U.out g1), (q_kc U.out g0)⟩) (fun c4 => ?_); refine with_tabW flow_ends.tab21 flow_ends.bits21 (fun d0 y3 => ?_)
 generalize wr.drew = Z0 at HO_7 HO_8 q U g5 d4 b8 b9 c0 c1 c3 c4 ⊢
 refine qv_ 0 d0 ?_
 refine qv_ 2 d0 ?_
 refine qv_ 3 d0 ?_
 refine qv_ 4 d0 ?_
 refine qv_ 10 d0 ?_
 refine qt11_ 1 d0 y3 c4 ?_
 refine qt11_ 5 d0 y3 c4 ?_
 refine qv_ 6 d0 ?_
 refine qt11_ 7 d0 y3 c4 ?_
 refine q_o 8 d0 (fun K hK => ?_)
 refine q_go #[.agg #[.slice j6 ((rd_T69 l (rd a1 J)).f0).length j7, .int .i64 ((rd_T69 l (rd a1 J)).f1), .int .i64 ((rd_T69 l (rd a1 J)).f2), .int .i64 ((rd_T69 l (rd a1 J)).f3), .int .i64 ((rd_T69 l (rd a1 J)).f4)]] Tryd.func44 rfl ?_
 with_reducible refine (flow_next.calls _ _ ((rd_T69 l (rd a1 J)).f0) ((rd_T69 l (rd a1 J)).f1) ((rd_T69 l (rd a1 J)).f2) ((rd_T69 l (rd a1 J)).f3) ((rd_T69 l (rd a1 J)).f4) G _ (q_C (Kd.C_below g5.out U.out)) s0.out V6.out).mono ?_
 rintro e Z1 ⟨X4, rfl, j9, hb⟩
 have P3 := q_kc hb (c4.2.2.2.2.2.1); refine ⟨_, rfl, ?_⟩
 have s1 := a_ (Kd.R_lower (Kd.R_new' j9 (Kd.R_lt (by (with_reducible repeat (first | apply Kd.R_alloc | apply Kd.R_drewN | apply Kd.R_drew)); exact HO_8.out))) (below_size (q_w1 U.out B.out))); replace HO_7 := a_ (Kd.R_below (by (with_reducible repeat (first | apply Kd.R_alloc | apply Kd.R_drewN | apply Kd.R_drew)); exact HO_7.out) hb); replace HO_8 := a_ (Kd.R_elder' (by (with_reducible repeat (first | apply Kd.R_alloc | apply Kd.R_drewN | apply Kd.R_drew)); exact HO_8.out) (Kd.R_base j9) hb); replace q := a_ (q_bk q.out hb); replace U := a_ (q_st1 U.out hb B.out); (clear hb)
 (clear j9)
 obtain ⟨x3, s2, x4⟩ := Kd.R_slice s1.out; (first | subst x4 | (injection x4 with P4 V7 P5; have V8 := P4.symm; have V9 := P5.symm; clear P4 V7 P5; subst V8; subst V9))
 refine q_nk hK.out (q_g5 q.out ⟨P3, (q_kc U.out g4), (q_kc U.out g3), (q_kc U.out g2), (q_kc U.out g1), (q_kc U.out g0)⟩) (fun c4 => ?_)
 clear hK K
 refine qv_ 9 d0 ?_
 refine done_ (done_of d0.out (by kernel_rfl)) ?_
 try go_wp2
 go_loopg [8, 103] k2 (fun kq v8 P6 w' => ∃ (a4 : List Bool) (b5 : List Int) (z : Int), P6 = .int .i64 z ∧ Aside0 (flow_ends.l3 kq a4 b5 J G (G.length : Int) z V L O X l = some r) ∧ Aside0 (kq ≤ k2) ∧ Aside0 (Kd.R Kd.bool 4 w' w.heap.size (fun _ => True) (.slice (some ⟨b4, 0, none⟩) f7.length e1) a4) ∧ Aside0 (Kd.R (Kd.int .i64) 3 w' w.heap.size (fun k_ => some k_ ≠ ((.slice x3 G.length s2) : Value).ownBlock) v8 b5) ∧ Aside0 (Kd.R (Kd.int .i64) 3 w' w.heap.size (fun k_ => some k_ ≠ (v8 : Value).ownBlock) (.slice x3 G.length s2) G) ∧ Aside0 (w'.heap[a5]? = some (.cells #[.string V, (.slice a6 L.length a7), (.slice a8 O.length a9), .int .i64 X, (.slice (some d5) l.length b0)] 26 (0, 0))) ∧ Aside0 (Below w.heap.size w w'))
 case atStart => exact ⟨(f7), (a1), (0), q_r, H', ⟨Nat.le_refl _⟩, ⟨by (try simp only [I]); (with_reducible repeat (first | apply Kd.R_alloc | apply Kd.R_drewN | apply Kd.R_drew)); exact HO_7.out⟩, ⟨by (try simp only [I]); (with_reducible repeat (first | apply Kd.R_alloc | apply Kd.R_drewN | apply Kd.R_drew)); exact Kd.R_mono HO_8.out (fun _ hk => hk.2)⟩, ⟨by (try simp only [I]); (with_reducible repeat (first | apply Kd.R_alloc | apply Kd.R_drewN | apply Kd.R_drew)); exact Kd.R_mono s1.out (fun _ hk => hk.2)⟩, ⟨by (try simp only [I]); (with_reducible repeat (first | refine blk_drewN ?_ _ | refine blk_drew ?_ | refine blk_alloc ?_ _)); exact q.out⟩, ⟨q_w1 U.out B.out⟩⟩
 case round => (
 clear H'; clear c73b0 c74b0 c75b0 c76b0 d4 b8 b9 c0 c1 c3 i8 j3 i9 j5; obtain ⟨a4, b5, z, rfl, HA, k5, HO_7, HO_8, HO_101, q, U⟩ := hrel; have T := (Kd.R_reads' HO_7.out).1; rw [T] at HO_7; (try simp only [T])
 (try simp only [T] at q)
 (try simp only [T] at HO_8)
 (try simp only [T] at HO_101)
 cases gk with
 | zero => exact absurd HA.out (by simp [flow_ends.l3])
 | succ k3 => (
 have H := HA.out; clear HA; simp only [flow_ends.l3] at H
 replace H := q_iD H; rcases H with ⟨y5, c82b0, H⟩ | ⟨y5, c82b0, H⟩
 {
 have c82b7 := c82b0; (try simp only [I, T] at c82b7)
 clear y5; replace H := q_gD H; obtain ⟨-, c83b0, H⟩ := H; replace H := q_gD H; obtain ⟨W0, c84b0, H⟩ := H; have c84b7 := c84b0; (try simp only [I, T] at c84b7)
 clear W0; replace H := q_gD H; obtain ⟨-, c85b0, H⟩ := H; replace H := q_gD H; obtain ⟨-, c86b0, H⟩ := H; obtain ⟨x5, i1⟩ : ∃ b_ : Bool, b_ = (rdOf false a4 (rd G z)) := ⟨_, rfl⟩; replace H : (if (x5 = true) then (flow_ends.l3 k3 a4 b5 J G (G.length : Int) (wrap64 (z + 1)) V L O X l) else (if b5.length < 17592186044416 then (flow_ends.l3 k3 (a4.set ((rd G z) : Int).toNat true) (b5 ++ [rd G z]) J G (G.length : Int) (wrap64 (z + 1)) V L O X l) else (none))) = some r := by rw [← i1] at H; exact H
 have s3 := a_ i1; clear i1; by_cases v4 : (x5 = true)
 {
 subst v4; rw [if_pos rfl] at H; have H' := a_ H
 clear H; have d6 : 0 ≤ (z : Int) := q_d
 have d7 : z < (G.length : Int) := q_d
 obtain ⟨s4, s5, s6⟩ := Kd.at_int (Kd.R_reads' HO_101.out).2.2 z d6 d7; cases s5; replace d6 := eq_true d6; replace d7 := eq_true d7; have d8 : 0 ≤ ((rd G z) : Int) := q_d
 have d9 : (rd G z) < (a4.length : Int) := q_d
 obtain ⟨i2, s7, a2⟩ := Kd.at_bool (Kd.R_reads' HO_7.out).2.2 (rd G z) d8 d9; (try rw [← s3.out] at a2)
 obtain rfl : (⟨b4, 0, none⟩ : Addr) = i2 := (by injection s7)
 (first | simp only [add_plain] at a2 | simp only [add_at] at a2 | simp only [Addr.add, Nat.zero_add] at a2 | skip)
 replace d8 := eq_true d8; replace d9 := eq_true d9; go_wp2
 (try simp only [← T])
 go_roundg k3
 case measure => have := b2.out; have := k0.out; have := k5.out; omega
 case rel => exact ⟨(a4), (b5), (wrap64 (z + 1)), q_r, H', ⟨by have := b2.out; have := k0.out; have := k5.out; omega⟩, ⟨by (try simp only [I]); (try simp only [T]); (with_reducible repeat (first | apply Kd.R_alloc | apply Kd.R_drewN | apply Kd.R_drew)); exact HO_7.out⟩, ⟨by (try simp only [I]); (try simp only [T]); (with_reducible repeat (first | apply Kd.R_alloc | apply Kd.R_drewN | apply Kd.R_drew)); exact HO_8.out⟩, ⟨by (try simp only [I]); (try simp only [T]); (with_reducible repeat (first | apply Kd.R_alloc | apply Kd.R_drewN | apply Kd.R_drew)); exact HO_101.out⟩, ⟨by (try simp only [I]); (try simp only [T]); (with_reducible repeat (first | refine blk_drewN ?_ _ | refine blk_drew ?_ | refine blk_alloc ?_ _)); exact q.out⟩, ⟨q_w1 U.out B.out⟩⟩}
 {
 replace v4 := Bool.eq_false_iff.mpr v4; subst v4; rw [if_neg Bool.false_ne_true] at H; obtain ⟨j8, i3⟩ : ∃ y_ : List Bool, y_ = (a4.set ((rd G z) : Int).toNat true) := ⟨_, rfl⟩; replace H : (if b5.length < 17592186044416 then (flow_ends.l3 k3 j8 (b5 ++ [rd G z]) J G (G.length : Int) (wrap64 (z + 1)) V L O X l) else (none)) = some r := q_rw i3 H
 have y6 := a_ i3; clear i3; replace H := q_g H; obtain ⟨P7, H⟩ := H; have y7 := a_ P7; clear P7; obtain ⟨x6, i4⟩ : ∃ y_ : List Int, y_ = (b5 ++ [rd G z]) := ⟨_, rfl⟩; replace H : (flow_ends.l3 k3 j8 x6 J G (G.length : Int) (wrap64 (z + 1)) V L O X l) = some r := q_rw i4 H
 have y8 := a_ i4; clear i4; have H' := a_ H
 clear H; have d6 : 0 ≤ (z : Int) := q_d
 have d7 : z < (G.length : Int) := q_d
 obtain ⟨s4, s5, s6⟩ := Kd.at_int (Kd.R_reads' HO_101.out).2.2 z d6 d7; cases s5; replace d6 := eq_true d6; replace d7 := eq_true d7; have d8 : 0 ≤ ((rd G z) : Int) := q_d
 have d9 : (rd G z) < (a4.length : Int) := q_d
 obtain ⟨i2, s7, a2⟩ := Kd.at_bool (Kd.R_reads' HO_7.out).2.2 (rd G z) d8 d9; (try rw [← s3.out] at a2)
 obtain rfl : (⟨b4, 0, none⟩ : Addr) = i2 := (by injection s7)
 (first | simp only [add_plain] at a2 | simp only [add_at] at a2 | simp only [Addr.add, Nat.zero_add] at a2 | skip)
 replace d8 := eq_true d8; replace d9 := eq_true d9; have y9 : 0 ≤ ((rd G z) : Int) := q_d
 have z0 : ((rd G z) : Int) < ((a4.length : Int) : Int) := q_d
 obtain ⟨R1, R2⟩ := Kd.R_celln false HO_7.out ((rd G z) : Int) y9 z0; replace y9 := eq_true y9; replace z0 := eq_true z0; have s8 := Kd.R_putg HO_7.out ((rd G z) : Int) true; go_wp2_with (first | ((with_reducible refine gate_store (t := 4) (p := 114) rfl ?_); refine store_event (t := 4) (p := 114) (v := ?vo_w92) (w1 := (wr.setCell ⟨b4, ((rd G z) : Int).toNat, none⟩ (.bool true))) ?hg ?ho ?hn ?hr ?_; (case ho => rfl); (case hg => rfl); (case hn => rfl); (case hr => first | (go_simp; done) | (go_simp; rfl)); intro z1 hw; have hg : wr.grownBy z1 (some b4) := (by rw [hw]; exact s8.2); have hp_ : Kd.R Kd.bool 4 z1 w.heap.size (fun _ => True) (.slice (some ⟨b4, 0, none⟩) a4.length e1) j8 := (by rw [hw, y6.out]; exact s8.1); clear s8; replace U := a_ ((by rw [hw]; exact below_set (U.out) x1.out : Below w.heap.size w z1)); replace q := a_ (blk_grown (g := a5) (o := .cells #[.string V, .slice a6 L.length a7, .slice a8 O.length a9, .int .i64 X, .slice (some d5) l.length b0] 26 (0, 0)) (q_k q.out) hg (Kd.R_ne HO_7.out q.out (by decide))); replace HO_101 := a_ (Kd.R_over' (v := (.slice (some ⟨b4, 0, none⟩) a4.length e1)) (by (with_reducible repeat (first | apply Kd.R_alloc | apply Kd.R_drewN | apply Kd.R_drew)); exact HO_101.out) (Kd.R_typed HO_7.out) (by decide) hg); replace HO_8 := a_ (Kd.R_over' (v := (.slice (some ⟨b4, 0, none⟩) a4.length e1)) (by (with_reducible repeat (first | apply Kd.R_alloc | apply Kd.R_drewN | apply Kd.R_drew)); exact HO_8.out) (Kd.R_typed HO_7.out) (by decide) hg); replace HO_7 := a_ (hp_); clear hg hw hp_) | ((with_reducible refine gate_builtin (b := .append) (xs := #[.tmp 115, .tmp 117]) rfl ?_); (try (refine gate_guard (by rfl) ?_; dsimp only)); at_builtin; refine Kd.R_append (Kd.int .i64) (w0 := w) w.heap.size rfl (.tmp 115) (.tmp 117) 27 3 (.int .i64 0) 8 rfl Tryd.underlying27 info3 rfl (by decide) (by omega) u8 b5 (rd G z) [.int .i64 (rd G z)] (fun k_ => some k_ ≠ (.slice (some s4) G.length s2 : Value).ownBlock) (fun _ => False) rfl rfl ?aP (fun _ hk => hk.elim) ?aF ?aO ?aB ?aS ?aL ?_; (case aP => exact rfl); (case aB => exact (q_w1 U.out B.out)); (case aF => exact (fun k_ hk => Kd.fresh' (Kd.R_lt (by (with_reducible repeat (first | apply Kd.R_alloc | apply Kd.R_drewN | apply Kd.R_drew)); exact HO_101.out)) k_ hk)); (case aO => exact (by (with_reducible repeat (first | apply Kd.R_alloc | apply Kd.R_drewN | apply Kd.R_drew)); exact HO_8.out)); (case aS => exact (below_size (q_w1 U.out B.out))); (case aL => have := y7.out; omega); intro X5 Z2 ho hb hg hat; rw [← y8.out] at ho; have r6 := a_ (Kd.R_over' (by (with_reducible repeat (first | apply Kd.R_alloc | apply Kd.R_drewN | apply Kd.R_drew)); exact HO_7.out) (Kd.R_typed (by (with_reducible repeat (first | apply Kd.R_alloc | apply Kd.R_drewN | apply Kd.R_drew)); exact HO_8.out)) (by decide) hg); have r7 := a_ (Kd.R_after (ok := (fun _ => True)) (by (with_reducible repeat (first | apply Kd.R_alloc | apply Kd.R_drewN | apply Kd.R_drew)); exact Kd.R_mono HO_101.out (fun _ hk => ⟨trivial, hk⟩)) hg hat); have r8 := a_ (blk_grown (g := a5) (o := .cells #[.string V, .slice a6 L.length a7, .slice a8 O.length a9, .int .i64 X, .slice (some d5) l.length b0] 26 (0, 0)) (q_k q.out) hg (Kd.R_ne HO_8.out q.out (by decide))); have r9 := a_ (hb); have P8 := a_ (ho); clear HO_7; clear HO_101; clear q; clear U; clear HO_8; have HO_7 := r6; have HO_101 := r7; have q := r8; have U := r9; have z2 := P8; clear r6 r7 r8 r9 P8; clear ho hb hg hat))
 (try simp only [← T])
 go_roundg k3
 case measure => have := b2.out; have := k0.out; have := k5.out; omega
 case rel => exact ⟨(j8), (x6), (wrap64 (z + 1)), q_r, H', ⟨by have := b2.out; have := k0.out; have := k5.out; omega⟩, ⟨by (try simp only [I]); (try simp only [T]); (with_reducible repeat (first | apply Kd.R_alloc | apply Kd.R_drewN | apply Kd.R_drew)); exact HO_7.out⟩, ⟨by (try simp only [I]); (try simp only [T]); (with_reducible repeat (first | apply Kd.R_alloc | apply Kd.R_drewN | apply Kd.R_drew)); exact z2.out⟩, ⟨by (try simp only [I]); (try simp only [T]); (with_reducible repeat (first | apply Kd.R_alloc | apply Kd.R_drewN | apply Kd.R_drew)); exact Kd.R_mono HO_101.out (fun _ hk => hk.2)⟩, ⟨by (try simp only [I]); (try simp only [T]); (with_reducible repeat (first | refine blk_drewN ?_ _ | refine blk_drew ?_ | refine blk_alloc ?_ _)); exact q.out⟩, ⟨q_w1 U.out B.out⟩⟩}}
 {
 have c82b7 := c82b0; (try simp only [I, T] at c82b7)
 clear y5; have H' := a_ H
 clear H; go_wp2
 (try simp only [← I, ← T])
 go_roundg k3
 case measure => have := b2.out; have := k0.out; have := k5.out; omega
 case rel => exact ⟨(a4), (b5), (wrap64 (J + 1)), q_r, H', ⟨by have := b2.out; have := k0.out; have := k5.out; omega⟩, ⟨by (try simp only [I]); (try simp only [T]); (with_reducible repeat (first | apply Kd.R_alloc | apply Kd.R_drewN | apply Kd.R_drew)); exact HO_7.out⟩, ⟨by (try simp only [I]); (try simp only [T]); (with_reducible repeat (first | apply Kd.R_alloc | apply Kd.R_drewN | apply Kd.R_drew)); exact Kd.R_mono HO_8.out (fun _ hk => trivial)⟩, ⟨by (try simp only [I]); (try simp only [T]); (with_reducible repeat (first | refine blk_drewN ?_ _ | refine blk_drew ?_ | refine blk_alloc ?_ _)); exact q.out⟩, ⟨q_w1 U.out B.out⟩⟩}))}
 {
 have c73b7 := c73b0; (try simp only [I, T] at c73b7)
 clear y1; obtain rfl := Option.some.inj H; obtain ⟨X6, X7, P9⟩ := Kd.R_slice HO_8.out; subst P9; obtain ⟨Q0, Q1, Q2, Q3, Q4, Q5, Q6, Q7, Q8, Q9⟩ := q_cf5 q.out; go_wp2
 go_ret
 exact ⟨q_e, q_w1 U.out B.out⟩}))}))
mutual
def flow_before.l0 : Nat → List (List Int) → List (S69) → Int → Int → Option ((List (List Int)))
 | 0, _, _, _, _ => none
 | k + 1, y, q, z, p => if p < z then (if 0 ≤ p then (if p < (q.length : Int) then ((flow_next.f ((rd_T69 q p).f0) ((rd_T69 q p).f1) ((rd_T69 q p).f2) ((rd_T69 q p).f3) ((rd_T69 q p).f4)).bind fun C => (flow_before.l1 k y p q z p C (C.length : Int) 0)) else (none)) else (none)) else (some y)
def flow_before.l1 : Nat → List (List Int) → Int → List (S69) → Int → Int → List Int → Int → Int → Option ((List (List Int)))
 | 0, _, _, _, _, _, _, _, _ => none
 | k + 1, y, D, q, z, p, l, B, b => if b < B then (if 0 ≤ b then (if b < (l.length : Int) then (if 0 ≤ (rd l b) then (if (rd l b) < (y.length : Int) then (if ((rd_L2 y (rd l b)).length : Int) = 0 then (if (rd_L2 y (rd l b)).length < 17592186044416 then (flow_before.l1 k (y.set ((rd l b) : Int).toNat ((rd_L2 y (rd l b)) ++ [D])) D q z p l B (wrap64 (b + 1))) else (none)) else (if 0 ≤ (wrap64 (((rd_L2 y (rd l b)).length : Int) - 1)) then (if (wrap64 (((rd_L2 y (rd l b)).length : Int) - 1)) < ((rd_L2 y (rd l b)).length : Int) then (if (rd (rd_L2 y (rd l b)) (wrap64 (((rd_L2 y (rd l b)).length : Int) - 1))) = D then (flow_before.l1 k y D q z p l B (wrap64 (b + 1))) else (if (rd_L2 y (rd l b)).length < 17592186044416 then (flow_before.l1 k (y.set ((rd l b) : Int).toNat ((rd_L2 y (rd l b)) ++ [D])) D q z p l B (wrap64 (b + 1))) else (none))) else (none)) else (none))) else (none)) else (none)) else (none)) else (none)) else (flow_before.l0 k y q z (wrap64 (p + 1)))
end
def flow_before.f (k : Nat) (l : ByteArray) (p : List (S83)) (q : List (S85)) (y : Int) (b : List (S69)) : Option ((List (List Int))) := if 0 ≤ (b.length : Int) then (if ((b.length : Int) : Int).toNat ≤ 11728124029610 then (flow_before.l0 k (List.replicate ((b.length : Int) : Int).toNat []) b (b.length : Int) 0) else (none)) else (none)
theorem flow_before.calls (k : Nat) (b7 : ByteArray) (b8 : Option Addr) (b9 : Nat) (a6 : List (S83)) (c0 : Option Addr) (c1 : Nat) (a7 : List (S85)) (c3 : Int) (l6 : Option Addr) (c4 : Nat) (z : List (S69)) (r : List (List Int)) (w : World) (o5 : Kd.C k83 w b8 a6.length a6) (o6 : a6.length ≤ b9) (o7 : Kd.C k85 w c0 a7.length a7) (o8 : a7.length ≤ c1) (o9 : Kd.C k69 w l6 z.length z) (p0 : z.length ≤ c4) (h : flow_before.f k b7 a6 a7 c3 z = some r) :
  Calls Tryd.prog 61 #[.agg #[.string b7, .slice b8 a6.length b9, .slice c0 a7.length c1, .int .i64 c3, .slice l6 z.length c4]] w fun e w' => ∃ B6 : Value, e = .returned (B6) ∧ Kd.S (Kd.slice 3 (Kd.int .i64)) 27 w' w.heap.size (fun _ => True) B6 r ∧ Below w.heap.size w w' := by
 have H2 := Tryd.underlying26; have H3 := Tryd.underlying69; have F6 := a_ o5; have F7 := a_ o6; clear o5 o6; have F8 := a_ o7; have F9 := a_ o8; clear o7 o8; have z6 := a_ o9; have G0 := a_ p0; clear o9 p0; have HB := a_ (Below.refl w.heap.size w); have H : (if 0 ≤ (z.length : Int) then (if ((z.length : Int) : Int).toNat ≤ 11728124029610 then (flow_before.l0 k (List.replicate ((z.length : Int) : Int).toNat []) z (z.length : Int) 0) else (none)) else (none)) = some r := h
 clear h; replace H := q_gED H; obtain ⟨-, c2b0, c2b1, H⟩ := H; replace H := q_gED H; obtain ⟨-, c3b0, c3b1, H⟩ := H; obtain ⟨x8, j9⟩ : ∃ y_ : List (List Int), y_ = (List.replicate ((z.length : Int) : Int).toNat []) := ⟨_, rfl⟩; replace H : (flow_before.l0 k x8 z (z.length : Int) 0) = some r := q_rw j9 H
 have p1 := a_ j9; clear j9; have H' := a_ H
 clear H; go_enter Tryd.func61, Tryd.ntmps61
 go_wp2_with (first | ((with_reducible refine gd_ 1 rfl ?_); refine q_box 1 26 #[.string b7, .slice b8 a6.length b9, .slice c0 a7.length c1, .int .i64 c3, .slice l6 z.length c4] ?_; intro d7 hg w4 g4 hb; have D := a_ (g4); have G1 := a_ ((q_ge HB.out hg)); have I := a_ ((q_ge HB.out hg)); replace HB := a_ (q_st HB.out hb); clear hb g4 hg; obtain ⟨t8, t9, v0, v1, v2, v3, v4, v5, v6, v7⟩ := q_cf5 D.out) | ((with_reducible refine gd_ 12 rfl ?_); refine Kd.S_make (Kd.slice 3 (Kd.int .i64)) _ 27 rfl (N := 12) rfl 42 _ _ rfl (z.length : Int) rfl rfl Tryd.underlying42 (.slice none 0 0) 24 info27 rfl (by decide) (by omega) [] (ok := fun _ => True) (okp := fun _ => True) ⟨_, rfl, Kd.R_nil _ _ _ _ _⟩ (fun _ hk => hk) trivial (q_d) (Nat.le_trans (Nat.mul_le_mul_right _ (q_d : (z.length : Int).toNat ≤ 11728124029610)) (by omega)) (Below.refl _ _) (Nat.le_refl _) ?_; intro x9 w6 p2 hb hg_ hnew_; clear hg_ hnew_; (first | rw [← p1.out] at p2 | (simp only [Int.reduceToNat] at p2; rw [← p1.out] at p2)); have z7 := a_ (Kd.S_lower p2 (below_size (q_w1 HB.out I.out))); replace D := a_ (q_bk D.out hb); replace HB := a_ (q_st1 HB.out hb I.out); clear hb p2; obtain ⟨v8, v9, w2, w3, w5, w7, w8, w9, x0, x1⟩ := q_cf5 D.out))
 go_loopg [16] k (fun kq G2 w' => ∃ (l7 : List (List Int)) (y : Int), G2 = .int .i64 y ∧ Aside0 (flow_before.l0 kq l7 z (z.length : Int) y = some r) ∧ Aside0 (kq ≤ k) ∧ Aside0 (Kd.S (Kd.slice 3 (Kd.int .i64)) 27 w' w.heap.size (fun _ => True) x9 l7) ∧ Aside0 (w'.heap[d7]? = some (.cells #[.string b7, (.slice b8 a6.length b9), (.slice c0 a7.length c1), .int .i64 c3, (.slice l6 z.length c4)] 26 (0, 0))) ∧ Aside0 (Below w.heap.size w w'))
 case atStart => exact ⟨(x8), (0), q_r, H', ⟨Nat.le_refl _⟩, ⟨by (with_reducible repeat (first | apply Kd.S_alloc | apply Kd.S_drewN | apply Kd.S_drew)); exact z7.out⟩, ⟨q_k D.out⟩, ⟨q_w1 HB.out I.out⟩⟩
 case round => (
 clear H'; clear c2b0 c2b1 c3b0 c3b1 t8 t9 v0 v1 v2 v8 v9 w2 w3 w5 v3 v4 v5 v6 v7 w7 w8 w9 x0 x1; obtain ⟨l7, y, rfl, HA, g5, HO_3, D, HB⟩ := hrel; cases gk with
 | zero => exact absurd HA.out (by simp [flow_before.l0])
 | succ k1 => (
 have H := HA.out; clear HA; simp only [flow_before.l0] at H
 rcases q_ite H with ⟨c9b0, H⟩ | ⟨c9b0, H⟩
 {
 replace H := q_gD H; obtain ⟨-, c10b0, H⟩ := H; replace H := q_gD H; obtain ⟨-, c11b0, H⟩ := H; replace H := Option.bind_eq_some_iff.mp H; obtain ⟨q, y0, H⟩ := H; have G3 := a_ y0; clear y0; have H' := a_ H
 clear H; obtain ⟨e3, a0, a1, B7, p3, p4, p5, p6, p7, g6, g7, C0, C1⟩ := b_T69 z6.out HB.out y; cases B7; have p8 := a_ g7; have p9 := a_ g6; clear g7 g6; go_wp2_with (first | ((with_reducible refine gd_ 5 rfl ?_); refine q_box 5 69 #[.slice none 0 0, .int .i64 0, .int .i64 0, .int .i64 0, .int .i64 0] ?_; intro V hg J0 g4 hb; have F := a_ (g4); have G4 := a_ ((q_ge1 HB.out hg I.out)); have U := a_ ((q_ge1 HB.out hg I.out)); have e4 := a_ ((q_ne D.out hg)); have k0 := a_ ((q_en D.out hg)); replace HO_3 := a_ (Kd.S_below (by (with_reducible repeat (first | apply Kd.S_alloc | apply Kd.S_drewN | apply Kd.S_drew)); exact HO_3.out) hb); replace D := a_ (q_bk D.out hb); replace HB := a_ (q_st1 HB.out hb I.out); clear hb g4 hg; have G5 := k0.out; have G6 := e4.out; obtain ⟨q0, q1, q2, q3, q4, q5, q6, q7, q8, q9⟩ := q_cf5 F.out) | ((with_reducible refine gc_ 44 rfl ?_); refine q_gl 22 #[.agg #[.slice a0 ((rd_T69 z y).f0).length a1, .int .i64 ((rd_T69 z y).f1), .int .i64 ((rd_T69 z y).f2), .int .i64 ((rd_T69 z y).f3), .int .i64 ((rd_T69 z y).f4)]] Tryd.func44 rfl ?_; (with_reducible refine (flow_next.calls _ _ ((rd_T69 z y).f0) ((rd_T69 z y).f1) ((rd_T69 z y).f2) ((rd_T69 z y).f3) ((rd_T69 z y).f4) q _ (Kd.C_below p8.out (q_w2 HB.out I.out U.out)) p9.out G3.out).mono ?_); rintro e J1 ⟨H5, rfl, z8, hb⟩; refine ⟨_, rfl, ?_⟩; have r0 := a_ (Kd.R_lower z8 (below_size (q_w2 HB.out I.out U.out))); replace HO_3 := a_ (Kd.S_elder' (by (with_reducible repeat (first | apply Kd.S_alloc | apply Kd.S_drewN | apply Kd.S_drew)); exact (Kd.S_mono (Kd.S_far (p := ⟨V, 4, none⟩) (Kd.S_far (p := ⟨V, 3, none⟩) (Kd.S_far (p := ⟨V, 2, none⟩) (Kd.S_far (p := ⟨V, 1, none⟩) (Kd.S_far (p := ⟨V, 0, none⟩) (Kd.S_types HO_3.out F.out (by decide)) (fun _ hk => hk.2) (.slice a0 ((rd_T69 z y).f0).length a1)) (fun _ hk => hk.2) (.int .i64 ((rd_T69 z y).f1))) (fun _ hk => hk.2) (.int .i64 ((rd_T69 z y).f2))) (fun _ hk => hk.2) (.int .i64 ((rd_T69 z y).f3))) (fun _ hk => hk.2) (.int .i64 ((rd_T69 z y).f4))) (fun _ h_ => h_.1))) (Kd.R_base z8) hb); replace D := a_ (blk_below (q_f1 D.out e4.out) hb); replace F := a_ (blk_below (g := V) (o := .cells #[.slice a0 ((rd_T69 z y).f0).length a1, .int .i64 ((rd_T69 z y).f1), .int .i64 ((rd_T69 z y).f2), .int .i64 ((rd_T69 z y).f3), .int .i64 ((rd_T69 z y).f4)] 69 (0, 0)) (q_p F.out) hb); replace HB := a_ (q_st2 HB.out hb I.out U.out); clear hb z8; obtain ⟨y1, g1, C2⟩ := Kd.R_slice r0.out; subst C2))
 go_loopg [24] k1 (fun kq G7 w' => ∃ (B : List (List Int)) (l : Int), G7 = .int .i64 l ∧ Aside0 (flow_before.l1 kq B y z (z.length : Int) y q (q.length : Int) l = some r) ∧ Aside0 (kq ≤ k1) ∧ Aside0 (Kd.S (Kd.slice 3 (Kd.int .i64)) 27 w' w.heap.size (fun k_ => some k_ ≠ ((.slice y1 q.length g1) : Value).ownBlock) x9 B) ∧ Aside0 (Kd.R (Kd.int .i64) 3 w' w.heap.size (fun _ => True) (.slice y1 q.length g1) q) ∧ Aside0 (w'.heap[d7]? = some (.cells #[.string b7, (.slice b8 a6.length b9), (.slice c0 a7.length c1), .int .i64 c3, (.slice (some e3) z.length c4)] 26 (0, 0))) ∧ Aside0 (w'.heap[V]? = some (.cells #[(.slice a0 ((rd_T69 z y).f0).length a1), .int .i64 ((rd_T69 z y).f1), .int .i64 ((rd_T69 z y).f2), .int .i64 ((rd_T69 z y).f3), .int .i64 ((rd_T69 z y).f4)] 69 (0, 0))) ∧ Aside0 (Below w.heap.size w w'))
 case atStart => exact ⟨(l7), (0), q_r, H', ⟨Nat.le_refl _⟩, ⟨by (with_reducible repeat (first | apply Kd.S_alloc | apply Kd.S_drewN | apply Kd.S_drew)); exact Kd.S_mono HO_3.out (fun _ hk => hk.2)⟩, ⟨by (with_reducible repeat (first | apply Kd.R_alloc | apply Kd.R_drewN | apply Kd.R_drew)); exact r0.out⟩, ⟨q_k D.out⟩, ⟨q_k F.out⟩, ⟨q_w2 HB.out I.out U.out⟩⟩
 case round => (
 clear H'; clear c9b0 c10b0 c11b0 q0 q1 q2 q3 q4 q5 q6 q7 q8 q9 p3 p4 p5 p6 p7 C0 C1; obtain ⟨B, l, rfl, HA, g8, HO_3, HO_22, D, F, HB⟩ := hrel; cases gk with
 | zero => exact absurd HA.out (by simp [flow_before.l1])
 | succ k2 => (
 have H := HA.out; clear HA; simp only [flow_before.l1] at H
 rcases q_ite H with ⟨c18b0, H⟩ | ⟨c18b0, H⟩
 {
 replace H := q_gD H; obtain ⟨-, c19b0, H⟩ := H; replace H := q_gD H; obtain ⟨-, c20b0, H⟩ := H; replace H := q_gD H; obtain ⟨-, c21b0, H⟩ := H; replace H := q_gD H; obtain ⟨-, c22b0, H⟩ := H; replace H := q_iBN H; rcases H with ⟨-, c23b0, c23b1, H⟩ | ⟨G8, c23b0, c23b1, H⟩
 {
 replace H := q_g H; obtain ⟨C3, H⟩ := H; have z9 := a_ C3; clear C3; obtain ⟨g9, k3⟩ : ∃ y_ : List Int, y_ = ((rd_L2 B (rd q l)) ++ [y]) := ⟨_, rfl⟩; replace H : (flow_before.l1 k2 (B.set ((rd q l) : Int).toNat g9) y z (z.length : Int) y q (q.length : Int) (wrap64 (l + 1))) = some r := q_rw k3 H
 have A0 := a_ k3; clear k3; obtain ⟨r1, k4⟩ : ∃ y_ : List (List Int), y_ = (B.set ((rd q l) : Int).toNat g9) := ⟨_, rfl⟩; replace H : (flow_before.l1 k2 r1 y z (z.length : Int) y q (q.length : Int) (wrap64 (l + 1))) = some r := q_rw k4 H
 have A1 := a_ k4; clear k4; have H' := a_ H
 clear H; have a8 : 0 ≤ (l : Int) := q_d
 have a9 : l < (q.length : Int) := q_d
 obtain ⟨d8, i0, i1⟩ := Kd.at_int (Kd.R_reads' HO_22.out).2.2 l a8 a9; cases i0; replace a8 := eq_true a8; replace a9 := eq_true a9; obtain ⟨H6, y2, C4⟩ := Kd.S_slice HO_3.out; subst C4; have a2 : 0 ≤ ((rd q l) : Int) := q_d
 have a3 : (rd q l) < (B.length : Int) := q_d
 obtain ⟨d9, e0, b5, i2, G, M, O⟩ := at_L2 (Kd.S_reads' HO_3.out).2.2 (rd q l) a2 a3; cases i2; obtain ⟨r2, c6, c8, a4⟩ := Kd.S_get HO_3.out [] (rd q l) a2 (by first | exact a3 | exact q_d | (have e_ := (Kd.S_reads' HO_3.out).1; omega))
 obtain ⟨i3, rfl, J⟩ := c8; have E := a4 0 _ rfl; rw [Nat.add_zero, show ((Kd.slice 3 (Kd.int .i64))).sz = 1 from rfl, Nat.mul_one] at E; replace E := Option.some.inj (E.symm.trans G); rw [E] at J; have c9 := a_ (show Kd.R (Kd.int .i64) 3 _ _ _ _ (rd_L2 B (rd q l)) from J); clear E J; have i4 := a_ G; clear a4 c6; have i5 := a_ O; have i6 := a_ M; clear O M; replace a2 := eq_true a2; replace a3 := eq_true a3; have l8 : 0 ≤ ((rd q l) : Int) := q_d
 have l9 : (rd q l) < (B.length : Int) := q_d
 obtain ⟨A2, F0, F1, C5, d0, i7, i8⟩ := at_L2 (Kd.S_reads' HO_3.out).2.2 (rd q l) l8 l9; obtain rfl : d9 = A2 := (by injection C5)
 obtain ⟨G9, x2, x3, n0⟩ := Kd.S_get HO_3.out [] (rd q l) l8 (by first | exact l9 | exact q_d | (have e_ := (Kd.S_reads' HO_3.out).1; omega))
 obtain ⟨C6, rfl, e5⟩ := x3; have b0 := n0 0 _ rfl; rw [Nat.add_zero, show ((Kd.slice 3 (Kd.int .i64))).sz = 1 from rfl, Nat.mul_one] at b0; replace b0 := Option.some.inj (b0.symm.trans d0); rw [b0] at e5; have d1 := a_ (show Kd.R (Kd.int .i64) 3 _ _ _ _ (rd_L2 B (rd q l)) from e5); clear b0 e5; have r3 := a_ d0; clear n0 x2; have C7 := a_ i8; have C8 := a_ i7; clear i8 i7; replace l8 := eq_true l8; replace l9 := eq_true l9; have ea_ := Option.some.inj (G.symm.trans d0); injection ea_ with ea_ en_ ec_
 subst ea_; subst ec_; clear en_; obtain ⟨n1, H7, y3, y4, C9, H8, y5⟩ := Kd.S_form HO_3.out (by have h_ : ((rd q l) : Int) < ((B.length : Int) : Int) := q_d; have H0 : 0 ≤ ((rd q l) : Int) := (q_d); omega)
 (first | cases y3 | (injection y3 with ea_ en_ ec_; (first | subst ea_ | (injection ea_ with ea_; subst ea_)); subst ec_; clear en_))
 have D0 := a_ y4; have H9 := a_ y5; clear y4 C9 y5; (first | simp only [add_plain] at G | skip)
 (first | simp only [add_plain] at d0 | skip)
 obtain ⟨r4, I0, A3, D1, r5, _, _, y6⟩ := Kd.S_elem HO_3.out [] ((rd q l) : Int) (q_d) (by have h_ : ((rd q l) : Int) < ((B.length : Int) : Int) := q_d; first | exact h_ | (have e_ := (Kd.S_reads' HO_3.out).1; omega) | simpa using h_)
 obtain ⟨F2, rfl, n2⟩ := D1; have i9 := r5 0 _ rfl; have r6 := r3.out; (try simp only [add_plain] at r6)
 (try simp only [Nat.add_zero] at i9)
 (try rw [show ((Kd.slice 3 (Kd.int .i64))).sz = 1 from rfl, Nat.mul_one] at i9)
 replace i9 := Option.some.inj (i9.symm.trans r6); subst i9; clear r6 r5 A3; have r7 := a_ (show Kd.R (Kd.int .i64) 3 _ w.heap.size r4 (.slice e0 (rd_L2 B (rd q l)).length b5) (rd_L2 B (rd q l)) from n2); have e6 := a_ y6; have r8 := a_ (Kd.S_reads' HO_3.out).1; clear y6 n2; go_wp2_with (first | ((with_reducible refine gate_builtin (b := .append) (xs := #[.tmp 52, .tmp 54]) rfl ?_); at_builtin; refine Kd.R_append (Kd.int .i64) (w0 := w) w.heap.size rfl (.tmp 52) (.tmp 54) 27 3 (.int .i64 0) 8 rfl Tryd.underlying27 info3 rfl (by decide) (by omega) (.slice e0 (rd_L2 B (rd q l)).length b5) (rd_L2 B (rd q l)) y [.int .i64 y] (fun k_ => r4 k_ ∨ ((fun k_ => some k_ ≠ (.slice (some d8) q.length g1 : Value).ownBlock)) k_ ∧ wr.heap.size ≤ k_) (fun _ => False) rfl rfl ?aP (fun _ hk => hk.elim) ?aF ?aO ?aB ?aS ?aL ?_; (case aP => exact rfl); (case aB => exact (q_w2 HB.out I.out U.out)); (case aF => exact (fun k_ hk => .inr ⟨Kd.fresh' (Kd.R_lt (by (with_reducible repeat (first | apply Kd.R_alloc | apply Kd.R_drewN | apply Kd.R_drew)); exact HO_22.out)) k_ hk, hk⟩)); (case aO => exact (by (with_reducible repeat (first | apply Kd.R_alloc | apply Kd.R_drewN | apply Kd.R_drew)); exact Kd.R_mono r7.out (fun _ hk => .inl hk))); (case aS => exact (below_size (q_w2 HB.out I.out U.out))); (case aL => have := z9.out; omega); intro I1 D2 ho hb hg hat; rw [← A0.out] at ho; have e7 := a_ (Kd.R_grown2 (by (with_reducible repeat (first | apply Kd.R_alloc | apply Kd.R_drewN | apply Kd.R_drew)); exact HO_22.out) rfl hg (fun k_ e_ => (d1.out.1 k_ e_).1)); have e8 := a_ (blk_grown (g := d7) (o := .cells #[.string b7, .slice b8 a6.length b9, .slice c0 a7.length c1, .int .i64 c3, .slice (some e3) z.length c4] 26 (0, 0)) (q_k D.out) hg (Kd.R_ne d1.out D.out (by decide))); have e9 := a_ (blk_grown (g := V) (o := .cells #[.slice a0 ((rd_T69 z y).f0).length a1, .int .i64 ((rd_T69 z y).f1), .int .i64 ((rd_T69 z y).f2), .int .i64 ((rd_T69 z y).f3), .int .i64 ((rd_T69 z y).f4)] 69 (0, 0)) (q_k F.out) hg (Kd.R_ne d1.out F.out (by decide))); have f5 := a_ (hb); have f6 := a_ (Kd.H_grown (Kd.H_widen (by repeat (first | exact e6.out | refine Kd.H_alloc ?_ _ | refine Kd.H_drewN ?_ _ | refine Kd.H_drew ?_))) hg (fun k_ e_ => .inl (r7.out.1 k_ e_))); have r9 := a_ (ho); clear HO_22; clear D; clear F; clear HB; clear e6; clear HO_3; clear r7; clear c9; clear d1; have HO_22 := e7; have D := e8; have F := e9; have HB := f5; have e6 := f6; have k5 := r9; clear e7 e8 e9 f5 f6 r9; clear ho hb hg hat; have D3 : 0 ≤ ((rd q l) : Int) := q_d; have D4 : ((rd q l) : Int) < ((B.length : Int) : Int) := q_d; replace D3 := eq_true D3; replace D4 := eq_true D4; obtain ⟨y7, y8, D5⟩ := Kd.R_slice k5.out; subst D5; obtain ⟨_, _, e1, _, _, s0, _⟩ := Kd.H_raw e6.out (q_d) (by have h_ : ((rd q l) : Int) < ((B.length : Int) : Int) := q_d; first | exact h_ | (have e_ := (r8.out); omega) | simpa using h_); obtain ⟨_, s1⟩ := Kd.H_at e6.out (q_d) (by have h_ : ((rd q l) : Int) < ((B.length : Int) : Int) := q_d; first | exact h_ | (have e_ := (r8.out); omega) | simpa using h_); have n3 := s0 0 _ rfl; have n4 := s1 0; (try simp only [Nat.add_zero] at n3 n4); (try rw [show ((Kd.slice 3 (Kd.int .i64))).sz = 1 from rfl, Nat.mul_one] at n3); (try rw [show ((Kd.slice 3 (Kd.int .i64))).sz = 1 from rfl, Nat.mul_one] at n4); have n5 := Kd.S_seg0 e6.out (q_d) (by have h_ : ((rd q l) : Int) < ((B.length : Int) : Int) := q_d; first | exact h_ | (have e_ := (r8.out); omega) | simpa using h_) (seg := [.slice y7 g9.length y8]) (j := 0) (show 1 ≤ 1 from by decide) (x' := g9) (Kd.M_row k5.out) (fun _ hk => hk); (try simp only [show ((Kd.slice 3 (Kd.int .i64))).sz = 1 from rfl, Nat.mul_one, Nat.add_zero] at n5); clear s0 s1) | ((with_reducible refine gate_store (t := 27) (p := 56) rfl ?_); refine store_event (t := 27) (p := 56) (v := ?vo_w30) (w1 := (D2.setCell ⟨n1, ((rd q l) : Int).toNat, none⟩ (.slice y7 g9.length y8))) ?hg ?ho ?hn ?hr ?_; (case ho => rfl); (case hg => rfl); (case hn => rfl); (case hr => first | (go_simp; done) | (go_simp; rfl)); intro A4 hw; have hg : D2.grownBy A4 (some n1) := (by rw [hw]; exact n5.2); have hp_ : Kd.S (Kd.slice 3 (Kd.int .i64)) 27 A4 w.heap.size (fun k_ => some k_ ≠ (.slice (some d8) q.length g1 : Value).ownBlock) (.slice (some ⟨n1, 0, none⟩) B.length y2) r1 := (by rw [hw, A1.out]; exact n5.1); clear n5; have e7 := a_ (Kd.R_over' (v := (.slice (some ⟨n1, 0, none⟩) B.length y2)) (by (with_reducible repeat (first | apply Kd.R_alloc | apply Kd.R_drewN | apply Kd.R_drew)); exact HO_22.out) (Kd.R_typed e1) (by decide) hg); have e8 := a_ (blk_grown (g := d7) (o := .cells #[.string b7, .slice b8 a6.length b9, .slice c0 a7.length c1, .int .i64 c3, .slice (some e3) z.length c4] 26 (0, 0)) (q_k D.out) hg (Kd.R_ne e1 D.out (by decide))); have e9 := a_ (blk_grown (g := V) (o := .cells #[.slice a0 ((rd_T69 z y).f0).length a1, .int .i64 ((rd_T69 z y).f1), .int .i64 ((rd_T69 z y).f2), .int .i64 ((rd_T69 z y).f3), .int .i64 ((rd_T69 z y).f4)] 69 (0, 0)) (q_k F.out) hg (Kd.R_ne e1 F.out (by decide))); have f5 := a_ ((by rw [hw]; exact below_set HB.out D0.out : Below w.heap.size w A4)); have f6 := a_ (hp_); clear HO_22; clear D; clear F; clear HB; clear k5; clear e6; have HO_22 := e7; have D := e8; have F := e9; have HB := f5; have HO_3 := f6; clear e7 e8 e9 f5 f6; clear hg hw hp_ e1))
 go_roundg k2
 case measure => have := g5.out; have := g8.out; omega
 case rel => exact ⟨(r1), (wrap64 (l + 1)), q_r, H', ⟨by have := g5.out; have := g8.out; omega⟩, ⟨by (with_reducible repeat (first | apply Kd.S_alloc | apply Kd.S_drewN | apply Kd.S_drew)); exact HO_3.out⟩, ⟨by (with_reducible repeat (first | apply Kd.R_alloc | apply Kd.R_drewN | apply Kd.R_drew)); exact HO_22.out⟩, ⟨q_k D.out⟩, ⟨q_k F.out⟩, ⟨q_w2 HB.out I.out U.out⟩⟩}
 {
 have c23b2 : ¬ ((rd_L2 B (rd q l)) = []) := fun h_ => G8 (by rw [h_]; rfl)
 obtain ⟨b6, k6⟩ : ∃ j_ : Int, (wrap64 (((rd_L2 B (rd q l)).length : Int) - 1)) = j_ := ⟨_, rfl⟩; replace H : (if 0 ≤ (b6) then (if (b6) < ((rd_L2 B (rd q l)).length : Int) then (if (rd (rd_L2 B (rd q l)) (b6)) = y then (flow_before.l1 k2 B y z (z.length : Int) y q (q.length : Int) (wrap64 (l + 1))) else (if (rd_L2 B (rd q l)).length < 17592186044416 then (flow_before.l1 k2 (B.set ((rd q l) : Int).toNat ((rd_L2 B (rd q l)) ++ [y])) y z (z.length : Int) y q (q.length : Int) (wrap64 (l + 1))) else (none))) else (none)) else (none)) = some r := by first | (rw [k6] at H; exact H) | (simp only [k6] at H ⊢; exact H)
 have hji32w : (IntKind.i64.wrap (((rd_L2 B (rd q l)).length : Int) - 1)) = b6 := (i64_w _).trans k6
 replace H := q_gD H; obtain ⟨-, c33b0, H⟩ := H; replace H := q_gD H; obtain ⟨-, c34b0, H⟩ := H; replace H := q_iBN H; rcases H with ⟨-, c35b0, c35b1, H⟩ | ⟨J2, c35b0, c35b1, H⟩
 {
 have H' := a_ H
 clear H; have a8 : 0 ≤ (l : Int) := q_d
 have a9 : l < (q.length : Int) := q_d
 obtain ⟨d8, i0, i1⟩ := Kd.at_int (Kd.R_reads' HO_22.out).2.2 l a8 a9; cases i0; replace a8 := eq_true a8; replace a9 := eq_true a9; obtain ⟨I2, I3, D6⟩ := Kd.S_slice HO_3.out; subst D6; have a2 : 0 ≤ ((rd q l) : Int) := q_d
 have a3 : (rd q l) < (B.length : Int) := q_d
 obtain ⟨d9, e0, b5, i2, G, M, O⟩ := at_L2 (Kd.S_reads' HO_3.out).2.2 (rd q l) a2 a3; cases i2; obtain ⟨r2, c6, c8, a4⟩ := Kd.S_get HO_3.out [] (rd q l) a2 (by first | exact a3 | exact q_d | (have e_ := (Kd.S_reads' HO_3.out).1; omega))
 obtain ⟨i3, rfl, J⟩ := c8; have E := a4 0 _ rfl; rw [Nat.add_zero, show ((Kd.slice 3 (Kd.int .i64))).sz = 1 from rfl, Nat.mul_one] at E; replace E := Option.some.inj (E.symm.trans G); rw [E] at J; have c9 := a_ (show Kd.R (Kd.int .i64) 3 _ _ _ _ (rd_L2 B (rd q l)) from J); clear E J; have i4 := a_ G; clear a4 c6; have i5 := a_ O; have i6 := a_ M; clear O M; replace a2 := eq_true a2; replace a3 := eq_true a3; have d2 : 0 ≤ ((rd q l) : Int) := q_d
 have d3 : (rd q l) < (B.length : Int) := q_d
 obtain ⟨k7, x4, x5, s2, T, b1, b2⟩ := at_L2 (Kd.S_reads' HO_3.out).2.2 (rd q l) d2 d3; obtain rfl : d9 = k7 := (by injection s2)
 obtain ⟨A5, g2, g3, d4⟩ := Kd.S_get HO_3.out [] (rd q l) d2 (by first | exact d3 | exact q_d | (have e_ := (Kd.S_reads' HO_3.out).1; omega))
 obtain ⟨s3, rfl, X⟩ := g3; have L := d4 0 _ rfl; rw [Nat.add_zero, show ((Kd.slice 3 (Kd.int .i64))).sz = 1 from rfl, Nat.mul_one] at L; replace L := Option.some.inj (L.symm.trans T); rw [L] at X; have j3 := a_ (show Kd.R (Kd.int .i64) 3 _ _ _ _ (rd_L2 B (rd q l)) from X); clear L X; have s4 := a_ T; clear d4 g2; have b3 := a_ b2; have s5 := a_ b1; clear b2 b1; replace d2 := eq_true d2; replace d3 := eq_true d3; have ea_ := Option.some.inj (G.symm.trans T); injection ea_ with ea_ en_ ec_
 subst ea_; subst ec_; clear en_; have f7 : 0 ≤ ((b6) : Int) := q_d
 have f8 : (b6) < ((rd_L2 B (rd q l)).length : Int) := q_d
 obtain ⟨k8, s6, s7⟩ := Kd.at_int (by repeat (first | (with_reducible exact b3.out) | with_reducible first | refine Kd.C_alloc ?_ _ | refine Kd.C_drewN ?_ _ | refine Kd.C_drew ?_ | exact b3.out)) (b6) f7 f8
 cases s6; replace f7 := eq_true f7; replace f8 := eq_true f8; go_wp2
 go_roundg k2
 case measure => have := g5.out; have := g8.out; omega
 case rel => exact ⟨(B), (wrap64 (l + 1)), q_r, H', ⟨by have := g5.out; have := g8.out; omega⟩, ⟨by (with_reducible repeat (first | apply Kd.S_alloc | apply Kd.S_drewN | apply Kd.S_drew)); exact HO_3.out⟩, ⟨by (with_reducible repeat (first | apply Kd.R_alloc | apply Kd.R_drewN | apply Kd.R_drew)); exact HO_22.out⟩, ⟨q_k D.out⟩, ⟨q_k F.out⟩, ⟨q_w2 HB.out I.out U.out⟩⟩}
 {
 replace H := q_g H; obtain ⟨D7, H⟩ := H; have A6 := a_ D7; clear D7; obtain ⟨j5, k9⟩ : ∃ y_ : List Int, y_ = ((rd_L2 B (rd q l)) ++ [y]) := ⟨_, rfl⟩; replace H : (flow_before.l1 k2 (B.set ((rd q l) : Int).toNat j5) y z (z.length : Int) y q (q.length : Int) (wrap64 (l + 1))) = some r := q_rw k9 H
 have A7 := a_ k9; clear k9; obtain ⟨s8, l4⟩ : ∃ y_ : List (List Int), y_ = (B.set ((rd q l) : Int).toNat j5) := ⟨_, rfl⟩; replace H : (flow_before.l1 k2 s8 y z (z.length : Int) y q (q.length : Int) (wrap64 (l + 1))) = some r := q_rw l4 H
 have A8 := a_ l4; clear l4; have H' := a_ H
 clear H; have a8 : 0 ≤ (l : Int) := q_d
 have a9 : l < (q.length : Int) := q_d
 obtain ⟨d8, i0, i1⟩ := Kd.at_int (Kd.R_reads' HO_22.out).2.2 l a8 a9; cases i0; replace a8 := eq_true a8; replace a9 := eq_true a9; obtain ⟨I4, y9, D8⟩ := Kd.S_slice HO_3.out; subst D8; have a2 : 0 ≤ ((rd q l) : Int) := q_d
 have a3 : (rd q l) < (B.length : Int) := q_d
 obtain ⟨d9, e0, b5, i2, G, M, O⟩ := at_L2 (Kd.S_reads' HO_3.out).2.2 (rd q l) a2 a3; cases i2; obtain ⟨r2, c6, c8, a4⟩ := Kd.S_get HO_3.out [] (rd q l) a2 (by first | exact a3 | exact q_d | (have e_ := (Kd.S_reads' HO_3.out).1; omega))
 obtain ⟨i3, rfl, J⟩ := c8; have E := a4 0 _ rfl; rw [Nat.add_zero, show ((Kd.slice 3 (Kd.int .i64))).sz = 1 from rfl, Nat.mul_one] at E; replace E := Option.some.inj (E.symm.trans G); rw [E] at J; have c9 := a_ (show Kd.R (Kd.int .i64) 3 _ _ _ _ (rd_L2 B (rd q l)) from J); clear E J; have i4 := a_ G; clear a4 c6; have i5 := a_ O; have i6 := a_ M; clear O M; replace a2 := eq_true a2; replace a3 := eq_true a3; have d2 : 0 ≤ ((rd q l) : Int) := q_d
 have d3 : (rd q l) < (B.length : Int) := q_d
 obtain ⟨k7, x4, x5, s2, T, b1, b2⟩ := at_L2 (Kd.S_reads' HO_3.out).2.2 (rd q l) d2 d3; obtain rfl : d9 = k7 := (by injection s2)
 obtain ⟨A5, g2, g3, d4⟩ := Kd.S_get HO_3.out [] (rd q l) d2 (by first | exact d3 | exact q_d | (have e_ := (Kd.S_reads' HO_3.out).1; omega))
 obtain ⟨s3, rfl, X⟩ := g3; have L := d4 0 _ rfl; rw [Nat.add_zero, show ((Kd.slice 3 (Kd.int .i64))).sz = 1 from rfl, Nat.mul_one] at L; replace L := Option.some.inj (L.symm.trans T); rw [L] at X; have j3 := a_ (show Kd.R (Kd.int .i64) 3 _ _ _ _ (rd_L2 B (rd q l)) from X); clear L X; have s4 := a_ T; clear d4 g2; have b3 := a_ b2; have s5 := a_ b1; clear b2 b1; replace d2 := eq_true d2; replace d3 := eq_true d3; have ea_ := Option.some.inj (G.symm.trans T); injection ea_ with ea_ en_ ec_
 subst ea_; subst ec_; clear en_; have f7 : 0 ≤ ((b6) : Int) := q_d
 have f8 : (b6) < ((rd_L2 B (rd q l)).length : Int) := q_d
 obtain ⟨k8, s6, s7⟩ := Kd.at_int (by repeat (first | (with_reducible exact b3.out) | with_reducible first | refine Kd.C_alloc ?_ _ | refine Kd.C_drewN ?_ _ | refine Kd.C_drew ?_ | exact b3.out)) (b6) f7 f8
 cases s6; replace f7 := eq_true f7; replace f8 := eq_true f8; have n6 : 0 ≤ ((rd q l) : Int) := q_d
 have n7 : (rd q l) < (B.length : Int) := q_d
 obtain ⟨A9, F3, F4, D9, d5, j6, j7⟩ := at_L2 (Kd.S_reads' HO_3.out).2.2 (rd q l) n6 n7; obtain rfl : d9 = A9 := (by injection D9)
 obtain ⟨H1, x6, x7, n8⟩ := Kd.S_get HO_3.out [] (rd q l) n6 (by first | exact n7 | exact q_d | (have e_ := (Kd.S_reads' HO_3.out).1; omega))
 obtain ⟨E0, rfl, f9⟩ := x7; have b4 := n8 0 _ rfl; rw [Nat.add_zero, show ((Kd.slice 3 (Kd.int .i64))).sz = 1 from rfl, Nat.mul_one] at b4; replace b4 := Option.some.inj (b4.symm.trans d5); rw [b4] at f9; have d6 := a_ (show Kd.R (Kd.int .i64) 3 _ _ _ _ (rd_L2 B (rd q l)) from f9); clear b4 f9; have s9 := a_ d5; clear n8 x6; have E1 := a_ j7; have E2 := a_ j6; clear j7 j6; replace n6 := eq_true n6; replace n7 := eq_true n7; have ea_ := Option.some.inj (G.symm.trans d5); injection ea_ with ea_ en_ ec_
 subst ea_; subst ec_; clear en_; obtain ⟨n9, I5, z0, z1, E3, I6, z2⟩ := Kd.S_form HO_3.out (by have h_ : ((rd q l) : Int) < ((B.length : Int) : Int) := q_d; have H0 : 0 ≤ ((rd q l) : Int) := (q_d); omega)
 (first | cases z0 | (injection z0 with ea_ en_ ec_; (first | subst ea_ | (injection ea_ with ea_; subst ea_)); subst ec_; clear en_))
 have E4 := a_ z1; have I7 := a_ z2; clear z1 E3 z2; (first | simp only [add_plain] at G | skip)
 (first | simp only [add_plain] at T | skip)
 (first | simp only [add_plain] at d5 | skip)
 obtain ⟨t0, I8, B2, E5, t1, _, _, z3⟩ := Kd.S_elem HO_3.out [] ((rd q l) : Int) (q_d) (by have h_ : ((rd q l) : Int) < ((B.length : Int) : Int) := q_d; first | exact h_ | (have e_ := (Kd.S_reads' HO_3.out).1; omega) | simpa using h_)
 obtain ⟨F5, rfl, o0⟩ := E5; have j8 := t1 0 _ rfl; have t2 := s9.out; (try simp only [add_plain] at t2)
 (try simp only [Nat.add_zero] at j8)
 (try rw [show ((Kd.slice 3 (Kd.int .i64))).sz = 1 from rfl, Nat.mul_one] at j8)
 replace j8 := Option.some.inj (j8.symm.trans t2); subst j8; clear t2 t1 B2; have t3 := a_ (show Kd.R (Kd.int .i64) 3 _ w.heap.size t0 (.slice (some k8) (rd_L2 B (rd q l)).length b5) (rd_L2 B (rd q l)) from o0); have g0 := a_ z3; have t4 := a_ (Kd.S_reads' HO_3.out).1; clear z3 o0; go_wp2_with (first | ((with_reducible refine gate_builtin (b := .append) (xs := #[.tmp 52, .tmp 54]) rfl ?_); at_builtin; refine Kd.R_append (Kd.int .i64) (w0 := w) w.heap.size rfl (.tmp 52) (.tmp 54) 27 3 (.int .i64 0) 8 rfl Tryd.underlying27 info3 rfl (by decide) (by omega) (.slice (some k8) (rd_L2 B (rd q l)).length b5) (rd_L2 B (rd q l)) y [.int .i64 y] (fun k_ => t0 k_ ∨ ((fun k_ => some k_ ≠ (.slice (some d8) q.length g1 : Value).ownBlock)) k_ ∧ wr.heap.size ≤ k_) (fun _ => False) rfl rfl ?aP (fun _ hk => hk.elim) ?aF ?aO ?aB ?aS ?aL ?_; (case aP => exact rfl); (case aB => exact (q_w2 HB.out I.out U.out)); (case aF => exact (fun k_ hk => .inr ⟨Kd.fresh' (Kd.R_lt (by (with_reducible repeat (first | apply Kd.R_alloc | apply Kd.R_drewN | apply Kd.R_drew)); exact HO_22.out)) k_ hk, hk⟩)); (case aO => exact (by (with_reducible repeat (first | apply Kd.R_alloc | apply Kd.R_drewN | apply Kd.R_drew)); exact Kd.R_mono t3.out (fun _ hk => .inl hk))); (case aS => exact (below_size (q_w2 HB.out I.out U.out))); (case aL => have := A6.out; omega); intro I9 E6 ho hb hg hat; rw [← A7.out] at ho; have e7 := a_ (Kd.R_grown2 (by (with_reducible repeat (first | apply Kd.R_alloc | apply Kd.R_drewN | apply Kd.R_drew)); exact HO_22.out) rfl hg (fun k_ e_ => (d6.out.1 k_ e_).1)); have e8 := a_ (blk_grown (g := d7) (o := .cells #[.string b7, .slice b8 a6.length b9, .slice c0 a7.length c1, .int .i64 c3, .slice (some e3) z.length c4] 26 (0, 0)) (q_k D.out) hg (Kd.R_ne d6.out D.out (by decide))); have e9 := a_ (blk_grown (g := V) (o := .cells #[.slice a0 ((rd_T69 z y).f0).length a1, .int .i64 ((rd_T69 z y).f1), .int .i64 ((rd_T69 z y).f2), .int .i64 ((rd_T69 z y).f3), .int .i64 ((rd_T69 z y).f4)] 69 (0, 0)) (q_k F.out) hg (Kd.R_ne d6.out F.out (by decide))); have f5 := a_ (hb); have f6 := a_ (Kd.H_grown (Kd.H_widen (by repeat (first | exact g0.out | refine Kd.H_alloc ?_ _ | refine Kd.H_drewN ?_ _ | refine Kd.H_drew ?_))) hg (fun k_ e_ => .inl (t3.out.1 k_ e_))); have r9 := a_ (ho); clear HO_22; clear D; clear F; clear HB; clear g0; clear HO_3; clear t3; clear c9; clear j3; clear d6; have HO_22 := e7; have D := e8; have F := e9; have HB := f5; have g0 := f6; have l5 := r9; clear e7 e8 e9 f5 f6 r9; clear ho hb hg hat; have E7 : 0 ≤ ((rd q l) : Int) := q_d; have E8 : ((rd q l) : Int) < ((B.length : Int) : Int) := q_d; replace E7 := eq_true E7; replace E8 := eq_true E8; obtain ⟨z4, z5, E9⟩ := Kd.R_slice l5.out; subst E9; obtain ⟨_, _, e2, _, _, t5, _⟩ := Kd.H_raw g0.out (q_d) (by have h_ : ((rd q l) : Int) < ((B.length : Int) : Int) := q_d; first | exact h_ | (have e_ := (t4.out); omega) | simpa using h_); obtain ⟨_, t6⟩ := Kd.H_at g0.out (q_d) (by have h_ : ((rd q l) : Int) < ((B.length : Int) : Int) := q_d; first | exact h_ | (have e_ := (t4.out); omega) | simpa using h_); have o1 := t5 0 _ rfl; have o2 := t6 0; (try simp only [Nat.add_zero] at o1 o2); (try rw [show ((Kd.slice 3 (Kd.int .i64))).sz = 1 from rfl, Nat.mul_one] at o1); (try rw [show ((Kd.slice 3 (Kd.int .i64))).sz = 1 from rfl, Nat.mul_one] at o2); have o3 := Kd.S_seg0 g0.out (q_d) (by have h_ : ((rd q l) : Int) < ((B.length : Int) : Int) := q_d; first | exact h_ | (have e_ := (t4.out); omega) | simpa using h_) (seg := [.slice z4 j5.length z5]) (j := 0) (show 1 ≤ 1 from by decide) (x' := j5) (Kd.M_row l5.out) (fun _ hk => hk); (try simp only [show ((Kd.slice 3 (Kd.int .i64))).sz = 1 from rfl, Nat.mul_one, Nat.add_zero] at o3); clear t5 t6) | ((with_reducible refine gate_store (t := 27) (p := 56) rfl ?_); refine store_event (t := 27) (p := 56) (v := ?vo_w43) (w1 := (E6.setCell ⟨n9, ((rd q l) : Int).toNat, none⟩ (.slice z4 j5.length z5))) ?hg ?ho ?hn ?hr ?_; (case ho => rfl); (case hg => rfl); (case hn => rfl); (case hr => first | (go_simp; done) | (go_simp; rfl)); intro B3 hw; have hg : E6.grownBy B3 (some n9) := (by rw [hw]; exact o3.2); have hp_ : Kd.S (Kd.slice 3 (Kd.int .i64)) 27 B3 w.heap.size (fun k_ => some k_ ≠ (.slice (some d8) q.length g1 : Value).ownBlock) (.slice (some ⟨n9, 0, none⟩) B.length y9) s8 := (by rw [hw, A8.out]; exact o3.1); clear o3; have e7 := a_ (Kd.R_over' (v := (.slice (some ⟨n9, 0, none⟩) B.length y9)) (by (with_reducible repeat (first | apply Kd.R_alloc | apply Kd.R_drewN | apply Kd.R_drew)); exact HO_22.out) (Kd.R_typed e2) (by decide) hg); have e8 := a_ (blk_grown (g := d7) (o := .cells #[.string b7, .slice b8 a6.length b9, .slice c0 a7.length c1, .int .i64 c3, .slice (some e3) z.length c4] 26 (0, 0)) (q_k D.out) hg (Kd.R_ne e2 D.out (by decide))); have e9 := a_ (blk_grown (g := V) (o := .cells #[.slice a0 ((rd_T69 z y).f0).length a1, .int .i64 ((rd_T69 z y).f1), .int .i64 ((rd_T69 z y).f2), .int .i64 ((rd_T69 z y).f3), .int .i64 ((rd_T69 z y).f4)] 69 (0, 0)) (q_k F.out) hg (Kd.R_ne e2 F.out (by decide))); have f5 := a_ ((by rw [hw]; exact below_set HB.out E4.out : Below w.heap.size w B3)); have f6 := a_ (hp_); clear HO_22; clear D; clear F; clear HB; clear l5; clear g0; have HO_22 := e7; have D := e8; have F := e9; have HB := f5; have HO_3 := f6; clear e7 e8 e9 f5 f6; clear hg hw hp_ e2))
 go_roundg k2
 case measure => have := g5.out; have := g8.out; omega
 case rel => exact ⟨(s8), (wrap64 (l + 1)), q_r, H', ⟨by have := g5.out; have := g8.out; omega⟩, ⟨by (with_reducible repeat (first | apply Kd.S_alloc | apply Kd.S_drewN | apply Kd.S_drew)); exact HO_3.out⟩, ⟨by (with_reducible repeat (first | apply Kd.R_alloc | apply Kd.R_drewN | apply Kd.R_drew)); exact HO_22.out⟩, ⟨q_k D.out⟩, ⟨q_k F.out⟩, ⟨q_w2 HB.out I.out U.out⟩⟩}}}
 {
 have H' := a_ H
 clear H; go_wp2
 go_roundg k2
 case measure => have := g5.out; have := g8.out; omega
 case rel => exact ⟨(B), (wrap64 (y + 1)), q_r, H', ⟨by have := g5.out; have := g8.out; omega⟩, ⟨by (with_reducible repeat (first | apply Kd.S_alloc | apply Kd.S_drewN | apply Kd.S_drew)); exact Kd.S_mono HO_3.out (fun _ hk => trivial)⟩, ⟨q_k D.out⟩, ⟨q_w2 HB.out I.out U.out⟩⟩}))}
 {
 obtain rfl := Option.some.inj H; go_wp2
 go_ret
 exact ⟨_, q_e, by (with_reducible repeat (first | apply Kd.S_alloc | apply Kd.S_drewN | apply Kd.S_drew)); exact HO_3.out, q_w1 HB.out I.out⟩}))
def flow_fields.f (b : Int) : Option (Bool × Bool × Bool × Bool × Bool × Bool × Int × Bool × Bool × Bool × Bool) := if b = 0 then (some (true, false, false, false, false, false, 0, false, true, false, true)) else (if b = 1 then (some (true, true, false, false, false, false, 0, false, false, false, true)) else (if b = 2 then (some (true, true, false, false, false, false, 3, false, false, false, true)) else (if b = 3 then (some (true, true, true, false, false, false, 20, false, false, false, true)) else (if b = 4 then (some (true, false, false, false, false, false, 4, false, false, false, true)) else (if b = 5 then (some (true, false, false, false, false, false, 0, false, false, true, true)) else (if b = 6 then (some (true, true, false, false, true, false, 0, false, false, false, true)) else (if b = 7 then (some (false, true, true, false, true, false, 0, false, false, false, true)) else (if b = 8 then (some (false, true, true, false, true, false, 0, true, false, false, true)) else (if b = 9 then (some (false, false, false, true, false, false, 0, false, false, false, true)) else (if b = 10 then (some (true, true, false, true, false, false, 0, true, false, false, true)) else (if b = 11 then (some (true, false, false, false, false, true, 0, false, false, false, true)) else (some (false, false, false, false, false, false, 0, false, false, false, false)))))))))))))
theorem flow_fields.calls (B : Int) (r1 : Bool) (r2 : Bool) (r3 : Bool) (r4 : Bool) (r5 : Bool) (r6 : Bool) (r7 : Int) (r8 : Bool) (r9 : Bool) (C : Bool) (D : Bool) (w : World) (h : flow_fields.f B = some (r1, r2, r3, r4, r5, r6, r7, r8, r9, C, D)) :
  Calls Tryd.prog 74 #[.int .i64 B] w fun e w' => e = .returned (.tuple #[.agg #[.bool r1, .bool r2, .bool r3, .bool r4, .bool r5, .bool r6, .int .i64 r7, .bool r8, .bool r9, .bool C], .bool D]) ∧ Below w.heap.size w w' := by
 have F7 := Tryd.underlying111; have y := a_ (Below.refl w.heap.size w); have H : (if B = 0 then (some (true, false, false, false, false, false, 0, false, true, false, true)) else (if B = 1 then (some (true, true, false, false, false, false, 0, false, false, false, true)) else (if B = 2 then (some (true, true, false, false, false, false, 3, false, false, false, true)) else (if B = 3 then (some (true, true, true, false, false, false, 20, false, false, false, true)) else (if B = 4 then (some (true, false, false, false, false, false, 4, false, false, false, true)) else (if B = 5 then (some (true, false, false, false, false, false, 0, false, false, true, true)) else (if B = 6 then (some (true, true, false, false, true, false, 0, false, false, false, true)) else (if B = 7 then (some (false, true, true, false, true, false, 0, false, false, false, true)) else (if B = 8 then (some (false, true, true, false, true, false, 0, true, false, false, true)) else (if B = 9 then (some (false, false, false, true, false, false, 0, false, false, false, true)) else (if B = 10 then (some (true, true, false, true, false, false, 0, true, false, false, true)) else (if B = 11 then (some (true, false, false, false, false, true, 0, false, false, false, true)) else (some (false, false, false, false, false, false, 0, false, false, false, false)))))))))))))) = some (r1, r2, r3, r4, r5, r6, r7, r8, r9, C, D) := h
 clear h; replace H := q_iBN H; rcases H with ⟨-, c2b0, c2b1, H⟩ | ⟨c2, c2b0, c2b1, H⟩
 {
 simp only [Option.some.injEq, Prod.mk.injEq] at H
 obtain ⟨rfl, rfl, rfl, rfl, rfl, rfl, rfl, rfl, rfl, rfl, rfl⟩ := H; go_enter Tryd.func74, Tryd.ntmps74
 go_wp2_with (first | ((with_reducible refine gd_ 2 rfl ?_); refine q_box 2 111 #[.bool false, .bool false, .bool false, .bool false, .bool false, .bool false, .int .i64 0, .bool false, .bool false, .bool false] ?_; intro p hg w3 l hb; have b := a_ (l); have z := a_ ((q_ge y.out hg)); have q := a_ ((q_ge y.out hg)); replace y := a_ (q_st y.out hb); clear hb l hg; obtain ⟨A2, A3, A4, A5, A6, A7, A8, A9, B2, B3, B6, B7, C0, C1, C2, C3, C4, C5, C6, C7⟩ := q_cf10 b.out))
 refine bodyPost_ret (results_ct rfl _ _ p 111 #[.bool true, .bool false, .bool false, .bool false, .bool false, .bool false, .int .i64 0, .bool false, .bool true, .bool false] (0, 0) _ rfl (q_p b.out) Tryd.underlying111 rfl (by kernel_rfl)) rfl ?_
 exact ⟨q_e, q_w1 y.out q.out⟩}
 {
 replace H := q_iBN H; rcases H with ⟨-, c5b0, c5b1, H⟩ | ⟨c5, c5b0, c5b1, H⟩
 {
 simp only [Option.some.injEq, Prod.mk.injEq] at H
 obtain ⟨rfl, rfl, rfl, rfl, rfl, rfl, rfl, rfl, rfl, rfl, rfl⟩ := H; go_enter Tryd.func74, Tryd.ntmps74
 go_wp2_with (first | ((with_reducible refine gd_ 2 rfl ?_); refine q_box 2 111 #[.bool false, .bool false, .bool false, .bool false, .bool false, .bool false, .int .i64 0, .bool false, .bool false, .bool false] ?_; intro p hg w6 l hb; have b := a_ (l); have z := a_ ((q_ge y.out hg)); have q := a_ ((q_ge y.out hg)); replace y := a_ (q_st y.out hb); clear hb l hg; obtain ⟨C8, C9, D0, D1, D2, D3, D4, D5, D6, D7, D8, D9, E0, E1, E2, E3, E4, E5, E6, E7⟩ := q_cf10 b.out))
 refine bodyPost_ret (results_ct rfl _ _ p 111 #[.bool true, .bool true, .bool false, .bool false, .bool false, .bool false, .int .i64 0, .bool false, .bool false, .bool false] (0, 0) _ rfl (q_p b.out) Tryd.underlying111 rfl (by kernel_rfl)) rfl ?_
 exact ⟨q_e, q_w1 y.out q.out⟩}
 {
 replace H := q_iBN H; rcases H with ⟨-, c8b0, c8b1, H⟩ | ⟨c8, c8b0, c8b1, H⟩
 {
 simp only [Option.some.injEq, Prod.mk.injEq] at H
 obtain ⟨rfl, rfl, rfl, rfl, rfl, rfl, rfl, rfl, rfl, rfl, rfl⟩ := H; go_enter Tryd.func74, Tryd.ntmps74
 go_wp2_with (first | ((with_reducible refine gd_ 2 rfl ?_); refine q_box 2 111 #[.bool false, .bool false, .bool false, .bool false, .bool false, .bool false, .int .i64 0, .bool false, .bool false, .bool false] ?_; intro p hg w9 l hb; have b := a_ (l); have z := a_ ((q_ge y.out hg)); have q := a_ ((q_ge y.out hg)); replace y := a_ (q_st y.out hb); clear hb l hg; obtain ⟨E, F, G, I, J, L, M, N, O, R, S, T, U, V, X, a1, a2, a3, a4, a5⟩ := q_cf10 b.out))
 refine bodyPost_ret (results_ct rfl _ _ p 111 #[.bool true, .bool true, .bool false, .bool false, .bool false, .bool false, .int .i64 3, .bool false, .bool false, .bool false] (0, 0) _ rfl (q_p b.out) Tryd.underlying111 rfl (by kernel_rfl)) rfl ?_
 exact ⟨q_e, q_w1 y.out q.out⟩}
 {
 replace H := q_iBN H; rcases H with ⟨-, c11b0, c11b1, H⟩ | ⟨F8, c11b0, c11b1, H⟩
 {
 simp only [Option.some.injEq, Prod.mk.injEq] at H
 obtain ⟨rfl, rfl, rfl, rfl, rfl, rfl, rfl, rfl, rfl, rfl, rfl⟩ := H; go_enter Tryd.func74, Tryd.ntmps74
 go_wp2_with (first | ((with_reducible refine gd_ 2 rfl ?_); refine q_box 2 111 #[.bool false, .bool false, .bool false, .bool false, .bool false, .bool false, .int .i64 0, .bool false, .bool false, .bool false] ?_; intro p hg F9 l hb; have b := a_ (l); have z := a_ ((q_ge y.out hg)); have q := a_ ((q_ge y.out hg)); replace y := a_ (q_st y.out hb); clear hb l hg; obtain ⟨a6, a7, a8, a9, b0, b1, b2, b3, b4, b5, b6, b7, b8, b9, c0, c1, c3, c4, c6, c9⟩ := q_cf10 b.out))
 refine bodyPost_ret (results_ct rfl _ _ p 111 #[.bool true, .bool true, .bool true, .bool false, .bool false, .bool false, .int .i64 20, .bool false, .bool false, .bool false] (0, 0) _ rfl (q_p b.out) Tryd.underlying111 rfl (by kernel_rfl)) rfl ?_
 exact ⟨q_e, q_w1 y.out q.out⟩}
 {
 replace H := q_iBN H; rcases H with ⟨-, c14b0, c14b1, H⟩ | ⟨G0, c14b0, c14b1, H⟩
 {
 simp only [Option.some.injEq, Prod.mk.injEq] at H
 obtain ⟨rfl, rfl, rfl, rfl, rfl, rfl, rfl, rfl, rfl, rfl, rfl⟩ := H; go_enter Tryd.func74, Tryd.ntmps74
 go_wp2_with (first | ((with_reducible refine gd_ 2 rfl ?_); refine q_box 2 111 #[.bool false, .bool false, .bool false, .bool false, .bool false, .bool false, .int .i64 0, .bool false, .bool false, .bool false] ?_; intro p hg G1 l hb; have b := a_ (l); have z := a_ ((q_ge y.out hg)); have q := a_ ((q_ge y.out hg)); replace y := a_ (q_st y.out hb); clear hb l hg; obtain ⟨d0, d1, d2, d3, d4, d5, d6, d7, d8, d9, e0, e1, e2, e3, e4, e5, e6, e7, e8, e9⟩ := q_cf10 b.out))
 refine bodyPost_ret (results_ct rfl _ _ p 111 #[.bool true, .bool false, .bool false, .bool false, .bool false, .bool false, .int .i64 4, .bool false, .bool false, .bool false] (0, 0) _ rfl (q_p b.out) Tryd.underlying111 rfl (by kernel_rfl)) rfl ?_
 exact ⟨q_e, q_w1 y.out q.out⟩}
 {
 replace H := q_iBN H; rcases H with ⟨-, c17b0, c17b1, H⟩ | ⟨G2, c17b0, c17b1, H⟩
 {
 simp only [Option.some.injEq, Prod.mk.injEq] at H
 obtain ⟨rfl, rfl, rfl, rfl, rfl, rfl, rfl, rfl, rfl, rfl, rfl⟩ := H; go_enter Tryd.func74, Tryd.ntmps74
 go_wp2_with (first | ((with_reducible refine gd_ 2 rfl ?_); refine q_box 2 111 #[.bool false, .bool false, .bool false, .bool false, .bool false, .bool false, .int .i64 0, .bool false, .bool false, .bool false] ?_; intro p hg G3 l hb; have b := a_ (l); have z := a_ ((q_ge y.out hg)); have q := a_ ((q_ge y.out hg)); replace y := a_ (q_st y.out hb); clear hb l hg; obtain ⟨f0, f1, f2, f3, f4, f5, f6, f7, f8, f9, g0, g1, g2, g3, g4, g5, g6, g7, g8, g9⟩ := q_cf10 b.out))
 refine bodyPost_ret (results_ct rfl _ _ p 111 #[.bool true, .bool false, .bool false, .bool false, .bool false, .bool false, .int .i64 0, .bool false, .bool false, .bool true] (0, 0) _ rfl (q_p b.out) Tryd.underlying111 rfl (by kernel_rfl)) rfl ?_
 exact ⟨q_e, q_w1 y.out q.out⟩}
 {
 replace H := q_iBN H; rcases H with ⟨-, c20b0, c20b1, H⟩ | ⟨G4, c20b0, c20b1, H⟩
 {
 simp only [Option.some.injEq, Prod.mk.injEq] at H
 obtain ⟨rfl, rfl, rfl, rfl, rfl, rfl, rfl, rfl, rfl, rfl, rfl⟩ := H; go_enter Tryd.func74, Tryd.ntmps74
 go_wp2_with (first | ((with_reducible refine gd_ 2 rfl ?_); refine q_box 2 111 #[.bool false, .bool false, .bool false, .bool false, .bool false, .bool false, .int .i64 0, .bool false, .bool false, .bool false] ?_; intro p hg G5 l hb; have b := a_ (l); have z := a_ ((q_ge y.out hg)); have q := a_ ((q_ge y.out hg)); replace y := a_ (q_st y.out hb); clear hb l hg; obtain ⟨i0, i1, i2, i3, i4, i5, i6, i7, i8, i9, j3, j5, j6, j7, j8, j9, k0, k1, k2, k3⟩ := q_cf10 b.out))
 refine bodyPost_ret (results_ct rfl _ _ p 111 #[.bool true, .bool true, .bool false, .bool false, .bool true, .bool false, .int .i64 0, .bool false, .bool false, .bool false] (0, 0) _ rfl (q_p b.out) Tryd.underlying111 rfl (by kernel_rfl)) rfl ?_
 exact ⟨q_e, q_w1 y.out q.out⟩}
 {
 replace H := q_iBN H; rcases H with ⟨-, c23b0, c23b1, H⟩ | ⟨G6, c23b0, c23b1, H⟩
 {
 simp only [Option.some.injEq, Prod.mk.injEq] at H
 obtain ⟨rfl, rfl, rfl, rfl, rfl, rfl, rfl, rfl, rfl, rfl, rfl⟩ := H; go_enter Tryd.func74, Tryd.ntmps74
 go_wp2_with (first | ((with_reducible refine gd_ 2 rfl ?_); refine q_box 2 111 #[.bool false, .bool false, .bool false, .bool false, .bool false, .bool false, .int .i64 0, .bool false, .bool false, .bool false] ?_; intro p hg G7 l hb; have b := a_ (l); have z := a_ ((q_ge y.out hg)); have q := a_ ((q_ge y.out hg)); replace y := a_ (q_st y.out hb); clear hb l hg; obtain ⟨k4, k5, k6, k7, k8, k9, l4, l5, l6, l7, l8, l9, n0, n1, n2, n3, n4, n5, n6, n7⟩ := q_cf10 b.out))
 refine bodyPost_ret (results_ct rfl _ _ p 111 #[.bool false, .bool true, .bool true, .bool false, .bool true, .bool false, .int .i64 0, .bool false, .bool false, .bool false] (0, 0) _ rfl (q_p b.out) Tryd.underlying111 rfl (by kernel_rfl)) rfl ?_
 exact ⟨q_e, q_w1 y.out q.out⟩}
 {
 replace H := q_iBN H; rcases H with ⟨-, c26b0, c26b1, H⟩ | ⟨G8, c26b0, c26b1, H⟩
 {
 simp only [Option.some.injEq, Prod.mk.injEq] at H
 obtain ⟨rfl, rfl, rfl, rfl, rfl, rfl, rfl, rfl, rfl, rfl, rfl⟩ := H; go_enter Tryd.func74, Tryd.ntmps74
 go_wp2_with (first | ((with_reducible refine gd_ 2 rfl ?_); refine q_box 2 111 #[.bool false, .bool false, .bool false, .bool false, .bool false, .bool false, .int .i64 0, .bool false, .bool false, .bool false] ?_; intro p hg G9 l hb; have b := a_ (l); have z := a_ ((q_ge y.out hg)); have q := a_ ((q_ge y.out hg)); replace y := a_ (q_st y.out hb); clear hb l hg; obtain ⟨n8, n9, o0, o1, o2, o3, o4, o5, o6, o7, o8, o9, p0, p1, p2, p3, p4, p5, p6, p7⟩ := q_cf10 b.out))
 refine bodyPost_ret (results_ct rfl _ _ p 111 #[.bool false, .bool true, .bool true, .bool false, .bool true, .bool false, .int .i64 0, .bool true, .bool false, .bool false] (0, 0) _ rfl (q_p b.out) Tryd.underlying111 rfl (by kernel_rfl)) rfl ?_
 exact ⟨q_e, q_w1 y.out q.out⟩}
 {
 replace H := q_iBN H; rcases H with ⟨-, c29b0, c29b1, H⟩ | ⟨H0, c29b0, c29b1, H⟩
 {
 simp only [Option.some.injEq, Prod.mk.injEq] at H
 obtain ⟨rfl, rfl, rfl, rfl, rfl, rfl, rfl, rfl, rfl, rfl, rfl⟩ := H; go_enter Tryd.func74, Tryd.ntmps74
 go_wp2_with (first | ((with_reducible refine gd_ 2 rfl ?_); refine q_box 2 111 #[.bool false, .bool false, .bool false, .bool false, .bool false, .bool false, .int .i64 0, .bool false, .bool false, .bool false] ?_; intro p hg H1 l hb; have b := a_ (l); have z := a_ ((q_ge y.out hg)); have q := a_ ((q_ge y.out hg)); replace y := a_ (q_st y.out hb); clear hb l hg; obtain ⟨p8, p9, q0, q1, q2, q3, q4, q5, q6, q7, q8, q9, r0, s0, s1, s2, s3, s4, s5, s6⟩ := q_cf10 b.out))
 refine bodyPost_ret (results_ct rfl _ _ p 111 #[.bool false, .bool false, .bool false, .bool true, .bool false, .bool false, .int .i64 0, .bool false, .bool false, .bool false] (0, 0) _ rfl (q_p b.out) Tryd.underlying111 rfl (by kernel_rfl)) rfl ?_
 exact ⟨q_e, q_w1 y.out q.out⟩}
 {
 replace H := q_iBN H; rcases H with ⟨-, c32b0, c32b1, H⟩ | ⟨H2, c32b0, c32b1, H⟩
 {
 simp only [Option.some.injEq, Prod.mk.injEq] at H
 obtain ⟨rfl, rfl, rfl, rfl, rfl, rfl, rfl, rfl, rfl, rfl, rfl⟩ := H; go_enter Tryd.func74, Tryd.ntmps74
 go_wp2_with (first | ((with_reducible refine gd_ 2 rfl ?_); refine q_box 2 111 #[.bool false, .bool false, .bool false, .bool false, .bool false, .bool false, .int .i64 0, .bool false, .bool false, .bool false] ?_; intro p hg H3 l hb; have b := a_ (l); have z := a_ ((q_ge y.out hg)); have q := a_ ((q_ge y.out hg)); replace y := a_ (q_st y.out hb); clear hb l hg; obtain ⟨s7, s8, s9, t0, t1, t2, t3, t4, t5, t6, t7, t8, t9, v0, v1, v2, v3, v4, v5, v6⟩ := q_cf10 b.out))
 refine bodyPost_ret (results_ct rfl _ _ p 111 #[.bool true, .bool true, .bool false, .bool true, .bool false, .bool false, .int .i64 0, .bool true, .bool false, .bool false] (0, 0) _ rfl (q_p b.out) Tryd.underlying111 rfl (by kernel_rfl)) rfl ?_
 exact ⟨q_e, q_w1 y.out q.out⟩}
 {
 replace H := q_iBN H; rcases H with ⟨-, c35b0, c35b1, H⟩ | ⟨H4, c35b0, c35b1, H⟩
 {
 simp only [Option.some.injEq, Prod.mk.injEq] at H
 obtain ⟨rfl, rfl, rfl, rfl, rfl, rfl, rfl, rfl, rfl, rfl, rfl⟩ := H; go_enter Tryd.func74, Tryd.ntmps74
 go_wp2_with (first | ((with_reducible refine gd_ 2 rfl ?_); refine q_box 2 111 #[.bool false, .bool false, .bool false, .bool false, .bool false, .bool false, .int .i64 0, .bool false, .bool false, .bool false] ?_; intro p hg H5 l hb; have b := a_ (l); have z := a_ ((q_ge y.out hg)); have q := a_ ((q_ge y.out hg)); replace y := a_ (q_st y.out hb); clear hb l hg; obtain ⟨v7, v8, v9, w2, w4, w5, w7, w8, x0, x1, x2, x3, x4, x5, x6, x7, x8, x9, y0, y1⟩ := q_cf10 b.out))
 refine bodyPost_ret (results_ct rfl _ _ p 111 #[.bool true, .bool false, .bool false, .bool false, .bool false, .bool true, .int .i64 0, .bool false, .bool false, .bool false] (0, 0) _ rfl (q_p b.out) Tryd.underlying111 rfl (by kernel_rfl)) rfl ?_
 exact ⟨q_e, q_w1 y.out q.out⟩}
 {
 simp only [Option.some.injEq, Prod.mk.injEq] at H
 obtain ⟨rfl, rfl, rfl, rfl, rfl, rfl, rfl, rfl, rfl, rfl, rfl⟩ := H; go_enter Tryd.func74, Tryd.ntmps74
 go_wp2_with (first | ((with_reducible refine gd_ 2 rfl ?_); refine q_box 2 111 #[.bool false, .bool false, .bool false, .bool false, .bool false, .bool false, .int .i64 0, .bool false, .bool false, .bool false] ?_; intro p hg H6 l hb; have b := a_ (l); have z := a_ ((q_ge y.out hg)); have q := a_ ((q_ge y.out hg)); replace y := a_ (q_st y.out hb); clear hb l hg; obtain ⟨y2, y3, y4, y5, y6, y7, y8, y9, z0, z1, z2, z3, z4, z5, z6, z7, z8, z9, A0, A1⟩ := q_cf10 b.out))
 refine bodyPost_ret (results_ct rfl _ _ p 111 #[.bool false, .bool false, .bool false, .bool false, .bool false, .bool false, .int .i64 0, .bool false, .bool false, .bool false] (0, 0) _ rfl (q_p b.out) Tryd.underlying111 rfl (by kernel_rfl)) rfl ?_
 exact ⟨q_e, q_w1 y.out q.out⟩}}}}}}}}}}}}
def flow_array.f (q : ByteArray) (b : List (S83)) (p : List (S85)) (y : Int) (z : List (S69)) (l : Int) : Option (Bool) := if l ≥ 6 then (some (decide ((wrap64 (l)) < (wrap64 (6 + (p.length : Int)))))) else (if l ≥ 0 then (if (wrap64 (l)) < (b.length : Int) then (if 0 ≤ l then (if l < (b.length : Int) then (some ((rd_T83 b l).f1)) else (none)) else (none)) else (some false)) else (some false))
theorem flow_array.calls (D : ByteArray) (E : Option Addr) (F : Nat) (b : List (S83)) (G : Option Addr) (I : Nat) (p : List (S85)) (J : Int) (L : Option Addr) (M : Nat) (y : List (S69)) (R : Int) (r : Bool) (w : World) (S : Kd.C k83 w E b.length b) (T : b.length ≤ F) (U : Kd.C k85 w G p.length p) (V : p.length ≤ I) (X : Kd.C k69 w L y.length y) (a0 : y.length ≤ M) (h : flow_array.f D b p J y R = some r) :
  Calls Tryd.prog 85 #[.agg #[.string D, .slice E b.length F, .slice G p.length I, .int .i64 J, .slice L y.length M], .int .i32 R] w fun e w' => e = .returned (.bool r) ∧ Below w.heap.size w w' := by
 have e7 := Tryd.underlying26; have a4 := a_ S; have e1 := a_ T; clear S T; have e2 := a_ U; have e3 := a_ V; clear U V; have e4 := a_ X; have e5 := a_ a0; clear X a0; have B := a_ (Below.refl w.heap.size w); have H : (if R ≥ 6 then (some (decide ((wrap64 (R)) < (wrap64 (6 + (p.length : Int)))))) else (if R ≥ 0 then (if (wrap64 (R)) < (b.length : Int) then (if 0 ≤ R then (if R < (b.length : Int) then (some ((rd_T83 b R).f1)) else (none)) else (none)) else (some false)) else (some false))) = some r := h
 clear h; rcases q_ite H with ⟨c3b0, H⟩ | ⟨c3b0, H⟩
 {
 obtain rfl := Option.some.inj H; go_enter Tryd.func85, Tryd.ntmps85
 go_wp2_with (first | ((with_reducible refine gd_ 2 rfl ?_); (try (refine gate_guard (by rfl) ?_; dsimp only)); refine q_box 2 26 #[.string D, .slice E b.length F, .slice G p.length I, .int .i64 J, .slice L y.length M] ?_; intro N hg w4 l hb; have z := a_ (l); have O := a_ ((q_ge B.out hg)); have q := a_ ((q_ge B.out hg)); replace B := a_ (q_st B.out hb); clear hb l hg; obtain ⟨d1, d2, d3, d4, d5, d6, d7, d8, d9, e0⟩ := q_cf5 z.out))
 go_ret
 exact ⟨q_e, q_w1 B.out q.out⟩}
 {
 rcases q_ite H with ⟨c6b0, H⟩ | ⟨c6b0, H⟩
 {
 rcases q_ite H with ⟨c7b0, H⟩ | ⟨c7b0, H⟩
 {
 replace H := q_gD H; obtain ⟨-, c8b0, H⟩ := H; replace H := q_gD H; obtain ⟨-, c9b0, H⟩ := H; obtain rfl := Option.some.inj H; go_enter Tryd.func85, Tryd.ntmps85
 go_wp2_with (first | ((with_reducible refine gd_ 2 rfl ?_); (try (refine gate_guard (by rfl) ?_; dsimp only)); refine q_box 2 26 #[.string D, .slice E b.length F, .slice G p.length I, .int .i64 J, .slice L y.length M] ?_; intro N hg e8 l hb; have z := a_ (l); have O := a_ ((q_ge B.out hg)); have q := a_ ((q_ge B.out hg)); replace B := a_ (q_st B.out hb); clear hb l hg; obtain ⟨a5, a6, a7, a8, a9, b0, b1, b2, b3, b4⟩ := q_cf5 z.out; have a2 : 0 ≤ (R : Int) := q_d; have a3 : R < (b.length : Int) := q_d; obtain ⟨e6, b5, b6, b7, a2, a3⟩ := b_T83 a4.out B.out R a2 a3; cases b5))
 go_ret
 exact ⟨q_e, q_w1 B.out q.out⟩}
 {
 obtain rfl := Option.some.inj H; go_enter Tryd.func85, Tryd.ntmps85
 go_wp2_with (first | ((with_reducible refine gd_ 2 rfl ?_); (try (refine gate_guard (by rfl) ?_; dsimp only)); refine q_box 2 26 #[.string D, .slice E b.length F, .slice G p.length I, .int .i64 J, .slice L y.length M] ?_; intro N hg e9 l hb; have z := a_ (l); have O := a_ ((q_ge B.out hg)); have q := a_ ((q_ge B.out hg)); replace B := a_ (q_st B.out hb); clear hb l hg; obtain ⟨b8, b9, c0, c1, c3, c4, c6, c8, c9, d0⟩ := q_cf5 z.out))
 go_ret
 exact ⟨q_e, q_w1 B.out q.out⟩}}
 {
 obtain rfl := Option.some.inj H; go_enter Tryd.func85, Tryd.ntmps85
 go_wp2_with (first | ((with_reducible refine gd_ 2 rfl ?_); (try (refine gate_guard (by rfl) ?_; dsimp only)); refine q_box 2 26 #[.string D, .slice E b.length F, .slice G p.length I, .int .i64 J, .slice L y.length M] ?_; intro N hg f0 l hb; have z := a_ (l); have O := a_ ((q_ge B.out hg)); have q := a_ ((q_ge B.out hg)); replace B := a_ (q_st B.out hb); clear hb l hg))
 go_ret
 exact ⟨q_e, q_w1 B.out q.out⟩}}
end Go.Proofs.YtefhpdcafdhcaaaDoor.A
end
section
namespace Go.Proofs.YtefhpdcafdhcaaaDoor.A
open Go.RowKit Go.Proofs.YtefhpdcafdhcaaaDoorW.PrintWords Go.Proofs.YtefhpdcafdhcaaaDoorW.PrintLast Go.Proofs.YtefhpdcafdhcaaaDoorW.PrintMore
set_option linter.unusedVariables false
set_option linter.unusedSimpArgs false
def flow_imm.f (p : ByteArray) (l : List (S83)) (q : List (S85)) (y : Int) (z : List (S69)) (G : Bool) (I : Bool) (J : Bool) (B : Bool) (C : Bool) (L : Bool) (M : Int) (N : Bool) (D : Bool) (E : Bool) (O : Int) (R : Int) (S : Int) (T : Int) (U : Int) (b : Int) (V : List Int) : Option (Bool) := if D = true then (some true) else (if E = true then (if b ≥ 0 then (if (wrap64 (b)) < (l.length : Int) then (if 0 ≤ b then (if b < (l.length : Int) then (some (!((rd_T83 l b).f1))) else (none)) else (none)) else (some false)) else (some false)) else (if C = true then ((flow_array.f p l q y z b).bind fun F => (some F)) else (if B = true then (if b ≥ 0 then (some (decide (b ≤ 400))) else (some false)) else (some (b == 0)))))
theorem flow_imm.calls (S : ByteArray) (V : Option Addr) (X : Nat) (N : List (S83)) (a0 : Option Addr) (a1 : Nat) (O : List (S85)) (T : Int) (a2 : Option Addr) (a3 : Nat) (R : List (S69)) (a4 : Bool) (a5 : Bool) (a6 : Bool) (c6 : Bool) (c8 : Bool) (a7 : Bool) (a8 : Int) (a9 : Bool) (d0 : Bool) (c9 : Bool) (b0 : Int) (b1 : Int) (b2 : Int) (b3 : Int) (b4 : Int) (J : Int) (b5 : Option Addr) (b6 : Nat) (U : List Int) (r : Bool) (w : World) (d1 : Kd.C k83 w V N.length N) (d2 : N.length ≤ X) (d3 : Kd.C k85 w a0 O.length O) (d4 : O.length ≤ a1) (d5 : Kd.C k69 w a2 R.length R) (d6 : R.length ≤ a3) (d7 : Kd.C (Kd.int .i64) w b5 U.length U) (d8 : U.length ≤ b6) (h : flow_imm.f S N O T R a4 a5 a6 c6 c8 a7 a8 a9 d0 c9 b0 b1 b2 b3 b4 J U = some r) :
  Calls Tryd.prog 75 #[.agg #[.string S, .slice V N.length X, .slice a0 O.length a1, .int .i64 T, .slice a2 R.length a3], .agg #[.bool a4, .bool a5, .bool a6, .bool c6, .bool c8, .bool a7, .int .i64 a8, .bool a9, .bool d0, .bool c9], .agg #[.int .i64 b0, .int .i64 b1, .int .i64 b2, .int .i64 b3, .int .i64 b4, .int .i32 J, .slice b5 U.length b6]] w fun e w' => e = .returned (.bool r) ∧ Below w.heap.size w w' := by
 have S2 := Tryd.underlying26; have N5 := Tryd.underlying111; have S3 := Tryd.underlying71; have d9 := a_ d1; have e7 := a_ d2; clear d1 d2; have e8 := a_ d3; have e9 := a_ d4; clear d3 d4; have f0 := a_ d5; have f2 := a_ d6; clear d5 d6; have N6 := a_ d7; have N7 := a_ d8; clear d7 d8; have I := a_ (Below.refl w.heap.size w); have H : (if d0 = true then (some true) else (if c9 = true then (if J ≥ 0 then (if (wrap64 (J)) < (N.length : Int) then (if 0 ≤ J then (if J < (N.length : Int) then (some (!((rd_T83 N J).f1))) else (none)) else (none)) else (some false)) else (some false)) else (if c8 = true then ((flow_array.f S N O T R J).bind fun e0 => (some e0)) else (if c6 = true then (if J ≥ 0 then (some (decide (J ≤ 400))) else (some false)) else (some (J == 0)))))) = some r := h
 clear h; by_cases c4 : d0 = true
 {
 subst c4; rw [if_pos rfl] at H; obtain rfl := Option.some.inj H; go_enter Tryd.func75, Tryd.ntmps75
 go_wp2_with (first | ((with_reducible refine gd_ 3 rfl ?_); (try (refine gate_guard (by rfl) ?_; dsimp only)); refine q_box 3 26 #[.string S, .slice V N.length X, .slice a0 O.length a1, .int .i64 T, .slice a2 R.length a3] ?_; intro b7 hg w5 p hb; have b := a_ (p); have b8 := a_ ((q_ge I.out hg)); have l := a_ ((q_ge I.out hg)); replace I := a_ (q_st I.out hb); clear hb p hg) | ((with_reducible refine gd_ 4 rfl ?_); (try (refine gate_guard (by rfl) ?_; dsimp only)); refine q_box 4 111 #[.bool a4, .bool a5, .bool a6, .bool c6, .bool c8, .bool a7, .int .i64 a8, .bool a9, .bool true, .bool c9] ?_; intro b9 hg w6 p hb; have q := a_ (p); have c0 := a_ ((q_ge1 I.out hg l.out)); have y := a_ ((q_ge1 I.out hg l.out)); have z := a_ ((q_ne b.out hg)); have B := a_ ((q_en b.out hg)); replace b := a_ (q_bk b.out hb); replace I := a_ (q_st1 I.out hb l.out); clear hb p hg) | ((with_reducible refine gd_ 5 rfl ?_); (try (refine gate_guard (by rfl) ?_; dsimp only)); refine q_box 5 71 #[.int .i64 b0, .int .i64 b1, .int .i64 b2, .int .i64 b3, .int .i64 b4, .int .i32 J, .slice b5 U.length b6] ?_; intro c1 hg w7 p hb; have L := a_ (p); have c3 := a_ ((q_ge2 I.out hg l.out y.out)); have M := a_ ((q_ge2 I.out hg l.out y.out)); have F := a_ ((q_ne b.out hg)); have G := a_ ((q_en b.out hg)); have D := a_ ((q_ne q.out hg)); have E := a_ ((q_en q.out hg)); replace b := a_ (q_bk b.out hb); replace q := a_ (q_bk q.out hb); replace I := a_ (q_st2 I.out hb l.out y.out); clear hb p hg; have S4 := B.out; have S5 := z.out; have S6 := D.out; have S7 := E.out; obtain ⟨f3, f4, f5, f6, f7, f8, f9, g0, g1, g2, g3, g4, g5, g6, g7, g8, g9, i0, i1, i2⟩ := q_cf10 q.out))
 go_ret
 exact ⟨q_e, q_w3 I.out l.out y.out M.out⟩}
 {
 replace c4 := Bool.eq_false_iff.mpr c4; subst c4; rw [if_neg Bool.false_ne_true] at H; by_cases e1 : c9 = true
 {
 subst e1; rw [if_pos rfl] at H; rcases q_ite H with ⟨c12b0, H⟩ | ⟨c12b0, H⟩
 {
 rcases q_ite H with ⟨c13b0, H⟩ | ⟨c13b0, H⟩
 {
 replace H := q_gD H; obtain ⟨-, c14b0, H⟩ := H; replace H := q_gD H; obtain ⟨-, c15b0, H⟩ := H; obtain rfl := Option.some.inj H; go_enter Tryd.func75, Tryd.ntmps75
 go_wp2_with (first | ((with_reducible refine gd_ 3 rfl ?_); (try (refine gate_guard (by rfl) ?_; dsimp only)); refine q_box 3 26 #[.string S, .slice V N.length X, .slice a0 O.length a1, .int .i64 T, .slice a2 R.length a3] ?_; intro b7 hg S8 p hb; have b := a_ (p); have b8 := a_ ((q_ge I.out hg)); have l := a_ ((q_ge I.out hg)); replace I := a_ (q_st I.out hb); clear hb p hg) | ((with_reducible refine gd_ 4 rfl ?_); (try (refine gate_guard (by rfl) ?_; dsimp only)); refine q_box 4 111 #[.bool a4, .bool a5, .bool a6, .bool c6, .bool c8, .bool a7, .int .i64 a8, .bool a9, .bool false, .bool true] ?_; intro b9 hg S9 p hb; have q := a_ (p); have c0 := a_ ((q_ge1 I.out hg l.out)); have y := a_ ((q_ge1 I.out hg l.out)); have z := a_ ((q_ne b.out hg)); have B := a_ ((q_en b.out hg)); replace b := a_ (q_bk b.out hb); replace I := a_ (q_st1 I.out hb l.out); clear hb p hg) | ((with_reducible refine gd_ 5 rfl ?_); (try (refine gate_guard (by rfl) ?_; dsimp only)); refine q_box 5 71 #[.int .i64 b0, .int .i64 b1, .int .i64 b2, .int .i64 b3, .int .i64 b4, .int .i32 J, .slice b5 U.length b6] ?_; intro c1 hg T2 p hb; have L := a_ (p); have c3 := a_ ((q_ge2 I.out hg l.out y.out)); have M := a_ ((q_ge2 I.out hg l.out y.out)); have F := a_ ((q_ne b.out hg)); have G := a_ ((q_en b.out hg)); have D := a_ ((q_ne q.out hg)); have E := a_ ((q_en q.out hg)); replace b := a_ (q_bk b.out hb); replace q := a_ (q_bk q.out hb); replace I := a_ (q_st2 I.out hb l.out y.out); clear hb p hg; have N8 := B.out; have N9 := z.out; have O0 := D.out; have O1 := E.out; obtain ⟨i3, i4, i5, i6, i7, i8, i9, j3, j5, j6, j7, j8, j9, k0, k1, k2, k3, k4, k5, k6⟩ := q_cf10 q.out; have O2 := G.out; have O3 := F.out; obtain ⟨k7, k8, k9, l4, l5, l6, l7, l8, l9, n0, n1, n2, n3, n4⟩ := q_cf7 L.out; obtain ⟨n5, n6, n7, n8, n9, o0, o1, o2, o3, o4⟩ := q_cf5 b.out; have e4 : 0 ≤ (J : Int) := q_d; have e5 : J < (N.length : Int) := q_d; obtain ⟨O4, o5, o6, o7, e4, e5⟩ := b_T83 d9.out I.out J e4 e5; cases o5))
 go_ret
 exact ⟨q_e, q_w3 I.out l.out y.out M.out⟩}
 {
 obtain rfl := Option.some.inj H; go_enter Tryd.func75, Tryd.ntmps75
 go_wp2_with (first | ((with_reducible refine gd_ 3 rfl ?_); (try (refine gate_guard (by rfl) ?_; dsimp only)); refine q_box 3 26 #[.string S, .slice V N.length X, .slice a0 O.length a1, .int .i64 T, .slice a2 R.length a3] ?_; intro b7 hg T3 p hb; have b := a_ (p); have b8 := a_ ((q_ge I.out hg)); have l := a_ ((q_ge I.out hg)); replace I := a_ (q_st I.out hb); clear hb p hg) | ((with_reducible refine gd_ 4 rfl ?_); (try (refine gate_guard (by rfl) ?_; dsimp only)); refine q_box 4 111 #[.bool a4, .bool a5, .bool a6, .bool c6, .bool c8, .bool a7, .int .i64 a8, .bool a9, .bool false, .bool true] ?_; intro b9 hg T6 p hb; have q := a_ (p); have c0 := a_ ((q_ge1 I.out hg l.out)); have y := a_ ((q_ge1 I.out hg l.out)); have z := a_ ((q_ne b.out hg)); have B := a_ ((q_en b.out hg)); replace b := a_ (q_bk b.out hb); replace I := a_ (q_st1 I.out hb l.out); clear hb p hg) | ((with_reducible refine gd_ 5 rfl ?_); (try (refine gate_guard (by rfl) ?_; dsimp only)); refine q_box 5 71 #[.int .i64 b0, .int .i64 b1, .int .i64 b2, .int .i64 b3, .int .i64 b4, .int .i32 J, .slice b5 U.length b6] ?_; intro c1 hg T7 p hb; have L := a_ (p); have c3 := a_ ((q_ge2 I.out hg l.out y.out)); have M := a_ ((q_ge2 I.out hg l.out y.out)); have F := a_ ((q_ne b.out hg)); have G := a_ ((q_en b.out hg)); have D := a_ ((q_ne q.out hg)); have E := a_ ((q_en q.out hg)); replace b := a_ (q_bk b.out hb); replace q := a_ (q_bk q.out hb); replace I := a_ (q_st2 I.out hb l.out y.out); clear hb p hg; have O5 := B.out; have O6 := z.out; have O7 := D.out; have O8 := E.out; obtain ⟨o8, o9, p0, p1, p2, p3, p4, p5, p6, p7, p8, p9, q0, q1, q2, q3, q4, q5, q6, q7⟩ := q_cf10 q.out; have O9 := G.out; have P0 := F.out; obtain ⟨q8, q9, r0, r1, r2, r3, r4, r5, r6, r7, r8, r9, s0, s1⟩ := q_cf7 L.out; obtain ⟨s2, s3, s4, s5, s6, s7, s8, s9, t0, t1⟩ := q_cf5 b.out))
 go_ret
 exact ⟨q_e, q_w3 I.out l.out y.out M.out⟩}}
 {
 obtain rfl := Option.some.inj H; go_enter Tryd.func75, Tryd.ntmps75
 go_wp2_with (first | ((with_reducible refine gd_ 3 rfl ?_); (try (refine gate_guard (by rfl) ?_; dsimp only)); refine q_box 3 26 #[.string S, .slice V N.length X, .slice a0 O.length a1, .int .i64 T, .slice a2 R.length a3] ?_; intro b7 hg U0 p hb; have b := a_ (p); have b8 := a_ ((q_ge I.out hg)); have l := a_ ((q_ge I.out hg)); replace I := a_ (q_st I.out hb); clear hb p hg) | ((with_reducible refine gd_ 4 rfl ?_); (try (refine gate_guard (by rfl) ?_; dsimp only)); refine q_box 4 111 #[.bool a4, .bool a5, .bool a6, .bool c6, .bool c8, .bool a7, .int .i64 a8, .bool a9, .bool false, .bool true] ?_; intro b9 hg U1 p hb; have q := a_ (p); have c0 := a_ ((q_ge1 I.out hg l.out)); have y := a_ ((q_ge1 I.out hg l.out)); have z := a_ ((q_ne b.out hg)); have B := a_ ((q_en b.out hg)); replace b := a_ (q_bk b.out hb); replace I := a_ (q_st1 I.out hb l.out); clear hb p hg) | ((with_reducible refine gd_ 5 rfl ?_); (try (refine gate_guard (by rfl) ?_; dsimp only)); refine q_box 5 71 #[.int .i64 b0, .int .i64 b1, .int .i64 b2, .int .i64 b3, .int .i64 b4, .int .i32 J, .slice b5 U.length b6] ?_; intro c1 hg U2 p hb; have L := a_ (p); have c3 := a_ ((q_ge2 I.out hg l.out y.out)); have M := a_ ((q_ge2 I.out hg l.out y.out)); have F := a_ ((q_ne b.out hg)); have G := a_ ((q_en b.out hg)); have D := a_ ((q_ne q.out hg)); have E := a_ ((q_en q.out hg)); replace b := a_ (q_bk b.out hb); replace q := a_ (q_bk q.out hb); replace I := a_ (q_st2 I.out hb l.out y.out); clear hb p hg; have P1 := B.out; have P2 := z.out; have P3 := D.out; have P4 := E.out; obtain ⟨t2, t3, t4, t5, t6, t7, t8, t9, v0, v1, v2, v3, v4, v5, v6, v7, v8, v9, w2, w3⟩ := q_cf10 q.out; have P5 := G.out; have P6 := F.out; obtain ⟨w4, w8, w9, x0, x1, x2, x3, x4, x5, x6, x7, x8, x9, y0⟩ := q_cf7 L.out))
 go_ret
 exact ⟨q_e, q_w3 I.out l.out y.out M.out⟩}}
 {
 replace e1 := Bool.eq_false_iff.mpr e1; subst e1; rw [if_neg Bool.false_ne_true] at H; by_cases e2 : c8 = true
 {
 subst e2; rw [if_pos rfl] at H; replace H := Option.bind_eq_some_iff.mp H; obtain ⟨e0, e6, H⟩ := H; have P7 := a_ e6; clear e6; obtain rfl := Option.some.inj H; go_enter Tryd.func75, Tryd.ntmps75
 go_wp2_with (first | ((with_reducible refine gd_ 3 rfl ?_); (try (refine gate_guard (by rfl) ?_; dsimp only)); refine q_box 3 26 #[.string S, .slice V N.length X, .slice a0 O.length a1, .int .i64 T, .slice a2 R.length a3] ?_; intro b7 hg U3 p hb; have b := a_ (p); have b8 := a_ ((q_ge I.out hg)); have l := a_ ((q_ge I.out hg)); replace I := a_ (q_st I.out hb); clear hb p hg) | ((with_reducible refine gd_ 4 rfl ?_); (try (refine gate_guard (by rfl) ?_; dsimp only)); refine q_box 4 111 #[.bool a4, .bool a5, .bool a6, .bool c6, .bool true, .bool a7, .int .i64 a8, .bool a9, .bool false, .bool false] ?_; intro b9 hg U4 p hb; have q := a_ (p); have c0 := a_ ((q_ge1 I.out hg l.out)); have y := a_ ((q_ge1 I.out hg l.out)); have z := a_ ((q_ne b.out hg)); have B := a_ ((q_en b.out hg)); replace b := a_ (q_bk b.out hb); replace I := a_ (q_st1 I.out hb l.out); clear hb p hg) | ((with_reducible refine gd_ 5 rfl ?_); (try (refine gate_guard (by rfl) ?_; dsimp only)); refine q_box 5 71 #[.int .i64 b0, .int .i64 b1, .int .i64 b2, .int .i64 b3, .int .i64 b4, .int .i32 J, .slice b5 U.length b6] ?_; intro c1 hg U5 p hb; have L := a_ (p); have c3 := a_ ((q_ge2 I.out hg l.out y.out)); have M := a_ ((q_ge2 I.out hg l.out y.out)); have F := a_ ((q_ne b.out hg)); have G := a_ ((q_en b.out hg)); have D := a_ ((q_ne q.out hg)); have E := a_ ((q_en q.out hg)); replace b := a_ (q_bk b.out hb); replace q := a_ (q_bk q.out hb); replace I := a_ (q_st2 I.out hb l.out y.out); clear hb p hg; have P8 := B.out; have P9 := z.out; have Q0 := D.out; have Q1 := E.out; obtain ⟨y1, y2, y3, y4, y5, y6, y7, y8, y9, z0, z1, z2, z3, z4, z5, z6, z7, z8, z9, A0⟩ := q_cf10 q.out; have Q2 := F.out; have Q3 := G.out; obtain ⟨A1, A2, A3, A4, A5, A6, A7, A8, A9, B2⟩ := q_cf5 b.out; obtain ⟨B3, B6, B7, C0, C1, C2, C3, C4, C5, C6, C7, C8, C9, D0⟩ := q_cf7 L.out) | ((with_reducible refine gc_ 85 rfl ?_); refine q_gl 41 #[.agg #[.string S, .slice V N.length X, .slice a0 O.length a1, .int .i64 T, .slice a2 R.length a3], .int .i32 J] Tryd.func85 rfl ?_; (with_reducible refine (flow_array.calls S _ _ N _ _ O T _ _ R J e0 _ (q_C (Kd.C_below d9.out I.out)) e7.out (q_C (Kd.C_below e8.out I.out)) e9.out (q_C (Kd.C_below f0.out I.out)) f2.out P7.out).mono ?_); rintro e U6 ⟨rfl, hb⟩; refine ⟨_, rfl, ?_⟩; replace b := a_ (q_bk b.out hb); replace q := a_ (q_bk q.out hb); replace L := a_ (q_bk L.out hb); replace I := a_ (q_st3 I.out hb l.out y.out M.out); (clear hb)))
 go_ret
 exact ⟨q_e, q_w3 I.out l.out y.out M.out⟩}
 {
 replace e2 := Bool.eq_false_iff.mpr e2; subst e2; rw [if_neg Bool.false_ne_true] at H; by_cases e3 : c6 = true
 {
 subst e3; rw [if_pos rfl] at H; rcases q_ite H with ⟨c55b0, H⟩ | ⟨c55b0, H⟩
 {
 obtain rfl := Option.some.inj H; go_enter Tryd.func75, Tryd.ntmps75
 go_wp2_with (first | ((with_reducible refine gd_ 3 rfl ?_); (try (refine gate_guard (by rfl) ?_; dsimp only)); refine q_box 3 26 #[.string S, .slice V N.length X, .slice a0 O.length a1, .int .i64 T, .slice a2 R.length a3] ?_; intro b7 hg U7 p hb; have b := a_ (p); have b8 := a_ ((q_ge I.out hg)); have l := a_ ((q_ge I.out hg)); replace I := a_ (q_st I.out hb); clear hb p hg) | ((with_reducible refine gd_ 4 rfl ?_); (try (refine gate_guard (by rfl) ?_; dsimp only)); refine q_box 4 111 #[.bool a4, .bool a5, .bool a6, .bool true, .bool false, .bool a7, .int .i64 a8, .bool a9, .bool false, .bool false] ?_; intro b9 hg U8 p hb; have q := a_ (p); have c0 := a_ ((q_ge1 I.out hg l.out)); have y := a_ ((q_ge1 I.out hg l.out)); have z := a_ ((q_ne b.out hg)); have B := a_ ((q_en b.out hg)); replace b := a_ (q_bk b.out hb); replace I := a_ (q_st1 I.out hb l.out); clear hb p hg) | ((with_reducible refine gd_ 5 rfl ?_); (try (refine gate_guard (by rfl) ?_; dsimp only)); refine q_box 5 71 #[.int .i64 b0, .int .i64 b1, .int .i64 b2, .int .i64 b3, .int .i64 b4, .int .i32 J, .slice b5 U.length b6] ?_; intro c1 hg U9 p hb; have L := a_ (p); have c3 := a_ ((q_ge2 I.out hg l.out y.out)); have M := a_ ((q_ge2 I.out hg l.out y.out)); have F := a_ ((q_ne b.out hg)); have G := a_ ((q_en b.out hg)); have D := a_ ((q_ne q.out hg)); have E := a_ ((q_en q.out hg)); replace b := a_ (q_bk b.out hb); replace q := a_ (q_bk q.out hb); replace I := a_ (q_st2 I.out hb l.out y.out); clear hb p hg; have Q4 := B.out; have Q5 := z.out; have Q6 := D.out; have Q7 := E.out; obtain ⟨D1, D2, D3, D4, D5, D6, D7, D8, D9, E0, E1, E2, E3, E4, E5, E6, E7, E8, E9, F0⟩ := q_cf10 q.out; have Q8 := G.out; have Q9 := F.out; obtain ⟨F1, F2, F3, F4, F5, F6, F7, F8, F9, G0, G1, G2, G3, G4⟩ := q_cf7 L.out))
 go_ret
 exact ⟨q_e, q_w3 I.out l.out y.out M.out⟩}
 {
 obtain rfl := Option.some.inj H; go_enter Tryd.func75, Tryd.ntmps75
 go_wp2_with (first | ((with_reducible refine gd_ 3 rfl ?_); (try (refine gate_guard (by rfl) ?_; dsimp only)); refine q_box 3 26 #[.string S, .slice V N.length X, .slice a0 O.length a1, .int .i64 T, .slice a2 R.length a3] ?_; intro b7 hg V0 p hb; have b := a_ (p); have b8 := a_ ((q_ge I.out hg)); have l := a_ ((q_ge I.out hg)); replace I := a_ (q_st I.out hb); clear hb p hg) | ((with_reducible refine gd_ 4 rfl ?_); (try (refine gate_guard (by rfl) ?_; dsimp only)); refine q_box 4 111 #[.bool a4, .bool a5, .bool a6, .bool true, .bool false, .bool a7, .int .i64 a8, .bool a9, .bool false, .bool false] ?_; intro b9 hg V1 p hb; have q := a_ (p); have c0 := a_ ((q_ge1 I.out hg l.out)); have y := a_ ((q_ge1 I.out hg l.out)); have z := a_ ((q_ne b.out hg)); have B := a_ ((q_en b.out hg)); replace b := a_ (q_bk b.out hb); replace I := a_ (q_st1 I.out hb l.out); clear hb p hg) | ((with_reducible refine gd_ 5 rfl ?_); (try (refine gate_guard (by rfl) ?_; dsimp only)); refine q_box 5 71 #[.int .i64 b0, .int .i64 b1, .int .i64 b2, .int .i64 b3, .int .i64 b4, .int .i32 J, .slice b5 U.length b6] ?_; intro c1 hg V2 p hb; have L := a_ (p); have c3 := a_ ((q_ge2 I.out hg l.out y.out)); have M := a_ ((q_ge2 I.out hg l.out y.out)); have F := a_ ((q_ne b.out hg)); have G := a_ ((q_en b.out hg)); have D := a_ ((q_ne q.out hg)); have E := a_ ((q_en q.out hg)); replace b := a_ (q_bk b.out hb); replace q := a_ (q_bk q.out hb); replace I := a_ (q_st2 I.out hb l.out y.out); clear hb p hg; have R0 := B.out; have R1 := z.out; have R2 := D.out; have R3 := E.out; obtain ⟨G5, G6, G7, G8, G9, H0, H1, H2, H3, H4, H5, H6, H7, H8, H9, I0, I1, I2, I3, I4⟩ := q_cf10 q.out; have R4 := G.out; have R5 := F.out; obtain ⟨I5, I6, I7, I8, I9, J0, J1, J2, J3, J4, J5, J6, J7, J8⟩ := q_cf7 L.out))
 go_ret
 exact ⟨q_e, q_w3 I.out l.out y.out M.out⟩}}
 {
 replace e3 := Bool.eq_false_iff.mpr e3; subst e3; rw [if_neg Bool.false_ne_true] at H; obtain rfl := Option.some.inj H; go_enter Tryd.func75, Tryd.ntmps75
 go_wp2_with (first | ((with_reducible refine gd_ 3 rfl ?_); (try (refine gate_guard (by rfl) ?_; dsimp only)); refine q_box 3 26 #[.string S, .slice V N.length X, .slice a0 O.length a1, .int .i64 T, .slice a2 R.length a3] ?_; intro b7 hg V3 p hb; have b := a_ (p); have b8 := a_ ((q_ge I.out hg)); have l := a_ ((q_ge I.out hg)); replace I := a_ (q_st I.out hb); clear hb p hg) | ((with_reducible refine gd_ 4 rfl ?_); (try (refine gate_guard (by rfl) ?_; dsimp only)); refine q_box 4 111 #[.bool a4, .bool a5, .bool a6, .bool false, .bool false, .bool a7, .int .i64 a8, .bool a9, .bool false, .bool false] ?_; intro b9 hg V4 p hb; have q := a_ (p); have c0 := a_ ((q_ge1 I.out hg l.out)); have y := a_ ((q_ge1 I.out hg l.out)); have z := a_ ((q_ne b.out hg)); have B := a_ ((q_en b.out hg)); replace b := a_ (q_bk b.out hb); replace I := a_ (q_st1 I.out hb l.out); clear hb p hg) | ((with_reducible refine gd_ 5 rfl ?_); (try (refine gate_guard (by rfl) ?_; dsimp only)); refine q_box 5 71 #[.int .i64 b0, .int .i64 b1, .int .i64 b2, .int .i64 b3, .int .i64 b4, .int .i32 J, .slice b5 U.length b6] ?_; intro c1 hg V5 p hb; have L := a_ (p); have c3 := a_ ((q_ge2 I.out hg l.out y.out)); have M := a_ ((q_ge2 I.out hg l.out y.out)); have F := a_ ((q_ne b.out hg)); have G := a_ ((q_en b.out hg)); have D := a_ ((q_ne q.out hg)); have E := a_ ((q_en q.out hg)); replace b := a_ (q_bk b.out hb); replace q := a_ (q_bk q.out hb); replace I := a_ (q_st2 I.out hb l.out y.out); clear hb p hg; have R6 := B.out; have R7 := z.out; have R8 := D.out; have R9 := E.out; obtain ⟨J9, K0, K1, K2, K3, K4, K5, K6, K7, K8, K9, L0, L1, L2, L3, L4, L5, L6, L7, L8⟩ := q_cf10 q.out; have S0 := G.out; have S1 := F.out; obtain ⟨L9, M0, M1, M2, M3, M4, M5, M6, M7, M8, M9, N0, N1, N3⟩ := q_cf7 L.out))
 go_ret
 exact ⟨q_e, q_w3 I.out l.out y.out M.out⟩}}}}
def num_Neutral.j0 : Nat → Int → Bool → Option (Int × Bool)
 | 0, _, _ => none
 | k + 1, b, l => if l = true then (some (0, true)) else (if b = 18 then (some (2147483647, true)) else (if b = 19 then (some ((-2147483648), true)) else (if b = 5 then (some ((-1), true)) else (some (0, false)))))
def num_Neutral.f (k : Nat) (b : Int) : Option (Int × Bool) := if b = 0 then (num_Neutral.j0 k b (b == 0)) else (if b = 6 then (num_Neutral.j0 k b (b == 6)) else (num_Neutral.j0 k b (b == 7)))
theorem num_Neutral.calls (k : Nat) (b : Int) (y : Int) (z : Bool) (w : World) (h : num_Neutral.f k b = some (y, z)) :
  Calls Tryd.prog 86 #[.int .i64 b] w fun e w' => e = .returned (.tuple #[.int .i32 y, .bool z]) ∧ Drawn0 w w' := by
 have H : (if b = 0 then (num_Neutral.j0 k b (b == 0)) else (if b = 6 then (num_Neutral.j0 k b (b == 6)) else (num_Neutral.j0 k b (b == 7)))) = some (y, z) := h
 clear h; have p := a_ H; clear H; go_enter Tryd.func86, Tryd.ntmps86
 go_upto_if 5 with (fail)
 go_cut [5] (fun B wc => ∃ (kq : Nat) (l : Bool), B = .bool l ∧ Aside0 (num_Neutral.j0 kq b l = some (y, z)) ∧ Aside0 (kq ≤ k) ∧ Drawn0 w wc)
 case first => (
 have H := p.out; clear p; replace H := q_iBN H; rcases H with ⟨-, c3b0, c3b1, H⟩ | ⟨F, c3b0, c3b1, H⟩
 {
 (first | rw [c3b0] | (simp only [i64_w, i32_w]; rw [c3b0]) | skip)
 have q := a_ H
 clear H; go_wp2
 go_meet
 case rel => exact ⟨_, ((b == 0)), q_r, q, ⟨by first | omega | exact Nat.le_refl _⟩, by repeat (first | exact Drawn0.refl _ | apply Drawn0.step)⟩}
 {
 (first | rw [c3b0] | (simp only [i64_w, i32_w]; rw [c3b0]) | skip)
 replace H := q_iBN H; rcases H with ⟨-, c4b0, c4b1, H⟩ | ⟨G, c4b0, c4b1, H⟩
 {
 have q := a_ H
 clear H; go_wp2
 go_meet
 case rel => exact ⟨_, ((b == 6)), q_r, q, ⟨by first | omega | exact Nat.le_refl _⟩, by repeat (first | exact Drawn0.refl _ | apply Drawn0.step)⟩}
 {
 have q := a_ H
 clear H; go_wp2
 go_meet
 case rel => exact ⟨_, ((b == 7)), q_r, q, ⟨by first | omega | exact Nat.le_refl _⟩, by repeat (first | exact Drawn0.refl _ | apply Drawn0.step)⟩}})
 case rest => (
 clear p; obtain ⟨kq, l, rfl, HA, C, ⟨D, rfl⟩⟩ := hcut; cases kq with
 | zero => exact absurd HA.out (by simp [num_Neutral.j0])
 | succ E => (
 have H := HA.out; clear HA; simp only [num_Neutral.j0] at H
 by_cases c5 : l = true
 {
 subst c5; rw [if_pos rfl] at H; simp only [Option.some.injEq, Prod.mk.injEq] at H
 obtain ⟨rfl, rfl⟩ := H; go_wp2
 go_ret2
 exact ⟨by first | rfl | (simp; done) | (simp [*]; done), by repeat (first | exact Drawn0.refl _ | apply Drawn0.step)⟩}
 {
 replace c5 := Bool.eq_false_iff.mpr c5; subst c5; rw [if_neg Bool.false_ne_true] at H; replace H := q_iBN H; rcases H with ⟨-, c6b0, c6b1, H⟩ | ⟨I, c6b0, c6b1, H⟩
 {
 simp only [Option.some.injEq, Prod.mk.injEq] at H
 obtain ⟨rfl, rfl⟩ := H; go_wp2
 go_ret2
 exact ⟨by first | rfl | (simp; done) | (simp [*]; done), by repeat (first | exact Drawn0.refl _ | apply Drawn0.step)⟩}
 {
 replace H := q_iBN H; rcases H with ⟨-, c7b0, c7b1, H⟩ | ⟨c7, c7b0, c7b1, H⟩
 {
 simp only [Option.some.injEq, Prod.mk.injEq] at H
 obtain ⟨rfl, rfl⟩ := H; go_wp2
 go_ret2
 exact ⟨by first | rfl | (simp; done) | (simp [*]; done), by repeat (first | exact Drawn0.refl _ | apply Drawn0.step)⟩}
 {
 replace H := q_iBN H; rcases H with ⟨-, c8b0, c8b1, H⟩ | ⟨J, c8b0, c8b1, H⟩
 {
 simp only [Option.some.injEq, Prod.mk.injEq] at H
 obtain ⟨rfl, rfl⟩ := H; go_wp2
 go_ret2
 exact ⟨by first | rfl | (simp; done) | (simp [*]; done), by repeat (first | exact Drawn0.refl _ | apply Drawn0.step)⟩}
 {
 simp only [Option.some.injEq, Prod.mk.injEq] at H
 obtain ⟨rfl, rfl⟩ := H; go_wp2
 go_ret2
 exact ⟨by first | rfl | (simp; done) | (simp [*]; done), by repeat (first | exact Drawn0.refl _ | apply Drawn0.step)⟩}}}}))
def num_Folds.f (k : Nat) (l : Int) : Option (Bool) := (num_Neutral.f k l).bind fun b => (some b.2)
theorem num_Folds.calls (k : Nat) (p : Int) (r : Bool) (w : World) (h : num_Folds.f k p = some r) :
  Calls Tryd.prog 76 #[.int .i64 p] w fun e w' => e = .returned (.bool r) ∧ Drawn0 w w' := by
 have H : ((num_Neutral.f k p).bind fun l => (some l.2)) = some r := h
 clear h; replace H := Option.bind_eq_some_iff.mp H; obtain ⟨⟨q, b⟩, y, H⟩ := H; replace H : (some b) = some r := H; have z := a_ y; clear y; obtain rfl := Option.some.inj H; go_enter Tryd.func76, Tryd.ntmps76
 go_wp2_with (first | ((with_reducible refine gc_ 86 rfl ?_); refine q_gl 7 #[.int .i64 p] Tryd.func86 rfl ?_; (with_reducible refine (num_Neutral.calls k p q b _ z.out).mono ?_); rintro e w' ⟨rfl, ⟨B, rfl⟩⟩; refine ⟨_, rfl, ?_⟩))
 go_ret
 exact ⟨by first | rfl | (simp; done) | (simp [*]; done), by repeat (first | exact Drawn0.refl _ | apply Drawn0.step)⟩
mutual
def flow_instr.j0 : Nat → Int → Bool → ByteArray → List (S83) → List (S85) → Int → List (S69) → Int → Int → Int → Int → Int → Int → List Int → Bool → Bool → Bool → Bool → Bool → Bool → Int → Bool → Bool → Bool → Option (Bool)
 | 0, _, _, _, _, _, _, _, _, _, _, _, _, _, _, _, _, _, _, _, _, _, _, _, _ => none
 | k + 1, X, a5, p, q, y, z, B, C, b, D, E, F, G, l, M, N, O, R, S, J, I, L, T, U => if a5 = true then (some false) else (if L = true then ((num_Folds.f k b).bind fun a2 => (flow_instr.j1 k X a2 p q y z B C b D E F G l M N O R S J I L T U)) else (if I > 0 then (if b ≥ 0 then (flow_instr.j1 k X (decide (b < I)) p q y z B C b D E F G l M N O R S J I L T U) else (flow_instr.j1 k X false p q y z B C b D E F G l M N O R S J I L T U)) else (flow_instr.j1 k X (b == 0) p q y z B C b D E F G l M N O R S J I L T U)))
def flow_instr.j1 : Nat → Int → Bool → ByteArray → List (S83) → List (S85) → Int → List (S69) → Int → Int → Int → Int → Int → Int → List Int → Bool → Bool → Bool → Bool → Bool → Bool → Int → Bool → Bool → Bool → Option (Bool)
 | 0, _, _, _, _, _, _, _, _, _, _, _, _, _, _, _, _, _, _, _, _, _, _, _, _ => none
 | k + 1, X, x8, p, q, y, z, B, C, b, D, E, F, G, l, M, N, O, R, S, J, I, L, T, U => if J = true then (flow_instr.l0 k X x8 l (l.length : Int) 0 p q y z B C b D E F G l) else (if x8 = true then (some ((l.length : Int) == 0)) else (some false))
def flow_instr.l0 : Nat → Int → Bool → List Int → Int → Int → ByteArray → List (S83) → List (S85) → Int → List (S69) → Int → Int → Int → Int → Int → Int → List Int → Option (Bool)
 | 0, _, _, _, _, _, _, _, _, _, _, _, _, _, _, _, _, _ => none
 | k + 1, X, x8, a0, a1, V, p, q, y, z, B, C, b, D, E, F, G, l => if V < a1 then (if 0 ≤ V then (if V < (a0.length : Int) then (if x8 = true then ((flow_register.f p q y z B true (rd a0 V)).bind fun a4 => (flow_instr.l0 k X a4 a0 a1 (wrap64 (V + 1)) p q y z B C b D E F G l)) else (flow_instr.l0 k X false a0 a1 (wrap64 (V + 1)) p q y z B C b D E F G l)) else (none)) else (none)) else (if x8 = true then (some ((l.length : Int) == X)) else (some false))
end
def flow_instr.f (k : Nat) (l : ByteArray) (p : List (S83)) (q : List (S85)) (y : Int) (z : List (S69)) (B : Int) (F : Int) (C : Int) (D : Int) (E : Int) (G : Int) (I : List Int) (J : Int) : Option (Bool) := (flow_fields.f B).bind fun b => (if b.2.2.2.2.2.2.2.2.2.2 = true then ((flow_register.f l p q y z b.1 C).bind fun L => (if L = true then ((flow_register.f l p q y z b.2.1 D).bind fun M => (if M = true then ((flow_register.f l p q y z b.2.2.1 E).bind fun N => (if N = true then ((flow_imm.f l p q y z b.1 b.2.1 b.2.2.1 b.2.2.2.1 b.2.2.2.2.1 b.2.2.2.2.2.1 b.2.2.2.2.2.2.1 b.2.2.2.2.2.2.2.1 b.2.2.2.2.2.2.2.2.1 b.2.2.2.2.2.2.2.2.2.1 B F C D E G I).bind fun O => (flow_instr.j0 k J (!O) l p q y z B F C D E G I b.1 b.2.1 b.2.2.1 b.2.2.2.1 b.2.2.2.2.1 b.2.2.2.2.2.1 b.2.2.2.2.2.2.1 b.2.2.2.2.2.2.2.1 b.2.2.2.2.2.2.2.2.1 b.2.2.2.2.2.2.2.2.2.1)) else (flow_instr.j0 k J true l p q y z B F C D E G I b.1 b.2.1 b.2.2.1 b.2.2.2.1 b.2.2.2.2.1 b.2.2.2.2.2.1 b.2.2.2.2.2.2.1 b.2.2.2.2.2.2.2.1 b.2.2.2.2.2.2.2.2.1 b.2.2.2.2.2.2.2.2.2.1))) else (flow_instr.j0 k J true l p q y z B F C D E G I b.1 b.2.1 b.2.2.1 b.2.2.2.1 b.2.2.2.2.1 b.2.2.2.2.2.1 b.2.2.2.2.2.2.1 b.2.2.2.2.2.2.2.1 b.2.2.2.2.2.2.2.2.1 b.2.2.2.2.2.2.2.2.2.1))) else (flow_instr.j0 k J true l p q y z B F C D E G I b.1 b.2.1 b.2.2.1 b.2.2.2.1 b.2.2.2.2.1 b.2.2.2.2.2.1 b.2.2.2.2.2.2.1 b.2.2.2.2.2.2.2.1 b.2.2.2.2.2.2.2.2.1 b.2.2.2.2.2.2.2.2.2.1))) else (flow_instr.j0 k J true l p q y z B F C D E G I b.1 b.2.1 b.2.2.1 b.2.2.2.1 b.2.2.2.2.1 b.2.2.2.2.2.1 b.2.2.2.2.2.2.1 b.2.2.2.2.2.2.2.1 b.2.2.2.2.2.2.2.2.1 b.2.2.2.2.2.2.2.2.2.1))
theorem flow_instr.calls (k : Nat) (J : ByteArray) (d1 : Option Addr) (d2 : Nat) (F : List (S83)) (d3 : Option Addr) (d4 : Nat) (G : List (S85)) (L : Int) (d5 : Option Addr) (d6 : Nat) (I : List (S69)) (a1 : Int) (X : Int) (U : Int) (V : Int) (a0 : Int) (a3 : Int) (d7 : Option Addr) (d8 : Nat) (S : List Int) (a2 : Int) (r : Bool) (w : World) (k4 : Kd.C k83 w d1 F.length F) (k5 : F.length ≤ d2) (k6 : Kd.C k85 w d3 G.length G) (k7 : G.length ≤ d4) (k8 : Kd.C k69 w d5 I.length I) (k9 : I.length ≤ d6) (l4 : Kd.C (Kd.int .i64) w d7 S.length S) (l5 : S.length ≤ d8) (h : flow_instr.f k J F G L I a1 X U V a0 a3 S a2 = some r) :
  Calls Tryd.prog 62 #[.agg #[.string J, .slice d1 F.length d2, .slice d3 G.length d4, .int .i64 L, .slice d5 I.length d6], .agg #[.int .i64 a1, .int .i64 X, .int .i64 U, .int .i64 V, .int .i64 a0, .int .i32 a3, .slice d7 S.length d8], .int .i64 a2] w fun e w' => e = .returned (.bool r) ∧ Below w.heap.size w w' := by
 have jd := Tryd.underlying26; have je := Tryd.underlying71; have hR := Tryd.underlying111; have b5 := a_ k4; have b6 := a_ k5; clear k4 k5; have b7 := a_ k6; have b8 := a_ k7; clear k6 k7; have b9 := a_ k8; have c0 := a_ k9; clear k8 k9; have e7 := a_ l4; have s0 := a_ l5; clear l4 l5; have T := a_ (Below.refl w.heap.size w); have H : ((flow_fields.f a1).bind fun b => (if b.2.2.2.2.2.2.2.2.2.2 = true then ((flow_register.f J F G L I b.1 U).bind fun e1 => (if e1 = true then ((flow_register.f J F G L I b.2.1 V).bind fun e2 => (if e2 = true then ((flow_register.f J F G L I b.2.2.1 a0).bind fun e3 => (if e3 = true then ((flow_imm.f J F G L I b.1 b.2.1 b.2.2.1 b.2.2.2.1 b.2.2.2.2.1 b.2.2.2.2.2.1 b.2.2.2.2.2.2.1 b.2.2.2.2.2.2.2.1 b.2.2.2.2.2.2.2.2.1 b.2.2.2.2.2.2.2.2.2.1 a1 X U V a0 a3 S).bind fun d9 => (flow_instr.j0 k a2 (!d9) J F G L I a1 X U V a0 a3 S b.1 b.2.1 b.2.2.1 b.2.2.2.1 b.2.2.2.2.1 b.2.2.2.2.2.1 b.2.2.2.2.2.2.1 b.2.2.2.2.2.2.2.1 b.2.2.2.2.2.2.2.2.1 b.2.2.2.2.2.2.2.2.2.1)) else (flow_instr.j0 k a2 true J F G L I a1 X U V a0 a3 S b.1 b.2.1 b.2.2.1 b.2.2.2.1 b.2.2.2.2.1 b.2.2.2.2.2.1 b.2.2.2.2.2.2.1 b.2.2.2.2.2.2.2.1 b.2.2.2.2.2.2.2.2.1 b.2.2.2.2.2.2.2.2.2.1))) else (flow_instr.j0 k a2 true J F G L I a1 X U V a0 a3 S b.1 b.2.1 b.2.2.1 b.2.2.2.1 b.2.2.2.2.1 b.2.2.2.2.2.1 b.2.2.2.2.2.2.1 b.2.2.2.2.2.2.2.1 b.2.2.2.2.2.2.2.2.1 b.2.2.2.2.2.2.2.2.2.1))) else (flow_instr.j0 k a2 true J F G L I a1 X U V a0 a3 S b.1 b.2.1 b.2.2.1 b.2.2.2.1 b.2.2.2.2.1 b.2.2.2.2.2.1 b.2.2.2.2.2.2.1 b.2.2.2.2.2.2.2.1 b.2.2.2.2.2.2.2.2.1 b.2.2.2.2.2.2.2.2.2.1))) else (flow_instr.j0 k a2 true J F G L I a1 X U V a0 a3 S b.1 b.2.1 b.2.2.1 b.2.2.2.1 b.2.2.2.2.1 b.2.2.2.2.2.1 b.2.2.2.2.2.2.1 b.2.2.2.2.2.2.2.1 b.2.2.2.2.2.2.2.2.1 b.2.2.2.2.2.2.2.2.2.1))) = some r := h
 clear h; replace H := Option.bind_eq_some_iff.mp H; obtain ⟨⟨a4, a5, a6, a9, b0, b1, a7, a8, b2, b3, l6⟩, D8, H⟩ := H; replace H : (if l6 = true then ((flow_register.f J F G L I a4 U).bind fun e1 => (if e1 = true then ((flow_register.f J F G L I a5 V).bind fun e2 => (if e2 = true then ((flow_register.f J F G L I a6 a0).bind fun e3 => (if e3 = true then ((flow_imm.f J F G L I a4 a5 a6 a9 b0 b1 a7 a8 b2 b3 a1 X U V a0 a3 S).bind fun d9 => (flow_instr.j0 k a2 (!d9) J F G L I a1 X U V a0 a3 S a4 a5 a6 a9 b0 b1 a7 a8 b2 b3)) else (flow_instr.j0 k a2 true J F G L I a1 X U V a0 a3 S a4 a5 a6 a9 b0 b1 a7 a8 b2 b3))) else (flow_instr.j0 k a2 true J F G L I a1 X U V a0 a3 S a4 a5 a6 a9 b0 b1 a7 a8 b2 b3))) else (flow_instr.j0 k a2 true J F G L I a1 X U V a0 a3 S a4 a5 a6 a9 b0 b1 a7 a8 b2 b3))) else (flow_instr.j0 k a2 true J F G L I a1 X U V a0 a3 S a4 a5 a6 a9 b0 b1 a7 a8 b2 b3)) = some r := H
 have A4 := a_ D8; clear D8; have s1 := a_ H; clear H; go_enter Tryd.func62, Tryd.ntmps62
 go_upto_region 2 with (first | ((with_reducible refine gd_ 3 rfl ?_); (try (refine gate_guard (by rfl) ?_; dsimp only)); refine q_box 3 26 #[.string J, .slice d1 F.length d2, .slice d3 G.length d4, .int .i64 L, .slice d5 I.length d6] ?_; intro e8 hg w6 c4 hb; have p := a_ (c4); have hS := a_ ((q_ge T.out hg)); have y := a_ ((q_ge T.out hg)); replace T := a_ (q_st T.out hb); clear hb c4 hg) | ((with_reducible refine gd_ 4 rfl ?_); (try (refine gate_guard (by rfl) ?_; dsimp only)); refine q_box 4 71 #[.int .i64 a1, .int .i64 X, .int .i64 U, .int .i64 V, .int .i64 a0, .int .i32 a3, .slice d7 S.length d8] ?_; intro e9 hg w7 c4 hb; have l := a_ (c4); have hT := a_ ((q_ge1 T.out hg y.out)); have z := a_ ((q_ge1 T.out hg y.out)); have M := a_ ((q_ne p.out hg)); have N := a_ ((q_en p.out hg)); replace p := a_ (q_bk p.out hb); replace T := a_ (q_st1 T.out hb y.out); clear hb c4 hg; have jf := N.out; have jg := M.out; obtain ⟨p0, p1, p2, p3, p4, p5, p6, p7, p8, p9, q0, q1, q2, q3⟩ := q_cf7 l.out) | ((with_reducible refine gc_ 74 rfl ?_); refine q_gl 14 #[.int .i64 a1] Tryd.func74 rfl ?_; (with_reducible refine (flow_fields.calls a1 a4 a5 a6 a9 b0 b1 a7 a8 b2 b3 l6 _ A4.out).mono ?_); rintro e jk ⟨rfl, hb⟩; refine ⟨_, rfl, ?_⟩; replace p := a_ (q_bk p.out hb); replace l := a_ (q_bk l.out hb); replace T := a_ (q_st2 T.out hb y.out z.out); (clear hb)) | ((with_reducible refine gd_ 7 rfl ?_); (try (refine gate_guard (by rfl) ?_; dsimp only)); refine q_box 7 111 #[.bool false, .bool false, .bool false, .bool false, .bool false, .bool false, .int .i64 0, .bool false, .bool false, .bool false] ?_; intro c3 hg jl c4 hb; have q := a_ (c4); have hU := a_ ((q_ge2 T.out hg y.out z.out)); have B := a_ ((q_ge2 T.out hg y.out z.out)); have D := a_ ((q_ne p.out hg)); have O := a_ ((q_en p.out hg)); have E := a_ ((q_ne l.out hg)); have R := a_ ((q_en l.out hg)); replace p := a_ (q_bk p.out hb); replace l := a_ (q_bk l.out hb); replace T := a_ (q_st2 T.out hb y.out z.out); clear hb c4 hg; have hV := O.out; have hW := D.out; have hX := R.out; have hY := E.out; obtain ⟨l7, l8, l9, n0, n1, n2, n3, n4, n5, n6, n7, n8, n9, o0, o1, o2, o3, o4, o5, o6⟩ := q_cf10 q.out))
 (try simp only [Act.put, List.setIfInBounds_toArray, List.set_cons_zero, List.set_cons_succ])
 go_cut [52] (fun hZ wc => ∃ (kq : Nat) (e0 : Bool), hZ = .bool e0 ∧ Aside0 (flow_instr.j0 kq a2 e0 J F G L I a1 X U V a0 a3 S a4 a5 a6 a9 b0 b1 a7 a8 b2 b3 = some r) ∧ Aside0 (kq ≤ k) ∧ Aside0 (wc.heap[e8]? = some (.cells #[.string J, (.slice d1 F.length d2), (.slice d3 G.length d4), .int .i64 L, (.slice d5 I.length d6)] 26 (0, 0))) ∧ Aside0 (wc.heap[e9]? = some (.cells #[.int .i64 a1, .int .i64 X, .int .i64 U, .int .i64 V, .int .i64 a0, .int .i32 a3, (.slice d7 S.length d8)] 71 (0, 0))) ∧ Aside0 (wc.heap[c3]? = some (.cells #[.bool a4, .bool a5, .bool a6, .bool a9, .bool b0, .bool b1, .int .i64 a7, .bool a8, .bool b2, .bool b3] 111 (0, 0))) ∧ Aside0 (Below w.heap.size w wc))
 case first => (
 have H := s1.out; clear s1; by_cases q4 : l6 = true
 {
 subst q4; rw [if_pos rfl] at H; replace H := Option.bind_eq_some_iff.mp H; obtain ⟨e1, r2, H⟩ := H; have q5 := a_ r2; clear r2; by_cases q6 : e1 = true
 {
 subst q6; rw [if_pos rfl] at H; replace H := Option.bind_eq_some_iff.mp H; obtain ⟨e2, r3, H⟩ := H; have s2 := a_ r3; clear r3; by_cases q7 : e2 = true
 {
 subst q7; rw [if_pos rfl] at H; replace H := Option.bind_eq_some_iff.mp H; obtain ⟨e3, r4, H⟩ := H; have D9 := a_ r4; clear r4; by_cases q8 : e3 = true
 {
 subst q8; rw [if_pos rfl] at H; replace H := Option.bind_eq_some_iff.mp H; obtain ⟨d9, r5, H⟩ := H; have ia := a_ r5; clear r5; have H' := a_ H
 clear H; have ib := M.out; have ic := N.out; have id := D.out; have ie := O.out; obtain ⟨E0, E1, E2, E3, E4, E5, E6, E7, E8, E9⟩ := q_cf5 p.out; have ig := R.out; have ih := E.out; obtain ⟨F0, F1, F2, F3, F4, F5, F6, F7, F8, F9, G0, G1, G2, G3, G4, G5, G6, G7, G8, G9⟩ := q_cf10 q.out; obtain ⟨H0, H1, H2, H3, H4, H5, H6, H7, H8, H9, I0, I1, I2, I3⟩ := q_cf7 l.out; go_wp2_with (first | (go_at_call 73; (with_reducible refine (flow_register.calls J _ _ F _ _ G L _ _ I a4 U true _ (Kd.C_below b5.out (q_w3 T.out y.out z.out B.out)) b6.out (Kd.C_below b7.out (q_w3 T.out y.out z.out B.out)) b8.out (Kd.C_below b9.out (q_w3 T.out y.out z.out B.out)) c0.out q5.out).mono ?_); rintro e jm ⟨rfl, hb⟩; replace p := a_ (blk_below (q_f1 p.out D.out) hb); replace l := a_ (blk_below (q_f1 l.out E.out) hb); replace q := a_ (blk_below (g := c3) (o := .cells #[.bool a4, .bool a5, .bool a6, .bool a9, .bool b0, .bool b1, .int .i64 a7, .bool a8, .bool b2, .bool b3] 111 (0, 0)) (q_p q.out) hb); replace T := a_ (q_st3 T.out hb y.out z.out B.out); (clear hb); obtain ⟨I4, I5, I6, I7, I8, I9, J0, J1, J2, J3⟩ := q_cf5 p.out; obtain ⟨J4, J5, J6, J7, J8, J9, K0, K1, K2, K3, K4, K5, K6, K7, K8, K9, L0, L1, L2, L3⟩ := q_cf10 q.out; obtain ⟨L4, L5, L6, L7, L8, L9, M0, M1, M2, M3, M4, M5, M6, M7⟩ := q_cf7 l.out) | (go_at_call 73; (with_reducible refine (flow_register.calls J _ _ F _ _ G L _ _ I a5 V true _ (q_C (Kd.C_below b5.out T.out)) b6.out (q_C (Kd.C_below b7.out T.out)) b8.out (q_C (Kd.C_below b9.out T.out)) c0.out s2.out).mono ?_); rintro e jn ⟨rfl, hb⟩; replace p := a_ (q_bk p.out hb); replace l := a_ (q_bk l.out hb); replace q := a_ (q_bk q.out hb); replace T := a_ (q_st3 T.out hb y.out z.out B.out); (clear hb); obtain ⟨M8, M9, N0, N1, N3, N4, N5, N6, N7, N8⟩ := q_cf5 p.out; obtain ⟨N9, O0, O1, O2, O3, O4, O5, O6, O7, O8, O9, P0, P1, P2, P3, P4, P5, P6, P7, P8⟩ := q_cf10 q.out; obtain ⟨P9, Q0, Q1, Q2, Q3, Q4, Q5, Q6, Q7, Q8, Q9, R0, R1, R2⟩ := q_cf7 l.out) | (go_at_call 73; (with_reducible refine (flow_register.calls J _ _ F _ _ G L _ _ I a6 a0 true _ (q_C (Kd.C_below b5.out T.out)) b6.out (q_C (Kd.C_below b7.out T.out)) b8.out (q_C (Kd.C_below b9.out T.out)) c0.out D9.out).mono ?_); rintro e jo ⟨rfl, hb⟩; replace p := a_ (q_bk p.out hb); replace l := a_ (q_bk l.out hb); replace q := a_ (q_bk q.out hb); replace T := a_ (q_st3 T.out hb y.out z.out B.out); (clear hb); obtain ⟨R3, R4, R5, R6, R7, R8, R9, S0, S1, S2⟩ := q_cf5 p.out; obtain ⟨S3, S4, S5, S6, S7, S8, S9, T2, T3, T6, T7, U0, U1, U2, U3, U4, U5, U6, U7, U8⟩ := q_cf10 q.out; obtain ⟨U9, V0, V1, V2, V3, V4, V5, V6, V7, V8, V9, W0, W1, W2⟩ := q_cf7 l.out) | (go_at_call 75; (with_reducible refine (flow_imm.calls J _ _ F _ _ G L _ _ I a4 a5 a6 a9 b0 b1 a7 a8 b2 b3 a1 X U V a0 a3 _ _ S d9 _ (q_C (Kd.C_below b5.out T.out)) b6.out (q_C (Kd.C_below b7.out T.out)) b8.out (q_C (Kd.C_below b9.out T.out)) c0.out (q_C (Kd.C_below e7.out T.out)) s0.out ia.out).mono ?_); rintro e jp ⟨rfl, hb⟩; replace p := a_ (q_bk p.out hb); replace l := a_ (q_bk l.out hb); replace q := a_ (q_bk q.out hb); replace T := a_ (q_st3 T.out hb y.out z.out B.out); (clear hb)))
 go_meet
 case rel => exact ⟨_, (!d9), q_r, H', ⟨by first | omega | exact Nat.le_refl _⟩, ⟨q_k p.out⟩, ⟨q_k l.out⟩, ⟨q_k q.out⟩, ⟨q_w3 T.out y.out z.out B.out⟩⟩}
 {
 replace q8 := Bool.eq_false_iff.mpr q8; subst q8; rw [if_neg Bool.false_ne_true] at H; have H' := a_ H
 clear H; have ii := M.out; have ij := N.out; have ik := D.out; have il := O.out; obtain ⟨W3, W4, W5, W6, W7, W8, W9, X0, X1, X2⟩ := q_cf5 p.out; have im := R.out; have io := E.out; obtain ⟨X3, X4, X5, X6, X7, X8, X9, Y0, Y1, Y2, Y3, Y4, Y5, Y6, Y7, Y8, Y9, Z0, Z1, Z2⟩ := q_cf10 q.out; obtain ⟨Z3, Z4, Z5, Z6, Z7, Z8, Z9, aa, ab, ac, ad, ae, af, ag⟩ := q_cf7 l.out; go_wp2_with (first | (go_at_call 73; (with_reducible refine (flow_register.calls J _ _ F _ _ G L _ _ I a4 U true _ (Kd.C_below b5.out (q_w3 T.out y.out z.out B.out)) b6.out (Kd.C_below b7.out (q_w3 T.out y.out z.out B.out)) b8.out (Kd.C_below b9.out (q_w3 T.out y.out z.out B.out)) c0.out q5.out).mono ?_); rintro e jq ⟨rfl, hb⟩; replace p := a_ (blk_below (q_f1 p.out D.out) hb); replace l := a_ (blk_below (q_f1 l.out E.out) hb); replace q := a_ (blk_below (g := c3) (o := .cells #[.bool a4, .bool a5, .bool a6, .bool a9, .bool b0, .bool b1, .int .i64 a7, .bool a8, .bool b2, .bool b3] 111 (0, 0)) (q_p q.out) hb); replace T := a_ (q_st3 T.out hb y.out z.out B.out); (clear hb); obtain ⟨ah, ai, aj, ak, al, am, an, ao, ap, aq⟩ := q_cf5 p.out; obtain ⟨au, av, aw, ax, ay, az, aA, aC, aD, aE, aG, aH, aI, aJ, aK, aM, aN, aQ, aR, aT⟩ := q_cf10 q.out; obtain ⟨aU, aV, aW, aX, aY, aZ, ba, bb, bc, bd, be, bf, bg, bh⟩ := q_cf7 l.out) | (go_at_call 73; (with_reducible refine (flow_register.calls J _ _ F _ _ G L _ _ I a5 V true _ (q_C (Kd.C_below b5.out T.out)) b6.out (q_C (Kd.C_below b7.out T.out)) b8.out (q_C (Kd.C_below b9.out T.out)) c0.out s2.out).mono ?_); rintro e jr ⟨rfl, hb⟩; replace p := a_ (q_bk p.out hb); replace l := a_ (q_bk l.out hb); replace q := a_ (q_bk q.out hb); replace T := a_ (q_st3 T.out hb y.out z.out B.out); (clear hb); obtain ⟨bi, bj, bk, bl, bm, bn, bo, bp, bq, br⟩ := q_cf5 p.out; obtain ⟨bu, bv, bw, bx, bz, bA, bB, bC, bD, bE, bF, bG, bH, bI, bJ, bK, bL, bM, bN, bO⟩ := q_cf10 q.out; obtain ⟨bP, bQ, bR, bS, bT, bU, bV, bW, bX, bY, bZ, ca, cb, cc⟩ := q_cf7 l.out) | (go_at_call 73; (with_reducible refine (flow_register.calls J _ _ F _ _ G L _ _ I a6 a0 false _ (q_C (Kd.C_below b5.out T.out)) b6.out (q_C (Kd.C_below b7.out T.out)) b8.out (q_C (Kd.C_below b9.out T.out)) c0.out D9.out).mono ?_); rintro e js ⟨rfl, hb⟩; replace p := a_ (q_bk p.out hb); replace l := a_ (q_bk l.out hb); replace q := a_ (q_bk q.out hb); replace T := a_ (q_st3 T.out hb y.out z.out B.out); (clear hb)))
 go_meet
 case rel => exact ⟨_, (true), q_r, H', ⟨by first | omega | exact Nat.le_refl _⟩, ⟨q_k p.out⟩, ⟨q_k l.out⟩, ⟨q_k q.out⟩, ⟨q_w3 T.out y.out z.out B.out⟩⟩}}
 {
 replace q7 := Bool.eq_false_iff.mpr q7; subst q7; rw [if_neg Bool.false_ne_true] at H; have H' := a_ H
 clear H; have ip := M.out; have iq := N.out; have ir := D.out; have it := O.out; obtain ⟨cd, ce, cf, cg, ch, ci, cj, ck, cm, cn⟩ := q_cf5 p.out; have iu := R.out; have iv := E.out; obtain ⟨co, cp, cq, cr, ct, cu, cv, cx, cy, cz, cA, cB, cC, cD, cE, cF, cG, cH, cI, cJ⟩ := q_cf10 q.out; obtain ⟨cK, cL, cM, cN, cO, cP, cQ, cR, cS, cT, cU, cV, cW, cX⟩ := q_cf7 l.out; go_wp2_with (first | (go_at_call 73; (with_reducible refine (flow_register.calls J _ _ F _ _ G L _ _ I a4 U true _ (Kd.C_below b5.out (q_w3 T.out y.out z.out B.out)) b6.out (Kd.C_below b7.out (q_w3 T.out y.out z.out B.out)) b8.out (Kd.C_below b9.out (q_w3 T.out y.out z.out B.out)) c0.out q5.out).mono ?_); rintro e jt ⟨rfl, hb⟩; replace p := a_ (blk_below (q_f1 p.out D.out) hb); replace l := a_ (blk_below (q_f1 l.out E.out) hb); replace q := a_ (blk_below (g := c3) (o := .cells #[.bool a4, .bool a5, .bool a6, .bool a9, .bool b0, .bool b1, .int .i64 a7, .bool a8, .bool b2, .bool b3] 111 (0, 0)) (q_p q.out) hb); replace T := a_ (q_st3 T.out hb y.out z.out B.out); (clear hb); obtain ⟨cY, cZ, da, db, dc, dd, de, df, dg, dh⟩ := q_cf5 p.out; obtain ⟨di, dj, dk, dl, dm, dn, dp, dq, dr, dt, du, dv, dw, dx, dy, dz, dA, dB, dC, dD⟩ := q_cf10 q.out; obtain ⟨dE, dF, dG, dH, dI, dJ, dK, dL, dM, dN, dO, dP, dQ, dR⟩ := q_cf7 l.out) | (go_at_call 73; (with_reducible refine (flow_register.calls J _ _ F _ _ G L _ _ I a5 V false _ (q_C (Kd.C_below b5.out T.out)) b6.out (q_C (Kd.C_below b7.out T.out)) b8.out (q_C (Kd.C_below b9.out T.out)) c0.out s2.out).mono ?_); rintro e ju ⟨rfl, hb⟩; replace p := a_ (q_bk p.out hb); replace l := a_ (q_bk l.out hb); replace q := a_ (q_bk q.out hb); replace T := a_ (q_st3 T.out hb y.out z.out B.out); (clear hb)))
 go_meet
 case rel => exact ⟨_, (true), q_r, H', ⟨by first | omega | exact Nat.le_refl _⟩, ⟨q_k p.out⟩, ⟨q_k l.out⟩, ⟨q_k q.out⟩, ⟨q_w3 T.out y.out z.out B.out⟩⟩}}
 {
 replace q6 := Bool.eq_false_iff.mpr q6; subst q6; rw [if_neg Bool.false_ne_true] at H; have H' := a_ H
 clear H; have iw := M.out; have ix := N.out; have iy := D.out; have iz := O.out; obtain ⟨dS, dT, dU, dV, dW, dX, dY, dZ, ea, eb⟩ := q_cf5 p.out; have iA := R.out; have iB := E.out; obtain ⟨ec, ed, ee, ef, eg, eh, ei, ej, ek, el, em, en, eo, ep, eq, er, es, et, eu, ev⟩ := q_cf10 q.out; obtain ⟨ew, ex, ey, ez, eA, eB, eC, eD, eE, eF, eG, eH, eI, eJ⟩ := q_cf7 l.out; go_wp2_with (first | (go_at_call 73; (with_reducible refine (flow_register.calls J _ _ F _ _ G L _ _ I a4 U false _ (Kd.C_below b5.out (q_w3 T.out y.out z.out B.out)) b6.out (Kd.C_below b7.out (q_w3 T.out y.out z.out B.out)) b8.out (Kd.C_below b9.out (q_w3 T.out y.out z.out B.out)) c0.out q5.out).mono ?_); rintro e jv ⟨rfl, hb⟩; replace p := a_ (blk_below (q_f1 p.out D.out) hb); replace l := a_ (blk_below (q_f1 l.out E.out) hb); replace q := a_ (blk_below (g := c3) (o := .cells #[.bool a4, .bool a5, .bool a6, .bool a9, .bool b0, .bool b1, .int .i64 a7, .bool a8, .bool b2, .bool b3] 111 (0, 0)) (q_p q.out) hb); replace T := a_ (q_st3 T.out hb y.out z.out B.out); (clear hb)))
 go_meet
 case rel => exact ⟨_, (true), q_r, H', ⟨by first | omega | exact Nat.le_refl _⟩, ⟨q_k p.out⟩, ⟨q_k l.out⟩, ⟨q_k q.out⟩, ⟨q_w3 T.out y.out z.out B.out⟩⟩}}
 {
 replace q4 := Bool.eq_false_iff.mpr q4; subst q4; rw [if_neg Bool.false_ne_true] at H; have H' := a_ H
 clear H; go_wp2
 go_meet
 case rel => exact ⟨_, (true), q_r, H', ⟨by first | omega | exact Nat.le_refl _⟩, ⟨q_f1 p.out D.out⟩, ⟨q_f1 l.out E.out⟩, ⟨q_p q.out⟩, ⟨q_w3 T.out y.out z.out B.out⟩⟩})
 case rest => (
 clear s1 l7 l8 l9 n0 n1 n2 n3 n4 n5 n6 p0 p1 p2 p3 p4 p5 p6 n7 n8 n9 o0 o1 o2 o3 o4 o5 o6 p7 p8 p9 q0 q1 q2 q3; obtain ⟨kq, e0, rfl, HA, e4, p, l, q, T⟩ := hcut; cases kq with
 | zero => exact absurd HA.out (by simp [flow_instr.j0])
 | succ eK => (
 have H := HA.out; clear HA; simp only [flow_instr.j0] at H
 by_cases q9 : e0 = true
 {
 subst q9; rw [if_pos rfl] at H; obtain rfl := Option.some.inj H; go_wp2
 go_ret
 exact ⟨q_e, q_w3 T.out y.out z.out B.out⟩}
 {
 replace q9 := Bool.eq_false_iff.mpr q9; subst q9; rw [if_neg Bool.false_ne_true] at H; have o7 := a_ H; clear H; go_upto_block 0 with (fail)
 go_cut [8] (fun v8 wc => ∃ (kq : Nat) (c8 : Bool), v8 = .bool c8 ∧ Aside0 (flow_instr.j1 kq a2 c8 J F G L I a1 X U V a0 a3 S a4 a5 a6 a9 b0 b1 a7 a8 b2 b3 = some r) ∧ Aside0 (kq ≤ eK) ∧ Aside0 (wc.heap[e8]? = some (.cells #[.string J, (.slice d1 F.length d2), (.slice d3 G.length d4), .int .i64 L, (.slice d5 I.length d6)] 26 (0, 0))) ∧ Aside0 (wc.heap[e9]? = some (.cells #[.int .i64 a1, .int .i64 X, .int .i64 U, .int .i64 V, .int .i64 a0, .int .i32 a3, (.slice d7 S.length d8)] 71 (0, 0))) ∧ Aside0 (wc.heap[c3]? = some (.cells #[.bool a4, .bool a5, .bool a6, .bool a9, .bool b0, .bool b1, .int .i64 a7, .bool a8, .bool b2, .bool b3] 111 (0, 0))) ∧ Aside0 (Below w.heap.size w wc))
 case first => (
 have H := o7.out; clear o7; by_cases r0 : a8 = true
 {
 subst r0; rw [if_pos rfl] at H; replace H := Option.bind_eq_some_iff.mp H; obtain ⟨r6, r7, H⟩ := H; have iD := a_ r7; clear r7; have H' := a_ H
 clear H; have iE := O.out; have iF := D.out; have iG := R.out; have iH := E.out; obtain ⟨eL, eM, eN, eO, eP, eQ, eR, eS, eT, eU, eV, eW, eX, eY, eZ, fa, fb, fc, fd, fe⟩ := q_cf10 q.out; have iI := N.out; have iJ := M.out; obtain ⟨ff, fg, fh, fi, fj, fk, fl, fm, fn, fo, fp, fq, fs, ft⟩ := q_cf7 l.out; go_wp2_with (first | ((with_reducible refine gc_ 76 rfl ?_); refine q_gl 61 #[.int .i64 X] Tryd.func76 rfl ?_; (with_reducible refine (num_Folds.calls eK X r6 _ iD.out).mono ?_); rintro e w' ⟨rfl, ⟨nd, rfl⟩⟩; refine ⟨_, rfl, ?_⟩))
 go_meet
 case rel => exact ⟨_, (r6), q_r, H', ⟨by have := e4.out; first | omega | exact Nat.le_refl _⟩, ⟨q_k p.out⟩, ⟨q_k l.out⟩, ⟨q_k q.out⟩, ⟨q_w3 T.out y.out z.out B.out⟩⟩}
 {
 replace r0 := Bool.eq_false_iff.mpr r0; subst r0; rw [if_neg Bool.false_ne_true] at H; rcases q_ite H with ⟨c84b0, H⟩ | ⟨c84b0, H⟩
 {
 (first | rw [c84b0] | (simp only [i64_w, i32_w]; rw [c84b0]) | skip)
 rcases q_ite H with ⟨c85b0, H⟩ | ⟨c85b0, H⟩
 {
 have H' := a_ H
 clear H; have iK := O.out; have iL := D.out; have iM := R.out; have iN := E.out; obtain ⟨fu, fv, fw, fx, fy, fz, fA, fB, fC, fD, fE, fF, fG, fH, fI, fJ, fK, fL, fM, fN⟩ := q_cf10 q.out; have iO := N.out; have iP := M.out; obtain ⟨fO, fP, fQ, fR, fS, fT, fU, fV, fW, fX, fY, fZ, ga, gb⟩ := q_cf7 l.out; go_wp2
 go_meet
 case rel => exact ⟨_, (decide (X < a7)), q_r, H', ⟨by have := e4.out; first | omega | exact Nat.le_refl _⟩, ⟨q_k p.out⟩, ⟨q_k l.out⟩, ⟨q_k q.out⟩, ⟨q_w3 T.out y.out z.out B.out⟩⟩}
 {
 have H' := a_ H
 clear H; have iQ := O.out; have iR := D.out; have iS := R.out; have iT := E.out; obtain ⟨gc, ge, gf, gg, gh, gi, gj, gl, gm, gn, go, gp, gq, gr, gs, gt, gu, gv, gw, gx⟩ := q_cf10 q.out; have iU := N.out; have iV := M.out; obtain ⟨gy, gz, gA, gB, gC, gD, gE, gF, gG, gH, gI, gJ, gK, gL⟩ := q_cf7 l.out; go_wp2
 go_meet
 case rel => exact ⟨_, (false), q_r, H', ⟨by have := e4.out; first | omega | exact Nat.le_refl _⟩, ⟨q_k p.out⟩, ⟨q_k l.out⟩, ⟨q_k q.out⟩, ⟨q_w3 T.out y.out z.out B.out⟩⟩}}
 {
 (first | rw [c84b0] | (simp only [i64_w, i32_w]; rw [c84b0]) | skip)
 have H' := a_ H
 clear H; have iW := O.out; have iX := D.out; have iY := R.out; have iZ := E.out; obtain ⟨gM, gN, gO, gP, gQ, gR, gS, gT, gU, gV, gW, gX, gY, gZ, ha, hc, he, hf, hh, hi⟩ := q_cf10 q.out; have ja := N.out; have jb := M.out; obtain ⟨s4, s5, s6, s7, s8, s9, t0, t1, t2, t3, t4, t5, t6, t7⟩ := q_cf7 l.out; go_wp2
 go_meet
 case rel => exact ⟨_, ((X == 0)), q_r, H', ⟨by have := e4.out; first | omega | exact Nat.le_refl _⟩, ⟨q_k p.out⟩, ⟨q_k l.out⟩, ⟨q_k q.out⟩, ⟨q_w3 T.out y.out z.out B.out⟩⟩}})
 case rest => (
 clear o7; obtain ⟨kq, c8, rfl, HA, f0, p, l, q, T⟩ := hcut; cases kq with
 | zero => exact absurd HA.out (by simp [flow_instr.j1])
 | succ r8 => (
 have H := HA.out; clear HA; simp only [flow_instr.j1] at H
 by_cases f1 : b1 = true
 {
 subst f1; rw [if_pos rfl] at H; have H' := a_ H
 clear H; have hk := O.out; have hq := D.out; have hs := R.out; have ht := E.out; obtain ⟨f5, f6, f7, f8, f9, g0, g1, g2, g3, g4, g5, g6, g7, g8, g9, i0, i1, i2, i3, i4⟩ := q_cf10 q.out; have hu := N.out; have hv := M.out; obtain ⟨i5, i6, i7, i8, i9, j3, j5, j6, j7, j8, j9, k0, k1, k2⟩ := q_cf7 l.out; go_wp2
 go_loopg [8, 89] r8 (fun kq v8 jc w' => ∃ (e5 : Bool) (b4 : Int), v8 = .bool e5 ∧ jc = .int .i64 b4 ∧ Aside0 (flow_instr.l0 kq a2 e5 S (S.length : Int) b4 J F G L I a1 X U V a0 a3 S = some r) ∧ Aside0 (kq ≤ r8) ∧ Aside0 (w'.heap[e8]? = some (.cells #[.string J, (.slice d1 F.length d2), (.slice d3 G.length d4), .int .i64 L, (.slice d5 I.length d6)] 26 (0, 0))) ∧ Aside0 (w'.heap[e9]? = some (.cells #[.int .i64 a1, .int .i64 X, .int .i64 U, .int .i64 V, .int .i64 a0, .int .i32 a3, (.slice d7 S.length d8)] 71 (0, 0))) ∧ Aside0 (w'.heap[c3]? = some (.cells #[.bool a4, .bool a5, .bool a6, .bool a9, .bool b0, .bool true, .int .i64 a7, .bool a8, .bool b2, .bool b3] 111 (0, 0))) ∧ Aside0 (Below w.heap.size w w'))
 case atStart => exact ⟨(c8), (0), q_r, q_r, H', ⟨Nat.le_refl _⟩, ⟨q_k p.out⟩, ⟨q_k l.out⟩, ⟨q_k q.out⟩, ⟨q_w3 T.out y.out z.out B.out⟩⟩
 case round => (
 clear H'; clear f5 f6 f7 f8 f9 g0 g1 g2 g3 g4 i5 i6 i7 i8 i9 j3 j5 g5 g6 g7 g8 g9 i0 i1 i2 i3 i4 j6 j7 j8 j9 k0 k1 k2; obtain ⟨e5, b4, rfl, rfl, HA, r1, p, l, q, T⟩ := hrel; cases gk with
 | zero => exact absurd HA.out (by simp [flow_instr.l0])
 | succ k3 => (
 have H := HA.out; clear HA; simp only [flow_instr.l0] at H
 rcases q_ite H with ⟨c107b0, H⟩ | ⟨c107b0, H⟩
 {
 replace H := q_gD H; obtain ⟨-, c108b0, H⟩ := H; replace H := q_gD H; obtain ⟨-, c109b0, H⟩ := H; by_cases f2 : e5 = true
 {
 subst f2; rw [if_pos rfl] at H; replace H := Option.bind_eq_some_iff.mp H; obtain ⟨r9, o8, H⟩ := H; have hj := a_ o8; clear o8; have H' := a_ H
 clear H; have c9 : 0 ≤ (b4 : Int) := q_d
 have d0 : b4 < (S.length : Int) := q_d
 obtain ⟨s3, o9, c1⟩ := Kd.at_int e7.out b4 c9 d0; cases o9; replace c1 := q_kc T.out c1; replace c9 := eq_true c9; replace d0 := eq_true d0; have hw := M.out; have hz := N.out; have hA := D.out; have hB := O.out; obtain ⟨t8, t9, v0, v1, v2, v3, v4, v5, v6, v7⟩ := q_cf5 p.out; go_wp2_with (first | (go_at_call 73; (with_reducible refine (flow_register.calls J _ _ F _ _ G L _ _ I true (rd S b4) r9 _ (q_C (Kd.C_below b5.out T.out)) b6.out (q_C (Kd.C_below b7.out T.out)) b8.out (q_C (Kd.C_below b9.out T.out)) c0.out hj.out).mono ?_); rintro e ji ⟨rfl, hb⟩; replace p := a_ (q_bk p.out hb); replace l := a_ (q_bk l.out hb); replace q := a_ (q_bk q.out hb); replace T := a_ (q_st3 T.out hb y.out z.out B.out); (clear hb)))
 go_roundg k3
 case measure => have := e4.out; have := f0.out; have := r1.out; omega
 case rel => exact ⟨(r9), (wrap64 (b4 + 1)), q_r, q_r, H', ⟨by have := e4.out; have := f0.out; have := r1.out; omega⟩, ⟨q_k p.out⟩, ⟨q_k l.out⟩, ⟨q_k q.out⟩, ⟨q_w3 T.out y.out z.out B.out⟩⟩}
 {
 replace f2 := Bool.eq_false_iff.mpr f2; subst f2; rw [if_neg Bool.false_ne_true] at H; have H' := a_ H
 clear H; have c9 : 0 ≤ (b4 : Int) := q_d
 have d0 : b4 < (S.length : Int) := q_d
 obtain ⟨s3, o9, c1⟩ := Kd.at_int e7.out b4 c9 d0; cases o9; replace c1 := q_kc T.out c1; replace c9 := eq_true c9; replace d0 := eq_true d0; go_wp2
 go_roundg k3
 case measure => have := e4.out; have := f0.out; have := r1.out; omega
 case rel => exact ⟨(false), (wrap64 (b4 + 1)), q_r, q_r, H', ⟨by have := e4.out; have := f0.out; have := r1.out; omega⟩, ⟨q_k p.out⟩, ⟨q_k l.out⟩, ⟨q_k q.out⟩, ⟨q_w3 T.out y.out z.out B.out⟩⟩}}
 {
 by_cases f3 : e5 = true
 {
 subst f3; rw [if_pos rfl] at H; obtain rfl := Option.some.inj H; have hC := N.out; have hD := M.out; have hE := E.out; have hF := R.out; obtain ⟨v9, w2, w3, w4, w5, w8, w9, x0, x1, x2, x3, x4, x5, x6⟩ := q_cf7 l.out; go_wp2
 go_ret
 exact ⟨q_e, q_w3 T.out y.out z.out B.out⟩}
 {
 replace f3 := Bool.eq_false_iff.mpr f3; subst f3; rw [if_neg Bool.false_ne_true] at H; obtain rfl := Option.some.inj H; go_wp2
 go_ret
 exact ⟨q_e, q_w3 T.out y.out z.out B.out⟩}}))}
 {
 replace f1 := Bool.eq_false_iff.mpr f1; subst f1; rw [if_neg Bool.false_ne_true] at H; by_cases f4 : c8 = true
 {
 subst f4; rw [if_pos rfl] at H; obtain rfl := Option.some.inj H; have hG := O.out; have hH := D.out; have hJ := R.out; have hK := E.out; obtain ⟨x7, x8, x9, y0, y1, y2, y3, y4, y5, y6, y7, y8, y9, z0, z1, z2, z3, z4, z5, z6⟩ := q_cf10 q.out; have hL := N.out; have hM := M.out; obtain ⟨z7, z8, z9, A0, A1, A2, A3, A5, A6, A7, A8, A9, B2, B3⟩ := q_cf7 l.out; go_wp2
 go_ret
 exact ⟨q_e, q_w3 T.out y.out z.out B.out⟩}
 {
 replace f4 := Bool.eq_false_iff.mpr f4; subst f4; rw [if_neg Bool.false_ne_true] at H; obtain rfl := Option.some.inj H; have hN := O.out; have hO := D.out; have hP := R.out; have hQ := E.out; obtain ⟨B6, B7, C0, C1, C2, C3, C4, C5, C6, C7, C8, C9, D0, D1, D2, D3, D4, D5, D6, D7⟩ := q_cf10 q.out; go_wp2
 go_ret
 exact ⟨q_e, q_w3 T.out y.out z.out B.out⟩}}))}))
end Go.Proofs.YtefhpdcafdhcaaaDoor.A
end
section
namespace Go.Proofs.YtefhpdcafdhcaaaDoor.B
open Go Go.RowKit Go.Shelf Go.Proofs.YtefhpdcafdhcaaaDoorW.PrintWords Go.Proofs.YtefhpdcafdhcaaaDoorW.PrintLast Go.Proofs.YtefhpdcafdhcaaaDoorW.PrintMore Go.Proofs.YtefhpdcafdhcaaaDoor Go.Proofs.YtefhpdcafdhcaaaDoor.A
theorem new_at {w : World} {g : Nat} (o : Obj) (hg : g = w.heap.size) : (w.alloc o).heap[g]? = some o := by
 subst hg; exact Go.heap_alloc_new _ _
end Go.Proofs.YtefhpdcafdhcaaaDoor.B
end
section
namespace LexM
abbrev By := UInt8
def letter (c : By) : Bool := (decide (97 ≤ c.toNat) && decide (c.toNat ≤ 122)) || (decide (65 ≤ c.toNat) && decide (c.toNat ≤ 90))
def digit (c : By) : Bool := decide (48 ≤ c.toNat) && decide (c.toNat ≤ 57)
def inner (c : By) : Bool := letter c || digit c || c == 95
def words : List (List By) := [[102, 117, 110, 99], [107, 101, 114, 110, 101, 108], [98, 117, 102, 102, 101, 114], [105, 110, 116], [115, 104, 97, 114, 101, 100], [108, 101, 116], [105, 102], [101, 108, 115, 101], [119, 104, 105, 108, 101], [98, 114, 101, 97, 107], [99, 111, 110, 116, 105, 110, 117, 101], [114, 101, 116, 117, 114, 110], [98, 97, 114, 114, 105, 101, 114], [97, 116, 111, 109, 105, 99], [99, 111, 108, 108, 101, 99, 116], [116, 105, 100], [98, 105, 100], [100, 105, 109], [103, 114, 105, 100], [109, 105, 110], [109, 97, 120], [97, 100, 100], [97, 110, 100], [111, 114], [120, 111, 114]]
def isName (l : List By) : Bool := (match l with
 | [] => false
 | c :: _ => letter c) && l.all inner && decide (l.length ≤ 16) && !(words.contains l)
end LexM
end
section
namespace Go.Proofs.YtefhpdcafdhcaaaDoor.B
open Go Go.RowKit Go.Shelf Go.Proofs.YtefhpdcafdhcaaaDoorW.PrintWords Go.Proofs.YtefhpdcafdhcaaaDoorW.PrintLast Go.Proofs.YtefhpdcafdhcaaaDoorW.PrintMore Go.Proofs.YtefhpdcafdhcaaaDoor Go.Proofs.YtefhpdcafdhcaaaDoor.A
open Go.Maps (Keyed)
theorem law : Keyed Tryd.prog 9 := Go.Maps.string_keyed Tryd.underlying9
def wbytes : ByteArray := ⟨([102, 117, 110, 99, 32, 107, 101, 114, 110, 101, 108, 32, 98, 117, 102, 102, 101, 114, 32, 105, 110, 116, 32, 115, 104, 97, 114, 101, 100, 32, 108, 101, 116, 32, 105, 102, 32, 101, 108, 115, 101, 32, 119, 104, 105, 108, 101, 32, 98, 114, 101, 97, 107, 32, 99, 111, 110, 116, 105, 110, 117, 101, 32, 114, 101, 116, 117, 114, 110, 32, 98, 97, 114, 114, 105, 101, 114, 32, 97, 116, 111, 109, 105, 99, 32, 99, 111, 108, 108, 101, 99, 116, 32, 116, 105, 100, 32, 98, 105, 100, 32, 100, 105, 109, 32, 103, 114, 105, 100, 32, 109, 105, 110, 32, 109, 97, 120, 32, 97, 100, 100, 32, 97, 110, 100, 32, 111, 114, 32, 120, 111, 114] : List UInt8).toArray⟩
theorem wfields : (Lib.fields wbytes.data.toList) = LexM.words := by decide +kernel
def WordsD {H : Type} (D : DataW H) (j : Nat) : Prop := ∀ l : List UInt8, D.atKey (.string l) (.lit (.bool false)) = .lit (.bool ((LexM.words.take j).contains l))
theorem wascii : ∀ (j : Nat) b, wbytes.data.toList[j]? = some b → b.toNat < 128 := fun j b h => by
 have : ∀ b ∈ wbytes.data.toList, b.toNat < 128 := by decide +kernel
 exact this b (List.mem_of_getElem? h)
theorem words_calls {H : Type} (w : World) (hT : Tab w) : Calls Tryd.prog 83 #[] w fun e w' => ∃ (mb n : Nat) (D : DataW H), e = .returned (.map (some mb)) ∧ w.heap.size ≤ mb ∧ w'.ownsMap Tryd.prog 9 (plainElem Tryd.prog 4) mb n D ∧ WordsD D 25 ∧ Below w.heap.size w w' := by
 have cF := fields_calls wbytes (w.alloc (.map #[] 0)) (by decide) wascii (hT.below (below_alloc (Below.refl _ _) _))
 rw [wfields, show LexM.words.length = 25 from rfl] at cF; have hmm := @run_makeMap Tryd.prog; go_enter Tryd.func83, Tryd.ntmps83
 go_wp2_with (first | (go_at_call 90; refine cF.mono ?_; rintro e w' ⟨rfl, rfl⟩))
 clear cF hmm; go_loopg [7] 25 (fun g q wx => ∃ (j : Nat) (D : DataW H), j + g = 25 ∧ q = .int .i64 j ∧ Aside0 (WordsD D j) ∧ Aside0 (wx.ownsMap Tryd.prog 9 (plainElem Tryd.prog 4) w.heap.size j D) ∧ Aside0 (((w.alloc (.map #[] 0)).alloc (.cells (LexM.words.map fun l => Value.string ⟨l.toArray⟩).toArray 9)).grownBy wx (some w.heap.size)))
 case atStart => exact ⟨0, .map [], by omega, rfl, ⟨fun l => rfl⟩, ⟨(World.ownsMap_made _ _ _ _).alloc _⟩, ⟨World.grownBy.refl _ _⟩⟩
 case round => (
 obtain ⟨j, D, hj, rfl, HD, HM, HG⟩ := hrel; cases gk with
 | zero => (
 obtain rfl : j = 25 := by omega
 go_wp2
 go_ret
 refine ⟨w.heap.size, rfl, Nat.le_refl _, ?_⟩
 exact ⟨25, D, HM.out, HD.out, (below_alloc (below_alloc (Below.refl _ _) _) _).grown HG.out (by simp; omega) (fun k hk => by injection hk with hk; omega)⟩)
 | succ gk => (
 have hjl : j < 25 := by omega
 obtain ⟨l, hl⟩ : ∃ l : List UInt8, l = LexM.words[j]'(show j < LexM.words.length from hjl) := ⟨_, rfl⟩; obtain ⟨x, hx⟩ : ∃ x : ByteArray, x = ⟨l.toArray⟩ := ⟨_, rfl⟩; have hcell : wr.cell? ⟨w.heap.size + 1, j, none⟩ = some (.string x) := by {
 refine cell_grown HG.out ((blk_cell (new_at _ (by simp)) j).trans ?_) (by simp)
 rw [hx, hl]; rw [List.getElem?_toArray, List.getElem?_map, List.getElem?_eq_getElem (show j < LexM.words.length from hjl)]; rfl}
 have hxl : x.data.toList = l := by rw [hx]
 have hxs : x.size ≤ maxLen := by {
 have h1 : ∀ l ∈ LexM.words, l.length ≤ 10 := by decide
 have y := h1 l (hl ▸ List.getElem_mem (show j < LexM.words.length from hjl)); rw [← hxl, data_length] at y; unfold maxLen; omega}
 have hkey : keyOf Tryd.prog 9 (.string x) = some (.string x.data.toList) := Go.WideMaps.keyOf_string_mk Tryd.underlying9 hxs
 clear hx; go_wp2_with (first | (at_mapUpdate; refine wpList_mapUpdate_own _ rfl _ _ _ 108 rfl 9 4 law Tryd.underlying108 _ w.heap.size j _ rfl HM.out (by unfold maxLen; omega) _ _ _ rfl rfl hkey _ [] (plainElem_bool Tryd.underlying4 true) ?_; intro w1 b p))
 go_roundg gk
 case rel => (
 refine ⟨j + 1, _, by omega, by go_num, ⟨fun l' => ?_⟩, ⟨b⟩, ⟨HG.out.trans p⟩⟩
 have ht : LexM.words.take (j + 1) = LexM.words.take j ++ [l] := by rw [List.take_succ_eq_append_getElem (show j < LexM.words.length from hjl), hl]
 have hKl : WideAt.IsKeyLit (.string x.data.toList) := law.key hkey
 by_cases e : l' = l
 ·subst e; rw [ht, ← hxl, Maps.atKey_put_same HM.out.isMap hKl]; simp
 {
 have z : (Lit.string l') ≠ Lit.string x.data.toList := fun h => e (by rw [hxl] at h; injection h)
 rw [Maps.atKey_put_other z, HD.out l', ht]; simp [e]})
 case measure => omega))
end Go.Proofs.YtefhpdcafdhcaaaDoor.B
end
section
namespace Go.Proofs.YtefhpdcafdhcaaaDoor.B
open Go Go.RowKit Go.Proofs.YtefhpdcafdhcaaaDoorW.PrintWords Go.Proofs.YtefhpdcafdhcaaaDoor Go.Proofs.YtefhpdcafdhcaaaDoor.A
def lex_isWord.f (b : ByteArray) : Option Bool := if b.size ≤ maxLen then some (LexM.words.contains b.data.toList) else none
theorem look_word {H : Type} {w : World} {mb n : Nat} {D : DataW H} (hown : w.ownsMap Tryd.prog 9 (plainElem Tryd.prog 4) mb n D) (hD : WordsD D 25) (s : ByteArray) (hs : s.size ≤ maxLen) :
  (Instr.lookup 108 (.map (some mb)) (.string s) false).run Tryd.prog w = .ok (.bool (LexM.words.contains s.data.toList)) w := by
 obtain ⟨v, ps, hrun, hv⟩ := hown.lookup law Tryd.underlying108 (z := .bool false) rfl (plainElem_bool Tryd.underlying4 false) (Go.WideMaps.keyOf_string_mk Tryd.underlying9 hs); rw [hD] at hv; rw [show LexM.words.take 25 = LexM.words from rfl] at hv; rw [hrun]; congr 1
 unfold plainElem at hv
 cases v <;> simp_all
def Known (w : World) (mb : Nat) : Prop := ∃ (n : Nat) (D : DataW Unit), w.ownsMap Tryd.prog 9 (plainElem Tryd.prog 4) mb n D ∧ WordsD D 25
theorem words_known (w : World) (hT : Tab w) : Calls Tryd.prog 83 #[] w fun e w' => ∃ mb : Nat, e = .returned (.map (some mb)) ∧ w.heap.size ≤ mb ∧ Known w' mb ∧ Below w.heap.size w w' :=
 (words_calls (H := Unit) w hT).mono fun _ _ ⟨mb, n, D, he, hl, ho, hD, hb⟩ => ⟨mb, he, hl, ⟨n, D, ho, hD⟩, hb⟩
end Go.Proofs.YtefhpdcafdhcaaaDoor.B
namespace Go.Proofs.YtefhpdcafdhcaaaDoor.B
open Go Go.RowKit Go.Proofs.YtefhpdcafdhcaaaDoorW.PrintWords Go.Proofs.YtefhpdcafdhcaaaDoor Go.Proofs.YtefhpdcafdhcaaaDoor.A
def lex_words.f : Option Int := some 0
end Go.Proofs.YtefhpdcafdhcaaaDoor.B
namespace Go.Proofs.YtefhpdcafdhcaaaDoor.B
open Go Go.RowKit Go.Proofs.YtefhpdcafdhcaaaDoorW.PrintWords Go.Proofs.YtefhpdcafdhcaaaDoor Go.Proofs.YtefhpdcafdhcaaaDoor.A
theorem known_run {w : World} {mb : Nat} (hk : Known w mb) (s : ByteArray) {b : Bool} (hb : lex_isWord.f s = some b) : (Instr.lookup 108 (.map (some mb)) (.string s) false).run Tryd.prog w = .ok (.bool b) w := by
 unfold lex_isWord.f at hb
 by_cases hs : s.size ≤ maxLen
 case neg => rw [if_neg hs] at hb; cases hb
 rw [if_pos hs] at hb; obtain rfl := Option.some.inj hb; obtain ⟨n, D, ho, hD⟩ := hk; exact look_word ho hD s hs
end Go.Proofs.YtefhpdcafdhcaaaDoor.B
end
