/- Texts of this claim, cut down to what its theorem uses and laid end to end (wip/shake.py). -/
import Derived.Test.YtefhpdcafdhcaaaDoorKA1
set_option maxHeartbeats 16000000
set_option maxRecDepth 100000
set_option exponentiation.threshold 3000
section
namespace Go.Proofs.YtefhpdcafdhcaaaDoor.A
open Go.RowKit Go.Proofs.YtefhpdcafdhcaaaDoorW.PrintWords Go.Proofs.YtefhpdcafdhcaaaDoorW.PrintLast Go.Proofs.YtefhpdcafdhcaaaDoorW.PrintMore
attribute [local go_sem] max2_int max_two
set_option linter.unusedVariables false
set_option linter.unusedSimpArgs false
def r6_ends.l0 : Nat → List Int → Int → ByteArray → List (S83) → List (S85) → Int → List (S69) → List (S71) → Int → Int → Int → Int → Option (Bool)
 | 0, _, _, _, _, _, _, _, _, _, _, _, _ => none
 | k + 1, G, F, B, C, D, q, y, E, l, b, z, p => if F < (G.length : Int) then (if 0 ≤ F then (if (rd G F) < 1 then (some false) else (if (rd G F) ≥ (y.length : Int) then (some false) else (r6_ends.l0 k G (wrap64 (F + 1)) B C D q y E l b z p))) else (none)) else (if l = 0 then (if b = 0 then (some (p == 0)) else (some false)) else (if l = 1 then (if b ≥ 0 then (some (decide (b < q))) else (some false)) else (if l = 2 then (if b = 0 then (if z = 0 then (some (p == 0)) else (some false)) else (some false)) else (some false))))
def r6_ends.f (k : Nat) (z : ByteArray) (B : List (S83)) (C : List (S85)) (D : Int) (E : List (S69)) (b : List (S71)) (l : Int) (p : Int) (q : Int) (y : Int) : Option (Bool) := (r6_Next.f b l p q y).bind fun F => (r6_ends.l0 k F 0 z B C D E b l p q y)
theorem r6_ends.calls {k : Nat} {b5 : ByteArray} {c3 : Option Addr} {c4 : Nat} {G : List (S83)} {c6 : Option Addr} {c8 : Nat} {I : List (S85)} {b6 : Int} {c9 : Option Addr} {d0 : Nat} {J : List (S69)} {d1 : Option Addr} {d2 : Nat} {F : List (S71)} {L : Int} {M : Int} {N : Int} {O : Int} {r : Bool} {w : World} (g3 : q5 w c3 c4 G c6 c8 I c9 d0 J) (g9 : Kd.C k71 w d1 F.length F) (i0 : F.length ≤ d2) (h : r6_ends.f k b5 G I b6 J F L M N O = some r) :
  Calls Tryd.prog 46 #[.agg #[.string b5, .slice c3 G.length c4, .slice c6 I.length c8, .int .i64 b6, .slice c9 J.length d0], .agg #[.slice d1 F.length d2, .int .i64 L, .int .i64 M, .int .i64 N, .int .i64 O]] w fun e w' => e = .returned (.bool r) ∧ Below w.heap.size w w' := by
 have o4 := Tryd.underlying26; have p8 := Tryd.underlying69; have d3 := a_ g9; have d4 := a_ i0; clear g9 i0; have E := a_ (Below.refl w.heap.size w); have H : ((r6_Next.f F L M N O).bind fun b8 => (r6_ends.l0 k b8 0 b5 G I b6 J F L M N O)) = some r := h
 clear h; replace H := q_bd H; obtain ⟨b8, j9, H⟩ := H; have A3 := a_ j9; clear j9; have H' := a_ H
 clear H; go_enter Tryd.func46, Tryd.ntmps46
 go_wp2_with (first | ((with_reducible refine gd_ 2 rfl ?_); (try (refine gate_guard (by rfl) ?_; dsimp only)); refine q_box 2 26 #[.string b5, .slice c3 G.length c4, .slice c6 I.length c8, .int .i64 b6, .slice c9 J.length d0] ?_; intro d5 hg w4 D hb; have q := a_ D; have i1 := a_ (q_ge E.out hg); have p := a_ (q_ge E.out hg); replace E := a_ (q_st E.out hb); clear hb D hg) | ((with_reducible refine gd_ 3 rfl ?_); (try (refine gate_guard (by rfl) ?_; dsimp only)); refine q_box 3 69 #[.slice d1 F.length d2, .int .i64 L, .int .i64 M, .int .i64 N, .int .i64 O] ?_; intro d6 hg k0 D hb; have y := a_ D; have i2 := a_ (q_ge1 E.out hg p.out); have B := a_ (q_ge1 E.out hg p.out); have b := a_ (q_ne q.out hg); have l := a_ (q_en q.out hg); replace q := a_ (q_bk q.out hb); replace E := a_ (q_st1 E.out hb p.out); clear hb D hg; have d8 := l.out; have d9 := b.out; obtain ⟨S, T, U, V, X, a0, a1, a2, a3, a4⟩ := q_cf5 y.out) | (go_at_call 56; (with_reducible refine (r6_Next.calls (q_C (Kd.C_below d3.out E.out)) d4.out A3.out).mono ?_); rintro e k2 ⟨i3, rfl, e2, hb⟩; have d7 := a_ (Kd.R_lower e2 (below_size (q_w2 E.out p.out B.out))); replace q := a_ (q_bk q.out hb); replace y := a_ (q_bk y.out hb); replace E := a_ (q_st2 E.out hb p.out B.out); clear hb e2))
 repeat (go_quiet (first | ((with_reducible refine gd_ 2 rfl ?_); (try (refine gate_guard (by rfl) ?_; dsimp only)); refine q_box 2 26 #[.string b5, .slice c3 G.length c4, .slice c6 I.length c8, .int .i64 b6, .slice c9 J.length d0] ?_; intro d5 hg w4 D hb; have q := a_ D; have i1 := a_ (q_ge E.out hg); have p := a_ (q_ge E.out hg); replace E := a_ (q_st E.out hb); clear hb D hg) | ((with_reducible refine gd_ 3 rfl ?_); (try (refine gate_guard (by rfl) ?_; dsimp only)); refine q_box 3 69 #[.slice d1 F.length d2, .int .i64 L, .int .i64 M, .int .i64 N, .int .i64 O] ?_; intro d6 hg k0 D hb; have y := a_ D; have i2 := a_ (q_ge1 E.out hg p.out); have B := a_ (q_ge1 E.out hg p.out); have b := a_ (q_ne q.out hg); have l := a_ (q_en q.out hg); replace q := a_ (q_bk q.out hb); replace E := a_ (q_st1 E.out hb p.out); clear hb D hg; have d8 := l.out; have d9 := b.out; obtain ⟨S, T, U, V, X, a0, a1, a2, a3, a4⟩ := q_cf5 y.out) | (go_at_call 56; (with_reducible refine (r6_Next.calls (q_C (Kd.C_below d3.out E.out)) d4.out A3.out).mono ?_); rintro e k2 ⟨i3, rfl, e2, hb⟩; have d7 := a_ (Kd.R_lower e2 (below_size (q_w2 E.out p.out B.out))); replace q := a_ (q_bk q.out hb); replace y := a_ (q_bk y.out hb); replace E := a_ (q_st2 E.out hb p.out B.out))); try go_wp2_with (first | ((with_reducible refine gd_ 2 rfl ?_); (try (refine gate_guard (by rfl) ?_; dsimp only)); refine q_box 2 26 #[.string b5, .slice c3 G.length c4, .slice c6 I.length c8, .int .i64 b6, .slice c9 J.length d0] ?_; intro d5 hg w4 D hb; have q := a_ D; have i1 := a_ (q_ge E.out hg); have p := a_ (q_ge E.out hg); replace E := a_ (q_st E.out hb); clear hb D hg) | ((with_reducible refine gd_ 3 rfl ?_); (try (refine gate_guard (by rfl) ?_; dsimp only)); refine q_box 3 69 #[.slice d1 F.length d2, .int .i64 L, .int .i64 M, .int .i64 N, .int .i64 O] ?_; intro d6 hg k0 D hb; have y := a_ D; have i2 := a_ (q_ge1 E.out hg p.out); have B := a_ (q_ge1 E.out hg p.out); have b := a_ (q_ne q.out hg); have l := a_ (q_en q.out hg); replace q := a_ (q_bk q.out hb); replace E := a_ (q_st1 E.out hb p.out); clear hb D hg; have d8 := l.out; have d9 := b.out; obtain ⟨S, T, U, V, X, a0, a1, a2, a3, a4⟩ := q_cf5 y.out) | (go_at_call 56; (with_reducible refine (r6_Next.calls (q_C (Kd.C_below d3.out E.out)) d4.out A3.out).mono ?_); rintro e k2 ⟨i3, rfl, e2, hb⟩; have d7 := a_ (Kd.R_lower e2 (below_size (q_w2 E.out p.out B.out))); replace q := a_ (q_bk q.out hb); replace y := a_ (q_bk y.out hb); replace E := a_ (q_st2 E.out hb p.out B.out))))
 go_loopg [6] k (fun kq n1 w' => ∃ (z : Int), n1 = .int .i64 z ∧ Aside0 (r6_ends.l0 kq b8 z b5 G I b6 J F L M N O = some r) ∧ Aside0 (kq ≤ k) ∧ Aside0 (Kd.R (Kd.int .i64) 3 w' w.heap.size (fun _ => True) i3 b8) ∧ Aside0 (w'.heap[d5]? = some (.cells #[.string b5, (.slice c3 G.length c4), (.slice c6 I.length c8), .int .i64 b6, (.slice c9 J.length d0)] 26 (0, 0))) ∧ Aside0 (w'.heap[d6]? = some (.cells #[(.slice d1 F.length d2), .int .i64 L, .int .i64 M, .int .i64 N, .int .i64 O] 69 (0, 0))) ∧ Aside0 (Below w.heap.size w w'))
 case atStart => exact ⟨(0), q_r, H', ⟨Nat.le_refl _⟩, ⟨q_R d7.out⟩, ⟨q_k q.out⟩, ⟨q_k y.out⟩, ⟨q_w2 E.out p.out B.out⟩⟩
 case round => (
 clear H'; clear S T U V X a0 a1 a2 a3 a4; obtain ⟨z, rfl, HA, n2, HO_5, q, y, E⟩ := hrel; cases gk with
 | zero => exact absurd HA.out (by simp [r6_ends.l0])
 | succ k1 => (
 have H := HA.out; clear HA; simp only [r6_ends.l0] at H
 rcases q_ite H with ⟨c9b0, H⟩ | ⟨c9b0, H⟩
 {
 replace H := q_gD H; obtain ⟨-, c10b0, H⟩ := H; rcases q_ite H with ⟨c11b0, H⟩ | ⟨c11b0, H⟩
 {
 obtain rfl := q_so H; obtain ⟨i4, i5, b9⟩ := Kd.R_slice HO_5.out; subst b9; have b7 : 0 ≤ (z : Int) := q_d
 have c0 : z < (b8.length : Int) := q_d
 obtain ⟨i6, i7, i8⟩ := Kd.at_int (Kd.R_reads' HO_5.out).2.2 z b7 c0; cases i7; replace b7 := eq_true b7; replace c0 := eq_true c0; go_wp2
 repeat (go_quiet (fail); try go_wp2)
 go_ret
 exact ⟨q_e, q_w2 E.out p.out B.out⟩}
 {
 rcases q_ite H with ⟨c13b0, H⟩ | ⟨c13b0, H⟩
 focus (
 obtain rfl := q_so H; obtain ⟨i4, i5, b9⟩ := Kd.R_slice HO_5.out; subst b9; have b7 : 0 ≤ (z : Int) := q_d)
 rotate_left
 focus (
 have H' := a_ H
 clear H; obtain ⟨i4, i5, b9⟩ := Kd.R_slice HO_5.out; subst b9; have b7 : 0 ≤ (z : Int) := q_d)
 all_goals (
 have c0 : z < (b8.length : Int) := q_d
 obtain ⟨i6, i7, i8⟩ := Kd.at_int (Kd.R_reads' HO_5.out).2.2 z b7 c0; cases i7; replace b7 := eq_true b7; replace c0 := eq_true c0; have i9 : 0 ≤ (z : Int) := q_d
 have j3 : z < (b8.length : Int) := q_d
 obtain ⟨k3, n3, n4⟩ := Kd.at_int (Kd.R_reads' HO_5.out).2.2 z i9 j3; obtain rfl : i6 = k3 := (by injection n3)
 replace i9 := eq_true i9; replace j3 := eq_true j3; have e0 := b.out; have e1 := l.out; obtain ⟨a5, a6, a7, a8, a9, b0, b1, b2, b3, b4⟩ := q_cf5 q.out; go_wp2)
 {
 repeat (go_quiet (fail); try go_wp2)
 go_roundg k1
 case measure => have := n2.out; omega
 case rel => exact ⟨(wrap64 (z + 1)), q_r, H', ⟨by have := n2.out; omega⟩, ⟨q_R HO_5.out⟩, ⟨q_k q.out⟩, ⟨q_k y.out⟩, ⟨q_w2 E.out p.out B.out⟩⟩}
 {
 repeat (go_quiet (fail); try go_wp2)
 go_ret
 exact ⟨q_e, q_w2 E.out p.out B.out⟩}}}
 {
 replace H := q_iBN H; rcases H with ⟨-, c20b0, c20b1, H⟩ | ⟨q0, c20b0, c20b1, H⟩
 {
 replace H := q_iBN H; rcases H with ⟨-, c21b0, c21b1, H⟩ | ⟨n5, c21b0, c21b1, H⟩
 focus (
 obtain rfl := q_so H; obtain ⟨j5, j6, c1⟩ := Kd.R_slice HO_5.out; subst c1; have e0 := l.out; have e1 := b.out; obtain ⟨a5, a6, a7, a8, a9, b0, b1, b2, b3, b4⟩ := q_cf5 y.out; go_wp2)
 rotate_left
 focus (
 obtain rfl := q_so H; obtain ⟨j5, j6, c1⟩ := Kd.R_slice HO_5.out; subst c1; have n8 := l.out; have n9 := b.out; obtain ⟨e3, e4, e5, e6, e7, e8, e9, f0, f1, f2⟩ := q_cf5 y.out; go_wp2)
 all_goals (
 repeat (go_quiet (fail); try go_wp2)
 go_ret
 exact ⟨q_e, q_w2 E.out p.out B.out⟩)}
 {
 replace H := q_iBN H; rcases H with ⟨-, c28b0, c28b1, H⟩ | ⟨n5, c28b0, c28b1, H⟩
 {
 rcases q_ite H with ⟨c29b0, H⟩ | ⟨c29b0, H⟩
 focus (
 obtain rfl := q_so H; obtain ⟨p2, p3, k4⟩ := Kd.R_slice HO_5.out; subst k4; have o0 := l.out; have o1 := b.out; obtain ⟨e3, e4, e5, e6, e7, e8, e9, f0, f1, f2⟩ := q_cf5 y.out; obtain ⟨a5, a6, a7, a8, a9, b0, b1, b2, b3, b4⟩ := q_cf5 q.out; go_wp2)
 rotate_left
 focus (
 obtain rfl := q_so H; obtain ⟨j5, j6, c1⟩ := Kd.R_slice HO_5.out; subst c1; have e0 := l.out; have e1 := b.out; obtain ⟨a5, a6, a7, a8, a9, b0, b1, b2, b3, b4⟩ := q_cf5 y.out; go_wp2)
 all_goals (
 repeat (go_quiet (fail); try go_wp2)
 go_ret
 exact ⟨q_e, q_w2 E.out p.out B.out⟩)}
 {
 replace H := q_iBN H; rcases H with ⟨-, c37b0, c37b1, H⟩ | ⟨q1, c37b0, c37b1, H⟩
 {
 replace H := q_iBN H; rcases H with ⟨-, c38b0, c38b1, H⟩ | ⟨q2, c38b0, c38b1, H⟩
 {
 replace H := q_iBN H; rcases H with ⟨-, c39b0, c39b1, H⟩ | ⟨q3, c39b0, c39b1, H⟩
 all_goals (
 obtain rfl := q_so H; obtain ⟨p4, p5, k5⟩ := Kd.R_slice HO_5.out; subst k5; have o2 := l.out; have o3 := b.out; obtain ⟨k7, k8, k9, l4, l5, l6, l7, l8, l9, n0⟩ := q_cf5 y.out; go_wp2
 repeat (go_quiet (fail); try go_wp2)
 go_ret
 exact ⟨q_e, q_w2 E.out p.out B.out⟩)}
 {
 obtain rfl := q_so H; obtain ⟨q4, q5, n6⟩ := Kd.R_slice HO_5.out; subst n6; have j7 := l.out; have j8 := b.out; obtain ⟨f3, f4, f5, f6, f7, f8, f9, g0, g1, g2⟩ := q_cf5 y.out; go_wp2
 repeat (go_quiet (fail); try go_wp2)
 go_ret
 exact ⟨q_e, q_w2 E.out p.out B.out⟩}}
 {
 obtain rfl := q_so H; obtain ⟨p6, p7, k6⟩ := Kd.R_slice HO_5.out; subst k6; have j7 := l.out; have j8 := b.out; obtain ⟨f3, f4, f5, f6, f7, f8, f9, g0, g1, g2⟩ := q_cf5 y.out; go_wp2
 repeat (go_quiet (fail); try go_wp2)
 go_ret
 exact ⟨q_e, q_w2 E.out p.out B.out⟩}}}}))
mutual
def r6_reached.l0 : Nat → List Bool → List Int → ByteArray → List (S83) → List (S85) → Int → List (S69) → Option (List Bool)
 | 0, _, _, _, _, _, _, _ => none
 | k + 1, C, z, l, p, q, y, b => if (z.length : Int) > 0 then (if 0 < (z.length : Int) then (if 0 ≤ (rd z 0) then (if (rd z 0) < (b.length : Int) then ((r6_Next.f ((rd_T69 b (rd z 0)).f0) ((rd_T69 b (rd z 0)).f1) ((rd_T69 b (rd z 0)).f2) ((rd_T69 b (rd z 0)).f3) ((rd_T69 b (rd z 0)).f4)).bind fun E => (if 1 ≤ (z.length : Int) then (r6_reached.l1 k C (z.drop (1 : Int).toNat) E 0 l p q y b) else (none))) else (none)) else (none)) else (none)) else (some C)
def r6_reached.l1 : Nat → List Bool → List Int → List Int → Int → ByteArray → List (S83) → List (S85) → Int → List (S69) → Option (List Bool)
 | 0, _, _, _, _, _, _, _, _, _ => none
 | k + 1, C, z, D, B, l, p, q, y, b => if B < (D.length : Int) then (if 0 ≤ B then (if 0 ≤ (rd D B) then (if (rd D B) < (C.length : Int) then (if (rdOf false C (rd D B) = true) then (r6_reached.l1 k C z D (wrap64 (B + 1)) l p q y b) else (if z.length < 17592186044416 then (r6_reached.l1 k (C.set ((rd D B) : Int).toNat true) (z ++ [rd D B]) D (wrap64 (B + 1)) l p q y b) else (none))) else (none)) else (none)) else (none)) else (r6_reached.l0 k C z l p q y b)
end
def r6_reached.f (k : Nat) (p : ByteArray) (q : List (S83)) (y : List (S85)) (z : Int) (b : List (S69)) : Option (List Bool) := if 0 ≤ (b.length : Int) then (if ((b.length : Int) : Int).toNat ≤ 281474976710656 then ((some (List.replicate ((b.length : Int) : Int).toNat false : List Bool)).bind fun l => (if 0 < (l.length : Int) then (r6_reached.l0 k (l.set (0 : Int).toNat true) (([0] : List Int)) p q y z b) else (none))) else (none)) else (none)
def r6_reached.T5 : Bool × List (List Nat × List Nat) := (true, [([], []), ([0], [0]), ([], []), ([2], [2]), ([3], [3]), ([1, 4], [1, 4]), ([5], [5]), ([6], [6]), ([7, 7, 0, 1, 2, 3, 4, 5, 6, 7], [7])])
def r6_reached.B5 : List Nat := [0, 1, 0, 4, 12, 31, 63, 127, 255]
theorem r6_reached.tab5 : rtab .any (opsOf Tryd.f48 5) = r6_reached.T5 := by kernel_rfl
theorem r6_reached.bits5 : waitsOk r6_reached.T5.2 r6_reached.B5 = true := by kernel_rfl
theorem r6_reached.calls {k : Nat} {I : ByteArray} {a7 : Option Addr} {a8 : Nat} {F : List (S83)} {a9 : Option Addr} {b0 : Nat} {G : List (S85)} {J : Int} {d1 : Option Addr} {b1 : Nat} {q : List (S69)} {r : List Bool} {w : World} (i0 : q5 w a7 a8 F a9 b0 G d1 b1 q) (h : r6_reached.f k I F G J q = some r) :
  Calls Tryd.prog 48 #[.agg #[.string I, .slice a7 F.length a8, .slice a9 G.length b0, .int .i64 J, .slice d1 q.length b1]] w fun e w' => ∃ r4 : Value, e = .returned (r4) ∧ Kd.R Kd.bool 4 w' w.heap.size (fun _ => True) r4 r ∧ Below w.heap.size w w' := by
 obtain ⟨_, _, _, _, p1, _⟩ := q_O i0; have w9 := Tryd.underlying26; have x0 := Tryd.underlying69; have T := a_ (Below.refl w.heap.size w); have H : (if 0 ≤ (q.length : Int) then (if ((q.length : Int) : Int).toNat ≤ 281474976710656 then ((some (List.replicate ((q.length : Int) : Int).toNat false : List Bool)).bind fun a0 => (if 0 < (a0.length : Int) then (r6_reached.l0 k (a0.set (0 : Int).toNat true) (([0] : List Int)) I F G J q) else (none))) else (none)) else (none)) = some r := h
 clear h; replace H := q_gED H; obtain ⟨-, c2b0, c2b1, H⟩ := H; replace H := q_gED H; obtain ⟨-, c3b0, c3b1, H⟩ := H; obtain ⟨a0, e2⟩ : ∃ y_ : List Bool, y_ = (List.replicate ((q.length : Int) : Int).toNat false) := ⟨_, rfl⟩; replace H : (if 0 < (a0.length : Int) then (r6_reached.l0 k (a0.set (0 : Int).toNat true) (([0] : List Int)) I F G J q) else (none)) = some r := q_rw e2 H
 have i6 := a_ e2; clear e2; replace H := q_gD H; obtain ⟨c4, c4b0, H⟩ := H; have c4b1 : decide (0 < a0.length) = true := decide_eq_true (by omega)
 clear c4; obtain ⟨f6, e3⟩ : ∃ y_ : List Bool, y_ = (a0.set (0 : Int).toNat true) := ⟨_, rfl⟩; replace H : (r6_reached.l0 k f6 (([0] : List Int)) I F G J q) = some r := q_rw e3 H
 have p2 := a_ e3; clear e3; obtain ⟨o6, e4⟩ : ∃ y_ : List Int, y_ = (([0] : List Int)) := ⟨_, rfl⟩; replace H : (r6_reached.l0 k f6 o6 I F G J q) = some r := q_rw e4 H
 have i7 := a_ e4; clear e4; have H' := a_ H
 clear H; go_enter Tryd.func48, Tryd.ntmps48
 go_wp2_with (first | ((with_reducible refine gd_ 1 rfl ?_); refine q_box 1 26 #[.string I, .slice a7 F.length a8, .slice a9 G.length b0, .int .i64 J, .slice d1 q.length b1] ?_; intro b2 hg w6 o7 hb; have l := a_ o7; have v7 := a_ (q_ge T.out hg); have L := a_ (q_ge T.out hg); replace T := a_ (q_st T.out hb); clear hb o7 hg; obtain ⟨n3, n4, n5, n6, n7, n8, n9, o0, o1, o2⟩ := q_cf5 l.out) | ((with_reducible refine gd_ 10 rfl ?_); refine Kd.R_make Kd.bool _ 4 rfl (N := 10) rfl 37 _ _ rfl (q.length : Int) rfl rfl Tryd.underlying37 (.bool false) 1 info4 rfl (by decide) (by omega) false (ok := fun _ => True) (okp := fun _ => True) rfl (fun _ hk => hk) trivial (q_d) (Nat.le_trans (Nat.mul_le_mul_right _ (q_d : (q.length : Int).toNat ≤ 281474976710656)) (by omega)) (Below.refl _ _) (Nat.le_refl _) ?_; intro x1 w8 i9 hb hg_ hnew_; clear hg_ hnew_; (first | rw [← i6.out] at i9 | (simp only [Int.reduceToNat] at i9; rw [← i6.out] at i9)); have V := a_ (Kd.R_lower i9 (below_size (q_w1 T.out L.out))); replace l := a_ (q_bk l.out hb); replace T := a_ (q_st1 T.out hb L.out); clear hb i9; have p5 : 0 ≤ (0 : Int) := (by omega); have q5 : (0 : Int) < ((a0.length : Int) : Int) := q_d; have v8 : (0 < a0.length) = True := eq_true (by omega); obtain ⟨b5, g7, r5, r6, v9, y5, r7⟩ := Kd.R_form V.out (by omega); (first | cases r5 | (injection r5 with ea_ en_ ec_; (first | subst ea_ | (injection ea_ with ea_; subst ea_)); subst ec_; clear en_)); have r8 := a_ r6; have y6 := a_ r7; clear r6 v9 r7; obtain ⟨e5, j3⟩ := Kd.R_celln false V.out (0 : Int) p5 q5; (try rw [show ((0 : Int)).toNat = 0 from rfl] at e5); (try simp only [Nat.reduceMul, Nat.zero_mul, Nat.zero_add, Nat.reduceAdd] at e5); (try rw [show ((0 : Int)).toNat = 0 from rfl] at j3); (try simp only [Nat.reduceMul, Nat.zero_mul, Nat.zero_add, Nat.reduceAdd] at j3); replace p5 := eq_true p5; replace q5 := eq_true q5; obtain ⟨j5, j6⟩ := Kd.R_celln false V.out (0 : Int) (by omega) (q_d); (try simp only [Int.reduceToNat, Int.toNat_zero, Int.toNat_ofNat, Nat.reduceMul, Nat.zero_mul, Nat.zero_add] at j5 j6); (try rw [show ((0 : Int)).toNat = 0 from rfl] at j5); (try rw [show ((0 : Int)).toNat = 0 from rfl] at j6); have j7 := Kd.R_putg V.out (0 : Int) true) | ((with_reducible refine gate_store (t := 4) (p := 12) rfl ?_); refine store_event (t := 4) (p := 12) (v := ?vo_w11) (w1 := (w8.setCell ⟨b5, (0 : Int).toNat, none⟩ (.bool true))) ?hg ?ho ?hn ?hr ?_; (case ho => rfl); (case hg => rfl); (case hn => rfl); (case hr => first | (go_simp; done) | (go_simp; rfl)); intro p3 hw; have hg : w8.grownBy p3 (some b5) := (by rw [hw]; exact j7.2); have hp_ : Kd.R Kd.bool 4 p3 w.heap.size (fun _ => True) (.slice (some ⟨b5, 0, none⟩) a0.length g7) f6 := (by rw [hw, p2.out]; exact j7.1); clear j7; replace l := a_ (blk_grown (g := b2) (o := .cells #[.string I, .slice a7 F.length a8, .slice a9 G.length b0, .int .i64 J, .slice d1 q.length b1] 26 (0, 0)) (q_k l.out) hg (Kd.R_ne V.out l.out (by decide))); replace V := a_ hp_; replace T := a_ (by rw [hw]; exact below_set (T.out) r8.out : Below w.heap.size w p3); clear hg hw hp_) | ((with_reducible refine gd_ 13 rfl ?_); refine Kd.R_lit (Kd.int .i64) _ 3 ?hg (N := 13) ?hd (xs := ([0] : List Int)) (inner := [.int .i64 0]) (ok := fun _ => True) (okp := fun _ => True) ?hr ?hp (fun _ hk => hk) trivial (Below.refl _ _) (Nat.le_refl _) (by simp) ?_; (case hd => rfl); (case hg => rfl); (case hr => first | (go_simp; done) | (go_simp; rfl)); (case hp => exact (Reps.one (show Kd.M (Kd.int .i64) _ _ _ 0 [.int .i64 0] from rfl) (Reps.none _ _))); intro x3 y7 d2 hb hg_ hnew_; clear hg_ hnew_; (first | rw [← i7.out] at d2 | (simp only [Int.reduceToNat] at d2; rw [← i7.out] at d2)); have p4 := a_ (Kd.R_lower d2 (below_size (q_w1 T.out L.out))); replace V := a_ (Kd.R_below (q_R V.out) hb); replace l := a_ (q_bk l.out hb); replace T := a_ (q_st1 T.out hb L.out); clear hb d2))
 go_loopg [4] k (fun kq v4 w' => ∃ (c8 : List Bool) (E : List Int), Aside0 (r6_reached.l0 kq c8 E I F G J q = some r) ∧ Aside0 (kq ≤ k) ∧ Aside0 (Kd.R Kd.bool 4 w' w.heap.size (fun _ => True) (.slice (some ⟨b5, 0, none⟩) a0.length g7) c8) ∧ Aside0 (Kd.Q (Kd.int .i64) 3 w' w.heap.size (fun _ => True) v4 E) ∧ Aside0 (w'.heap[b2]? = some (.cells #[.string I, (.slice a7 F.length a8), (.slice a9 G.length b0), .int .i64 J, (.slice d1 q.length b1)] 26 (0, 0))) ∧ Aside0 (Below w.heap.size w w'))
 case atStart => exact ⟨(f6), (o6), H', ⟨Nat.le_refl _⟩, ⟨q_R V.out⟩, ⟨Kd.Q_of_R (q_R p4.out)⟩, ⟨q_k l.out⟩, ⟨q_w1 T.out L.out⟩⟩
 case round => (
 clear H'; clear c2b0 c2b1 c3b0 c3b1 c4b0 c4b1 p5 q5 v8 n3 n4 n5 n6 n7 n8 n9 o0 o1 o2 e5; obtain ⟨c8, E, HA, g8, HO_3, HO_4, l, T⟩ := hrel; have z := (Kd.R_reads' HO_3.out).1; rw [z] at HO_3; (try simp only [z])
 (try simp only [z] at l)
 (try simp only [z] at HO_4)
 cases gk with
 | zero => exact absurd HA.out (by simp [r6_reached.l0])
 | succ k1 => (
 have H := HA.out; clear HA; simp only [r6_reached.l0] at H
 replace H := q_iD H; rcases H with ⟨p6, c14b0, H⟩ | ⟨p6, c14b0, H⟩
 {
 have c14b7 := c14b0; (try simp only [z] at c14b7)
 have c14b1 : decide (0 < E.length) = true := decide_eq_true (by omega)
 clear p6; replace H := q_gD H; obtain ⟨w3, c15b0, H⟩ := H; have c15b7 := c15b0; (try simp only [z] at c15b7)
 have c15b1 : decide (0 < E.length) = true := decide_eq_true (by omega)
 clear w3; replace H := q_gD H; obtain ⟨-, c16b0, H⟩ := H; replace H := q_gD H; obtain ⟨-, c17b0, H⟩ := H; replace H := q_bd H; obtain ⟨B, o8, H⟩ := H; have w4 := a_ o8; clear o8; replace H := q_gED H; obtain ⟨-, c19b0, c19b1, H⟩ := H; obtain ⟨b6, e6⟩ : ∃ y_ : List Int, y_ = (E.drop (1 : Int).toNat) := ⟨_, rfl⟩; replace H : (r6_reached.l1 k1 c8 b6 B 0 I F G J q) = some r := q_rw e6 H
 have j8 := a_ e6; clear e6; have H' := a_ H
 clear H; obtain ⟨x4, f7, r9, _⟩ := Kd.Q_slice HO_4.out; subst r9; try go_wp2
 have j9 := a_ (Kd.R_drew HO_3.out); have k0 := a_ (Kd.Q_drew HO_4.out); have k3 := a_ (blk_drew l.out); have k4 := a_ (below_drew1 T.out); clear HO_3 HO_4 l T; have HO_3 := j9; have HO_4 := k0; have l := k3; have T := k4; clear j9 k0 k3 k4; have f8 : 0 ≤ (0 : Int) := (by omega)
 have f9 : 0 < (E.length : Int) := q_d
 obtain ⟨b3, s0, a1⟩ := Kd.at_int (Kd.Q_reads' HO_4.out).2.2 0 f8 f9; cases s0; have w5 : (0 < E.length) = True := eq_true (by omega)
 (try rw [show ((0 : Int)).toNat = 0 from rfl] at a1)
 (try rw [Addr.add_zero'] at a1)
 replace f8 := eq_true f8; replace f9 := eq_true f9; have g0 : 0 ≤ ((rd E 0) : Int) := q_d
 have g1 : (rd E 0) < (q.length : Int) := q_d
 obtain ⟨b7, g2, g3, s1, a2, a3, a4, a5, a6, d3, d4⟩ := at_T69 p1.out (rd E 0) g0 g1; have d5 := a6; have d6 := a5; have d7 := a4; have d8 := a3; have d9 := a2; cases s1; replace a2 := q_kc T.out a2; replace a3 := q_kc T.out a3; replace a4 := q_kc T.out a4; replace a5 := q_kc T.out a5; replace a6 := q_kc T.out a6; have e0 := a_ d4; have k5 := a_ d3; clear d4 d3; replace g0 := eq_true g0; replace g1 := eq_true g1; refine q_s 9 (S := fun w' => cg5 w' b2 (.string I) (.slice a7 F.length a8) (.slice a9 G.length b0) (.int .i64 J) (.slice (some b7) q.length b1) (w'.cell? b3 = some (.int .i64 (rd E 0)) ∧ cp5_ w' (b7.add (((rd E 0)).toNat * 5)) (.slice g2 ((rd_T69 q (rd E 0)).f0).length g3) (.int .i64 ((rd_T69 q (rd E 0)).f1)) (.int .i64 ((rd_T69 q (rd E 0)).f2)) (.int .i64 ((rd_T69 q (rd E 0)).f3)) (.int .i64 ((rd_T69 q (rd E 0)).f4)))) (q_g5 l.out ⟨a1, (q_kc T.out d9), (q_kc T.out d8), (q_kc T.out d7), (q_kc T.out d6), (q_kc T.out d5)⟩) (fun b4 => ?_); refine with_tabW r6_reached.tab5 r6_reached.bits5 (fun c6 p7 => ?_)
 generalize wr.drew = y8 at HO_3 HO_4 l T e0 a1 a2 a3 a4 a5 a6 b4 ⊢
 refine qv_ 0 c6 ?_
 refine qv_ 2 c6 ?_
 refine qv_ 3 c6 ?_
 refine qt11_ 1 c6 p7 b4 ?_
 refine qt11_ 4 c6 p7 b4 ?_
 refine qv_ 5 c6 ?_
 refine qt11_ 6 c6 p7 b4 ?_
 refine q_o 7 c6 (fun K hK => ?_)
 refine q_go #[.agg #[.slice g2 ((rd_T69 q (rd E 0)).f0).length g3, .int .i64 ((rd_T69 q (rd E 0)).f1), .int .i64 ((rd_T69 q (rd E 0)).f2), .int .i64 ((rd_T69 q (rd E 0)).f3), .int .i64 ((rd_T69 q (rd E 0)).f4)]] Tryd.func56 rfl ?_
 with_reducible refine (r6_Next.calls (q_C (Kd.C_below e0.out T.out)) k5.out w4.out).mono ?_
 rintro e w7 ⟨g4, rfl, p8, hb⟩
 have s2 := q_kc hb (b4.2.2.2.2.2.1); refine ⟨_, rfl, ?_⟩
 have c9 := a_ (Kd.R_lower (Kd.R_new' p8 (Kd.Q_lt (q_Q HO_4.out))) (below_size (q_w1 T.out L.out))); replace HO_3 := a_ (Kd.R_below (q_R HO_3.out) hb); replace HO_4 := a_ (Kd.Q_elder' (q_Q HO_4.out) (Kd.R_base p8) hb); replace l := a_ (q_bk l.out hb); replace T := a_ (q_st1 T.out hb L.out); (clear hb)
 (clear p8)
 refine q_nk hK.out (q_g5 l.out ⟨s2, (q_kc T.out d9), (q_kc T.out d8), (q_kc T.out d7), (q_kc T.out d6), (q_kc T.out d5)⟩) (fun b4 => ?_)
 clear hK K
 refine qv_ 8 c6 ?_
 refine done_ (done_of c6.out (by kernel_rfl)) ?_
 have n_ := a_ (Kd.Q_mono (ok' := (fun k_ => some k_ ≠ (g4 : Value).ownBlock)) HO_4.out (fun k_ hk => hk.2))
 clear HO_4; have HO_4 := n_; clear n_; have o3 : (1 : Int) ≤ ((E.length : Int) : Int) := q_d
 obtain ⟨x5, k6, _, k7, _⟩ := info_parts info3; have o4 := cut_from (P := Tryd.prog) 27 3 .i64 Tryd.underlying27 k6 1 k7 (some b3) E.length f7 1 (by omega) o3
 have e1 := Kd.Q_drop (k := (1 : Int).toNat) HO_4.out (by omega)
 obtain ⟨p9, g5⟩ : ∃ A1, A1 = (if f7 = (1 : Int).toNat then (some b3) else ((some b3) : Option Addr).map (·.add ((1 : Int).toNat * 1))) := ⟨_, rfl⟩
 obtain ⟨q0, k8⟩ : ∃ c1, c1 = f7 - (1 : Int).toNat := ⟨_, rfl⟩; have k9 : b6.length = E.length - (1 : Int).toNat := (by rw [j8.out, List.length_drop])
 rw [← j8.out] at e1; rw [← k9, ← g5, ← k8] at o4; replace e1 : Kd.Q (Kd.int .i64) 3 w7 w.heap.size (fun k_ => some k_ ≠ (g4 : Value).ownBlock) (.slice p9 b6.length q0) b6 := (by rw [g5, k8, k9]; exact e1)
 have s3 : Aside0 ((Value.slice p9 b6.length q0).ownBlock = (.slice (some b3) E.length f7 : Value).ownBlock) := ⟨by rw [g5]; split <;> (cases ((some b3) : Option Addr) <;> rfl)⟩
 clear k9 k6 k7 HO_4 g5 k8; have q1 := a_ e1; clear e1; replace o3 := eq_true o3; have n_ := a_ (Kd.R_mono (ok' := fun k_ => (True ∧ some k_ ≠ (.slice p9 b6.length q0 : Value).ownBlock)) c9.out (fun k_ hk => ⟨trivial, (by rw [s3.out]; exact hk.2)⟩))
 clear c9; have c9 := n_; clear n_; try go_wp2
 go_loopg [4, 6] k1 (fun kq v4 v6 w' => ∃ (U : List Bool) (X : List Int) (y : Int), v6 = .int .i64 y ∧ Aside0 (r6_reached.l1 kq U X B y I F G J q = some r) ∧ Aside0 (kq ≤ k1) ∧ Aside0 (Kd.R Kd.bool 4 w' w.heap.size (fun _ => True) (.slice (some ⟨b5, 0, none⟩) c8.length g7) U) ∧ Aside0 (Kd.Q (Kd.int .i64) 3 w' w.heap.size (fun k_ => some k_ ≠ (g4 : Value).ownBlock) v4 X) ∧ Aside0 (Kd.R (Kd.int .i64) 3 w' w.heap.size (fun k_ => some k_ ≠ (v4 : Value).ownBlock) g4 B) ∧ Aside0 (w'.heap[b2]? = some (.cells #[.string I, (.slice a7 F.length a8), (.slice a9 G.length b0), .int .i64 J, (.slice (some b7) q.length b1)] 26 (0, 0))) ∧ Aside0 (Below w.heap.size w w'))
 case atStart => exact ⟨(c8), (b6), (0), q_r, H', ⟨Nat.le_refl _⟩, ⟨by (try simp only [z]); (with_reducible repeat (first | apply Kd.R_alloc | apply Kd.R_drewN | apply Kd.R_drew)); exact HO_3.out⟩, ⟨by (try simp only [z]); (with_reducible repeat (first | apply Kd.Q_alloc | apply Kd.Q_drewN | apply Kd.Q_drew)); exact q1.out⟩, ⟨by (try simp only [z]); (with_reducible repeat (first | apply Kd.R_alloc | apply Kd.R_drewN | apply Kd.R_drew)); exact Kd.R_mono c9.out (fun _ hk => hk.2)⟩, ⟨by (try simp only [z]); (with_reducible repeat (first | refine blk_drewN ?_ _ | refine blk_drew ?_ | refine blk_alloc ?_ _)); exact l.out⟩, ⟨q_w1 T.out L.out⟩⟩
 case round => (
 clear H'; clear c14b0 c14b1 c15b0 c15b1 c16b0 c17b0 c19b0 c19b1 o3 a1 a2 a3 a4 a5 a6 f8 g0 f9 g1; obtain ⟨U, X, y, rfl, HA, g9, HO_3, HO_4, HO_5, l, T⟩ := hrel; have D := (Kd.R_reads' HO_3.out).1; rw [D] at HO_3; (try simp only [D])
 (try simp only [D] at l)
 (try simp only [D] at HO_4)
 (try simp only [D] at HO_5)
 cases gk with
 | zero => exact absurd HA.out (by simp [r6_reached.l1])
 | succ k2 => (
 have H := HA.out; clear HA; simp only [r6_reached.l1] at H
 replace H := q_iD H; rcases H with ⟨q3, c24b0, H⟩ | ⟨q3, c24b0, H⟩
 {
 have c24b7 := c24b0; (try simp only [z, D] at c24b7)
 clear q3; replace H := q_gD H; obtain ⟨-, c25b0, H⟩ := H; replace H := q_gD H; obtain ⟨-, c26b0, H⟩ := H; replace H := q_gD H; obtain ⟨-, c27b0, H⟩ := H; obtain ⟨o9, e7⟩ : ∃ b_ : Bool, b_ = (rdOf false U (rd B y)) := ⟨_, rfl⟩; replace H : (if (o9 = true) then (r6_reached.l1 k2 U X B (wrap64 (y + 1)) I F G J q) else (if X.length < 17592186044416 then (r6_reached.l1 k2 (U.set ((rd B y) : Int).toNat true) (X ++ [rd B y]) B (wrap64 (y + 1)) I F G J q) else (none))) = some r := by rw [← e7] at H; exact H
 have l4 := a_ e7; clear e7; by_cases o5 : (o9 = true)
 {
 subst o5; rw [if_pos rfl] at H; have H' := a_ H
 clear H; obtain ⟨x6, x7, s4⟩ := Kd.R_slice HO_5.out; subst s4; have b8 : 0 ≤ (y : Int) := q_d
 have b9 : y < (B.length : Int) := q_d
 obtain ⟨d0, l5, l6⟩ := Kd.at_int (Kd.R_reads' HO_5.out).2.2 y b8 b9; cases l5; replace b8 := eq_true b8; replace b9 := eq_true b9; have c0 : 0 ≤ ((rd B y) : Int) := q_d
 have c3 : (rd B y) < (U.length : Int) := q_d
 obtain ⟨e8, l7, O⟩ := Kd.at_bool (Kd.R_reads' HO_3.out).2.2 (rd B y) c0 c3; (try rw [← l4.out] at O)
 obtain rfl : (⟨b5, 0, none⟩ : Addr) = e8 := (by injection l7)
 (first | simp only [add_plain] at O | simp only [add_at] at O | simp only [Addr.add, Nat.zero_add] at O | skip)
 replace c0 := eq_true c0; replace c3 := eq_true c3; go_wp2
 (try simp only [← D])
 go_roundg k2
 case measure => have := g8.out; have := g9.out; omega
 case rel => exact ⟨(U), (X), (wrap64 (y + 1)), q_r, H', ⟨by have := g8.out; have := g9.out; omega⟩, ⟨by (try simp only [z]); (try simp only [D]); (with_reducible repeat (first | apply Kd.R_alloc | apply Kd.R_drewN | apply Kd.R_drew)); exact HO_3.out⟩, ⟨by (try simp only [z]); (try simp only [D]); (with_reducible repeat (first | apply Kd.Q_alloc | apply Kd.Q_drewN | apply Kd.Q_drew)); exact HO_4.out⟩, ⟨by (try simp only [z]); (try simp only [D]); (with_reducible repeat (first | apply Kd.R_alloc | apply Kd.R_drewN | apply Kd.R_drew)); exact HO_5.out⟩, ⟨by (try simp only [z]); (try simp only [D]); (with_reducible repeat (first | refine blk_drewN ?_ _ | refine blk_drew ?_ | refine blk_alloc ?_ _)); exact l.out⟩, ⟨q_w1 T.out L.out⟩⟩}
 {
 replace o5 := q_bf o5; subst o5; replace H := q_if H; obtain ⟨g6, e9⟩ : ∃ y_ : List Bool, y_ = (U.set ((rd B y) : Int).toNat true) := ⟨_, rfl⟩; replace H : (if X.length < 17592186044416 then (r6_reached.l1 k2 g6 (X ++ [rd B y]) B (wrap64 (y + 1)) I F G J q) else (none)) = some r := q_rw e9 H
 have q4 := a_ e9; clear e9; replace H := q_g H; obtain ⟨s5, H⟩ := H; have q6 := a_ s5; clear s5; obtain ⟨p0, f5⟩ : ∃ y_ : List Int, y_ = (X ++ [rd B y]) := ⟨_, rfl⟩; replace H : (r6_reached.l1 k2 g6 p0 B (wrap64 (y + 1)) I F G J q) = some r := q_rw f5 H
 have q7 := a_ f5; clear f5; have H' := a_ H
 clear H; obtain ⟨x8, s6, s7⟩ := Kd.R_slice HO_5.out; subst s7; have b8 : 0 ≤ (y : Int) := q_d
 have b9 : y < (B.length : Int) := q_d
 obtain ⟨d0, l5, l6⟩ := Kd.at_int (Kd.R_reads' HO_5.out).2.2 y b8 b9; cases l5; replace b8 := eq_true b8; replace b9 := eq_true b9; have c0 : 0 ≤ ((rd B y) : Int) := q_d
 have c3 : (rd B y) < (U.length : Int) := q_d
 obtain ⟨e8, l7, O⟩ := Kd.at_bool (Kd.R_reads' HO_3.out).2.2 (rd B y) c0 c3; (try rw [← l4.out] at O)
 obtain rfl : (⟨b5, 0, none⟩ : Addr) = e8 := (by injection l7)
 (first | simp only [add_plain] at O | simp only [add_at] at O | simp only [Addr.add, Nat.zero_add] at O | skip)
 replace c0 := eq_true c0; replace c3 := eq_true c3; have l8 : 0 ≤ (y : Int) := q_d
 have l9 : y < (B.length : Int) := q_d
 obtain ⟨q8, s8, s9⟩ := Kd.at_int (Kd.R_reads' HO_5.out).2.2 y l8 l9; obtain rfl : d0 = q8 := (by injection s8)
 replace l8 := eq_true l8; replace l9 := eq_true l9; have q9 : 0 ≤ ((rd B y) : Int) := q_d
 have r0 : ((rd B y) : Int) < ((U.length : Int) : Int) := q_d
 obtain ⟨t8, t9⟩ := Kd.R_celln false HO_3.out ((rd B y) : Int) q9 r0; replace q9 := eq_true q9; replace r0 := eq_true r0; have n0 := Kd.R_putg HO_3.out ((rd B y) : Int) true; go_wp2_with (first | ((with_reducible refine gate_store (t := 4) (p := 46) rfl ?_); refine store_event (t := 4) (p := 46) (v := ?vo_w35) (w1 := (wr.setCell ⟨b5, ((rd B y) : Int).toNat, none⟩ (.bool true))) ?hg ?ho ?hn ?hr ?_; (case ho => rfl); (case hg => rfl); (case hn => rfl); (case hr => first | (go_simp; done) | (go_simp; rfl)); intro r1 hw; have hg : wr.grownBy r1 (some b5) := (by rw [hw]; exact n0.2); have hp_ : Kd.R Kd.bool 4 r1 w.heap.size (fun _ => True) (.slice (some ⟨b5, 0, none⟩) U.length g7) g6 := (by rw [hw, q4.out]; exact n0.1); clear n0; replace T := a_ (by rw [hw]; exact below_set (T.out) r8.out : Below w.heap.size w r1); replace l := a_ (blk_grown (g := b2) (o := .cells #[.string I, .slice a7 F.length a8, .slice a9 G.length b0, .int .i64 J, .slice (some b7) q.length b1] 26 (0, 0)) (q_k l.out) hg (Kd.R_ne HO_3.out l.out (by decide))); replace HO_5 := a_ (Kd.R_over' (v := (.slice (some ⟨b5, 0, none⟩) U.length g7)) (q_R HO_5.out) (Kd.R_typed HO_3.out) (by decide) hg); replace HO_4 := a_ (Kd.Q_over' (v := (.slice (some ⟨b5, 0, none⟩) U.length g7)) (q_Q HO_4.out) (Kd.R_typed HO_3.out) (by decide) hg); replace HO_3 := a_ hp_; clear hg hw hp_; have n1 : 0 ≤ (y : Int) := q_d; have n2 : y < (B.length : Int) := q_d; obtain ⟨r2, t0, t1⟩ := Kd.at_int (Kd.R_reads' HO_5.out).2.2 y n1 n2; obtain rfl : d0 = r2 := (by injection t0); replace n1 := eq_true n1; replace n2 := eq_true n2) | ((with_reducible refine gate_builtin (b := .append) (xs := #[.tmp 47, .tmp 52]) rfl ?_); at_builtin; refine Kd.Q_append (Kd.int .i64) (w0 := w) w.heap.size rfl (.tmp 47) (.tmp 52) 27 3 (.int .i64 0) 8 rfl Tryd.underlying27 info3 rfl (by decide) (by omega) u4 X (rd B y) [.int .i64 (rd B y)] (fun k_ => some k_ ≠ (.slice (some d0) B.length s6 : Value).ownBlock) (fun _ => False) rfl rfl ?aP (fun _ hk => hk.elim) ?aF ?aO ?aB ?aS ?aL ?_; (case aP => exact rfl); (case aB => exact (q_w1 T.out L.out)); (case aF => exact (fun k_ hk => Kd.fresh' (Kd.R_lt (q_R HO_5.out)) k_ hk)); (case aO => exact (q_Q HO_4.out)); (case aS => exact (below_size (q_w1 T.out L.out))); (case aL => have := q6.out; omega); intro x9 z2 ho hb hg hat; rw [← q7.out] at ho; have j9 := a_ (Kd.R_over' (q_R HO_3.out) (Kd.Q_typed (q_Q HO_4.out)) (by decide) hg); have k0 := a_ (Kd.R_after (ok := (fun _ => True)) (q_R (Kd.R_mono HO_5.out (fun _ hk => ⟨trivial, hk⟩))) hg hat); have k3 := a_ (blk_grown (g := b2) (o := .cells #[.string I, .slice a7 F.length a8, .slice a9 G.length b0, .int .i64 J, .slice (some b7) q.length b1] 26 (0, 0)) (q_k l.out) hg (Kd.Q_ne HO_4.out l.out (by decide))); have k4 := a_ hb; have t2 := a_ ho; clear HO_3; clear HO_5; clear l; clear T; clear HO_4; have HO_3 := j9; have HO_5 := k0; have l := k3; have T := k4; have r3 := t2; clear j9 k0 k3 k4 t2; clear ho hb hg hat))
 (try simp only [← D])
 go_roundg k2
 case measure => have := g8.out; have := g9.out; omega
 case rel => exact ⟨(g6), (p0), (wrap64 (y + 1)), q_r, H', ⟨by have := g8.out; have := g9.out; omega⟩, ⟨by (try simp only [z]); (try simp only [D]); (with_reducible repeat (first | apply Kd.R_alloc | apply Kd.R_drewN | apply Kd.R_drew)); exact HO_3.out⟩, ⟨by (try simp only [z]); (try simp only [D]); (with_reducible repeat (first | apply Kd.Q_alloc | apply Kd.Q_drewN | apply Kd.Q_drew)); exact r3.out⟩, ⟨by (try simp only [z]); (try simp only [D]); (with_reducible repeat (first | apply Kd.R_alloc | apply Kd.R_drewN | apply Kd.R_drew)); exact Kd.R_mono HO_5.out (fun _ hk => hk.2)⟩, ⟨by (try simp only [z]); (try simp only [D]); (with_reducible repeat (first | refine blk_drewN ?_ _ | refine blk_drew ?_ | refine blk_alloc ?_ _)); exact l.out⟩, ⟨q_w1 T.out L.out⟩⟩}}
 {
 have c24b7 := c24b0; (try simp only [z, D] at c24b7)
 clear q3; have H' := a_ H
 clear H; obtain ⟨y0, y1, t3⟩ := Kd.R_slice HO_5.out; subst t3; go_wp2
 (try simp only [← z, ← D])
 go_roundg k2
 case measure => have := g8.out; have := g9.out; omega
 case rel => exact ⟨(U), (X), H', ⟨by have := g8.out; have := g9.out; omega⟩, ⟨by (try simp only [z]); (try simp only [D]); (with_reducible repeat (first | apply Kd.R_alloc | apply Kd.R_drewN | apply Kd.R_drew)); exact HO_3.out⟩, ⟨by (try simp only [z]); (try simp only [D]); (with_reducible repeat (first | apply Kd.Q_alloc | apply Kd.Q_drewN | apply Kd.Q_drew)); exact Kd.Q_mono HO_4.out (fun _ hk => trivial)⟩, ⟨by (try simp only [z]); (try simp only [D]); (with_reducible repeat (first | refine blk_drewN ?_ _ | refine blk_drew ?_ | refine blk_alloc ?_ _)); exact l.out⟩, ⟨q_w1 T.out L.out⟩⟩}))}
 {
 have c14b7 := c14b0; (try simp only [z, D] at c14b7)
 have c14b1 : decide (0 < E.length) = false := decide_eq_false (by omega)
 clear p6; obtain rfl := q_so H; obtain ⟨y2, y3, t4, _⟩ := Kd.Q_slice HO_4.out; subst t4; go_wp2
 go_ret
 exact ⟨_, q_e, q_R HO_3.out, q_w1 T.out L.out⟩}))
def r6_reg.f (l : Bool) (b : Int) (p : Int) : Option (Bool) := if l = true then (if b ≥ 0 then (if b < p then (some true) else (some false)) else (some false)) else (some (b == 0))
theorem r6_reg.calls {p : Bool} {l : Int} {q : Int} {r : Bool} {w : World} (h : r6_reg.f p l q = some r) :
  Calls Tryd.prog 65 #[.bool p, .int .i64 l, .int .i64 q] w fun e w' => e = .returned (.bool r) ∧ Drawn0 w w' := by
 have H : (if p = true then (if l ≥ 0 then (if l < q then (some true) else (some false)) else (some false)) else (some (l == 0))) = some r := h
 clear h; cases p
 {
 replace H := q_if H; obtain rfl := q_so H; go_enter Tryd.func65, Tryd.ntmps65
 go_wp2
 go_ret
 exact ⟨by first | rfl | (simp; done) | (simp [*]; done), by repeat (first | exact Drawn0.refl _ | apply Drawn0.step)⟩}
 {
 rw [if_pos rfl] at H; rcases q_ite H with ⟨c5b0, H⟩ | ⟨c5b0, H⟩
 {
 rcases q_ite H with ⟨c6b0, H⟩ | ⟨c6b0, H⟩
 all_goals (
 obtain rfl := q_so H; go_enter Tryd.func65, Tryd.ntmps65
 go_wp2
 go_ret
 exact ⟨by first | rfl | (simp; done) | (simp [*]; done), by repeat (first | exact Drawn0.refl _ | apply Drawn0.step)⟩)}
 {
 obtain rfl := q_so H; go_enter Tryd.func65, Tryd.ntmps65
 go_wp2
 go_ret
 exact ⟨by first | rfl | (simp; done) | (simp [*]; done), by repeat (first | exact Drawn0.refl _ | apply Drawn0.step)⟩}}
def r1_IsUnary.f (b : Int) : Option (Bool) := if b ≥ 0 then (some (decide (b < 3))) else (some false)
theorem r1_IsUnary.calls {b : Int} {r : Bool} {w : World} (h : r1_IsUnary.f b = some r) :
  Calls Tryd.prog 78 #[.int .i64 b] w fun e w' => e = .returned (.bool r) ∧ Drawn0 w w' := by
 have H : (if b ≥ 0 then (some (decide (b < 3))) else (some false)) = some r := h
 clear h; rcases q_ite H with ⟨c2b0, H⟩ | ⟨c2b0, H⟩
 all_goals (
 obtain rfl := q_so H; go_enter Tryd.func78, Tryd.ntmps78
 go_wp2
 go_ret
 exact ⟨by first | rfl | (simp; done) | (simp [*]; done), by repeat (first | exact Drawn0.refl _ | apply Drawn0.step)⟩)
def r1_IsBinary.f (b : Int) : Option (Bool) := if b ≥ 0 then (some (decide (b < 20))) else (some false)
theorem r1_IsBinary.calls {b : Int} {r : Bool} {w : World} (h : r1_IsBinary.f b = some r) :
  Calls Tryd.prog 79 #[.int .i64 b] w fun e w' => e = .returned (.bool r) ∧ Drawn0 w w' := by
 have H : (if b ≥ 0 then (some (decide (b < 20))) else (some false)) = some r := h
 clear h; rcases q_ite H with ⟨c2b0, H⟩ | ⟨c2b0, H⟩
 all_goals (
 obtain rfl := q_so H; go_enter Tryd.func79, Tryd.ntmps79
 go_wp2
 go_ret
 exact ⟨by first | rfl | (simp; done) | (simp [*]; done), by repeat (first | exact Drawn0.refl _ | apply Drawn0.step)⟩)
def r1_Neutral.j0 : Nat → Int → Bool → Option (Int × Bool)
 | 0, _, _ => none
 | k + 1, b, l => if l = true then (some (0, true)) else (if b = 18 then (some (2147483647, true)) else (if b = 19 then (some ((-2147483648), true)) else (if b = 5 then (some ((-1), true)) else (some (0, false)))))
def r1_Neutral.f (k : Nat) (b : Int) : Option (Int × Bool) := if b = 0 then (r1_Neutral.j0 k b (b == 0)) else (if b = 6 then (r1_Neutral.j0 k b (b == 6)) else (r1_Neutral.j0 k b (b == 7)))
theorem r1_Neutral.calls {k : Nat} {l : Int} {C : Int} {D : Bool} {w : World} (h : r1_Neutral.f k l = some (C, D)) :
  Calls Tryd.prog 89 #[.int .i64 l] w fun e w' => e = .returned (.tuple #[.int .i32 C, .bool D]) ∧ Drawn0 w w' := by
 have H : (if l = 0 then (r1_Neutral.j0 k l (l == 0)) else (if l = 6 then (r1_Neutral.j0 k l (l == 6)) else (r1_Neutral.j0 k l (l == 7)))) = some (C, D) := h
 clear h; have p := a_ H; clear H; go_enter Tryd.func89, Tryd.ntmps89
 go_upto_if 5 with (fail)
 go_cut [5] (fun q wc => ∃ (kq : Nat) (b : Bool), q = .bool b ∧ Aside0 (r1_Neutral.j0 kq l b = some (C, D)) ∧ Aside0 (kq ≤ k) ∧ Drawn0 w wc)
 case first => (
 have H := p.out; clear p; replace H := q_iBN H; rcases H with ⟨-, c3b0, c3b1, H⟩ | ⟨y, c3b0, c3b1, H⟩
 all_goals (
 (first | rw [c3b0] | (simp only [i64_w, i32_w]; rw [c3b0]) | skip))
 {
 have z := a_ H
 clear H; go_wp2
 go_meet
 case rel => exact ⟨_, ((l == 0)), q_r, z, ⟨by first | omega | exact Nat.le_refl _⟩, by repeat (first | exact Drawn0.refl _ | apply Drawn0.step)⟩}
 {
 replace H := q_iBN H; rcases H with ⟨-, c4b0, c4b1, H⟩ | ⟨B, c4b0, c4b1, H⟩
 {
 have z := a_ H
 clear H; go_wp2
 go_meet
 case rel => exact ⟨_, ((l == 6)), q_r, z, ⟨by first | omega | exact Nat.le_refl _⟩, by repeat (first | exact Drawn0.refl _ | apply Drawn0.step)⟩}
 {
 have z := a_ H
 clear H; go_wp2
 go_meet
 case rel => exact ⟨_, ((l == 7)), q_r, z, ⟨by first | omega | exact Nat.le_refl _⟩, by repeat (first | exact Drawn0.refl _ | apply Drawn0.step)⟩}})
 case rest => (
 clear p; obtain ⟨kq, b, rfl, HA, E, ⟨F, rfl⟩⟩ := hcut; cases kq with
 | zero => exact absurd HA.out (by simp [r1_Neutral.j0])
 | succ G => (
 have H := HA.out; clear HA; simp only [r1_Neutral.j0] at H
 cases b
 {
 replace H := q_if H; replace H := q_iBN H; rcases H with ⟨-, c6b0, c6b1, H⟩ | ⟨y, c6b0, c6b1, H⟩
 {
 simp only [Option.some.injEq, Prod.mk.injEq] at H
 obtain ⟨rfl, rfl⟩ := H; go_wp2
 go_ret2
 exact ⟨by first | rfl | (simp; done) | (simp [*]; done), by repeat (first | exact Drawn0.refl _ | apply Drawn0.step)⟩}
 {
 replace H := q_iBN H; rcases H with ⟨-, c7b0, c7b1, H⟩ | ⟨c7, c7b0, c7b1, H⟩
 {
 simp only [Option.some.injEq, Prod.mk.injEq] at H
 obtain ⟨rfl, rfl⟩ := H; go_wp2
 go_ret2
 exact ⟨by first | rfl | (simp; done) | (simp [*]; done), by repeat (first | exact Drawn0.refl _ | apply Drawn0.step)⟩}
 {
 replace H := q_iBN H; rcases H with ⟨-, c8b0, c8b1, H⟩ | ⟨B, c8b0, c8b1, H⟩
 all_goals (
 simp only [Option.some.injEq, Prod.mk.injEq] at H
 obtain ⟨rfl, rfl⟩ := H; go_wp2
 go_ret2
 exact ⟨by first | rfl | (simp; done) | (simp [*]; done), by repeat (first | exact Drawn0.refl _ | apply Drawn0.step)⟩)}}}
 {
 rw [if_pos rfl] at H; simp only [Option.some.injEq, Prod.mk.injEq] at H
 obtain ⟨rfl, rfl⟩ := H; go_wp2
 go_ret2
 exact ⟨by first | rfl | (simp; done) | (simp [*]; done), by repeat (first | exact Drawn0.refl _ | apply Drawn0.step)⟩}))
def r1_Folds.f (k : Nat) (l : Int) : Option (Bool) := (r1_Neutral.f k l).bind fun b => (some b.2)
theorem r1_Folds.calls {k : Nat} {q : Int} {r : Bool} {w : World} (h : r1_Folds.f k q = some r) :
  Calls Tryd.prog 80 #[.int .i64 q] w fun e w' => e = .returned (.bool r) ∧ Drawn0 w w' := by
 have H : ((r1_Neutral.f k q).bind fun b => (some b.2)) = some r := h
 clear h; replace H := q_bd H; obtain ⟨⟨y, l⟩, p, H⟩ := H; replace H : (some l) = some r := H; have z := a_ p; clear p; obtain rfl := q_so H; go_enter Tryd.func80, Tryd.ntmps80
 go_wp2_with (first | ((with_reducible refine gc_ 89 rfl ?_); refine q_gl 7 #[.int .i64 q] Tryd.func89 rfl ?_; (with_reducible refine (r1_Neutral.calls z.out).mono ?_); rintro e w' ⟨rfl, ⟨B, rfl⟩⟩; refine ⟨_, rfl, ?_⟩))
 go_ret
 exact ⟨by first | rfl | (simp; done) | (simp [*]; done), by repeat (first | exact Drawn0.refl _ | apply Drawn0.step)⟩
def r6_Sign.f (k : Nat) (y : Int) (b : Int) : Option (Bool) := if y = 1 then ((r1_IsUnary.f b).bind fun l => (some l)) else (if y = 2 then ((r1_IsBinary.f b).bind fun p => (some p)) else (if y = 3 then (if b ≥ 0 then (some (decide (b < 4))) else (some false)) else (if y = 4 then ((r1_Folds.f k b).bind fun q => (some q)) else (some (b == 0)))))
theorem r6_Sign.calls {k : Nat} {B : Int} {p : Int} {r : Bool} {w : World} (h : r6_Sign.f k B p = some r) :
  Calls Tryd.prog 66 #[.int .i64 B, .int .i64 p] w fun e w' => e = .returned (.bool r) ∧ Drawn0 w w' := by
 have H : (if B = 1 then ((r1_IsUnary.f p).bind fun q => (some q)) else (if B = 2 then ((r1_IsBinary.f p).bind fun y => (some y)) else (if B = 3 then (if p ≥ 0 then (some (decide (p < 4))) else (some false)) else (if B = 4 then ((r1_Folds.f k p).bind fun z => (some z)) else (some (p == 0)))))) = some r := h
 clear h; replace H := q_iBN H; rcases H with ⟨-, c3b0, c3b1, H⟩ | ⟨D, c3b0, c3b1, H⟩
 {
 replace H := q_bd H; obtain ⟨q, l, H⟩ := H; have b := a_ l; clear l; obtain rfl := q_so H; go_enter Tryd.func66, Tryd.ntmps66
 go_wp2_with (first | ((with_reducible refine gc_ 78 rfl ?_); refine q_gl 9 #[.int .i64 p] Tryd.func78 rfl ?_; (with_reducible refine (r1_IsUnary.calls b.out).mono ?_); rintro e w' ⟨rfl, ⟨E, rfl⟩⟩; refine ⟨_, rfl, ?_⟩))
 go_ret
 exact ⟨by first | rfl | (simp; done) | (simp [*]; done), by repeat (first | exact Drawn0.refl _ | apply Drawn0.step)⟩}
 {
 replace H := q_iBN H; rcases H with ⟨-, c5b0, c5b1, H⟩ | ⟨c5, c5b0, c5b1, H⟩
 {
 replace H := q_bd H; obtain ⟨y, l, H⟩ := H; have b := a_ l; clear l; obtain rfl := q_so H; go_enter Tryd.func66, Tryd.ntmps66
 go_wp2_with (first | ((with_reducible refine gc_ 79 rfl ?_); refine q_gl 13 #[.int .i64 p] Tryd.func79 rfl ?_; (with_reducible refine (r1_IsBinary.calls b.out).mono ?_); rintro e w' ⟨rfl, ⟨E, rfl⟩⟩; refine ⟨_, rfl, ?_⟩))
 go_ret
 exact ⟨by first | rfl | (simp; done) | (simp [*]; done), by repeat (first | exact Drawn0.refl _ | apply Drawn0.step)⟩}
 {
 replace H := q_iBN H; rcases H with ⟨-, c7b0, c7b1, H⟩ | ⟨c7, c7b0, c7b1, H⟩
 {
 rcases q_ite H with ⟨c8b0, H⟩ | ⟨c8b0, H⟩
 all_goals (
 obtain rfl := q_so H; go_enter Tryd.func66, Tryd.ntmps66
 go_wp2
 go_ret
 exact ⟨by first | rfl | (simp; done) | (simp [*]; done), by repeat (first | exact Drawn0.refl _ | apply Drawn0.step)⟩)}
 {
 replace H := q_iBN H; rcases H with ⟨-, c9b0, c9b1, H⟩ | ⟨F, c9b0, c9b1, H⟩
 focus (
 replace H := q_bd H; obtain ⟨z, b, H⟩ := H; have C := a_ b; clear b; obtain rfl := q_so H; go_enter Tryd.func66, Tryd.ntmps66
 go_wp2_with (first | ((with_reducible refine gc_ 80 rfl ?_); refine q_gl 25 #[.int .i64 p] Tryd.func80 rfl ?_; (with_reducible refine (r1_Folds.calls C.out).mono ?_); rintro e w' ⟨rfl, ⟨E, rfl⟩⟩; refine ⟨_, rfl, ?_⟩)))
 rotate_left
 focus (
 obtain rfl := q_so H; go_enter Tryd.func66, Tryd.ntmps66
 go_wp2)
 all_goals (
 go_ret
 exact ⟨by first | rfl | (simp; done) | (simp [*]; done), by repeat (first | exact Drawn0.refl _ | apply Drawn0.step)⟩)}}}
def r6_how.f (b : Int) : Option (Int) := if b = 2 then (some 1) else (if b = 3 then (some 2) else (if b = 4 then (some 3) else (if b = 8 then (some 4) else (if b = 10 then (some 4) else (some 0)))))
theorem r6_how.calls {b : Int} {r : Int} {w : World} (h : r6_how.f b = some r) :
  Calls Tryd.prog 67 #[.int .i64 b] w fun e w' => e = .returned (.int .i64 r) ∧ Drawn0 w w' := by
 have H : (if b = 2 then (some 1) else (if b = 3 then (some 2) else (if b = 4 then (some 3) else (if b = 8 then (some 4) else (if b = 10 then (some 4) else (some 0)))))) = some r := h
 clear h; replace H := q_iBN H; rcases H with ⟨-, c2b0, c2b1, H⟩ | ⟨c2, c2b0, c2b1, H⟩
 {
 obtain rfl := q_so H; go_enter Tryd.func67, Tryd.ntmps67
 go_wp2
 go_ret
 exact ⟨by first | rfl | (simp; done) | (simp [*]; done), by repeat (first | exact Drawn0.refl _ | apply Drawn0.step)⟩}
 {
 replace H := q_iBN H; rcases H with ⟨-, c3b0, c3b1, H⟩ | ⟨l, c3b0, c3b1, H⟩
 {
 obtain rfl := q_so H; go_enter Tryd.func67, Tryd.ntmps67
 go_wp2
 go_ret
 exact ⟨by first | rfl | (simp; done) | (simp [*]; done), by repeat (first | exact Drawn0.refl _ | apply Drawn0.step)⟩}
 {
 replace H := q_iBN H; rcases H with ⟨-, c4b0, c4b1, H⟩ | ⟨p, c4b0, c4b1, H⟩
 {
 obtain rfl := q_so H; go_enter Tryd.func67, Tryd.ntmps67
 go_wp2
 go_ret
 exact ⟨by first | rfl | (simp; done) | (simp [*]; done), by repeat (first | exact Drawn0.refl _ | apply Drawn0.step)⟩}
 {
 replace H := q_iBN H; rcases H with ⟨-, c5b0, c5b1, H⟩ | ⟨c5, c5b0, c5b1, H⟩
 {
 obtain rfl := q_so H; go_enter Tryd.func67, Tryd.ntmps67
 go_wp2
 go_ret
 exact ⟨by first | rfl | (simp; done) | (simp [*]; done), by repeat (first | exact Drawn0.refl _ | apply Drawn0.step)⟩}
 {
 replace H := q_iBN H; rcases H with ⟨-, c6b0, c6b1, H⟩ | ⟨q, c6b0, c6b1, H⟩
 all_goals (
 obtain rfl := q_so H; go_enter Tryd.func67, Tryd.ntmps67
 go_wp2
 go_ret
 exact ⟨by first | rfl | (simp; done) | (simp [*]; done), by repeat (first | exact Drawn0.refl _ | apply Drawn0.step)⟩)}}}}
def r6_Word.f (l : Int) (b : Int) (l2 : List (S83)) (l3 : List (S85)) : Option (Bool) := if l = 0 then (if b ≥ 0 then (if (wrap64 (b)) < (l2.length : Int) then (if 0 ≤ b then (if b < (l2.length : Int) then (some (!((rd_T83 l2 b).f1))) else (none)) else (none)) else (some false)) else (some false)) else (if l = 1 then (if b ≥ 0 then (if (wrap64 (b)) < (l2.length : Int) then (if 0 ≤ b then (if b < (l2.length : Int) then (if (rd_T83 l2 b).f1 = true then (some true) else (if b ≥ 6 then (some (decide ((wrap64 (b)) < (wrap64 (6 + (l3.length : Int)))))) else (some false))) else (none)) else (none)) else (if b ≥ 6 then (some (decide ((wrap64 (b)) < (wrap64 (6 + (l3.length : Int)))))) else (some false))) else (if b ≥ 6 then (some (decide ((wrap64 (b)) < (wrap64 (6 + (l3.length : Int)))))) else (some false))) else (if l = 2 then (if b ≥ 0 then (some (decide (b ≤ 400))) else (some false)) else (if l = 3 then (some true) else (some (b == 0)))))
theorem r6_Word.calls {M : Int} {b : Int} {A2 : Option Addr} {c2 : Nat} {l2 : List (S83)} {A3 : Option Addr} {c3 : Nat} {l3 : List (S85)} {r : Bool} {w : World} (N : Kd.C k83 w A2 l2.length l2) (O : l2.length ≤ c2) (R : Kd.C k85 w A3 l3.length l3) (S : l3.length ≤ c3) (h : r6_Word.f M b l2 l3 = some r) :
  Calls Tryd.prog 68 #[.int .i64 M, .int .i32 b, .slice A2 l2.length c2, .slice A3 l3.length c3] w fun e w' => e = .returned (.bool r) ∧ Drawn0 w w' := by
 have J := a_ N; have a7 := a_ O; clear N O; have a8 := a_ R; have a9 := a_ S; clear R S; have H : (if M = 0 then (if b ≥ 0 then (if (wrap64 (b)) < (l2.length : Int) then (if 0 ≤ b then (if b < (l2.length : Int) then (some (!((rd_T83 l2 b).f1))) else (none)) else (none)) else (some false)) else (some false)) else (if M = 1 then (if b ≥ 0 then (if (wrap64 (b)) < (l2.length : Int) then (if 0 ≤ b then (if b < (l2.length : Int) then (if (rd_T83 l2 b).f1 = true then (some true) else (if b ≥ 6 then (some (decide ((wrap64 (b)) < (wrap64 (6 + (l3.length : Int)))))) else (some false))) else (none)) else (none)) else (if b ≥ 6 then (some (decide ((wrap64 (b)) < (wrap64 (6 + (l3.length : Int)))))) else (some false))) else (if b ≥ 6 then (some (decide ((wrap64 (b)) < (wrap64 (6 + (l3.length : Int)))))) else (some false))) else (if M = 2 then (if b ≥ 0 then (some (decide (b ≤ 400))) else (some false)) else (if M = 3 then (some true) else (some (b == 0)))))) = some r := h
 clear h; replace H := q_iBN H; rcases H with ⟨-, c5b0, c5b1, H⟩ | ⟨c5, c5b0, c5b1, H⟩
 {
 rcases q_ite H with ⟨c6b0, H⟩ | ⟨c6b0, H⟩
 {
 rcases q_ite H with ⟨c7b0, H⟩ | ⟨c7b0, H⟩
 focus (
 replace H := q_gD H; obtain ⟨-, c8b0, H⟩ := H; replace H := q_gD H; obtain ⟨-, c9b0, H⟩ := H; obtain rfl := q_so H; have D : 0 ≤ (b : Int) := q_d
 have E : b < (l2.length : Int) := q_d
 obtain ⟨X, T, U, V⟩ := at_T83 J.out b D E; cases T; replace D := eq_true D; replace E := eq_true E; go_enter Tryd.func68, Tryd.ntmps68)
 rotate_left
 focus (
 obtain rfl := q_so H; go_enter Tryd.func68, Tryd.ntmps68)
 all_goals (
 go_wp2
 go_ret
 exact ⟨by first | rfl | (simp; done) | (simp [*]; done), by repeat (first | exact Drawn0.refl _ | apply Drawn0.step)⟩)}
 {
 obtain rfl := q_so H; go_enter Tryd.func68, Tryd.ntmps68
 go_wp2
 go_ret
 exact ⟨by first | rfl | (simp; done) | (simp [*]; done), by repeat (first | exact Drawn0.refl _ | apply Drawn0.step)⟩}}
 {
 replace H := q_iBN H; rcases H with ⟨-, c10b0, c10b1, H⟩ | ⟨a5, c10b0, c10b1, H⟩
 {
 rcases q_ite H with ⟨c11b0, H⟩ | ⟨c11b0, H⟩
 {
 rcases q_ite H with ⟨c12b0, H⟩ | ⟨c12b0, H⟩
 {
 replace H := q_gD H; obtain ⟨-, c13b0, H⟩ := H; replace H := q_gD H; obtain ⟨-, c14b0, H⟩ := H; obtain ⟨F, y⟩ : ∃ b_ : Bool, b_ = ((rd_T83 l2 b).f1) := ⟨_, rfl⟩; replace H : (if F = true then (some true) else (if b ≥ 6 then (some (decide ((wrap64 (b)) < (wrap64 (6 + (l3.length : Int)))))) else (some false))) = some r := by rw [← y] at H; exact H
 have B := a_ y; clear y; cases F
 {
 replace H := q_if H; rcases q_ite H with ⟨c17b0, H⟩ | ⟨c17b0, H⟩
 all_goals (
 obtain rfl := q_so H; have l : 0 ≤ (b : Int) := q_d
 have p : b < (l2.length : Int) := q_d
 obtain ⟨L, G, I, q⟩ := at_T83 J.out b l p; (try rw [← B.out] at q)
 cases G; replace l := eq_true l; replace p := eq_true p; go_enter Tryd.func68, Tryd.ntmps68
 go_wp2
 go_ret
 exact ⟨by first | rfl | (simp; done) | (simp [*]; done), by repeat (first | exact Drawn0.refl _ | apply Drawn0.step)⟩)}
 {
 rw [if_pos rfl] at H; obtain rfl := q_so H; have l : 0 ≤ (b : Int) := q_d
 have p : b < (l2.length : Int) := q_d
 obtain ⟨L, G, I, q⟩ := at_T83 J.out b l p; (try rw [← B.out] at q)
 cases G; replace l := eq_true l; replace p := eq_true p; go_enter Tryd.func68, Tryd.ntmps68
 go_wp2
 go_ret
 exact ⟨by first | rfl | (simp; done) | (simp [*]; done), by repeat (first | exact Drawn0.refl _ | apply Drawn0.step)⟩}}
 {
 rcases q_ite H with ⟨c18b0, H⟩ | ⟨c18b0, H⟩
 all_goals (
 obtain rfl := q_so H; go_enter Tryd.func68, Tryd.ntmps68
 go_wp2
 go_ret
 exact ⟨by first | rfl | (simp; done) | (simp [*]; done), by repeat (first | exact Drawn0.refl _ | apply Drawn0.step)⟩)}}
 {
 rcases q_ite H with ⟨c19b0, H⟩ | ⟨c19b0, H⟩
 all_goals (
 obtain rfl := q_so H; go_enter Tryd.func68, Tryd.ntmps68
 go_wp2
 go_ret
 exact ⟨by first | rfl | (simp; done) | (simp [*]; done), by repeat (first | exact Drawn0.refl _ | apply Drawn0.step)⟩)}}
 {
 replace H := q_iBN H; rcases H with ⟨-, c20b0, c20b1, H⟩ | ⟨a6, c20b0, c20b1, H⟩
 {
 rcases q_ite H with ⟨c21b0, H⟩ | ⟨c21b0, H⟩
 all_goals (
 obtain rfl := q_so H; go_enter Tryd.func68, Tryd.ntmps68
 go_wp2
 go_ret
 exact ⟨by first | rfl | (simp; done) | (simp [*]; done), by repeat (first | exact Drawn0.refl _ | apply Drawn0.step)⟩)}
 {
 replace H := q_iBN H; rcases H with ⟨-, c22b0, c22b1, H⟩ | ⟨z, c22b0, c22b1, H⟩
 all_goals (
 obtain rfl := q_so H; go_enter Tryd.func68, Tryd.ntmps68
 go_wp2
 go_ret
 exact ⟨by first | rfl | (simp; done) | (simp [*]; done), by repeat (first | exact Drawn0.refl _ | apply Drawn0.step)⟩)}}}
def r6_what.j0 : Nat → Int → Bool → Option (Int)
 | 0, _, _ => none
 | k + 1, b, l => if l = true then (some 1) else (if b = 9 then (some 2) else (if b = 10 then (some 2) else (some 4)))
def r6_what.f (k : Nat) (b : Int) : Option (Int) := if b = 0 then (some 3) else (if b = 5 then (some 0) else (if b = 6 then (r6_what.j0 k b (b == 6)) else (if b = 7 then (r6_what.j0 k b (b == 7)) else (r6_what.j0 k b (b == 8)))))
theorem r6_what.calls {k : Nat} {l : Int} {r : Int} {w : World} (h : r6_what.f k l = some r) :
  Calls Tryd.prog 69 #[.int .i64 l] w fun e w' => e = .returned (.int .i64 r) ∧ Drawn0 w w' := by
 have H : (if l = 0 then (some 3) else (if l = 5 then (some 0) else (if l = 6 then (r6_what.j0 k l (l == 6)) else (if l = 7 then (r6_what.j0 k l (l == 7)) else (r6_what.j0 k l (l == 8)))))) = some r := h
 clear h; replace H := q_iBN H; rcases H with ⟨-, c2b0, c2b1, H⟩ | ⟨c2, c2b0, c2b1, H⟩
 {
 obtain rfl := q_so H; go_enter Tryd.func69, Tryd.ntmps69
 go_wp2
 go_ret
 exact ⟨by first | rfl | (simp; done) | (simp [*]; done), by repeat (first | exact Drawn0.refl _ | apply Drawn0.step)⟩}
 {
 replace H := q_iBN H; rcases H with ⟨-, c3b0, c3b1, H⟩ | ⟨q, c3b0, c3b1, H⟩
 {
 obtain rfl := q_so H; go_enter Tryd.func69, Tryd.ntmps69
 go_wp2
 go_ret
 exact ⟨by first | rfl | (simp; done) | (simp [*]; done), by repeat (first | exact Drawn0.refl _ | apply Drawn0.step)⟩}
 {
 have p := a_ H; clear H; go_enter Tryd.func69, Tryd.ntmps69
 go_upto_if 8 with (fail)
 go_cut [8] (fun y wc => ∃ (kq : Nat) (b : Bool), y = .bool b ∧ Aside0 (r6_what.j0 kq l b = some r) ∧ Aside0 (kq ≤ k) ∧ Drawn0 w wc)
 case first => (
 have H := p.out; clear p; replace H := q_iBN H; rcases H with ⟨-, c5b0, c5b1, H⟩ | ⟨c5, c5b0, c5b1, H⟩
 all_goals (
 (first | rw [c5b0] | (simp only [i64_w, i32_w]; rw [c5b0]) | skip))
 {
 have z := a_ H
 clear H; go_wp2
 go_meet
 case rel => exact ⟨_, ((l == 6)), q_r, z, ⟨by first | omega | exact Nat.le_refl _⟩, by repeat (first | exact Drawn0.refl _ | apply Drawn0.step)⟩}
 {
 replace H := q_iBN H; rcases H with ⟨-, c6b0, c6b1, H⟩ | ⟨B, c6b0, c6b1, H⟩
 {
 have z := a_ H
 clear H; go_wp2
 go_meet
 case rel => exact ⟨_, ((l == 7)), q_r, z, ⟨by first | omega | exact Nat.le_refl _⟩, by repeat (first | exact Drawn0.refl _ | apply Drawn0.step)⟩}
 {
 have z := a_ H
 clear H; go_wp2
 go_meet
 case rel => exact ⟨_, ((l == 8)), q_r, z, ⟨by first | omega | exact Nat.le_refl _⟩, by repeat (first | exact Drawn0.refl _ | apply Drawn0.step)⟩}})
 case rest => (
 clear p c2 c2b0 c2b1 q c3b0 c3b1; obtain ⟨kq, b, rfl, HA, C, ⟨D, rfl⟩⟩ := hcut; cases kq with
 | zero => exact absurd HA.out (by simp [r6_what.j0])
 | succ E => (
 have H := HA.out; clear HA; simp only [r6_what.j0] at H
 cases b
 {
 replace H := q_if H; replace H := q_iBN H; rcases H with ⟨-, c8b0, c8b1, H⟩ | ⟨F, c8b0, c8b1, H⟩
 {
 obtain rfl := q_so H; go_wp2
 go_ret
 exact ⟨by first | rfl | (simp; done) | (simp [*]; done), by repeat (first | exact Drawn0.refl _ | apply Drawn0.step)⟩}
 {
 replace H := q_iBN H; rcases H with ⟨-, c9b0, c9b1, H⟩ | ⟨B, c9b0, c9b1, H⟩
 all_goals (
 obtain rfl := q_so H; go_wp2
 go_ret
 exact ⟨by first | rfl | (simp; done) | (simp [*]; done), by repeat (first | exact Drawn0.refl _ | apply Drawn0.step)⟩)}}
 {
 rw [if_pos rfl] at H; obtain rfl := q_so H; go_wp2
 go_ret
 exact ⟨by first | rfl | (simp; done) | (simp [*]; done), by repeat (first | exact Drawn0.refl _ | apply Drawn0.step)⟩}))}}
mutual
def r6_instr.j0 : Nat → Int → Bool → ByteArray → List (S83) → List (S85) → Int → List (S69) → Int → Int → Int → Int → Int → Int → List Int → Option (Bool)
 | 0, _, _, _, _, _, _, _, _, _, _, _, _, _, _ => none
 | k + 1, L, V, F, q, y, l, G, p, z, B, C, D, E, b => if V = true then (some false) else ((r6_Has.f k p).bind fun I => ((r6_reg.f I.1 B l).bind fun M => (if M = true then ((r6_reg.f I.2.1 C l).bind fun N => (if N = true then ((r6_reg.f I.2.2 D l).bind fun O => (if O = true then ((r6_how.f p).bind fun R => ((r6_Sign.f k R z).bind fun S => (if S = true then ((r6_what.f k p).bind fun T => ((r6_Word.f T E q y).bind fun U => (r6_instr.j1 k L (!U) F q y l G p z B C D E b))) else (r6_instr.j1 k L true F q y l G p z B C D E b)))) else (r6_instr.j1 k L true F q y l G p z B C D E b))) else (r6_instr.j1 k L true F q y l G p z B C D E b))) else (r6_instr.j1 k L true F q y l G p z B C D E b))))
def r6_instr.j1 : Nat → Int → Bool → ByteArray → List (S83) → List (S85) → Int → List (S69) → Int → Int → Int → Int → Int → Int → List Int → Option (Bool)
 | 0, _, _, _, _, _, _, _, _, _, _, _, _, _, _ => none
 | k + 1, L, X, F, q, y, l, G, p, z, B, C, D, E, b => if X = true then (some false) else (if p = 11 then (r6_instr.l0 k L 0 F q y l G p z B C D E b) else (some ((b.length : Int) == 0)))
def r6_instr.l0 : Nat → Int → Int → ByteArray → List (S83) → List (S85) → Int → List (S69) → Int → Int → Int → Int → Int → Int → List Int → Option (Bool)
 | 0, _, _, _, _, _, _, _, _, _, _, _, _, _, _ => none
 | k + 1, L, J, F, q, y, l, G, p, z, B, C, D, E, b => if J < (b.length : Int) then (if 0 ≤ J then (if (rd b J) < 0 then (some false) else (if (rd b J) ≥ l then (some false) else (r6_instr.l0 k L (wrap64 (J + 1)) F q y l G p z B C D E b))) else (none)) else (some ((b.length : Int) == L))
end
def r6_instr.f (k : Nat) (l : ByteArray) (p : List (S83)) (q : List (S85)) (y : Int) (z : List (S69)) (b : Int) (B : Int) (C : Int) (D : Int) (E : Int) (F : Int) (G : List Int) (I : Int) : Option (Bool) := if b < 0 then (r6_instr.j0 k I true l p q y z b B C D E F G) else (r6_instr.j0 k I (decide (b ≥ 12)) l p q y z b B C D E F G)
def r6_instr.T4 : Bool × List (List Nat × List Nat) := (true, [([], []), ([], []), ([1], [1]), ([], []), ([3], [3]), ([0, 2, 4], [0, 2, 4]), ([5], [5]), ([6, 5], [6]), ([7], [7]), ([7], [7]), ([9, 7], [7, 9]), ([7], [7]), ([11, 7], [7, 11]), ([8, 10, 12, 7, 7], [7, 8, 10, 12]), ([13, 7], [7, 13]), ([7, 14], [7, 14]), ([15, 13], [15]), ([16], [16]), ([16], [16]), ([18, 16], [16, 18]), ([16], [16]), ([20, 16], [16, 20]), ([17, 19, 21, 16, 16], [16, 17, 19, 21]), ([22, 16], [16, 22]), ([16, 23], [16, 23]), ([24, 22], [24]), ([25], [25]), ([26, 25], [25, 26]), ([27, 25, 25], [25, 27]), ([25], [25]), ([29, 25], [25, 29]), ([28, 30, 28, 25], [25, 28, 30]), ([31, 25], [25, 31]), ([25, 32], [25, 32]), ([33, 31], [33]), ([34], [34]), ([35, 34], [34, 35]), ([36, 34, 34], [34, 36]), ([34], [34]), ([38, 34], [34, 38]), ([34], [34]), ([40, 34], [34, 40]), ([34], [34]), ([42, 34], [34, 42]), ([37, 39, 41, 43, 37, 34], [34, 37, 39, 41, 43]), ([44, 34], [34, 44]), ([34, 45], [34, 45])])
def r6_instr.B4 : List Nat := [0, 0, 2, 0, 8, 31, 63, 127, 255, 255, 767, 255, 2303, 8191, 16383, 32767, 65535, 131071, 131071, 393215, 131071, 1179647, 4194303, 8388607, 16777215, 33554431, 67108863, 134217727, 268435455, 67108863, 603979775, 2147483647, 4294967295, 8589934591, 17179869183, 34359738367, 68719476735, 137438953471, 34359738367, 309237645311, 34359738367, 1133871366143, 34359738367, 4432406249471, 17592186044415, 35184372088831, 70368744177663]
theorem r6_instr.tab4 : rtab .any (opsOf Tryd.f49 4) = r6_instr.T4 := by kernel_rfl
theorem r6_instr.bits4 : waitsOk r6_instr.T4.2 r6_instr.B4 = true := by kernel_rfl
def r6_instr.T11 : Bool × List (List Nat × List Nat) := (true, [([], []), ([0], [0]), ([], []), ([1, 2], [1, 2]), ([3], [3]), ([4], [4]), ([5], [5]), ([6], [6]), ([7, 6], [6, 7]), ([6], [6]), ([8, 9, 6], [6, 8, 9]), ([10, 6], [6, 10]), ([6], [6]), ([12, 6], [6, 12]), ([11, 13, 6], [6, 11, 13]), ([6, 14], [6, 14])])
def r6_instr.B11 : List Nat := [0, 1, 0, 7, 15, 31, 63, 127, 255, 127, 1023, 2047, 127, 4223, 16383, 32767]
theorem r6_instr.tab11 : rtab .any (opsOf Tryd.f49 11) = r6_instr.T11 := by kernel_rfl
theorem r6_instr.bits11 : waitsOk r6_instr.T11.2 r6_instr.B11 = true := by kernel_rfl
theorem r6_instr.calls {k : Nat} {X : ByteArray} {a6 : Option Addr} {a7 : Nat} {F : List (S83)} {a8 : Option Addr} {a9 : Nat} {G : List (S85)} {z : Int} {b5 : Option Addr} {b6 : Nat} {M : List (S69)} {D : Int} {N : Int} {E : Int} {I : Int} {L : Int} {O : Int} {b7 : Option Addr} {b0 : Nat} {B : List Int} {a2 : Int} {r : Bool} {w : World} (i6 : q5 w a6 a7 F a8 a9 G b5 b6 M) (j6 : Kd.C (Kd.int .i64) w b7 B.length B) (j7 : B.length ≤ b0) (h : r6_instr.f k X F G z M D N E I L O B a2 = some r) :
  Calls Tryd.prog 49 #[.agg #[.string X, .slice a6 F.length a7, .slice a8 G.length a9, .int .i64 z, .slice b5 M.length b6], .agg #[.int .i64 D, .int .i64 N, .int .i64 E, .int .i64 I, .int .i64 L, .int .i32 O, .slice b7 B.length b0], .int .i64 a2] w fun e w' => e = .returned (.bool r) ∧ Below w.heap.size w w' := by
 obtain ⟨n6, n7, n8, n9, _, _⟩ := q_O i6; have s5 := Tryd.underlying26; have s6 := Tryd.underlying71; have g4 := a_ j6; have s9 := a_ j7; clear j6 j7; have HB := a_ (Below.refl w.heap.size w); have H : (if D < 0 then (r6_instr.j0 k a2 true X F G z M D N E I L O B) else (r6_instr.j0 k a2 (decide (D ≥ 12)) X F G z M D N E I L O B)) = some r := h
 clear h; have o0 := a_ H; clear H; go_enter Tryd.func49, Tryd.ntmps49
 go_upto_region 1 with (first | ((with_reducible refine gd_ 3 rfl ?_); refine q_box 3 26 #[.string X, .slice a6 F.length a7, .slice a8 G.length a9, .int .i64 z, .slice b5 M.length b6] ?_; intro b4 hg w5 f6 hb; have p := a_ f6; have t0 := a_ (q_ge HB.out hg); have J := a_ (q_ge HB.out hg); replace HB := a_ (q_st HB.out hb); clear hb f6 hg) | ((with_reducible refine gd_ 4 rfl ?_); refine q_box 4 71 #[.int .i64 D, .int .i64 N, .int .i64 E, .int .i64 I, .int .i64 L, .int .i32 O, .slice b7 B.length b0] ?_; intro a4 hg w6 f6 hb; have l := a_ f6; have t1 := a_ (q_ge1 HB.out hg J.out); have T := a_ (q_ge1 HB.out hg J.out); have U := a_ (q_ne p.out hg); have V := a_ (q_en p.out hg); replace p := a_ (q_bk p.out hb); replace HB := a_ (q_st1 HB.out hb J.out); clear hb f6 hg))
 (try simp only [Act.put, List.setIfInBounds_toArray, List.set_cons_zero, List.set_cons_succ])
 go_cut [18] (fun r0 wc => ∃ (kq : Nat) (d7 : Bool), r0 = .bool d7 ∧ Aside0 (r6_instr.j0 kq a2 d7 X F G z M D N E I L O B = some r) ∧ Aside0 (kq ≤ k) ∧ Aside0 (wc.heap[b4]? = some (.cells #[.string X, (.slice a6 F.length a7), (.slice a8 G.length a9), .int .i64 z, (.slice b5 M.length b6)] 26 (0, 0))) ∧ Aside0 (wc.heap[a4]? = some (.cells #[.int .i64 D, .int .i64 N, .int .i64 E, .int .i64 I, .int .i64 L, .int .i32 O, (.slice b7 B.length b0)] 71 (0, 0))) ∧ Aside0 (Below w.heap.size w wc))
 case first => (
 have H := o0.out; clear o0; rcases q_ite H with ⟨c7b0, H⟩ | ⟨c7b0, H⟩
 all_goals (
 (first | rw [c7b0] | (simp only [i64_w, i32_w]; rw [c7b0]) | skip)
 have H' := a_ H
 clear H; have s1 := V.out; have s2 := U.out; obtain ⟨o2, o3, o4, o5, o6, o7, o8, o9, p0, p1, p2, p3, p4, p5⟩ := q_cf7 l.out; go_wp2)
 {
 go_meet
 case rel => exact ⟨_, (true), q_r, H', ⟨by first | omega | exact Nat.le_refl _⟩, ⟨q_k p.out⟩, ⟨q_k l.out⟩, ⟨q_w2 HB.out J.out T.out⟩⟩}
 {
 go_meet
 case rel => exact ⟨_, (decide (D ≥ 12)), q_r, H', ⟨by first | omega | exact Nat.le_refl _⟩, ⟨q_k p.out⟩, ⟨q_k l.out⟩, ⟨q_w2 HB.out J.out T.out⟩⟩})
 case rest => (
 clear o0; obtain ⟨kq, d7, rfl, HA, g5, p, l, HB⟩ := hcut; cases kq with
 | zero => exact absurd HA.out (by simp [r6_instr.j0])
 | succ f8 => (
 have H := HA.out; clear HA; simp only [r6_instr.j0] at H
 cases d7
 {
 replace H := q_if H; replace H := q_bd H; obtain ⟨⟨f9, g8, j8⟩, l7, H⟩ := H; replace H : ((r6_reg.f f9 E z).bind fun j9 => (if j9 = true then ((r6_reg.f g8 I z).bind fun k0 => (if k0 = true then ((r6_reg.f j8 L z).bind fun k1 => (if k1 = true then ((r6_how.f D).bind fun k2 => ((r6_Sign.f f8 k2 N).bind fun k4 => (if k4 = true then ((r6_what.f f8 D).bind fun k5 => ((r6_Word.f k5 O F G).bind fun k6 => (r6_instr.j1 f8 a2 (!k6) X F G z M D N E I L O B))) else (r6_instr.j1 f8 a2 true X F G z M D N E I L O B)))) else (r6_instr.j1 f8 a2 true X F G z M D N E I L O B))) else (r6_instr.j1 f8 a2 true X F G z M D N E I L O B))) else (r6_instr.j1 f8 a2 true X F G z M D N E I L O B))) = some r := H
 have r1 := a_ l7; clear l7; have g6 := a_ H; clear H; have s3 := V.out; have s4 := U.out; obtain ⟨p6, p7, p8, p9, q0, q1, q2, q3, q4, q5, q6, q7, q8, q9⟩ := q_cf7 l.out; go_upto_region 4 with (first | ((with_reducible refine gc_ 37 rfl ?_); refine q_gl 22 #[.int .i64 D] Tryd.func37 rfl ?_; (with_reducible refine (r6_Has.calls _ _ _ _ _ _ r1.out).mono ?_); rintro e w' ⟨rfl, ⟨nd, rfl⟩⟩; refine ⟨_, rfl, ?_⟩))
 have b1 := a_ (blk_drewN p.out nd); have b2 := a_ (blk_drewN l.out nd); have b3 := a_ (pw_below_drewN HB.out nd); clear p l HB; have p := b1; have l := b2; have HB := b3; clear b1 b2 b3; generalize World.drewN wc nd = wc at p l HB ⊢
 (try simp only [Act.put, List.setIfInBounds_toArray, List.set_cons_zero, List.set_cons_succ])
 go_cut [72] (fun r2 wc => ∃ (kq : Nat) (b8 : Bool), r2 = .bool b8 ∧ Aside0 (r6_instr.j1 kq a2 b8 X F G z M D N E I L O B = some r) ∧ Aside0 (kq ≤ f8) ∧ Aside0 (wc.heap[b4]? = some (.cells #[.string X, (.slice a6 F.length a7), (.slice a8 G.length a9), .int .i64 z, (.slice b5 M.length b6)] 26 (0, 0))) ∧ Aside0 (wc.heap[a4]? = some (.cells #[.int .i64 D, .int .i64 N, .int .i64 E, .int .i64 I, .int .i64 L, .int .i32 O, (.slice b7 B.length b0)] 71 (0, 0))) ∧ Aside0 (Below w.heap.size w wc))
 case first => (
 have H := g6.out; clear g6; replace H := q_bd H; obtain ⟨j9, l8, H⟩ := H; have g9 := a_ l8; clear l8; cases j9
 {
 replace H := q_if H; have H' := a_ H
 clear H; try go_wp2
 have b1 := a_ (blk_drew p.out); have b2 := a_ (blk_drew l.out); have b3 := a_ (below_drew1 HB.out); clear p l HB; have p := b1; have l := b2; have HB := b3; clear b1 b2 b3; refine q_s 47 (S := fun w' => cg7 w' a4 (.int .i64 D) (.int .i64 N) (.int .i64 E) (.int .i64 I) (.int .i64 L) (.int .i32 O) (.slice b7 B.length b0) (cg5_ w' b4 (.string X) (.slice a6 F.length a7) (.slice a8 G.length a9) (.int .i64 z) (.slice b5 M.length b6))) (q_g7 l.out (q_g5_ p.out)) (fun q => ?_); refine with_tabW r6_instr.tab4 r6_instr.bits4 (fun b R => ?_)
 generalize wc.drew = t7 at p l HB q ⊢
 refine qv_ 0 b ?_
 refine qv_ 1 b ?_
 refine qv_ 3 b ?_
 refine qt12_ 2 b R q ?_
 refine qt12_ 4 b R q ?_
 refine q_o 5 b (fun K hK => ?_)
 refine q_go #[.bool f9, .int .i64 E, .int .i64 z] Tryd.func65 rfl ?_
 with_reducible refine (r6_reg.calls g9.out).mono ?_
 rintro e w' ⟨rfl, ⟨nd, rfl⟩⟩
 refine ⟨_, rfl, ?_⟩
 refine q_nk hK.out (q_g7 l.out (q_g5_ p.out)) (fun q => ?_)
 clear hK K
 refine qv_ 6 b ?_
 refine qv_ 7 b ?_
 refine qu_ 8 b ?_
 refine qu_ 9 b ?_
 refine qu_ 10 b ?_
 refine qu_ 11 b ?_
 refine qu_ 12 b ?_
 refine qu_ 13 b ?_
 refine qu_ 14 b ?_
 refine qv_ 15 b ?_
 refine qv_ 16 b ?_
 refine qu_ 17 b ?_
 refine qu_ 18 b ?_
 refine qu_ 19 b ?_
 refine qu_ 20 b ?_
 refine qu_ 21 b ?_
 refine qu_ 22 b ?_
 refine qu_ 23 b ?_
 refine qv_ 24 b ?_
 refine qv_ 25 b ?_
 refine qu_ 26 b ?_
 refine qu_ 27 b ?_
 refine qu_ 28 b ?_
 refine qu_ 29 b ?_
 refine qu_ 30 b ?_
 refine qu_ 31 b ?_
 refine qu_ 32 b ?_
 refine qv_ 33 b ?_
 refine qv_ 34 b ?_
 refine qu_ 35 b ?_
 refine qu_ 36 b ?_
 refine qu_ 37 b ?_
 refine qu_ 38 b ?_
 refine qu_ 39 b ?_
 refine qu_ 40 b ?_
 refine qu_ 41 b ?_
 refine qu_ 42 b ?_
 refine qu_ 43 b ?_
 refine qu_ 44 b ?_
 refine qu_ 45 b ?_
 refine qv_ 46 b ?_
 refine done_ (done_of b.out (by kernel_rfl)) ?_
 try go_wp2
 go_meet
 case rel => exact ⟨_, (true), q_r, H', ⟨by have := g5.out; first | omega | exact Nat.le_refl _⟩, ⟨q_k p.out⟩, ⟨q_k l.out⟩, ⟨q_w2 HB.out J.out T.out⟩⟩}
 {
 rw [if_pos rfl] at H; replace H := q_bd H; obtain ⟨k0, l9, H⟩ := H; have k7 := a_ l9; clear l9; cases k0
 {
 replace H := q_if H; have H' := a_ H
 clear H; try go_wp2
 have b1 := a_ (blk_drew p.out); have b2 := a_ (blk_drew l.out); have b3 := a_ (below_drew1 HB.out); clear p l HB; have p := b1; have l := b2; have HB := b3; clear b1 b2 b3; refine q_s 47 (S := fun w' => cg7 w' a4 (.int .i64 D) (.int .i64 N) (.int .i64 E) (.int .i64 I) (.int .i64 L) (.int .i32 O) (.slice b7 B.length b0) (cg5_ w' b4 (.string X) (.slice a6 F.length a7) (.slice a8 G.length a9) (.int .i64 z) (.slice b5 M.length b6))) (q_g7 l.out (q_g5_ p.out)) (fun q => ?_); refine with_tabW r6_instr.tab4 r6_instr.bits4 (fun b R => ?_)
 generalize wc.drew = t4 at p l HB q ⊢
 refine qv_ 0 b ?_
 refine qv_ 1 b ?_
 refine qv_ 3 b ?_
 refine qt12_ 2 b R q ?_
 refine qt12_ 4 b R q ?_
 refine q_o 5 b (fun K hK => ?_)
 refine q_go #[.bool f9, .int .i64 E, .int .i64 z] Tryd.func65 rfl ?_
 with_reducible refine (r6_reg.calls g9.out).mono ?_
 rintro e w' ⟨rfl, ⟨nd, rfl⟩⟩
 refine ⟨_, rfl, ?_⟩
 refine q_nk hK.out (q_g7 l.out (q_g5_ p.out)) (fun q => ?_)
 clear hK K
 refine qv_ 6 b ?_
 refine qv_ 7 b ?_
 refine qv_ 8 b ?_
 refine qv_ 9 b ?_
 refine qv_ 11 b ?_
 refine qt12_ 10 b R q ?_
 refine qt12_ 12 b R q ?_
 refine q_o 13 b (fun K hK => ?_)
 refine q_go #[.bool g8, .int .i64 I, .int .i64 z] Tryd.func65 rfl ?_
 with_reducible refine (r6_reg.calls k7.out).mono ?_
 rintro e w' ⟨rfl, ⟨nd, rfl⟩⟩
 refine ⟨_, rfl, ?_⟩
 refine q_nk hK.out (q_g7 l.out (q_g5_ p.out)) (fun q => ?_)
 clear hK K
 refine qv_ 14 b ?_
 refine qv_ 15 b ?_
 refine qv_ 16 b ?_
 refine qu_ 17 b ?_
 refine qu_ 18 b ?_
 refine qu_ 19 b ?_
 refine qu_ 20 b ?_
 refine qu_ 21 b ?_
 refine qu_ 22 b ?_
 refine qu_ 23 b ?_
 refine qv_ 24 b ?_
 refine qv_ 25 b ?_
 refine qu_ 26 b ?_
 refine qu_ 27 b ?_
 refine qu_ 28 b ?_
 refine qu_ 29 b ?_
 refine qu_ 30 b ?_
 refine qu_ 31 b ?_
 refine qu_ 32 b ?_
 refine qv_ 33 b ?_
 refine qv_ 34 b ?_
 refine qu_ 35 b ?_
 refine qu_ 36 b ?_
 refine qu_ 37 b ?_
 refine qu_ 38 b ?_
 refine qu_ 39 b ?_
 refine qu_ 40 b ?_
 refine qu_ 41 b ?_
 refine qu_ 42 b ?_
 refine qu_ 43 b ?_
 refine qu_ 44 b ?_
 refine qu_ 45 b ?_
 refine qv_ 46 b ?_
 refine done_ (done_of b.out (by kernel_rfl)) ?_
 try go_wp2
 go_meet
 case rel => exact ⟨_, (true), q_r, H', ⟨by have := g5.out; first | omega | exact Nat.le_refl _⟩, ⟨q_k p.out⟩, ⟨q_k l.out⟩, ⟨q_w2 HB.out J.out T.out⟩⟩}
 {
 rw [if_pos rfl] at H; replace H := q_bd H; obtain ⟨k1, n0, H⟩ := H; have n1 := a_ n0; clear n0; cases k1
 {
 replace H := q_if H; have H' := a_ H
 clear H; try go_wp2
 have b1 := a_ (blk_drew p.out); have b2 := a_ (blk_drew l.out); have b3 := a_ (below_drew1 HB.out); clear p l HB; have p := b1; have l := b2; have HB := b3; clear b1 b2 b3; refine q_s 47 (S := fun w' => cg7 w' a4 (.int .i64 D) (.int .i64 N) (.int .i64 E) (.int .i64 I) (.int .i64 L) (.int .i32 O) (.slice b7 B.length b0) (cg5_ w' b4 (.string X) (.slice a6 F.length a7) (.slice a8 G.length a9) (.int .i64 z) (.slice b5 M.length b6))) (q_g7 l.out (q_g5_ p.out)) (fun q => ?_); refine with_tabW r6_instr.tab4 r6_instr.bits4 (fun b R => ?_)
 generalize wc.drew = r7 at p l HB q ⊢
 refine qv_ 0 b ?_
 refine qv_ 1 b ?_
 refine qv_ 3 b ?_
 refine qt12_ 2 b R q ?_
 refine qt12_ 4 b R q ?_
 refine q_o 5 b (fun K hK => ?_)
 refine q_go #[.bool f9, .int .i64 E, .int .i64 z] Tryd.func65 rfl ?_
 with_reducible refine (r6_reg.calls g9.out).mono ?_
 rintro e w' ⟨rfl, ⟨nd, rfl⟩⟩
 refine ⟨_, rfl, ?_⟩
 refine q_nk hK.out (q_g7 l.out (q_g5_ p.out)) (fun q => ?_)
 clear hK K
 refine qv_ 6 b ?_
 refine qv_ 7 b ?_
 refine qv_ 8 b ?_
 refine qv_ 9 b ?_
 refine qv_ 11 b ?_
 refine qt12_ 10 b R q ?_
 refine qt12_ 12 b R q ?_
 refine q_o 13 b (fun K hK => ?_)
 refine q_go #[.bool g8, .int .i64 I, .int .i64 z] Tryd.func65 rfl ?_
 with_reducible refine (r6_reg.calls k7.out).mono ?_
 rintro e w' ⟨rfl, ⟨nd, rfl⟩⟩
 refine ⟨_, rfl, ?_⟩
 refine q_nk hK.out (q_g7 l.out (q_g5_ p.out)) (fun q => ?_)
 clear hK K
 refine qv_ 14 b ?_
 refine qv_ 15 b ?_
 refine qv_ 16 b ?_
 refine qv_ 17 b ?_
 refine qv_ 18 b ?_
 refine qv_ 20 b ?_
 refine qt12_ 19 b R q ?_
 refine qt12_ 21 b R q ?_
 refine q_o 22 b (fun K hK => ?_)
 refine q_go #[.bool j8, .int .i64 L, .int .i64 z] Tryd.func65 rfl ?_
 with_reducible refine (r6_reg.calls n1.out).mono ?_
 rintro e w' ⟨rfl, ⟨nd, rfl⟩⟩
 refine ⟨_, rfl, ?_⟩
 refine q_nk hK.out (q_g7 l.out (q_g5_ p.out)) (fun q => ?_)
 clear hK K
 refine qv_ 23 b ?_
 refine qv_ 24 b ?_
 refine qv_ 25 b ?_
 refine qu_ 26 b ?_
 refine qu_ 27 b ?_
 refine qu_ 28 b ?_
 refine qu_ 29 b ?_
 refine qu_ 30 b ?_
 refine qu_ 31 b ?_
 refine qu_ 32 b ?_
 refine qv_ 33 b ?_
 refine qv_ 34 b ?_
 refine qu_ 35 b ?_
 refine qu_ 36 b ?_
 refine qu_ 37 b ?_
 refine qu_ 38 b ?_
 refine qu_ 39 b ?_
 refine qu_ 40 b ?_
 refine qu_ 41 b ?_
 refine qu_ 42 b ?_
 refine qu_ 43 b ?_
 refine qu_ 44 b ?_
 refine qu_ 45 b ?_
 refine qv_ 46 b ?_
 refine done_ (done_of b.out (by kernel_rfl)) ?_
 try go_wp2
 go_meet
 case rel => exact ⟨_, (true), q_r, H', ⟨by have := g5.out; first | omega | exact Nat.le_refl _⟩, ⟨q_k p.out⟩, ⟨q_k l.out⟩, ⟨q_w2 HB.out J.out T.out⟩⟩}
 {
 rw [if_pos rfl] at H; replace H := q_bd H; obtain ⟨k2, n2, H⟩ := H; have r3 := a_ n2; clear n2; replace H := q_bd H; obtain ⟨k4, n3, H⟩ := H; have r4 := a_ n3; clear n3; by_cases i3 : k4 = true
 focus (
 subst i3; rw [if_pos rfl] at H; replace H := q_bd H; obtain ⟨k5, n4, H⟩ := H; have r5 := a_ n4; clear n4; replace H := q_bd H; obtain ⟨k6, n5, H⟩ := H; have r6 := a_ n5; clear n5; have H' := a_ H)
 rotate_left
 focus (
 replace i3 := q_bf i3; subst i3; replace H := q_if H; have H' := a_ H)
 all_goals (
 clear H; try go_wp2
 have b1 := a_ (blk_drew p.out); have b2 := a_ (blk_drew l.out); have b3 := a_ (below_drew1 HB.out); clear p l HB; have p := b1; have l := b2; have HB := b3; clear b1 b2 b3; refine q_s 47 (S := fun w' => cg7 w' a4 (.int .i64 D) (.int .i64 N) (.int .i64 E) (.int .i64 I) (.int .i64 L) (.int .i32 O) (.slice b7 B.length b0) (cg5_ w' b4 (.string X) (.slice a6 F.length a7) (.slice a8 G.length a9) (.int .i64 z) (.slice b5 M.length b6))) (q_g7 l.out (q_g5_ p.out)) (fun q => ?_); refine with_tabW r6_instr.tab4 r6_instr.bits4 (fun b R => ?_))
 focus (
 generalize wc.drew = t2 at p l HB q ⊢)
 rotate_left
 focus (
 generalize wc.drew = t3 at p l HB q ⊢)
 all_goals (
 refine qv_ 0 b ?_
 refine qv_ 1 b ?_
 refine qv_ 3 b ?_
 refine qt12_ 2 b R q ?_
 refine qt12_ 4 b R q ?_
 refine q_o 5 b (fun K hK => ?_)
 refine q_go #[.bool f9, .int .i64 E, .int .i64 z] Tryd.func65 rfl ?_
 with_reducible refine (r6_reg.calls g9.out).mono ?_
 rintro e w' ⟨rfl, ⟨nd, rfl⟩⟩
 refine ⟨_, rfl, ?_⟩
 refine q_nk hK.out (q_g7 l.out (q_g5_ p.out)) (fun q => ?_)
 clear hK K
 refine qv_ 6 b ?_
 refine qv_ 7 b ?_
 refine qv_ 8 b ?_
 refine qv_ 9 b ?_
 refine qv_ 11 b ?_
 refine qt12_ 10 b R q ?_
 refine qt12_ 12 b R q ?_
 refine q_o 13 b (fun K hK => ?_)
 refine q_go #[.bool g8, .int .i64 I, .int .i64 z] Tryd.func65 rfl ?_
 with_reducible refine (r6_reg.calls k7.out).mono ?_
 rintro e w' ⟨rfl, ⟨nd, rfl⟩⟩
 refine ⟨_, rfl, ?_⟩
 refine q_nk hK.out (q_g7 l.out (q_g5_ p.out)) (fun q => ?_)
 clear hK K
 refine qv_ 14 b ?_
 refine qv_ 15 b ?_
 refine qv_ 16 b ?_
 refine qv_ 17 b ?_
 refine qv_ 18 b ?_
 refine qv_ 20 b ?_
 refine qt12_ 19 b R q ?_
 refine qt12_ 21 b R q ?_
 refine q_o 22 b (fun K hK => ?_)
 refine q_go #[.bool j8, .int .i64 L, .int .i64 z] Tryd.func65 rfl ?_
 with_reducible refine (r6_reg.calls n1.out).mono ?_
 rintro e w' ⟨rfl, ⟨nd, rfl⟩⟩
 refine ⟨_, rfl, ?_⟩
 refine q_nk hK.out (q_g7 l.out (q_g5_ p.out)) (fun q => ?_)
 clear hK K
 refine qv_ 23 b ?_
 refine qv_ 24 b ?_
 refine qv_ 25 b ?_
 refine qv_ 26 b ?_
 refine qv_ 29 b ?_
 refine qt12_ 27 b R q ?_
 refine qt12_ 30 b R q ?_
 refine q_o 28 b (fun K hK => ?_)
 refine q_go #[.int .i64 D] Tryd.func67 rfl ?_
 with_reducible refine (r6_how.calls r3.out).mono ?_
 rintro e w' ⟨rfl, ⟨nd, rfl⟩⟩
 refine ⟨_, rfl, ?_⟩
 refine q_nk hK.out (q_g7 l.out (q_g5_ p.out)) (fun q => ?_)
 clear hK K
 refine q_o 31 b (fun K hK => ?_)
 refine q_go #[.int .i64 k2, .int .i64 N] Tryd.func66 rfl ?_
 with_reducible refine (r6_Sign.calls r4.out).mono ?_
 rintro e w' ⟨rfl, ⟨nd, rfl⟩⟩
 refine ⟨_, rfl, ?_⟩
 refine q_nk hK.out (q_g7 l.out (q_g5_ p.out)) (fun q => ?_)
 clear hK K
 refine qv_ 32 b ?_
 refine qv_ 33 b ?_
 refine qv_ 34 b ?_)
 focus (
 refine qv_ 35 b ?_
 refine qv_ 38 b ?_
 refine qv_ 40 b ?_
 refine qv_ 42 b ?_
 refine qt12_ 36 b R q ?_
 refine qt12_ 39 b R q ?_
 refine qt12_ 41 b R q ?_
 refine qt12_ 43 b R q ?_
 refine q_o 37 b (fun K hK => ?_)
 refine q_go #[.int .i64 D] Tryd.func69 rfl ?_
 with_reducible refine (r6_what.calls r5.out).mono ?_
 rintro e w' ⟨rfl, ⟨nd, rfl⟩⟩
 refine ⟨_, rfl, ?_⟩
 refine q_nk hK.out (q_g7 l.out (q_g5_ p.out)) (fun q => ?_)
 clear hK K
 refine q_o 44 b (fun K hK => ?_)
 refine q_go #[.int .i64 k5, .int .i32 O, .slice a6 F.length a7, .slice a8 G.length a9] Tryd.func68 rfl ?_
 with_reducible refine (r6_Word.calls (q_C (Kd.C_below n6.out (q_w2 HB.out J.out T.out))) n7.out (q_C (Kd.C_below n8.out (q_w2 HB.out J.out T.out))) n9.out r6.out).mono ?_
 rintro e w' ⟨rfl, ⟨nd, rfl⟩⟩
 refine ⟨_, rfl, ?_⟩
 refine q_nk hK.out (q_g7 l.out (q_g5_ p.out)) (fun q => ?_)
 clear hK K
 refine qv_ 45 b ?_)
 rotate_left
 focus (
 refine qu_ 35 b ?_
 refine qu_ 36 b ?_
 refine qu_ 37 b ?_
 refine qu_ 38 b ?_
 refine qu_ 39 b ?_
 refine qu_ 40 b ?_
 refine qu_ 41 b ?_
 refine qu_ 42 b ?_
 refine qu_ 43 b ?_
 refine qu_ 44 b ?_
 refine qu_ 45 b ?_)
 all_goals (
 refine qv_ 46 b ?_
 refine done_ (done_of b.out (by kernel_rfl)) ?_
 try go_wp2)
 {
 go_meet
 case rel => exact ⟨_, (true), q_r, H', ⟨by have := g5.out; first | omega | exact Nat.le_refl _⟩, ⟨q_k p.out⟩, ⟨q_k l.out⟩, ⟨q_w2 HB.out J.out T.out⟩⟩}
 {
 go_meet
 case rel => exact ⟨_, (!k6), q_r, H', ⟨by have := g5.out; first | omega | exact Nat.le_refl _⟩, ⟨q_k p.out⟩, ⟨q_k l.out⟩, ⟨q_w2 HB.out J.out T.out⟩⟩}}}})
 case rest => (
 clear g6; obtain ⟨kq, b8, rfl, HA, k8, p, l, HB⟩ := hcut; cases kq with
 | zero => exact absurd HA.out (by simp [r6_instr.j1])
 | succ k9 => (
 have H := HA.out; clear HA; simp only [r6_instr.j1] at H
 cases b8
 {
 replace H := q_if H; replace H := q_iBN H; rcases H with ⟨-, c34b0, c34b1, H⟩ | ⟨t5, c34b0, c34b1, H⟩
 {
 have H' := a_ H
 clear H; have l5 := V.out; have l6 := U.out; obtain ⟨e0, e1, e2, e3, e4, e5, e6, e7, e8, e9, f0, f1, f2, f3⟩ := q_cf7 l.out; go_wp2
 go_loopg [10] k9 (fun kq r8 w' => ∃ (y : Int), r8 = .int .i64 y ∧ Aside0 (r6_instr.l0 kq a2 y X F G z M D N E I L O B = some r) ∧ Aside0 (kq ≤ k9) ∧ Aside0 (w'.heap[b4]? = some (.cells #[.string X, (.slice a6 F.length a7), (.slice a8 G.length a9), .int .i64 z, (.slice b5 M.length b6)] 26 (0, 0))) ∧ Aside0 (w'.heap[a4]? = some (.cells #[.int .i64 D, .int .i64 N, .int .i64 E, .int .i64 I, .int .i64 L, .int .i32 O, (.slice b7 B.length b0)] 71 (0, 0))) ∧ Aside0 (Below w.heap.size w w'))
 case atStart => exact ⟨(0), q_r, H', ⟨Nat.le_refl _⟩, ⟨q_k p.out⟩, ⟨q_k l.out⟩, ⟨q_w2 HB.out J.out T.out⟩⟩
 case round => (
 clear H'; clear c34b0 c34b1 e0 e1 e2 e3 e4 e5 e6 e7 e8 e9 f0 f1 f2 f3; obtain ⟨y, rfl, HA, r9, p, l, HB⟩ := hrel; cases gk with
 | zero => exact absurd HA.out (by simp [r6_instr.l0])
 | succ k3 => (
 have H := HA.out; clear HA; simp only [r6_instr.l0] at H
 rcases q_ite H with ⟨c37b0, H⟩ | ⟨c37b0, H⟩
 {
 replace H := q_gD H; obtain ⟨-, c38b0, H⟩ := H; rcases q_ite H with ⟨c39b0, H⟩ | ⟨c39b0, H⟩
 {
 obtain rfl := q_so H; have f4 := V.out; have f5 := U.out; obtain ⟨c0, c1, c3, c4, c6, c8, c9, d0, d1, d2, d3, d4, d5, d6⟩ := q_cf7 l.out; try go_wp2
 have b1 := a_ (blk_drew p.out); have b2 := a_ (blk_drew l.out); have b3 := a_ (below_drew1 HB.out); clear p l HB; have p := b1; have l := b2; have HB := b3; clear b1 b2 b3; have d8 : 0 ≤ (y : Int) := q_d
 have d9 : y < (B.length : Int) := q_d
 obtain ⟨a5, l4, a1⟩ := Kd.at_int g4.out y d8 d9; have b9 := a1; cases l4; replace a1 := q_kc HB.out a1; replace d8 := eq_true d8; replace d9 := eq_true d9; refine q_s 16 (S := fun w' => cg7 w' a4 (.int .i64 D) (.int .i64 N) (.int .i64 E) (.int .i64 I) (.int .i64 L) (.int .i32 O) (.slice (some a5) B.length b0) (w'.cell? (a5.add (y).toNat) = some (.int .i64 (rd B y)))) (q_g7 l.out ((q_kc HB.out b9))) (fun q => ?_); refine with_tabW r6_instr.tab11 r6_instr.bits11 (fun b R => ?_)
 generalize wr.drew = r7 at p l HB a1 q ⊢
 refine qv_ 0 b ?_
 refine qv_ 2 b ?_
 refine qt8_ 1 b R q ?_
 refine qv_ 3 b ?_
 refine qt8_ 4 b R q ?_
 refine qv_ 5 b ?_
 refine qv_ 6 b ?_
 refine qu_ 7 b ?_
 refine qu_ 8 b ?_
 refine qu_ 9 b ?_
 refine qu_ 10 b ?_
 refine qu_ 11 b ?_
 refine qu_ 12 b ?_
 refine qu_ 13 b ?_
 refine qu_ 14 b ?_
 refine qv_ 15 b ?_
 refine done_ (done_of b.out (by kernel_rfl)) ?_
 try go_wp2
 go_ret
 exact ⟨q_e, q_w2 HB.out J.out T.out⟩}
 {
 rcases q_ite H with ⟨c43b0, H⟩ | ⟨c43b0, H⟩
 focus (
 obtain rfl := q_so H; have f4 := V.out; have f5 := U.out; obtain ⟨c0, c1, c3, c4, c6, c8, c9, d0, d1, d2, d3, d4, d5, d6⟩ := q_cf7 l.out; try go_wp2)
 rotate_left
 focus (
 have H' := a_ H
 clear H; have f4 := V.out; have f5 := U.out; obtain ⟨c0, c1, c3, c4, c6, c8, c9, d0, d1, d2, d3, d4, d5, d6⟩ := q_cf7 l.out; try go_wp2)
 all_goals (
 have b1 := a_ (blk_drew p.out); have b2 := a_ (blk_drew l.out); have b3 := a_ (below_drew1 HB.out); clear p l HB; have p := b1; have l := b2; have HB := b3; clear b1 b2 b3; have d8 : 0 ≤ (y : Int) := q_d
 have d9 : y < (B.length : Int) := q_d
 obtain ⟨a5, l4, a1⟩ := Kd.at_int g4.out y d8 d9; have b9 := a1; cases l4; replace a1 := q_kc HB.out a1; replace d8 := eq_true d8; replace d9 := eq_true d9; have g1 : 0 ≤ (y : Int) := q_d
 have g2 : y < (B.length : Int) := q_d
 obtain ⟨o1, s0, a3⟩ := Kd.at_int g4.out y g1 g2; have g3 := a3; obtain rfl : a5 = o1 := (by injection s0))
 focus (
 replace a3 := q_kc HB.out a3; replace g1 := eq_true g1; replace g2 := eq_true g2; refine q_s 16 (S := fun w' => cg7 w' a4 (.int .i64 D) (.int .i64 N) (.int .i64 E) (.int .i64 I) (.int .i64 L) (.int .i32 O) (.slice (some a5) B.length b0) (cg5 w' b4 (.string X) (.slice a6 F.length a7) (.slice a8 G.length a9) (.int .i64 z) (.slice b5 M.length b6) (w'.cell? (a5.add (y).toNat) = some (.int .i64 (rd B y)) ∧ w'.cell? (a5.add (y).toNat) = some (.int .i64 (rd B y))))) (q_g7 l.out (q_g5 p.out ⟨(q_kc HB.out b9), (q_kc HB.out g3)⟩)) (fun q => ?_); refine with_tabW r6_instr.tab11 r6_instr.bits11 (fun b R => ?_)
 generalize wr.drew = t9 at p l HB a1 a3 q ⊢)
 rotate_left
 focus (
 replace a3 := q_kc HB.out a3; replace g1 := eq_true g1; replace g2 := eq_true g2; refine q_s 16 (S := fun w' => cg7 w' a4 (.int .i64 D) (.int .i64 N) (.int .i64 E) (.int .i64 I) (.int .i64 L) (.int .i32 O) (.slice (some a5) B.length b0) (cg5 w' b4 (.string X) (.slice a6 F.length a7) (.slice a8 G.length a9) (.int .i64 z) (.slice b5 M.length b6) (w'.cell? (a5.add (y).toNat) = some (.int .i64 (rd B y)) ∧ w'.cell? (a5.add (y).toNat) = some (.int .i64 (rd B y))))) (q_g7 l.out (q_g5 p.out ⟨(q_kc HB.out b9), (q_kc HB.out g3)⟩)) (fun q => ?_); refine with_tabW r6_instr.tab11 r6_instr.bits11 (fun b R => ?_)
 generalize wr.drew = t6 at p l HB a1 a3 q ⊢)
 all_goals (
 refine qv_ 0 b ?_
 refine qv_ 2 b ?_
 refine qt14_ 1 b R q ?_
 refine qv_ 3 b ?_
 refine qt14_ 4 b R q ?_
 refine qv_ 5 b ?_
 refine qv_ 6 b ?_
 refine qv_ 7 b ?_
 refine qv_ 9 b ?_
 refine qv_ 12 b ?_
 refine qt14_ 8 b R q ?_
 refine qv_ 10 b ?_
 refine qt14_ 11 b R q ?_
 refine qt14_ 13 b R q ?_
 refine qv_ 14 b ?_
 refine qv_ 15 b ?_
 refine done_ (done_of b.out (by kernel_rfl)) ?_
 try go_wp2)
 {
 go_ret
 exact ⟨q_e, q_w2 HB.out J.out T.out⟩}
 {
 go_roundg k3
 case measure => have := g5.out; have := k8.out; have := r9.out; omega
 case rel => exact ⟨(wrap64 (y + 1)), q_r, H', ⟨by have := g5.out; have := k8.out; have := r9.out; omega⟩, ⟨q_k p.out⟩, ⟨q_k l.out⟩, ⟨q_w2 HB.out J.out T.out⟩⟩}}}
 {
 obtain rfl := q_so H; have f4 := V.out; have f5 := U.out; obtain ⟨c0, c1, c3, c4, c6, c8, c9, d0, d1, d2, d3, d4, d5, d6⟩ := q_cf7 l.out; go_wp2
 go_ret
 exact ⟨q_e, q_w2 HB.out J.out T.out⟩}))}
 {
 obtain rfl := q_so H; have l5 := V.out; have l6 := U.out; obtain ⟨e0, e1, e2, e3, e4, e5, e6, e7, e8, e9, f0, f1, f2, f3⟩ := q_cf7 l.out; go_wp2
 go_ret
 exact ⟨q_e, q_w2 HB.out J.out T.out⟩}}
 {
 rw [if_pos rfl] at H; obtain rfl := q_so H; go_wp2
 go_ret
 exact ⟨q_e, q_w2 HB.out J.out T.out⟩}))}
 {
 rw [if_pos rfl] at H; obtain rfl := q_so H; go_wp2
 go_ret
 exact ⟨q_e, q_w2 HB.out J.out T.out⟩}))
def r6_twice.l0 : Nat → List (S71) → Int → Int → Option (Bool)
 | 0, _, _, _ => none
 | k + 1, l, p, b => if b < (l.length : Int) then (if 0 ≤ b then (if ((rd_T71 l b).f2) = p then (some true) else (r6_twice.l0 k l p (wrap64 (b + 1)))) else (none)) else (some false)
def r6_twice.f (k : Nat) (l0 : List (S71)) (b : Int) : Option (Bool) := r6_twice.l0 k l0 b 0
theorem r6_twice.calls {k : Nat} {A0 : Option Addr} {c0 : Nat} {l0 : List (S71)} {T : Int} {r : Bool} {w : World} (z : Kd.C k71 w A0 l0.length l0) (B : l0.length ≤ c0) (h : r6_twice.f k l0 T = some r) :
  Calls Tryd.prog 50 #[.slice A0 l0.length c0, .int .i64 T] w fun e w' => e = .returned (.bool r) ∧ Drawn0 w w' := by
 have a0 := a_ z; have a5 := a_ B; clear z B; have H : (r6_twice.l0 k l0 T 0) = some r := h
 clear h; have U := a_ H
 clear H; go_enter Tryd.func50, Tryd.ntmps50
 go_wp2
 go_loopg [5] k (fun kq D w' => ∃ (b : Int), D = .int .i64 b ∧ Aside0 (r6_twice.l0 kq l0 T b = some r) ∧ Aside0 (kq ≤ k) ∧ Drawn0 w w')
 case atStart => exact ⟨(0), q_r, U, ⟨Nat.le_refl _⟩, by repeat (first | exact Drawn0.refl _ | apply Drawn0.step)⟩
 case round => (
 clear U; obtain ⟨b, rfl, HA, E, ⟨m1, rfl⟩⟩ := hrel; cases gk with
 | zero => exact absurd HA.out (by simp [r6_twice.l0])
 | succ k1 => (
 have H := HA.out; clear HA; simp only [r6_twice.l0] at H
 rcases q_ite H with ⟨c3b0, H⟩ | ⟨c3b0, H⟩
 {
 replace H := q_gD H; obtain ⟨-, c4b0, H⟩ := H; replace H := q_iBN H; rcases H with ⟨-, c5b0, c5b1, H⟩ | ⟨c5, c5b0, c5b1, H⟩
 focus (
 obtain rfl := q_so H; have q : 0 ≤ (b : Int) := q_d)
 rotate_left
 focus (
 have U := a_ H
 clear H; have q : 0 ≤ (b : Int) := q_d)
 all_goals (
 have y : b < (l0.length : Int) := q_d
 obtain ⟨a2, V, X, F, G, I, J, L, M, N, O, l, p⟩ := at_T71 a0.out b q y; cases F; have R := a_ p; have S := a_ l; clear p l; replace q := eq_true q; replace y := eq_true y; go_wp2)
 {
 go_roundg k1
 case measure => have := E.out; omega
 case rel => exact ⟨(wrap64 (b + 1)), q_r, U, ⟨by have := E.out; omega⟩, by repeat (first | exact Drawn0.refl _ | apply Drawn0.step)⟩}
 {
 go_ret
 exact ⟨by first | rfl | (simp; done) | (simp [*]; done), by repeat (first | exact Drawn0.refl _ | apply Drawn0.step)⟩}}
 {
 obtain rfl := q_so H; go_wp2
 go_ret
 exact ⟨by first | rfl | (simp; done) | (simp [*]; done), by repeat (first | exact Drawn0.refl _ | apply Drawn0.step)⟩}))
def alloc_defines.f (b : Int) (l : Int) (p : Int) (q : Int) (y : Int) (z : Int) (B : List Int) : Option (Bool) := if b = 7 then (some false) else (if b = 8 then (some false) else (some (b != 9)))
theorem alloc_defines.calls {b : Int} {z : Int} {B : Int} {D : Int} {E : Int} {F : Int} {G : Option Addr} {I : Nat} {l : List Int} (r : Bool) (w : World) (L : Kd.C (Kd.int .i64) w G l.length l) (M : l.length ≤ I) (h : alloc_defines.f b z B D E F l = some r) :
  Calls Tryd.prog 52 #[.agg #[.int .i64 b, .int .i64 z, .int .i64 B, .int .i64 D, .int .i64 E, .int .i32 F, .slice G l.length I]] w fun e w' => e = .returned (.bool r) ∧ Below w.heap.size w w' := by
 have e1 := Tryd.underlying71; have d9 := a_ L; have e0 := a_ M; clear L M; have J := a_ (Below.refl w.heap.size w); have H : (if b = 7 then (some false) else (if b = 8 then (some false) else (some (b != 9)))) = some r := h
 clear h; replace H := q_iBN H; rcases H with ⟨-, c2b0, c2b1, H⟩ | ⟨c2, c2b0, c2b1, H⟩
 {
 obtain rfl := q_so H; go_enter Tryd.func52, Tryd.ntmps52
 go_wp2_with (first | ((with_reducible refine gd_ 1 rfl ?_); refine q_box 1 71 #[.int .i64 b, .int .i64 z, .int .i64 B, .int .i64 D, .int .i64 E, .int .i32 F, .slice G l.length I] ?_; intro N hg w3 p hb; have q := a_ p; have O := a_ (q_ge J.out hg); have y := a_ (q_ge J.out hg); replace J := a_ (q_st J.out hb); clear hb p hg; obtain ⟨R, S, T, U, V, X, a0, a1, a2, a3, a4, a5, a6, a7⟩ := q_cf7 q.out))
 go_ret
 exact ⟨q_e, q_w1 J.out y.out⟩}
 {
 replace H := q_iBN H; rcases H with ⟨-, c5b0, c5b1, H⟩ | ⟨c5, c5b0, c5b1, H⟩
 {
 obtain rfl := q_so H; go_enter Tryd.func52, Tryd.ntmps52
 go_wp2_with (first | ((with_reducible refine gd_ 1 rfl ?_); refine q_box 1 71 #[.int .i64 b, .int .i64 z, .int .i64 B, .int .i64 D, .int .i64 E, .int .i32 F, .slice G l.length I] ?_; intro N hg w6 p hb; have q := a_ p; have O := a_ (q_ge J.out hg); have y := a_ (q_ge J.out hg); replace J := a_ (q_st J.out hb); clear hb p hg; obtain ⟨a8, a9, b0, b1, b2, b3, b4, b5, b6, b7, b8, b9, c0, c1⟩ := q_cf7 q.out))
 go_ret
 exact ⟨q_e, q_w1 J.out y.out⟩}
 {
 obtain rfl := q_so H; go_enter Tryd.func52, Tryd.ntmps52
 go_wp2_with (first | ((with_reducible refine gd_ 1 rfl ?_); refine q_box 1 71 #[.int .i64 b, .int .i64 z, .int .i64 B, .int .i64 D, .int .i64 E, .int .i32 F, .slice G l.length I] ?_; intro N hg w8 p hb; have q := a_ p; have O := a_ (q_ge J.out hg); have y := a_ (q_ge J.out hg); replace J := a_ (q_st J.out hb); clear hb p hg; obtain ⟨c3, c4, c6, c8, c9, d0, d1, d2, d3, d4, d5, d6, d7, d8⟩ := q_cf7 q.out))
 go_ret
 exact ⟨q_e, q_w1 J.out y.out⟩}}
def alloc_uses.j0 : Nat → Int → Bool → Int → Int → Int → Int → Int → Int → List Int → Option (List Int)
 | 0, _, _, _, _, _, _, _, _, _ => none
 | k + 1, C, D, p, q, y, b, l, z, B => if D = true then (some (([b] : List Int))) else (if C = 3 then (some (([b, l] : List Int))) else (if C = 7 then (some (([b, l] : List Int))) else (if C = 8 then (some (([b, l] : List Int))) else (some ([] : List Int)))))
def alloc_uses.f (k : Nat) (b : Int) (l : Int) (p : Int) (q : Int) (y : Int) (z : Int) (B : List Int) : Option (List Int) := if b = 1 then (alloc_uses.j0 k b (b == 1) b l p q y z B) else (if b = 2 then (alloc_uses.j0 k b (b == 2) b l p q y z B) else (if b = 6 then (alloc_uses.j0 k b (b == 6) b l p q y z B) else (alloc_uses.j0 k b (b == 10) b l p q y z B)))
theorem alloc_uses.calls (k : Nat) (l : Int) (B : Int) (D : Int) (b : Int) (q : Int) (E : Int) (V : Option Addr) (X : Nat) (z : List Int) (r : List Int) (w : World) (a1 : Kd.C (Kd.int .i64) w V z.length z) (a2 : z.length ≤ X) (h : alloc_uses.f k l B D b q E z = some r) :
  Calls Tryd.prog 54 #[.agg #[.int .i64 l, .int .i64 B, .int .i64 D, .int .i64 b, .int .i64 q, .int .i32 E, .slice V z.length X]] w fun e w' => ∃ d4 : Value, e = .returned (d4) ∧ Kd.R (Kd.int .i64) 3 w' w.heap.size (fun _ => True) d4 r ∧ Below w.heap.size w w' := by
 have l7 := Tryd.underlying71; have l4 := a_ a1; have l5 := a_ a2; clear a1 a2; have F := a_ (Below.refl w.heap.size w); have H : (if l = 1 then (alloc_uses.j0 k l (l == 1) l B D b q E z) else (if l = 2 then (alloc_uses.j0 k l (l == 2) l B D b q E z) else (if l = 6 then (alloc_uses.j0 k l (l == 6) l B D b q E z) else (alloc_uses.j0 k l (l == 10) l B D b q E z)))) = some r := h
 clear h; have c3 := a_ H; clear H; go_enter Tryd.func54, Tryd.ntmps54
 go_upto_if 5 with (first | ((with_reducible refine gd_ 1 rfl ?_); refine q_box 1 71 #[.int .i64 l, .int .i64 B, .int .i64 D, .int .i64 b, .int .i64 q, .int .i32 E, .slice V z.length X] ?_; intro c4 hg w3 c1 hb; have p := a_ c1; have l6 := a_ (q_ge F.out hg); have y := a_ (q_ge F.out hg); replace F := a_ (q_st F.out hb); clear hb c1 hg; obtain ⟨a7, a8, a9, b0, b1, b2, b3, b4, b5, b6, b7, b8, b9, c0⟩ := q_cf7 p.out))
 (try simp only [Act.put, List.setIfInBounds_toArray, List.set_cons_zero, List.set_cons_succ])
 go_cut [5] (fun v5 wc => ∃ (kq : Nat) (a0 : Bool), v5 = .bool a0 ∧ Aside0 (alloc_uses.j0 kq l a0 l B D b q E z = some r) ∧ Aside0 (kq ≤ k) ∧ Aside0 (wc.heap[c4]? = some (.cells #[.int .i64 l, .int .i64 B, .int .i64 D, .int .i64 b, .int .i64 q, .int .i32 E, (.slice V z.length X)] 71 (0, 0))) ∧ Aside0 (Below w.heap.size w wc))
 case first => (
 have H := c3.out; clear c3; replace H := q_iBN H; rcases H with ⟨-, c5b0, c5b1, H⟩ | ⟨c5, c5b0, c5b1, H⟩
 {
 (first | rw [c5b0] | (simp only [i64_w, i32_w]; rw [c5b0]) | skip)
 have H' := a_ H
 clear H; go_wp2
 go_meet
 case rel => exact ⟨_, ((l == 1)), q_r, H', ⟨by first | omega | exact Nat.le_refl _⟩, ⟨q_k p.out⟩, ⟨q_w1 F.out y.out⟩⟩}
 {
 (first | rw [c5b0] | (simp only [i64_w, i32_w]; rw [c5b0]) | skip)
 replace H := q_iBN H; rcases H with ⟨-, c6b0, c6b1, H⟩ | ⟨c6, c6b0, c6b1, H⟩
 {
 have H' := a_ H
 clear H; go_wp2
 go_meet
 case rel => exact ⟨_, ((l == 2)), q_r, H', ⟨by first | omega | exact Nat.le_refl _⟩, ⟨q_k p.out⟩, ⟨q_w1 F.out y.out⟩⟩}
 {
 replace H := q_iBN H; rcases H with ⟨-, c7b0, c7b1, H⟩ | ⟨c7, c7b0, c7b1, H⟩
 {
 have H' := a_ H
 clear H; go_wp2
 go_meet
 case rel => exact ⟨_, ((l == 6)), q_r, H', ⟨by first | omega | exact Nat.le_refl _⟩, ⟨q_k p.out⟩, ⟨q_w1 F.out y.out⟩⟩}
 {
 have H' := a_ H
 clear H; go_wp2
 go_meet
 case rel => exact ⟨_, ((l == 10)), q_r, H', ⟨by first | omega | exact Nat.le_refl _⟩, ⟨q_k p.out⟩, ⟨q_w1 F.out y.out⟩⟩}}})
 case rest => (
 clear c3 a7 a8 a9 b0 b1 b2 b3 b4 b5 b6 b7 b8 b9 c0; obtain ⟨kq, a0, rfl, HA, n3, p, F⟩ := hcut; cases kq with
 | zero => exact absurd HA.out (by simp [alloc_uses.j0])
 | succ n4 => (
 have H := HA.out; clear HA; simp only [alloc_uses.j0] at H
 cases a0
 {
 replace H := q_if H; replace H := q_iBN H; rcases H with ⟨-, c12b0, c12b1, H⟩ | ⟨n6, c12b0, c12b1, H⟩
 {
 obtain ⟨d6, S⟩ : ∃ y_ : List Int, y_ = (([b, q] : List Int)) := ⟨_, rfl⟩; replace H : (some d6) = some r := q_rw S H
 have a4 := a_ S; clear S; obtain rfl := q_so H; obtain ⟨d7, d8, d9, e0, e1, e2, e3, e4, e5, e6, e7, e8, e9, f0⟩ := q_cf7 p.out; go_wp2_with (first | ((with_reducible refine gd_ 21 rfl ?_); refine Kd.R_lit (Kd.int .i64) _ 3 ?hg (N := 21) ?hd (xs := ([b, q] : List Int)) (inner := [.int .i64 b, .int .i64 q]) (ok := fun _ => True) (okp := fun _ => True) ?hr ?hp (fun _ hk => hk) trivial (Below.refl _ _) (Nat.le_refl _) (by simp) ?_; (case hd => rfl); (case hg => rfl); (case hr => first | (go_simp; done) | (go_simp; rfl)); (case hp => exact (Reps.one (show Kd.M (Kd.int .i64) _ _ _ b [.int .i64 b] from rfl) (Reps.one (show Kd.M (Kd.int .i64) _ _ _ q [.int .i64 q] from rfl) (Reps.none _ _)))); intro l9 n7 I hb hg_ hnew_; clear hg_ hnew_; (first | rw [← a4.out] at I | (simp only [Int.reduceToNat] at I; rw [← a4.out] at I)); have d1 := a_ (Kd.R_lower I (below_size (q_w1 F.out y.out))); replace p := a_ (q_bk p.out hb); replace F := a_ (q_st1 F.out hb y.out); clear hb I))
 go_ret
 exact ⟨_, q_e, q_R d1.out, q_w1 F.out y.out⟩}
 {
 replace H := q_iBN H; rcases H with ⟨-, c16b0, c16b1, H⟩ | ⟨n8, c16b0, c16b1, H⟩
 {
 obtain ⟨f1, T⟩ : ∃ y_ : List Int, y_ = (([b, q] : List Int)) := ⟨_, rfl⟩; replace H : (some f1) = some r := q_rw T H
 have a5 := a_ T; clear T; obtain rfl := q_so H; obtain ⟨f2, f3, f4, f5, f6, f7, f8, f9, g0, g1, g2, g3, g4, g5⟩ := q_cf7 p.out; go_wp2_with (first | ((with_reducible refine gd_ 21 rfl ?_); refine Kd.R_lit (Kd.int .i64) _ 3 ?hg (N := 21) ?hd (xs := ([b, q] : List Int)) (inner := [.int .i64 b, .int .i64 q]) (ok := fun _ => True) (okp := fun _ => True) ?hr ?hp (fun _ hk => hk) trivial (Below.refl _ _) (Nat.le_refl _) (by simp) ?_; (case hd => rfl); (case hg => rfl); (case hr => first | (go_simp; done) | (go_simp; rfl)); (case hp => exact (Reps.one (show Kd.M (Kd.int .i64) _ _ _ b [.int .i64 b] from rfl) (Reps.one (show Kd.M (Kd.int .i64) _ _ _ q [.int .i64 q] from rfl) (Reps.none _ _)))); intro n0 n9 J hb hg_ hnew_; clear hg_ hnew_; (first | rw [← a5.out] at J | (simp only [Int.reduceToNat] at J; rw [← a5.out] at J)); have d2 := a_ (Kd.R_lower J (below_size (q_w1 F.out y.out))); replace p := a_ (q_bk p.out hb); replace F := a_ (q_st1 F.out hb y.out); clear hb J))
 go_ret
 exact ⟨_, q_e, q_R d2.out, q_w1 F.out y.out⟩}
 {
 replace H := q_iBN H; rcases H with ⟨-, c20b0, c20b1, H⟩ | ⟨o0, c20b0, c20b1, H⟩
 {
 obtain ⟨g6, U⟩ : ∃ y_ : List Int, y_ = (([b, q] : List Int)) := ⟨_, rfl⟩; replace H : (some g6) = some r := q_rw U H
 have a6 := a_ U; clear U; obtain rfl := q_so H; obtain ⟨g7, g8, g9, i0, i1, i2, i3, i4, i5, i6, i7, i8, i9, j3⟩ := q_cf7 p.out; go_wp2_with (first | ((with_reducible refine gd_ 21 rfl ?_); refine Kd.R_lit (Kd.int .i64) _ 3 ?hg (N := 21) ?hd (xs := ([b, q] : List Int)) (inner := [.int .i64 b, .int .i64 q]) (ok := fun _ => True) (okp := fun _ => True) ?hr ?hp (fun _ hk => hk) trivial (Below.refl _ _) (Nat.le_refl _) (by simp) ?_; (case hd => rfl); (case hg => rfl); (case hr => first | (go_simp; done) | (go_simp; rfl)); (case hp => exact (Reps.one (show Kd.M (Kd.int .i64) _ _ _ b [.int .i64 b] from rfl) (Reps.one (show Kd.M (Kd.int .i64) _ _ _ q [.int .i64 q] from rfl) (Reps.none _ _)))); intro n1 o1 L hb hg_ hnew_; clear hg_ hnew_; (first | rw [← a6.out] at L | (simp only [Int.reduceToNat] at L; rw [← a6.out] at L)); have d3 := a_ (Kd.R_lower L (below_size (q_w1 F.out y.out))); replace p := a_ (q_bk p.out hb); replace F := a_ (q_st1 F.out hb y.out); clear hb L))
 go_ret
 exact ⟨_, q_e, q_R d3.out, q_w1 F.out y.out⟩}
 {
 obtain rfl := q_so H; go_wp2
 go_ret
 exact ⟨_, q_e, by first | exact Kd.R_nil _ _ _ _ _ | exact Kd.N_nil _ _ _ _ _ | exact Kd.V_nil _ _ _ _ _ | exact Kd.Q_nil _ _ _ _ _ | exact Kd.S_nil _ _ _ _ _, q_w1 F.out y.out⟩}}}}
 {
 rw [if_pos rfl] at H; obtain ⟨d5, O⟩ : ∃ y_ : List Int, y_ = (([b] : List Int)) := ⟨_, rfl⟩; replace H : (some d5) = some r := q_rw O H
 have a3 := a_ O; clear O; obtain rfl := q_so H; obtain ⟨j6, j7, j8, j9, k0, k1, k2, k3, k4, k5, k6, k7, k8, k9⟩ := q_cf7 p.out; go_wp2_with (first | ((with_reducible refine gd_ 12 rfl ?_); refine Kd.R_lit (Kd.int .i64) _ 3 ?hg (N := 12) ?hd (xs := ([b] : List Int)) (inner := [.int .i64 b]) (ok := fun _ => True) (okp := fun _ => True) ?hr ?hp (fun _ hk => hk) trivial (Below.refl _ _) (Nat.le_refl _) (by simp) ?_; (case hd => rfl); (case hg => rfl); (case hr => first | (go_simp; done) | (go_simp; rfl)); (case hp => exact (Reps.one (show Kd.M (Kd.int .i64) _ _ _ b [.int .i64 b] from rfl) (Reps.none _ _))); intro l8 n5 G hb hg_ hnew_; clear hg_ hnew_; (first | rw [← a3.out] at G | (simp only [Int.reduceToNat] at G; rw [← a3.out] at G)); have d0 := a_ (Kd.R_lower G (below_size (q_w1 F.out y.out))); replace p := a_ (q_bk p.out hb); replace F := a_ (q_st1 F.out hb y.out); clear hb G))
 go_ret
 exact ⟨_, q_e, q_R d0.out, q_w1 F.out y.out⟩}))
def flow_register.f (p : ByteArray) (q : List (S83)) (y : List (S85)) (b : Int) (z : List (S69)) (B : Bool) (l : Int) : Option (Bool) := if B = true then (if l ≥ 0 then (some (decide (l < b))) else (some false)) else (some (l == 0))
theorem flow_register.calls {B : ByteArray} {D : Option Addr} {E : Nat} {b : List (S83)} {F : Option Addr} {G : Nat} {l : List (S85)} {y : Int} {I : Option Addr} {J : Nat} {p : List (S69)} {a1 : Bool} {a2 : Int} {r : Bool} {w : World} (N : q5 w D E b F G l I J p) (h : flow_register.f B b l y p a1 a2 = some r) :
  Calls Tryd.prog 73 #[.agg #[.string B, .slice D b.length E, .slice F l.length G, .int .i64 y, .slice I p.length J], .bool a1, .int .i64 a2] w fun e w' => e = .returned (.bool r) ∧ Below w.heap.size w w' := by
 have b6 := Tryd.underlying26; have M := a_ (Below.refl w.heap.size w); have H : (if a1 = true then (if a2 ≥ 0 then (some (decide (a2 < y))) else (some false)) else (some (a2 == 0))) = some r := h
 clear h; cases a1
 {
 replace H := q_if H; obtain rfl := q_so H; go_enter Tryd.func73, Tryd.ntmps73
 go_wp2_with (first | ((with_reducible refine gd_ 3 rfl ?_); refine q_box 3 26 #[.string B, .slice D b.length E, .slice F l.length G, .int .i64 y, .slice I p.length J] ?_; intro V hg a0 q hb; have L := a_ q; have X := a_ (q_ge M.out hg); have z := a_ (q_ge M.out hg); replace M := a_ (q_st M.out hb); clear hb q hg))
 go_ret
 exact ⟨q_e, q_w1 M.out z.out⟩}
 {
 rw [if_pos rfl] at H; rcases q_ite H with ⟨c5b0, H⟩ | ⟨c5b0, H⟩
 all_goals (
 obtain rfl := q_so H; go_enter Tryd.func73, Tryd.ntmps73)
 focus (
 go_wp2_with (first | ((with_reducible refine gd_ 3 rfl ?_); refine q_box 3 26 #[.string B, .slice D b.length E, .slice F l.length G, .int .i64 y, .slice I p.length J] ?_; intro V hg a0 q hb; have L := a_ q; have X := a_ (q_ge M.out hg); have z := a_ (q_ge M.out hg); replace M := a_ (q_st M.out hb); clear hb q hg; obtain ⟨a3, a4, a5, a6, a7, a8, a9, b0, b1, b2⟩ := q_cf5 L.out)))
 rotate_left
 focus (
 go_wp2_with (first | ((with_reducible refine gd_ 3 rfl ?_); refine q_box 3 26 #[.string B, .slice D b.length E, .slice F l.length G, .int .i64 y, .slice I p.length J] ?_; intro V hg a0 q hb; have L := a_ q; have X := a_ (q_ge M.out hg); have z := a_ (q_ge M.out hg); replace M := a_ (q_st M.out hb); clear hb q hg)))
 all_goals (
 go_ret
 exact ⟨q_e, q_w1 M.out z.out⟩)}
mutual
def flow_ends.l0 : Nat → List (S69) → Int → Int → ByteArray → List (S83) → List (S85) → Int → List (S69) → Option (Bool)
 | 0, _, _, _, _, _, _, _, _ => none
 | k + 1, G, I, F, l, p, q, y, b => if F < I then (if 0 ≤ F then (if F < (G.length : Int) then (if ((rd_T69 G F).f1) < 0 then (flow_ends.j1 k G I F true l p q y b ((rd_T69 G F).f0) ((rd_T69 G F).f1) ((rd_T69 G F).f2) ((rd_T69 G F).f3) ((rd_T69 G F).f4)) else (flow_ends.j1 k G I F (decide (((rd_T69 G F).f1) > 2)) l p q y b ((rd_T69 G F).f0) ((rd_T69 G F).f1) ((rd_T69 G F).f2) ((rd_T69 G F).f3) ((rd_T69 G F).f4))) else (none)) else (none)) else (if 0 ≤ (b.length : Int) then (if ((b.length : Int) : Int).toNat ≤ 281474976710656 then ((some (List.replicate ((b.length : Int) : Int).toNat false : List Bool)).bind fun T => (if 0 < (T.length : Int) then (flow_ends.l2 k (T.set (0 : Int).toNat true) (([0] : List Int)) 0 l p q y b) else (none))) else (none)) else (none))
def flow_ends.j1 : Nat → List (S69) → Int → Int → Bool → ByteArray → List (S83) → List (S85) → Int → List (S69) → List (S71) → Int → Int → Int → Int → Option (Bool)
 | 0, _, _, _, _, _, _, _, _, _, _, _, _, _, _ => none
 | k + 1, G, I, F, a3, l, p, q, y, b, E, z, B, C, D => if a3 = true then (some false) else (if z = 1 then (if z = 2 then (if C = 0 then ((flow_register.f l p q y b true B).bind fun a0 => (flow_ends.j2 k G I F (!a0) l p q y b E z B C D)) else (flow_ends.j2 k G I F true l p q y b E z B C D)) else ((flow_register.f l p q y b true B).bind fun a1 => (flow_ends.j2 k G I F (!a1) l p q y b E z B C D))) else (if B = 0 then (if D = 0 then (if z = 2 then (if C = 0 then (flow_ends.j2 k G I F false l p q y b E z B C D) else (flow_ends.j2 k G I F true l p q y b E z B C D)) else (flow_ends.j2 k G I F false l p q y b E z B C D)) else (flow_ends.j2 k G I F true l p q y b E z B C D)) else (flow_ends.j2 k G I F true l p q y b E z B C D)))
def flow_ends.j2 : Nat → List (S69) → Int → Int → Bool → ByteArray → List (S83) → List (S85) → Int → List (S69) → List (S71) → Int → Int → Int → Int → Option (Bool)
 | 0, _, _, _, _, _, _, _, _, _, _, _, _, _, _ => none
 | k + 1, G, I, F, a4, l, p, q, y, b, E, z, B, C, D => if a4 = true then (some false) else ((flow_next.f E z B C D).bind fun U => (flow_ends.l1 k G I F U (U.length : Int) 0 l p q y b))
def flow_ends.l1 : Nat → List (S69) → Int → Int → List Int → Int → Int → ByteArray → List (S83) → List (S85) → Int → List (S69) → Option (Bool)
 | 0, _, _, _, _, _, _, _, _, _, _, _ => none
 | k + 1, G, I, F, S, a2, O, l, p, q, y, b => if O < a2 then (if 0 ≤ O then (if O < (S.length : Int) then (if (rd S O) < 1 then (some false) else (if (rd S O) ≥ (b.length : Int) then (some false) else (flow_ends.l1 k G I F S a2 (wrap64 (O + 1)) l p q y b))) else (none)) else (none)) else (flow_ends.l0 k G I (wrap64 (F + 1)) l p q y b)
def flow_ends.l2 : Nat → List Bool → List Int → Int → ByteArray → List (S83) → List (S85) → Int → List (S69) → Option (Bool)
 | 0, _, _, _, _, _, _, _, _ => none
 | k + 1, X, M, N, l, p, q, y, b => if N < (M.length : Int) then (if 0 ≤ N then (if 0 ≤ (rd M N) then (if (rd M N) < (b.length : Int) then ((flow_next.f ((rd_T69 b (rd M N)).f0) ((rd_T69 b (rd M N)).f1) ((rd_T69 b (rd M N)).f2) ((rd_T69 b (rd M N)).f3) ((rd_T69 b (rd M N)).f4)).bind fun V => (flow_ends.l3 k X M N V (V.length : Int) 0 l p q y b)) else (none)) else (none)) else (none)) else (some ((M.length : Int) == (b.length : Int)))
def flow_ends.l3 : Nat → List Bool → List Int → Int → List Int → Int → Int → ByteArray → List (S83) → List (S85) → Int → List (S69) → Option (Bool)
 | 0, _, _, _, _, _, _, _, _, _, _, _ => none
 | k + 1, X, M, N, L, R, J, l, p, q, y, b => if J < R then (if 0 ≤ J then (if J < (L.length : Int) then (if 0 ≤ (rd L J) then (if (rd L J) < (X.length : Int) then (if (rdOf false X (rd L J) = true) then (flow_ends.l3 k X M N L R (wrap64 (J + 1)) l p q y b) else (if M.length < 17592186044416 then (flow_ends.l3 k (X.set ((rd L J) : Int).toNat true) (M ++ [rd L J]) N L R (wrap64 (J + 1)) l p q y b) else (none))) else (none)) else (none)) else (none)) else (none)) else (flow_ends.l2 k X M (wrap64 (N + 1)) l p q y b)
end
def flow_ends.f (k : Nat) (l : ByteArray) (p : List (S83)) (q : List (S85)) (y : Int) (b : List (S69)) : Option (Bool) := flow_ends.l0 k b (b.length : Int) 0 l p q y b
def flow_ends.T21 : Bool × List (List Nat × List Nat) := (true, [([], []), ([0], [0]), ([], []), ([], []), ([2, 3], [2, 3]), ([4], [4]), ([1, 5], [1, 5]), ([6], [6]), ([7], [7]), ([8], [8]), ([], [])])
def flow_ends.B21 : List Nat := [0, 1, 0, 0, 12, 28, 63, 127, 255, 511, 0]
theorem flow_ends.tab21 : rtab .any (opsOf Tryd.f60 21) = flow_ends.T21 := by kernel_rfl
theorem flow_ends.bits21 : waitsOk flow_ends.T21.2 flow_ends.B21 = true := by kernel_rfl
theorem flow_ends.calls {k : Nat} {X : ByteArray} {a6 : Option Addr} {a7 : Nat} {L : List (S83)} {a8 : Option Addr} {a9 : Nat} {O : List (S85)} {a0 : Int} {e0 : Option Addr} {b0 : Nat} {q : List (S69)} {r : Bool} {w : World} (k6 : q5 w a6 a7 L a8 a9 O e0 b0 q) (h : flow_ends.f k X L O a0 q = some r) :
  Calls Tryd.prog 60 #[.agg #[.string X, .slice a6 L.length a7, .slice a8 O.length a9, .int .i64 a0, .slice e0 q.length b0]] w fun e w' => e = .returned (.bool r) ∧ Below w.heap.size w w' := by
 obtain ⟨_, _, _, _, e2, _⟩ := q_O k6; have W1 := Tryd.underlying26; have W2 := Tryd.underlying69; have T := a_ (Below.refl w.heap.size w); have H : (flow_ends.l0 k q (q.length : Int) 0 X L O a0 q) = some r := h
 clear h; have H' := a_ H
 clear H; go_enter Tryd.func60, Tryd.ntmps60
 go_wp2_with (first | ((with_reducible refine gd_ 1 rfl ?_); (try (refine gate_guard (by rfl) ?_; dsimp only)); refine q_box 1 26 #[.string X, .slice a6 L.length a7, .slice a8 O.length a9, .int .i64 a0, .slice e0 q.length b0] ?_; intro a5 hg w2 e5 hb; have l := a_ e5; have R3 := a_ (q_ge T.out hg); have z := a_ (q_ge T.out hg); replace T := a_ (q_st T.out hb); clear hb e5 hg; obtain ⟨s9, t0, t1, t2, t3, t4, t5, t6, t7, t8⟩ := q_cf5 l.out))
 go_loopg [15] k (fun kq R4 w' => ∃ (B : Int), R4 = .int .i64 B ∧ Aside0 (flow_ends.l0 kq q (q.length : Int) B X L O a0 q = some r) ∧ Aside0 (kq ≤ k) ∧ Aside0 (w'.heap[a5]? = some (.cells #[.string X, (.slice a6 L.length a7), (.slice a8 O.length a9), .int .i64 a0, (.slice e0 q.length b0)] 26 (0, 0))) ∧ Aside0 (Below w.heap.size w w'))
 case atStart => exact ⟨(0), q_r, H', ⟨Nat.le_refl _⟩, ⟨q_k l.out⟩, ⟨q_w1 T.out z.out⟩⟩
 case round => (
 clear H'; clear s9 t0 t1 t2 t3 t4 t5 t6 t7 t8; obtain ⟨B, rfl, HA, b2, l, T⟩ := hrel; cases gk with
 | zero => exact absurd HA.out (by simp [flow_ends.l0])
 | succ k1 => (
 have H := HA.out; clear HA; simp only [flow_ends.l0] at H
 rcases q_ite H with ⟨c4b0, H⟩ | ⟨c4b0, H⟩
 {
 replace H := q_gD H; obtain ⟨-, c5b0, H⟩ := H; replace H := q_gD H; obtain ⟨-, c6b0, H⟩ := H; have x5 := a_ H; clear H; obtain ⟨g6, d0, d1, z2, n1, n2, n3, n4, n5, e6, e7, z3, z4⟩ := b_T69 e2.out T.out B; cases z2; have n6 := a_ e7; have n7 := a_ e6; clear e7 e6; go_upto_region 4 with (first | ((with_reducible refine gd_ 4 rfl ?_); (try (refine gate_guard (by rfl) ?_; dsimp only)); refine q_box 4 69 #[.slice none 0 0, .int .i64 0, .int .i64 0, .int .i64 0, .int .i64 0] ?_; intro g7 hg w8 e5 hb; have D := a_ e5; have R5 := a_ (q_ge1 T.out hg z.out); have U := a_ (q_ge1 T.out hg z.out); have E := a_ (q_ne l.out hg); have F := a_ (q_en l.out hg); replace l := a_ (q_bk l.out hb); replace T := a_ (q_st1 T.out hb z.out); clear hb e5 hg; have W3 := F.out; have W4 := E.out; obtain ⟨n8, n9, o0, o1, o2, o3, o4, o5, o6, o7⟩ := q_cf5 D.out))
 (try simp only [Act.put, List.setIfInBounds_toArray, List.set_cons_zero, List.set_cons_succ])
 go_cut [26] (fun R6 wc => ∃ (kq : Nat) (e3 : Bool), R6 = .bool e3 ∧ Aside0 (flow_ends.j1 kq q (q.length : Int) B e3 X L O a0 q ((rd_T69 q B).f0) ((rd_T69 q B).f1) ((rd_T69 q B).f2) ((rd_T69 q B).f3) ((rd_T69 q B).f4) = some r) ∧ Aside0 (kq ≤ k1) ∧ Aside0 (wc.heap[a5]? = some (.cells #[.string X, (.slice a6 L.length a7), (.slice a8 O.length a9), .int .i64 a0, (.slice (some g6) q.length b0)] 26 (0, 0))) ∧ Aside0 (wc.heap[g7]? = some (.cells #[(.slice d0 ((rd_T69 q B).f0).length d1), .int .i64 ((rd_T69 q B).f1), .int .i64 ((rd_T69 q B).f2), .int .i64 ((rd_T69 q B).f3), .int .i64 ((rd_T69 q B).f4)] 69 (0, 0))) ∧ Aside0 (Below w.heap.size w wc))
 case first => (
 have H := x5.out; clear x5; rcases q_ite H with ⟨c11b0, H⟩ | ⟨c11b0, H⟩
 {
 (first | rw [c11b0] | (simp only [i64_w, i32_w]; rw [c11b0]) | skip)
 have H' := a_ H
 clear H; have R7 := F.out; have R8 := E.out; obtain ⟨z5, z6, z7, z8, z9, A0, A1, A2, A3, A4⟩ := q_cf5 D.out; go_wp2
 go_meet
 case rel => exact ⟨_, (true), q_r, H', ⟨q_n b2.out⟩, ⟨q_f1 l.out E.out⟩, ⟨q_p D.out⟩, ⟨q_w2 T.out z.out U.out⟩⟩}
 {
 (first | rw [c11b0] | (simp only [i64_w, i32_w]; rw [c11b0]) | skip)
 have H' := a_ H
 clear H; have R9 := F.out; have S0 := E.out; obtain ⟨A5, A6, A7, A8, A9, B2, B3, B6, B7, C0⟩ := q_cf5 D.out; go_wp2
 go_meet
 case rel => exact ⟨_, (decide (((rd_T69 q B).f1) > 2)), q_r, H', ⟨q_n b2.out⟩, ⟨q_f1 l.out E.out⟩, ⟨q_p D.out⟩, ⟨q_w2 T.out z.out U.out⟩⟩})
 case rest => (
 clear x5 c4b0 c5b0 c6b0 n8 n9 o0 o1 o2 o3 o4 o5 o6 o7 n1 n2 n3 n4 n5 z3 z4; obtain ⟨kq, e3, rfl, HA, c8, l, D, T⟩ := hcut; cases kq with
 | zero => exact absurd HA.out (by simp [flow_ends.j1])
 | succ S1 => (
 have H := HA.out; clear HA; simp only [flow_ends.j1] at H
 cases e3
 {
 replace H := q_if H; have o8 := a_ H; clear H; go_upto_region 6 with (fail)
 go_cut [61] (fun S2 wc => ∃ (kq : Nat) (d2 : Bool), S2 = .bool d2 ∧ Aside0 (flow_ends.j2 kq q (q.length : Int) B d2 X L O a0 q ((rd_T69 q B).f0) ((rd_T69 q B).f1) ((rd_T69 q B).f2) ((rd_T69 q B).f3) ((rd_T69 q B).f4) = some r) ∧ Aside0 (kq ≤ S1) ∧ Aside0 (wc.heap[a5]? = some (.cells #[.string X, (.slice a6 L.length a7), (.slice a8 O.length a9), .int .i64 a0, (.slice (some g6) q.length b0)] 26 (0, 0))) ∧ Aside0 (wc.heap[g7]? = some (.cells #[(.slice d0 ((rd_T69 q B).f0).length d1), .int .i64 ((rd_T69 q B).f1), .int .i64 ((rd_T69 q B).f2), .int .i64 ((rd_T69 q B).f3), .int .i64 ((rd_T69 q B).f4)] 69 (0, 0))) ∧ Aside0 (Below w.heap.size w wc))
 case first => (
 have H := o8.out; clear o8; replace H := q_iBN H; rcases H with ⟨-, c18b0, c18b1, H⟩ | ⟨X8, c18b0, c18b1, H⟩
 {
 (first | rw [c18b0] | (simp only [i64_w, i32_w]; rw [c18b0]) | skip)
 replace H := q_iBN H; rcases H with ⟨-, c19b0, c19b1, H⟩ | ⟨X9, c19b0, c19b1, H⟩
 {
 replace H := q_iBN H; rcases H with ⟨-, c20b0, c20b1, H⟩ | ⟨Y0, c20b0, c20b1, H⟩
 {
 replace H := q_bd H; obtain ⟨C1, v5, H⟩ := H; have S3 := a_ v5; clear v5; have H' := a_ H
 clear H; have S4 := F.out; have S5 := E.out; obtain ⟨C2, C3, C4, C5, C6, C7, C8, C9, D0, D1⟩ := q_cf5 D.out; obtain ⟨D2, D3, D4, D5, D6, D7, D8, D9, E0, E1⟩ := q_cf5 l.out; go_wp2_with (first | (go_at_call 73; (with_reducible refine (flow_register.calls (q_F k6 T.out) S3.out).mono ?_); rintro e Y1 ⟨rfl, hb⟩; replace l := a_ (q_bk l.out hb); replace D := a_ (q_bk D.out hb); replace T := a_ (q_st2 T.out hb z.out U.out); (clear hb)))
 go_meet
 case rel => exact ⟨_, (!C1), q_r, H', ⟨by have := b2.out; have := c8.out; first | omega | exact Nat.le_refl _⟩, ⟨q_k l.out⟩, ⟨q_k D.out⟩, ⟨q_w2 T.out z.out U.out⟩⟩}
 {
 have H' := a_ H
 clear H; have S6 := F.out; have S7 := E.out; obtain ⟨E2, E3, E4, E5, E6, E7, E8, E9, F0, F1⟩ := q_cf5 D.out; go_wp2
 go_meet
 case rel => exact ⟨_, (true), q_r, H', ⟨by have := b2.out; have := c8.out; first | omega | exact Nat.le_refl _⟩, ⟨q_k l.out⟩, ⟨q_k D.out⟩, ⟨q_w2 T.out z.out U.out⟩⟩}}
 {
 replace H := q_bd H; obtain ⟨F2, v6, H⟩ := H; have S8 := a_ v6; clear v6; have H' := a_ H
 clear H; have S9 := F.out; have T2 := E.out; obtain ⟨F3, F4, F5, F6, F7, F8, F9, G0, G1, G2⟩ := q_cf5 D.out; obtain ⟨G3, G4, G5, G6, G7, G8, G9, H0, H1, H2⟩ := q_cf5 l.out; go_wp2_with (first | (go_at_call 73; (with_reducible refine (flow_register.calls (q_F k6 T.out) S8.out).mono ?_); rintro e Y2 ⟨rfl, hb⟩; replace l := a_ (q_bk l.out hb); replace D := a_ (q_bk D.out hb); replace T := a_ (q_st2 T.out hb z.out U.out); (clear hb)))
 go_meet
 case rel => exact ⟨_, (!F2), q_r, H', ⟨by have := b2.out; have := c8.out; first | omega | exact Nat.le_refl _⟩, ⟨q_k l.out⟩, ⟨q_k D.out⟩, ⟨q_w2 T.out z.out U.out⟩⟩}}
 {
 (first | rw [c18b0] | (simp only [i64_w, i32_w]; rw [c18b0]) | skip)
 replace H := q_iBN H; rcases H with ⟨-, c33b0, c33b1, H⟩ | ⟨Y3, c33b0, c33b1, H⟩
 {
 replace H := q_iBN H; rcases H with ⟨-, c34b0, c34b1, H⟩ | ⟨Y4, c34b0, c34b1, H⟩
 {
 replace H := q_iBN H; rcases H with ⟨-, c35b0, c35b1, H⟩ | ⟨Y5, c35b0, c35b1, H⟩
 {
 replace H := q_iBN H; rcases H with ⟨-, c36b0, c36b1, H⟩ | ⟨Y6, c36b0, c36b1, H⟩
 {
 have H' := a_ H
 clear H; have T3 := F.out; have T6 := E.out; obtain ⟨H3, H4, H5, H6, H7, H8, H9, I0, I1, I2⟩ := q_cf5 D.out; go_wp2
 go_meet
 case rel => exact ⟨_, (false), q_r, H', ⟨by have := b2.out; have := c8.out; first | omega | exact Nat.le_refl _⟩, ⟨q_k l.out⟩, ⟨q_k D.out⟩, ⟨q_w2 T.out z.out U.out⟩⟩}
 {
 have H' := a_ H
 clear H; have T7 := F.out; have U0 := E.out; obtain ⟨I3, I4, I5, I6, I7, I8, I9, J0, J1, J2⟩ := q_cf5 D.out; go_wp2
 go_meet
 case rel => exact ⟨_, (true), q_r, H', ⟨by have := b2.out; have := c8.out; first | omega | exact Nat.le_refl _⟩, ⟨q_k l.out⟩, ⟨q_k D.out⟩, ⟨q_w2 T.out z.out U.out⟩⟩}}
 {
 have H' := a_ H
 clear H; have U1 := F.out; have U2 := E.out; obtain ⟨J3, J4, J5, J6, J7, J8, J9, K0, K1, K2⟩ := q_cf5 D.out; go_wp2
 go_meet
 case rel => exact ⟨_, (false), q_r, H', ⟨by have := b2.out; have := c8.out; first | omega | exact Nat.le_refl _⟩, ⟨q_k l.out⟩, ⟨q_k D.out⟩, ⟨q_w2 T.out z.out U.out⟩⟩}}
 {
 have H' := a_ H
 clear H; have U3 := F.out; have U4 := E.out; obtain ⟨K3, K4, K5, K6, K7, K8, K9, L0, L1, L2⟩ := q_cf5 D.out; go_wp2
 go_meet
 case rel => exact ⟨_, (true), q_r, H', ⟨by have := b2.out; have := c8.out; first | omega | exact Nat.le_refl _⟩, ⟨q_k l.out⟩, ⟨q_k D.out⟩, ⟨q_w2 T.out z.out U.out⟩⟩}}
 {
 have H' := a_ H
 clear H; have U5 := F.out; have U6 := E.out; obtain ⟨L3, L4, L5, L6, L7, L8, L9, M0, M1, M2⟩ := q_cf5 D.out; go_wp2
 go_meet
 case rel => exact ⟨_, (true), q_r, H', ⟨by have := b2.out; have := c8.out; first | omega | exact Nat.le_refl _⟩, ⟨q_k l.out⟩, ⟨q_k D.out⟩, ⟨q_w2 T.out z.out U.out⟩⟩}})
 case rest => (
 clear o8; obtain ⟨kq, d2, rfl, HA, i5, l, D, T⟩ := hcut; cases kq with
 | zero => exact absurd HA.out (by simp [flow_ends.j2])
 | succ v7 => (
 have H := HA.out; clear HA; simp only [flow_ends.j2] at H
 cases d2
 {
 replace H := q_if H; replace H := q_bd H; obtain ⟨d3, w3, H⟩ := H; have U7 := a_ w3; clear w3; have H' := a_ H
 clear H; have U8 := F.out; have U9 := E.out; obtain ⟨o9, p0, p1, p2, p3, p4, p5, p6, p7, p8⟩ := q_cf5 D.out; go_wp2_with (first | ((with_reducible refine gc_ 44 rfl ?_); refine q_gl 63 #[.agg #[.slice d0 ((rd_T69 q B).f0).length d1, .int .i64 ((rd_T69 q B).f1), .int .i64 ((rd_T69 q B).f2), .int .i64 ((rd_T69 q B).f3), .int .i64 ((rd_T69 q B).f4)]] Tryd.func44 rfl ?_; (with_reducible refine (flow_next.calls (q_C (Kd.C_below n6.out T.out)) n7.out U7.out).mono ?_); rintro e Y7 ⟨W5, rfl, j9, hb⟩; refine ⟨_, rfl, ?_⟩; have p9 := a_ (Kd.R_lower j9 (below_size (q_w2 T.out z.out U.out))); replace l := a_ (q_bk l.out hb); replace D := a_ (q_bk D.out hb); replace T := a_ (q_st2 T.out hb z.out U.out); clear hb j9; obtain ⟨M3, M4, M5⟩ := Kd.R_slice p9.out; subst M5))
 go_loopg [65] v7 (fun kq V0 w' => ∃ (a3 : Int), V0 = .int .i64 a3 ∧ Aside0 (flow_ends.l1 kq q (q.length : Int) B d3 (d3.length : Int) a3 X L O a0 q = some r) ∧ Aside0 (kq ≤ v7) ∧ Aside0 (Kd.R (Kd.int .i64) 3 w' w.heap.size (fun _ => True) (.slice M3 d3.length M4) d3) ∧ Aside0 (w'.heap[a5]? = some (.cells #[.string X, (.slice a6 L.length a7), (.slice a8 O.length a9), .int .i64 a0, (.slice (some g6) q.length b0)] 26 (0, 0))) ∧ Aside0 (w'.heap[g7]? = some (.cells #[(.slice d0 ((rd_T69 q B).f0).length d1), .int .i64 ((rd_T69 q B).f1), .int .i64 ((rd_T69 q B).f2), .int .i64 ((rd_T69 q B).f3), .int .i64 ((rd_T69 q B).f4)] 69 (0, 0))) ∧ Aside0 (Below w.heap.size w w'))
 case atStart => exact ⟨(0), q_r, H', ⟨Nat.le_refl _⟩, ⟨q_R p9.out⟩, ⟨q_k l.out⟩, ⟨q_k D.out⟩, ⟨q_w2 T.out z.out U.out⟩⟩
 case round => (
 clear H'; clear o9 p0 p1 p2 p3 p4 p5 p6 p7 p8; obtain ⟨a3, rfl, HA, v1, HO_63, l, D, T⟩ := hrel; cases gk with
 | zero => exact absurd HA.out (by simp [flow_ends.l1])
 | succ k4 => (
 have H := HA.out; clear HA; simp only [flow_ends.l1] at H
 rcases q_ite H with ⟨c53b0, H⟩ | ⟨c53b0, H⟩
 {
 replace H := q_gD H; obtain ⟨-, c54b0, H⟩ := H; replace H := q_gD H; obtain ⟨-, c55b0, H⟩ := H; rcases q_ite H with ⟨c56b0, H⟩ | ⟨c56b0, H⟩
 {
 obtain rfl := q_so H; have b6 : 0 ≤ (a3 : Int) := q_d
 have b7 : a3 < (d3.length : Int) := q_d
 obtain ⟨q0, e8, e9⟩ := Kd.at_int (Kd.R_reads' HO_63.out).2.2 a3 b6 b7; cases e8; replace b6 := eq_true b6; replace b7 := eq_true b7; go_wp2
 go_ret
 exact ⟨q_e, q_w2 T.out z.out U.out⟩}
 {
 rcases q_ite H with ⟨c57b0, H⟩ | ⟨c57b0, H⟩
 {
 obtain rfl := q_so H; have b6 : 0 ≤ (a3 : Int) := q_d
 have b7 : a3 < (d3.length : Int) := q_d
 obtain ⟨q0, e8, e9⟩ := Kd.at_int (Kd.R_reads' HO_63.out).2.2 a3 b6 b7; cases e8; replace b6 := eq_true b6; replace b7 := eq_true b7; have V1 := E.out; have V2 := F.out; obtain ⟨M6, M7, M8, M9, N0, N1, N3, N4, N5, N6⟩ := q_cf5 l.out; go_wp2
 go_ret
 exact ⟨q_e, q_w2 T.out z.out U.out⟩}
 {
 have H' := a_ H
 clear H; have b6 : 0 ≤ (a3 : Int) := q_d
 have b7 : a3 < (d3.length : Int) := q_d
 obtain ⟨q0, e8, e9⟩ := Kd.at_int (Kd.R_reads' HO_63.out).2.2 a3 b6 b7; cases e8; replace b6 := eq_true b6; replace b7 := eq_true b7; have V3 := E.out; have V4 := F.out; obtain ⟨N7, N8, N9, O0, O1, O2, O3, O4, O5, O6⟩ := q_cf5 l.out; go_wp2
 go_roundg k4
 case measure => have := b2.out; have := c8.out; have := i5.out; have := v1.out; omega
 case rel => exact ⟨(wrap64 (a3 + 1)), q_r, H', ⟨by have := b2.out; have := c8.out; have := i5.out; have := v1.out; omega⟩, ⟨q_R HO_63.out⟩, ⟨q_k l.out⟩, ⟨q_k D.out⟩, ⟨q_w2 T.out z.out U.out⟩⟩}}}
 {
 have H' := a_ H
 clear H; go_wp2
 go_roundg k4
 case measure => have := b2.out; have := c8.out; have := i5.out; have := v1.out; omega
 case rel => exact ⟨(wrap64 (B + 1)), q_r, H', ⟨by have := b2.out; have := c8.out; have := i5.out; have := v1.out; omega⟩, ⟨q_k l.out⟩, ⟨q_w2 T.out z.out U.out⟩⟩}))}
 {
 rw [if_pos rfl] at H; obtain rfl := q_so H; go_wp2
 go_ret
 exact ⟨q_e, q_w2 T.out z.out U.out⟩}))}
 {
 rw [if_pos rfl] at H; obtain rfl := q_so H; go_wp2
 go_ret
 exact ⟨q_e, q_w2 T.out z.out U.out⟩}))}
 {
 replace H := q_gED H; obtain ⟨-, c62b0, c62b1, H⟩ := H; replace H := q_gED H; obtain ⟨-, c63b0, c63b1, H⟩ := H; obtain ⟨c6, g8⟩ : ∃ y_ : List Bool, y_ = (List.replicate ((q.length : Int) : Int).toNat false) := ⟨_, rfl⟩; replace H : (if 0 < (c6.length : Int) then (flow_ends.l2 k1 (c6.set (0 : Int).toNat true) (([0] : List Int)) 0 X L O a0 q) else (none)) = some r := q_rw g8 H
 have q1 := a_ g8; clear g8; replace H := q_gD H; obtain ⟨V5, c64b0, H⟩ := H; have c64b1 : decide (0 < c6.length) = true := decide_eq_true (by omega)
 clear V5; obtain ⟨i6, g9⟩ : ∃ y_ : List Bool, y_ = (c6.set (0 : Int).toNat true) := ⟨_, rfl⟩; replace H : (flow_ends.l2 k1 i6 (([0] : List Int)) 0 X L O a0 q) = some r := q_rw g9 H
 have x6 := a_ g9; clear g9; obtain ⟨w4, i0⟩ : ∃ y_ : List Int, y_ = (([0] : List Int)) := ⟨_, rfl⟩; replace H : (flow_ends.l2 k1 i6 w4 0 X L O a0 q) = some r := q_rw i0 H
 have q2 := a_ i0; clear i0; have H' := a_ H
 clear H; obtain ⟨q3, q4, q5, q6, q7, q8, q9, r0, r1, r2⟩ := q_cf5 l.out; go_wp2_with (first | ((with_reducible refine gd_ 83 rfl ?_); (try (refine gate_guard (by rfl) ?_; dsimp only)); refine Kd.R_make Kd.bool _ 4 rfl (N := 83) rfl 37 _ _ rfl (q.length : Int) rfl rfl Tryd.underlying37 (.bool false) 1 info4 rfl (by decide) (by omega) false (ok := fun _ => True) (okp := fun _ => True) rfl (fun _ hk => hk) trivial (q_d) (Nat.le_trans (Nat.mul_le_mul_right _ (q_d : (q.length : Int).toNat ≤ 281474976710656)) (by omega)) (Below.refl _ _) (Nat.le_refl _) ?_; intro W7 O7 f5 hb hg_ hnew_; clear hg_ hnew_; (first | rw [← q1.out] at f5 | (simp only [Int.reduceToNat] at f5; rw [← q1.out] at f5)); have b3 := a_ (Kd.R_lower f5 (below_size (q_w1 T.out z.out))); replace l := a_ (q_bk l.out hb); replace T := a_ (q_st1 T.out hb z.out); clear hb f5; have v2 : 0 ≤ (0 : Int) := (by omega); have v3 : (0 : Int) < ((c6.length : Int) : Int) := q_d; have O8 : (0 < c6.length) = True := eq_true (by omega); obtain ⟨b4, e1, w5, w6, O9, W8, w7⟩ := Kd.R_form b3.out (by omega); (first | cases w5 | (injection w5 with ea_ en_ ec_; (first | subst ea_ | (injection ea_ with ea_; subst ea_)); subst ec_; clear en_)); have w9 := a_ w6; have W9 := a_ w7; clear w6 O9 w7; obtain ⟨e4, i7⟩ := Kd.R_celln false b3.out (0 : Int) v2 v3; (try rw [show ((0 : Int)).toNat = 0 from rfl] at e4); (try simp only [Nat.reduceMul, Nat.zero_mul, Nat.zero_add, Nat.reduceAdd] at e4); (try rw [show ((0 : Int)).toNat = 0 from rfl] at i7); (try simp only [Nat.reduceMul, Nat.zero_mul, Nat.zero_add, Nat.reduceAdd] at i7); replace v2 := eq_true v2; replace v3 := eq_true v3; obtain ⟨r3, r4⟩ := Kd.R_celln false b3.out (0 : Int) (by omega) (q_d); (try simp only [Int.reduceToNat, Int.toNat_zero, Int.toNat_ofNat, Nat.reduceMul, Nat.zero_mul, Nat.zero_add] at r3 r4); (try rw [show ((0 : Int)).toNat = 0 from rfl] at r3); (try rw [show ((0 : Int)).toNat = 0 from rfl] at r4); have r5 := Kd.R_putg b3.out (0 : Int) true) | ((with_reducible refine gate_store (t := 4) (p := 85) rfl ?_); refine store_event (t := 4) (p := 85) (v := ?vo_w70) (w1 := (O7.setCell ⟨b4, (0 : Int).toNat, none⟩ (.bool true))) ?hg ?ho ?hn ?hr ?_; (case ho => rfl); (case hg => rfl); (case hn => rfl); (case hr => first | (go_simp; done) | (go_simp; rfl)); intro x7 hw; have hg : O7.grownBy x7 (some b4) := (by rw [hw]; exact r5.2); have hp_ : Kd.R Kd.bool 4 x7 w.heap.size (fun _ => True) (.slice (some ⟨b4, 0, none⟩) c6.length e1) i6 := (by rw [hw, x6.out]; exact r5.1); clear r5; replace l := a_ (blk_grown (g := a5) (o := .cells #[.string X, .slice a6 L.length a7, .slice a8 O.length a9, .int .i64 a0, .slice e0 q.length b0] 26 (0, 0)) (q_k l.out) hg (Kd.R_ne b3.out l.out (by decide))); replace b3 := a_ hp_; replace T := a_ (by rw [hw]; exact below_set (T.out) w9.out : Below w.heap.size w x7); clear hg hw hp_) | ((with_reducible refine gd_ 86 rfl ?_); (try (refine gate_guard (by rfl) ?_; dsimp only)); refine Kd.R_lit (Kd.int .i64) _ 3 ?hg (N := 86) ?hd (xs := ([0] : List Int)) (inner := [.int .i64 0]) (ok := fun _ => True) (okp := fun _ => True) ?hr ?hp (fun _ hk => hk) trivial (Below.refl _ _) (Nat.le_refl _) (by simp) ?_; (case hd => rfl); (case hg => rfl); (case hr => first | (go_simp; done) | (go_simp; rfl)); (case hp => exact (Reps.one (show Kd.M (Kd.int .i64) _ _ _ 0 [.int .i64 0] from rfl) (Reps.none _ _))); intro X0 Y8 f6 hb hg_ hnew_; clear hg_ hnew_; (first | rw [← q2.out] at f6 | (simp only [Int.reduceToNat] at f6; rw [← q2.out] at f6)); have x8 := a_ (Kd.R_lower f6 (below_size (q_w1 T.out z.out))); replace b3 := a_ (Kd.R_below (q_R b3.out) hb); replace l := a_ (q_bk l.out hb); replace T := a_ (q_st1 T.out hb z.out); clear hb f6))
 go_loopg [8, 9] k1 (fun kq v8 v9 w' => ∃ (f7 : List Bool) (a1 : List Int) (V : Int), v9 = .int .i64 V ∧ Aside0 (flow_ends.l2 kq f7 a1 V X L O a0 q = some r) ∧ Aside0 (kq ≤ k1) ∧ Aside0 (Kd.R Kd.bool 4 w' w.heap.size (fun _ => True) (.slice (some ⟨b4, 0, none⟩) c6.length e1) f7) ∧ Aside0 (Kd.R (Kd.int .i64) 3 w' w.heap.size (fun _ => True) v8 a1) ∧ Aside0 (w'.heap[a5]? = some (.cells #[.string X, (.slice a6 L.length a7), (.slice a8 O.length a9), .int .i64 a0, (.slice e0 q.length b0)] 26 (0, 0))) ∧ Aside0 (Below w.heap.size w w'))
 case atStart => exact ⟨(i6), (w4), (0), q_r, H', ⟨Nat.le_refl _⟩, ⟨q_R b3.out⟩, ⟨q_R x8.out⟩, ⟨q_k l.out⟩, ⟨q_w1 T.out z.out⟩⟩
 case round => (
 clear H'; clear c4b0 c62b0 c62b1 c63b0 c63b1 c64b0 c64b1 v2 v3 O8 q3 q4 q5 q6 q7 q8 q9 r0 r1 r2 e4; obtain ⟨f7, a1, V, rfl, HA, k0, HO_7, HO_8, l, T⟩ := hrel; have I := (Kd.R_reads' HO_7.out).1; rw [I] at HO_7; (try simp only [I])
 (try simp only [I] at l)
 (try simp only [I] at HO_8)
 cases gk with
 | zero => exact absurd HA.out (by simp [flow_ends.l2])
 | succ k2 => (
 have H := HA.out; clear HA; simp only [flow_ends.l2] at H
 replace H := q_iD H; rcases H with ⟨x9, c73b0, H⟩ | ⟨x9, c73b0, H⟩
 {
 have c73b7 := c73b0; (try simp only [I] at c73b7)
 clear x9; replace H := q_gD H; obtain ⟨-, c74b0, H⟩ := H; replace H := q_gD H; obtain ⟨-, c75b0, H⟩ := H; replace H := q_gD H; obtain ⟨-, c76b0, H⟩ := H; replace H := q_bd H; obtain ⟨G, x0, H⟩ := H; have V6 := a_ x0; clear x0; have H' := a_ H
 clear H; obtain ⟨X2, X3, P0⟩ := Kd.R_slice HO_8.out; subst P0; try go_wp2
 have r6 := a_ (Kd.R_drew HO_7.out); have r7 := a_ (Kd.R_drew HO_8.out); have r8 := a_ (blk_drew l.out); have r9 := a_ (below_drew1 T.out); clear HO_7 HO_8 l T; have HO_7 := r6; have HO_8 := r7; have l := r8; have T := r9; clear r6 r7 r8 r9; have i8 : 0 ≤ (V : Int) := q_d
 have i9 : V < (a1.length : Int) := q_d
 obtain ⟨y0, P1, d4⟩ := Kd.at_int (Kd.R_reads' HO_8.out).2.2 V i8 i9; cases P1; replace i8 := eq_true i8; replace i9 := eq_true i9; have j3 : 0 ≤ ((rd a1 V) : Int) := q_d
 have j5 : (rd a1 V) < (q.length : Int) := q_d
 obtain ⟨d5, j6, j7, P2, b8, b9, c0, c1, c3, f8, f9⟩ := at_T69 e2.out (rd a1 V) j3 j5; have g0 := c3; have g1 := c1; have g2 := c0; have g3 := b9; have g4 := b8; cases P2; replace b8 := q_kc T.out b8; replace b9 := q_kc T.out b9; replace c0 := q_kc T.out c0; replace c1 := q_kc T.out c1; replace c3 := q_kc T.out c3; have g5 := a_ f9; have s0 := a_ f8; clear f9 f8; replace j3 := eq_true j3; replace j5 := eq_true j5; refine q_s 11 (S := fun w' => cg5 w' a5 (.string X) (.slice a6 L.length a7) (.slice a8 O.length a9) (.int .i64 a0) (.slice (some d5) q.length b0) (w'.cell? (y0.add (V).toNat) = some (.int .i64 (rd a1 V)) ∧ cp5_ w' (d5.add (((rd a1 V)).toNat * 5)) (.slice j6 ((rd_T69 q (rd a1 V)).f0).length j7) (.int .i64 ((rd_T69 q (rd a1 V)).f1)) (.int .i64 ((rd_T69 q (rd a1 V)).f2)) (.int .i64 ((rd_T69 q (rd a1 V)).f3)) (.int .i64 ((rd_T69 q (rd a1 V)).f4)))) (q_g5 l.out ⟨d4, (q_kc T.out g4), (q_kc T.out g3), (q_kc T.out g2), (q_kc T.out g1), (q_kc T.out g0)⟩) (fun c4 => ?_); refine with_tabW flow_ends.tab21 flow_ends.bits21 (fun c9 y1 => ?_)
 generalize wr.drew = Z0 at HO_7 HO_8 l T g5 d4 b8 b9 c0 c1 c3 c4 ⊢
 refine qv_ 0 c9 ?_
 refine qv_ 2 c9 ?_
 refine qv_ 3 c9 ?_
 refine qv_ 4 c9 ?_
 refine qv_ 10 c9 ?_
 refine qt11_ 1 c9 y1 c4 ?_
 refine qt11_ 5 c9 y1 c4 ?_
 refine qv_ 6 c9 ?_
 refine qt11_ 7 c9 y1 c4 ?_
 refine q_o 8 c9 (fun K hK => ?_)
 refine q_go #[.agg #[.slice j6 ((rd_T69 q (rd a1 V)).f0).length j7, .int .i64 ((rd_T69 q (rd a1 V)).f1), .int .i64 ((rd_T69 q (rd a1 V)).f2), .int .i64 ((rd_T69 q (rd a1 V)).f3), .int .i64 ((rd_T69 q (rd a1 V)).f4)]] Tryd.func44 rfl ?_
 with_reducible refine (flow_next.calls (q_C (Kd.C_below g5.out T.out)) s0.out V6.out).mono ?_
 rintro e Z1 ⟨X4, rfl, j9, hb⟩
 have P3 := q_kc hb (c4.2.2.2.2.2.1); refine ⟨_, rfl, ?_⟩
 have s1 := a_ (Kd.R_lower (Kd.R_new' j9 (Kd.R_lt (q_R HO_8.out))) (below_size (q_w1 T.out z.out))); replace HO_7 := a_ (Kd.R_below (q_R HO_7.out) hb); replace HO_8 := a_ (Kd.R_elder' (q_R HO_8.out) (Kd.R_base j9) hb); replace l := a_ (q_bk l.out hb); replace T := a_ (q_st1 T.out hb z.out); (clear hb)
 (clear j9)
 obtain ⟨x1, s2, x2⟩ := Kd.R_slice s1.out; (first | subst x2 | (injection x2 with P4 V7 P5; have V8 := P4.symm; have V9 := P5.symm; clear P4 V7 P5; subst V8; subst V9))
 refine q_nk hK.out (q_g5 l.out ⟨P3, (q_kc T.out g4), (q_kc T.out g3), (q_kc T.out g2), (q_kc T.out g1), (q_kc T.out g0)⟩) (fun c4 => ?_)
 clear hK K
 refine qv_ 9 c9 ?_
 refine done_ (done_of c9.out (by kernel_rfl)) ?_
 try go_wp2
 go_loopg [8, 103] k2 (fun kq v8 P6 w' => ∃ (a4 : List Bool) (b5 : List Int) (y : Int), P6 = .int .i64 y ∧ Aside0 (flow_ends.l3 kq a4 b5 V G (G.length : Int) y X L O a0 q = some r) ∧ Aside0 (kq ≤ k2) ∧ Aside0 (Kd.R Kd.bool 4 w' w.heap.size (fun _ => True) (.slice (some ⟨b4, 0, none⟩) f7.length e1) a4) ∧ Aside0 (Kd.R (Kd.int .i64) 3 w' w.heap.size (fun k_ => some k_ ≠ ((.slice x1 G.length s2) : Value).ownBlock) v8 b5) ∧ Aside0 (Kd.R (Kd.int .i64) 3 w' w.heap.size (fun k_ => some k_ ≠ (v8 : Value).ownBlock) (.slice x1 G.length s2) G) ∧ Aside0 (w'.heap[a5]? = some (.cells #[.string X, (.slice a6 L.length a7), (.slice a8 O.length a9), .int .i64 a0, (.slice (some d5) q.length b0)] 26 (0, 0))) ∧ Aside0 (Below w.heap.size w w'))
 case atStart => exact ⟨(f7), (a1), (0), q_r, H', ⟨Nat.le_refl _⟩, ⟨by (try simp only [I]); (with_reducible repeat (first | apply Kd.R_alloc | apply Kd.R_drewN | apply Kd.R_drew)); exact HO_7.out⟩, ⟨by (try simp only [I]); (with_reducible repeat (first | apply Kd.R_alloc | apply Kd.R_drewN | apply Kd.R_drew)); exact Kd.R_mono HO_8.out (fun _ hk => hk.2)⟩, ⟨by (try simp only [I]); (with_reducible repeat (first | apply Kd.R_alloc | apply Kd.R_drewN | apply Kd.R_drew)); exact Kd.R_mono s1.out (fun _ hk => hk.2)⟩, ⟨by (try simp only [I]); (with_reducible repeat (first | refine blk_drewN ?_ _ | refine blk_drew ?_ | refine blk_alloc ?_ _)); exact l.out⟩, ⟨q_w1 T.out z.out⟩⟩
 case round => (
 clear H'; clear c73b0 c74b0 c75b0 c76b0 d4 b8 b9 c0 c1 c3 i8 j3 i9 j5; obtain ⟨a4, b5, y, rfl, HA, k5, HO_7, HO_8, HO_101, l, T⟩ := hrel; have J := (Kd.R_reads' HO_7.out).1; rw [J] at HO_7; (try simp only [J])
 (try simp only [J] at l)
 (try simp only [J] at HO_8)
 (try simp only [J] at HO_101)
 cases gk with
 | zero => exact absurd HA.out (by simp [flow_ends.l3])
 | succ k3 => (
 have H := HA.out; clear HA; simp only [flow_ends.l3] at H
 replace H := q_iD H; rcases H with ⟨y3, c82b0, H⟩ | ⟨y3, c82b0, H⟩
 {
 have c82b7 := c82b0; (try simp only [I, J] at c82b7)
 clear y3; replace H := q_gD H; obtain ⟨-, c83b0, H⟩ := H; replace H := q_gD H; obtain ⟨W0, c84b0, H⟩ := H; have c84b7 := c84b0; (try simp only [I, J] at c84b7)
 clear W0; replace H := q_gD H; obtain ⟨-, c85b0, H⟩ := H; replace H := q_gD H; obtain ⟨-, c86b0, H⟩ := H; obtain ⟨x3, i1⟩ : ∃ b_ : Bool, b_ = (rdOf false a4 (rd G y)) := ⟨_, rfl⟩; replace H : (if (x3 = true) then (flow_ends.l3 k3 a4 b5 V G (G.length : Int) (wrap64 (y + 1)) X L O a0 q) else (if b5.length < 17592186044416 then (flow_ends.l3 k3 (a4.set ((rd G y) : Int).toNat true) (b5 ++ [rd G y]) V G (G.length : Int) (wrap64 (y + 1)) X L O a0 q) else (none))) = some r := by rw [← i1] at H; exact H
 have s3 := a_ i1; clear i1; by_cases v4 : (x3 = true)
 {
 subst v4; rw [if_pos rfl] at H; have H' := a_ H
 clear H; have d6 : 0 ≤ (y : Int) := q_d
 have d7 : y < (G.length : Int) := q_d
 obtain ⟨s4, s5, s6⟩ := Kd.at_int (Kd.R_reads' HO_101.out).2.2 y d6 d7; cases s5; replace d6 := eq_true d6; replace d7 := eq_true d7; have d8 : 0 ≤ ((rd G y) : Int) := q_d
 have d9 : (rd G y) < (a4.length : Int) := q_d
 obtain ⟨i2, s7, a2⟩ := Kd.at_bool (Kd.R_reads' HO_7.out).2.2 (rd G y) d8 d9; (try rw [← s3.out] at a2)
 obtain rfl : (⟨b4, 0, none⟩ : Addr) = i2 := (by injection s7)
 (first | simp only [add_plain] at a2 | simp only [add_at] at a2 | simp only [Addr.add, Nat.zero_add] at a2 | skip)
 replace d8 := eq_true d8; replace d9 := eq_true d9; go_wp2
 (try simp only [← J])
 go_roundg k3
 case measure => have := b2.out; have := k0.out; have := k5.out; omega
 case rel => exact ⟨(a4), (b5), (wrap64 (y + 1)), q_r, H', ⟨by have := b2.out; have := k0.out; have := k5.out; omega⟩, ⟨by (try simp only [I]); (try simp only [J]); (with_reducible repeat (first | apply Kd.R_alloc | apply Kd.R_drewN | apply Kd.R_drew)); exact HO_7.out⟩, ⟨by (try simp only [I]); (try simp only [J]); (with_reducible repeat (first | apply Kd.R_alloc | apply Kd.R_drewN | apply Kd.R_drew)); exact HO_8.out⟩, ⟨by (try simp only [I]); (try simp only [J]); (with_reducible repeat (first | apply Kd.R_alloc | apply Kd.R_drewN | apply Kd.R_drew)); exact HO_101.out⟩, ⟨by (try simp only [I]); (try simp only [J]); (with_reducible repeat (first | refine blk_drewN ?_ _ | refine blk_drew ?_ | refine blk_alloc ?_ _)); exact l.out⟩, ⟨q_w1 T.out z.out⟩⟩}
 {
 replace v4 := q_bf v4; subst v4; replace H := q_if H; obtain ⟨j8, i3⟩ : ∃ y_ : List Bool, y_ = (a4.set ((rd G y) : Int).toNat true) := ⟨_, rfl⟩; replace H : (if b5.length < 17592186044416 then (flow_ends.l3 k3 j8 (b5 ++ [rd G y]) V G (G.length : Int) (wrap64 (y + 1)) X L O a0 q) else (none)) = some r := q_rw i3 H
 have y4 := a_ i3; clear i3; replace H := q_g H; obtain ⟨P7, H⟩ := H; have y5 := a_ P7; clear P7; obtain ⟨x4, i4⟩ : ∃ y_ : List Int, y_ = (b5 ++ [rd G y]) := ⟨_, rfl⟩; replace H : (flow_ends.l3 k3 j8 x4 V G (G.length : Int) (wrap64 (y + 1)) X L O a0 q) = some r := q_rw i4 H
 have y6 := a_ i4; clear i4; have H' := a_ H
 clear H; have d6 : 0 ≤ (y : Int) := q_d
 have d7 : y < (G.length : Int) := q_d
 obtain ⟨s4, s5, s6⟩ := Kd.at_int (Kd.R_reads' HO_101.out).2.2 y d6 d7; cases s5; replace d6 := eq_true d6; replace d7 := eq_true d7; have d8 : 0 ≤ ((rd G y) : Int) := q_d
 have d9 : (rd G y) < (a4.length : Int) := q_d
 obtain ⟨i2, s7, a2⟩ := Kd.at_bool (Kd.R_reads' HO_7.out).2.2 (rd G y) d8 d9; (try rw [← s3.out] at a2)
 obtain rfl : (⟨b4, 0, none⟩ : Addr) = i2 := (by injection s7)
 (first | simp only [add_plain] at a2 | simp only [add_at] at a2 | simp only [Addr.add, Nat.zero_add] at a2 | skip)
 replace d8 := eq_true d8; replace d9 := eq_true d9; have y7 : 0 ≤ ((rd G y) : Int) := q_d
 have y8 : ((rd G y) : Int) < ((a4.length : Int) : Int) := q_d
 obtain ⟨R1, R2⟩ := Kd.R_celln false HO_7.out ((rd G y) : Int) y7 y8; replace y7 := eq_true y7; replace y8 := eq_true y8; have s8 := Kd.R_putg HO_7.out ((rd G y) : Int) true; go_wp2_with (first | ((with_reducible refine gate_store (t := 4) (p := 114) rfl ?_); refine store_event (t := 4) (p := 114) (v := ?vo_w92) (w1 := (wr.setCell ⟨b4, ((rd G y) : Int).toNat, none⟩ (.bool true))) ?hg ?ho ?hn ?hr ?_; (case ho => rfl); (case hg => rfl); (case hn => rfl); (case hr => first | (go_simp; done) | (go_simp; rfl)); intro y9 hw; have hg : wr.grownBy y9 (some b4) := (by rw [hw]; exact s8.2); have hp_ : Kd.R Kd.bool 4 y9 w.heap.size (fun _ => True) (.slice (some ⟨b4, 0, none⟩) a4.length e1) j8 := (by rw [hw, y4.out]; exact s8.1); clear s8; replace T := a_ (by rw [hw]; exact below_set (T.out) w9.out : Below w.heap.size w y9); replace l := a_ (blk_grown (g := a5) (o := .cells #[.string X, .slice a6 L.length a7, .slice a8 O.length a9, .int .i64 a0, .slice (some d5) q.length b0] 26 (0, 0)) (q_k l.out) hg (Kd.R_ne HO_7.out l.out (by decide))); replace HO_101 := a_ (Kd.R_over' (v := (.slice (some ⟨b4, 0, none⟩) a4.length e1)) (q_R HO_101.out) (Kd.R_typed HO_7.out) (by decide) hg); replace HO_8 := a_ (Kd.R_over' (v := (.slice (some ⟨b4, 0, none⟩) a4.length e1)) (q_R HO_8.out) (Kd.R_typed HO_7.out) (by decide) hg); replace HO_7 := a_ hp_; clear hg hw hp_) | ((with_reducible refine gate_builtin (b := .append) (xs := #[.tmp 115, .tmp 117]) rfl ?_); (try (refine gate_guard (by rfl) ?_; dsimp only)); at_builtin; refine Kd.R_append (Kd.int .i64) (w0 := w) w.heap.size rfl (.tmp 115) (.tmp 117) 27 3 (.int .i64 0) 8 rfl Tryd.underlying27 info3 rfl (by decide) (by omega) u8 b5 (rd G y) [.int .i64 (rd G y)] (fun k_ => some k_ ≠ (.slice (some s4) G.length s2 : Value).ownBlock) (fun _ => False) rfl rfl ?aP (fun _ hk => hk.elim) ?aF ?aO ?aB ?aS ?aL ?_; (case aP => exact rfl); (case aB => exact (q_w1 T.out z.out)); (case aF => exact (fun k_ hk => Kd.fresh' (Kd.R_lt (q_R HO_101.out)) k_ hk)); (case aO => exact (q_R HO_8.out)); (case aS => exact (below_size (q_w1 T.out z.out))); (case aL => have := y5.out; omega); intro X5 Z2 ho hb hg hat; rw [← y6.out] at ho; have r6 := a_ (Kd.R_over' (q_R HO_7.out) (Kd.R_typed (q_R HO_8.out)) (by decide) hg); have r7 := a_ (Kd.R_after (ok := (fun _ => True)) (q_R (Kd.R_mono HO_101.out (fun _ hk => ⟨trivial, hk⟩))) hg hat); have r8 := a_ (blk_grown (g := a5) (o := .cells #[.string X, .slice a6 L.length a7, .slice a8 O.length a9, .int .i64 a0, .slice (some d5) q.length b0] 26 (0, 0)) (q_k l.out) hg (Kd.R_ne HO_8.out l.out (by decide))); have r9 := a_ hb; have P8 := a_ ho; clear HO_7; clear HO_101; clear l; clear T; clear HO_8; have HO_7 := r6; have HO_101 := r7; have l := r8; have T := r9; have z0 := P8; clear r6 r7 r8 r9 P8; clear ho hb hg hat))
 (try simp only [← J])
 go_roundg k3
 case measure => have := b2.out; have := k0.out; have := k5.out; omega
 case rel => exact ⟨(j8), (x4), (wrap64 (y + 1)), q_r, H', ⟨by have := b2.out; have := k0.out; have := k5.out; omega⟩, ⟨by (try simp only [I]); (try simp only [J]); (with_reducible repeat (first | apply Kd.R_alloc | apply Kd.R_drewN | apply Kd.R_drew)); exact HO_7.out⟩, ⟨by (try simp only [I]); (try simp only [J]); (with_reducible repeat (first | apply Kd.R_alloc | apply Kd.R_drewN | apply Kd.R_drew)); exact z0.out⟩, ⟨by (try simp only [I]); (try simp only [J]); (with_reducible repeat (first | apply Kd.R_alloc | apply Kd.R_drewN | apply Kd.R_drew)); exact Kd.R_mono HO_101.out (fun _ hk => hk.2)⟩, ⟨by (try simp only [I]); (try simp only [J]); (with_reducible repeat (first | refine blk_drewN ?_ _ | refine blk_drew ?_ | refine blk_alloc ?_ _)); exact l.out⟩, ⟨q_w1 T.out z.out⟩⟩}}
 {
 have c82b7 := c82b0; (try simp only [I, J] at c82b7)
 clear y3; have H' := a_ H
 clear H; go_wp2
 (try simp only [← I, ← J])
 go_roundg k3
 case measure => have := b2.out; have := k0.out; have := k5.out; omega
 case rel => exact ⟨(a4), (b5), (wrap64 (V + 1)), q_r, H', ⟨by have := b2.out; have := k0.out; have := k5.out; omega⟩, ⟨by (try simp only [I]); (try simp only [J]); (with_reducible repeat (first | apply Kd.R_alloc | apply Kd.R_drewN | apply Kd.R_drew)); exact HO_7.out⟩, ⟨by (try simp only [I]); (try simp only [J]); (with_reducible repeat (first | apply Kd.R_alloc | apply Kd.R_drewN | apply Kd.R_drew)); exact Kd.R_mono HO_8.out (fun _ hk => trivial)⟩, ⟨by (try simp only [I]); (try simp only [J]); (with_reducible repeat (first | refine blk_drewN ?_ _ | refine blk_drew ?_ | refine blk_alloc ?_ _)); exact l.out⟩, ⟨q_w1 T.out z.out⟩⟩}))}
 {
 have c73b7 := c73b0; (try simp only [I, J] at c73b7)
 clear x9; obtain rfl := q_so H; obtain ⟨X6, X7, P9⟩ := Kd.R_slice HO_8.out; subst P9; obtain ⟨Q0, Q1, Q2, Q3, Q4, Q5, Q6, Q7, Q8, Q9⟩ := q_cf5 l.out; go_wp2
 go_ret
 exact ⟨q_e, q_w1 T.out z.out⟩}))}))
mutual
def flow_before.l0 : Nat → List (List Int) → List (S69) → Int → Int → Option ((List (List Int)))
 | 0, _, _, _, _ => none
 | k + 1, y, q, z, p => if p < z then (if 0 ≤ p then (if p < (q.length : Int) then ((flow_next.f ((rd_T69 q p).f0) ((rd_T69 q p).f1) ((rd_T69 q p).f2) ((rd_T69 q p).f3) ((rd_T69 q p).f4)).bind fun C => (flow_before.l1 k y p q z p C (C.length : Int) 0)) else (none)) else (none)) else (some y)
def flow_before.l1 : Nat → List (List Int) → Int → List (S69) → Int → Int → List Int → Int → Int → Option ((List (List Int)))
 | 0, _, _, _, _, _, _, _, _ => none
 | k + 1, y, D, q, z, p, l, B, b => if b < B then (if 0 ≤ b then (if b < (l.length : Int) then (if 0 ≤ (rd l b) then (if (rd l b) < (y.length : Int) then (if ((rd_L2 y (rd l b)).length : Int) = 0 then (if (rd_L2 y (rd l b)).length < 17592186044416 then (flow_before.l1 k (y.set ((rd l b) : Int).toNat ((rd_L2 y (rd l b)) ++ [D])) D q z p l B (wrap64 (b + 1))) else (none)) else (if 0 ≤ (wrap64 (((rd_L2 y (rd l b)).length : Int) - 1)) then (if (wrap64 (((rd_L2 y (rd l b)).length : Int) - 1)) < ((rd_L2 y (rd l b)).length : Int) then (if (rd (rd_L2 y (rd l b)) (wrap64 (((rd_L2 y (rd l b)).length : Int) - 1))) = D then (flow_before.l1 k y D q z p l B (wrap64 (b + 1))) else (if (rd_L2 y (rd l b)).length < 17592186044416 then (flow_before.l1 k (y.set ((rd l b) : Int).toNat ((rd_L2 y (rd l b)) ++ [D])) D q z p l B (wrap64 (b + 1))) else (none))) else (none)) else (none))) else (none)) else (none)) else (none)) else (none)) else (flow_before.l0 k y q z (wrap64 (p + 1)))
end
def flow_before.f (k : Nat) (l : ByteArray) (p : List (S83)) (q : List (S85)) (y : Int) (b : List (S69)) : Option ((List (List Int))) := if 0 ≤ (b.length : Int) then (if ((b.length : Int) : Int).toNat ≤ 11728124029610 then (flow_before.l0 k (List.replicate ((b.length : Int) : Int).toNat []) b (b.length : Int) 0) else (none)) else (none)
theorem flow_before.calls {k : Nat} {b7 : ByteArray} {b8 : Option Addr} {b9 : Nat} {a6 : List (S83)} {c0 : Option Addr} {c1 : Nat} {a7 : List (S85)} {c3 : Int} {l6 : Option Addr} {c4 : Nat} {z : List (S69)} {r : List (List Int)} {w : World} (o5 : q5 w b8 b9 a6 c0 c1 a7 l6 c4 z) (h : flow_before.f k b7 a6 a7 c3 z = some r) :
  Calls Tryd.prog 61 #[.agg #[.string b7, .slice b8 a6.length b9, .slice c0 a7.length c1, .int .i64 c3, .slice l6 z.length c4]] w fun e w' => ∃ B6 : Value, e = .returned (B6) ∧ Kd.S (Kd.slice 3 (Kd.int .i64)) 27 w' w.heap.size (fun _ => True) B6 r ∧ Below w.heap.size w w' := by
 obtain ⟨_, _, _, _, z6, _⟩ := q_O o5; have H2 := Tryd.underlying26; have H3 := Tryd.underlying69; have HB := a_ (Below.refl w.heap.size w); have H : (if 0 ≤ (z.length : Int) then (if ((z.length : Int) : Int).toNat ≤ 11728124029610 then (flow_before.l0 k (List.replicate ((z.length : Int) : Int).toNat []) z (z.length : Int) 0) else (none)) else (none)) = some r := h
 clear h; replace H := q_gED H; obtain ⟨-, c2b0, c2b1, H⟩ := H; replace H := q_gED H; obtain ⟨-, c3b0, c3b1, H⟩ := H; obtain ⟨x8, j9⟩ : ∃ y_ : List (List Int), y_ = (List.replicate ((z.length : Int) : Int).toNat []) := ⟨_, rfl⟩; replace H : (flow_before.l0 k x8 z (z.length : Int) 0) = some r := q_rw j9 H
 have p1 := a_ j9; clear j9; have H' := a_ H
 clear H; go_enter Tryd.func61, Tryd.ntmps61
 go_wp2_with (first | ((with_reducible refine gd_ 1 rfl ?_); refine q_box 1 26 #[.string b7, .slice b8 a6.length b9, .slice c0 a7.length c1, .int .i64 c3, .slice l6 z.length c4] ?_; intro d7 hg w4 g4 hb; have D := a_ g4; have G1 := a_ (q_ge HB.out hg); have I := a_ (q_ge HB.out hg); replace HB := a_ (q_st HB.out hb); clear hb g4 hg; obtain ⟨t8, t9, v0, v1, v2, v3, v4, v5, v6, v7⟩ := q_cf5 D.out) | ((with_reducible refine gd_ 12 rfl ?_); refine Kd.S_make (Kd.slice 3 (Kd.int .i64)) _ 27 rfl (N := 12) rfl 42 _ _ rfl (z.length : Int) rfl rfl Tryd.underlying42 (.slice none 0 0) 24 info27 rfl (by decide) (by omega) [] (ok := fun _ => True) (okp := fun _ => True) ⟨_, rfl, Kd.R_nil _ _ _ _ _⟩ (fun _ hk => hk) trivial (q_d) (Nat.le_trans (Nat.mul_le_mul_right _ (q_d : (z.length : Int).toNat ≤ 11728124029610)) (by omega)) (Below.refl _ _) (Nat.le_refl _) ?_; intro x9 w6 p2 hb hg_ hnew_; clear hg_ hnew_; (first | rw [← p1.out] at p2 | (simp only [Int.reduceToNat] at p2; rw [← p1.out] at p2)); have z7 := a_ (Kd.S_lower p2 (below_size (q_w1 HB.out I.out))); replace D := a_ (q_bk D.out hb); replace HB := a_ (q_st1 HB.out hb I.out); clear hb p2; obtain ⟨v8, v9, w2, w3, w5, w7, w8, w9, x0, x1⟩ := q_cf5 D.out))
 go_loopg [16] k (fun kq G2 w' => ∃ (l7 : List (List Int)) (y : Int), G2 = .int .i64 y ∧ Aside0 (flow_before.l0 kq l7 z (z.length : Int) y = some r) ∧ Aside0 (kq ≤ k) ∧ Aside0 (Kd.S (Kd.slice 3 (Kd.int .i64)) 27 w' w.heap.size (fun _ => True) x9 l7) ∧ Aside0 (w'.heap[d7]? = some (.cells #[.string b7, (.slice b8 a6.length b9), (.slice c0 a7.length c1), .int .i64 c3, (.slice l6 z.length c4)] 26 (0, 0))) ∧ Aside0 (Below w.heap.size w w'))
 case atStart => exact ⟨(x8), (0), q_r, H', ⟨Nat.le_refl _⟩, ⟨q_S z7.out⟩, ⟨q_k D.out⟩, ⟨q_w1 HB.out I.out⟩⟩
 case round => (
 clear H'; clear c2b0 c2b1 c3b0 c3b1 t8 t9 v0 v1 v2 v8 v9 w2 w3 w5 v3 v4 v5 v6 v7 w7 w8 w9 x0 x1; obtain ⟨l7, y, rfl, HA, g5, HO_3, D, HB⟩ := hrel; cases gk with
 | zero => exact absurd HA.out (by simp [flow_before.l0])
 | succ k1 => (
 have H := HA.out; clear HA; simp only [flow_before.l0] at H
 rcases q_ite H with ⟨c9b0, H⟩ | ⟨c9b0, H⟩
 {
 replace H := q_gD H; obtain ⟨-, c10b0, H⟩ := H; replace H := q_gD H; obtain ⟨-, c11b0, H⟩ := H; replace H := q_bd H; obtain ⟨q, y0, H⟩ := H; have G3 := a_ y0; clear y0; have H' := a_ H
 clear H; obtain ⟨e3, a0, a1, B7, p3, p4, p5, p6, p7, g6, g7, C0, C1⟩ := b_T69 z6.out HB.out y; cases B7; have p8 := a_ g7; have p9 := a_ g6; clear g7 g6; go_wp2_with (first | ((with_reducible refine gd_ 5 rfl ?_); refine q_box 5 69 #[.slice none 0 0, .int .i64 0, .int .i64 0, .int .i64 0, .int .i64 0] ?_; intro V hg J0 g4 hb; have F := a_ g4; have G4 := a_ (q_ge1 HB.out hg I.out); have U := a_ (q_ge1 HB.out hg I.out); have e4 := a_ (q_ne D.out hg); have k0 := a_ (q_en D.out hg); replace HO_3 := a_ (Kd.S_below (q_S HO_3.out) hb); replace D := a_ (q_bk D.out hb); replace HB := a_ (q_st1 HB.out hb I.out); clear hb g4 hg; have G5 := k0.out; have G6 := e4.out; obtain ⟨q0, q1, q2, q3, q4, q5, q6, q7, q8, q9⟩ := q_cf5 F.out) | ((with_reducible refine gc_ 44 rfl ?_); refine q_gl 22 #[.agg #[.slice a0 ((rd_T69 z y).f0).length a1, .int .i64 ((rd_T69 z y).f1), .int .i64 ((rd_T69 z y).f2), .int .i64 ((rd_T69 z y).f3), .int .i64 ((rd_T69 z y).f4)]] Tryd.func44 rfl ?_; (with_reducible refine (flow_next.calls (Kd.C_below p8.out (q_w2 HB.out I.out U.out)) p9.out G3.out).mono ?_); rintro e J1 ⟨H5, rfl, z8, hb⟩; refine ⟨_, rfl, ?_⟩; have r0 := a_ (Kd.R_lower z8 (below_size (q_w2 HB.out I.out U.out))); replace HO_3 := a_ (Kd.S_elder' (q_S ((Kd.S_mono (Kd.S_far (p := ⟨V, 4, none⟩) (Kd.S_far (p := ⟨V, 3, none⟩) (Kd.S_far (p := ⟨V, 2, none⟩) (Kd.S_far (p := ⟨V, 1, none⟩) (Kd.S_far (p := ⟨V, 0, none⟩) (Kd.S_types HO_3.out F.out (by decide)) (fun _ hk => hk.2) (.slice a0 ((rd_T69 z y).f0).length a1)) (fun _ hk => hk.2) (.int .i64 ((rd_T69 z y).f1))) (fun _ hk => hk.2) (.int .i64 ((rd_T69 z y).f2))) (fun _ hk => hk.2) (.int .i64 ((rd_T69 z y).f3))) (fun _ hk => hk.2) (.int .i64 ((rd_T69 z y).f4))) (fun _ h_ => h_.1)))) (Kd.R_base z8) hb); replace D := a_ (blk_below (q_f1 D.out e4.out) hb); replace F := a_ (blk_below (g := V) (o := .cells #[.slice a0 ((rd_T69 z y).f0).length a1, .int .i64 ((rd_T69 z y).f1), .int .i64 ((rd_T69 z y).f2), .int .i64 ((rd_T69 z y).f3), .int .i64 ((rd_T69 z y).f4)] 69 (0, 0)) (q_p F.out) hb); replace HB := a_ (q_st2 HB.out hb I.out U.out); clear hb z8; obtain ⟨y1, g1, C2⟩ := Kd.R_slice r0.out; subst C2))
 go_loopg [24] k1 (fun kq G7 w' => ∃ (B : List (List Int)) (l : Int), G7 = .int .i64 l ∧ Aside0 (flow_before.l1 kq B y z (z.length : Int) y q (q.length : Int) l = some r) ∧ Aside0 (kq ≤ k1) ∧ Aside0 (Kd.S (Kd.slice 3 (Kd.int .i64)) 27 w' w.heap.size (fun k_ => some k_ ≠ ((.slice y1 q.length g1) : Value).ownBlock) x9 B) ∧ Aside0 (Kd.R (Kd.int .i64) 3 w' w.heap.size (fun _ => True) (.slice y1 q.length g1) q) ∧ Aside0 (w'.heap[d7]? = some (.cells #[.string b7, (.slice b8 a6.length b9), (.slice c0 a7.length c1), .int .i64 c3, (.slice (some e3) z.length c4)] 26 (0, 0))) ∧ Aside0 (w'.heap[V]? = some (.cells #[(.slice a0 ((rd_T69 z y).f0).length a1), .int .i64 ((rd_T69 z y).f1), .int .i64 ((rd_T69 z y).f2), .int .i64 ((rd_T69 z y).f3), .int .i64 ((rd_T69 z y).f4)] 69 (0, 0))) ∧ Aside0 (Below w.heap.size w w'))
 case atStart => exact ⟨(l7), (0), q_r, H', ⟨Nat.le_refl _⟩, ⟨q_S (Kd.S_mono HO_3.out (fun _ hk => hk.2))⟩, ⟨q_R r0.out⟩, ⟨q_k D.out⟩, ⟨q_k F.out⟩, ⟨q_w2 HB.out I.out U.out⟩⟩
 case round => (
 clear H'; clear c9b0 c10b0 c11b0 q0 q1 q2 q3 q4 q5 q6 q7 q8 q9 p3 p4 p5 p6 p7 C0 C1; obtain ⟨B, l, rfl, HA, g8, HO_3, HO_22, D, F, HB⟩ := hrel; cases gk with
 | zero => exact absurd HA.out (by simp [flow_before.l1])
 | succ k2 => (
 have H := HA.out; clear HA; simp only [flow_before.l1] at H
 rcases q_ite H with ⟨c18b0, H⟩ | ⟨c18b0, H⟩
 {
 replace H := q_gD H; obtain ⟨-, c19b0, H⟩ := H; replace H := q_gD H; obtain ⟨-, c20b0, H⟩ := H; replace H := q_gD H; obtain ⟨-, c21b0, H⟩ := H; replace H := q_gD H; obtain ⟨-, c22b0, H⟩ := H; replace H := q_iBN H; rcases H with ⟨-, c23b0, c23b1, H⟩ | ⟨G8, c23b0, c23b1, H⟩
 {
 replace H := q_g H; obtain ⟨C3, H⟩ := H; have z9 := a_ C3; clear C3; obtain ⟨g9, k3⟩ : ∃ y_ : List Int, y_ = ((rd_L2 B (rd q l)) ++ [y]) := ⟨_, rfl⟩; replace H : (flow_before.l1 k2 (B.set ((rd q l) : Int).toNat g9) y z (z.length : Int) y q (q.length : Int) (wrap64 (l + 1))) = some r := q_rw k3 H
 have A0 := a_ k3; clear k3; obtain ⟨r1, k4⟩ : ∃ y_ : List (List Int), y_ = (B.set ((rd q l) : Int).toNat g9) := ⟨_, rfl⟩; replace H : (flow_before.l1 k2 r1 y z (z.length : Int) y q (q.length : Int) (wrap64 (l + 1))) = some r := q_rw k4 H
 have A1 := a_ k4; clear k4; have H' := a_ H
 clear H; have a8 : 0 ≤ (l : Int) := q_d
 have a9 : l < (q.length : Int) := q_d
 obtain ⟨d8, i0, i1⟩ := Kd.at_int (Kd.R_reads' HO_22.out).2.2 l a8 a9; cases i0; replace a8 := eq_true a8; replace a9 := eq_true a9; obtain ⟨H6, y2, C4⟩ := Kd.S_slice HO_3.out; subst C4; have a2 : 0 ≤ ((rd q l) : Int) := q_d
 have a3 : (rd q l) < (B.length : Int) := q_d
 obtain ⟨d9, e0, b5, i2, G, M, O⟩ := at_L2 (Kd.S_reads' HO_3.out).2.2 (rd q l) a2 a3; cases i2; obtain ⟨r2, c6, c8, a4⟩ := Kd.S_get HO_3.out [] (rd q l) a2 (by first | exact a3 | exact q_d | (have e_ := (Kd.S_reads' HO_3.out).1; omega))
 obtain ⟨i3, rfl, J⟩ := c8; have E := a4 0 _ rfl; rw [Nat.add_zero, show ((Kd.slice 3 (Kd.int .i64))).sz = 1 from rfl, Nat.mul_one] at E; replace E := Option.some.inj (E.symm.trans G); rw [E] at J; have c9 := a_ (show Kd.R (Kd.int .i64) 3 _ _ _ _ (rd_L2 B (rd q l)) from J); clear E J; have i4 := a_ G; clear a4 c6; have i5 := a_ O; have i6 := a_ M; clear O M; replace a2 := eq_true a2; replace a3 := eq_true a3; have l8 : 0 ≤ ((rd q l) : Int) := q_d
 have l9 : (rd q l) < (B.length : Int) := q_d
 obtain ⟨A2, F0, F1, C5, d0, i7, i8⟩ := at_L2 (Kd.S_reads' HO_3.out).2.2 (rd q l) l8 l9; obtain rfl : d9 = A2 := (by injection C5)
 obtain ⟨G9, x2, x3, n0⟩ := Kd.S_get HO_3.out [] (rd q l) l8 (by first | exact l9 | exact q_d | (have e_ := (Kd.S_reads' HO_3.out).1; omega))
 obtain ⟨C6, rfl, e5⟩ := x3; have b0 := n0 0 _ rfl; rw [Nat.add_zero, show ((Kd.slice 3 (Kd.int .i64))).sz = 1 from rfl, Nat.mul_one] at b0; replace b0 := Option.some.inj (b0.symm.trans d0); rw [b0] at e5; have d1 := a_ (show Kd.R (Kd.int .i64) 3 _ _ _ _ (rd_L2 B (rd q l)) from e5); clear b0 e5; have r3 := a_ d0; clear n0 x2; have C7 := a_ i8; have C8 := a_ i7; clear i8 i7; replace l8 := eq_true l8; replace l9 := eq_true l9; have ea_ := Option.some.inj (G.symm.trans d0); injection ea_ with ea_ en_ ec_
 subst ea_; subst ec_; clear en_; obtain ⟨n1, H7, y3, y4, C9, H8, y5⟩ := Kd.S_form HO_3.out (by have h_ : ((rd q l) : Int) < ((B.length : Int) : Int) := q_d; have H0 : 0 ≤ ((rd q l) : Int) := (q_d); omega)
 (first | cases y3 | (injection y3 with ea_ en_ ec_; (first | subst ea_ | (injection ea_ with ea_; subst ea_)); subst ec_; clear en_))
 have D0 := a_ y4; have H9 := a_ y5; clear y4 C9 y5; (first | simp only [add_plain] at G | skip)
 (first | simp only [add_plain] at d0 | skip)
 obtain ⟨r4, I0, A3, D1, r5, _, _, y6⟩ := Kd.S_elem HO_3.out [] ((rd q l) : Int) (q_d) (by have h_ : ((rd q l) : Int) < ((B.length : Int) : Int) := q_d; first | exact h_ | (have e_ := (Kd.S_reads' HO_3.out).1; omega) | simpa using h_)
 obtain ⟨F2, rfl, n2⟩ := D1; have i9 := r5 0 _ rfl; have r6 := r3.out; (try simp only [add_plain] at r6)
 (try simp only [Nat.add_zero] at i9)
 (try rw [show ((Kd.slice 3 (Kd.int .i64))).sz = 1 from rfl, Nat.mul_one] at i9)
 replace i9 := Option.some.inj (i9.symm.trans r6); subst i9; clear r6 r5 A3; have r7 := a_ (show Kd.R (Kd.int .i64) 3 _ w.heap.size r4 (.slice e0 (rd_L2 B (rd q l)).length b5) (rd_L2 B (rd q l)) from n2); have e6 := a_ y6; have r8 := a_ (Kd.S_reads' HO_3.out).1; clear y6 n2; go_wp2_with (first | ((with_reducible refine gate_builtin (b := .append) (xs := #[.tmp 52, .tmp 54]) rfl ?_); at_builtin; refine Kd.R_append (Kd.int .i64) (w0 := w) w.heap.size rfl (.tmp 52) (.tmp 54) 27 3 (.int .i64 0) 8 rfl Tryd.underlying27 info3 rfl (by decide) (by omega) (.slice e0 (rd_L2 B (rd q l)).length b5) (rd_L2 B (rd q l)) y [.int .i64 y] (fun k_ => r4 k_ ∨ ((fun k_ => some k_ ≠ (.slice (some d8) q.length g1 : Value).ownBlock)) k_ ∧ wr.heap.size ≤ k_) (fun _ => False) rfl rfl ?aP (fun _ hk => hk.elim) ?aF ?aO ?aB ?aS ?aL ?_; (case aP => exact rfl); (case aB => exact (q_w2 HB.out I.out U.out)); (case aF => exact (fun k_ hk => .inr ⟨Kd.fresh' (Kd.R_lt (q_R HO_22.out)) k_ hk, hk⟩)); (case aO => exact (q_R (Kd.R_mono r7.out (fun _ hk => .inl hk)))); (case aS => exact (below_size (q_w2 HB.out I.out U.out))); (case aL => have := z9.out; omega); intro I1 D2 ho hb hg hat; rw [← A0.out] at ho; have e7 := a_ (Kd.R_grown2 (q_R HO_22.out) rfl hg (fun k_ e_ => (d1.out.1 k_ e_).1)); have e8 := a_ (blk_grown (g := d7) (o := .cells #[.string b7, .slice b8 a6.length b9, .slice c0 a7.length c1, .int .i64 c3, .slice (some e3) z.length c4] 26 (0, 0)) (q_k D.out) hg (Kd.R_ne d1.out D.out (by decide))); have e9 := a_ (blk_grown (g := V) (o := .cells #[.slice a0 ((rd_T69 z y).f0).length a1, .int .i64 ((rd_T69 z y).f1), .int .i64 ((rd_T69 z y).f2), .int .i64 ((rd_T69 z y).f3), .int .i64 ((rd_T69 z y).f4)] 69 (0, 0)) (q_k F.out) hg (Kd.R_ne d1.out F.out (by decide))); have f5 := a_ hb; have f6 := a_ (Kd.H_grown (Kd.H_widen (by repeat (first | exact e6.out | refine Kd.H_alloc ?_ _ | refine Kd.H_drewN ?_ _ | refine Kd.H_drew ?_))) hg (fun k_ e_ => .inl (r7.out.1 k_ e_))); have r9 := a_ ho; clear HO_22; clear D; clear F; clear HB; clear e6; clear HO_3; clear r7; clear c9; clear d1; have HO_22 := e7; have D := e8; have F := e9; have HB := f5; have e6 := f6; have k5 := r9; clear e7 e8 e9 f5 f6 r9; clear ho hb hg hat; have D3 : 0 ≤ ((rd q l) : Int) := q_d; have D4 : ((rd q l) : Int) < ((B.length : Int) : Int) := q_d; replace D3 := eq_true D3; replace D4 := eq_true D4; obtain ⟨y7, y8, D5⟩ := Kd.R_slice k5.out; subst D5; obtain ⟨_, _, e1, _, _, s0, _⟩ := Kd.H_raw e6.out (q_d) (by have h_ : ((rd q l) : Int) < ((B.length : Int) : Int) := q_d; first | exact h_ | (have e_ := (r8.out); omega) | simpa using h_); obtain ⟨_, s1⟩ := Kd.H_at e6.out (q_d) (by have h_ : ((rd q l) : Int) < ((B.length : Int) : Int) := q_d; first | exact h_ | (have e_ := (r8.out); omega) | simpa using h_); have n3 := s0 0 _ rfl; have n4 := s1 0; (try simp only [Nat.add_zero] at n3 n4); (try rw [show ((Kd.slice 3 (Kd.int .i64))).sz = 1 from rfl, Nat.mul_one] at n3); (try rw [show ((Kd.slice 3 (Kd.int .i64))).sz = 1 from rfl, Nat.mul_one] at n4); have n5 := Kd.S_seg0 e6.out (q_d) (by have h_ : ((rd q l) : Int) < ((B.length : Int) : Int) := q_d; first | exact h_ | (have e_ := (r8.out); omega) | simpa using h_) (seg := [.slice y7 g9.length y8]) (j := 0) (show 1 ≤ 1 from by decide) (x' := g9) (Kd.M_row k5.out) (fun _ hk => hk); (try simp only [show ((Kd.slice 3 (Kd.int .i64))).sz = 1 from rfl, Nat.mul_one, Nat.add_zero] at n5); clear s0 s1) | ((with_reducible refine gate_store (t := 27) (p := 56) rfl ?_); refine store_event (t := 27) (p := 56) (v := ?vo_w30) (w1 := (D2.setCell ⟨n1, ((rd q l) : Int).toNat, none⟩ (.slice y7 g9.length y8))) ?hg ?ho ?hn ?hr ?_; (case ho => rfl); (case hg => rfl); (case hn => rfl); (case hr => first | (go_simp; done) | (go_simp; rfl)); intro A4 hw; have hg : D2.grownBy A4 (some n1) := (by rw [hw]; exact n5.2); have hp_ : Kd.S (Kd.slice 3 (Kd.int .i64)) 27 A4 w.heap.size (fun k_ => some k_ ≠ (.slice (some d8) q.length g1 : Value).ownBlock) (.slice (some ⟨n1, 0, none⟩) B.length y2) r1 := (by rw [hw, A1.out]; exact n5.1); clear n5; have e7 := a_ (Kd.R_over' (v := (.slice (some ⟨n1, 0, none⟩) B.length y2)) (q_R HO_22.out) (Kd.R_typed e1) (by decide) hg); have e8 := a_ (blk_grown (g := d7) (o := .cells #[.string b7, .slice b8 a6.length b9, .slice c0 a7.length c1, .int .i64 c3, .slice (some e3) z.length c4] 26 (0, 0)) (q_k D.out) hg (Kd.R_ne e1 D.out (by decide))); have e9 := a_ (blk_grown (g := V) (o := .cells #[.slice a0 ((rd_T69 z y).f0).length a1, .int .i64 ((rd_T69 z y).f1), .int .i64 ((rd_T69 z y).f2), .int .i64 ((rd_T69 z y).f3), .int .i64 ((rd_T69 z y).f4)] 69 (0, 0)) (q_k F.out) hg (Kd.R_ne e1 F.out (by decide))); have f5 := a_ (by rw [hw]; exact below_set HB.out D0.out : Below w.heap.size w A4); have f6 := a_ hp_; clear HO_22; clear D; clear F; clear HB; clear k5; clear e6; have HO_22 := e7; have D := e8; have F := e9; have HB := f5; have HO_3 := f6; clear e7 e8 e9 f5 f6; clear hg hw hp_ e1))
 go_roundg k2
 case measure => have := g5.out; have := g8.out; omega
 case rel => exact ⟨(r1), (wrap64 (l + 1)), q_r, H', ⟨by have := g5.out; have := g8.out; omega⟩, ⟨q_S HO_3.out⟩, ⟨q_R HO_22.out⟩, ⟨q_k D.out⟩, ⟨q_k F.out⟩, ⟨q_w2 HB.out I.out U.out⟩⟩}
 {
 have c23b2 : ¬ ((rd_L2 B (rd q l)) = []) := fun h_ => G8 (by rw [h_]; rfl)
 obtain ⟨b6, k6⟩ : ∃ j_ : Int, (wrap64 (((rd_L2 B (rd q l)).length : Int) - 1)) = j_ := ⟨_, rfl⟩; replace H : (if 0 ≤ (b6) then (if (b6) < ((rd_L2 B (rd q l)).length : Int) then (if (rd (rd_L2 B (rd q l)) (b6)) = y then (flow_before.l1 k2 B y z (z.length : Int) y q (q.length : Int) (wrap64 (l + 1))) else (if (rd_L2 B (rd q l)).length < 17592186044416 then (flow_before.l1 k2 (B.set ((rd q l) : Int).toNat ((rd_L2 B (rd q l)) ++ [y])) y z (z.length : Int) y q (q.length : Int) (wrap64 (l + 1))) else (none))) else (none)) else (none)) = some r := by first | (rw [k6] at H; exact H) | (simp only [k6] at H ⊢; exact H)
 have hji32w : (IntKind.i64.wrap (((rd_L2 B (rd q l)).length : Int) - 1)) = b6 := (i64_w _).trans k6
 replace H := q_gD H; obtain ⟨-, c33b0, H⟩ := H; replace H := q_gD H; obtain ⟨-, c34b0, H⟩ := H; replace H := q_iBN H; rcases H with ⟨-, c35b0, c35b1, H⟩ | ⟨J2, c35b0, c35b1, H⟩
 {
 have H' := a_ H
 clear H; have a8 : 0 ≤ (l : Int) := q_d
 have a9 : l < (q.length : Int) := q_d
 obtain ⟨d8, i0, i1⟩ := Kd.at_int (Kd.R_reads' HO_22.out).2.2 l a8 a9; cases i0; replace a8 := eq_true a8; replace a9 := eq_true a9; obtain ⟨I2, I3, D6⟩ := Kd.S_slice HO_3.out; subst D6; have a2 : 0 ≤ ((rd q l) : Int) := q_d
 have a3 : (rd q l) < (B.length : Int) := q_d
 obtain ⟨d9, e0, b5, i2, G, M, O⟩ := at_L2 (Kd.S_reads' HO_3.out).2.2 (rd q l) a2 a3; cases i2; obtain ⟨r2, c6, c8, a4⟩ := Kd.S_get HO_3.out [] (rd q l) a2 (by first | exact a3 | exact q_d | (have e_ := (Kd.S_reads' HO_3.out).1; omega))
 obtain ⟨i3, rfl, J⟩ := c8; have E := a4 0 _ rfl; rw [Nat.add_zero, show ((Kd.slice 3 (Kd.int .i64))).sz = 1 from rfl, Nat.mul_one] at E; replace E := Option.some.inj (E.symm.trans G); rw [E] at J; have c9 := a_ (show Kd.R (Kd.int .i64) 3 _ _ _ _ (rd_L2 B (rd q l)) from J); clear E J; have i4 := a_ G; clear a4 c6; have i5 := a_ O; have i6 := a_ M; clear O M; replace a2 := eq_true a2; replace a3 := eq_true a3; have d2 : 0 ≤ ((rd q l) : Int) := q_d
 have d3 : (rd q l) < (B.length : Int) := q_d
 obtain ⟨k7, x4, x5, s2, T, b1, b2⟩ := at_L2 (Kd.S_reads' HO_3.out).2.2 (rd q l) d2 d3; obtain rfl : d9 = k7 := (by injection s2)
 obtain ⟨A5, g2, g3, d4⟩ := Kd.S_get HO_3.out [] (rd q l) d2 (by first | exact d3 | exact q_d | (have e_ := (Kd.S_reads' HO_3.out).1; omega))
 obtain ⟨s3, rfl, X⟩ := g3; have L := d4 0 _ rfl; rw [Nat.add_zero, show ((Kd.slice 3 (Kd.int .i64))).sz = 1 from rfl, Nat.mul_one] at L; replace L := Option.some.inj (L.symm.trans T); rw [L] at X; have j3 := a_ (show Kd.R (Kd.int .i64) 3 _ _ _ _ (rd_L2 B (rd q l)) from X); clear L X; have s4 := a_ T; clear d4 g2; have b3 := a_ b2; have s5 := a_ b1; clear b2 b1; replace d2 := eq_true d2; replace d3 := eq_true d3; have ea_ := Option.some.inj (G.symm.trans T); injection ea_ with ea_ en_ ec_
 subst ea_; subst ec_; clear en_; have f7 : 0 ≤ ((b6) : Int) := q_d
 have f8 : (b6) < ((rd_L2 B (rd q l)).length : Int) := q_d
 obtain ⟨k8, s6, s7⟩ := Kd.at_int (by repeat (first | (with_reducible exact b3.out) | with_reducible first | refine Kd.C_alloc ?_ _ | refine Kd.C_drewN ?_ _ | refine Kd.C_drew ?_ | exact b3.out)) (b6) f7 f8
 cases s6; replace f7 := eq_true f7; replace f8 := eq_true f8; go_wp2
 go_roundg k2
 case measure => have := g5.out; have := g8.out; omega
 case rel => exact ⟨(B), (wrap64 (l + 1)), q_r, H', ⟨by have := g5.out; have := g8.out; omega⟩, ⟨q_S HO_3.out⟩, ⟨q_R HO_22.out⟩, ⟨q_k D.out⟩, ⟨q_k F.out⟩, ⟨q_w2 HB.out I.out U.out⟩⟩}
 {
 replace H := q_g H; obtain ⟨D7, H⟩ := H; have A6 := a_ D7; clear D7; obtain ⟨j5, k9⟩ : ∃ y_ : List Int, y_ = ((rd_L2 B (rd q l)) ++ [y]) := ⟨_, rfl⟩; replace H : (flow_before.l1 k2 (B.set ((rd q l) : Int).toNat j5) y z (z.length : Int) y q (q.length : Int) (wrap64 (l + 1))) = some r := q_rw k9 H
 have A7 := a_ k9; clear k9; obtain ⟨s8, l4⟩ : ∃ y_ : List (List Int), y_ = (B.set ((rd q l) : Int).toNat j5) := ⟨_, rfl⟩; replace H : (flow_before.l1 k2 s8 y z (z.length : Int) y q (q.length : Int) (wrap64 (l + 1))) = some r := q_rw l4 H
 have A8 := a_ l4; clear l4; have H' := a_ H
 clear H; have a8 : 0 ≤ (l : Int) := q_d
 have a9 : l < (q.length : Int) := q_d
 obtain ⟨d8, i0, i1⟩ := Kd.at_int (Kd.R_reads' HO_22.out).2.2 l a8 a9; cases i0; replace a8 := eq_true a8; replace a9 := eq_true a9; obtain ⟨I4, y9, D8⟩ := Kd.S_slice HO_3.out; subst D8; have a2 : 0 ≤ ((rd q l) : Int) := q_d
 have a3 : (rd q l) < (B.length : Int) := q_d
 obtain ⟨d9, e0, b5, i2, G, M, O⟩ := at_L2 (Kd.S_reads' HO_3.out).2.2 (rd q l) a2 a3; cases i2; obtain ⟨r2, c6, c8, a4⟩ := Kd.S_get HO_3.out [] (rd q l) a2 (by first | exact a3 | exact q_d | (have e_ := (Kd.S_reads' HO_3.out).1; omega))
 obtain ⟨i3, rfl, J⟩ := c8; have E := a4 0 _ rfl; rw [Nat.add_zero, show ((Kd.slice 3 (Kd.int .i64))).sz = 1 from rfl, Nat.mul_one] at E; replace E := Option.some.inj (E.symm.trans G); rw [E] at J; have c9 := a_ (show Kd.R (Kd.int .i64) 3 _ _ _ _ (rd_L2 B (rd q l)) from J); clear E J; have i4 := a_ G; clear a4 c6; have i5 := a_ O; have i6 := a_ M; clear O M; replace a2 := eq_true a2; replace a3 := eq_true a3; have d2 : 0 ≤ ((rd q l) : Int) := q_d
 have d3 : (rd q l) < (B.length : Int) := q_d
 obtain ⟨k7, x4, x5, s2, T, b1, b2⟩ := at_L2 (Kd.S_reads' HO_3.out).2.2 (rd q l) d2 d3; obtain rfl : d9 = k7 := (by injection s2)
 obtain ⟨A5, g2, g3, d4⟩ := Kd.S_get HO_3.out [] (rd q l) d2 (by first | exact d3 | exact q_d | (have e_ := (Kd.S_reads' HO_3.out).1; omega))
 obtain ⟨s3, rfl, X⟩ := g3; have L := d4 0 _ rfl; rw [Nat.add_zero, show ((Kd.slice 3 (Kd.int .i64))).sz = 1 from rfl, Nat.mul_one] at L; replace L := Option.some.inj (L.symm.trans T); rw [L] at X; have j3 := a_ (show Kd.R (Kd.int .i64) 3 _ _ _ _ (rd_L2 B (rd q l)) from X); clear L X; have s4 := a_ T; clear d4 g2; have b3 := a_ b2; have s5 := a_ b1; clear b2 b1; replace d2 := eq_true d2; replace d3 := eq_true d3; have ea_ := Option.some.inj (G.symm.trans T); injection ea_ with ea_ en_ ec_
 subst ea_; subst ec_; clear en_; have f7 : 0 ≤ ((b6) : Int) := q_d
 have f8 : (b6) < ((rd_L2 B (rd q l)).length : Int) := q_d
 obtain ⟨k8, s6, s7⟩ := Kd.at_int (by repeat (first | (with_reducible exact b3.out) | with_reducible first | refine Kd.C_alloc ?_ _ | refine Kd.C_drewN ?_ _ | refine Kd.C_drew ?_ | exact b3.out)) (b6) f7 f8
 cases s6; replace f7 := eq_true f7; replace f8 := eq_true f8; have n6 : 0 ≤ ((rd q l) : Int) := q_d
 have n7 : (rd q l) < (B.length : Int) := q_d
 obtain ⟨A9, F3, F4, D9, d5, j6, j7⟩ := at_L2 (Kd.S_reads' HO_3.out).2.2 (rd q l) n6 n7; obtain rfl : d9 = A9 := (by injection D9)
 obtain ⟨H1, x6, x7, n8⟩ := Kd.S_get HO_3.out [] (rd q l) n6 (by first | exact n7 | exact q_d | (have e_ := (Kd.S_reads' HO_3.out).1; omega))
 obtain ⟨E0, rfl, f9⟩ := x7; have b4 := n8 0 _ rfl; rw [Nat.add_zero, show ((Kd.slice 3 (Kd.int .i64))).sz = 1 from rfl, Nat.mul_one] at b4; replace b4 := Option.some.inj (b4.symm.trans d5); rw [b4] at f9; have d6 := a_ (show Kd.R (Kd.int .i64) 3 _ _ _ _ (rd_L2 B (rd q l)) from f9); clear b4 f9; have s9 := a_ d5; clear n8 x6; have E1 := a_ j7; have E2 := a_ j6; clear j7 j6; replace n6 := eq_true n6; replace n7 := eq_true n7; have ea_ := Option.some.inj (G.symm.trans d5); injection ea_ with ea_ en_ ec_
 subst ea_; subst ec_; clear en_; obtain ⟨n9, I5, z0, z1, E3, I6, z2⟩ := Kd.S_form HO_3.out (by have h_ : ((rd q l) : Int) < ((B.length : Int) : Int) := q_d; have H0 : 0 ≤ ((rd q l) : Int) := (q_d); omega)
 (first | cases z0 | (injection z0 with ea_ en_ ec_; (first | subst ea_ | (injection ea_ with ea_; subst ea_)); subst ec_; clear en_))
 have E4 := a_ z1; have I7 := a_ z2; clear z1 E3 z2; (first | simp only [add_plain] at G | skip)
 (first | simp only [add_plain] at T | skip)
 (first | simp only [add_plain] at d5 | skip)
 obtain ⟨t0, I8, B2, E5, t1, _, _, z3⟩ := Kd.S_elem HO_3.out [] ((rd q l) : Int) (q_d) (by have h_ : ((rd q l) : Int) < ((B.length : Int) : Int) := q_d; first | exact h_ | (have e_ := (Kd.S_reads' HO_3.out).1; omega) | simpa using h_)
 obtain ⟨F5, rfl, o0⟩ := E5; have j8 := t1 0 _ rfl; have t2 := s9.out; (try simp only [add_plain] at t2)
 (try simp only [Nat.add_zero] at j8)
 (try rw [show ((Kd.slice 3 (Kd.int .i64))).sz = 1 from rfl, Nat.mul_one] at j8)
 replace j8 := Option.some.inj (j8.symm.trans t2); subst j8; clear t2 t1 B2; have t3 := a_ (show Kd.R (Kd.int .i64) 3 _ w.heap.size t0 (.slice (some k8) (rd_L2 B (rd q l)).length b5) (rd_L2 B (rd q l)) from o0); have g0 := a_ z3; have t4 := a_ (Kd.S_reads' HO_3.out).1; clear z3 o0; go_wp2_with (first | ((with_reducible refine gate_builtin (b := .append) (xs := #[.tmp 52, .tmp 54]) rfl ?_); at_builtin; refine Kd.R_append (Kd.int .i64) (w0 := w) w.heap.size rfl (.tmp 52) (.tmp 54) 27 3 (.int .i64 0) 8 rfl Tryd.underlying27 info3 rfl (by decide) (by omega) (.slice (some k8) (rd_L2 B (rd q l)).length b5) (rd_L2 B (rd q l)) y [.int .i64 y] (fun k_ => t0 k_ ∨ ((fun k_ => some k_ ≠ (.slice (some d8) q.length g1 : Value).ownBlock)) k_ ∧ wr.heap.size ≤ k_) (fun _ => False) rfl rfl ?aP (fun _ hk => hk.elim) ?aF ?aO ?aB ?aS ?aL ?_; (case aP => exact rfl); (case aB => exact (q_w2 HB.out I.out U.out)); (case aF => exact (fun k_ hk => .inr ⟨Kd.fresh' (Kd.R_lt (q_R HO_22.out)) k_ hk, hk⟩)); (case aO => exact (q_R (Kd.R_mono t3.out (fun _ hk => .inl hk)))); (case aS => exact (below_size (q_w2 HB.out I.out U.out))); (case aL => have := A6.out; omega); intro I9 E6 ho hb hg hat; rw [← A7.out] at ho; have e7 := a_ (Kd.R_grown2 (q_R HO_22.out) rfl hg (fun k_ e_ => (d6.out.1 k_ e_).1)); have e8 := a_ (blk_grown (g := d7) (o := .cells #[.string b7, .slice b8 a6.length b9, .slice c0 a7.length c1, .int .i64 c3, .slice (some e3) z.length c4] 26 (0, 0)) (q_k D.out) hg (Kd.R_ne d6.out D.out (by decide))); have e9 := a_ (blk_grown (g := V) (o := .cells #[.slice a0 ((rd_T69 z y).f0).length a1, .int .i64 ((rd_T69 z y).f1), .int .i64 ((rd_T69 z y).f2), .int .i64 ((rd_T69 z y).f3), .int .i64 ((rd_T69 z y).f4)] 69 (0, 0)) (q_k F.out) hg (Kd.R_ne d6.out F.out (by decide))); have f5 := a_ hb; have f6 := a_ (Kd.H_grown (Kd.H_widen (by repeat (first | exact g0.out | refine Kd.H_alloc ?_ _ | refine Kd.H_drewN ?_ _ | refine Kd.H_drew ?_))) hg (fun k_ e_ => .inl (t3.out.1 k_ e_))); have r9 := a_ ho; clear HO_22; clear D; clear F; clear HB; clear g0; clear HO_3; clear t3; clear c9; clear j3; clear d6; have HO_22 := e7; have D := e8; have F := e9; have HB := f5; have g0 := f6; have l5 := r9; clear e7 e8 e9 f5 f6 r9; clear ho hb hg hat; have E7 : 0 ≤ ((rd q l) : Int) := q_d; have E8 : ((rd q l) : Int) < ((B.length : Int) : Int) := q_d; replace E7 := eq_true E7; replace E8 := eq_true E8; obtain ⟨z4, z5, E9⟩ := Kd.R_slice l5.out; subst E9; obtain ⟨_, _, e2, _, _, t5, _⟩ := Kd.H_raw g0.out (q_d) (by have h_ : ((rd q l) : Int) < ((B.length : Int) : Int) := q_d; first | exact h_ | (have e_ := (t4.out); omega) | simpa using h_); obtain ⟨_, t6⟩ := Kd.H_at g0.out (q_d) (by have h_ : ((rd q l) : Int) < ((B.length : Int) : Int) := q_d; first | exact h_ | (have e_ := (t4.out); omega) | simpa using h_); have o1 := t5 0 _ rfl; have o2 := t6 0; (try simp only [Nat.add_zero] at o1 o2); (try rw [show ((Kd.slice 3 (Kd.int .i64))).sz = 1 from rfl, Nat.mul_one] at o1); (try rw [show ((Kd.slice 3 (Kd.int .i64))).sz = 1 from rfl, Nat.mul_one] at o2); have o3 := Kd.S_seg0 g0.out (q_d) (by have h_ : ((rd q l) : Int) < ((B.length : Int) : Int) := q_d; first | exact h_ | (have e_ := (t4.out); omega) | simpa using h_) (seg := [.slice z4 j5.length z5]) (j := 0) (show 1 ≤ 1 from by decide) (x' := j5) (Kd.M_row l5.out) (fun _ hk => hk); (try simp only [show ((Kd.slice 3 (Kd.int .i64))).sz = 1 from rfl, Nat.mul_one, Nat.add_zero] at o3); clear t5 t6) | ((with_reducible refine gate_store (t := 27) (p := 56) rfl ?_); refine store_event (t := 27) (p := 56) (v := ?vo_w43) (w1 := (E6.setCell ⟨n9, ((rd q l) : Int).toNat, none⟩ (.slice z4 j5.length z5))) ?hg ?ho ?hn ?hr ?_; (case ho => rfl); (case hg => rfl); (case hn => rfl); (case hr => first | (go_simp; done) | (go_simp; rfl)); intro B3 hw; have hg : E6.grownBy B3 (some n9) := (by rw [hw]; exact o3.2); have hp_ : Kd.S (Kd.slice 3 (Kd.int .i64)) 27 B3 w.heap.size (fun k_ => some k_ ≠ (.slice (some d8) q.length g1 : Value).ownBlock) (.slice (some ⟨n9, 0, none⟩) B.length y9) s8 := (by rw [hw, A8.out]; exact o3.1); clear o3; have e7 := a_ (Kd.R_over' (v := (.slice (some ⟨n9, 0, none⟩) B.length y9)) (q_R HO_22.out) (Kd.R_typed e2) (by decide) hg); have e8 := a_ (blk_grown (g := d7) (o := .cells #[.string b7, .slice b8 a6.length b9, .slice c0 a7.length c1, .int .i64 c3, .slice (some e3) z.length c4] 26 (0, 0)) (q_k D.out) hg (Kd.R_ne e2 D.out (by decide))); have e9 := a_ (blk_grown (g := V) (o := .cells #[.slice a0 ((rd_T69 z y).f0).length a1, .int .i64 ((rd_T69 z y).f1), .int .i64 ((rd_T69 z y).f2), .int .i64 ((rd_T69 z y).f3), .int .i64 ((rd_T69 z y).f4)] 69 (0, 0)) (q_k F.out) hg (Kd.R_ne e2 F.out (by decide))); have f5 := a_ (by rw [hw]; exact below_set HB.out E4.out : Below w.heap.size w B3); have f6 := a_ hp_; clear HO_22; clear D; clear F; clear HB; clear l5; clear g0; have HO_22 := e7; have D := e8; have F := e9; have HB := f5; have HO_3 := f6; clear e7 e8 e9 f5 f6; clear hg hw hp_ e2))
 go_roundg k2
 case measure => have := g5.out; have := g8.out; omega
 case rel => exact ⟨(s8), (wrap64 (l + 1)), q_r, H', ⟨by have := g5.out; have := g8.out; omega⟩, ⟨q_S HO_3.out⟩, ⟨q_R HO_22.out⟩, ⟨q_k D.out⟩, ⟨q_k F.out⟩, ⟨q_w2 HB.out I.out U.out⟩⟩}}}
 {
 have H' := a_ H
 clear H; go_wp2
 go_roundg k2
 case measure => have := g5.out; have := g8.out; omega
 case rel => exact ⟨(B), (wrap64 (y + 1)), q_r, H', ⟨by have := g5.out; have := g8.out; omega⟩, ⟨q_S (Kd.S_mono HO_3.out (fun _ hk => trivial))⟩, ⟨q_k D.out⟩, ⟨q_w2 HB.out I.out U.out⟩⟩}))}
 {
 obtain rfl := q_so H; go_wp2
 go_ret
 exact ⟨_, q_e, q_S HO_3.out, q_w1 HB.out I.out⟩}))
def flow_fields.f (b : Int) : Option (Bool × Bool × Bool × Bool × Bool × Bool × Int × Bool × Bool × Bool × Bool) := if b = 0 then (some (true, false, false, false, false, false, 0, false, true, false, true)) else (if b = 1 then (some (true, true, false, false, false, false, 0, false, false, false, true)) else (if b = 2 then (some (true, true, false, false, false, false, 3, false, false, false, true)) else (if b = 3 then (some (true, true, true, false, false, false, 20, false, false, false, true)) else (if b = 4 then (some (true, false, false, false, false, false, 4, false, false, false, true)) else (if b = 5 then (some (true, false, false, false, false, false, 0, false, false, true, true)) else (if b = 6 then (some (true, true, false, false, true, false, 0, false, false, false, true)) else (if b = 7 then (some (false, true, true, false, true, false, 0, false, false, false, true)) else (if b = 8 then (some (false, true, true, false, true, false, 0, true, false, false, true)) else (if b = 9 then (some (false, false, false, true, false, false, 0, false, false, false, true)) else (if b = 10 then (some (true, true, false, true, false, false, 0, true, false, false, true)) else (if b = 11 then (some (true, false, false, false, false, true, 0, false, false, false, true)) else (some (false, false, false, false, false, false, 0, false, false, false, false)))))))))))))
theorem flow_fields.calls {C : Int} {r1 : Bool} {r2 : Bool} {r3 : Bool} {r4 : Bool} {r5 : Bool} {r6 : Bool} {r7 : Int} {r8 : Bool} {r9 : Bool} {O : Bool} {R : Bool} {w : World} (h : flow_fields.f C = some (r1, r2, r3, r4, r5, r6, r7, r8, r9, O, R)) :
  Calls Tryd.prog 74 #[.int .i64 C] w fun e w' => e = .returned (.tuple #[.agg #[.bool r1, .bool r2, .bool r3, .bool r4, .bool r5, .bool r6, .int .i64 r7, .bool r8, .bool r9, .bool O], .bool R]) ∧ Below w.heap.size w w' := by
 have G1 := Tryd.underlying111; have l := a_ (Below.refl w.heap.size w); have H : (if C = 0 then (some (true, false, false, false, false, false, 0, false, true, false, true)) else (if C = 1 then (some (true, true, false, false, false, false, 0, false, false, false, true)) else (if C = 2 then (some (true, true, false, false, false, false, 3, false, false, false, true)) else (if C = 3 then (some (true, true, true, false, false, false, 20, false, false, false, true)) else (if C = 4 then (some (true, false, false, false, false, false, 4, false, false, false, true)) else (if C = 5 then (some (true, false, false, false, false, false, 0, false, false, true, true)) else (if C = 6 then (some (true, true, false, false, true, false, 0, false, false, false, true)) else (if C = 7 then (some (false, true, true, false, true, false, 0, false, false, false, true)) else (if C = 8 then (some (false, true, true, false, true, false, 0, true, false, false, true)) else (if C = 9 then (some (false, false, false, true, false, false, 0, false, false, false, true)) else (if C = 10 then (some (true, true, false, true, false, false, 0, true, false, false, true)) else (if C = 11 then (some (true, false, false, false, false, true, 0, false, false, false, true)) else (some (false, false, false, false, false, false, 0, false, false, false, false)))))))))))))) = some (r1, r2, r3, r4, r5, r6, r7, r8, r9, O, R) := h
 clear h; replace H := q_iBN H; rcases H with ⟨-, c2b0, c2b1, H⟩ | ⟨c2, c2b0, c2b1, H⟩
 {
 simp only [Option.some.injEq, Prod.mk.injEq] at H
 obtain ⟨rfl, rfl, rfl, rfl, rfl, rfl, rfl, rfl, rfl, rfl, rfl⟩ := H; go_enter Tryd.func74, Tryd.ntmps74
 go_wp2_with (first | ((with_reducible refine gd_ 2 rfl ?_); refine q_box 2 111 #[.bool false, .bool false, .bool false, .bool false, .bool false, .bool false, .int .i64 0, .bool false, .bool false, .bool false] ?_; intro q hg w3 b hb; have p := a_ b; have z := a_ (q_ge l.out hg); have y := a_ (q_ge l.out hg); replace l := a_ (q_st l.out hb); clear hb b hg; obtain ⟨A6, A7, A8, A9, B2, B3, B6, B7, C0, C1, C2, C3, C4, C5, C6, C7, C8, C9, D0, D1⟩ := q_cf10 p.out))
 refine bodyPost_ret (results_ct rfl _ _ q 111 #[.bool true, .bool false, .bool false, .bool false, .bool false, .bool false, .int .i64 0, .bool false, .bool true, .bool false] (0, 0) _ rfl (q_p p.out) Tryd.underlying111 rfl (by kernel_rfl)) rfl ?_
 exact ⟨q_e, q_w1 l.out y.out⟩}
 {
 replace H := q_iBN H; rcases H with ⟨-, c5b0, c5b1, H⟩ | ⟨c5, c5b0, c5b1, H⟩
 {
 simp only [Option.some.injEq, Prod.mk.injEq] at H
 obtain ⟨rfl, rfl, rfl, rfl, rfl, rfl, rfl, rfl, rfl, rfl, rfl⟩ := H; go_enter Tryd.func74, Tryd.ntmps74
 go_wp2_with (first | ((with_reducible refine gd_ 2 rfl ?_); refine q_box 2 111 #[.bool false, .bool false, .bool false, .bool false, .bool false, .bool false, .int .i64 0, .bool false, .bool false, .bool false] ?_; intro q hg w6 b hb; have p := a_ b; have z := a_ (q_ge l.out hg); have y := a_ (q_ge l.out hg); replace l := a_ (q_st l.out hb); clear hb b hg; obtain ⟨D2, D3, D4, D5, D6, D7, D8, D9, E0, E1, E2, E3, E4, E5, E6, E7, E8, E9, F0, F1⟩ := q_cf10 p.out))
 refine bodyPost_ret (results_ct rfl _ _ q 111 #[.bool true, .bool true, .bool false, .bool false, .bool false, .bool false, .int .i64 0, .bool false, .bool false, .bool false] (0, 0) _ rfl (q_p p.out) Tryd.underlying111 rfl (by kernel_rfl)) rfl ?_
 exact ⟨q_e, q_w1 l.out y.out⟩}
 {
 replace H := q_iBN H; rcases H with ⟨-, c8b0, c8b1, H⟩ | ⟨c8, c8b0, c8b1, H⟩
 {
 simp only [Option.some.injEq, Prod.mk.injEq] at H
 obtain ⟨rfl, rfl, rfl, rfl, rfl, rfl, rfl, rfl, rfl, rfl, rfl⟩ := H; go_enter Tryd.func74, Tryd.ntmps74
 go_wp2_with (first | ((with_reducible refine gd_ 2 rfl ?_); refine q_box 2 111 #[.bool false, .bool false, .bool false, .bool false, .bool false, .bool false, .int .i64 0, .bool false, .bool false, .bool false] ?_; intro q hg w9 b hb; have p := a_ b; have z := a_ (q_ge l.out hg); have y := a_ (q_ge l.out hg); replace l := a_ (q_st l.out hb); clear hb b hg; obtain ⟨y6, y7, y8, y9, z0, z1, z2, z3, z4, z5, z6, z7, z8, z9, A0, A1, A2, A3, A4, A5⟩ := q_cf10 p.out))
 refine bodyPost_ret (results_ct rfl _ _ q 111 #[.bool true, .bool true, .bool false, .bool false, .bool false, .bool false, .int .i64 3, .bool false, .bool false, .bool false] (0, 0) _ rfl (q_p p.out) Tryd.underlying111 rfl (by kernel_rfl)) rfl ?_
 exact ⟨q_e, q_w1 l.out y.out⟩}
 {
 replace H := q_iBN H; rcases H with ⟨-, c11b0, c11b1, H⟩ | ⟨I7, c11b0, c11b1, H⟩
 {
 simp only [Option.some.injEq, Prod.mk.injEq] at H
 obtain ⟨rfl, rfl, rfl, rfl, rfl, rfl, rfl, rfl, rfl, rfl, rfl⟩ := H; go_enter Tryd.func74, Tryd.ntmps74
 go_wp2_with (first | ((with_reducible refine gd_ 2 rfl ?_); refine q_box 2 111 #[.bool false, .bool false, .bool false, .bool false, .bool false, .bool false, .int .i64 0, .bool false, .bool false, .bool false] ?_; intro q hg H0 b hb; have p := a_ b; have z := a_ (q_ge l.out hg); have y := a_ (q_ge l.out hg); replace l := a_ (q_st l.out hb); clear hb b hg; obtain ⟨b0, b1, b2, b3, b4, b5, b6, b7, b8, b9, c0, c1, c3, c4, c6, c9, d0, d1, d2, d3⟩ := q_cf10 p.out))
 refine bodyPost_ret (results_ct rfl _ _ q 111 #[.bool true, .bool true, .bool true, .bool false, .bool false, .bool false, .int .i64 20, .bool false, .bool false, .bool false] (0, 0) _ rfl (q_p p.out) Tryd.underlying111 rfl (by kernel_rfl)) rfl ?_
 exact ⟨q_e, q_w1 l.out y.out⟩}
 {
 replace H := q_iBN H; rcases H with ⟨-, c14b0, c14b1, H⟩ | ⟨H1, c14b0, c14b1, H⟩
 {
 simp only [Option.some.injEq, Prod.mk.injEq] at H
 obtain ⟨rfl, rfl, rfl, rfl, rfl, rfl, rfl, rfl, rfl, rfl, rfl⟩ := H; go_enter Tryd.func74, Tryd.ntmps74
 go_wp2_with (first | ((with_reducible refine gd_ 2 rfl ?_); refine q_box 2 111 #[.bool false, .bool false, .bool false, .bool false, .bool false, .bool false, .int .i64 0, .bool false, .bool false, .bool false] ?_; intro S hg H2 b hb; have D := a_ b; have G2 := a_ (q_ge l.out hg); have T := a_ (q_ge l.out hg); replace l := a_ (q_st l.out hb); clear hb b hg; obtain ⟨d4, d5, d6, d7, d8, d9, e0, e1, e2, e3, e4, e5, e6, e7, e8, e9, f0, f1, f2, f3⟩ := q_cf10 D.out))
 refine bodyPost_ret (results_ct rfl _ _ S 111 #[.bool true, .bool false, .bool false, .bool false, .bool false, .bool false, .int .i64 4, .bool false, .bool false, .bool false] (0, 0) _ rfl (q_p D.out) Tryd.underlying111 rfl (by kernel_rfl)) rfl ?_
 exact ⟨q_e, q_w1 l.out T.out⟩}
 {
 replace H := q_iBN H; rcases H with ⟨-, c17b0, c17b1, H⟩ | ⟨H3, c17b0, c17b1, H⟩
 {
 simp only [Option.some.injEq, Prod.mk.injEq] at H
 obtain ⟨rfl, rfl, rfl, rfl, rfl, rfl, rfl, rfl, rfl, rfl, rfl⟩ := H; go_enter Tryd.func74, Tryd.ntmps74
 go_wp2_with (first | ((with_reducible refine gd_ 2 rfl ?_); refine q_box 2 111 #[.bool false, .bool false, .bool false, .bool false, .bool false, .bool false, .int .i64 0, .bool false, .bool false, .bool false] ?_; intro U hg H4 b hb; have E := a_ b; have G3 := a_ (q_ge l.out hg); have V := a_ (q_ge l.out hg); replace l := a_ (q_st l.out hb); clear hb b hg; obtain ⟨f4, f5, f6, f7, f8, f9, g0, g1, g2, g3, g4, g5, g6, g7, g8, g9, i0, i1, i2, i3⟩ := q_cf10 E.out))
 refine bodyPost_ret (results_ct rfl _ _ U 111 #[.bool true, .bool false, .bool false, .bool false, .bool false, .bool false, .int .i64 0, .bool false, .bool false, .bool true] (0, 0) _ rfl (q_p E.out) Tryd.underlying111 rfl (by kernel_rfl)) rfl ?_
 exact ⟨q_e, q_w1 l.out V.out⟩}
 {
 replace H := q_iBN H; rcases H with ⟨-, c20b0, c20b1, H⟩ | ⟨H5, c20b0, c20b1, H⟩
 {
 simp only [Option.some.injEq, Prod.mk.injEq] at H
 obtain ⟨rfl, rfl, rfl, rfl, rfl, rfl, rfl, rfl, rfl, rfl, rfl⟩ := H; go_enter Tryd.func74, Tryd.ntmps74
 go_wp2_with (first | ((with_reducible refine gd_ 2 rfl ?_); refine q_box 2 111 #[.bool false, .bool false, .bool false, .bool false, .bool false, .bool false, .int .i64 0, .bool false, .bool false, .bool false] ?_; intro X hg H6 b hb; have F := a_ b; have G4 := a_ (q_ge l.out hg); have a1 := a_ (q_ge l.out hg); replace l := a_ (q_st l.out hb); clear hb b hg; obtain ⟨i4, i5, i6, i7, i8, i9, j3, j5, j6, j7, j8, j9, k0, k1, k2, k3, k4, k5, k6, k7⟩ := q_cf10 F.out))
 refine bodyPost_ret (results_ct rfl _ _ X 111 #[.bool true, .bool true, .bool false, .bool false, .bool true, .bool false, .int .i64 0, .bool false, .bool false, .bool false] (0, 0) _ rfl (q_p F.out) Tryd.underlying111 rfl (by kernel_rfl)) rfl ?_
 exact ⟨q_e, q_w1 l.out a1.out⟩}
 {
 replace H := q_iBN H; rcases H with ⟨-, c23b0, c23b1, H⟩ | ⟨H7, c23b0, c23b1, H⟩
 {
 simp only [Option.some.injEq, Prod.mk.injEq] at H
 obtain ⟨rfl, rfl, rfl, rfl, rfl, rfl, rfl, rfl, rfl, rfl, rfl⟩ := H; go_enter Tryd.func74, Tryd.ntmps74
 go_wp2_with (first | ((with_reducible refine gd_ 2 rfl ?_); refine q_box 2 111 #[.bool false, .bool false, .bool false, .bool false, .bool false, .bool false, .int .i64 0, .bool false, .bool false, .bool false] ?_; intro a2 hg H8 b hb; have G := a_ b; have G5 := a_ (q_ge l.out hg); have a3 := a_ (q_ge l.out hg); replace l := a_ (q_st l.out hb); clear hb b hg; obtain ⟨k8, k9, l4, l5, l6, l7, l8, l9, n0, n1, n2, n3, n4, n5, n6, n7, n8, n9, o0, o1⟩ := q_cf10 G.out))
 refine bodyPost_ret (results_ct rfl _ _ a2 111 #[.bool false, .bool true, .bool true, .bool false, .bool true, .bool false, .int .i64 0, .bool false, .bool false, .bool false] (0, 0) _ rfl (q_p G.out) Tryd.underlying111 rfl (by kernel_rfl)) rfl ?_
 exact ⟨q_e, q_w1 l.out a3.out⟩}
 {
 replace H := q_iBN H; rcases H with ⟨-, c26b0, c26b1, H⟩ | ⟨H9, c26b0, c26b1, H⟩
 {
 simp only [Option.some.injEq, Prod.mk.injEq] at H
 obtain ⟨rfl, rfl, rfl, rfl, rfl, rfl, rfl, rfl, rfl, rfl, rfl⟩ := H; go_enter Tryd.func74, Tryd.ntmps74
 go_wp2_with (first | ((with_reducible refine gd_ 2 rfl ?_); refine q_box 2 111 #[.bool false, .bool false, .bool false, .bool false, .bool false, .bool false, .int .i64 0, .bool false, .bool false, .bool false] ?_; intro a4 hg I0 b hb; have I := a_ b; have G6 := a_ (q_ge l.out hg); have a5 := a_ (q_ge l.out hg); replace l := a_ (q_st l.out hb); clear hb b hg; obtain ⟨o2, o3, o4, o5, o6, o7, o8, o9, p0, p1, p2, p3, p4, p5, p6, p7, p8, p9, q0, q1⟩ := q_cf10 I.out))
 refine bodyPost_ret (results_ct rfl _ _ a4 111 #[.bool false, .bool true, .bool true, .bool false, .bool true, .bool false, .int .i64 0, .bool true, .bool false, .bool false] (0, 0) _ rfl (q_p I.out) Tryd.underlying111 rfl (by kernel_rfl)) rfl ?_
 exact ⟨q_e, q_w1 l.out a5.out⟩}
 {
 replace H := q_iBN H; rcases H with ⟨-, c29b0, c29b1, H⟩ | ⟨I1, c29b0, c29b1, H⟩
 {
 simp only [Option.some.injEq, Prod.mk.injEq] at H
 obtain ⟨rfl, rfl, rfl, rfl, rfl, rfl, rfl, rfl, rfl, rfl, rfl⟩ := H; go_enter Tryd.func74, Tryd.ntmps74
 go_wp2_with (first | ((with_reducible refine gd_ 2 rfl ?_); refine q_box 2 111 #[.bool false, .bool false, .bool false, .bool false, .bool false, .bool false, .int .i64 0, .bool false, .bool false, .bool false] ?_; intro a6 hg I2 b hb; have J := a_ b; have G7 := a_ (q_ge l.out hg); have a7 := a_ (q_ge l.out hg); replace l := a_ (q_st l.out hb); clear hb b hg; obtain ⟨q2, q3, q4, q5, q6, q7, q8, q9, r0, s0, s1, s2, s3, s4, s5, s6, s7, s8, s9, t0⟩ := q_cf10 J.out))
 refine bodyPost_ret (results_ct rfl _ _ a6 111 #[.bool false, .bool false, .bool false, .bool true, .bool false, .bool false, .int .i64 0, .bool false, .bool false, .bool false] (0, 0) _ rfl (q_p J.out) Tryd.underlying111 rfl (by kernel_rfl)) rfl ?_
 exact ⟨q_e, q_w1 l.out a7.out⟩}
 {
 replace H := q_iBN H; rcases H with ⟨-, c32b0, c32b1, H⟩ | ⟨I3, c32b0, c32b1, H⟩
 {
 simp only [Option.some.injEq, Prod.mk.injEq] at H
 obtain ⟨rfl, rfl, rfl, rfl, rfl, rfl, rfl, rfl, rfl, rfl, rfl⟩ := H; go_enter Tryd.func74, Tryd.ntmps74
 go_wp2_with (first | ((with_reducible refine gd_ 2 rfl ?_); refine q_box 2 111 #[.bool false, .bool false, .bool false, .bool false, .bool false, .bool false, .int .i64 0, .bool false, .bool false, .bool false] ?_; intro a8 hg I4 b hb; have L := a_ b; have G8 := a_ (q_ge l.out hg); have a9 := a_ (q_ge l.out hg); replace l := a_ (q_st l.out hb); clear hb b hg; obtain ⟨t1, t2, t3, t4, t5, t6, t7, t8, t9, v0, v1, v2, v3, v4, v5, v6, v7, v8, v9, w2⟩ := q_cf10 L.out))
 refine bodyPost_ret (results_ct rfl _ _ a8 111 #[.bool true, .bool true, .bool false, .bool true, .bool false, .bool false, .int .i64 0, .bool true, .bool false, .bool false] (0, 0) _ rfl (q_p L.out) Tryd.underlying111 rfl (by kernel_rfl)) rfl ?_
 exact ⟨q_e, q_w1 l.out a9.out⟩}
 {
 replace H := q_iBN H; rcases H with ⟨-, c35b0, c35b1, H⟩ | ⟨I5, c35b0, c35b1, H⟩
 all_goals (
 simp only [Option.some.injEq, Prod.mk.injEq] at H
 obtain ⟨rfl, rfl, rfl, rfl, rfl, rfl, rfl, rfl, rfl, rfl, rfl⟩ := H; go_enter Tryd.func74, Tryd.ntmps74
 go_wp2_with (first | ((with_reducible refine gd_ 2 rfl ?_); refine q_box 2 111 #[.bool false, .bool false, .bool false, .bool false, .bool false, .bool false, .int .i64 0, .bool false, .bool false, .bool false] ?_; intro M hg I6 b hb; have B := a_ b; have G9 := a_ (q_ge l.out hg); have N := a_ (q_ge l.out hg); replace l := a_ (q_st l.out hb); clear hb b hg; obtain ⟨w4, w5, w7, w8, x0, x1, x2, x3, x4, x5, x6, x7, x8, x9, y0, y1, y2, y3, y4, y5⟩ := q_cf10 B.out)))
 {
 refine bodyPost_ret (results_ct rfl _ _ M 111 #[.bool true, .bool false, .bool false, .bool false, .bool false, .bool true, .int .i64 0, .bool false, .bool false, .bool false] (0, 0) _ rfl (q_p B.out) Tryd.underlying111 rfl (by kernel_rfl)) rfl ?_
 exact ⟨q_e, q_w1 l.out N.out⟩}
 {
 refine bodyPost_ret (results_ct rfl _ _ M 111 #[.bool false, .bool false, .bool false, .bool false, .bool false, .bool false, .int .i64 0, .bool false, .bool false, .bool false] (0, 0) _ rfl (q_p B.out) Tryd.underlying111 rfl (by kernel_rfl)) rfl ?_
 exact ⟨q_e, q_w1 l.out N.out⟩}}}}}}}}}}}}
def flow_array.f (q : ByteArray) (b : List (S83)) (p : List (S85)) (y : Int) (z : List (S69)) (l : Int) : Option (Bool) := if l ≥ 6 then (some (decide ((wrap64 (l)) < (wrap64 (6 + (p.length : Int)))))) else (if l ≥ 0 then (if (wrap64 (l)) < (b.length : Int) then (if 0 ≤ l then (if l < (b.length : Int) then (some ((rd_T83 b l).f1)) else (none)) else (none)) else (some false)) else (some false))
theorem flow_array.calls {D : ByteArray} {E : Option Addr} {F : Nat} {b : List (S83)} {G : Option Addr} {I : Nat} {p : List (S85)} {J : Int} {L : Option Addr} {M : Nat} {y : List (S69)} {R : Int} {r : Bool} {w : World} (S : q5 w E F b G I p L M y) (h : flow_array.f D b p J y R = some r) :
  Calls Tryd.prog 85 #[.agg #[.string D, .slice E b.length F, .slice G p.length I, .int .i64 J, .slice L y.length M], .int .i32 R] w fun e w' => e = .returned (.bool r) ∧ Below w.heap.size w w' := by
 obtain ⟨a4, _, _, _, _, _⟩ := q_O S; have e7 := Tryd.underlying26; have B := a_ (Below.refl w.heap.size w); have H : (if R ≥ 6 then (some (decide ((wrap64 (R)) < (wrap64 (6 + (p.length : Int)))))) else (if R ≥ 0 then (if (wrap64 (R)) < (b.length : Int) then (if 0 ≤ R then (if R < (b.length : Int) then (some ((rd_T83 b R).f1)) else (none)) else (none)) else (some false)) else (some false))) = some r := h
 clear h; rcases q_ite H with ⟨c3b0, H⟩ | ⟨c3b0, H⟩
 {
 obtain rfl := q_so H; go_enter Tryd.func85, Tryd.ntmps85
 go_wp2_with (first | ((with_reducible refine gd_ 2 rfl ?_); (try (refine gate_guard (by rfl) ?_; dsimp only)); refine q_box 2 26 #[.string D, .slice E b.length F, .slice G p.length I, .int .i64 J, .slice L y.length M] ?_; intro N hg w4 l hb; have z := a_ l; have O := a_ (q_ge B.out hg); have q := a_ (q_ge B.out hg); replace B := a_ (q_st B.out hb); clear hb l hg; obtain ⟨d1, d2, d3, d4, d5, d6, d7, d8, d9, e0⟩ := q_cf5 z.out))
 go_ret
 exact ⟨q_e, q_w1 B.out q.out⟩}
 {
 rcases q_ite H with ⟨c6b0, H⟩ | ⟨c6b0, H⟩
 {
 rcases q_ite H with ⟨c7b0, H⟩ | ⟨c7b0, H⟩
 {
 replace H := q_gD H; obtain ⟨-, c8b0, H⟩ := H; replace H := q_gD H; obtain ⟨-, c9b0, H⟩ := H; obtain rfl := q_so H; go_enter Tryd.func85, Tryd.ntmps85
 go_wp2_with (first | ((with_reducible refine gd_ 2 rfl ?_); (try (refine gate_guard (by rfl) ?_; dsimp only)); refine q_box 2 26 #[.string D, .slice E b.length F, .slice G p.length I, .int .i64 J, .slice L y.length M] ?_; intro N hg e8 l hb; have z := a_ l; have O := a_ (q_ge B.out hg); have q := a_ (q_ge B.out hg); replace B := a_ (q_st B.out hb); clear hb l hg; obtain ⟨a5, a6, a7, a8, a9, b0, b1, b2, b3, b4⟩ := q_cf5 z.out; have a2 : 0 ≤ (R : Int) := q_d; have a3 : R < (b.length : Int) := q_d; obtain ⟨e6, b5, b6, b7, a2, a3⟩ := b_T83 a4.out B.out R a2 a3; cases b5))
 go_ret
 exact ⟨q_e, q_w1 B.out q.out⟩}
 {
 obtain rfl := q_so H; go_enter Tryd.func85, Tryd.ntmps85
 go_wp2_with (first | ((with_reducible refine gd_ 2 rfl ?_); (try (refine gate_guard (by rfl) ?_; dsimp only)); refine q_box 2 26 #[.string D, .slice E b.length F, .slice G p.length I, .int .i64 J, .slice L y.length M] ?_; intro N hg e9 l hb; have z := a_ l; have O := a_ (q_ge B.out hg); have q := a_ (q_ge B.out hg); replace B := a_ (q_st B.out hb); clear hb l hg; obtain ⟨b8, b9, c0, c1, c3, c4, c6, c8, c9, d0⟩ := q_cf5 z.out))
 go_ret
 exact ⟨q_e, q_w1 B.out q.out⟩}}
 {
 obtain rfl := q_so H; go_enter Tryd.func85, Tryd.ntmps85
 go_wp2_with (first | ((with_reducible refine gd_ 2 rfl ?_); (try (refine gate_guard (by rfl) ?_; dsimp only)); refine q_box 2 26 #[.string D, .slice E b.length F, .slice G p.length I, .int .i64 J, .slice L y.length M] ?_; intro N hg f0 l hb; have z := a_ l; have O := a_ (q_ge B.out hg); have q := a_ (q_ge B.out hg); replace B := a_ (q_st B.out hb); clear hb l hg))
 go_ret
 exact ⟨q_e, q_w1 B.out q.out⟩}}
def flow_imm.f (p : ByteArray) (l : List (S83)) (q : List (S85)) (y : Int) (z : List (S69)) (G : Bool) (I : Bool) (J : Bool) (B : Bool) (C : Bool) (L : Bool) (M : Int) (N : Bool) (D : Bool) (E : Bool) (O : Int) (R : Int) (S : Int) (T : Int) (U : Int) (b : Int) (V : List Int) : Option (Bool) := if D = true then (some true) else (if E = true then (if b ≥ 0 then (if (wrap64 (b)) < (l.length : Int) then (if 0 ≤ b then (if b < (l.length : Int) then (some (!((rd_T83 l b).f1))) else (none)) else (none)) else (some false)) else (some false)) else (if C = true then ((flow_array.f p l q y z b).bind fun F => (some F)) else (if B = true then (if b ≥ 0 then (some (decide (b ≤ 400))) else (some false)) else (some (b == 0)))))
theorem flow_imm.calls {T : ByteArray} {V : Option Addr} {X : Nat} {N : List (S83)} {a0 : Option Addr} {a1 : Nat} {O : List (S85)} {U : Int} {a2 : Option Addr} {a3 : Nat} {R : List (S69)} {a4 : Bool} {a5 : Bool} {a6 : Bool} {c6 : Bool} {c8 : Bool} {a7 : Bool} {a8 : Int} {a9 : Bool} {d0 : Bool} {c9 : Bool} {b0 : Int} {b1 : Int} {b2 : Int} {b3 : Int} {b4 : Int} {J : Int} {b5 : Option Addr} {b6 : Nat} {S : List Int} {r : Bool} {w : World} (d1 : q5 w V X N a0 a1 O a2 a3 R) (d7 : Kd.C (Kd.int .i64) w b5 S.length S) (d8 : S.length ≤ b6) (h : flow_imm.f T N O U R a4 a5 a6 c6 c8 a7 a8 a9 d0 c9 b0 b1 b2 b3 b4 J S = some r) :
  Calls Tryd.prog 75 #[.agg #[.string T, .slice V N.length X, .slice a0 O.length a1, .int .i64 U, .slice a2 R.length a3], .agg #[.bool a4, .bool a5, .bool a6, .bool c6, .bool c8, .bool a7, .int .i64 a8, .bool a9, .bool d0, .bool c9], .agg #[.int .i64 b0, .int .i64 b1, .int .i64 b2, .int .i64 b3, .int .i64 b4, .int .i32 J, .slice b5 S.length b6]] w fun e w' => e = .returned (.bool r) ∧ Below w.heap.size w w' := by
 obtain ⟨d9, _, _, _, _, _⟩ := q_O d1; have S2 := Tryd.underlying26; have N5 := Tryd.underlying111; have S3 := Tryd.underlying71; have N6 := a_ d7; have N7 := a_ d8; clear d7 d8; have I := a_ (Below.refl w.heap.size w); have H : (if d0 = true then (some true) else (if c9 = true then (if J ≥ 0 then (if (wrap64 (J)) < (N.length : Int) then (if 0 ≤ J then (if J < (N.length : Int) then (some (!((rd_T83 N J).f1))) else (none)) else (none)) else (some false)) else (some false)) else (if c8 = true then ((flow_array.f T N O U R J).bind fun e3 => (some e3)) else (if c6 = true then (if J ≥ 0 then (some (decide (J ≤ 400))) else (some false)) else (some (J == 0)))))) = some r := h
 clear h; cases d0
 {
 replace H := q_if H; cases c9
 {
 replace H := q_if H; cases c8
 {
 replace H := q_if H; cases c6
 {
 replace H := q_if H; obtain rfl := q_so H; go_enter Tryd.func75, Tryd.ntmps75
 go_wp2_with (first | ((with_reducible refine gd_ 3 rfl ?_); (try (refine gate_guard (by rfl) ?_; dsimp only)); refine q_box 3 26 #[.string T, .slice V N.length X, .slice a0 O.length a1, .int .i64 U, .slice a2 R.length a3] ?_; intro b7 hg V3 p hb; have b := a_ p; have b8 := a_ (q_ge I.out hg); have l := a_ (q_ge I.out hg); replace I := a_ (q_st I.out hb); clear hb p hg) | ((with_reducible refine gd_ 4 rfl ?_); (try (refine gate_guard (by rfl) ?_; dsimp only)); refine q_box 4 111 #[.bool a4, .bool a5, .bool a6, .bool false, .bool false, .bool a7, .int .i64 a8, .bool a9, .bool false, .bool false] ?_; intro b9 hg V4 p hb; have q := a_ p; have c0 := a_ (q_ge1 I.out hg l.out); have y := a_ (q_ge1 I.out hg l.out); have z := a_ (q_ne b.out hg); have B := a_ (q_en b.out hg); replace b := a_ (q_bk b.out hb); replace I := a_ (q_st1 I.out hb l.out); clear hb p hg) | ((with_reducible refine gd_ 5 rfl ?_); (try (refine gate_guard (by rfl) ?_; dsimp only)); refine q_box 5 71 #[.int .i64 b0, .int .i64 b1, .int .i64 b2, .int .i64 b3, .int .i64 b4, .int .i32 J, .slice b5 S.length b6] ?_; intro c1 hg V5 p hb; have L := a_ p; have c3 := a_ (q_ge2 I.out hg l.out y.out); have M := a_ (q_ge2 I.out hg l.out y.out); have F := a_ (q_ne b.out hg); have G := a_ (q_en b.out hg); have D := a_ (q_ne q.out hg); have E := a_ (q_en q.out hg); replace b := a_ (q_bk b.out hb); replace q := a_ (q_bk q.out hb); replace I := a_ (q_st2 I.out hb l.out y.out); clear hb p hg; have R6 := B.out; have R7 := z.out; have R8 := D.out; have R9 := E.out; obtain ⟨J9, K0, K1, K2, K3, K4, K5, K6, K7, K8, K9, L0, L1, L2, L3, L4, L5, L6, L7, L8⟩ := q_cf10 q.out; have S0 := G.out; have S1 := F.out; obtain ⟨L9, M0, M1, M2, M3, M4, M5, M6, M7, M8, M9, N0, N1, N3⟩ := q_cf7 L.out))
 go_ret
 exact ⟨q_e, q_w3 I.out l.out y.out M.out⟩}
 {
 rw [if_pos rfl] at H; rcases q_ite H with ⟨c55b0, H⟩ | ⟨c55b0, H⟩
 {
 obtain rfl := q_so H; go_enter Tryd.func75, Tryd.ntmps75
 go_wp2_with (first | ((with_reducible refine gd_ 3 rfl ?_); (try (refine gate_guard (by rfl) ?_; dsimp only)); refine q_box 3 26 #[.string T, .slice V N.length X, .slice a0 O.length a1, .int .i64 U, .slice a2 R.length a3] ?_; intro b7 hg U7 p hb; have b := a_ p; have b8 := a_ (q_ge I.out hg); have l := a_ (q_ge I.out hg); replace I := a_ (q_st I.out hb); clear hb p hg) | ((with_reducible refine gd_ 4 rfl ?_); (try (refine gate_guard (by rfl) ?_; dsimp only)); refine q_box 4 111 #[.bool a4, .bool a5, .bool a6, .bool true, .bool false, .bool a7, .int .i64 a8, .bool a9, .bool false, .bool false] ?_; intro b9 hg U8 p hb; have q := a_ p; have c0 := a_ (q_ge1 I.out hg l.out); have y := a_ (q_ge1 I.out hg l.out); have z := a_ (q_ne b.out hg); have B := a_ (q_en b.out hg); replace b := a_ (q_bk b.out hb); replace I := a_ (q_st1 I.out hb l.out); clear hb p hg) | ((with_reducible refine gd_ 5 rfl ?_); (try (refine gate_guard (by rfl) ?_; dsimp only)); refine q_box 5 71 #[.int .i64 b0, .int .i64 b1, .int .i64 b2, .int .i64 b3, .int .i64 b4, .int .i32 J, .slice b5 S.length b6] ?_; intro c1 hg U9 p hb; have L := a_ p; have c3 := a_ (q_ge2 I.out hg l.out y.out); have M := a_ (q_ge2 I.out hg l.out y.out); have F := a_ (q_ne b.out hg); have G := a_ (q_en b.out hg); have D := a_ (q_ne q.out hg); have E := a_ (q_en q.out hg); replace b := a_ (q_bk b.out hb); replace q := a_ (q_bk q.out hb); replace I := a_ (q_st2 I.out hb l.out y.out); clear hb p hg; have Q4 := B.out; have Q5 := z.out; have Q6 := D.out; have Q7 := E.out; obtain ⟨D1, D2, D3, D4, D5, D6, D7, D8, D9, E0, E1, E2, E3, E4, E5, E6, E7, E8, E9, F0⟩ := q_cf10 q.out; have Q8 := G.out; have Q9 := F.out; obtain ⟨F1, F2, F3, F4, F5, F6, F7, F8, F9, G0, G1, G2, G3, G4⟩ := q_cf7 L.out))
 go_ret
 exact ⟨q_e, q_w3 I.out l.out y.out M.out⟩}
 {
 obtain rfl := q_so H; go_enter Tryd.func75, Tryd.ntmps75
 go_wp2_with (first | ((with_reducible refine gd_ 3 rfl ?_); (try (refine gate_guard (by rfl) ?_; dsimp only)); refine q_box 3 26 #[.string T, .slice V N.length X, .slice a0 O.length a1, .int .i64 U, .slice a2 R.length a3] ?_; intro b7 hg V0 p hb; have b := a_ p; have b8 := a_ (q_ge I.out hg); have l := a_ (q_ge I.out hg); replace I := a_ (q_st I.out hb); clear hb p hg) | ((with_reducible refine gd_ 4 rfl ?_); (try (refine gate_guard (by rfl) ?_; dsimp only)); refine q_box 4 111 #[.bool a4, .bool a5, .bool a6, .bool true, .bool false, .bool a7, .int .i64 a8, .bool a9, .bool false, .bool false] ?_; intro b9 hg V1 p hb; have q := a_ p; have c0 := a_ (q_ge1 I.out hg l.out); have y := a_ (q_ge1 I.out hg l.out); have z := a_ (q_ne b.out hg); have B := a_ (q_en b.out hg); replace b := a_ (q_bk b.out hb); replace I := a_ (q_st1 I.out hb l.out); clear hb p hg) | ((with_reducible refine gd_ 5 rfl ?_); (try (refine gate_guard (by rfl) ?_; dsimp only)); refine q_box 5 71 #[.int .i64 b0, .int .i64 b1, .int .i64 b2, .int .i64 b3, .int .i64 b4, .int .i32 J, .slice b5 S.length b6] ?_; intro c1 hg V2 p hb; have L := a_ p; have c3 := a_ (q_ge2 I.out hg l.out y.out); have M := a_ (q_ge2 I.out hg l.out y.out); have F := a_ (q_ne b.out hg); have G := a_ (q_en b.out hg); have D := a_ (q_ne q.out hg); have E := a_ (q_en q.out hg); replace b := a_ (q_bk b.out hb); replace q := a_ (q_bk q.out hb); replace I := a_ (q_st2 I.out hb l.out y.out); clear hb p hg; have R0 := B.out; have R1 := z.out; have R2 := D.out; have R3 := E.out; obtain ⟨G5, G6, G7, G8, G9, H0, H1, H2, H3, H4, H5, H6, H7, H8, H9, I0, I1, I2, I3, I4⟩ := q_cf10 q.out; have R4 := G.out; have R5 := F.out; obtain ⟨I5, I6, I7, I8, I9, J0, J1, J2, J3, J4, J5, J6, J7, J8⟩ := q_cf7 L.out))
 go_ret
 exact ⟨q_e, q_w3 I.out l.out y.out M.out⟩}}}
 {
 rw [if_pos rfl] at H; replace H := q_bd H; obtain ⟨e3, e6, H⟩ := H; have P7 := a_ e6; clear e6; obtain rfl := q_so H; go_enter Tryd.func75, Tryd.ntmps75
 go_wp2_with (first | ((with_reducible refine gd_ 3 rfl ?_); (try (refine gate_guard (by rfl) ?_; dsimp only)); refine q_box 3 26 #[.string T, .slice V N.length X, .slice a0 O.length a1, .int .i64 U, .slice a2 R.length a3] ?_; intro b7 hg U3 p hb; have b := a_ p; have b8 := a_ (q_ge I.out hg); have l := a_ (q_ge I.out hg); replace I := a_ (q_st I.out hb); clear hb p hg) | ((with_reducible refine gd_ 4 rfl ?_); (try (refine gate_guard (by rfl) ?_; dsimp only)); refine q_box 4 111 #[.bool a4, .bool a5, .bool a6, .bool c6, .bool true, .bool a7, .int .i64 a8, .bool a9, .bool false, .bool false] ?_; intro b9 hg U4 p hb; have q := a_ p; have c0 := a_ (q_ge1 I.out hg l.out); have y := a_ (q_ge1 I.out hg l.out); have z := a_ (q_ne b.out hg); have B := a_ (q_en b.out hg); replace b := a_ (q_bk b.out hb); replace I := a_ (q_st1 I.out hb l.out); clear hb p hg) | ((with_reducible refine gd_ 5 rfl ?_); (try (refine gate_guard (by rfl) ?_; dsimp only)); refine q_box 5 71 #[.int .i64 b0, .int .i64 b1, .int .i64 b2, .int .i64 b3, .int .i64 b4, .int .i32 J, .slice b5 S.length b6] ?_; intro c1 hg U5 p hb; have L := a_ p; have c3 := a_ (q_ge2 I.out hg l.out y.out); have M := a_ (q_ge2 I.out hg l.out y.out); have F := a_ (q_ne b.out hg); have G := a_ (q_en b.out hg); have D := a_ (q_ne q.out hg); have E := a_ (q_en q.out hg); replace b := a_ (q_bk b.out hb); replace q := a_ (q_bk q.out hb); replace I := a_ (q_st2 I.out hb l.out y.out); clear hb p hg; have P8 := B.out; have P9 := z.out; have Q0 := D.out; have Q1 := E.out; obtain ⟨y1, y2, y3, y4, y5, y6, y7, y8, y9, z0, z1, z2, z3, z4, z5, z6, z7, z8, z9, A0⟩ := q_cf10 q.out; have Q2 := F.out; have Q3 := G.out; obtain ⟨A1, A2, A3, A4, A5, A6, A7, A8, A9, B2⟩ := q_cf5 b.out; obtain ⟨B3, B6, B7, C0, C1, C2, C3, C4, C5, C6, C7, C8, C9, D0⟩ := q_cf7 L.out) | ((with_reducible refine gc_ 85 rfl ?_); refine q_gl 41 #[.agg #[.string T, .slice V N.length X, .slice a0 O.length a1, .int .i64 U, .slice a2 R.length a3], .int .i32 J] Tryd.func85 rfl ?_; (with_reducible refine (flow_array.calls (q_F d1 I.out) P7.out).mono ?_); rintro e U6 ⟨rfl, hb⟩; refine ⟨_, rfl, ?_⟩; replace b := a_ (q_bk b.out hb); replace q := a_ (q_bk q.out hb); replace L := a_ (q_bk L.out hb); replace I := a_ (q_st3 I.out hb l.out y.out M.out); (clear hb)))
 go_ret
 exact ⟨q_e, q_w3 I.out l.out y.out M.out⟩}}
 {
 rw [if_pos rfl] at H; rcases q_ite H with ⟨c12b0, H⟩ | ⟨c12b0, H⟩
 {
 rcases q_ite H with ⟨c13b0, H⟩ | ⟨c13b0, H⟩
 {
 replace H := q_gD H; obtain ⟨-, c14b0, H⟩ := H; replace H := q_gD H; obtain ⟨-, c15b0, H⟩ := H; obtain rfl := q_so H; go_enter Tryd.func75, Tryd.ntmps75
 go_wp2_with (first | ((with_reducible refine gd_ 3 rfl ?_); (try (refine gate_guard (by rfl) ?_; dsimp only)); refine q_box 3 26 #[.string T, .slice V N.length X, .slice a0 O.length a1, .int .i64 U, .slice a2 R.length a3] ?_; intro b7 hg S8 p hb; have b := a_ p; have b8 := a_ (q_ge I.out hg); have l := a_ (q_ge I.out hg); replace I := a_ (q_st I.out hb); clear hb p hg) | ((with_reducible refine gd_ 4 rfl ?_); (try (refine gate_guard (by rfl) ?_; dsimp only)); refine q_box 4 111 #[.bool a4, .bool a5, .bool a6, .bool c6, .bool c8, .bool a7, .int .i64 a8, .bool a9, .bool false, .bool true] ?_; intro b9 hg S9 p hb; have q := a_ p; have c0 := a_ (q_ge1 I.out hg l.out); have y := a_ (q_ge1 I.out hg l.out); have z := a_ (q_ne b.out hg); have B := a_ (q_en b.out hg); replace b := a_ (q_bk b.out hb); replace I := a_ (q_st1 I.out hb l.out); clear hb p hg) | ((with_reducible refine gd_ 5 rfl ?_); (try (refine gate_guard (by rfl) ?_; dsimp only)); refine q_box 5 71 #[.int .i64 b0, .int .i64 b1, .int .i64 b2, .int .i64 b3, .int .i64 b4, .int .i32 J, .slice b5 S.length b6] ?_; intro c1 hg T2 p hb; have L := a_ p; have c3 := a_ (q_ge2 I.out hg l.out y.out); have M := a_ (q_ge2 I.out hg l.out y.out); have F := a_ (q_ne b.out hg); have G := a_ (q_en b.out hg); have D := a_ (q_ne q.out hg); have E := a_ (q_en q.out hg); replace b := a_ (q_bk b.out hb); replace q := a_ (q_bk q.out hb); replace I := a_ (q_st2 I.out hb l.out y.out); clear hb p hg; have N8 := B.out; have N9 := z.out; have O0 := D.out; have O1 := E.out; obtain ⟨i3, i4, i5, i6, i7, i8, i9, j3, j5, j6, j7, j8, j9, k0, k1, k2, k3, k4, k5, k6⟩ := q_cf10 q.out; have O2 := G.out; have O3 := F.out; obtain ⟨k7, k8, k9, l4, l5, l6, l7, l8, l9, n0, n1, n2, n3, n4⟩ := q_cf7 L.out; obtain ⟨n5, n6, n7, n8, n9, o0, o1, o2, o3, o4⟩ := q_cf5 b.out; have e4 : 0 ≤ (J : Int) := q_d; have e5 : J < (N.length : Int) := q_d; obtain ⟨O4, o5, o6, o7, e4, e5⟩ := b_T83 d9.out I.out J e4 e5; cases o5))
 go_ret
 exact ⟨q_e, q_w3 I.out l.out y.out M.out⟩}
 {
 obtain rfl := q_so H; go_enter Tryd.func75, Tryd.ntmps75
 go_wp2_with (first | ((with_reducible refine gd_ 3 rfl ?_); (try (refine gate_guard (by rfl) ?_; dsimp only)); refine q_box 3 26 #[.string T, .slice V N.length X, .slice a0 O.length a1, .int .i64 U, .slice a2 R.length a3] ?_; intro b7 hg T3 p hb; have b := a_ p; have b8 := a_ (q_ge I.out hg); have l := a_ (q_ge I.out hg); replace I := a_ (q_st I.out hb); clear hb p hg) | ((with_reducible refine gd_ 4 rfl ?_); (try (refine gate_guard (by rfl) ?_; dsimp only)); refine q_box 4 111 #[.bool a4, .bool a5, .bool a6, .bool c6, .bool c8, .bool a7, .int .i64 a8, .bool a9, .bool false, .bool true] ?_; intro b9 hg T6 p hb; have q := a_ p; have c0 := a_ (q_ge1 I.out hg l.out); have y := a_ (q_ge1 I.out hg l.out); have z := a_ (q_ne b.out hg); have B := a_ (q_en b.out hg); replace b := a_ (q_bk b.out hb); replace I := a_ (q_st1 I.out hb l.out); clear hb p hg) | ((with_reducible refine gd_ 5 rfl ?_); (try (refine gate_guard (by rfl) ?_; dsimp only)); refine q_box 5 71 #[.int .i64 b0, .int .i64 b1, .int .i64 b2, .int .i64 b3, .int .i64 b4, .int .i32 J, .slice b5 S.length b6] ?_; intro c1 hg T7 p hb; have L := a_ p; have c3 := a_ (q_ge2 I.out hg l.out y.out); have M := a_ (q_ge2 I.out hg l.out y.out); have F := a_ (q_ne b.out hg); have G := a_ (q_en b.out hg); have D := a_ (q_ne q.out hg); have E := a_ (q_en q.out hg); replace b := a_ (q_bk b.out hb); replace q := a_ (q_bk q.out hb); replace I := a_ (q_st2 I.out hb l.out y.out); clear hb p hg; have O5 := B.out; have O6 := z.out; have O7 := D.out; have O8 := E.out; obtain ⟨o8, o9, p0, p1, p2, p3, p4, p5, p6, p7, p8, p9, q0, q1, q2, q3, q4, q5, q6, q7⟩ := q_cf10 q.out; have O9 := G.out; have P0 := F.out; obtain ⟨q8, q9, r0, r1, r2, r3, r4, r5, r6, r7, r8, r9, s0, s1⟩ := q_cf7 L.out; obtain ⟨s2, s3, s4, s5, s6, s7, s8, s9, t0, t1⟩ := q_cf5 b.out))
 go_ret
 exact ⟨q_e, q_w3 I.out l.out y.out M.out⟩}}
 {
 obtain rfl := q_so H; go_enter Tryd.func75, Tryd.ntmps75
 go_wp2_with (first | ((with_reducible refine gd_ 3 rfl ?_); (try (refine gate_guard (by rfl) ?_; dsimp only)); refine q_box 3 26 #[.string T, .slice V N.length X, .slice a0 O.length a1, .int .i64 U, .slice a2 R.length a3] ?_; intro b7 hg U0 p hb; have b := a_ p; have b8 := a_ (q_ge I.out hg); have l := a_ (q_ge I.out hg); replace I := a_ (q_st I.out hb); clear hb p hg) | ((with_reducible refine gd_ 4 rfl ?_); (try (refine gate_guard (by rfl) ?_; dsimp only)); refine q_box 4 111 #[.bool a4, .bool a5, .bool a6, .bool c6, .bool c8, .bool a7, .int .i64 a8, .bool a9, .bool false, .bool true] ?_; intro b9 hg U1 p hb; have q := a_ p; have c0 := a_ (q_ge1 I.out hg l.out); have y := a_ (q_ge1 I.out hg l.out); have z := a_ (q_ne b.out hg); have B := a_ (q_en b.out hg); replace b := a_ (q_bk b.out hb); replace I := a_ (q_st1 I.out hb l.out); clear hb p hg) | ((with_reducible refine gd_ 5 rfl ?_); (try (refine gate_guard (by rfl) ?_; dsimp only)); refine q_box 5 71 #[.int .i64 b0, .int .i64 b1, .int .i64 b2, .int .i64 b3, .int .i64 b4, .int .i32 J, .slice b5 S.length b6] ?_; intro c1 hg U2 p hb; have L := a_ p; have c3 := a_ (q_ge2 I.out hg l.out y.out); have M := a_ (q_ge2 I.out hg l.out y.out); have F := a_ (q_ne b.out hg); have G := a_ (q_en b.out hg); have D := a_ (q_ne q.out hg); have E := a_ (q_en q.out hg); replace b := a_ (q_bk b.out hb); replace q := a_ (q_bk q.out hb); replace I := a_ (q_st2 I.out hb l.out y.out); clear hb p hg; have P1 := B.out; have P2 := z.out; have P3 := D.out; have P4 := E.out; obtain ⟨t2, t3, t4, t5, t6, t7, t8, t9, v0, v1, v2, v3, v4, v5, v6, v7, v8, v9, w2, w3⟩ := q_cf10 q.out; have P5 := G.out; have P6 := F.out; obtain ⟨w4, w8, w9, x0, x1, x2, x3, x4, x5, x6, x7, x8, x9, y0⟩ := q_cf7 L.out))
 go_ret
 exact ⟨q_e, q_w3 I.out l.out y.out M.out⟩}}}
 {
 rw [if_pos rfl] at H; obtain rfl := q_so H; go_enter Tryd.func75, Tryd.ntmps75
 go_wp2_with (first | ((with_reducible refine gd_ 3 rfl ?_); (try (refine gate_guard (by rfl) ?_; dsimp only)); refine q_box 3 26 #[.string T, .slice V N.length X, .slice a0 O.length a1, .int .i64 U, .slice a2 R.length a3] ?_; intro b7 hg w5 p hb; have b := a_ p; have b8 := a_ (q_ge I.out hg); have l := a_ (q_ge I.out hg); replace I := a_ (q_st I.out hb); clear hb p hg) | ((with_reducible refine gd_ 4 rfl ?_); (try (refine gate_guard (by rfl) ?_; dsimp only)); refine q_box 4 111 #[.bool a4, .bool a5, .bool a6, .bool c6, .bool c8, .bool a7, .int .i64 a8, .bool a9, .bool true, .bool c9] ?_; intro b9 hg w6 p hb; have q := a_ p; have c0 := a_ (q_ge1 I.out hg l.out); have y := a_ (q_ge1 I.out hg l.out); have z := a_ (q_ne b.out hg); have B := a_ (q_en b.out hg); replace b := a_ (q_bk b.out hb); replace I := a_ (q_st1 I.out hb l.out); clear hb p hg) | ((with_reducible refine gd_ 5 rfl ?_); (try (refine gate_guard (by rfl) ?_; dsimp only)); refine q_box 5 71 #[.int .i64 b0, .int .i64 b1, .int .i64 b2, .int .i64 b3, .int .i64 b4, .int .i32 J, .slice b5 S.length b6] ?_; intro c1 hg w7 p hb; have L := a_ p; have c3 := a_ (q_ge2 I.out hg l.out y.out); have M := a_ (q_ge2 I.out hg l.out y.out); have F := a_ (q_ne b.out hg); have G := a_ (q_en b.out hg); have D := a_ (q_ne q.out hg); have E := a_ (q_en q.out hg); replace b := a_ (q_bk b.out hb); replace q := a_ (q_bk q.out hb); replace I := a_ (q_st2 I.out hb l.out y.out); clear hb p hg; have S4 := B.out; have S5 := z.out; have S6 := D.out; have S7 := E.out; obtain ⟨f3, f4, f5, f6, f7, f8, f9, g0, g1, g2, g3, g4, g5, g6, g7, g8, g9, i0, i1, i2⟩ := q_cf10 q.out))
 go_ret
 exact ⟨q_e, q_w3 I.out l.out y.out M.out⟩}
def num_Neutral.j0 : Nat → Int → Bool → Option (Int × Bool)
 | 0, _, _ => none
 | k + 1, b, l => if l = true then (some (0, true)) else (if b = 18 then (some (2147483647, true)) else (if b = 19 then (some ((-2147483648), true)) else (if b = 5 then (some ((-1), true)) else (some (0, false)))))
def num_Neutral.f (k : Nat) (b : Int) : Option (Int × Bool) := if b = 0 then (num_Neutral.j0 k b (b == 0)) else (if b = 6 then (num_Neutral.j0 k b (b == 6)) else (num_Neutral.j0 k b (b == 7)))
theorem num_Neutral.calls {k : Nat} {l : Int} {C : Int} {D : Bool} {w : World} (h : num_Neutral.f k l = some (C, D)) :
  Calls Tryd.prog 86 #[.int .i64 l] w fun e w' => e = .returned (.tuple #[.int .i32 C, .bool D]) ∧ Drawn0 w w' := by
 have H : (if l = 0 then (num_Neutral.j0 k l (l == 0)) else (if l = 6 then (num_Neutral.j0 k l (l == 6)) else (num_Neutral.j0 k l (l == 7)))) = some (C, D) := h
 clear h; have p := a_ H; clear H; go_enter Tryd.func86, Tryd.ntmps86
 go_upto_if 5 with (fail)
 go_cut [5] (fun q wc => ∃ (kq : Nat) (b : Bool), q = .bool b ∧ Aside0 (num_Neutral.j0 kq l b = some (C, D)) ∧ Aside0 (kq ≤ k) ∧ Drawn0 w wc)
 case first => (
 have H := p.out; clear p; replace H := q_iBN H; rcases H with ⟨-, c3b0, c3b1, H⟩ | ⟨y, c3b0, c3b1, H⟩
 all_goals (
 (first | rw [c3b0] | (simp only [i64_w, i32_w]; rw [c3b0]) | skip))
 {
 have z := a_ H
 clear H; go_wp2
 go_meet
 case rel => exact ⟨_, ((l == 0)), q_r, z, ⟨by first | omega | exact Nat.le_refl _⟩, by repeat (first | exact Drawn0.refl _ | apply Drawn0.step)⟩}
 {
 replace H := q_iBN H; rcases H with ⟨-, c4b0, c4b1, H⟩ | ⟨B, c4b0, c4b1, H⟩
 {
 have z := a_ H
 clear H; go_wp2
 go_meet
 case rel => exact ⟨_, ((l == 6)), q_r, z, ⟨by first | omega | exact Nat.le_refl _⟩, by repeat (first | exact Drawn0.refl _ | apply Drawn0.step)⟩}
 {
 have z := a_ H
 clear H; go_wp2
 go_meet
 case rel => exact ⟨_, ((l == 7)), q_r, z, ⟨by first | omega | exact Nat.le_refl _⟩, by repeat (first | exact Drawn0.refl _ | apply Drawn0.step)⟩}})
 case rest => (
 clear p; obtain ⟨kq, b, rfl, HA, E, ⟨F, rfl⟩⟩ := hcut; cases kq with
 | zero => exact absurd HA.out (by simp [num_Neutral.j0])
 | succ G => (
 have H := HA.out; clear HA; simp only [num_Neutral.j0] at H
 cases b
 {
 replace H := q_if H; replace H := q_iBN H; rcases H with ⟨-, c6b0, c6b1, H⟩ | ⟨y, c6b0, c6b1, H⟩
 {
 simp only [Option.some.injEq, Prod.mk.injEq] at H
 obtain ⟨rfl, rfl⟩ := H; go_wp2
 go_ret2
 exact ⟨by first | rfl | (simp; done) | (simp [*]; done), by repeat (first | exact Drawn0.refl _ | apply Drawn0.step)⟩}
 {
 replace H := q_iBN H; rcases H with ⟨-, c7b0, c7b1, H⟩ | ⟨c7, c7b0, c7b1, H⟩
 {
 simp only [Option.some.injEq, Prod.mk.injEq] at H
 obtain ⟨rfl, rfl⟩ := H; go_wp2
 go_ret2
 exact ⟨by first | rfl | (simp; done) | (simp [*]; done), by repeat (first | exact Drawn0.refl _ | apply Drawn0.step)⟩}
 {
 replace H := q_iBN H; rcases H with ⟨-, c8b0, c8b1, H⟩ | ⟨B, c8b0, c8b1, H⟩
 all_goals (
 simp only [Option.some.injEq, Prod.mk.injEq] at H
 obtain ⟨rfl, rfl⟩ := H; go_wp2
 go_ret2
 exact ⟨by first | rfl | (simp; done) | (simp [*]; done), by repeat (first | exact Drawn0.refl _ | apply Drawn0.step)⟩)}}}
 {
 rw [if_pos rfl] at H; simp only [Option.some.injEq, Prod.mk.injEq] at H
 obtain ⟨rfl, rfl⟩ := H; go_wp2
 go_ret2
 exact ⟨by first | rfl | (simp; done) | (simp [*]; done), by repeat (first | exact Drawn0.refl _ | apply Drawn0.step)⟩}))
def num_Folds.f (k : Nat) (l : Int) : Option (Bool) := (num_Neutral.f k l).bind fun b => (some b.2)
theorem num_Folds.calls {k : Nat} {q : Int} {r : Bool} {w : World} (h : num_Folds.f k q = some r) :
  Calls Tryd.prog 76 #[.int .i64 q] w fun e w' => e = .returned (.bool r) ∧ Drawn0 w w' := by
 have H : ((num_Neutral.f k q).bind fun b => (some b.2)) = some r := h
 clear h; replace H := q_bd H; obtain ⟨⟨y, l⟩, p, H⟩ := H; replace H : (some l) = some r := H; have z := a_ p; clear p; obtain rfl := q_so H; go_enter Tryd.func76, Tryd.ntmps76
 go_wp2_with (first | ((with_reducible refine gc_ 86 rfl ?_); refine q_gl 7 #[.int .i64 q] Tryd.func86 rfl ?_; (with_reducible refine (num_Neutral.calls z.out).mono ?_); rintro e w' ⟨rfl, ⟨B, rfl⟩⟩; refine ⟨_, rfl, ?_⟩))
 go_ret
 exact ⟨by first | rfl | (simp; done) | (simp [*]; done), by repeat (first | exact Drawn0.refl _ | apply Drawn0.step)⟩
end Go.Proofs.YtefhpdcafdhcaaaDoor.A
end
section
namespace Go.Proofs.YtefhpdcafdhcaaaDoor.A
open Go.RowKit Go.Proofs.YtefhpdcafdhcaaaDoorW.PrintWords Go.Proofs.YtefhpdcafdhcaaaDoorW.PrintLast Go.Proofs.YtefhpdcafdhcaaaDoorW.PrintMore
attribute [local go_sem] max2_int max_two
set_option linter.unusedVariables false
set_option linter.unusedSimpArgs false
mutual
def flow_instr.j0 : Nat → Int → Bool → ByteArray → List (S83) → List (S85) → Int → List (S69) → Int → Int → Int → Int → Int → Int → List Int → Bool → Bool → Bool → Bool → Bool → Bool → Int → Bool → Bool → Bool → Option (Bool)
 | 0, _, _, _, _, _, _, _, _, _, _, _, _, _, _, _, _, _, _, _, _, _, _, _, _ => none
 | k + 1, X, a5, p, q, y, z, B, C, b, D, E, F, G, l, M, N, O, R, S, J, I, L, T, U => if a5 = true then (some false) else (if L = true then ((num_Folds.f k b).bind fun a2 => (flow_instr.j1 k X a2 p q y z B C b D E F G l M N O R S J I L T U)) else (if I > 0 then (if b ≥ 0 then (flow_instr.j1 k X (decide (b < I)) p q y z B C b D E F G l M N O R S J I L T U) else (flow_instr.j1 k X false p q y z B C b D E F G l M N O R S J I L T U)) else (flow_instr.j1 k X (b == 0) p q y z B C b D E F G l M N O R S J I L T U)))
def flow_instr.j1 : Nat → Int → Bool → ByteArray → List (S83) → List (S85) → Int → List (S69) → Int → Int → Int → Int → Int → Int → List Int → Bool → Bool → Bool → Bool → Bool → Bool → Int → Bool → Bool → Bool → Option (Bool)
 | 0, _, _, _, _, _, _, _, _, _, _, _, _, _, _, _, _, _, _, _, _, _, _, _, _ => none
 | k + 1, X, x8, p, q, y, z, B, C, b, D, E, F, G, l, M, N, O, R, S, J, I, L, T, U => if J = true then (flow_instr.l0 k X x8 l (l.length : Int) 0 p q y z B C b D E F G l) else (if x8 = true then (some ((l.length : Int) == 0)) else (some false))
def flow_instr.l0 : Nat → Int → Bool → List Int → Int → Int → ByteArray → List (S83) → List (S85) → Int → List (S69) → Int → Int → Int → Int → Int → Int → List Int → Option (Bool)
 | 0, _, _, _, _, _, _, _, _, _, _, _, _, _, _, _, _, _ => none
 | k + 1, X, x8, a0, a1, V, p, q, y, z, B, C, b, D, E, F, G, l => if V < a1 then (if 0 ≤ V then (if V < (a0.length : Int) then (if x8 = true then ((flow_register.f p q y z B true (rd a0 V)).bind fun a4 => (flow_instr.l0 k X a4 a0 a1 (wrap64 (V + 1)) p q y z B C b D E F G l)) else (flow_instr.l0 k X false a0 a1 (wrap64 (V + 1)) p q y z B C b D E F G l)) else (none)) else (none)) else (if x8 = true then (some ((l.length : Int) == X)) else (some false))
end
def flow_instr.f (k : Nat) (l : ByteArray) (p : List (S83)) (q : List (S85)) (y : Int) (z : List (S69)) (B : Int) (F : Int) (C : Int) (D : Int) (E : Int) (G : Int) (I : List Int) (J : Int) : Option (Bool) := (flow_fields.f B).bind fun b => (if b.2.2.2.2.2.2.2.2.2.2 = true then ((flow_register.f l p q y z b.1 C).bind fun L => (if L = true then ((flow_register.f l p q y z b.2.1 D).bind fun M => (if M = true then ((flow_register.f l p q y z b.2.2.1 E).bind fun N => (if N = true then ((flow_imm.f l p q y z b.1 b.2.1 b.2.2.1 b.2.2.2.1 b.2.2.2.2.1 b.2.2.2.2.2.1 b.2.2.2.2.2.2.1 b.2.2.2.2.2.2.2.1 b.2.2.2.2.2.2.2.2.1 b.2.2.2.2.2.2.2.2.2.1 B F C D E G I).bind fun O => (flow_instr.j0 k J (!O) l p q y z B F C D E G I b.1 b.2.1 b.2.2.1 b.2.2.2.1 b.2.2.2.2.1 b.2.2.2.2.2.1 b.2.2.2.2.2.2.1 b.2.2.2.2.2.2.2.1 b.2.2.2.2.2.2.2.2.1 b.2.2.2.2.2.2.2.2.2.1)) else (flow_instr.j0 k J true l p q y z B F C D E G I b.1 b.2.1 b.2.2.1 b.2.2.2.1 b.2.2.2.2.1 b.2.2.2.2.2.1 b.2.2.2.2.2.2.1 b.2.2.2.2.2.2.2.1 b.2.2.2.2.2.2.2.2.1 b.2.2.2.2.2.2.2.2.2.1))) else (flow_instr.j0 k J true l p q y z B F C D E G I b.1 b.2.1 b.2.2.1 b.2.2.2.1 b.2.2.2.2.1 b.2.2.2.2.2.1 b.2.2.2.2.2.2.1 b.2.2.2.2.2.2.2.1 b.2.2.2.2.2.2.2.2.1 b.2.2.2.2.2.2.2.2.2.1))) else (flow_instr.j0 k J true l p q y z B F C D E G I b.1 b.2.1 b.2.2.1 b.2.2.2.1 b.2.2.2.2.1 b.2.2.2.2.2.1 b.2.2.2.2.2.2.1 b.2.2.2.2.2.2.2.1 b.2.2.2.2.2.2.2.2.1 b.2.2.2.2.2.2.2.2.2.1))) else (flow_instr.j0 k J true l p q y z B F C D E G I b.1 b.2.1 b.2.2.1 b.2.2.2.1 b.2.2.2.2.1 b.2.2.2.2.2.1 b.2.2.2.2.2.2.1 b.2.2.2.2.2.2.2.1 b.2.2.2.2.2.2.2.2.1 b.2.2.2.2.2.2.2.2.2.1))
theorem flow_instr.calls {k : Nat} {S : ByteArray} {d1 : Option Addr} {d2 : Nat} {L : List (S83)} {d3 : Option Addr} {d4 : Nat} {M : List (S85)} {T : Int} {d5 : Option Addr} {d6 : Nat} {N : List (S69)} {V : Int} {U : Int} {X : Int} {a0 : Int} {a1 : Int} {a3 : Int} {d7 : Option Addr} {d8 : Nat} {R : List Int} {a2 : Int} {r : Bool} {w : World} (k4 : q5 w d1 d2 L d3 d4 M d5 d6 N) (l4 : Kd.C (Kd.int .i64) w d7 R.length R) (l5 : R.length ≤ d8) (h : flow_instr.f k S L M T N V U X a0 a1 a3 R a2 = some r) :
  Calls Tryd.prog 62 #[.agg #[.string S, .slice d1 L.length d2, .slice d3 M.length d4, .int .i64 T, .slice d5 N.length d6], .agg #[.int .i64 V, .int .i64 U, .int .i64 X, .int .i64 a0, .int .i64 a1, .int .i32 a3, .slice d7 R.length d8], .int .i64 a2] w fun e w' => e = .returned (.bool r) ∧ Below w.heap.size w w' := by
 have jd := Tryd.underlying26; have je := Tryd.underlying71; have hQ := Tryd.underlying111; have e7 := a_ l4; have r8 := a_ l5; clear l4 l5; have O := a_ (Below.refl w.heap.size w); have H : ((flow_fields.f V).bind fun b => (if b.2.2.2.2.2.2.2.2.2.2 = true then ((flow_register.f S L M T N b.1 X).bind fun e0 => (if e0 = true then ((flow_register.f S L M T N b.2.1 a0).bind fun e1 => (if e1 = true then ((flow_register.f S L M T N b.2.2.1 a1).bind fun e2 => (if e2 = true then ((flow_imm.f S L M T N b.1 b.2.1 b.2.2.1 b.2.2.2.1 b.2.2.2.2.1 b.2.2.2.2.2.1 b.2.2.2.2.2.2.1 b.2.2.2.2.2.2.2.1 b.2.2.2.2.2.2.2.2.1 b.2.2.2.2.2.2.2.2.2.1 V U X a0 a1 a3 R).bind fun e3 => (flow_instr.j0 k a2 (!e3) S L M T N V U X a0 a1 a3 R b.1 b.2.1 b.2.2.1 b.2.2.2.1 b.2.2.2.2.1 b.2.2.2.2.2.1 b.2.2.2.2.2.2.1 b.2.2.2.2.2.2.2.1 b.2.2.2.2.2.2.2.2.1 b.2.2.2.2.2.2.2.2.2.1)) else (flow_instr.j0 k a2 true S L M T N V U X a0 a1 a3 R b.1 b.2.1 b.2.2.1 b.2.2.2.1 b.2.2.2.2.1 b.2.2.2.2.2.1 b.2.2.2.2.2.2.1 b.2.2.2.2.2.2.2.1 b.2.2.2.2.2.2.2.2.1 b.2.2.2.2.2.2.2.2.2.1))) else (flow_instr.j0 k a2 true S L M T N V U X a0 a1 a3 R b.1 b.2.1 b.2.2.1 b.2.2.2.1 b.2.2.2.2.1 b.2.2.2.2.2.1 b.2.2.2.2.2.2.1 b.2.2.2.2.2.2.2.1 b.2.2.2.2.2.2.2.2.1 b.2.2.2.2.2.2.2.2.2.1))) else (flow_instr.j0 k a2 true S L M T N V U X a0 a1 a3 R b.1 b.2.1 b.2.2.1 b.2.2.2.1 b.2.2.2.2.1 b.2.2.2.2.2.1 b.2.2.2.2.2.2.1 b.2.2.2.2.2.2.2.1 b.2.2.2.2.2.2.2.2.1 b.2.2.2.2.2.2.2.2.2.1))) else (flow_instr.j0 k a2 true S L M T N V U X a0 a1 a3 R b.1 b.2.1 b.2.2.1 b.2.2.2.1 b.2.2.2.2.1 b.2.2.2.2.2.1 b.2.2.2.2.2.2.1 b.2.2.2.2.2.2.2.1 b.2.2.2.2.2.2.2.2.1 b.2.2.2.2.2.2.2.2.2.1))) = some r := h
 clear h; replace H := q_bd H; obtain ⟨⟨a4, a5, a6, b5, b6, b7, a7, a8, b8, b9, r1⟩, D6, H⟩ := H; replace H : (if r1 = true then ((flow_register.f S L M T N a4 X).bind fun e0 => (if e0 = true then ((flow_register.f S L M T N a5 a0).bind fun e1 => (if e1 = true then ((flow_register.f S L M T N a6 a1).bind fun e2 => (if e2 = true then ((flow_imm.f S L M T N a4 a5 a6 b5 b6 b7 a7 a8 b8 b9 V U X a0 a1 a3 R).bind fun e3 => (flow_instr.j0 k a2 (!e3) S L M T N V U X a0 a1 a3 R a4 a5 a6 b5 b6 b7 a7 a8 b8 b9)) else (flow_instr.j0 k a2 true S L M T N V U X a0 a1 a3 R a4 a5 a6 b5 b6 b7 a7 a8 b8 b9))) else (flow_instr.j0 k a2 true S L M T N V U X a0 a1 a3 R a4 a5 a6 b5 b6 b7 a7 a8 b8 b9))) else (flow_instr.j0 k a2 true S L M T N V U X a0 a1 a3 R a4 a5 a6 b5 b6 b7 a7 a8 b8 b9))) else (flow_instr.j0 k a2 true S L M T N V U X a0 a1 a3 R a4 a5 a6 b5 b6 b7 a7 a8 b8 b9)) = some r := H
 have A4 := a_ D6; clear D6; have r9 := a_ H; clear H; go_enter Tryd.func62, Tryd.ntmps62
 go_upto_region 2 with (first | ((with_reducible refine gd_ 3 rfl ?_); (try (refine gate_guard (by rfl) ?_; dsimp only)); refine q_box 3 26 #[.string S, .slice d1 L.length d2, .slice d3 M.length d4, .int .i64 T, .slice d5 N.length d6] ?_; intro e8 hg w6 c4 hb; have p := a_ c4; have hR := a_ (q_ge O.out hg); have y := a_ (q_ge O.out hg); replace O := a_ (q_st O.out hb); clear hb c4 hg) | ((with_reducible refine gd_ 4 rfl ?_); (try (refine gate_guard (by rfl) ?_; dsimp only)); refine q_box 4 71 #[.int .i64 V, .int .i64 U, .int .i64 X, .int .i64 a0, .int .i64 a1, .int .i32 a3, .slice d7 R.length d8] ?_; intro e9 hg w7 c4 hb; have l := a_ c4; have hS := a_ (q_ge1 O.out hg y.out); have z := a_ (q_ge1 O.out hg y.out); have F := a_ (q_ne p.out hg); have G := a_ (q_en p.out hg); replace p := a_ (q_bk p.out hb); replace O := a_ (q_st1 O.out hb y.out); clear hb c4 hg; have jf := G.out; have jg := F.out; obtain ⟨o9, p0, p1, p2, p3, p4, p5, p6, p7, p8, p9, q0, q1, q2⟩ := q_cf7 l.out) | ((with_reducible refine gc_ 74 rfl ?_); refine q_gl 14 #[.int .i64 V] Tryd.func74 rfl ?_; (with_reducible refine (flow_fields.calls A4.out).mono ?_); rintro e jk ⟨rfl, hb⟩; refine ⟨_, rfl, ?_⟩; replace p := a_ (q_bk p.out hb); replace l := a_ (q_bk l.out hb); replace O := a_ (q_st2 O.out hb y.out z.out); (clear hb)) | ((with_reducible refine gd_ 7 rfl ?_); (try (refine gate_guard (by rfl) ?_; dsimp only)); refine q_box 7 111 #[.bool false, .bool false, .bool false, .bool false, .bool false, .bool false, .int .i64 0, .bool false, .bool false, .bool false] ?_; intro c3 hg jl c4 hb; have q := a_ c4; have hT := a_ (q_ge2 O.out hg y.out z.out); have B := a_ (q_ge2 O.out hg y.out z.out); have D := a_ (q_ne p.out hg); have I := a_ (q_en p.out hg); have E := a_ (q_ne l.out hg); have J := a_ (q_en l.out hg); replace p := a_ (q_bk p.out hb); replace l := a_ (q_bk l.out hb); replace O := a_ (q_st2 O.out hb y.out z.out); clear hb c4 hg; have hU := I.out; have hV := D.out; have hW := J.out; have hX := E.out; obtain ⟨l6, l7, l8, l9, n0, n1, n2, n3, n4, n5, n6, n7, n8, n9, o0, o1, o2, o3, o4, o5⟩ := q_cf10 q.out))
 (try simp only [Act.put, List.setIfInBounds_toArray, List.set_cons_zero, List.set_cons_succ])
 go_cut [52] (fun hY wc => ∃ (kq : Nat) (d9 : Bool), hY = .bool d9 ∧ Aside0 (flow_instr.j0 kq a2 d9 S L M T N V U X a0 a1 a3 R a4 a5 a6 b5 b6 b7 a7 a8 b8 b9 = some r) ∧ Aside0 (kq ≤ k) ∧ Aside0 (wc.heap[e8]? = some (.cells #[.string S, (.slice d1 L.length d2), (.slice d3 M.length d4), .int .i64 T, (.slice d5 N.length d6)] 26 (0, 0))) ∧ Aside0 (wc.heap[e9]? = some (.cells #[.int .i64 V, .int .i64 U, .int .i64 X, .int .i64 a0, .int .i64 a1, .int .i32 a3, (.slice d7 R.length d8)] 71 (0, 0))) ∧ Aside0 (wc.heap[c3]? = some (.cells #[.bool a4, .bool a5, .bool a6, .bool b5, .bool b6, .bool b7, .int .i64 a7, .bool a8, .bool b8, .bool b9] 111 (0, 0))) ∧ Aside0 (Below w.heap.size w wc))
 case first => (
 have H := r9.out; clear r9; cases r1
 {
 replace H := q_if H; have H' := a_ H
 clear H; go_wp2
 go_meet
 case rel => exact ⟨_, (true), q_r, H', ⟨by first | omega | exact Nat.le_refl _⟩, ⟨q_f1 p.out D.out⟩, ⟨q_f1 l.out E.out⟩, ⟨q_p q.out⟩, ⟨q_w3 O.out y.out z.out B.out⟩⟩}
 {
 rw [if_pos rfl] at H; replace H := q_bd H; obtain ⟨e0, r2, H⟩ := H; have q4 := a_ r2; clear r2; cases e0
 {
 replace H := q_if H; have H' := a_ H
 clear H; have iv := F.out; have iw := G.out; have ix := D.out; have iy := I.out; obtain ⟨dQ, dR, dS, dT, dU, dV, dW, dX, dY, dZ⟩ := q_cf5 p.out; have iz := J.out; have iA := E.out; obtain ⟨ea, eb, ec, ed, ee, ef, eg, eh, ei, ej, ek, el, em, en, eo, ep, eq, er, es, et⟩ := q_cf10 q.out; obtain ⟨eu, ev, ew, ex, ey, ez, eA, eB, eC, eD, eE, eF, eG, eH⟩ := q_cf7 l.out; go_wp2_with (first | (go_at_call 73; (with_reducible refine (flow_register.calls (q_G k4 (q_w3 O.out y.out z.out B.out)) q4.out).mono ?_); rintro e jv ⟨rfl, hb⟩; replace p := a_ (blk_below (q_f1 p.out D.out) hb); replace l := a_ (blk_below (q_f1 l.out E.out) hb); replace q := a_ (blk_below (g := c3) (o := .cells #[.bool a4, .bool a5, .bool a6, .bool b5, .bool b6, .bool b7, .int .i64 a7, .bool a8, .bool b8, .bool b9] 111 (0, 0)) (q_p q.out) hb); replace O := a_ (q_st3 O.out hb y.out z.out B.out); (clear hb)))
 go_meet
 case rel => exact ⟨_, (true), q_r, H', ⟨by first | omega | exact Nat.le_refl _⟩, ⟨q_k p.out⟩, ⟨q_k l.out⟩, ⟨q_k q.out⟩, ⟨q_w3 O.out y.out z.out B.out⟩⟩}
 {
 rw [if_pos rfl] at H; replace H := q_bd H; obtain ⟨e1, r3, H⟩ := H; have s0 := a_ r3; clear r3; cases e1
 {
 replace H := q_if H; have H' := a_ H
 clear H; have io := F.out; have ip := G.out; have iq := D.out; have ir := I.out; obtain ⟨cb, cc, cd, ce, cf, cg, ch, ci, cj, ck⟩ := q_cf5 p.out; have it := J.out; have iu := E.out; obtain ⟨cm, cn, co, cp, cq, cr, ct, cu, cv, cx, cy, cz, cA, cB, cC, cD, cE, cF, cG, cH⟩ := q_cf10 q.out; obtain ⟨cI, cJ, cK, cL, cM, cN, cO, cP, cQ, cR, cS, cT, cU, cV⟩ := q_cf7 l.out; go_wp2_with (first | (go_at_call 73; (with_reducible refine (flow_register.calls (q_G k4 (q_w3 O.out y.out z.out B.out)) q4.out).mono ?_); rintro e jt ⟨rfl, hb⟩; replace p := a_ (blk_below (q_f1 p.out D.out) hb); replace l := a_ (blk_below (q_f1 l.out E.out) hb); replace q := a_ (blk_below (g := c3) (o := .cells #[.bool a4, .bool a5, .bool a6, .bool b5, .bool b6, .bool b7, .int .i64 a7, .bool a8, .bool b8, .bool b9] 111 (0, 0)) (q_p q.out) hb); replace O := a_ (q_st3 O.out hb y.out z.out B.out); (clear hb); obtain ⟨cW, cX, cY, cZ, da, db, dc, dd, de, df⟩ := q_cf5 p.out; obtain ⟨dg, dh, di, dj, dk, dl, dm, dn, dp, dq, dr, dt, du, dv, dw, dx, dy, dz, dA, dB⟩ := q_cf10 q.out; obtain ⟨dC, dD, dE, dF, dG, dH, dI, dJ, dK, dL, dM, dN, dO, dP⟩ := q_cf7 l.out) | (go_at_call 73; (with_reducible refine (flow_register.calls (q_F k4 O.out) s0.out).mono ?_); rintro e ju ⟨rfl, hb⟩; replace p := a_ (q_bk p.out hb); replace l := a_ (q_bk l.out hb); replace q := a_ (q_bk q.out hb); replace O := a_ (q_st3 O.out hb y.out z.out B.out); (clear hb)))
 go_meet
 case rel => exact ⟨_, (true), q_r, H', ⟨by first | omega | exact Nat.le_refl _⟩, ⟨q_k p.out⟩, ⟨q_k l.out⟩, ⟨q_k q.out⟩, ⟨q_w3 O.out y.out z.out B.out⟩⟩}
 {
 rw [if_pos rfl] at H; replace H := q_bd H; obtain ⟨e2, r4, H⟩ := H; have D7 := a_ r4; clear r4; cases e2
 {
 replace H := q_if H; have H' := a_ H
 clear H; have ih := F.out; have ii := G.out; have ij := D.out; have ik := I.out; obtain ⟨W1, W2, W3, W4, W5, W6, W7, W8, W9, X0⟩ := q_cf5 p.out; have il := J.out; have im := E.out; obtain ⟨X1, X2, X3, X4, X5, X6, X7, X8, X9, Y0, Y1, Y2, Y3, Y4, Y5, Y6, Y7, Y8, Y9, Z0⟩ := q_cf10 q.out; obtain ⟨Z1, Z2, Z3, Z4, Z5, Z6, Z7, Z8, Z9, aa, ab, ac, ad, ae⟩ := q_cf7 l.out; go_wp2_with (first | (go_at_call 73; (with_reducible refine (flow_register.calls (q_G k4 (q_w3 O.out y.out z.out B.out)) q4.out).mono ?_); rintro e jq ⟨rfl, hb⟩; replace p := a_ (blk_below (q_f1 p.out D.out) hb); replace l := a_ (blk_below (q_f1 l.out E.out) hb); replace q := a_ (blk_below (g := c3) (o := .cells #[.bool a4, .bool a5, .bool a6, .bool b5, .bool b6, .bool b7, .int .i64 a7, .bool a8, .bool b8, .bool b9] 111 (0, 0)) (q_p q.out) hb); replace O := a_ (q_st3 O.out hb y.out z.out B.out); (clear hb); obtain ⟨af, ag, ah, ai, aj, ak, al, am, an, ao⟩ := q_cf5 p.out; obtain ⟨ap, aq, au, av, aw, ax, ay, az, aA, aC, aD, aE, aG, aH, aI, aJ, aK, aM, aN, aQ⟩ := q_cf10 q.out; obtain ⟨aR, aT, aU, aV, aW, aX, aY, aZ, ba, bb, bc, bd, be, bf⟩ := q_cf7 l.out) | (go_at_call 73; (with_reducible refine (flow_register.calls (q_F k4 O.out) s0.out).mono ?_); rintro e jr ⟨rfl, hb⟩; replace p := a_ (q_bk p.out hb); replace l := a_ (q_bk l.out hb); replace q := a_ (q_bk q.out hb); replace O := a_ (q_st3 O.out hb y.out z.out B.out); (clear hb); obtain ⟨bg, bh, bi, bj, bk, bl, bm, bn, bo, bp⟩ := q_cf5 p.out; obtain ⟨bq, br, bu, bv, bw, bx, bz, bA, bB, bC, bD, bE, bF, bG, bH, bI, bJ, bK, bL, bM⟩ := q_cf10 q.out; obtain ⟨bN, bO, bP, bQ, bR, bS, bT, bU, bV, bW, bX, bY, bZ, ca⟩ := q_cf7 l.out) | (go_at_call 73; (with_reducible refine (flow_register.calls (q_F k4 O.out) D7.out).mono ?_); rintro e js ⟨rfl, hb⟩; replace p := a_ (q_bk p.out hb); replace l := a_ (q_bk l.out hb); replace q := a_ (q_bk q.out hb); replace O := a_ (q_st3 O.out hb y.out z.out B.out); (clear hb)))
 go_meet
 case rel => exact ⟨_, (true), q_r, H', ⟨by first | omega | exact Nat.le_refl _⟩, ⟨q_k p.out⟩, ⟨q_k l.out⟩, ⟨q_k q.out⟩, ⟨q_w3 O.out y.out z.out B.out⟩⟩}
 {
 rw [if_pos rfl] at H; replace H := q_bd H; obtain ⟨e3, r5, H⟩ := H; have hZ := a_ r5; clear r5; have H' := a_ H
 clear H; have ia := F.out; have ib := G.out; have ic := D.out; have id := I.out; obtain ⟨D8, D9, E0, E1, E2, E3, E4, E5, E6, E7⟩ := q_cf5 p.out; have ie := J.out; have ig := E.out; obtain ⟨E8, E9, F0, F1, F2, F3, F4, F5, F6, F7, F8, F9, G0, G1, G2, G3, G4, G5, G6, G7⟩ := q_cf10 q.out; obtain ⟨G8, G9, H0, H1, H2, H3, H4, H5, H6, H7, H8, H9, I0, I1⟩ := q_cf7 l.out; go_wp2_with (first | (go_at_call 73; (with_reducible refine (flow_register.calls (q_G k4 (q_w3 O.out y.out z.out B.out)) q4.out).mono ?_); rintro e jm ⟨rfl, hb⟩; replace p := a_ (blk_below (q_f1 p.out D.out) hb); replace l := a_ (blk_below (q_f1 l.out E.out) hb); replace q := a_ (blk_below (g := c3) (o := .cells #[.bool a4, .bool a5, .bool a6, .bool b5, .bool b6, .bool b7, .int .i64 a7, .bool a8, .bool b8, .bool b9] 111 (0, 0)) (q_p q.out) hb); replace O := a_ (q_st3 O.out hb y.out z.out B.out); (clear hb); obtain ⟨I2, I3, I4, I5, I6, I7, I8, I9, J0, J1⟩ := q_cf5 p.out; obtain ⟨J2, J3, J4, J5, J6, J7, J8, J9, K0, K1, K2, K3, K4, K5, K6, K7, K8, K9, L0, L1⟩ := q_cf10 q.out; obtain ⟨L2, L3, L4, L5, L6, L7, L8, L9, M0, M1, M2, M3, M4, M5⟩ := q_cf7 l.out) | (go_at_call 73; (with_reducible refine (flow_register.calls (q_F k4 O.out) s0.out).mono ?_); rintro e jn ⟨rfl, hb⟩; replace p := a_ (q_bk p.out hb); replace l := a_ (q_bk l.out hb); replace q := a_ (q_bk q.out hb); replace O := a_ (q_st3 O.out hb y.out z.out B.out); (clear hb); obtain ⟨M6, M7, M8, M9, N0, N1, N3, N4, N5, N6⟩ := q_cf5 p.out; obtain ⟨N7, N8, N9, O0, O1, O2, O3, O4, O5, O6, O7, O8, O9, P0, P1, P2, P3, P4, P5, P6⟩ := q_cf10 q.out; obtain ⟨P7, P8, P9, Q0, Q1, Q2, Q3, Q4, Q5, Q6, Q7, Q8, Q9, R0⟩ := q_cf7 l.out) | (go_at_call 73; (with_reducible refine (flow_register.calls (q_F k4 O.out) D7.out).mono ?_); rintro e jo ⟨rfl, hb⟩; replace p := a_ (q_bk p.out hb); replace l := a_ (q_bk l.out hb); replace q := a_ (q_bk q.out hb); replace O := a_ (q_st3 O.out hb y.out z.out B.out); (clear hb); obtain ⟨R1, R2, R3, R4, R5, R6, R7, R8, R9, S0⟩ := q_cf5 p.out; obtain ⟨S1, S2, S3, S4, S5, S6, S7, S8, S9, T2, T3, T6, T7, U0, U1, U2, U3, U4, U5, U6⟩ := q_cf10 q.out; obtain ⟨U7, U8, U9, V0, V1, V2, V3, V4, V5, V6, V7, V8, V9, W0⟩ := q_cf7 l.out) | (go_at_call 75; (with_reducible refine (flow_imm.calls (q_F k4 O.out) (q_C (Kd.C_below e7.out O.out)) r8.out hZ.out).mono ?_); rintro e jp ⟨rfl, hb⟩; replace p := a_ (q_bk p.out hb); replace l := a_ (q_bk l.out hb); replace q := a_ (q_bk q.out hb); replace O := a_ (q_st3 O.out hb y.out z.out B.out); (clear hb)))
 go_meet
 case rel => exact ⟨_, (!e3), q_r, H', ⟨by first | omega | exact Nat.le_refl _⟩, ⟨q_k p.out⟩, ⟨q_k l.out⟩, ⟨q_k q.out⟩, ⟨q_w3 O.out y.out z.out B.out⟩⟩}}}})
 case rest => (
 clear r9 l6 l7 l8 l9 n0 n1 n2 n3 n4 n5 o9 p0 p1 p2 p3 p4 p5 n6 n7 n8 n9 o0 o1 o2 o3 o4 o5 p6 p7 p8 p9 q0 q1 q2; obtain ⟨kq, d9, rfl, HA, e4, p, l, q, O⟩ := hcut; cases kq with
 | zero => exact absurd HA.out (by simp [flow_instr.j0])
 | succ iB => (
 have H := HA.out; clear HA; simp only [flow_instr.j0] at H
 cases d9
 {
 replace H := q_if H; have o6 := a_ H; clear H; go_upto_block 0 with (fail)
 go_cut [8] (fun v8 wc => ∃ (kq : Nat) (c8 : Bool), v8 = .bool c8 ∧ Aside0 (flow_instr.j1 kq a2 c8 S L M T N V U X a0 a1 a3 R a4 a5 a6 b5 b6 b7 a7 a8 b8 b9 = some r) ∧ Aside0 (kq ≤ iB) ∧ Aside0 (wc.heap[e8]? = some (.cells #[.string S, (.slice d1 L.length d2), (.slice d3 M.length d4), .int .i64 T, (.slice d5 N.length d6)] 26 (0, 0))) ∧ Aside0 (wc.heap[e9]? = some (.cells #[.int .i64 V, .int .i64 U, .int .i64 X, .int .i64 a0, .int .i64 a1, .int .i32 a3, (.slice d7 R.length d8)] 71 (0, 0))) ∧ Aside0 (wc.heap[c3]? = some (.cells #[.bool a4, .bool a5, .bool a6, .bool b5, .bool b6, .bool b7, .int .i64 a7, .bool a8, .bool b8, .bool b9] 111 (0, 0))) ∧ Aside0 (Below w.heap.size w wc))
 case first => (
 have H := o6.out; clear o6; cases a8
 {
 replace H := q_if H; rcases q_ite H with ⟨c84b0, H⟩ | ⟨c84b0, H⟩
 {
 (first | rw [c84b0] | (simp only [i64_w, i32_w]; rw [c84b0]) | skip)
 rcases q_ite H with ⟨c85b0, H⟩ | ⟨c85b0, H⟩
 {
 have H' := a_ H
 clear H; have iK := I.out; have iL := D.out; have iM := J.out; have iN := E.out; obtain ⟨fs, ft, fu, fv, fw, fx, fy, fz, fA, fB, fC, fD, fE, fF, fG, fH, fI, fJ, fK, fL⟩ := q_cf10 q.out; have iO := G.out; have iP := F.out; obtain ⟨fM, fN, fO, fP, fQ, fR, fS, fT, fU, fV, fW, fX, fY, fZ⟩ := q_cf7 l.out; go_wp2
 go_meet
 case rel => exact ⟨_, (decide (U < a7)), q_r, H', ⟨by have := e4.out; first | omega | exact Nat.le_refl _⟩, ⟨q_k p.out⟩, ⟨q_k l.out⟩, ⟨q_k q.out⟩, ⟨q_w3 O.out y.out z.out B.out⟩⟩}
 {
 have H' := a_ H
 clear H; have iQ := I.out; have iR := D.out; have iS := J.out; have iT := E.out; obtain ⟨ga, gb, gc, ge, gf, gg, gh, gi, gj, gl, gm, gn, go, gp, gq, gr, gs, gt, gu, gv⟩ := q_cf10 q.out; have iU := G.out; have iV := F.out; obtain ⟨gw, gx, gy, gz, gA, gB, gC, gD, gE, gF, gG, gH, gI, gJ⟩ := q_cf7 l.out; go_wp2
 go_meet
 case rel => exact ⟨_, (false), q_r, H', ⟨by have := e4.out; first | omega | exact Nat.le_refl _⟩, ⟨q_k p.out⟩, ⟨q_k l.out⟩, ⟨q_k q.out⟩, ⟨q_w3 O.out y.out z.out B.out⟩⟩}}
 {
 (first | rw [c84b0] | (simp only [i64_w, i32_w]; rw [c84b0]) | skip)
 have H' := a_ H
 clear H; have iW := I.out; have iX := D.out; have iY := J.out; have iZ := E.out; obtain ⟨gK, gL, gM, gN, gO, gP, gQ, gR, gS, gT, gU, gV, gW, gX, gY, gZ, ha, hc, he, hf⟩ := q_cf10 q.out; have ja := G.out; have jb := F.out; obtain ⟨s2, s3, s4, s5, s6, s7, s8, s9, t0, t1, t2, t3, t4, t5⟩ := q_cf7 l.out; go_wp2
 go_meet
 case rel => exact ⟨_, ((U == 0)), q_r, H', ⟨by have := e4.out; first | omega | exact Nat.le_refl _⟩, ⟨q_k p.out⟩, ⟨q_k l.out⟩, ⟨q_k q.out⟩, ⟨q_w3 O.out y.out z.out B.out⟩⟩}}
 {
 rw [if_pos rfl] at H; replace H := q_bd H; obtain ⟨eI, r6, H⟩ := H; have iD := a_ r6; clear r6; have H' := a_ H
 clear H; have iE := I.out; have iF := D.out; have iG := J.out; have iH := E.out; obtain ⟨eJ, eK, eL, eM, eN, eO, eP, eQ, eR, eS, eT, eU, eV, eW, eX, eY, eZ, fa, fb, fc⟩ := q_cf10 q.out; have iI := G.out; have iJ := F.out; obtain ⟨fd, fe, ff, fg, fh, fi, fj, fk, fl, fm, fn, fo, fp, fq⟩ := q_cf7 l.out; go_wp2_with (first | ((with_reducible refine gc_ 76 rfl ?_); refine q_gl 61 #[.int .i64 U] Tryd.func76 rfl ?_; (with_reducible refine (num_Folds.calls iD.out).mono ?_); rintro e w' ⟨rfl, ⟨nd, rfl⟩⟩; refine ⟨_, rfl, ?_⟩))
 go_meet
 case rel => exact ⟨_, (eI), q_r, H', ⟨by have := e4.out; first | omega | exact Nat.le_refl _⟩, ⟨q_k p.out⟩, ⟨q_k l.out⟩, ⟨q_k q.out⟩, ⟨q_w3 O.out y.out z.out B.out⟩⟩})
 case rest => (
 clear o6; obtain ⟨kq, c8, rfl, HA, f0, p, l, q, O⟩ := hcut; cases kq with
 | zero => exact absurd HA.out (by simp [flow_instr.j1])
 | succ r7 => (
 have H := HA.out; clear HA; simp only [flow_instr.j1] at H
 cases b7
 {
 replace H := q_if H; cases c8
 {
 replace H := q_if H; obtain rfl := q_so H; have hM := I.out; have hN := D.out; have hO := J.out; have hP := E.out; obtain ⟨B2, B3, B6, B7, C0, C1, C2, C3, C4, C5, C6, C7, C8, C9, D0, D1, D2, D3, D4, D5⟩ := q_cf10 q.out; go_wp2
 go_ret
 exact ⟨q_e, q_w3 O.out y.out z.out B.out⟩}
 {
 rw [if_pos rfl] at H; obtain rfl := q_so H; have hF := I.out; have hG := D.out; have hH := J.out; have hJ := E.out; obtain ⟨x5, x6, x7, x8, x9, y0, y1, y2, y3, y4, y5, y6, y7, y8, y9, z0, z1, z2, z3, z4⟩ := q_cf10 q.out; have hK := G.out; have hL := F.out; obtain ⟨z5, z6, z7, z8, z9, A0, A1, A2, A3, A5, A6, A7, A8, A9⟩ := q_cf7 l.out; go_wp2
 go_ret
 exact ⟨q_e, q_w3 O.out y.out z.out B.out⟩}}
 {
 rw [if_pos rfl] at H; have H' := a_ H
 clear H; have hj := I.out; have hk := D.out; have hq := J.out; have hs := E.out; obtain ⟨f5, f6, f7, f8, f9, g0, g1, g2, g3, g4, g5, g6, g7, g8, g9, i0, i1, i2, i3, i4⟩ := q_cf10 q.out; have ht := G.out; have hu := F.out; obtain ⟨i5, i6, i7, i8, i9, j3, j5, j6, j7, j8, j9, k0, k1, k2⟩ := q_cf7 l.out; go_wp2
 go_loopg [8, 89] r7 (fun kq v8 jc w' => ∃ (e5 : Bool) (c0 : Int), v8 = .bool e5 ∧ jc = .int .i64 c0 ∧ Aside0 (flow_instr.l0 kq a2 e5 R (R.length : Int) c0 S L M T N V U X a0 a1 a3 R = some r) ∧ Aside0 (kq ≤ r7) ∧ Aside0 (w'.heap[e8]? = some (.cells #[.string S, (.slice d1 L.length d2), (.slice d3 M.length d4), .int .i64 T, (.slice d5 N.length d6)] 26 (0, 0))) ∧ Aside0 (w'.heap[e9]? = some (.cells #[.int .i64 V, .int .i64 U, .int .i64 X, .int .i64 a0, .int .i64 a1, .int .i32 a3, (.slice d7 R.length d8)] 71 (0, 0))) ∧ Aside0 (w'.heap[c3]? = some (.cells #[.bool a4, .bool a5, .bool a6, .bool b5, .bool b6, .bool true, .int .i64 a7, .bool a8, .bool b8, .bool b9] 111 (0, 0))) ∧ Aside0 (Below w.heap.size w w'))
 case atStart => exact ⟨(c8), (0), q_r, q_r, H', ⟨Nat.le_refl _⟩, ⟨q_k p.out⟩, ⟨q_k l.out⟩, ⟨q_k q.out⟩, ⟨q_w3 O.out y.out z.out B.out⟩⟩
 case round => (
 clear H'; clear f5 f6 f7 f8 f9 g0 g1 g2 g3 g4 i5 i6 i7 i8 i9 j3 j5 g5 g6 g7 g8 g9 i0 i1 i2 i3 i4 j6 j7 j8 j9 k0 k1 k2; obtain ⟨e5, c0, rfl, rfl, HA, r0, p, l, q, O⟩ := hrel; cases gk with
 | zero => exact absurd HA.out (by simp [flow_instr.l0])
 | succ k3 => (
 have H := HA.out; clear HA; simp only [flow_instr.l0] at H
 rcases q_ite H with ⟨c107b0, H⟩ | ⟨c107b0, H⟩
 {
 replace H := q_gD H; obtain ⟨-, c108b0, H⟩ := H; replace H := q_gD H; obtain ⟨-, c109b0, H⟩ := H; cases e5
 {
 replace H := q_if H; have H' := a_ H
 clear H; have c9 : 0 ≤ (c0 : Int) := q_d
 have d0 : c0 < (R.length : Int) := q_d
 obtain ⟨s1, o8, c1⟩ := Kd.at_int e7.out c0 c9 d0; cases o8; replace c1 := q_kc O.out c1; replace c9 := eq_true c9; replace d0 := eq_true d0; go_wp2
 go_roundg k3
 case measure => have := e4.out; have := f0.out; have := r0.out; omega
 case rel => exact ⟨(false), (wrap64 (c0 + 1)), q_r, q_r, H', ⟨by have := e4.out; have := f0.out; have := r0.out; omega⟩, ⟨q_k p.out⟩, ⟨q_k l.out⟩, ⟨q_k q.out⟩, ⟨q_w3 O.out y.out z.out B.out⟩⟩}
 {
 rw [if_pos rfl] at H; replace H := q_bd H; obtain ⟨hh, o7, H⟩ := H; have hi := a_ o7; clear o7; have H' := a_ H
 clear H; have c9 : 0 ≤ (c0 : Int) := q_d
 have d0 : c0 < (R.length : Int) := q_d
 obtain ⟨s1, o8, c1⟩ := Kd.at_int e7.out c0 c9 d0; cases o8; replace c1 := q_kc O.out c1; replace c9 := eq_true c9; replace d0 := eq_true d0; have hv := F.out; have hw := G.out; have hz := D.out; have hA := I.out; obtain ⟨t6, t7, t8, t9, v0, v1, v2, v3, v4, v5⟩ := q_cf5 p.out; go_wp2_with (first | (go_at_call 73; (with_reducible refine (flow_register.calls (q_F k4 O.out) hi.out).mono ?_); rintro e ji ⟨rfl, hb⟩; replace p := a_ (q_bk p.out hb); replace l := a_ (q_bk l.out hb); replace q := a_ (q_bk q.out hb); replace O := a_ (q_st3 O.out hb y.out z.out B.out); (clear hb)))
 go_roundg k3
 case measure => have := e4.out; have := f0.out; have := r0.out; omega
 case rel => exact ⟨(hh), (wrap64 (c0 + 1)), q_r, q_r, H', ⟨by have := e4.out; have := f0.out; have := r0.out; omega⟩, ⟨q_k p.out⟩, ⟨q_k l.out⟩, ⟨q_k q.out⟩, ⟨q_w3 O.out y.out z.out B.out⟩⟩}}
 {
 cases e5
 {
 replace H := q_if H; obtain rfl := q_so H; go_wp2
 go_ret
 exact ⟨q_e, q_w3 O.out y.out z.out B.out⟩}
 {
 rw [if_pos rfl] at H; obtain rfl := q_so H; have hB := G.out; have hC := F.out; have hD := E.out; have hE := J.out; obtain ⟨v6, v7, v9, w2, w3, w4, w5, w8, w9, x0, x1, x2, x3, x4⟩ := q_cf7 l.out; go_wp2
 go_ret
 exact ⟨q_e, q_w3 O.out y.out z.out B.out⟩}}))}))}
 {
 rw [if_pos rfl] at H; obtain rfl := q_so H; go_wp2
 go_ret
 exact ⟨q_e, q_w3 O.out y.out z.out B.out⟩}))
end Go.Proofs.YtefhpdcafdhcaaaDoor.A
end
section
namespace Go.Proofs.YtefhpdcafdhcaaaDoor.B
open Go Go.RowKit Go.Shelf Go.Proofs.YtefhpdcafdhcaaaDoorW.PrintWords Go.Proofs.YtefhpdcafdhcaaaDoorW.PrintLast Go.Proofs.YtefhpdcafdhcaaaDoorW.PrintMore Go.Proofs.YtefhpdcafdhcaaaDoor Go.Proofs.YtefhpdcafdhcaaaDoor.A
theorem new_at {w : World} {g : Nat} (o : Obj) (hg : g = w.heap.size) : (w.alloc o).heap[g]? = some o := by
 subst hg; exact Go.heap_alloc_new _ _
end Go.Proofs.YtefhpdcafdhcaaaDoor.B
end
section
namespace LexM
abbrev By := UInt8
def letter (c : By) : Bool := (decide (97 ≤ c.toNat) && decide (c.toNat ≤ 122)) || (decide (65 ≤ c.toNat) && decide (c.toNat ≤ 90))
def digit (c : By) : Bool := decide (48 ≤ c.toNat) && decide (c.toNat ≤ 57)
def inner (c : By) : Bool := letter c || digit c || c == 95
def words : List (List By) := [[102, 117, 110, 99], [107, 101, 114, 110, 101, 108], [98, 117, 102, 102, 101, 114], [105, 110, 116], [115, 104, 97, 114, 101, 100], [108, 101, 116], [105, 102], [101, 108, 115, 101], [119, 104, 105, 108, 101], [98, 114, 101, 97, 107], [99, 111, 110, 116, 105, 110, 117, 101], [114, 101, 116, 117, 114, 110], [98, 97, 114, 114, 105, 101, 114], [97, 116, 111, 109, 105, 99], [99, 111, 108, 108, 101, 99, 116], [116, 105, 100], [98, 105, 100], [100, 105, 109], [103, 114, 105, 100], [109, 105, 110], [109, 97, 120], [97, 100, 100], [97, 110, 100], [111, 114], [120, 111, 114]]
def isName (l : List By) : Bool := (match l with
 | [] => false
 | c :: _ => letter c) && l.all inner && decide (l.length ≤ 16) && !(words.contains l)
end LexM
end
section
namespace Go.Proofs.YtefhpdcafdhcaaaDoor.B
open Go Go.RowKit Go.Shelf Go.Proofs.YtefhpdcafdhcaaaDoorW.PrintWords Go.Proofs.YtefhpdcafdhcaaaDoorW.PrintLast Go.Proofs.YtefhpdcafdhcaaaDoorW.PrintMore Go.Proofs.YtefhpdcafdhcaaaDoor Go.Proofs.YtefhpdcafdhcaaaDoor.A
open Go.Maps (Keyed)
theorem law : Keyed Tryd.prog 9 := Go.Maps.string_keyed Tryd.underlying9
def wbytes : ByteArray := ⟨([102, 117, 110, 99, 32, 107, 101, 114, 110, 101, 108, 32, 98, 117, 102, 102, 101, 114, 32, 105, 110, 116, 32, 115, 104, 97, 114, 101, 100, 32, 108, 101, 116, 32, 105, 102, 32, 101, 108, 115, 101, 32, 119, 104, 105, 108, 101, 32, 98, 114, 101, 97, 107, 32, 99, 111, 110, 116, 105, 110, 117, 101, 32, 114, 101, 116, 117, 114, 110, 32, 98, 97, 114, 114, 105, 101, 114, 32, 97, 116, 111, 109, 105, 99, 32, 99, 111, 108, 108, 101, 99, 116, 32, 116, 105, 100, 32, 98, 105, 100, 32, 100, 105, 109, 32, 103, 114, 105, 100, 32, 109, 105, 110, 32, 109, 97, 120, 32, 97, 100, 100, 32, 97, 110, 100, 32, 111, 114, 32, 120, 111, 114] : List UInt8).toArray⟩
theorem wfields : (Lib.fields wbytes.data.toList) = LexM.words := by decide +kernel
def WordsD {H : Type} (D : DataW H) (j : Nat) : Prop := ∀ l : List UInt8, D.atKey (.string l) (.lit (.bool false)) = .lit (.bool ((LexM.words.take j).contains l))
theorem wascii : ∀ (j : Nat) b, wbytes.data.toList[j]? = some b → b.toNat < 128 := fun j b h => by
 have : ∀ b ∈ wbytes.data.toList, b.toNat < 128 := by decide +kernel
 exact this b (List.mem_of_getElem? h)
theorem words_calls {H : Type} (w : World) (hT : Tab w) : Calls Tryd.prog 83 #[] w fun e w' => ∃ (mb n : Nat) (D : DataW H), e = .returned (.map (some mb)) ∧ w.heap.size ≤ mb ∧ w'.ownsMap Tryd.prog 9 (plainElem Tryd.prog 4) mb n D ∧ WordsD D 25 ∧ Below w.heap.size w w' := by
 have cF := fields_calls wbytes (w.alloc (.map #[] 0)) (by decide) wascii (hT.below (below_alloc (Below.refl _ _) _))
 rw [wfields, show LexM.words.length = 25 from rfl] at cF; have hmm := @run_makeMap Tryd.prog; go_enter Tryd.func83, Tryd.ntmps83
 go_wp2_with (first | (go_at_call 90; refine cF.mono ?_; rintro e w' ⟨rfl, rfl⟩))
 clear cF hmm; go_loopg [7] 25 (fun g q wx => ∃ (j : Nat) (D : DataW H), j + g = 25 ∧ q = .int .i64 j ∧ Aside0 (WordsD D j) ∧ Aside0 (wx.ownsMap Tryd.prog 9 (plainElem Tryd.prog 4) w.heap.size j D) ∧ Aside0 (((w.alloc (.map #[] 0)).alloc (.cells (LexM.words.map fun l => Value.string ⟨l.toArray⟩).toArray 9)).grownBy wx (some w.heap.size)))
 case atStart => exact ⟨0, .map [], by omega, rfl, ⟨fun l => rfl⟩, ⟨(World.ownsMap_made _ _ _ _).alloc _⟩, ⟨World.grownBy.refl _ _⟩⟩
 case round => (
 obtain ⟨j, D, hj, rfl, HD, HM, HG⟩ := hrel; cases gk with
 | zero => (
 obtain rfl : j = 25 := by omega
 go_wp2
 go_ret
 refine ⟨w.heap.size, rfl, Nat.le_refl _, ?_⟩
 exact ⟨25, D, HM.out, HD.out, (below_alloc (below_alloc (Below.refl _ _) _) _).grown HG.out (by simp; omega) (fun k hk => by injection hk with hk; omega)⟩)
 | succ gk => (
 have hjl : j < 25 := by omega
 obtain ⟨l, hl⟩ : ∃ l : List UInt8, l = LexM.words[j]'(show j < LexM.words.length from hjl) := ⟨_, rfl⟩; obtain ⟨x, hx⟩ : ∃ x : ByteArray, x = ⟨l.toArray⟩ := ⟨_, rfl⟩; have hcell : wr.cell? ⟨w.heap.size + 1, j, none⟩ = some (.string x) := by {
 refine cell_grown HG.out ((blk_cell (new_at _ (by simp)) j).trans ?_) (by simp)
 rw [hx, hl]; rw [List.getElem?_toArray, List.getElem?_map, List.getElem?_eq_getElem (show j < LexM.words.length from hjl)]; rfl}
 have hxl : x.data.toList = l := by rw [hx]
 have hxs : x.size ≤ maxLen := by {
 have h1 : ∀ l ∈ LexM.words, l.length ≤ 10 := by decide
 have y := h1 l (hl ▸ List.getElem_mem (show j < LexM.words.length from hjl)); rw [← hxl, data_length] at y; unfold maxLen; omega}
 have hkey : keyOf Tryd.prog 9 (.string x) = some (.string x.data.toList) := Go.WideMaps.keyOf_string_mk Tryd.underlying9 hxs
 clear hx; go_wp2_with (first | (at_mapUpdate; refine wpList_mapUpdate_own _ rfl _ _ _ 108 rfl 9 4 law Tryd.underlying108 _ w.heap.size j _ rfl HM.out (by unfold maxLen; omega) _ _ _ rfl rfl hkey _ [] (plainElem_bool Tryd.underlying4 true) ?_; intro w1 b p))
 go_roundg gk
 case rel => (
 refine ⟨j + 1, _, by omega, by go_num, ⟨fun l' => ?_⟩, ⟨b⟩, ⟨HG.out.trans p⟩⟩
 have ht : LexM.words.take (j + 1) = LexM.words.take j ++ [l] := by rw [List.take_succ_eq_append_getElem (show j < LexM.words.length from hjl), hl]
 have hKl : WideAt.IsKeyLit (.string x.data.toList) := law.key hkey
 by_cases e : l' = l
 ·subst e; rw [ht, ← hxl, Maps.atKey_put_same HM.out.isMap hKl]; simp
 {
 have z : (Lit.string l') ≠ Lit.string x.data.toList := fun h => e (by rw [hxl] at h; injection h)
 rw [Maps.atKey_put_other z, HD.out l', ht]; simp [e]})
 case measure => omega))
end Go.Proofs.YtefhpdcafdhcaaaDoor.B
end
section
namespace Go.Proofs.YtefhpdcafdhcaaaDoor.B
open Go Go.RowKit Go.Proofs.YtefhpdcafdhcaaaDoorW.PrintWords Go.Proofs.YtefhpdcafdhcaaaDoor Go.Proofs.YtefhpdcafdhcaaaDoor.A
def lex_isWord.f (b : ByteArray) : Option Bool := if b.size ≤ maxLen then some (LexM.words.contains b.data.toList) else none
theorem look_word {H : Type} {w : World} {mb n : Nat} {D : DataW H} (hown : w.ownsMap Tryd.prog 9 (plainElem Tryd.prog 4) mb n D) (hD : WordsD D 25) (s : ByteArray) (hs : s.size ≤ maxLen) :
  (Instr.lookup 108 (.map (some mb)) (.string s) false).run Tryd.prog w = .ok (.bool (LexM.words.contains s.data.toList)) w := by
 obtain ⟨v, ps, hrun, hv⟩ := hown.lookup law Tryd.underlying108 (z := .bool false) rfl (plainElem_bool Tryd.underlying4 false) (Go.WideMaps.keyOf_string_mk Tryd.underlying9 hs); rw [hD] at hv; rw [show LexM.words.take 25 = LexM.words from rfl] at hv; rw [hrun]; congr 1
 unfold plainElem at hv
 cases v <;> simp_all
def Known (w : World) (mb : Nat) : Prop := ∃ (n : Nat) (D : DataW Unit), w.ownsMap Tryd.prog 9 (plainElem Tryd.prog 4) mb n D ∧ WordsD D 25
theorem words_known (w : World) (hT : Tab w) : Calls Tryd.prog 83 #[] w fun e w' => ∃ mb : Nat, e = .returned (.map (some mb)) ∧ w.heap.size ≤ mb ∧ Known w' mb ∧ Below w.heap.size w w' :=
 (words_calls (H := Unit) w hT).mono fun _ _ ⟨mb, n, D, he, hl, ho, hD, hb⟩ => ⟨mb, he, hl, ⟨n, D, ho, hD⟩, hb⟩
end Go.Proofs.YtefhpdcafdhcaaaDoor.B
namespace Go.Proofs.YtefhpdcafdhcaaaDoor.B
open Go Go.RowKit Go.Proofs.YtefhpdcafdhcaaaDoorW.PrintWords Go.Proofs.YtefhpdcafdhcaaaDoor Go.Proofs.YtefhpdcafdhcaaaDoor.A
def lex_words.f : Option Int := some 0
end Go.Proofs.YtefhpdcafdhcaaaDoor.B
namespace Go.Proofs.YtefhpdcafdhcaaaDoor.B
open Go Go.RowKit Go.Proofs.YtefhpdcafdhcaaaDoorW.PrintWords Go.Proofs.YtefhpdcafdhcaaaDoor Go.Proofs.YtefhpdcafdhcaaaDoor.A
theorem known_run {w : World} {mb : Nat} (hk : Known w mb) (s : ByteArray) {b : Bool} (hb : lex_isWord.f s = some b) : (Instr.lookup 108 (.map (some mb)) (.string s) false).run Tryd.prog w = .ok (.bool b) w := by
 unfold lex_isWord.f at hb
 by_cases hs : s.size ≤ maxLen
 case neg => rw [if_neg hs] at hb; cases hb
 rw [if_pos hs] at hb; obtain rfl := q_so hb; obtain ⟨n, D, ho, hD⟩ := hk; exact look_word ho hD s hs
end Go.Proofs.YtefhpdcafdhcaaaDoor.B
end
section
namespace Go.Proofs.YtefhpdcafdhcaaaDoor.N
open Go.RowKit Go.Proofs.YtefhpdcafdhcaaaDoorW.PrintWords Go.Proofs.YtefhpdcafdhcaaaDoorW.PrintLast Go.Proofs.YtefhpdcafdhcaaaDoorW.PrintMore Go.Proofs.YtefhpdcafdhcaaaDoor Go.Proofs.YtefhpdcafdhcaaaDoor.A Go.Proofs.YtefhpdcafdhcaaaDoor.B
attribute [local go_sem] max2_int max_two
set_option linter.unusedVariables false
set_option linter.unusedSimpArgs false
def lex_letter.f (b : Int) : Option (Bool) := if b ≥ 97 then (if b ≤ 122 then (some true) else (if b ≥ 65 then (some (decide (b ≤ 90))) else (some false))) else (if b ≥ 65 then (some (decide (b ≤ 90))) else (some false))
theorem lex_letter.calls {b : Int} {r : Bool} {w : World} (h : lex_letter.f b = some r) :
  Calls Tryd.prog 82 #[.int .u8 b] w fun e w' => e = .returned (.bool r) ∧ Drawn0 w w' := by
 have H : (if b ≥ 97 then (if b ≤ 122 then (some true) else (if b ≥ 65 then (some (decide (b ≤ 90))) else (some false))) else (if b ≥ 65 then (some (decide (b ≤ 90))) else (some false))) = some r := h
 clear h; rcases q_ite H with ⟨c2b0, H⟩ | ⟨c2b0, H⟩
 {
 rcases q_ite H with ⟨c3b0, H⟩ | ⟨c3b0, H⟩
 {
 obtain rfl := q_so H; go_enter Tryd.func82, Tryd.ntmps82
 go_wp2
 go_ret
 exact ⟨by first | rfl | (simp; done) | (simp [*]; done), by repeat (first | exact Drawn0.refl _ | apply Drawn0.step)⟩}
 {
 rcases q_ite H with ⟨c4b0, H⟩ | ⟨c4b0, H⟩
 all_goals (
 obtain rfl := q_so H; go_enter Tryd.func82, Tryd.ntmps82
 go_wp2
 go_ret
 exact ⟨by first | rfl | (simp; done) | (simp [*]; done), by repeat (first | exact Drawn0.refl _ | apply Drawn0.step)⟩)}}
 {
 rcases q_ite H with ⟨c5b0, H⟩ | ⟨c5b0, H⟩
 all_goals (
 obtain rfl := q_so H; go_enter Tryd.func82, Tryd.ntmps82
 go_wp2
 go_ret
 exact ⟨by first | rfl | (simp; done) | (simp [*]; done), by repeat (first | exact Drawn0.refl _ | apply Drawn0.step)⟩)}
def lex_digit.f (b : Int) : Option (Bool) := if b ≥ 48 then (some (decide (b ≤ 57))) else (some false)
theorem lex_digit.calls {b : Int} {r : Bool} {w : World} (h : lex_digit.f b = some r) :
  Calls Tryd.prog 91 #[.int .u8 b] w fun e w' => e = .returned (.bool r) ∧ Drawn0 w w' := by
 have H : (if b ≥ 48 then (some (decide (b ≤ 57))) else (some false)) = some r := h
 clear h; rcases q_ite H with ⟨c2b0, H⟩ | ⟨c2b0, H⟩
 all_goals (
 obtain rfl := q_so H; go_enter Tryd.func91, Tryd.ntmps91
 go_wp2
 go_ret
 exact ⟨by first | rfl | (simp; done) | (simp [*]; done), by repeat (first | exact Drawn0.refl _ | apply Drawn0.step)⟩)
def lex_inner.f (p : Int) : Option (Bool) := (lex_letter.f p).bind fun b => (if b = true then (some true) else ((lex_digit.f p).bind fun l => (if l = true then (some true) else (some (p == 95)))))
theorem lex_inner.calls {B : Int} {r : Bool} {w : World} (h : lex_inner.f B = some r) :
  Calls Tryd.prog 84 #[.int .u8 B] w fun e w' => e = .returned (.bool r) ∧ Drawn0 w w' := by
 have H : ((lex_letter.f B).bind fun l => (if l = true then (some true) else ((lex_digit.f B).bind fun p => (if p = true then (some true) else (some (B == 95)))))) = some r := h
 clear h; replace H := q_bd H; obtain ⟨l, q, H⟩ := H; have y := a_ q; clear q; cases l
 {
 replace H := q_if H; replace H := q_bd H; obtain ⟨p, z, H⟩ := H; have C := a_ z; clear z; by_cases c5 : p = true
 focus (
 subst c5; rw [if_pos rfl] at H; obtain rfl := q_so H; go_enter Tryd.func84, Tryd.ntmps84)
 rotate_left
 focus (
 replace c5 := q_bf c5; subst c5; replace H := q_if H; obtain rfl := q_so H; go_enter Tryd.func84, Tryd.ntmps84)
 all_goals (
 go_wp2_with (first | ((with_reducible refine gc_ 82 rfl ?_); refine q_gl 4 #[.int .u8 B] Tryd.func82 rfl ?_; (with_reducible refine (lex_letter.calls y.out).mono ?_); rintro e w' ⟨rfl, ⟨D, rfl⟩⟩; refine ⟨_, rfl, ?_⟩) | (go_at_call 91; (with_reducible refine (lex_digit.calls C.out).mono ?_); rintro e w' ⟨rfl, ⟨D, rfl⟩⟩))
 go_ret
 exact ⟨by first | rfl | (simp; done) | (simp [*]; done), by repeat (first | exact Drawn0.refl _ | apply Drawn0.step)⟩)}
 {
 rw [if_pos rfl] at H; obtain rfl := q_so H; go_enter Tryd.func84, Tryd.ntmps84
 go_wp2_with (first | ((with_reducible refine gc_ 82 rfl ?_); refine q_gl 4 #[.int .u8 B] Tryd.func82 rfl ?_; (with_reducible refine (lex_letter.calls y.out).mono ?_); rintro e w' ⟨rfl, ⟨D, rfl⟩⟩; refine ⟨_, rfl, ?_⟩))
 go_ret
 exact ⟨by first | rfl | (simp; done) | (simp [*]; done), by repeat (first | exact Drawn0.refl _ | apply Drawn0.step)⟩}
mutual
def lex_Name.j0 : Nat → ByteArray → Bool → Option (Bool)
 | 0, _, _ => none
 | k + 1, l, y => if y = true then (some false) else (lex_Name.l0 k l (l.size : Int) 0)
def lex_Name.l0 : Nat → ByteArray → Int → Int → Option (Bool)
 | 0, _, _, _ => none
 | k + 1, l, p, b => if b < p then (if 0 ≤ b then (if b < (l.size : Int) then ((lex_inner.f (bt l b)).bind fun q => (if q = true then (lex_Name.l0 k l p (wrap64 (b + 1))) else (some false))) else (none)) else (none)) else (some true)
end
def lex_Name.f (k : Nat) (b : ByteArray) : Option (Bool) := if b.toList = ([] : List UInt8) then (lex_Name.j0 k b true) else (if (b.size : Int) > 16 then (lex_Name.j0 k b true) else (if 0 < (b.size : Int) then ((lex_letter.f (bt b 0)).bind fun l => (if l = true then ((lex_words.f).bind fun q => ((lex_isWord.f b).bind fun p => (lex_Name.j0 k b p))) else (lex_Name.j0 k b true))) else (none)))
theorem lex_Name.calls (k : Nat) (l : ByteArray) (r : Bool) (w : World) (h : lex_Name.f k l = some r) (hT : Tab w) :
  Calls Tryd.prog 72 #[.string l] w fun e w' => e = .returned (.bool r) ∧ Below w.heap.size w w' := by
 have HT := a_ hT; clear hT; have B := a_ (Below.refl w.heap.size w); have H : (if l.toList = ([] : List UInt8) then (lex_Name.j0 k l true) else (if (l.size : Int) > 16 then (lex_Name.j0 k l true) else (if 0 < (l.size : Int) then ((lex_letter.f (bt l 0)).bind fun G => (if G = true then ((lex_words.f).bind fun a2 => ((lex_isWord.f l).bind fun I => (lex_Name.j0 k l I))) else (lex_Name.j0 k l true))) else (none)))) = some r := h
 clear h; have z := a_ H; clear H; go_enter Tryd.func72, Tryd.ntmps72
 go_upto_region 1 with (fail)
 go_cut [21] (fun a3 wc => ∃ (kq : Nat) (q : Bool), a3 = .bool q ∧ Aside0 (lex_Name.j0 kq l q = some r) ∧ Aside0 (kq ≤ k) ∧ Aside0 (Below w.heap.size w wc))
 case first => (
 have H := z.out; clear z; by_cases y : l.toList = ([] : List UInt8)
 {
 rw [if_pos y] at H; have c3b0 : (l.toList == ([] : List UInt8)) = true := beq_iff_eq.mpr y
 have c3b1 : (l.toList != ([] : List UInt8)) = false := bne_eq_false_iff_eq.mpr y
 clear y; (first | rw [c3b0] | (simp only [i64_w, i32_w]; rw [c3b0]) | skip)
 have F := a_ H
 clear H; go_wp2
 go_meet
 case rel => exact ⟨_, (true), q_r, F, ⟨by first | omega | exact Nat.le_refl _⟩, ⟨q_w B.out⟩⟩}
 {
 rw [if_neg y] at H; have c3b0 : (l.toList == ([] : List UInt8)) = false := beq_eq_false_iff_ne.mpr y
 have c3b1 : (l.toList != ([] : List UInt8)) = true := bne_iff_ne.mpr y
 (first | rw [c3b0] | (simp only [i64_w, i32_w]; rw [c3b0]) | skip)
 replace H := q_iD H; rcases H with ⟨p, c4b0, H⟩ | ⟨p, c4b0, H⟩
 {
 have c4b1 : decide (16 < l.size) = true := decide_eq_true (by omega)
 clear p; have F := a_ H
 clear H; go_wp2
 go_meet
 case rel => exact ⟨_, (true), q_r, F, ⟨by first | omega | exact Nat.le_refl _⟩, ⟨q_w B.out⟩⟩}
 {
 have c4b1 : decide (16 < l.size) = false := decide_eq_false (by omega)
 clear p; replace H := q_gD H; obtain ⟨c5, c5b0, H⟩ := H; have c5b1 : decide (0 < l.size) = true := decide_eq_true (by omega)
 clear c5; replace H := q_bd H; obtain ⟨G, O, H⟩ := H; have R := a_ O; clear O; cases G
 {
 replace H := q_if H; have F := a_ H
 clear H; have a5 : 0 ≤ (0 : Int) := (by omega)
 have V : 0 < l.size := (by have : (0 : Int) < (l.size : Int) := q_d; omega)
 have b1 : ∀ h : 0 < l.size, ((l[0]'h).toNat : Int) = bt l 0 := bt_at l 0
 clear a5; have b2 : (0 < (l.size : Int)) = True := eq_true (q_d)
 replace V := eq_true V; go_wp2_with (first | (go_at_call 82; (with_reducible refine (lex_letter.calls R.out).mono ?_); rintro e w' ⟨rfl, ⟨nd, rfl⟩⟩))
 go_meet
 case rel => exact ⟨_, (true), q_r, F, ⟨by first | omega | exact Nat.le_refl _⟩, ⟨q_w B.out⟩⟩}
 {
 rw [if_pos rfl] at H; replace H := q_bd H; obtain ⟨a2, D, H⟩ := H; have b4 := a_ D; clear D; replace H := q_bd H; obtain ⟨I, S, H⟩ := H; have T := a_ S; clear S; have F := a_ H
 clear H; have a4 : 0 ≤ (0 : Int) := (by omega)
 have U : 0 < l.size := (by have : (0 : Int) < (l.size : Int) := q_d; omega)
 have a9 : ∀ h : 0 < l.size, ((l[0]'h).toNat : Int) = bt l 0 := bt_at l 0
 clear a4; have b0 : (0 < (l.size : Int)) = True := eq_true (q_d)
 replace U := eq_true U; go_wp2_with (first | (go_at_call 82; (with_reducible refine (lex_letter.calls R.out).mono ?_); rintro e w' ⟨rfl, ⟨nd, rfl⟩⟩) | (go_at_call 83; (with_reducible refine (words_known _ (HT.out.below (q_w B.out))).mono ?_); rintro e b6 ⟨mb, rfl, hmb_, hkn_, hb⟩; have HKn := a_ hkn_; clear hkn_ hmb_; have hlk_ := known_run HKn.out l T.out; replace B := a_ (q_st B.out hb); (clear hb)) | (at_lookup; refine known_look rfl _ _ rfl _ rfl HKn.out _ rfl _ T.out ?_))
 go_meet
 case rel => exact ⟨_, (I), q_r, F, ⟨by first | omega | exact Nat.le_refl _⟩, ⟨q_w B.out⟩⟩}}})
 case rest => (
 clear z; obtain ⟨kq, q, rfl, HA, J, B⟩ := hcut; cases kq with
 | zero => exact absurd HA.out (by simp [lex_Name.j0])
 | succ L => (
 have H := HA.out; clear HA; simp only [lex_Name.j0] at H
 cases q
 {
 replace H := q_if H; have F := a_ H
 clear H; go_wp2
 go_loopg [24] L (fun kq a6 w' => ∃ (b : Int), a6 = .int .i64 b ∧ Aside0 (lex_Name.l0 kq l (l.size : Int) b = some r) ∧ Aside0 (kq ≤ L) ∧ Aside0 (Below w.heap.size w w'))
 case atStart => exact ⟨(0), q_r, F, ⟨Nat.le_refl _⟩, ⟨q_w B.out⟩⟩
 case round => (
 clear F; obtain ⟨b, rfl, HA, M, B⟩ := hrel; cases gk with
 | zero => exact absurd HA.out (by simp [lex_Name.l0])
 | succ a7 => (
 have H := HA.out; clear HA; simp only [lex_Name.l0] at H
 rcases q_ite H with ⟨c13b0, H⟩ | ⟨c13b0, H⟩
 {
 replace H := q_gD H; obtain ⟨-, c14b0, H⟩ := H; replace H := q_gD H; obtain ⟨-, c15b0, H⟩ := H; replace H := q_bd H; obtain ⟨a8, X, H⟩ := H; have D := a_ X; clear X; by_cases E : a8 = true
 focus (
 subst E; rw [if_pos rfl] at H; have F := a_ H
 clear H; have N : 0 ≤ (b : Int) := q_d)
 rotate_left
 focus (
 replace E := q_bf E; subst E; replace H := q_if H; obtain rfl := q_so H; have N : 0 ≤ (b : Int) := q_d)
 all_goals (
 have a1 : b < (l.size : Int) := q_d
 have b3 := bt_at l b; replace N := eq_true N; replace a1 := eq_true a1; go_wp2_with (first | ((with_reducible refine gc_ 84 rfl ?_); refine q_gl 30 #[.int .u8 (bt l b)] Tryd.func84 rfl ?_; (with_reducible refine (lex_inner.calls D.out).mono ?_); rintro e w' ⟨rfl, ⟨nd, rfl⟩⟩; refine ⟨_, rfl, ?_⟩)))
 {
 go_ret
 exact ⟨q_e, q_w B.out⟩}
 {
 go_roundg a7
 case measure => have := J.out; have := M.out; omega
 case rel => exact ⟨(wrap64 (b + 1)), q_r, F, ⟨by have := J.out; have := M.out; omega⟩, ⟨q_w B.out⟩⟩}}
 {
 obtain rfl := q_so H; go_wp2
 go_ret
 exact ⟨q_e, q_w B.out⟩}))}
 {
 rw [if_pos rfl] at H; obtain rfl := q_so H; go_wp2
 go_ret
 exact ⟨q_e, q_w B.out⟩}))
end Go.Proofs.YtefhpdcafdhcaaaDoor.N
end
section
namespace Go.Proofs.YtefhpdcafdhcaaaDoor.M
open Go Go.RowKit Go.Proofs.YtefhpdcafdhcaaaDoorW.PrintWords Go.Proofs.YtefhpdcafdhcaaaDoorW.PrintLast Go.Proofs.YtefhpdcafdhcaaaDoorW.PrintMore Go.Proofs.YtefhpdcafdhcaaaDoor.A Go.Proofs.YtefhpdcafdhcaaaDoor.B Go.Proofs.YtefhpdcafdhcaaaDoor.N
open LexM (letter digit inner words)
def Evt {α : Type} (f : Nat → Option α) (r : α) : Prop := ∃ K, ∀ k, K ≤ k → f k = some r
section
variable {α β : Type} {f g : Nat → Option α} {r a : α} {b : β}
theorem Evt.const (r : α) : Evt (fun _ => some r) r := ⟨0, fun _ _ => rfl⟩
theorem Evt.succ (h : Evt (fun k => f (k + 1)) r) : Evt f r := by
 obtain ⟨K, h⟩ := h; refine ⟨K + 1, fun k hk => ?_⟩
 obtain ⟨j, rfl⟩ : ∃ j, k = j + 1 := ⟨k - 1, by omega⟩
 exact h j (by omega)
theorem Evt.bind {h : Nat → α → Option β} (h1 : Evt f a) (l : Evt (fun k => h k a) b) : Evt (fun k => (f k).bind (h k)) b := by
 obtain ⟨K, h1⟩ := h1; obtain ⟨L, l⟩ := l; refine ⟨max K L, fun k hk => ?_⟩
 simp only [h1 k (by omega), Option.bind_some]
 exact l k (by omega)
theorem Evt.pos {c : Prop} [Decidable c] (hc : c) (h : Evt f r) : Evt (fun k => if c then f k else g k) r := by
 simpa only [if_pos hc] using h
theorem Evt.neg {c : Prop} [Decidable c] (hc : ¬ c) (h : Evt g r) : Evt (fun k => if c then f k else g k) r := by
 simpa only [if_neg hc] using h
theorem Evt.uniq {r' : α} (h : Evt f r) (h' : Evt f r') : r = r' := by
 obtain ⟨K, h⟩ := h; obtain ⟨L, h'⟩ := h'; have h1 := h (max K L) (by omega)
 have b := h' (max K L) (by omega)
 rw [h1] at b; exact q_so b
theorem Evt.of_mono (hm : ∀ k, LeO (f k) (f (k + 1))) {k : Nat} (h : f k = some r) : Evt f r := by
 refine ⟨k, fun j hj => ?_⟩
 obtain ⟨d, rfl⟩ := Nat.exists_eq_add_of_le hj; induction d with
 | zero => exact h
 | succ d ih => exact hm _ r (ih (by omega))
theorem Evt.get (h : Evt f r) : ∃ k, f k = some r := by
 obtain ⟨K, h⟩ := h; exact ⟨K, h K (Nat.le_refl _)⟩
end
theorem wrap64_id {x : Int} (b : -9223372036854775808 ≤ x) (h1 : x < 9223372036854775808) : wrap64 x = x := by
 unfold wrap64; omega
theorem wrap_succ (i : Nat) (h : i < 9223372036854775807) : wrap64 ((i : Int) + 1) = ((i + 1 : Nat) : Int) := by
 rw [wrap64_id (by omega) (by omega)]; omega
abbrev bs (s : ByteArray) : List UInt8 := s.data.toList
theorem bs_len (s : ByteArray) : (bs s).length = s.size := data_length s
theorem bt_nat (s : ByteArray) (i : Nat) (h : i < s.size) : bt s (i : Int) = ((bs s)[i]'(by rw [bs_len]; exact h)).toNat := by
 unfold bt
 rw [dif_pos (by simpa using h)]
 simp only [Int.toNat_natCast, bs, Array.getElem_toList]
 rfl
theorem bt_drop (s : ByteArray) (i : Nat) {c : UInt8} {l : List UInt8} (h : (bs s).drop i = c :: l) : i < s.size ∧ bt s (i : Int) = c.toNat := by
 have hi : i < (bs s).length := by
  rcases Nat.lt_or_ge i (bs s).length with h1 | h1
  ·exact h1
  ·rw [List.drop_of_length_le h1] at h; cases h
 have e := List.drop_eq_getElem_cons hi; rw [h] at e; injection e with b _
 rw [bs_len] at hi; exact ⟨hi, by rw [bt_nat s i hi, b]⟩
theorem bt_end (s : ByteArray) (i : Nat) (h : (bs s).drop i = []) : s.size ≤ i := by
 have := congrArg List.length h
 rw [List.length_drop, bs_len] at this; simp at this
 omega
theorem drop_next {s : ByteArray} {i : Nat} {c : UInt8} {l : List UInt8} (h : (bs s).drop i = c :: l) : (bs s).drop (i + 1) = l := by
 have := congrArg List.tail h
 simpa [List.tail_drop] using this
theorem letter_r (c : UInt8) : r2_letter.f (c.toNat : Int) = some (letter c) := by
 unfold r2_letter.f letter
 have b : ((c.toNat : Int) ≥ 97) ↔ 97 ≤ c.toNat := by omega
 have l : ((c.toNat : Int) ≤ 122) ↔ c.toNat ≤ 122 := by omega
 have p : ((c.toNat : Int) ≥ 65) ↔ 65 ≤ c.toNat := by omega
 have q : ((c.toNat : Int) ≤ 90) ↔ c.toNat ≤ 90 := by omega
 simp only [b, l, p, q]
 by_cases h1 : 97 ≤ c.toNat <;> by_cases y : c.toNat ≤ 122 <;> by_cases z : 65 ≤ c.toNat <;> simp [h1, y, z]
theorem digit_r (c : UInt8) : r2_digit.f (c.toNat : Int) = some (digit c) := by
 unfold r2_digit.f digit
 by_cases h1 : 48 ≤ c.toNat <;> by_cases b : c.toNat ≤ 57 <;> (repeat' split) <;> simp_all <;> omega
theorem eq_byte (c : UInt8) (n : Nat) (hn : n < 256) : ((c.toNat : Int) = (n : Int)) ↔ c = UInt8.ofNat n := by
 constructor
 {
 intro h
 have b : c.toNat = n := by omega
 apply UInt8.toNat_inj.1
 rw [b, UInt8.toNat_ofNat']; omega}
 {
 rintro rfl
 rw [UInt8.toNat_ofNat']; have : n % 2 ^ 8 = n := by omega
 omega}
theorem beq_byte (c : UInt8) (n : Nat) (hn : n < 256) : ((c.toNat : Int) == (n : Int)) = (c == UInt8.ofNat n) := by
 rw [Bool.eq_iff_iff]; simp only [beq_iff_eq]
 exact eq_byte c n hn
theorem inner_r (c : UInt8) : r2_Inner.f (c.toNat : Int) = some (inner c) := by
 unfold r2_Inner.f inner
 rw [letter_r, digit_r]; have h := beq_byte c 95 (by omega)
 cases letter c <;> cases digit c <;> simp_all
theorem rdOf_nat {α : Type} (d : α) (xs : List α) (i : Nat) (h : i < xs.length) : rdOf d xs (i : Int) = xs[i] := by simp [rdOf, h]
theorem in_ev (s : ByteArray) (L : List ByteArray) (hL : L.length ≤ 100000) : ∀ (m j : Nat), j + m = L.length → Evt (fun k => r2_In.l0 k s L (j : Int)) (decide (bs s ∈ (L.drop j).map bs))
 | 0, j, hm => by {
 refine Evt.succ ?_
 simp only [r2_In.l0]
 rw [List.drop_of_length_le (show L.length ≤ j by omega)]
 exact Evt.neg (by omega) (Evt.const _)}
 | m + 1, j, hm => by {
 have ih := in_ev s L hL m (j + 1) (by omega)
 have hj : j < L.length := by omega
 refine Evt.succ ?_
 simp only [r2_In.l0, rdOf_nat ByteArray.empty L j hj, wrap_succ j (by omega), ByteArray.toList_eq]
 refine Evt.pos (by omega) (Evt.pos (by omega) ?_)
 rw [List.drop_eq_getElem_cons hj, List.map_cons]; by_cases e : L[j].data.toList = s.data.toList
 {
 have : bs s ∈ bs L[j] :: (L.drop (j + 1)).map bs := by rw [show bs s = bs L[j] from e.symm]; exact List.mem_cons_self
 rw [decide_eq_true this]; exact Evt.pos e (Evt.const _)}
 {
 have : (bs s ∈ bs L[j] :: (L.drop (j + 1)).map bs) ↔ bs s ∈ (L.drop (j + 1)).map bs := by rw [List.mem_cons]; exact ⟨fun h => h.resolve_left (fun h => e h.symm), .inr⟩
 simp only [this]
 exact Evt.neg e ih}}
theorem words_r : ∃ L, r2_Words.f = some L ∧ L.map bs = words := ⟨_, rfl, rfl⟩
theorem letter_l (c : UInt8) : lex_letter.f (c.toNat : Int) = some (letter c) := letter_r c
theorem inner_l (c : UInt8) : lex_inner.f (c.toNat : Int) = some (inner c) := inner_r c
theorem isWord_r (t : ByteArray) (h : t.size ≤ 100000) : lex_isWord.f t = some (decide (bs t ∈ words)) := by
 unfold lex_isWord.f
 rw [if_pos (by unfold maxLen; omega)]
 simp [bs]
theorem all_ev (s : ByteArray) (hs : s.size ≤ 100000) : ∀ (l : List UInt8) (i : Nat), (bs s).drop i = l → Evt (fun k => lex_Name.l0 k s (s.size : Int) (i : Int)) (l.all inner) ∧ Evt (fun k => r2_shaped.l0 k s (i : Int)) (l.all inner)
 | [], i, h => by {
 have := bt_end s i h
 constructor
 {
 refine Evt.succ ?_
 simp only [lex_Name.l0]
 exact Evt.neg (by omega) (Evt.const _)}
 {
 refine Evt.succ ?_
 simp only [r2_shaped.l0]
 exact Evt.neg (by omega) (Evt.const _)}}
 | c :: l, i, h => by {
 obtain ⟨hi, hb⟩ := bt_drop s i h; obtain ⟨b, p⟩ := all_ev s hs l (i + 1) (drop_next h); rw [List.all_cons]; constructor
 {
 refine Evt.succ ?_
 simp only [lex_Name.l0, hb, inner_l, Option.bind_some, wrap_succ i (by omega)]
 refine Evt.pos (by omega) (Evt.pos (by omega) (Evt.pos (by omega) ?_))
 cases hn : inner c with
 | true => exact Evt.pos (by first | rfl | trivial) (by simpa using b)
 | false => exact Evt.neg (by simp) (by simpa using Evt.const _)}
 {
 refine Evt.succ ?_
 simp only [r2_shaped.l0, hb, inner_r, Option.bind_some, wrap_succ i (by omega)]
 refine Evt.pos (by omega) (Evt.pos (by omega) ?_)
 cases hn : inner c with
 | true => exact Evt.pos (by first | rfl | trivial) (by simpa using p)
 | false => exact Evt.neg (by simp) (by simpa using Evt.const _)}}
theorem name_ev (s : ByteArray) (hs : s.size ≤ 100000) : Evt (fun k => lex_Name.f k s) (LexM.isName (bs s)) ∧ Evt (fun k => r2_Name.f k s) (LexM.isName (bs s)) := by
 obtain ⟨q, y⟩ := all_ev s hs (bs s) 0 List.drop_zero; have j1 : ∀ b : Bool, Evt (fun k => lex_Name.j0 k s b) (!b && (bs s).all inner) := fun b => by {
 refine Evt.succ ?_
 simp only [lex_Name.j0]
 cases b with
 | true => exact Evt.pos (by first | rfl | trivial) (Evt.const _)
 | false => exact Evt.neg (by simp) (by simpa using q)}
 have j2 : ∀ b : Bool, Evt (fun k => r2_shaped.j0 k s b) (!b && (bs s).all inner) := fun b => by {
 refine Evt.succ ?_
 simp only [r2_shaped.j0]
 cases b with
 | true => exact Evt.pos (by first | rfl | trivial) (Evt.const _)
 | false => exact Evt.neg (by simp) (by simpa using y)}
 obtain ⟨WL, hW, hWm⟩ := words_r; have hWl : WL.length ≤ 100000 := by {
 have := congrArg List.length hWm
 rw [List.length_map] at this; rw [this]; decide}
 have hin := in_ev s WL hWl WL.length 0 (Nat.zero_add _); rw [List.drop_zero, hWm] at hin; have hin : Evt (fun k => r2_In.f k s WL) (decide (bs s ∈ words)) := hin
 have hcont : words.contains (bs s) = decide (bs s ∈ words) := by simp
 cases hb : bs s with
 | nil => (
 have hz : s.data.toList = [] := hb
 have e : LexM.isName [] = false := rfl
 rw [e]; constructor
 {
 unfold lex_Name.f
 exact Evt.pos (by rw [ByteArray.toList_eq]; exact hz) (by simpa using j1 true)}
 {
 unfold r2_Name.f r2_shaped.f
 refine Evt.bind (Evt.pos (by rw [ByteArray.toList_eq]; exact hz) (by simpa using j2 true)) (Evt.neg (by simp) (Evt.const _))})
 | cons c l => (
 have hz : s.data.toList = c :: l := hb
 obtain ⟨hi, hbt⟩ := bt_drop s 0 (show (bs s).drop 0 = c :: l by rw [List.drop_zero, hb])
 have hbt : bt s 0 = c.toNat := hbt
 have hlen : (c :: l).length = s.size := by rw [← hb, bs_len]
 have hne : ¬ s.toList = [] := by rw [ByteArray.toList_eq, hz]; simp
 rw [hb] at j1 j2 hin hcont
 constructor
 {
 unfold lex_Name.f
 refine Evt.neg hne ?_
 by_cases p : s.size > 16
 {
 have e : LexM.isName (c :: l) = false := by {
 simp only [LexM.isName, hlen]
 rw [decide_eq_false (show ¬ s.size ≤ 16 by omega)]
 simp}
 rw [e]; exact Evt.pos (by omega) (by simpa using j1 true)}
 {
 refine Evt.neg (by omega) (Evt.pos (by omega) ?_)
 rw [hbt, letter_l]; simp only [Option.bind_some]
 cases hc : letter c with
 | false => (
 have e : LexM.isName (c :: l) = false := by simp [LexM.isName, hc]
 rw [e]; exact Evt.neg (by simp) (by simpa using j1 true))
 | true => (
 refine Evt.pos (by first | rfl | trivial) ?_
 rw [isWord_r s hs, hb]; simp only [Option.bind_some]
 have e : LexM.isName (c :: l) = (!decide (c :: l ∈ words) && (c :: l).all inner) := by {
 simp only [LexM.isName, hc, hlen, hcont]
 rw [decide_eq_true (show s.size ≤ 16 by omega)]
 cases (c :: l).all inner <;> simp}
 rw [e]; exact j1 _)}}
 {
 unfold r2_Name.f
 have hsh : Evt (fun k => r2_shaped.f k s) (letter c && (c :: l).all inner) := by {
 unfold r2_shaped.f
 refine Evt.neg hne (Evt.pos (by omega) ?_)
 rw [hbt, letter_r]; simp only [Option.bind_some]
 have := j2 (!letter c)
 simpa using this}
 refine Evt.bind hsh ?_
 simp only [LexM.isName, hlen, hcont]
 cases hq : (letter c && (c :: l).all inner) with
 | false => exact Evt.neg (by simp) (by simpa using Evt.const _)
 | true => (
 refine Evt.pos (by first | rfl | trivial) ?_
 by_cases p : s.size ≤ 16
 {
 refine Evt.pos (by omega) ?_
 rw [hW]; simp only [Option.bind_some]
 refine Evt.bind hin ?_
 rw [decide_eq_true p]; simpa using Evt.const _}
 {
 refine Evt.neg (by omega) ?_
 rw [decide_eq_false p]; simpa using Evt.const _})})
end Go.Proofs.YtefhpdcafdhcaaaDoor.M
end
section
namespace Go.Proofs.YtefhpdcafdhcaaaDoor.A
open Go Go.RowKit Go.Proofs.YtefhpdcafdhcaaaDoorW.PrintWords Go.Proofs.YtefhpdcafdhcaaaDoorW.PrintLast Go.Proofs.YtefhpdcafdhcaaaDoorW.PrintMore
attribute [local go_sem] max2_int max_two
section
variable {P : Program} {ops : Array Oper} {Q : Exit → Act → World → Prop} {md : Region.Mode} {S : World → Prop} {ds : List Nat} {T : Bool × List (List Nat × List Nat)}
theorem pv_ (i K : Nat) {oi : Oper} {v : Value} {fuel : Nat} {l : Array Bool} {a a' : Act} {w : World} (l' : Array Bool) (hi : ops[i]? = some oi) (hN : oi.dst = some K) (HT : Aside0 (rtab md ops = T)) (h : wpAnyLast P md ops Q S ds fuel l' a' w)
  (hc : anyT T l.toList l'.toList i = true := by kernel_rfl) (hw : Region.wanted oi (yielded ops a.tmps) = true := by rfl) (hy : ∀ w, (execOp a.eval oi).run P w = .ok (.value v) w := by (intro w'; go_simp; with_reducible rfl)) (hQ : ∀ c a w, Q (.panic c) (a.put oi.dst v) w → Q (.panic c) a w := by exact fun _ _ _ h => h) (ha : a.put (some K) v = a' := by simp only [Act.put, List.setIfInBounds_toArray, List.set_cons_zero, List.set_cons_succ, i64_w, i32_w]; rfl) : wpAnyLast P md ops Q S ds (fuel + 1) l a w :=
 pure_ l' hi hN (any_of HT.out hc) hQ (Or.inl ⟨hw, hy⟩) ha h
theorem tk_ (i K : Nat) {oi : Oper} {v : Value} {fuel : Nat} {l : Array Bool} {a a' : Act} {w : World} {B : List Nat} (l' : Array Bool) (hi : ops[i]? = some oi) (hN : oi.dst = some K) (HT : Aside0 (rtab md ops = T)) (HW : Aside0 (waitsOk T.2 B = true)) (hS : S w) (h : wpAnyLast P md ops Q S ds fuel l' a' w)
  (hc : takeW T B ds l.toList l'.toList i = true := by kernel_rfl) (hw : Region.wanted oi (yielded ops a.tmps) = true := by rfl) (hy : ∀ w, S w → (execOp a.eval oi).run P w = .ok (.value v) w := by (intro w' b; (repeat (obtain ⟨_, b⟩ := b)); go_simp; with_reducible rfl)) (hQ : ∀ c a w, Q (.panic c) (a.put oi.dst v) w → Q (.panic c) a w := by exact fun _ _ _ h => h) (ha : a.put (some K) v = a' := by simp only [Act.put, List.setIfInBounds_toArray, List.set_cons_zero, List.set_cons_succ, i64_w, i32_w]; rfl) : wpAnyLast P md ops Q S ds (fuel + 1) l a w :=
 take_ l' hi hN (take_ofW HT.out HW.out hc) hQ (Or.inl ⟨hw, hy⟩) hS ha h
end
def pr.T10 : Bool × List (List Nat × List Nat) := (true, [([], []), ([], []), ([], []), ([1, 2], [1, 2]), ([3], [3]), ([], []), ([], []), ([], []), ([6, 7], [6, 7]), ([8], [8]), ([5, 9], [5, 9]), ([10], [10]), ([], []), ([12], [12]), ([11, 13], [11, 13]), ([0, 4, 0, 1, 2, 3, 4, 5, 6, 7, 8, 9, 10, 11, 12, 13, 14], [0, 4]), ([15, 14, 14, 0, 1, 2, 3, 4, 5, 6, 7, 8, 9, 10, 11, 12, 13, 14], [14, 15])])
def pr.B10 : List Nat := [0, 0, 0, 6, 14, 0, 0, 0, 192, 448, 992, 2016, 0, 4096, 16352, 32767, 65535]
theorem pr.tab10 : rtab .any (opsOf Tryd.f47 10) = pr.T10 := by kernel_rfl
theorem pr.bits10 : waitsOk pr.T10.2 pr.B10 = true := by kernel_rfl
abbrev pr.b10_0 : Array Bool := #[Z,Z,Z,Z,Z,Z,Z,Z,Z,Z,Z,Z,Z,Z,Z,Z,Z]
abbrev pr.b10_17 : Array Bool := #[Y,Y,Y,Y,Y,Y,Y,Y,Y,Y,Y,Y,Y,Y,Y,Y,Y]
theorem keep_cell {N : Nat} {W b : World} {p : Addr} {v : Value} (hc : W.cell? p = some v) (hl : p.block < N) (hb : Below N W b) : b.cell? p = some v := (hb.cell hl).trans hc
end Go.Proofs.YtefhpdcafdhcaaaDoor.A
end
