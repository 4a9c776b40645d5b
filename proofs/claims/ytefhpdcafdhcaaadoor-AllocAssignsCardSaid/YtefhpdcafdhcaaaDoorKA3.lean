/- Texts of this claim, cut down to what its theorem uses and laid end to end (wip/shake.py). -/
import Derived.Test.YtefhpdcafdhcaaaDoorKA2
set_option maxHeartbeats 16000000
set_option maxRecDepth 100000
set_option exponentiation.threshold 3000
section
namespace Go.Proofs.YtefhpdcafdhcaaaDoor.A
open Go.RowKit Go.Proofs.YtefhpdcafdhcaaaDoorW.PrintWords Go.Proofs.YtefhpdcafdhcaaaDoorW.PrintLast Go.Proofs.YtefhpdcafdhcaaaDoorW.PrintMore
attribute [local go_sem] max2_int max_two
set_option linter.unusedVariables false
set_option linter.unusedSimpArgs false
mutual
def r6_Preds.l0 : Nat → List (List Int) → Int → ByteArray → List (S83) → List (S85) → Int → List (S69) → Option ((List (List Int)))
 | 0, _, _, _, _, _, _, _ => none
 | k + 1, D, C, l, p, q, y, b => if C < (b.length : Int) then (if 0 ≤ C then ((r6_Next.f ((rd_T69 b C).f0) ((rd_T69 b C).f1) ((rd_T69 b C).f2) ((rd_T69 b C).f3) ((rd_T69 b C).f4)).bind fun E => (r6_Preds.l1 k D C E 0 l p q y b)) else (none)) else (some D)
def r6_Preds.l1 : Nat → List (List Int) → Int → List Int → Int → ByteArray → List (S83) → List (S85) → Int → List (S69) → Option ((List (List Int)))
 | 0, _, _, _, _, _, _, _, _, _ => none
 | k + 1, D, C, B, z, l, p, q, y, b => if z < (B.length : Int) then (if z = 0 then (if 0 ≤ z then (if 0 ≤ (rd B z) then (if (rd B z) < (D.length : Int) then (if (rd_L2 D (rd B z)).length < 17592186044416 then (r6_Preds.l1 k (D.set ((rd B z) : Int).toNat ((rd_L2 D (rd B z)) ++ [C])) C B (wrap64 (z + 1)) l p q y b) else (none)) else (none)) else (none)) else (none)) else (if 0 ≤ z then (if 0 < (B.length : Int) then (if (rd B z) = (rd B 0) then (r6_Preds.l1 k D C B (wrap64 (z + 1)) l p q y b) else (if 0 ≤ (rd B z) then (if (rd B z) < (D.length : Int) then (if (rd_L2 D (rd B z)).length < 17592186044416 then (r6_Preds.l1 k (D.set ((rd B z) : Int).toNat ((rd_L2 D (rd B z)) ++ [C])) C B (wrap64 (z + 1)) l p q y b) else (none)) else (none)) else (none))) else (none)) else (none))) else (r6_Preds.l0 k D (wrap64 (C + 1)) l p q y b)
end
def r6_Preds.f (k : Nat) (l : ByteArray) (p : List (S83)) (q : List (S85)) (y : Int) (b : List (S69)) : Option ((List (List Int))) := if 0 ≤ (b.length : Int) then (if ((b.length : Int) : Int).toNat ≤ 11728124029610 then (r6_Preds.l0 k (List.replicate ((b.length : Int) : Int).toNat []) 0 l p q y b) else (none)) else (none)
theorem r6_Preds.calls {k : Nat} {F : ByteArray} {O : Option Addr} {T : Nat} {D : List (S83)} {U : Option Addr} {V : Nat} {E : List (S85)} {G : Int} {d6 : Option Addr} {X : Nat} {z : List (S69)} {r : List (List Int)} {w : World} (l7 : q5 w O T D U V E d6 X z) (h : r6_Preds.f k F D E G z = some r) :
  Calls Tryd.prog 47 #[.agg #[.string F, .slice O D.length T, .slice U E.length V, .int .i64 G, .slice d6 z.length X]] w fun e w' => ∃ x4 : Value, e = .returned (x4) ∧ Kd.S (Kd.slice 3 (Kd.int .i64)) 27 w' w.heap.size (fun _ => True) x4 r ∧ Below w.heap.size w w' := by
 obtain ⟨_, _, _, _, t8, _⟩ := q_O l7; have E1 := Tryd.underlying26; have E2 := Tryd.underlying69; have I := a_ (Below.refl w.heap.size w); have H : (if 0 ≤ (z.length : Int) then (if ((z.length : Int) : Int).toNat ≤ 11728124029610 then (r6_Preds.l0 k (List.replicate ((z.length : Int) : Int).toNat []) 0 F D E G z) else (none)) else (none)) = some r := h
 clear h; replace H := q_gED H; obtain ⟨-, c2b0, c2b1, H⟩ := H; replace H := q_gED H; obtain ⟨-, c3b0, c3b1, H⟩ := H; obtain ⟨r9, g9⟩ : ∃ y_ : List (List Int), y_ = (List.replicate ((z.length : Int) : Int).toNat []) := ⟨_, rfl⟩; replace H : (r6_Preds.l0 k r9 0 F D E G z) = some r := q_rw g9 H
 have a9 := a_ g9; clear g9; have H' := a_ H
 clear H; go_enter Tryd.func47, Tryd.ntmps47
 go_wp2_with (first | ((with_reducible refine gd_ 1 rfl ?_); refine q_box 1 26 #[.string F, .slice O D.length T, .slice U E.length V, .int .i64 G, .slice d6 z.length X] ?_; intro a0 hg w4 b1 hb; have p := a_ b1; have n3 := a_ (q_ge I.out hg); have y := a_ (q_ge I.out hg); replace I := a_ (q_st I.out hb); clear hb b1 hg; obtain ⟨d7, d8, d9, e0, e1, e2, e3, e4, e5, e6⟩ := q_cf5 p.out) | ((with_reducible refine gd_ 10 rfl ?_); refine Kd.S_make (Kd.slice 3 (Kd.int .i64)) _ 27 rfl (N := 10) rfl 42 _ _ rfl (z.length : Int) rfl rfl Tryd.underlying42 (.slice none 0 0) 24 info27 rfl (by decide) (by omega) [] (ok := fun _ => True) (okp := fun _ => True) ⟨_, rfl, Kd.R_nil _ _ _ _ _⟩ (fun _ hk => hk) trivial (q_d) (Nat.le_trans (Nat.mul_le_mul_right _ (q_d : (z.length : Int).toNat ≤ 11728124029610)) (by omega)) (Below.refl _ _) (Nat.le_refl _) ?_; intro j5 w6 a1 hb hg_ hnew_; clear hg_ hnew_; (first | rw [← a9.out] at a1 | (simp only [Int.reduceToNat] at a1; rw [← a9.out] at a1)); have i0 := a_ (Kd.S_lower a1 (below_size (q_w1 I.out y.out))); replace p := a_ (q_bk p.out hb); replace I := a_ (q_st1 I.out hb y.out); clear hb a1))
 repeat (go_quiet (first | ((with_reducible refine gd_ 1 rfl ?_); refine q_box 1 26 #[.string F, .slice O D.length T, .slice U E.length V, .int .i64 G, .slice d6 z.length X] ?_; intro a0 hg w4 b1 hb; have p := a_ b1; have n3 := a_ (q_ge I.out hg); have y := a_ (q_ge I.out hg); replace I := a_ (q_st I.out hb); clear hb b1 hg; obtain ⟨d7, d8, d9, e0, e1, e2, e3, e4, e5, e6⟩ := q_cf5 p.out) | ((with_reducible refine gd_ 10 rfl ?_); refine Kd.S_make (Kd.slice 3 (Kd.int .i64)) _ 27 rfl (N := 10) rfl 42 _ _ rfl (z.length : Int) rfl rfl Tryd.underlying42 (.slice none 0 0) 24 info27 rfl (by decide) (by omega) [] (ok := fun _ => True) (okp := fun _ => True) ⟨_, rfl, Kd.R_nil _ _ _ _ _⟩ (fun _ hk => hk) trivial (q_d) (Nat.le_trans (Nat.mul_le_mul_right _ (q_d : (z.length : Int).toNat ≤ 11728124029610)) (by omega)) (Below.refl _ _) (Nat.le_refl _) ?_; intro j5 w6 a1 hb hg_ hnew_; clear hg_ hnew_; (first | rw [← a9.out] at a1 | (simp only [Int.reduceToNat] at a1; rw [← a9.out] at a1)); have i0 := a_ (Kd.S_lower a1 (below_size (q_w1 I.out y.out))); replace p := a_ (q_bk p.out hb); replace I := a_ (q_st1 I.out hb y.out); clear hb a1)); try go_wp2_with (first | ((with_reducible refine gd_ 1 rfl ?_); refine q_box 1 26 #[.string F, .slice O D.length T, .slice U E.length V, .int .i64 G, .slice d6 z.length X] ?_; intro a0 hg w4 b1 hb; have p := a_ b1; have n3 := a_ (q_ge I.out hg); have y := a_ (q_ge I.out hg); replace I := a_ (q_st I.out hb); clear hb b1 hg; obtain ⟨d7, d8, d9, e0, e1, e2, e3, e4, e5, e6⟩ := q_cf5 p.out) | ((with_reducible refine gd_ 10 rfl ?_); refine Kd.S_make (Kd.slice 3 (Kd.int .i64)) _ 27 rfl (N := 10) rfl 42 _ _ rfl (z.length : Int) rfl rfl Tryd.underlying42 (.slice none 0 0) 24 info27 rfl (by decide) (by omega) [] (ok := fun _ => True) (okp := fun _ => True) ⟨_, rfl, Kd.R_nil _ _ _ _ _⟩ (fun _ hk => hk) trivial (q_d) (Nat.le_trans (Nat.mul_le_mul_right _ (q_d : (z.length : Int).toNat ≤ 11728124029610)) (by omega)) (Below.refl _ _) (Nat.le_refl _) ?_; intro j5 w6 a1 hb hg_ hnew_; clear hg_ hnew_; (first | rw [← a9.out] at a1 | (simp only [Int.reduceToNat] at a1; rw [← a9.out] at a1)); have i0 := a_ (Kd.S_lower a1 (below_size (q_w1 I.out y.out))); replace p := a_ (q_bk p.out hb); replace I := a_ (q_st1 I.out hb y.out); clear hb a1)))
 go_loopg [4] k (fun kq v4 w' => ∃ (j6 : List (List Int)) (L : Int), v4 = .int .i64 L ∧ Aside0 (r6_Preds.l0 kq j6 L F D E G z = some r) ∧ Aside0 (kq ≤ k) ∧ Aside0 (Kd.S (Kd.slice 3 (Kd.int .i64)) 27 w' w.heap.size (fun _ => True) j5 j6) ∧ Aside0 (w'.heap[a0]? = some (.cells #[.string F, (.slice O D.length T), (.slice U E.length V), .int .i64 G, (.slice d6 z.length X)] 26 (0, 0))) ∧ Aside0 (Below w.heap.size w w'))
 case atStart => exact ⟨(r9), (0), q_r, H', ⟨Nat.le_refl _⟩, ⟨q_S i0.out⟩, ⟨q_k p.out⟩, ⟨q_w1 I.out y.out⟩⟩
 case round => (
 clear H'; clear c2b0 c2b1 c3b0 c3b1 d7 d8 d9 e0 e1 e2 e3 e4 e5 e6; obtain ⟨j6, L, rfl, HA, f3, HO_3, p, I⟩ := hrel; cases gk with
 | zero => exact absurd HA.out (by simp [r6_Preds.l0])
 | succ k1 => (
 have H := HA.out; clear HA; simp only [r6_Preds.l0] at H
 rcases q_ite H with ⟨c8b0, H⟩ | ⟨c8b0, H⟩
 {
 replace H := q_gD H; obtain ⟨-, c9b0, H⟩ := H; replace H := q_bd H; obtain ⟨l, s0, H⟩ := H; have t9 := a_ s0; clear s0; have H' := a_ H
 clear H; obtain ⟨n4, n5, n6, n7, n8, n9, o0, o1, o2, o3⟩ := q_cf5 p.out; obtain ⟨b2, C6, C7, x5, o4, o5, o6, o7, o8, f4, f5, x6, x7⟩ := b_T69 t8.out I.out L; cases x5; have b3 := a_ f5; have b4 := a_ f4; clear f5 f4; go_wp2_with (first | (go_at_call 56; (with_reducible refine (r6_Next.calls (q_C (Kd.C_below b3.out I.out)) b4.out t9.out).mono ?_); rintro e x8 ⟨j7, rfl, e7, hb⟩; have i1 := a_ (Kd.R_lower e7 (below_size (q_w1 I.out y.out))); replace HO_3 := a_ (Kd.S_elder' (q_S HO_3.out) (Kd.R_base e7) hb); replace p := a_ (q_bk p.out hb); replace I := a_ (q_st1 I.out hb y.out); clear hb e7))
 repeat (go_quiet (first | (go_at_call 56; (with_reducible refine (r6_Next.calls (q_C (Kd.C_below b3.out I.out)) b4.out t9.out).mono ?_); rintro e x8 ⟨j7, rfl, e7, hb⟩; have i1 := a_ (Kd.R_lower e7 (below_size (q_w1 I.out y.out))); replace HO_3 := a_ (Kd.S_elder' (q_S HO_3.out) (Kd.R_base e7) hb); replace p := a_ (q_bk p.out hb); replace I := a_ (q_st1 I.out hb y.out))); try go_wp2_with (first | (go_at_call 56; (with_reducible refine (r6_Next.calls (q_C (Kd.C_below b3.out I.out)) b4.out t9.out).mono ?_); rintro e x8 ⟨j7, rfl, e7, hb⟩; have i1 := a_ (Kd.R_lower e7 (below_size (q_w1 I.out y.out))); replace HO_3 := a_ (Kd.S_elder' (q_S HO_3.out) (Kd.R_base e7) hb); replace p := a_ (q_bk p.out hb); replace I := a_ (q_st1 I.out hb y.out))))
 go_loopg [6] k1 (fun kq v6 w' => ∃ (q : List (List Int)) (b : Int), v6 = .int .i64 b ∧ Aside0 (r6_Preds.l1 kq q L l b F D E G z = some r) ∧ Aside0 (kq ≤ k1) ∧ Aside0 (Kd.S (Kd.slice 3 (Kd.int .i64)) 27 w' w.heap.size (fun k_ => some k_ ≠ (j7 : Value).ownBlock) j5 q) ∧ Aside0 (Kd.R (Kd.int .i64) 3 w' w.heap.size (fun _ => True) j7 l) ∧ Aside0 (w'.heap[a0]? = some (.cells #[.string F, (.slice O D.length T), (.slice U E.length V), .int .i64 G, (.slice (some b2) z.length X)] 26 (0, 0))) ∧ Aside0 (Below w.heap.size w w'))
 case atStart => exact ⟨(j6), (0), q_r, H', ⟨Nat.le_refl _⟩, ⟨q_S (Kd.S_mono HO_3.out (fun _ hk => hk.2))⟩, ⟨q_R i1.out⟩, ⟨q_k p.out⟩, ⟨q_w1 I.out y.out⟩⟩
 case round => (
 clear H'; clear c8b0 c9b0 n4 n5 n6 n7 n8 n9 o0 o1 o2 o3 o4 o5 o6 o7 o8 x6 x7; obtain ⟨q, b, rfl, HA, f6, HO_3, HO_5, p, I⟩ := hrel; cases gk with
 | zero => exact absurd HA.out (by simp [r6_Preds.l1])
 | succ k2 => (
 have H := HA.out; clear HA; simp only [r6_Preds.l1] at H
 rcases q_ite H with ⟨c13b0, H⟩ | ⟨c13b0, H⟩
 {
 replace H := q_iBN H; rcases H with ⟨-, c14b0, c14b1, H⟩ | ⟨G6, c14b0, c14b1, H⟩
 {
 replace H := q_gD H; obtain ⟨-, c15b0, H⟩ := H; replace H := q_gD H; obtain ⟨-, c16b0, H⟩ := H; replace H := q_gD H; obtain ⟨-, c17b0, H⟩ := H; replace H := q_g H; obtain ⟨x9, H⟩ := H; have v0 := a_ x9; clear x9; obtain ⟨f7, i2⟩ : ∃ y_ : List Int, y_ = ((rd_L2 q (rd l b)) ++ [L]) := ⟨_, rfl⟩; replace H : (r6_Preds.l1 k2 (q.set ((rd l b) : Int).toNat f7) L l (wrap64 (b + 1)) F D E G z) = some r := q_rw i2 H
 have v1 := a_ i2; clear i2; obtain ⟨o9, i3⟩ : ∃ y_ : List (List Int), y_ = (q.set ((rd l b) : Int).toNat f7) := ⟨_, rfl⟩; replace H : (r6_Preds.l1 k2 o9 L l (wrap64 (b + 1)) F D E G z) = some r := q_rw i3 H
 have v2 := a_ i3; clear i3; have H' := a_ H
 clear H; obtain ⟨E6, s2, y0⟩ := Kd.R_slice HO_5.out; subst y0; have p0 : 0 ≤ (b : Int) := q_d
 have p1 : b < (l.length : Int) := q_d
 obtain ⟨b0, y1, p2⟩ := Kd.at_int (Kd.R_reads' HO_5.out).2.2 b p0 p1; cases y1; replace p0 := eq_true p0; replace p1 := eq_true p1; obtain ⟨E7, s3, y2⟩ := Kd.S_slice HO_3.out; subst y2; have j8 : 0 ≤ ((rd l b) : Int) := q_d
 have j9 : (rd l b) < (q.length : Int) := q_d
 obtain ⟨D5, a5, a6, y3, b5, f8, f9⟩ := at_L2 (Kd.S_reads' HO_3.out).2.2 (rd l b) j8 j9; cases y3; obtain ⟨D6, r5, r6, k0⟩ := Kd.S_get HO_3.out [] (rd l b) j8 (by first | exact j9 | exact q_d | (have e_ := (Kd.S_reads' HO_3.out).1; omega))
 obtain ⟨y4, rfl, b6⟩ := r6; have a2 := k0 0 _ rfl; rw [Nat.add_zero, show ((Kd.slice 3 (Kd.int .i64))).sz = 1 from rfl, Nat.mul_one] at a2; replace a2 := Option.some.inj (a2.symm.trans b5); rw [a2] at b6; have b7 := a_ (show Kd.R (Kd.int .i64) 3 _ _ _ _ (rd_L2 q (rd l b)) from b6); clear a2 b6; have g0 := a_ b5; clear k0 r5; have y5 := a_ f9; have y6 := a_ f8; clear f9 f8; replace j8 := eq_true j8; replace j9 := eq_true j9; obtain ⟨b8, E8, s4, s5, y7, E9, s6⟩ := Kd.S_form HO_3.out (by have h_ : ((rd l b) : Int) < ((q.length : Int) : Int) := q_d; have D7 : 0 ≤ ((rd l b) : Int) := (q_d); omega)
 (first | cases s4 | (injection s4 with ea_ en_ ec_; (first | subst ea_ | (injection ea_ with ea_; subst ea_)); subst ec_; clear en_))
 have y8 := a_ s5; have F0 := a_ s6; clear s5 y7 s6; (first | simp only [add_plain] at b5 | skip)
 obtain ⟨p3, F1, v3, y9, p4, _, _, s7⟩ := Kd.S_elem HO_3.out [] ((rd l b) : Int) (q_d) (by have h_ : ((rd l b) : Int) < ((q.length : Int) : Int) := q_d; first | exact h_ | (have e_ := (Kd.S_reads' HO_3.out).1; omega) | simpa using h_)
 obtain ⟨C8, rfl, k3⟩ := y9; have g1 := p4 0 _ rfl; have p5 := g0.out; (try simp only [add_plain] at p5)
 (try simp only [Nat.add_zero] at g1)
 (try rw [show ((Kd.slice 3 (Kd.int .i64))).sz = 1 from rfl, Nat.mul_one] at g1)
 replace g1 := Option.some.inj (g1.symm.trans p5); subst g1; clear p5 p4 v3; have p6 := a_ (show Kd.R (Kd.int .i64) 3 _ w.heap.size p3 (.slice a5 (rd_L2 q (rd l b)).length a6) (rd_L2 q (rd l b)) from k3); have b9 := a_ s7; have p7 := a_ (Kd.S_reads' HO_3.out).1; clear s7 k3; go_wp2
 go_quiet (fail)
 go_upto_region 10 with (fail)
 have i4 : wr.cell? (b0.add b.toNat) = some (.int .i64 (rd l b)) := p2
 have i5 : wr.cell? ⟨b8, (rd l b).toNat, none⟩ = some (.slice a5 (rd_L2 q (rd l b)).length a6) := by have h := g0.out; (first | (simp only [add_plain] at h; exact h) | exact h)
 have v5 := a_ i4; have v7 := a_ i5; have p8 := World.block_lt_of_cell? wr _ i4; have p9 := World.block_lt_of_cell? wr _ i5; have v8 := a_ p8; have v9 := a_ p9; clear i4 i5 p8 p9; have HSS : Aside0 (∀ W', Below wr.heap.size wr W' → (W'.cell? (b0.add b.toNat) = some (.int .i64 (rd l b)) ∧ W'.cell? ⟨b8, (rd l b).toNat, none⟩ = some (.slice a5 (rd_L2 q (rd l b)).length a6))) := ⟨fun W' hb => ⟨keep_cell v5.out v8.out hb, keep_cell v7.out v9.out hb⟩⟩
 refine start_ (n := 17) (S := fun W' => W'.cell? (b0.add b.toNat) = some (.int .i64 (rd l b)) ∧ W'.cell? ⟨b8, (rd l b).toNat, none⟩ = some (.slice a5 (rd_L2 q (rd l b)).length a6)) (ds := [16]) pr.b10_0 (by kernel_rfl) rfl rfl (HSS.out _ (by repeat (first | exact Below.refl _ _ | apply below_drew1 | apply pw_below_drewN))) (fun J => ?_)
 refine with_tabW pr.tab10 pr.bits10 (fun B e8 => ?_)
 refine qv_ 0 B ?_
 refine qv_ 1 B ?_
 refine qv_ 2 B ?_
 refine qv_ 3 B ?_
 refine qv_ 5 B ?_
 refine qv_ 6 B ?_
 refine qv_ 7 B ?_
 refine qv_ 8 B ?_
 refine qv_ 12 B ?_
 refine qt_ 4 B e8 J ?_
 refine qt_ 9 B e8 J ?_
 refine qv_ 10 B ?_
 refine qt_ 11 B e8 J ?_
 refine q_o 13 B (fun K hK => ?_)
 refine value_ (w1 := ?_) (v := ?_) (by rfl) rfl ?_ ?_
 rotate_left 2
 {
 go_simp
 constructor
 ·rfl
 ·rfl}
 refine q_nk hK.out (HSS.out _ (by repeat (first | exact Below.refl _ _ | apply below_alloc | apply below_drew1 | apply pw_below_drewN))) (fun J => ?_)
 clear hK K
 refine q_o 14 B (fun K hK => ?_)
 refine Kd.R_append_step (Kd.int .i64) (w0 := w) w.heap.size (by rfl) (.tmp 53) (.tmp 55) 27 3 (.int .i64 0) 8 rfl Tryd.underlying27 info3 rfl (by decide) (by omega) (.slice a5 (rd_L2 q (rd l b)).length a6) (rd_L2 q (rd l b)) L [.int .i64 L] (fun k_ => p3 k_ ∨ ((fun k_ => some k_ ≠ (.slice (some b0) l.length s2 : Value).ownBlock)) k_ ∧ wr.heap.size ≤ k_) (fun _ => False) rfl rfl ?aP (fun _ hk => hk.elim) ?aF ?aO ?aB ?aS ?aL ?_
 (case aP => exact rfl)
 (case aB => exact (q_w1 I.out y.out))
 (case aF => exact (fun k_ hk => .inr ⟨Kd.fresh' (Kd.R_lt (q_R HO_5.out)) k_ hk, hk⟩))
 (case aO => exact (q_R (Kd.R_mono p6.out (fun _ hk => .inl hk))))
 (case aS => exact (below_size (q_w1 I.out y.out)))
 (case aL => have := v0.out; omega)
 intro F2 w2 ho hb hg hat
 rw [← v1.out] at ho; have c0 := a_ (Kd.R_grown2 (q_R HO_5.out) rfl hg (fun k_ e_ => (b7.out.1 k_ e_).1))
 have c1 := a_ (blk_grown (g := a0) (o := .cells #[.string F, .slice O D.length T, .slice U E.length V, .int .i64 G, .slice (some b2) z.length X] 26 (0, 0)) (q_k p.out) hg (Kd.R_ne b7.out p.out (by decide)))
 have c3 := a_ hb; have c4 := a_ (Kd.H_grown (Kd.H_widen (by repeat (first | exact b9.out | refine Kd.H_alloc ?_ _ | refine Kd.H_drewN ?_ _ | refine Kd.H_drew ?_))) hg (fun k_ e_ => .inl (p6.out.1 k_ e_)))
 have q0 := a_ ho; clear HO_5 p I b9 HO_3 p6 b7; have HO_5 := c0; have p := c1; have I := c3; have b9 := c4; have i6 := q0; clear c0 c1 c3 c4 q0; clear ho hb hg hat; have z0 : 0 ≤ ((rd l b) : Int) := q_d
 have z1 : ((rd l b) : Int) < ((q.length : Int) : Int) := q_d
 replace z0 := eq_true z0; replace z1 := eq_true z1; obtain ⟨s8, s9, z2⟩ := Kd.R_slice i6.out; subst z2; obtain ⟨_, _, e9, _, _, q1, _⟩ := Kd.H_raw b9.out (q_d) (by have h_ : ((rd l b) : Int) < ((q.length : Int) : Int) := q_d; first | exact h_ | (have e_ := (p7.out); omega) | simpa using h_)
 obtain ⟨_, q2⟩ := Kd.H_at b9.out (q_d) (by have h_ : ((rd l b) : Int) < ((q.length : Int) : Int) := q_d; first | exact h_ | (have e_ := (p7.out); omega) | simpa using h_)
 have f0 := q1 0 _ rfl; have k4 := q2 0; (try simp only [Nat.add_zero] at f0 k4)
 (try rw [show ((Kd.slice 3 (Kd.int .i64))).sz = 1 from rfl, Nat.mul_one] at f0)
 (try rw [show ((Kd.slice 3 (Kd.int .i64))).sz = 1 from rfl, Nat.mul_one] at k4)
 have k5 := Kd.S_seg0 b9.out (q_d) (by have h_ : ((rd l b) : Int) < ((q.length : Int) : Int) := q_d; first | exact h_ | (have e_ := (p7.out); omega) | simpa using h_) (seg := [.slice s8 f7.length s9]) (j := 0) (show 1 ≤ 1 from by decide) (x' := f7) (Kd.M_row i6.out) (fun _ hk => hk)
 (try simp only [show ((Kd.slice 3 (Kd.int .i64))).sz = 1 from rfl, Nat.mul_one, Nat.add_zero] at k5)
 clear q1 q2; have g2 : w2.cell? (b0.add b.toNat) = some (.int .i64 (rd l b)) := by obtain ⟨ad_, e_, h_⟩ := Kd.at_int (Kd.R_reads' HO_5.out).2.2 b (q_d) (q_d); cases e_; exact h_
 refine q_nk hK.out ⟨g2, f0⟩ (fun J => ?_)
 clear hK K
 refine qv_ 15 B ?_
 refine last_ (i := 16) (N := none) pr.b10_17 rfl rfl (one_of B.out (by kernel_rfl)) (by decide) (fun K hK => ?_)
 refine skip_ (w1 := ?_) (by rfl) rfl ?_ ?_
 rotate_left
 {
 go_simp
 rfl}
 refine hK.out _ _ ?_
 clear hK K; refine done_ (done_of B.out (by kernel_rfl)) ?_
 clear HSS J g2; generalize hw_ : w2.setCell ⟨b8, ((rd l b) : Int).toNat, none⟩ (.slice s8 f7.length s9) = w3
 have hw := hw_.symm; clear hw_; have hg : w2.grownBy w3 (some b8) := (by rw [hw]; exact k5.2)
 have hp_ : Kd.S (Kd.slice 3 (Kd.int .i64)) 27 w3 w.heap.size (fun k_ => some k_ ≠ (.slice (some b0) l.length s2 : Value).ownBlock) (.slice (some ⟨b8, 0, none⟩) q.length s3) o9 := (by rw [hw, v2.out]; exact k5.1)
 clear k5; have c0 := a_ (Kd.R_over' (v := (.slice (some ⟨b8, 0, none⟩) q.length s3)) (q_R HO_5.out) (Kd.R_typed e9) (by decide) hg)
 have c1 := a_ (blk_grown (g := a0) (o := .cells #[.string F, .slice O D.length T, .slice U E.length V, .int .i64 G, .slice (some b2) z.length X] 26 (0, 0)) (q_k p.out) hg (Kd.R_ne e9 p.out (by decide)))
 have c3 := a_ (by rw [hw]; exact below_set I.out y8.out : Below w.heap.size w w3)
 have c4 := a_ hp_; clear HO_5 p I i6 b9; have HO_5 := c0; have p := c1; have I := c3; have HO_3 := c4; clear c0 c1 c3 c4; clear hg hw hp_ e9; clear B e8; go_wp2
 go_roundg k2
 case measure => have := f3.out; have := f6.out; omega
 case rel => exact ⟨(o9), (wrap64 (b + 1)), q_r, H', ⟨by have := f3.out; have := f6.out; omega⟩, ⟨q_S HO_3.out⟩, ⟨q_R HO_5.out⟩, ⟨q_k p.out⟩, ⟨q_w1 I.out y.out⟩⟩}
 {
 replace H := q_gD H; obtain ⟨-, c27b0, H⟩ := H; replace H := q_gD H; obtain ⟨D8, c28b0, H⟩ := H; have c28b1 : decide (0 < l.length) = true := decide_eq_true (by omega)
 clear D8; replace H := q_iBN H; rcases H with ⟨-, c29b0, c29b1, H⟩ | ⟨G7, c29b0, c29b1, H⟩
 {
 have H' := a_ H
 clear H; obtain ⟨F3, F4, z3⟩ := Kd.R_slice HO_5.out; subst z3; have c6 : 0 ≤ (b : Int) := q_d
 have c8 : b < (l.length : Int) := q_d
 obtain ⟨M, q3, g3⟩ := Kd.at_int (Kd.R_reads' HO_5.out).2.2 b c6 c8; cases q3; replace c6 := eq_true c6; replace c8 := eq_true c8; have c9 : 0 ≤ (0 : Int) := (by omega)
 have d0 : 0 < (l.length : Int) := q_d
 obtain ⟨i7, q4, a3⟩ := Kd.at_int (Kd.R_reads' HO_5.out).2.2 0 c9 d0; obtain rfl : M = i7 := (by injection q4)
 have w5 : (0 < l.length) = True := eq_true (by omega)
 (try rw [show ((0 : Int)).toNat = 0 from rfl] at a3)
 (try rw [Addr.add_zero'] at a3)
 replace c9 := eq_true c9; replace d0 := eq_true d0; go_wp2
 repeat (go_quiet (fail); try go_wp2)
 go_roundg k2
 case measure => have := f3.out; have := f6.out; omega
 case rel => exact ⟨(q), (wrap64 (b + 1)), q_r, H', ⟨by have := f3.out; have := f6.out; omega⟩, ⟨q_S HO_3.out⟩, ⟨q_R HO_5.out⟩, ⟨q_k p.out⟩, ⟨q_w1 I.out y.out⟩⟩}
 {
 replace H := q_gD H; obtain ⟨-, c31b0, H⟩ := H; replace H := q_gD H; obtain ⟨-, c32b0, H⟩ := H; replace H := q_g H; obtain ⟨z4, H⟩ := H; have w7 := a_ z4; clear z4; obtain ⟨g4, i8⟩ : ∃ y_ : List Int, y_ = ((rd_L2 q (rd l b)) ++ [L]) := ⟨_, rfl⟩; replace H : (r6_Preds.l1 k2 (q.set ((rd l b) : Int).toNat g4) L l (wrap64 (b + 1)) F D E G z) = some r := q_rw i8 H
 have w8 := a_ i8; clear i8; obtain ⟨q5, i9⟩ : ∃ y_ : List (List Int), y_ = (q.set ((rd l b) : Int).toNat g4) := ⟨_, rfl⟩; replace H : (r6_Preds.l1 k2 q5 L l (wrap64 (b + 1)) F D E G z) = some r := q_rw i9 H
 have w9 := a_ i9; clear i9; have H' := a_ H
 clear H; obtain ⟨F5, t0, z5⟩ := Kd.R_slice HO_5.out; subst z5; have c6 : 0 ≤ (b : Int) := q_d
 have c8 : b < (l.length : Int) := q_d
 obtain ⟨M, q3, g3⟩ := Kd.at_int (Kd.R_reads' HO_5.out).2.2 b c6 c8; cases q3; replace c6 := eq_true c6; replace c8 := eq_true c8; have c9 : 0 ≤ (0 : Int) := (by omega)
 have d0 : 0 < (l.length : Int) := q_d
 obtain ⟨i7, q4, a3⟩ := Kd.at_int (Kd.R_reads' HO_5.out).2.2 0 c9 d0; obtain rfl : M = i7 := (by injection q4)
 have w5 : (0 < l.length) = True := eq_true (by omega)
 (try rw [show ((0 : Int)).toNat = 0 from rfl] at a3)
 (try rw [Addr.add_zero'] at a3)
 replace c9 := eq_true c9; replace d0 := eq_true d0; have q6 : 0 ≤ (b : Int) := q_d
 have q7 : b < (l.length : Int) := q_d
 obtain ⟨x0, z6, z7⟩ := Kd.at_int (Kd.R_reads' HO_5.out).2.2 b q6 q7; obtain rfl : M = x0 := (by injection z6)
 replace q6 := eq_true q6; replace q7 := eq_true q7; obtain ⟨F6, t1, z8⟩ := Kd.S_slice HO_3.out; subst z8; have k6 : 0 ≤ ((rd l b) : Int) := q_d
 have k7 : (rd l b) < (q.length : Int) := q_d
 obtain ⟨D9, a7, a8, z9, d1, g5, g6⟩ := at_L2 (Kd.S_reads' HO_3.out).2.2 (rd l b) k6 k7; cases z9; obtain ⟨E0, r7, r8, k8⟩ := Kd.S_get HO_3.out [] (rd l b) k6 (by first | exact k7 | exact q_d | (have e_ := (Kd.S_reads' HO_3.out).1; omega))
 obtain ⟨A0, rfl, d2⟩ := r8; have a4 := k8 0 _ rfl; rw [Nat.add_zero, show ((Kd.slice 3 (Kd.int .i64))).sz = 1 from rfl, Nat.mul_one] at a4; replace a4 := Option.some.inj (a4.symm.trans d1); rw [a4] at d2; have d3 := a_ (show Kd.R (Kd.int .i64) 3 _ _ _ _ (rd_L2 q (rd l b)) from d2); clear a4 d2; have g7 := a_ d1; clear k8 r7; have A1 := a_ g6; have A2 := a_ g5; clear g6 g5; replace k6 := eq_true k6; replace k7 := eq_true k7; obtain ⟨d4, F7, t2, t3, A3, F8, t4⟩ := Kd.S_form HO_3.out (by have h_ : ((rd l b) : Int) < ((q.length : Int) : Int) := q_d; have D7 : 0 ≤ ((rd l b) : Int) := (q_d); omega)
 (first | cases t2 | (injection t2 with ea_ en_ ec_; (first | subst ea_ | (injection ea_ with ea_; subst ea_)); subst ec_; clear en_))
 have A4 := a_ t3; have F9 := a_ t4; clear t3 A3 t4; (first | simp only [add_plain] at d1 | skip)
 obtain ⟨q8, G0, x1, A5, q9, _, _, t5⟩ := Kd.S_elem HO_3.out [] ((rd l b) : Int) (q_d) (by have h_ : ((rd l b) : Int) < ((q.length : Int) : Int) := q_d; first | exact h_ | (have e_ := (Kd.S_reads' HO_3.out).1; omega) | simpa using h_)
 obtain ⟨C9, rfl, k9⟩ := A5; have g8 := q9 0 _ rfl; have r0 := g7.out; (try simp only [add_plain] at r0)
 (try simp only [Nat.add_zero] at g8)
 (try rw [show ((Kd.slice 3 (Kd.int .i64))).sz = 1 from rfl, Nat.mul_one] at g8)
 replace g8 := Option.some.inj (g8.symm.trans r0); subst g8; clear r0 q9 x1; have r1 := a_ (show Kd.R (Kd.int .i64) 3 _ w.heap.size q8 (.slice a7 (rd_L2 q (rd l b)).length a8) (rd_L2 q (rd l b)) from k9); have d5 := a_ t5; have r2 := a_ (Kd.S_reads' HO_3.out).1; clear t5 k9; go_wp2
 go_quiet (fail)
 go_upto_region 10 with (fail)
 have i4 : wr.cell? (M.add b.toNat) = some (.int .i64 (rd l b)) := g3
 have i5 : wr.cell? ⟨d4, (rd l b).toNat, none⟩ = some (.slice a7 (rd_L2 q (rd l b)).length a8) := by have h := g7.out; (first | (simp only [add_plain] at h; exact h) | exact h)
 have v5 := a_ i4; have v7 := a_ i5; have p8 := World.block_lt_of_cell? wr _ i4; have p9 := World.block_lt_of_cell? wr _ i5; have v8 := a_ p8; have v9 := a_ p9; clear i4 i5 p8 p9; have HSS : Aside0 (∀ W', Below wr.heap.size wr W' → (W'.cell? (M.add b.toNat) = some (.int .i64 (rd l b)) ∧ W'.cell? ⟨d4, (rd l b).toNat, none⟩ = some (.slice a7 (rd_L2 q (rd l b)).length a8))) := ⟨fun W' hb => ⟨keep_cell v5.out v8.out hb, keep_cell v7.out v9.out hb⟩⟩
 refine start_ (n := 17) (S := fun W' => W'.cell? (M.add b.toNat) = some (.int .i64 (rd l b)) ∧ W'.cell? ⟨d4, (rd l b).toNat, none⟩ = some (.slice a7 (rd_L2 q (rd l b)).length a8)) (ds := [16]) pr.b10_0 (by kernel_rfl) rfl rfl (HSS.out _ (by repeat (first | exact Below.refl _ _ | apply below_drew1 | apply pw_below_drewN))) (fun J => ?_)
 refine with_tabW pr.tab10 pr.bits10 (fun B e8 => ?_)
 refine qv_ 0 B ?_
 refine qv_ 1 B ?_
 refine qv_ 2 B ?_
 refine qv_ 3 B ?_
 refine qv_ 5 B ?_
 refine qv_ 6 B ?_
 refine qv_ 7 B ?_
 refine qv_ 8 B ?_
 refine qv_ 12 B ?_
 refine qt_ 4 B e8 J ?_
 refine qt_ 9 B e8 J ?_
 refine qv_ 10 B ?_
 refine qt_ 11 B e8 J ?_
 refine q_o 13 B (fun K hK => ?_)
 refine value_ (w1 := ?_) (v := ?_) (by rfl) rfl ?_ ?_
 rotate_left 2
 {
 go_simp
 constructor
 ·rfl
 ·rfl}
 refine q_nk hK.out (HSS.out _ (by repeat (first | exact Below.refl _ _ | apply below_alloc | apply below_drew1 | apply pw_below_drewN))) (fun J => ?_)
 clear hK K
 refine q_o 14 B (fun K hK => ?_)
 refine Kd.R_append_step (Kd.int .i64) (w0 := w) w.heap.size (by rfl) (.tmp 53) (.tmp 55) 27 3 (.int .i64 0) 8 rfl Tryd.underlying27 info3 rfl (by decide) (by omega) (.slice a7 (rd_L2 q (rd l b)).length a8) (rd_L2 q (rd l b)) L [.int .i64 L] (fun k_ => q8 k_ ∨ ((fun k_ => some k_ ≠ (.slice (some M) l.length t0 : Value).ownBlock)) k_ ∧ wr.heap.size ≤ k_) (fun _ => False) rfl rfl ?aP (fun _ hk => hk.elim) ?aF ?aO ?aB ?aS ?aL ?_
 (case aP => exact rfl)
 (case aB => exact (q_w1 I.out y.out))
 (case aF => exact (fun k_ hk => .inr ⟨Kd.fresh' (Kd.R_lt (q_R HO_5.out)) k_ hk, hk⟩))
 (case aO => exact (q_R (Kd.R_mono r1.out (fun _ hk => .inl hk))))
 (case aS => exact (below_size (q_w1 I.out y.out)))
 (case aL => have := w7.out; omega)
 intro G1 x2 ho hb hg hat
 rw [← w8.out] at ho; have c0 := a_ (Kd.R_grown2 (q_R HO_5.out) rfl hg (fun k_ e_ => (d3.out.1 k_ e_).1))
 have c1 := a_ (blk_grown (g := a0) (o := .cells #[.string F, .slice O D.length T, .slice U E.length V, .int .i64 G, .slice (some b2) z.length X] 26 (0, 0)) (q_k p.out) hg (Kd.R_ne d3.out p.out (by decide)))
 have c3 := a_ hb; have c4 := a_ (Kd.H_grown (Kd.H_widen (by repeat (first | exact d5.out | refine Kd.H_alloc ?_ _ | refine Kd.H_drewN ?_ _ | refine Kd.H_drew ?_))) hg (fun k_ e_ => .inl (r1.out.1 k_ e_)))
 have q0 := a_ ho; clear HO_5 p I d5 HO_3 r1 d3; have HO_5 := c0; have p := c1; have I := c3; have d5 := c4; have j3 := q0; clear c0 c1 c3 c4 q0; clear ho hb hg hat; have A6 : 0 ≤ ((rd l b) : Int) := q_d
 have A7 : ((rd l b) : Int) < ((q.length : Int) : Int) := q_d
 replace A6 := eq_true A6; replace A7 := eq_true A7; obtain ⟨t6, t7, A8⟩ := Kd.R_slice j3.out; subst A8; obtain ⟨_, _, f1, _, _, r3, _⟩ := Kd.H_raw d5.out (q_d) (by have h_ : ((rd l b) : Int) < ((q.length : Int) : Int) := q_d; first | exact h_ | (have e_ := (r2.out); omega) | simpa using h_)
 obtain ⟨_, r4⟩ := Kd.H_at d5.out (q_d) (by have h_ : ((rd l b) : Int) < ((q.length : Int) : Int) := q_d; first | exact h_ | (have e_ := (r2.out); omega) | simpa using h_)
 have f2 := r3 0 _ rfl; have l4 := r4 0; (try simp only [Nat.add_zero] at f2 l4)
 (try rw [show ((Kd.slice 3 (Kd.int .i64))).sz = 1 from rfl, Nat.mul_one] at f2)
 (try rw [show ((Kd.slice 3 (Kd.int .i64))).sz = 1 from rfl, Nat.mul_one] at l4)
 have l5 := Kd.S_seg0 d5.out (q_d) (by have h_ : ((rd l b) : Int) < ((q.length : Int) : Int) := q_d; first | exact h_ | (have e_ := (r2.out); omega) | simpa using h_) (seg := [.slice t6 g4.length t7]) (j := 0) (show 1 ≤ 1 from by decide) (x' := g4) (Kd.M_row j3.out) (fun _ hk => hk)
 (try simp only [show ((Kd.slice 3 (Kd.int .i64))).sz = 1 from rfl, Nat.mul_one, Nat.add_zero] at l5)
 clear r3 r4; have g2 : x2.cell? (M.add b.toNat) = some (.int .i64 (rd l b)) := by obtain ⟨ad_, e_, h_⟩ := Kd.at_int (Kd.R_reads' HO_5.out).2.2 b (q_d) (q_d); cases e_; exact h_
 refine q_nk hK.out ⟨g2, f2⟩ (fun J => ?_)
 clear hK K
 refine qv_ 15 B ?_
 refine last_ (i := 16) (N := none) pr.b10_17 rfl rfl (one_of B.out (by kernel_rfl)) (by decide) (fun K hK => ?_)
 refine skip_ (w1 := ?_) (by rfl) rfl ?_ ?_
 rotate_left
 {
 go_simp
 rfl}
 refine hK.out _ _ ?_
 clear hK K; refine done_ (done_of B.out (by kernel_rfl)) ?_
 clear HSS J g2; generalize hw_ : x2.setCell ⟨d4, ((rd l b) : Int).toNat, none⟩ (.slice t6 g4.length t7) = x3
 have hw := hw_.symm; clear hw_; have hg : x2.grownBy x3 (some d4) := (by rw [hw]; exact l5.2)
 have hp_ : Kd.S (Kd.slice 3 (Kd.int .i64)) 27 x3 w.heap.size (fun k_ => some k_ ≠ (.slice (some M) l.length t0 : Value).ownBlock) (.slice (some ⟨d4, 0, none⟩) q.length t1) q5 := (by rw [hw, w9.out]; exact l5.1)
 clear l5; have c0 := a_ (Kd.R_over' (v := (.slice (some ⟨d4, 0, none⟩) q.length t1)) (q_R HO_5.out) (Kd.R_typed f1) (by decide) hg)
 have c1 := a_ (blk_grown (g := a0) (o := .cells #[.string F, .slice O D.length T, .slice U E.length V, .int .i64 G, .slice (some b2) z.length X] 26 (0, 0)) (q_k p.out) hg (Kd.R_ne f1 p.out (by decide)))
 have c3 := a_ (by rw [hw]; exact below_set I.out A4.out : Below w.heap.size w x3)
 have c4 := a_ hp_; clear HO_5 p I j3 d5; have HO_5 := c0; have p := c1; have I := c3; have HO_3 := c4; clear c0 c1 c3 c4; clear hg hw hp_ f1; clear B e8; go_wp2
 go_roundg k2
 case measure => have := f3.out; have := f6.out; omega
 case rel => exact ⟨(q5), (wrap64 (b + 1)), q_r, H', ⟨by have := f3.out; have := f6.out; omega⟩, ⟨q_S HO_3.out⟩, ⟨q_R HO_5.out⟩, ⟨q_k p.out⟩, ⟨q_w1 I.out y.out⟩⟩}}}
 {
 have H' := a_ H
 clear H; obtain ⟨G2, G3, A9⟩ := Kd.R_slice HO_5.out; subst A9; go_wp2
 repeat (go_quiet (fail); try go_wp2)
 go_roundg k2
 case measure => have := f3.out; have := f6.out; omega
 case rel => exact ⟨(q), (wrap64 (L + 1)), q_r, H', ⟨by have := f3.out; have := f6.out; omega⟩, ⟨q_S (Kd.S_mono HO_3.out (fun _ hk => trivial))⟩, ⟨q_k p.out⟩, ⟨q_w1 I.out y.out⟩⟩}))}
 {
 obtain rfl := q_so H; obtain ⟨B2, B3, B6, B7, C0, C1, C2, C3, C4, C5⟩ := q_cf5 p.out; go_wp2
 repeat (go_quiet (fail); try go_wp2)
 go_ret
 exact ⟨_, q_e, q_S HO_3.out, q_w1 I.out y.out⟩}))
end Go.Proofs.YtefhpdcafdhcaaaDoor.A
end
section
namespace Go.Proofs.YtefhpdcafdhcaaaDoor.M
open Go Go.RowKit Go.Proofs.YtefhpdcafdhcaaaDoorW.PrintWords Go.Proofs.YtefhpdcafdhcaaaDoorW.PrintLast Go.Proofs.YtefhpdcafdhcaaaDoorW.PrintMore Go.Proofs.YtefhpdcafdhcaaaDoor.A Go.Proofs.YtefhpdcafdhcaaaDoor.B Go.Proofs.YtefhpdcafdhcaaaDoor.N
theorem rd69_drop {N : List S69} {i : Nat} {n : S69} {l : List S69} (h : N.drop i = n :: l) : rd_T69 N (i : Int) = n ∧ i < N.length ∧ N.drop (i + 1) = l := by
 have hi : i < N.length := by
  rcases Nat.lt_or_ge i N.length with h1 | h1
  ·exact h1
  ·rw [List.drop_of_length_le h1] at h; cases h
 rw [List.drop_eq_getElem_cons hi] at h; injection h with h1 b
 exact ⟨by simp [rd_T69, hi, h1], hi, b⟩
theorem rd71_drop {N : List S71} {i : Nat} {n : S71} {l : List S71} (h : N.drop i = n :: l) : rd_T71 N (i : Int) = n ∧ i < N.length ∧ N.drop (i + 1) = l := by
 have hi : i < N.length := by
  rcases Nat.lt_or_ge i N.length with h1 | h1
  ·exact h1
  ·rw [List.drop_of_length_le h1] at h; cases h
 rw [List.drop_eq_getElem_cons hi] at h; injection h with h1 b
 exact ⟨by simp [rd_T71, hi, h1], hi, b⟩
theorem rd83_drop {N : List S83} {i : Nat} {n : S83} {l : List S83} (h : N.drop i = n :: l) : rd_T83 N (i : Int) = n ∧ i < N.length ∧ N.drop (i + 1) = l := by
 have hi : i < N.length := by
  rcases Nat.lt_or_ge i N.length with h1 | h1
  ·exact h1
  ·rw [List.drop_of_length_le h1] at h; cases h
 rw [List.drop_eq_getElem_cons hi] at h; injection h with h1 b
 exact ⟨by simp [rd_T83, hi, h1], hi, b⟩
theorem rd85_drop {N : List S85} {i : Nat} {n : S85} {l : List S85} (h : N.drop i = n :: l) : rd_T85 N (i : Int) = n ∧ i < N.length ∧ N.drop (i + 1) = l := by
 have hi : i < N.length := by
  rcases Nat.lt_or_ge i N.length with h1 | h1
  ·exact h1
  ·rw [List.drop_of_length_le h1] at h; cases h
 rw [List.drop_eq_getElem_cons hi] at h; injection h with h1 b
 exact ⟨by simp [rd_T85, hi, h1], hi, b⟩
theorem drop_nil_ge {α : Type} {N : List α} {i : Nat} (h : N.drop i = []) : N.length ≤ i := by simpa using h
def big : Nat := 1152921504606846976
def wArgs (l : List S71) : Nat := (l.map fun y => y.f6.length).sum
def wNds (l : List S69) : Nat := (l.map fun n => n.f0.length + wArgs n.f0).sum
section
variable (nm : ByteArray) (ps : List S83) (ar : List S85) (rg : Int) (N : List S69)
structure Big : Prop where
 nodes : N.length < big
 pars : ps.length < big
 arrs : ar.length < big
 ins : ∀ n ∈ N, n.f0.length < big
 args : ∀ n ∈ N, ∀ y ∈ n.f0, y.f6.length < big
variable {ps ar N} (hB : Big ps ar N)
include hB
theorem wideN_ev : ∀ (rest : List S69) (i : Nat), N.drop i = rest → ∀ n : Nat, n < 2 * big → ∃ b, Evt (fun k => l6_Wide.l2 k (n : Int) (i : Int) nm ps ar rg N) b ∧ (b = false → n + wNds rest ≤ 400)
 | [], i, hd, n, _ => by {
 have hi := drop_nil_ge hd; refine ⟨decide ((n : Int) > 400), ?_, fun h => ?_⟩
 {
 refine Evt.succ ?_
 simp only [l6_Wide.l2]
 refine Evt.neg (by omega) ?_
 refine Evt.succ ?_
 simp only [l6_Wide.j4]
 exact Evt.neg (by simp) (Evt.const _)}
 {
 have := of_decide_eq_false h
 simp [wNds]; omega}}
 | p :: rest, i, hd, n, hn => by {
 obtain ⟨hr, hi, z⟩ := rd69_drop hd; have hmem : p ∈ N := by rw [← List.take_append_drop i N, hd]; simp
 have hI := hB.ins p hmem; have hA := hB.args p hmem; by_cases E : n ≤ 400
 {
 have hargs : ∀ (xs : List S71) (q : Nat), p.f0.drop q = xs → ∀ m : Nat, m < 2 * big → ∃ b, Evt (fun k => l6_Wide.l3 k (m : Int) (i : Int) (q : Int) nm ps ar rg N) b ∧ (b = false → m + wArgs xs + wNds rest ≤ 400) := by {
 intro xs
 induction xs with
 | nil => (
 intro q hq m hm
 have B := drop_nil_ge hq; obtain ⟨b, hb, l⟩ := wideN_ev rest (i + 1) z m hm; refine ⟨b, ?_, fun h => by have := l h; simp [wArgs]; omega⟩
 refine Evt.succ ?_
 simp only [l6_Wide.l3]
 refine Evt.pos (by omega) (Evt.pos (by omega) ?_)
 rw [hr]; refine Evt.neg (by omega) ?_
 rw [wrap_succ i (by have := hB.nodes; unfold big at this; omega)]
 exact hb)
 | cons y ys ih => (
 intro q hq m hm
 obtain ⟨C, B, D⟩ := rd71_drop hq; have hy := hA y (by rw [← List.take_append_drop q p.f0, hq]; simp)
 by_cases F : m ≤ 400
 {
 obtain ⟨b, hb, l⟩ := ih (q + 1) D (m + y.f6.length) (by unfold big at *; omega)
 refine ⟨b, ?_, fun h => by have := l h; simp only [wArgs, List.map_cons, List.sum_cons] at *; omega⟩
 refine Evt.succ ?_
 simp only [l6_Wide.l3]
 refine Evt.pos (by omega) (Evt.pos (by omega) ?_)
 rw [hr]; refine Evt.pos (by omega) (Evt.pos (by omega) (Evt.pos (by omega) ?_))
 rw [C, wrap_succ q (by unfold big at *; omega), show wrap64 ((m : Int) + (y.f6.length : Int)) = ((m + y.f6.length : Nat) : Int) by rw [wrap64_id (by omega) (by unfold big at *; omega)]; omega]
 exact hb}
 {
 obtain ⟨b, hb, l⟩ := wideN_ev rest (i + 1) z m hm; refine ⟨b, ?_, fun h => by have := l h; omega⟩
 refine Evt.succ ?_
 simp only [l6_Wide.l3]
 refine Evt.pos (by omega) (Evt.pos (by omega) ?_)
 rw [hr]; refine Evt.pos (by omega) (Evt.neg (by omega) ?_)
 rw [wrap_succ i (by have := hB.nodes; unfold big at this; omega)]
 exact hb})}
 obtain ⟨b, hb, l⟩ := hargs p.f0 0 (by simp) (n + p.f0.length) (by unfold big at *; omega)
 refine ⟨b, ?_, fun h => by have := l h; simp only [wNds, List.map_cons, List.sum_cons] at *; omega⟩
 refine Evt.succ ?_
 simp only [l6_Wide.l2]
 refine Evt.pos (by omega) ?_
 refine Evt.succ ?_
 simp only [l6_Wide.j4]
 refine Evt.pos (by simp; omega) (Evt.pos (by omega) (Evt.pos (by omega) ?_))
 rw [hr, show wrap64 ((n : Int) + (p.f0.length : Int)) = ((n + p.f0.length : Nat) : Int) by rw [wrap64_id (by omega) (by unfold big at *; omega)]; omega]
 exact hb}
 {
 refine ⟨true, ?_, fun h => by cases h⟩
 refine Evt.succ ?_
 simp only [l6_Wide.l2]
 refine Evt.pos (by omega) ?_
 refine Evt.succ ?_
 simp only [l6_Wide.j4]
 refine Evt.neg (by simp; omega) ?_
 rw [decide_eq_true (show (n : Int) > 400 by omega)]
 exact Evt.const _}}
theorem wideA_ev : ∀ (rest : List S85) (i : Nat), ar.drop i = rest → ∀ n : Nat, n < 2 * big → ∃ b, Evt (fun k => l6_Wide.l1 k (n : Int) (i : Int) nm ps ar rg N) b ∧ (b = false → (∀ a ∈ rest, a.f0.size ≤ 100) ∧ n + wNds N ≤ 400)
 | [], i, hd, n, hn => by {
 have hi := drop_nil_ge hd; obtain ⟨b, hb, l⟩ := wideN_ev nm rg hB N 0 (by simp) n hn
 refine ⟨b, ?_, fun h => ⟨fun a ha => (by cases ha), l h⟩⟩
 refine Evt.succ ?_
 simp only [l6_Wide.l1]
 exact Evt.neg (by omega) hb}
 | a :: rest, i, hd, n, hn => by {
 obtain ⟨hr, hi, p⟩ := rd85_drop hd; by_cases h1 : a.f0.size ≤ 100
 {
 obtain ⟨b, hb, l⟩ := wideA_ev rest (i + 1) p n hn; refine ⟨b, ?_, fun h => ⟨fun x hx => ?_, (l h).2⟩⟩
 {
 refine Evt.succ ?_
 simp only [l6_Wide.l1]
 refine Evt.pos (by omega) (Evt.pos (by omega) ?_)
 rw [hr]; refine Evt.neg (by omega) ?_
 rw [wrap_succ i (by have := hB.arrs; unfold big at this; omega)]
 exact hb}
 {
 rcases List.mem_cons.1 hx with rfl | hx
 ·exact h1
 ·exact (l h).1 x hx}}
 {
 refine ⟨true, ?_, fun h => by cases h⟩
 refine Evt.succ ?_
 simp only [l6_Wide.l1]
 refine Evt.pos (by omega) (Evt.pos (by omega) ?_)
 rw [hr]; exact Evt.pos (by omega) (Evt.const _)}}
theorem wideP_ev : ∀ (rest : List S83) (i : Nat), ps.drop i = rest → ∀ n : Nat, n < 2 * big → ∃ b, Evt (fun k => l6_Wide.l0 k (n : Int) (i : Int) nm ps ar rg N) b ∧ (b = false → (∀ a ∈ rest, a.f0.size ≤ 100) ∧ (∀ a ∈ ar, a.f0.size ≤ 100) ∧ n + wNds N ≤ 400)
 | [], i, hd, n, hn => by {
 have hi := drop_nil_ge hd; obtain ⟨b, hb, l⟩ := wideA_ev nm rg hB ar 0 (by simp) n hn
 refine ⟨b, ?_, fun h => ⟨fun a ha => (by cases ha), l h⟩⟩
 refine Evt.succ ?_
 simp only [l6_Wide.l0]
 exact Evt.neg (by omega) hb}
 | a :: rest, i, hd, n, hn => by {
 obtain ⟨hr, hi, p⟩ := rd83_drop hd; by_cases h1 : a.f0.size ≤ 100
 {
 obtain ⟨b, hb, l⟩ := wideP_ev rest (i + 1) p n hn; refine ⟨b, ?_, fun h => ⟨fun x hx => ?_, (l h).2⟩⟩
 {
 refine Evt.succ ?_
 simp only [l6_Wide.l0]
 refine Evt.pos (by omega) (Evt.pos (by omega) ?_)
 rw [hr]; refine Evt.neg (by omega) ?_
 rw [wrap_succ i (by have := hB.pars; unfold big at this; omega)]
 exact hb}
 {
 rcases List.mem_cons.1 hx with rfl | hx
 ·exact h1
 ·exact (l h).1 x hx}}
 {
 refine ⟨true, ?_, fun h => by cases h⟩
 refine Evt.succ ?_
 simp only [l6_Wide.l0]
 refine Evt.pos (by omega) (Evt.pos (by omega) ?_)
 rw [hr]; exact Evt.pos (by omega) (Evt.const _)}}
end
structure Small (nm : ByteArray) (ps : List S83) (ar : List S85) (N : List S69) : Prop where
 name : nm.size ≤ 100
 pars : ∀ a ∈ ps, a.f0.size ≤ 100
 arrs : ∀ a ∈ ar, a.f0.size ≤ 100
 sum : N.length + ps.length + ar.length + wNds N ≤ 400
theorem wide_ev (nm : ByteArray) {ps : List S83} {ar : List S85} (rg : Int) {N : List S69} (hB : Big ps ar N) : ∃ b, Evt (fun k => l6_Wide.f k nm ps ar rg N) b ∧ (b = false → Small nm ps ar N) := by
 have h1 := hB.nodes; have q := hB.pars; have y := hB.arrs; have e : wrap64 (wrap64 ((N.length : Int) + (ps.length : Int)) + (ar.length : Int)) = ((N.length + ps.length + ar.length : Nat) : Int) := by {
 unfold big at *
 rw [wrap64_id (x := (N.length : Int) + (ps.length : Int)) (by omega) (by omega), wrap64_id (by omega) (by omega)]
 omega}
 by_cases z : N.length + ps.length + ar.length ≤ 400
 {
 by_cases p : nm.size ≤ 100
 focus (
 obtain ⟨b, hb, l⟩ := wideP_ev nm rg hB ps 0 (by simp) (N.length + ps.length + ar.length) (by unfold big at *; omega)
 refine ⟨b, ?_, fun h => ⟨p, (l h).1, (l h).2.1, (l h).2.2⟩⟩)
 rotate_left
 focus (
 refine ⟨true, ?_, fun h => by cases h⟩)
 all_goals (
 unfold l6_Wide.f
 rw [e]; refine Evt.neg (by omega) ?_
 refine Evt.succ ?_
 simp only [l6_Wide.j0])
 {
 exact Evt.pos (by simp; omega) (Evt.const _)}
 {
 refine Evt.neg (by simp; omega) ?_
 exact hb}}
 {
 refine ⟨true, ?_, fun h => by cases h⟩
 unfold l6_Wide.f
 rw [e]; refine Evt.pos (by omega) ?_
 refine Evt.succ ?_
 simp only [l6_Wide.j0]
 exact Evt.pos trivial (Evt.const _)}
end Go.Proofs.YtefhpdcafdhcaaaDoor.M
end
section
namespace Go.Proofs.YtefhpdcafdhcaaaDoor.B
open Go Go.RowKit Go.Shelf Go.Proofs.YtefhpdcafdhcaaaDoorW.PrintWords Go.Proofs.YtefhpdcafdhcaaaDoorW.PrintLast Go.Proofs.YtefhpdcafdhcaaaDoorW.PrintMore Go.Proofs.YtefhpdcafdhcaaaDoor Go.Proofs.YtefhpdcafdhcaaaDoor.A
def hasS (l : List ByteArray) (s : ByteArray) : Bool := l.any fun x => x.data.toList == s.data.toList
def SeenS (w : World) (mb : Nat) (l : List ByteArray) : Prop := ∃ (n : Nat) (D : DataW Unit), w.ownsMap Tryd.prog 9 (plainElem Tryd.prog 4) mb n D ∧ n ≤ l.length ∧ ∀ s : List UInt8, D.atKey (.string s) (.lit (.bool false)) = .lit (.bool (l.any fun x => x.data.toList == s))
theorem SeenS.made (w : World) : SeenS (w.alloc (.map #[] 0)) w.heap.size [] := ⟨0, .map [], World.ownsMap_made _ _ _ _, Nat.le_refl _, fun _ => rfl⟩
theorem SeenS.lt {w : World} {mb : Nat} {l : List ByteArray} (h : SeenS w mb l) : mb < w.heap.size := by
 obtain ⟨n, D, h, _⟩ := h; exact h.lt
theorem SeenS.below {w w' : World} {mb : Nat} {l : List ByteArray} (h : SeenS w mb l) (hb : Below w.heap.size w w') : SeenS w' mb l := by
 have hl := h.lt; obtain ⟨n, D, ⟨es, clock, hk, F, hs, hD⟩, hn, hW⟩ := h; exact ⟨n, D, ⟨es, clock, (hb.block mb hl).trans hk, F, hs, hD⟩, hn, hW⟩
theorem SeenS.alloc {w : World} {mb : Nat} {l : List ByteArray} (h : SeenS w mb l) (o : Obj) : SeenS (w.alloc o) mb l := h.below (below_alloc (Below.refl _ _) o)
theorem SeenS.look {w : World} {mb : Nat} {l : List ByteArray} (h : SeenS w mb l) (s : ByteArray) (hs : s.size ≤ maxLen) {b : Bool} (hb : hasS l s = b) : (Instr.lookup 108 (.map (some mb)) (.string s) false).run Tryd.prog w = .ok (.bool b) w := by
 obtain ⟨n, D, hown, _, hD⟩ := h; obtain ⟨v, ps, hrun, hv⟩ := hown.lookup law Tryd.underlying108 (z := .bool false) rfl (plainElem_bool Tryd.underlying4 false) (Go.WideMaps.keyOf_string_mk Tryd.underlying9 hs); rw [hD] at hv; rw [hrun]; unfold hasS at hb
 rw [hb] at hv; congr 1
 unfold plainElem at hv
 cases v <;> simp_all
theorem SeenS.put {w : World} {mb : Nat} {l : List ByteArray} (h : SeenS w mb l) (s : ByteArray) (hs : s.size ≤ maxLen) (hl : l.length < maxLen) {ops : Array Oper} {rest : List Oper} {o : Oper} {a : Act} {Q : Exit → Act → World → Prop} (hgd : o.guard = none) (m k v : Operand) (hop : o.op = Op.mapUpdate 108 m k v)
  (hm : a.eval m = .map (some mb)) (hk : a.eval k = .string s) (hv : a.eval v = .bool true) (hK : ∀ w1, SeenS w1 mb (l ++ [s]) → w.grownBy w1 (some mb) → wpList Tryd.prog ops Q rest (a.put o.dst undef) w1) : wpList Tryd.prog ops Q (o :: rest) a w := by
 obtain ⟨n, D, hown, hn, hD⟩ := h; have hkey : keyOf Tryd.prog 9 (.string s) = some (.string s.data.toList) := Go.WideMaps.keyOf_string_mk Tryd.underlying9 hs
 refine wpList_mapUpdate_own _ hgd _ _ _ 108 hop 9 4 law Tryd.underlying108 _ mb n _ hm hown (by omega) _ _ _ hk hv hkey _ [] (plainElem_bool Tryd.underlying4 true) ?_
 intro w1 b p
 refine hK w1 ⟨n + 1, _, b, by rw [List.length_append]; simp; omega, fun s' => ?_⟩ p
 have hKl : WideAt.IsKeyLit (.string s.data.toList) := law.key hkey
 by_cases e : s' = s.data.toList
 ·subst e; rw [Maps.atKey_put_same hown.isMap hKl]; simp
 ·have q : (Lit.string s') ≠ Lit.string s.data.toList := fun h => e (by injection h)
  rw [Maps.atKey_put_other q, hD s']; have : (s.data.toList == s') = false := by simpa using fun h => e h.symm
  simp [this]
abbrev wfI (d : Int) : Prop := (Lit.int .i64 d).wf = true
theorem wfI_of {d : Int} (b : -9223372036854775808 ≤ d) (h1 : d ≤ 9223372036854775807) : wfI d := by
 have l : IntKind.i64.min = -9223372036854775808 := by decide
 have p : IntKind.i64.max = 9223372036854775807 := by decide
 simp only [wfI, Lit.wf, Bool.and_eq_true, decide_eq_true_eq]
 omega
theorem law3 : Go.Maps.Keyed Tryd.prog 3 := Go.Maps.int_keyed Tryd.underlying3
def ChI (w : World) (mb : Nat) (l : List Int) (c : Nat) : Prop := ∃ (n : Nat) (D : DataW Unit), w.ownsMap Tryd.prog 3 (plainElem Tryd.prog 4) mb n D ∧ n ≤ c ∧ ∀ d : Int, D.atKey (.int .i64 d) (.lit (.bool false)) = .lit (.bool (decide (d ∈ l)))
theorem ChI.made (w : World) : ChI (w.alloc (.map #[] 0)) w.heap.size [] 0 := ⟨0, .map [], World.ownsMap_made _ _ _ _, Nat.le_refl _, fun _ => rfl⟩
theorem ChI.lt {w : World} {mb c : Nat} {l : List Int} (h : ChI w mb l c) : mb < w.heap.size := by
 obtain ⟨n, D, h, _⟩ := h; exact h.lt
theorem ChI.below {w w' : World} {mb c : Nat} {l : List Int} (h : ChI w mb l c) (hb : Below w.heap.size w w') : ChI w' mb l c := by
 have hl := h.lt; obtain ⟨n, D, ⟨es, clock, hk, F, hs, hD⟩, hn, hW⟩ := h; exact ⟨n, D, ⟨es, clock, (hb.block mb hl).trans hk, F, hs, hD⟩, hn, hW⟩
theorem ChI.alloc {w : World} {mb c : Nat} {l : List Int} (h : ChI w mb l c) (o : Obj) : ChI (w.alloc o) mb l c := h.below (below_alloc (Below.refl _ _) o)
theorem ChI.look {w : World} {mb c : Nat} {l : List Int} (h : ChI w mb l c) (d : Int) (hd : wfI d) {b : Bool} (hb : decide (d ∈ l) = b) : (Instr.lookup 99 (.map (some mb)) (.int .i64 d) false).run Tryd.prog w = .ok (.bool b) w := by
 obtain ⟨n, D, hown, _, hD⟩ := h; obtain ⟨v, ps, hrun, hv⟩ := hown.lookup law3 Tryd.underlying99 (z := .bool false) rfl (plainElem_bool Tryd.underlying4 false) (Go.Maps.keyOf_int_mk Tryd.underlying3 hd); rw [hD, hb] at hv; rw [hrun]; congr 1
 unfold plainElem at hv
 cases v <;> simp_all
theorem ChI.put {w : World} {mb c : Nat} {l : List Int} (h : ChI w mb l c) (d : Int) (hd : wfI d) (hc : c < maxLen) (b : Bool) (hbl : b = false → d ∉ l) {ops : Array Oper} {rest : List Oper} {o : Oper} {a : Act} {Q : Exit → Act → World → Prop} (hgd : o.guard = none) (m k v : Operand) (hop : o.op = Op.mapUpdate 99 m k v)
  (hm : a.eval m = .map (some mb)) (hk : a.eval k = .int .i64 d) (hv : a.eval v = .bool b) (hK : ∀ w1, ChI w1 mb (if b = true then l ++ [d] else l) (c + 1) → w.grownBy w1 (some mb) → wpList Tryd.prog ops Q rest (a.put o.dst undef) w1) : wpList Tryd.prog ops Q (o :: rest) a w := by
 obtain ⟨n, D, hown, hn, hD⟩ := h; have hkey : keyOf Tryd.prog 3 (.int .i64 d) = some (.int .i64 d) := Go.Maps.keyOf_int_mk Tryd.underlying3 hd
 refine wpList_mapUpdate_own _ hgd _ _ _ 99 hop 3 4 law3 Tryd.underlying99 _ mb n _ hm hown (by omega) _ _ _ hk hv hkey _ [] (plainElem_bool Tryd.underlying4 b) ?_
 intro w1 p q
 refine hK w1 ⟨n + 1, _, p, by omega, fun d' => ?_⟩ q
 have hKl : WideAt.IsKeyLit (.int .i64 d) := law3.key hkey
 by_cases e : d' = d
 ·subst e; rw [Maps.atKey_put_same hown.isMap hKl]; cases b with
  | true => simp
  | false => simp [hbl rfl]
 ·have y : (Lit.int .i64 d') ≠ Lit.int .i64 d := fun h => e (by injection h)
  rw [Maps.atKey_put_other y, hD d']; cases b <;> simp [e]
end Go.Proofs.YtefhpdcafdhcaaaDoor.B
end
section
namespace Go.Proofs.YtefhpdcafdhcaaaDoor.B
open Go Go.RowKit Go.Shelf Go.Proofs.YtefhpdcafdhcaaaDoorW.PrintWords Go.Proofs.YtefhpdcafdhcaaaDoorW.PrintLast Go.Proofs.YtefhpdcafdhcaaaDoorW.PrintMore Go.Proofs.YtefhpdcafdhcaaaDoor Go.Proofs.YtefhpdcafdhcaaaDoor.A Go.Proofs.YtefhpdcafdhcaaaDoor.N
set_option linter.unusedVariables false
def nameB (s : ByteArray) : Bool := LexM.isName s.data.toList
theorem nameC {s : ByteArray} (b : Bool) (w : World) (hb : nameB s = b) (hs : s.size ≤ 100000) (hT : Tab w) : Calls Tryd.prog 72 #[.string s] w fun e w' => e = .returned (.bool b) ∧ Below w.heap.size w w' := by
 obtain ⟨k, hk⟩ := (M.name_ev s hs).1.get; have := lex_Name.calls k s _ w hk hT
 rw [show LexM.isName (M.bs s) = b from hb] at this; exact this
def headPs : List S83 → List ByteArray → Option (List ByteArray)
 | [], seen => some seen
 | p :: ps, seen => if nameB p.f0 = true ∧ hasS seen p.f0 = false then headPs ps (seen ++ [p.f0]) else none
def headAs : List S85 → List ByteArray → Bool
 | [], _ => true
 | a :: xs, seen => if nameB a.f0 = true ∧ hasS seen a.f0 = false ∧ 1 ≤ a.f1 ∧ a.f1 ≤ 64 then headAs xs (seen ++ [a.f0]) else false
def headB (nm : ByteArray) (ps : List S83) (xs : List S85) (regs : Int) : Bool :=
 nameB nm && decide (ps.length ≤ 6) && decide (xs.length ≤ 4) && decide (0 ≤ regs) && decide (regs ≤ 2000) && (match headPs ps [] with
  | none => false
  | some seen => headAs xs seen)
abbrev SmallS (s : ByteArray) : Prop := s.size ≤ 100000
theorem cell_old {w w' : World} {p : Addr} {v : Value} (h : w.cell? p = some v) (hb : Below w.heap.size w w') : w'.cell? p = some v := q_kc hb h
theorem flow_head.core (B : ByteArray) (V : Option Addr) (a9 : Nat) (l : List (S83)) (X : Option Addr) (b0 : Nat) (b : List (S85)) (y : Int) (b1 : Option Addr) (b2 b3 : Nat) (w : World) (b9 : Kd.C k83 w V l.length l) (c0 : Kd.C k85 w X b.length b) (hT : Tab w)
  (d8 : SmallS B) (d9 : ∀ p ∈ l, SmallS p.f0) (e0 : ∀ p ∈ b, SmallS p.f0) :
  Calls Tryd.prog 59 #[.agg #[.string B, .slice V l.length a9, .slice X b.length b0, .int .i64 y, .slice b1 b2 b3]] w fun e w' => e = .returned (.bool (headB B l b y)) ∧ Below w.heap.size w w' := by
 have HT := a_ hT; have f3 := a_ b9; have f4 := a_ c0; have f5 := a_ d9; have a6 := a_ e0; have b6 := a_ d8; clear hT b9 c0 d9 e0 d8; have U := a_ (below_alloc (Below.refl w.heap.size w) (.cells #[.string B, .slice V l.length a9, .slice X b.length b0, .int .i64 y, .slice b1 b2 b3] 26 (0, 0))); by_cases h1 : nameB B = true
 case neg => (
 have M : nameB B = false := by simpa using h1
 have e : headB B l b y = false := by unfold headB; rw [M]; rfl
 rw [e]; have H1 := a_ M; clear h1 M e; go_enter Tryd.func59, Tryd.ntmps59
 go_wp2_with (first | (go_at_call 72; (with_reducible refine (nameC false _ H1.out b6.out (HT.out.below U.out)).mono ?_); rintro e w1 ⟨rfl, z⟩; have G := a_ z; clear z))
 go_ret
 exact ⟨rfl, below_then U.out U.out.size G.out⟩)
 have H1 := a_ h1; by_cases F : l.length ≤ 6
 case neg => (
 have e : headB B l b y = false := by unfold headB; simp [F]
 rw [e]; clear e; have c2 : decide ((l.length : Int) > 6) = true := decide_eq_true (by omega)
 have c2b : decide (6 < l.length) = true := decide_eq_true (by omega)
 clear h1 F; go_enter Tryd.func59, Tryd.ntmps59
 go_wp2_with (first | (go_at_call 72; (with_reducible refine (nameC true _ H1.out b6.out (HT.out.below U.out)).mono ?_); rintro e w1 ⟨rfl, z⟩; have G := a_ (below_then U.out U.out.size z); have BK := a_ (blk_below (heap_alloc_new w _) z); clear z; have hz_ : w.heap.size < w1.heap.size := blk_lt BK.out; obtain ⟨a0, a1, a2, a3, a4⟩ := q_c5 BK.out))
 go_ret
 exact ⟨rfl, G.out⟩)
 have c2 : decide ((l.length : Int) > 6) = false := decide_eq_false (by omega)
 have c2b : decide (6 < l.length) = false := decide_eq_false (by omega)
 by_cases h3 : b.length ≤ 4
 case neg => (
 have e : headB B l b y = false := by unfold headB; simp [h3]
 rw [e]; clear e; have c3 : decide ((b.length : Int) > 4) = true := decide_eq_true (by omega)
 have c3b : decide (4 < b.length) = true := decide_eq_true (by omega)
 clear h1 F h3; go_enter Tryd.func59, Tryd.ntmps59
 go_wp2_with (first | (go_at_call 72; (with_reducible refine (nameC true _ H1.out b6.out (HT.out.below U.out)).mono ?_); rintro e w1 ⟨rfl, z⟩; have G := a_ (below_then U.out U.out.size z); have BK := a_ (blk_below (heap_alloc_new w _) z); clear z; have hz_ : w.heap.size < w1.heap.size := blk_lt BK.out; obtain ⟨a0, a1, a2, a3, a4⟩ := q_c5 BK.out))
 go_ret
 exact ⟨rfl, G.out⟩)
 have c3 : decide ((b.length : Int) > 4) = false := decide_eq_false (by omega)
 have c3b : decide (4 < b.length) = false := decide_eq_false (by omega)
 by_cases h4 : 0 ≤ y
 case neg => (
 have e : headB B l b y = false := by unfold headB; simp [h4]
 rw [e]; clear e; have c4 : decide (y < 0) = true := decide_eq_true (by omega)
 clear h1 F h3 h4; go_enter Tryd.func59, Tryd.ntmps59
 go_wp2_with (first | (go_at_call 72; (with_reducible refine (nameC true _ H1.out b6.out (HT.out.below U.out)).mono ?_); rintro e w1 ⟨rfl, z⟩; have G := a_ (below_then U.out U.out.size z); have BK := a_ (blk_below (heap_alloc_new w _) z); clear z; have hz_ : w.heap.size < w1.heap.size := blk_lt BK.out; obtain ⟨a0, a1, a2, a3, a4⟩ := q_c5 BK.out))
 go_ret
 exact ⟨rfl, G.out⟩)
 have c4 : decide (y < 0) = false := decide_eq_false (by omega)
 by_cases h5 : y ≤ 2000
 case neg => (
 have e : headB B l b y = false := by unfold headB; simp [h5]
 rw [e]; clear e; have c5 : decide (2000 < y) = true := decide_eq_true (by omega)
 clear h1 F h3 h4 h5; go_enter Tryd.func59, Tryd.ntmps59
 go_wp2_with (first | (go_at_call 72; (with_reducible refine (nameC true _ H1.out b6.out (HT.out.below U.out)).mono ?_); rintro e w1 ⟨rfl, z⟩; have G := a_ (below_then U.out U.out.size z); have BK := a_ (blk_below (heap_alloc_new w _) z); clear z; have hz_ : w.heap.size < w1.heap.size := blk_lt BK.out; obtain ⟨a0, a1, a2, a3, a4⟩ := q_c5 BK.out))
 go_ret
 exact ⟨rfl, G.out⟩)
 have c5 : decide (2000 < y) = false := decide_eq_false (by omega)
 obtain ⟨R, hR⟩ : ∃ R, R = headB B l b y := ⟨_, rfl⟩; have HR := a_ (show (match headPs l [] with | none => false | some seen => headAs b seen) = R by rw [hR]; unfold headB; simp [h1, F, h3, h4, h5])
 rw [← hR]; have H2 := a_ F; have H3 := a_ h3; clear hR h1 F h3 h4 h5; have hmm := @run_makeMap Tryd.prog; go_enter Tryd.func59, Tryd.ntmps59
 go_wp2_with (first | (go_at_call 72; (with_reducible refine (nameC true _ H1.out b6.out (HT.out.below U.out)).mono ?_); rintro e w1 ⟨rfl, z⟩; have G := a_ (below_then U.out U.out.size z); have BK := a_ (blk_below (heap_alloc_new w _) z); clear z; have hz_ : w.heap.size < w1.heap.size := blk_lt BK.out; obtain ⟨a0, a1, a2, a3, a4⟩ := q_c5 BK.out))
 have HM := a_ (SeenS.made w1); have HBM := a_ (below_alloc G.out (.map #[] 0)); have BKM := a_ (blk_alloc BK.out (.map #[] 0)); have HN := a_ hz_; go_loopg [38] l.length (fun gk f7 wx => ∃ (x : Int), f7 = .int .i64 x ∧ Aside0 (∃ (i : Nat) (seen : List ByteArray), x = (i : Int) ∧ i + gk = l.length ∧ seen.length = i ∧ headPs (l.drop i) seen = headPs l [] ∧ SeenS wx w1.heap.size seen) ∧ Aside0 (Below w.heap.size w wx) ∧ Aside0 (wx.heap[w.heap.size]? = some (.cells #[.string B, .slice V l.length a9, .slice X b.length b0, .int .i64 y, .slice b1 b2 b3] 26 (0, 0))))
 case atStart => exact ⟨0, rfl, ⟨0, [], rfl, by omega, rfl, rfl, HM.out⟩, HBM, BKM⟩
 case round => (
 clear a0 a1 a2 a3 a4 c2 c2b c3 c3b c4 c5 hmm HM HBM BKM hz_; obtain ⟨x, rfl, ⟨i, seen, hxi, hi, hsl, hps, hseen⟩, HBx, BKx⟩ := hrel; obtain ⟨wx, rfl⟩ : ∃ wx : World, wx = wr := ⟨_, rfl⟩; have HSx := a_ hseen; have HX := a_ hxi; have HI := a_ hi; have HSL := a_ hsl; cases gk with
 | zero => (
 have c1 : decide (x < (l.length : Int)) = false := decide_eq_false (by omega)
 have HR' := a_ (show headAs b seen = R by
  have := HR.out
  rw [← hps, show i = l.length by omega, List.drop_length, headPs] at this
  exact this)
 clear HR hxi hi hsl hps hseen; have hz_ : w.heap.size < wx.heap.size := blk_lt BKx.out
 obtain ⟨e1, e2, e3, e4, e5⟩ := q_c5 BKx.out; go_wp2
 go_loopg [59] b.length (fun gk f9 wy => ∃ (x : Int), f9 = .int .i64 x ∧ Aside0 (∃ (i : Nat) (sn : List ByteArray), x = (i : Int) ∧ i + gk = b.length ∧ sn.length ≤ 6 + i ∧ headAs (b.drop i) sn = headAs b seen ∧ SeenS wy w1.heap.size sn) ∧ Aside0 (Below w.heap.size w wy) ∧ Aside0 (wy.heap[w.heap.size]? = some (.cells #[.string B, .slice V l.length a9, .slice X b.length b0, .int .i64 y, .slice b1 b2 b3] 26 (0, 0))))
 case atStart => exact ⟨0, rfl, ⟨0, seen, rfl, by omega, by have := HSL.out; have := HI.out; have := H2.out; omega, rfl, HSx.out⟩, HBx, BKx⟩
 case round => (
 clear hz_ e1 e2 e3 e4 e5; obtain ⟨x, rfl, ⟨j, sn, hxi, hi, hsl, hps, hseen⟩, HBy, BKy⟩ := hrel; obtain ⟨wy, rfl⟩ : ∃ wy : World, wy = wr := ⟨_, rfl⟩; have HSy := a_ hseen; have HX := a_ hxi; have d4 := a_ hi; have d0 := a_ hsl; cases gk with
 | zero => (
 have c1 : decide (x < (b.length : Int)) = false := decide_eq_false (by omega)
 have hRt : R = true := by {
 have := HR'.out
 rw [← hps, show j = b.length by omega, List.drop_length, headAs] at this
 exact this.symm}
 subst hRt; clear hxi hi hsl hps hseen; go_wp2
 go_ret
 exact ⟨rfl, HBy.out⟩)
 | succ gk => (
 have c1 : decide (x < (b.length : Int)) = true := decide_eq_true (by omega)
 have hil : j < b.length := by omega
 have p0 : 0 ≤ x := by omega
 have q0 : x < (b.length : Int) := by omega
 obtain ⟨ad, e, a7, a8⟩ := at_T85 f4.out x p0 q0; cases e; obtain ⟨p, hp⟩ : ∃ p, p = rd_T85 b x := ⟨_, rfl⟩; rw [← hp] at a7 a8
 have hpl : p = b[j] := by rw [hp, hxi]; simp [rd_T85, hil]
 have HPS := a_ (a6.out p (hpl ▸ List.getElem_mem hil)); have hdrop : b.drop j = p :: b.drop (j + 1) := by rw [hpl]; exact List.drop_eq_getElem_cons hil
 rw [hdrop, headAs] at hps; replace a7 := cell_old a7 HBy.out; replace a8 := cell_old a8 HBy.out; replace p0 := eq_true p0; replace q0 := eq_true q0; by_cases h1 : nameB p.f0 = true
 case neg => (
 have M : nameB p.f0 = false := by simpa using h1
 have hRf : R = false := by {
 have := HR'.out
 rw [← hps, if_neg (fun h => h1 h.1)] at this
 exact this.symm}
 subst hRf; have I := a_ M; clear hxi hi hsl hps hseen hdrop hpl hp h1 M hil; go_wp2_with (first | (go_at_call 72; (with_reducible refine (nameC false _ I.out HPS.out (HT.out.below (below_alloc HBy.out _))).mono ?_); rintro e N ⟨rfl, q⟩; have L := a_ (below_then (below_alloc HBy.out _) (below_alloc HBy.out _).size q); have c6 := a_ (blk_below (blk_alloc BKy.out _) q); have O := a_ ((HSy.out.alloc _).below q); have D := a_ (blk_below (heap_alloc_new wy _) q); clear q; have b4 : wy.heap.size < N.heap.size := blk_lt D.out; have J : N.cell? ⟨wy.heap.size, 0, none⟩ = some (.string p.f0) := q_b D.out 0; have b5 : N.cell? ⟨wy.heap.size, 1, none⟩ = some (.int .i64 p.f1) := q_b D.out 1))
 go_ret
 exact ⟨rfl, L.out⟩)
 have I := a_ h1; by_cases F : hasS sn p.f0 = true
 case pos => (
 have hRf : R = false := by {
 have := HR'.out
 rw [← hps, if_neg (fun h => by rw [h.2.1] at F; cases F)] at this
 exact this.symm}
 subst hRf; have S := a_ F; clear hxi hi hsl hps hseen hdrop hpl hp h1 F hil; go_wp2_with (first | (go_at_call 72; (with_reducible refine (nameC true _ I.out HPS.out (HT.out.below (below_alloc HBy.out _))).mono ?_); rintro e N ⟨rfl, q⟩; have L := a_ (below_then (below_alloc HBy.out _) (below_alloc HBy.out _).size q); have c6 := a_ (blk_below (blk_alloc BKy.out _) q); have O := a_ ((HSy.out.alloc _).below q); have D := a_ (blk_below (heap_alloc_new wy _) q); clear q; have b4 : wy.heap.size < N.heap.size := blk_lt D.out; have J : N.cell? ⟨wy.heap.size, 0, none⟩ = some (.string p.f0) := q_b D.out 0; have b5 : N.cell? ⟨wy.heap.size, 1, none⟩ = some (.int .i64 p.f1) := q_b D.out 1; have hlk_ := O.out.look p.f0 (by have := HPS.out; unfold maxLen; omega) S.out))
 go_ret
 exact ⟨rfl, L.out⟩)
 have T : hasS sn p.f0 = false := by simpa using F
 have S := a_ T; by_cases h3 : 1 ≤ p.f1
 case neg => (
 have hRf : R = false := by {
 have := HR'.out
 rw [← hps, if_neg (fun h => h3 h.2.2.1)] at this
 exact this.symm}
 subst hRf; have c3 : decide (p.f1 < 1) = true := decide_eq_true (by omega)
 clear hxi hi hsl hps hseen hdrop hpl hp h1 F T h3 hil; go_wp2_with (first | (go_at_call 72; (with_reducible refine (nameC true _ I.out HPS.out (HT.out.below (below_alloc HBy.out _))).mono ?_); rintro e N ⟨rfl, q⟩; have L := a_ (below_then (below_alloc HBy.out _) (below_alloc HBy.out _).size q); have c6 := a_ (blk_below (blk_alloc BKy.out _) q); have O := a_ ((HSy.out.alloc _).below q); have D := a_ (blk_below (heap_alloc_new wy _) q); clear q; have b4 : wy.heap.size < N.heap.size := blk_lt D.out; have J : N.cell? ⟨wy.heap.size, 0, none⟩ = some (.string p.f0) := q_b D.out 0; have b5 : N.cell? ⟨wy.heap.size, 1, none⟩ = some (.int .i64 p.f1) := q_b D.out 1; have hlk_ := O.out.look p.f0 (by have := HPS.out; unfold maxLen; omega) S.out))
 go_ret
 exact ⟨rfl, L.out⟩)
 have c3 : decide (p.f1 < 1) = false := decide_eq_false (by omega)
 by_cases h4 : p.f1 ≤ 64
 case neg => (
 have hRf : R = false := by {
 have := HR'.out
 rw [← hps, if_neg (fun h => h4 h.2.2.2)] at this
 exact this.symm}
 subst hRf; have c4 : decide (64 < p.f1) = true := decide_eq_true (by omega)
 clear hxi hi hsl hps hseen hdrop hpl hp h1 F T h3 h4 hil; go_wp2_with (first | (go_at_call 72; (with_reducible refine (nameC true _ I.out HPS.out (HT.out.below (below_alloc HBy.out _))).mono ?_); rintro e N ⟨rfl, q⟩; have L := a_ (below_then (below_alloc HBy.out _) (below_alloc HBy.out _).size q); have c6 := a_ (blk_below (blk_alloc BKy.out _) q); have O := a_ ((HSy.out.alloc _).below q); have D := a_ (blk_below (heap_alloc_new wy _) q); clear q; have b4 : wy.heap.size < N.heap.size := blk_lt D.out; have J : N.cell? ⟨wy.heap.size, 0, none⟩ = some (.string p.f0) := q_b D.out 0; have b5 : N.cell? ⟨wy.heap.size, 1, none⟩ = some (.int .i64 p.f1) := q_b D.out 1; have hlk_ := O.out.look p.f0 (by have := HPS.out; unfold maxLen; omega) S.out))
 go_ret
 exact ⟨rfl, L.out⟩)
 have c4 : decide (64 < p.f1) = false := decide_eq_false (by omega)
 have c8 := a_ (show headAs (b.drop (j + 1)) (sn ++ [p.f0]) = headAs b seen by rw [← hps, if_pos ⟨h1, T, h3, h4⟩])
 clear hxi hi hsl hps hseen hdrop hpl hp h1 F T h3 h4 hil; go_wp2_with (first | (go_at_call 72; (with_reducible refine (nameC true _ I.out HPS.out (HT.out.below (below_alloc HBy.out _))).mono ?_); rintro e N ⟨rfl, q⟩; have L := a_ (below_then (below_alloc HBy.out _) (below_alloc HBy.out _).size q); have c6 := a_ (blk_below (blk_alloc BKy.out _) q); have O := a_ ((HSy.out.alloc _).below q); have D := a_ (blk_below (heap_alloc_new wy _) q); clear q; have b4 : wy.heap.size < N.heap.size := blk_lt D.out; have J : N.cell? ⟨wy.heap.size, 0, none⟩ = some (.string p.f0) := q_b D.out 0; have b5 : N.cell? ⟨wy.heap.size, 1, none⟩ = some (.int .i64 p.f1) := q_b D.out 1; have hlk_ := O.out.look p.f0 (by have := HPS.out; unfold maxLen; omega) S.out) | (at_mapUpdate; refine SeenS.put O.out p.f0 (by have := HPS.out; unfold maxLen; omega) (by have := d0.out; have := d4.out; have := H3.out; unfold maxLen; omega) rfl _ _ _ rfl rfl rfl rfl ?_; intro w5 g0 e6))
 go_roundg gk
 case measure => omega
 case rel => exact ⟨wrap64 (x + 1), by first | rfl | simp, ⟨j + 1, sn ++ [p.f0], by have := HX.out; have := d4.out; have := H3.out; unfold wrap64; omega, by have := d4.out; omega, by have := d0.out; rw [List.length_append]; simp only [List.length_cons, List.length_nil]; omega, c8.out, g0⟩, ⟨L.out.grown e6 L.out.size (fun k hk => by injection hk with hk; have := HN.out; omega)⟩, ⟨blk_grown c6.out e6 (fun h => by injection h with h; have := HN.out; omega)⟩⟩)))
 | succ gk => (
 have c1 : decide (x < (l.length : Int)) = true := decide_eq_true (by omega)
 have hil : i < l.length := by omega
 have p0 : 0 ≤ x := by omega
 have q0 : x < (l.length : Int) := by omega
 obtain ⟨ad, e, a7, a8⟩ := at_T83 f3.out x p0 q0; cases e; obtain ⟨p, hp⟩ : ∃ p, p = rd_T83 l x := ⟨_, rfl⟩; rw [← hp] at a7 a8
 have hpl : p = l[i] := by rw [hp, hxi]; simp [rd_T83, hil]
 have HPS := a_ (f5.out p (hpl ▸ List.getElem_mem hil)); have hdrop : l.drop i = p :: l.drop (i + 1) := by rw [hpl]; exact List.drop_eq_getElem_cons hil
 rw [hdrop, headPs] at hps; replace a7 := cell_old a7 HBx.out; replace a8 := cell_old a8 HBx.out; replace p0 := eq_true p0; replace q0 := eq_true q0; by_cases h1 : nameB p.f0 = true
 case neg => (
 have M : nameB p.f0 = false := by simpa using h1
 have hRf : R = false := by {
 have := HR.out
 rw [← hps, if_neg (fun h => h1 h.1)] at this
 exact this.symm}
 subst hRf; have I := a_ M; clear hxi hi hsl hps hseen hdrop hpl hp h1 M hil; go_wp2_with (first | (go_at_call 72; (with_reducible refine (nameC false _ I.out HPS.out (HT.out.below (below_alloc HBx.out _))).mono ?_); rintro e w2 ⟨rfl, E⟩; have b8 := a_ (below_then (below_alloc HBx.out _) (below_alloc HBx.out _).size E); have d7 := a_ (blk_below (blk_alloc BKx.out _) E); have a6 := a_ ((HSx.out.alloc _).below E); have a5 := a_ (blk_below (heap_alloc_new wx _) E); clear E; have d2 : wx.heap.size < w2.heap.size := blk_lt a5.out; have J : w2.cell? ⟨wx.heap.size, 0, none⟩ = some (.string p.f0) := q_b a5.out 0))
 go_ret
 exact ⟨rfl, b8.out⟩)
 have I := a_ h1; by_cases F : hasS seen p.f0 = true
 case pos => (
 have hRf : R = false := by {
 have := HR.out
 rw [← hps, if_neg (fun h => by rw [h.2] at F; cases F)] at this
 exact this.symm}
 subst hRf; have S := a_ F; clear hxi hi hsl hps hseen hdrop hpl hp h1 F hil; go_wp2_with (first | (go_at_call 72; (with_reducible refine (nameC true _ I.out HPS.out (HT.out.below (below_alloc HBx.out _))).mono ?_); rintro e w2 ⟨rfl, E⟩; have b8 := a_ (below_then (below_alloc HBx.out _) (below_alloc HBx.out _).size E); have d7 := a_ (blk_below (blk_alloc BKx.out _) E); have a6 := a_ ((HSx.out.alloc _).below E); have a5 := a_ (blk_below (heap_alloc_new wx _) E); clear E; have d2 : wx.heap.size < w2.heap.size := blk_lt a5.out; have J : w2.cell? ⟨wx.heap.size, 0, none⟩ = some (.string p.f0) := q_b a5.out 0; have hlk_ := a6.out.look p.f0 (by have := HPS.out; unfold maxLen; omega) S.out))
 go_ret
 exact ⟨rfl, b8.out⟩)
 have T : hasS seen p.f0 = false := by simpa using F
 have S := a_ T; have c8 := a_ (show headPs (l.drop (i + 1)) (seen ++ [p.f0]) = headPs l [] by rw [← hps, if_pos ⟨h1, T⟩])
 clear hxi hi hsl hps hseen hdrop hpl hp h1 F T hil; go_wp2_with (first | (go_at_call 72; (with_reducible refine (nameC true _ I.out HPS.out (HT.out.below (below_alloc HBx.out _))).mono ?_); rintro e w2 ⟨rfl, E⟩; have b8 := a_ (below_then (below_alloc HBx.out _) (below_alloc HBx.out _).size E); have d7 := a_ (blk_below (blk_alloc BKx.out _) E); have a6 := a_ ((HSx.out.alloc _).below E); have a5 := a_ (blk_below (heap_alloc_new wx _) E); clear E; have d2 : wx.heap.size < w2.heap.size := blk_lt a5.out; have J : w2.cell? ⟨wx.heap.size, 0, none⟩ = some (.string p.f0) := q_b a5.out 0; have hlk_ := a6.out.look p.f0 (by have := HPS.out; unfold maxLen; omega) S.out) | (at_mapUpdate; refine SeenS.put a6.out p.f0 (by have := HPS.out; unfold maxLen; omega) (by have := HSL.out; have := HI.out; have := H2.out; unfold maxLen; omega) rfl _ _ _ rfl rfl rfl rfl ?_; intro w3 g1 e7))
 go_roundg gk
 case measure => omega
 case rel => exact ⟨wrap64 (x + 1), by first | rfl | simp, ⟨i + 1, seen ++ [p.f0], by have := HX.out; have := HI.out; have := H2.out; unfold wrap64; omega, by have := HI.out; omega, by rw [List.length_append, HSL.out]; rfl, c8.out, g1⟩, ⟨b8.out.grown e7 b8.out.size (fun k hk => by injection hk with hk; have := HN.out; omega)⟩, ⟨blk_grown d7.out e7 (fun h => by injection h with h; have := HN.out; omega)⟩⟩))
end Go.Proofs.YtefhpdcafdhcaaaDoor.B
end
section
namespace Go.Proofs.YtefhpdcafdhcaaaDoor.B
open Go Go.RowKit Go.Shelf Go.Proofs.YtefhpdcafdhcaaaDoorW.PrintWords Go.Proofs.YtefhpdcafdhcaaaDoorW.PrintLast Go.Proofs.YtefhpdcafdhcaaaDoorW.PrintMore Go.Proofs.YtefhpdcafdhcaaaDoor Go.Proofs.YtefhpdcafdhcaaaDoor.A Go.Proofs.YtefhpdcafdhcaaaDoor.N
set_option linter.unusedVariables false
section
variable (k : Nat) (nm : ByteArray) (ps : List S83) (ar : List S85) (rg : Int) (N : List S69)
def vIns (nl : Int) : List S71 → Bool → List Int → Option Bool
 | [], _, _ => some true
 | x :: xs, ph, ch => if -9223372036854775808 ≤ x.f2 ∧ x.f2 ≤ 9223372036854775807 then (if x.f0 = 11 ∧ (ph = false ∨ x.f2 ∈ ch) then some false else (flow_instr.f k nm ps ar rg N x.f0 x.f1 x.f2 x.f3 x.f4 x.f5 x.f6 nl).bind fun t => if t = true then vIns nl xs (ph && x.f0 == 11) (if (decide (x.f2 ∈ ch) || x.f0 == 11) = true then ch ++ [x.f2] else ch) else some false) else none
def vNds (B : List (List Int)) : Nat → Int → List S69 → Option Bool
 | _, _, [] => some true
 | i, sz, n :: ns => if n.f0.length ≤ 1000000 then (if sz + (n.f0.length : Int) > 2000 then some false else (vIns k nm ps ar rg N ((B.getD i []).length : Int) n.f0 (decide (0 < i)) []).bind fun t => if t = true then vNds B (i + 1) (sz + (n.f0.length : Int)) ns else some false) else none
def smallF : Bool := decide (nm.size ≤ 100000) && ps.all (fun p => decide (p.f0.size ≤ 100000)) && ar.all (fun p => decide (p.f0.size ≤ 100000))
def flow_Valid.f : Option Bool :=
 if N.length < 1 ∨ 2000 < N.length then some false else
 if smallF nm ps ar = true then (if headB nm ps ar rg = true then (flow_ends.f k nm ps ar rg N).bind fun t => if t = true then (flow_before.f k nm ps ar rg N).bind fun B => (if B.length = N.length then vNds k nm ps ar rg N B 0 (N.length : Int) N else none) else some false else some false) else none
end
theorem flow_Valid.calls {k : Nat} {E : ByteArray} {a2 : Option Addr} {a3 : Nat} {q : List (S83)} {a4 : Option Addr} {a5 : Nat} {z : List (S85)} {G : Int} {a6 : Option Addr} {a7 : Nat} {b : List (S69)} {r : Bool} {w : World} (d9 : q5 w a2 a3 q a4 a5 z a6 a7 b) (h : flow_Valid.f k E q z G b = some r) (hT : Tab w) :
  Calls Tryd.prog 43 #[.agg #[.string E, .slice a2 q.length a3, .slice a4 z.length a5, .int .i64 G, .slice a6 b.length a7]] w fun e w' => e = .returned (.bool r) ∧ Below w.heap.size w w' := by
 obtain ⟨J, _, L, _, R, _⟩ := q_O d9; have HT := a_ hT; clear hT; have HB := a_ (below_alloc (Below.refl w.heap.size w) (.cells #[.string E, .slice a2 q.length a3, .slice a4 z.length a5, .int .i64 G, .slice a6 b.length a7] 26 (0, 0))); unfold flow_Valid.f at h
 by_cases h1 : b.length < 1 ∨ 2000 < b.length
 {
 rw [if_pos h1] at h; obtain rfl := q_so h; clear h; by_cases h2 : b.length < 1
 {
 have c1 : decide ((b.length : Int) < 1) = true := decide_eq_true (by omega)
 have c1b : decide (b.length < 1) = true := decide_eq_true (by omega)
 clear h1 h2; go_enter Tryd.func43, Tryd.ntmps43
 go_wp2
 go_ret
 exact ⟨rfl, HB.out⟩}
 {
 have c1 : decide ((b.length : Int) < 1) = false := decide_eq_false (by omega)
 have c1b : decide (b.length < 1) = false := decide_eq_false (by omega)
 have c2 : decide ((b.length : Int) > 2000) = true := decide_eq_true (by omega)
 have c2b : decide (2000 < b.length) = true := decide_eq_true (by omega)
 clear h1 h2; go_enter Tryd.func43, Tryd.ntmps43
 go_wp2
 go_ret
 exact ⟨rfl, HB.out⟩}}
 rw [if_neg h1] at h; have c1 : decide ((b.length : Int) < 1) = false := decide_eq_false (by omega)
 have c1b : decide (b.length < 1) = false := decide_eq_false (by omega)
 have c2 : decide ((b.length : Int) > 2000) = false := decide_eq_false (by omega)
 have c2b : decide (2000 < b.length) = false := decide_eq_false (by omega)
 have HL := a_ h1; by_cases h2 : smallF E q z = true
 case neg => rw [if_neg h2] at h; cases h
 rw [if_pos h2] at h; simp only [smallF, Bool.and_eq_true, decide_eq_true_eq, List.all_eq_true] at h2
 have i1 := a_ h2.1.1; have i2 := a_ h2.1.2; have i3 := a_ h2.2; clear h1 h2; by_cases h3 : headB E q z G = true
 case neg => (
 rw [if_neg h3] at h; obtain rfl := q_so h; have HH := a_ (show headB E q z G = false by simpa using h3)
 clear h h3; go_enter Tryd.func43, Tryd.ntmps43
 go_wp2_with (first | (go_at_call 59; (with_reducible refine (flow_head.core E a2 a3 q a4 a5 z G a6 b.length a7 _ (Kd.C_below J.out HB.out) (Kd.C_below L.out HB.out) (HT.out.below HB.out) i1.out i2.out i3.out).mono ?_); rintro e w1 ⟨he_, hb_⟩; rw [HH.out] at he_; subst he_; have M := a_ (below_then HB.out HB.out.size hb_); have a1 := a_ (blk_below (heap_alloc_new w _) hb_); clear hb_; have hza_ : w.heap.size < w1.heap.size := blk_lt a1.out; obtain ⟨e5, e6, e7, e8, e9⟩ := q_c5 a1.out))
 go_ret
 exact ⟨rfl, M.out⟩)
 rw [if_pos h3] at h; have HH := a_ h3; clear h3; obtain ⟨t1, he, h⟩ := Option.bind_eq_some_iff.mp h; have HE := a_ he; clear he; cases t1 with
 | false => (
 rw [if_neg (by simp)] at h
 obtain rfl := q_so h; clear h; go_enter Tryd.func43, Tryd.ntmps43
 go_wp2_with (first | (go_at_call 59; (with_reducible refine (flow_head.core E a2 a3 q a4 a5 z G a6 b.length a7 _ (Kd.C_below J.out HB.out) (Kd.C_below L.out HB.out) (HT.out.below HB.out) i1.out i2.out i3.out).mono ?_); rintro e w1 ⟨he_, hb_⟩; rw [HH.out] at he_; subst he_; have M := a_ (below_then HB.out HB.out.size hb_); have a1 := a_ (blk_below (heap_alloc_new w _) hb_); clear hb_; have hza_ : w.heap.size < w1.heap.size := blk_lt a1.out; obtain ⟨e5, e6, e7, e8, e9⟩ := q_c5 a1.out) | (go_at_call 60; (with_reducible refine (flow_ends.calls (q_G d9 M.out) HE.out).mono ?_); rintro e w2 ⟨rfl, hb_⟩; have c3 := a_ (below_then M.out M.out.size hb_); have d0 := a_ (blk_below a1.out hb_); clear hb_; have hzb_ : w.heap.size < w2.heap.size := blk_lt d0.out; obtain ⟨g4, g5, g6, g7, g8⟩ := q_c5 d0.out))
 go_ret
 exact ⟨rfl, c3.out⟩)
 | true =>
 rw [if_pos rfl] at h; obtain ⟨B, hb, h⟩ := Option.bind_eq_some_iff.mp h; have HBF := a_ hb; clear hb; by_cases hBl : B.length = b.length
 case neg => rw [if_neg hBl] at h; cases h
 rw [if_pos hBl] at h; have HBL := a_ hBl; have HV := a_ h; have hmm := @run_makeMap Tryd.prog; clear h hBl; go_enter Tryd.func43, Tryd.ntmps43
 go_wp2_with (first | (go_at_call 59; (with_reducible refine (flow_head.core E a2 a3 q a4 a5 z G a6 b.length a7 _ (Kd.C_below J.out HB.out) (Kd.C_below L.out HB.out) (HT.out.below HB.out) i1.out i2.out i3.out).mono ?_); rintro e w1 ⟨he_, hb_⟩; rw [HH.out] at he_; subst he_; have M := a_ (below_then HB.out HB.out.size hb_); have a1 := a_ (blk_below (heap_alloc_new w _) hb_); clear hb_; have hza_ : w.heap.size < w1.heap.size := blk_lt a1.out; obtain ⟨e5, e6, e7, e8, e9⟩ := q_c5 a1.out) | (go_at_call 60; (with_reducible refine (flow_ends.calls (q_G d9 M.out) HE.out).mono ?_); rintro e w2 ⟨rfl, hb_⟩; have c3 := a_ (below_then M.out M.out.size hb_); have d0 := a_ (blk_below a1.out hb_); clear hb_; have hzb_ : w.heap.size < w2.heap.size := blk_lt d0.out; obtain ⟨g4, g5, g6, g7, g8⟩ := q_c5 d0.out) | (go_at_call 61; (with_reducible refine (flow_before.calls (q_G d9 c3.out) HBF.out).mono ?_); rintro e w3 ⟨vB, rfl, hS_, hb_⟩; obtain ⟨AB, cB, rfl, hBl_, hBC_⟩ := Kd.S_reads hS_; have HBC := a_ hBC_; clear hBC_ hS_; have k2 := a_ (below_then c3.out c3.out.size hb_); have i4 := a_ (blk_below d0.out hb_); clear hb_; have hzc_ : w.heap.size < w3.heap.size := blk_lt i4.out; obtain ⟨k3, k4, k5, k6, k7⟩ := q_c5 i4.out))
 have o6 := a_ hzc_; go_loopg [3, 36] b.length (fun gk v3 n4 wx => ∃ (sz x : Int), v3 = .int .i64 sz ∧ n4 = .int .i64 x ∧ Aside0 (∃ i : Nat, x = (i : Int) ∧ i + gk = b.length ∧ 0 ≤ sz ∧ sz ≤ 2000 ∧ vNds k E q z G b B i sz (b.drop i) = some r) ∧ Aside0 (Below w3.heap.size w3 wx))
 case atStart => exact ⟨_, 0, rfl, rfl, ⟨0, rfl, by omega, by omega, by have := HL.out; omega, HV.out⟩, ⟨Below.refl _ _⟩⟩
 case round => (
 clear c1 c1b c2 c2b hza_ hzb_ hzc_ e5 e6 e7 e8 e9 g4 g5 g6 g7 g8 k3 k4 k5 k6 k7; obtain ⟨sz, x, rfl, rfl, ⟨i, hxi, hi, g9, i0, hV⟩, HBx⟩ := hrel; obtain ⟨wx, rfl⟩ : ∃ wx : World, wx = wr := ⟨_, rfl⟩; have HX := a_ hxi; have HI := a_ hi; have HBwx := a_ (below_then k2.out k2.out.size HBx.out); have BKx := a_ (blk_below i4.out HBx.out); have hzx_ : w.heap.size < wx.heap.size := blk_lt BKx.out
 have HZX := a_ hzx_; obtain ⟨k8, k9, l4, l5, l6⟩ := q_c5 BKx.out; cases gk with
 | zero => (
 have c1 : decide (x < (B.length : Int)) = false := decide_eq_false (by have := HBL.out; omega)
 obtain rfl : r = true := by {
 rw [show i = b.length by omega, List.drop_length, vNds] at hV
 exact (q_so hV).symm}
 clear hxi hi hV g9 i0; go_wp2
 go_ret
 exact ⟨rfl, HBwx.out⟩)
 | succ gO => (
 have hil : i < b.length := by omega
 have hilB : i < B.length := by have := HBL.out; omega
 have c1 : decide (x < (B.length : Int)) = true := decide_eq_true (by omega)
 have p0 : 0 ≤ x := by omega
 have qB : x < (B.length : Int) := by omega
 have qN : x < (b.length : Int) := by omega
 obtain ⟨adN, A0, c0, e, f7, i5, i6, i7, i8, c9, hCI⟩ := at_T69 R.out x p0 qN; cases e; obtain ⟨adB, AR, cR, e, hrow, hlrow, hCR⟩ := at_L2 HBC.out x p0 qB; cases e; obtain ⟨O, hnd⟩ : ∃ O, O = rd_T69 b x := ⟨_, rfl⟩; rw [← hnd] at f7 i5 i6 i7 i8 c9 hCI
 have hndl : O = b[i] := by rw [hnd, hxi]; simp [rd_T69, hil]
 have hrl : rd_L2 B x = B.getD i [] := by rw [hxi]; simp [rd_L2]
 rw [hrl] at hrow hlrow hCR
 obtain ⟨row, hrowe⟩ : ∃ row, row = B.getD i [] := ⟨_, rfl⟩; rw [← hrowe] at hrow hlrow hCR
 have HCI := a_ hCI; have HLC := a_ c9; rw [show b.drop i = O :: b.drop (i + 1) by rw [hndl]; exact List.drop_eq_getElem_cons hil, vNds] at hV
 replace f7 := cell_old f7 HBwx.out; have l7 := cell_old f7 (below_alloc (Below.refl _ _) (.map #[] 0))
 replace hrow := cell_old hrow HBx.out; by_cases hbig : O.f0.length ≤ 1000000
 case neg => rw [if_neg hbig] at hV; cases hV
 rw [if_pos hbig] at hV; have hsum : wrap64 (sz + (O.f0.length : Int)) = sz + (O.f0.length : Int) := by unfold wrap64; omega
 have HSUM := a_ hsum; replace p0 := eq_true p0; replace qB := eq_true qB; replace qN := eq_true qN; by_cases hmx : sz + (O.f0.length : Int) > 2000
 {
 rw [if_pos hmx] at hV; obtain rfl := q_so hV; have c5 : decide (2000 < sz + (O.f0.length : Int)) = true := decide_eq_true hmx
 have c5w : decide (2000 < wrap64 (sz + (O.f0.length : Int))) = true := by rw [hsum]; exact c5
 clear hV hxi hi hmx hil hilB hnd hndl hrl hrowe hsum c9 hCI hCR hlrow i5 i6 i7 i8; go_wp2
 go_ret
 exact ⟨rfl, HBwx.out⟩}
 rw [if_neg hmx] at hV; have c5 : decide (2000 < sz + (O.f0.length : Int)) = false := decide_eq_false hmx
 have c5w : decide (2000 < wrap64 (sz + (O.f0.length : Int))) = false := by rw [hsum]; exact c5
 obtain ⟨t0, hI, hV⟩ := Option.bind_eq_some_iff.mp hV; have S := a_ hI; have g0 := a_ hV; have HSZ := a_ (show 0 ≤ sz + (O.f0.length : Int) ∧ sz + (O.f0.length : Int) ≤ 2000 by omega)
 have HBIG := a_ hbig; obtain ⟨pb, hpb⟩ : ∃ pb, pb = decide (0 < i) := ⟨_, rfl⟩; have hpx : decide (0 < x) = pb := by rw [hpb, hxi]; simp
 rw [← hpb, ← hrowe] at S; have n5 := S; clear S hI hV hxi hi hmx hil hilB hnd hndl hrl hrowe hsum c9 hCI hCR hlrow i5 i6 i7 i8 hpb g9 i0 hbig; go_wp2
 go_loopg [6, 62] O.f0.length (fun g2 v6 n6 wy => ∃ (ph : Bool) (y : Int), v6 = .bool ph ∧ n6 = .int .i64 y ∧ Aside0 (∃ (j : Nat) (ch : List Int), y = (j : Int) ∧ j + g2 = O.f0.length ∧ vIns k E q z G b (row.length : Int) (O.f0.drop j) ph ch = some t0 ∧ ChI wy wx.heap.size ch j) ∧ Aside0 (Below wx.heap.size wx wy))
 case atStart => exact ⟨pb, 0, rfl, rfl, ⟨0, [], rfl, by omega, n5.out, ChI.made wx⟩, ⟨below_alloc (Below.refl _ _) _⟩⟩
 case round => (
 clear f7 l7 hrow c5 c5w hpx hzx_ c1 p0 qB qN k8 k9 l4 l5 l6 hmm; obtain ⟨ph, y, rfl, rfl, ⟨j, ch, hyj, hj, hI, hch⟩, HBy⟩ := hrel; obtain ⟨wy, rfl⟩ : ∃ wy : World, wy = wr := ⟨_, rfl⟩; have HYJ := a_ hyj; have HJ := a_ hj; have HCh := a_ hch; have HBwy := a_ (below_then HBwx.out HBwx.out.size HBy.out); have HB3y := a_ (below_then HBx.out HBx.out.size HBy.out); have BKy := a_ (blk_below BKx.out HBy.out); have hzy_ : w.heap.size < wy.heap.size := blk_lt BKy.out
 obtain ⟨o1, o2, o3, o4, o5⟩ := q_c5 BKy.out; cases gk with
 | zero => (
 have c1 : decide (y < (O.f0.length : Int)) = false := decide_eq_false (by omega)
 have h0t : t0 = true := by {
 rw [show j = O.f0.length by omega, List.drop_length, vIns] at hI
 exact (q_so hI).symm}
 subst h0t; have hV := g0.out; rw [if_pos rfl] at hV; have n7 := a_ hV; clear hyj hj hI hch hV; have hmm := @run_makeMap Tryd.prog; go_wp2
 go_roundg gO
 case measure => omega
 case rel => exact ⟨_, wrap64 (x + 1), rfl, rfl, ⟨i + 1, by have := HX.out; have := HI.out; have := HL.out; unfold wrap64; omega, by have := HI.out; omega, by rw [HSUM.out]; exact HSZ.out.1, by rw [HSUM.out]; exact HSZ.out.2, by rw [HSUM.out]; exact n7.out⟩, HB3y⟩)
 | succ g2 => (
 have hjl : j < O.f0.length := by omega
 have c1 : decide (y < (O.f0.length : Int)) = true := decide_eq_true (by omega)
 have p0 : 0 ≤ y := by omega
 have q0 : y < (O.f0.length : Int) := by omega
 obtain ⟨adI, A6, c6, e, j3, j5, j6, j7, j8, j9, k0, I, b4⟩ := at_T71 HCI.out y p0 q0; cases e; obtain ⟨p, hp⟩ : ∃ p, p = rd_T71 O.f0 y := ⟨_, rfl⟩; rw [← hp] at j3 j5 j6 j7 j8 j9 k0 I b4
 have hpl : p = O.f0[j] := by rw [hp, hyj]; simp [rd_T71, hjl]
 have c4 := a_ b4; have c8 := a_ I; rw [show O.f0.drop j = p :: O.f0.drop (j + 1) by rw [hpl]; exact List.drop_eq_getElem_cons hjl, vIns] at hI
 replace j3 := cell_old j3 HBwy.out; replace j5 := cell_old j5 HBwy.out; replace j6 := cell_old j6 HBwy.out; replace j7 := cell_old j7 HBwy.out; replace j8 := cell_old j8 HBwy.out; replace j9 := cell_old j9 HBwy.out; replace k0 := cell_old k0 HBwy.out; replace p0 := eq_true p0; replace q0 := eq_true q0; by_cases hwf : -9223372036854775808 ≤ p.f2 ∧ p.f2 ≤ 9223372036854775807
 case neg => rw [if_neg hwf] at hI; cases hI
 rw [if_pos hwf] at hI; have HWF := a_ (wfI_of hwf.1 hwf.2); have HBb := a_ (below_alloc HBwy.out (.cells #[.int .i64 p.f0, .int .i64 p.f1, .int .i64 p.f2, .int .i64 p.f3, .int .i64 p.f4, .int .i32 p.f5, .slice A6 p.f6.length c6] 71 (0, 0))); by_cases hst : p.f0 = 11 ∧ (ph = false ∨ p.f2 ∈ ch)
 {
 rw [if_pos hst] at hI; have h0t : t0 = false := (q_so hI).symm
 subst h0t; have hV := g0.out; rw [if_neg (by simp)] at hV
 obtain rfl := q_so hV; clear hV; have g1 : (p.f0 == 11) = true := beq_iff_eq.mpr hst.1
 have q11b : decide (p.f0 = 11) = true := decide_eq_true hst.1
 cases ph with
 | false => (
 clear hyj hj hI hch hwf hst hpl hp b4 I hjl; go_wp2
 go_ret
 exact ⟨rfl, HBb.out⟩)
 | true => (
 have hd : decide (p.f2 ∈ ch) = true := decide_eq_true (hst.2.resolve_left (by simp))
 have hlk_ := (HCh.out.alloc (.cells #[.int .i64 p.f0, .int .i64 p.f1, .int .i64 p.f2, .int .i64 p.f3, .int .i64 p.f4, .int .i32 p.f5, .slice A6 p.f6.length c6] 71 (0, 0))).look p.f2 HWF.out hd; clear hyj hj hI hch hwf hst hpl hp b4 I hjl hd; go_wp2
 go_ret
 exact ⟨rfl, HBb.out⟩)}
 rw [if_neg hst] at hI; obtain ⟨t1, l9, hI⟩ := Option.bind_eq_some_iff.mp hI; have S := a_ l9; clear l9; by_cases T : p.f0 = 11
 {
 have hph : ph = true := by cases ph with
  | false => exact absurd ⟨T, .inl rfl⟩ hst
  | true => rfl
 subst hph; have hnd : p.f2 ∉ ch := fun h => hst ⟨T, .inr h⟩
 have HD := a_ (decide_eq_false hnd); have g1 : (p.f0 == 11) = true := beq_iff_eq.mpr T
 have q11b : decide (p.f0 = 11) = true := decide_eq_true T
 have hlk_ := (HCh.out.alloc (.cells #[.int .i64 p.f0, .int .i64 p.f1, .int .i64 p.f2, .int .i64 p.f3, .int .i64 p.f4, .int .i32 p.f5, .slice A6 p.f6.length c6] 71 (0, 0))).look p.f2 HWF.out HD.out; cases t1 with
 | false => (
 rw [if_neg (by simp)] at hI
 have h0t : t0 = false := (q_so hI).symm
 subst h0t; have hV := g0.out; rw [if_neg (by simp)] at hV
 obtain rfl := q_so hV; clear hV; clear hyj hj hI hch hwf hst hpl hp b4 I hjl hnd T; go_wp2_with (first | (go_at_call 62; (with_reducible refine (flow_instr.calls (q_G d9 HBb.out) (Kd.C_below c4.out HBb.out) c8.out S.out).mono ?_); rintro e w6 ⟨rfl, hb_⟩; have b9 := a_ (below_then HBb.out HBb.out.size hb_); have F := a_ (below_then (below_alloc HBy.out _) (below_alloc HBy.out _).size hb_); have N := a_ (blk_below (blk_alloc BKy.out _) hb_); have D := a_ (blk_below (heap_alloc_new wy _) hb_); have l := a_ ((HCh.out.alloc _).below hb_); clear hb_; have a8 : wy.heap.size < w6.heap.size := blk_lt D.out; obtain ⟨a9, b0, b1, b2, b3⟩ := q_c5 N.out; obtain ⟨d2, d3, d4, d5, d6, d7, d8⟩ := q_c7 D.out))
 go_ret
 exact ⟨rfl, b9.out⟩)
 | true => (
 rw [if_pos rfl, HD.out, g1] at hI; have U := a_ hI
 clear hyj hj hI hch hwf hst hpl hp b4 I hjl hnd T; go_wp2_with (first | (go_at_call 62; (with_reducible refine (flow_instr.calls (q_G d9 HBb.out) (Kd.C_below c4.out HBb.out) c8.out S.out).mono ?_); rintro e w6 ⟨rfl, hb_⟩; have b9 := a_ (below_then HBb.out HBb.out.size hb_); have F := a_ (below_then (below_alloc HBy.out _) (below_alloc HBy.out _).size hb_); have N := a_ (blk_below (blk_alloc BKy.out _) hb_); have D := a_ (blk_below (heap_alloc_new wy _) hb_); have l := a_ ((HCh.out.alloc _).below hb_); clear hb_; have a8 : wy.heap.size < w6.heap.size := blk_lt D.out; obtain ⟨a9, b0, b1, b2, b3⟩ := q_c5 N.out; obtain ⟨d2, d3, d4, d5, d6, d7, d8⟩ := q_c7 D.out; have b5 := l.out.look p.f2 HWF.out HD.out) | (at_mapUpdate; refine ChI.put l.out p.f2 HWF.out (by have := HJ.out; have := HBIG.out; unfold maxLen; omega) true (fun h_ => by cases h_) rfl _ _ _ rfl rfl rfl rfl ?_; intro w7 b6 b7))
 go_roundg g2
 case measure => omega
 case rel => exact ⟨_, wrap64 (y + 1), rfl, rfl, ⟨j + 1, _, by have := HYJ.out; have := HJ.out; have := HBIG.out; unfold wrap64; omega, by have := HJ.out; omega, U.out, b6⟩, ⟨F.out.grown b7 F.out.size (fun k_ hk_ => by injection hk_ with hk_; omega)⟩⟩)}
 {
 have g1 : (p.f0 == 11) = false := beq_eq_false_iff_ne.mpr T
 have q11b : decide (p.f0 = 11) = false := decide_eq_false T
 cases t1 with
 | false => (
 rw [if_neg (by simp)] at hI
 have h0t : t0 = false := (q_so hI).symm
 subst h0t; have hV := g0.out; rw [if_neg (by simp)] at hV
 obtain rfl := q_so hV; clear hV; clear hyj hj hI hch hwf hst hpl hp b4 I hjl T; go_wp2_with (first | (go_at_call 62; (with_reducible refine (flow_instr.calls (q_G d9 HBb.out) (Kd.C_below c4.out HBb.out) c8.out S.out).mono ?_); rintro e w6 ⟨rfl, hb_⟩; have b9 := a_ (below_then HBb.out HBb.out.size hb_); have F := a_ (below_then (below_alloc HBy.out _) (below_alloc HBy.out _).size hb_); have N := a_ (blk_below (blk_alloc BKy.out _) hb_); have D := a_ (blk_below (heap_alloc_new wy _) hb_); have l := a_ ((HCh.out.alloc _).below hb_); clear hb_; have a8 : wy.heap.size < w6.heap.size := blk_lt D.out; obtain ⟨a9, b0, b1, b2, b3⟩ := q_c5 N.out; obtain ⟨d2, d3, d4, d5, d6, d7, d8⟩ := q_c7 D.out))
 go_ret
 exact ⟨rfl, b9.out⟩)
 | true => (
 rw [if_pos rfl, g1] at hI; by_cases hd : p.f2 ∈ ch
 {
 have HD := a_ (decide_eq_true hd); rw [HD.out] at hI; have U := a_ hI
 clear hyj hj hI hch hwf hst hpl hp b4 I hjl hd T; cases ph with
 | false => (
 go_wp2_with (first | (go_at_call 62; (with_reducible refine (flow_instr.calls (q_G d9 HBb.out) (Kd.C_below c4.out HBb.out) c8.out S.out).mono ?_); rintro e w6 ⟨rfl, hb_⟩; have b9 := a_ (below_then HBb.out HBb.out.size hb_); have F := a_ (below_then (below_alloc HBy.out _) (below_alloc HBy.out _).size hb_); have N := a_ (blk_below (blk_alloc BKy.out _) hb_); have D := a_ (blk_below (heap_alloc_new wy _) hb_); have l := a_ ((HCh.out.alloc _).below hb_); clear hb_; have a8 : wy.heap.size < w6.heap.size := blk_lt D.out; obtain ⟨a9, b0, b1, b2, b3⟩ := q_c5 N.out; obtain ⟨d2, d3, d4, d5, d6, d7, d8⟩ := q_c7 D.out; have b5 := l.out.look p.f2 HWF.out HD.out) | (at_mapUpdate; refine ChI.put l.out p.f2 HWF.out (by have := HJ.out; have := HBIG.out; unfold maxLen; omega) true (fun h_ => by cases h_) rfl _ _ _ rfl rfl rfl rfl ?_; intro w7 b6 b7))
 go_roundg g2
 case measure => omega
 case rel => exact ⟨_, wrap64 (y + 1), rfl, rfl, ⟨j + 1, _, by have := HYJ.out; have := HJ.out; have := HBIG.out; unfold wrap64; omega, by have := HJ.out; omega, U.out, b6⟩, ⟨F.out.grown b7 F.out.size (fun k_ hk_ => by injection hk_ with hk_; omega)⟩⟩)
 | true => (
 go_wp2_with (first | (go_at_call 62; (with_reducible refine (flow_instr.calls (q_G d9 HBb.out) (Kd.C_below c4.out HBb.out) c8.out S.out).mono ?_); rintro e w6 ⟨rfl, hb_⟩; have b9 := a_ (below_then HBb.out HBb.out.size hb_); have F := a_ (below_then (below_alloc HBy.out _) (below_alloc HBy.out _).size hb_); have N := a_ (blk_below (blk_alloc BKy.out _) hb_); have D := a_ (blk_below (heap_alloc_new wy _) hb_); have l := a_ ((HCh.out.alloc _).below hb_); clear hb_; have a8 : wy.heap.size < w6.heap.size := blk_lt D.out; obtain ⟨a9, b0, b1, b2, b3⟩ := q_c5 N.out; obtain ⟨d2, d3, d4, d5, d6, d7, d8⟩ := q_c7 D.out; have b5 := l.out.look p.f2 HWF.out HD.out) | (at_mapUpdate; refine ChI.put l.out p.f2 HWF.out (by have := HJ.out; have := HBIG.out; unfold maxLen; omega) true (fun h_ => by cases h_) rfl _ _ _ rfl rfl rfl rfl ?_; intro w7 b6 b7))
 go_roundg g2
 case measure => omega
 case rel => exact ⟨_, wrap64 (y + 1), rfl, rfl, ⟨j + 1, _, by have := HYJ.out; have := HJ.out; have := HBIG.out; unfold wrap64; omega, by have := HJ.out; omega, U.out, b6⟩, ⟨F.out.grown b7 F.out.size (fun k_ hk_ => by injection hk_ with hk_; omega)⟩⟩)}
 {
 have HD := a_ (decide_eq_false hd); rw [HD.out] at hI; have HND := a_ hd; have U := a_ hI
 clear hyj hj hI hch hwf hst hpl hp b4 I hjl hd T; cases ph with
 | false => (
 go_wp2_with (first | (go_at_call 62; (with_reducible refine (flow_instr.calls (q_G d9 HBb.out) (Kd.C_below c4.out HBb.out) c8.out S.out).mono ?_); rintro e w6 ⟨rfl, hb_⟩; have b9 := a_ (below_then HBb.out HBb.out.size hb_); have F := a_ (below_then (below_alloc HBy.out _) (below_alloc HBy.out _).size hb_); have N := a_ (blk_below (blk_alloc BKy.out _) hb_); have D := a_ (blk_below (heap_alloc_new wy _) hb_); have l := a_ ((HCh.out.alloc _).below hb_); clear hb_; have a8 : wy.heap.size < w6.heap.size := blk_lt D.out; obtain ⟨a9, b0, b1, b2, b3⟩ := q_c5 N.out; obtain ⟨d2, d3, d4, d5, d6, d7, d8⟩ := q_c7 D.out; have b5 := l.out.look p.f2 HWF.out HD.out) | (at_mapUpdate; refine ChI.put l.out p.f2 HWF.out (by have := HJ.out; have := HBIG.out; unfold maxLen; omega) false (fun _ => HND.out) rfl _ _ _ rfl rfl rfl rfl ?_; intro w7 b6 b7))
 go_roundg g2
 case measure => omega
 case rel => exact ⟨_, wrap64 (y + 1), rfl, rfl, ⟨j + 1, _, by have := HYJ.out; have := HJ.out; have := HBIG.out; unfold wrap64; omega, by have := HJ.out; omega, U.out, b6⟩, ⟨F.out.grown b7 F.out.size (fun k_ hk_ => by injection hk_ with hk_; omega)⟩⟩)
 | true => (
 go_wp2_with (first | (go_at_call 62; (with_reducible refine (flow_instr.calls (q_G d9 HBb.out) (Kd.C_below c4.out HBb.out) c8.out S.out).mono ?_); rintro e w6 ⟨rfl, hb_⟩; have b9 := a_ (below_then HBb.out HBb.out.size hb_); have F := a_ (below_then (below_alloc HBy.out _) (below_alloc HBy.out _).size hb_); have N := a_ (blk_below (blk_alloc BKy.out _) hb_); have D := a_ (blk_below (heap_alloc_new wy _) hb_); have l := a_ ((HCh.out.alloc _).below hb_); clear hb_; have a8 : wy.heap.size < w6.heap.size := blk_lt D.out; obtain ⟨a9, b0, b1, b2, b3⟩ := q_c5 N.out; obtain ⟨d2, d3, d4, d5, d6, d7, d8⟩ := q_c7 D.out; have b5 := l.out.look p.f2 HWF.out HD.out) | (at_mapUpdate; refine ChI.put l.out p.f2 HWF.out (by have := HJ.out; have := HBIG.out; unfold maxLen; omega) false (fun _ => HND.out) rfl _ _ _ rfl rfl rfl rfl ?_; intro w7 b6 b7))
 go_roundg g2
 case measure => omega
 case rel => exact ⟨_, wrap64 (y + 1), rfl, rfl, ⟨j + 1, _, by have := HYJ.out; have := HJ.out; have := HBIG.out; unfold wrap64; omega, by have := HJ.out; omega, U.out, b6⟩, ⟨F.out.grown b7 F.out.size (fun k_ hk_ => by injection hk_ with hk_; omega)⟩⟩)})}))))
end Go.Proofs.YtefhpdcafdhcaaaDoor.B
end
section
namespace Go.Proofs.YtefhpdcafdhcaaaDoor.M
open Go Go.RowKit Go.Proofs.YtefhpdcafdhcaaaDoorW.PrintWords Go.Proofs.YtefhpdcafdhcaaaDoorW.PrintLast Go.Proofs.YtefhpdcafdhcaaaDoorW.PrintMore Go.Proofs.YtefhpdcafdhcaaaDoor Go.Proofs.YtefhpdcafdhcaaaDoor.A Go.Proofs.YtefhpdcafdhcaaaDoor.B Go.Proofs.YtefhpdcafdhcaaaDoor.N
def arrOK (a : S85) : Bool := nameB a.f0 && decide (1 ≤ a.f1) && decide (a.f1 ≤ 64)
theorem head3A_ev {ar : List S85} (h : ∀ a ∈ ar, a.f0.size ≤ 100000) (hl : ar.length < big) : ∀ (rest : List S85) (i : Nat), ar.drop i = rest → Evt (fun k => r3_Head.l1 k ar (i : Int)) (rest.all arrOK)
 | [], i, hd => by {
 have hi := drop_nil_ge hd; refine Evt.succ ?_
 simp only [r3_Head.l1]
 exact Evt.neg (by omega) (Evt.const _)}
 | a :: rest, i, hd => by {
 obtain ⟨hr, hi, b⟩ := rd85_drop hd; have hm : a ∈ ar := by rw [← List.take_append_drop i ar, hd]; simp
 refine Evt.succ ?_
 simp only [r3_Head.l1]
 refine Evt.pos (by omega) (Evt.pos (by omega) ?_)
 rw [hr]; refine Evt.bind (name_ev a.f0 (h a hm)).2 ?_
 rw [List.all_cons, arrOK, nameB]; by_cases hn : LexM.isName (bs a.f0) = true
 {
 refine Evt.pos hn ?_
 rw [show LexM.isName a.f0.data.toList = true from hn, Bool.true_and]; by_cases h1 : a.f1 < 1
 {
 refine Evt.pos h1 ?_
 rw [decide_eq_false (show ¬ 1 ≤ a.f1 by omega)]
 exact Evt.const _}
 {
 refine Evt.neg h1 ?_
 rw [decide_eq_true (show 1 ≤ a.f1 by omega), Bool.true_and]
 by_cases l : a.f1 > 64
 {
 refine Evt.pos l ?_
 rw [decide_eq_false (show ¬ a.f1 ≤ 64 by omega)]
 exact Evt.const _}
 {
 refine Evt.neg l ?_
 rw [decide_eq_true (show a.f1 ≤ 64 by omega), Bool.true_and, wrap_succ i (by unfold big at hl; omega)]
 exact head3A_ev h hl rest (i + 1) b}}}
 {
 refine Evt.neg hn ?_
 rw [show LexM.isName a.f0.data.toList = false from Bool.eq_false_iff.2 hn]; exact Evt.const _}}
theorem head3P_ev {ps : List S83} {ar : List S85} (h : ∀ a ∈ ar, a.f0.size ≤ 100000) (hp : ∀ a ∈ ps, a.f0.size ≤ 100000) (hl : ar.length < big) (b : ps.length < big) : ∀ (rest : List S83) (i : Nat), ps.drop i = rest → Evt (fun k => r3_Head.l0 k ps ar (i : Int)) (rest.all (fun p => nameB p.f0) && ar.all arrOK)
 | [], i, hd => by {
 have hi := drop_nil_ge hd; refine Evt.succ ?_
 simp only [r3_Head.l0]
 exact Evt.neg (by omega) (head3A_ev h hl ar 0 (by simp))}
 | a :: rest, i, hd => by {
 obtain ⟨hr, hi, l⟩ := rd83_drop hd; have hm : a ∈ ps := by rw [← List.take_append_drop i ps, hd]; simp
 refine Evt.succ ?_
 simp only [r3_Head.l0]
 refine Evt.pos (by omega) (Evt.pos (by omega) ?_)
 rw [hr]; refine Evt.bind (name_ev a.f0 (hp a hm)).2 ?_
 rw [List.all_cons, nameB]; by_cases hn : LexM.isName (bs a.f0) = true
 {
 refine Evt.pos hn ?_
 rw [show LexM.isName a.f0.data.toList = true from hn, Bool.true_and, wrap_succ i (by unfold big at b; omega)]
 exact head3P_ev h hp hl b rest (i + 1) l}
 {
 refine Evt.neg hn ?_
 rw [show LexM.isName a.f0.data.toList = false from Bool.eq_false_iff.2 hn]; exact Evt.const _}}
def head3 (nm : ByteArray) (ps : List S83) (ar : List S85) : Bool := nameB nm && decide (ps.length ≤ 6) && decide (ar.length ≤ 4) && (ps.all (fun p => nameB p.f0) && ar.all arrOK)
theorem head3_ev {nm : ByteArray} {ps : List S83} {ar : List S85} (hS : nm.size ≤ 100000) (h : ∀ a ∈ ar, a.f0.size ≤ 100000) (hp : ∀ a ∈ ps, a.f0.size ≤ 100000) (hl : ar.length < big) (b : ps.length < big) : Evt (fun k => r3_Head.f k nm ps ar) (head3 nm ps ar) := by
 unfold r3_Head.f head3
 refine Evt.bind (name_ev nm hS).2 ?_
 rw [nameB]; by_cases hn : LexM.isName (bs nm) = true
 {
 refine Evt.pos hn ?_
 rw [show LexM.isName nm.data.toList = true from hn, Bool.true_and]; by_cases h1 : (ps.length : Int) > 6
 {
 refine Evt.pos h1 ?_
 rw [decide_eq_false (show ¬ ps.length ≤ 6 by omega)]
 refine Evt.succ ?_
 simp only [r3_Head.j0]
 exact Evt.pos trivial (Evt.const _)}
 {
 refine Evt.neg h1 ?_
 rw [decide_eq_true (show ps.length ≤ 6 by omega), Bool.true_and]
 refine Evt.succ ?_
 simp only [r3_Head.j0]
 by_cases l : (ar.length : Int) > 4
 {
 refine Evt.pos (decide_eq_true l) ?_
 rw [decide_eq_false (show ¬ ar.length ≤ 4 by omega)]
 exact Evt.const _}
 {
 refine Evt.neg (by simpa using l) ?_
 rw [decide_eq_true (show ar.length ≤ 4 by omega), Bool.true_and]
 exact head3P_ev h hp hl b ps 0 (by simp)}}}
 {
 refine Evt.neg hn ?_
 rw [show LexM.isName nm.data.toList = false from Bool.eq_false_iff.2 hn]; refine Evt.succ ?_
 simp only [r3_Head.j0]
 exact Evt.pos trivial (Evt.const _)}
def namesOf (ps : List S83) (ar : List S85) : List ByteArray := ps.map (fun p => p.f0) ++ ar.map (fun a => a.f0)
def fresh (L : List ByteArray) : Nat → Nat → Bool
 | _, 0 => true
 | j, m + 1 => !decide (bs (L.getD j ByteArray.empty) ∈ (L.take j).map bs) && fresh L (j + 1) m
theorem fresh_ev {L : List ByteArray} (hL : L.length ≤ 1000) : ∀ (m j : Nat), j + m = L.length → Evt (fun k => r6_Heads.l2 k L (j : Int)) (fresh L j m)
 | 0, j, h => by {
 refine Evt.succ ?_
 simp only [r6_Heads.l2]
 exact Evt.neg (by omega) (Evt.const _)}
 | m + 1, j, h => by {
 refine Evt.succ ?_
 simp only [r6_Heads.l2]
 refine Evt.pos (by omega) (Evt.pos (by omega) (Evt.pos (by omega) ?_))
 rw [Int.toNat_natCast, rdOf_nat _ _ _ (by omega)]
 have hin := in_ev L[j] (L.take j) (by rw [List.length_take]; omega) (L.take j).length 0 (by omega)
 rw [List.drop_zero] at hin; refine Evt.bind (a := decide (bs L[j] ∈ (L.take j).map bs)) ?_ ?_
 {
 unfold r2_In.f
 exact hin}
 {
 rw [fresh, show L.getD j ByteArray.empty = L[j] by rw [List.getD_eq_getElem?_getD, List.getElem?_eq_getElem (by omega)]; rfl]
 by_cases hd : bs L[j] ∈ (L.take j).map bs
 ·rw [decide_eq_true hd]; exact Evt.pos rfl (Evt.const _)
 {
 rw [decide_eq_false hd]; refine Evt.neg (by simp) ?_
 rw [wrap_succ j (by omega)]
 exact fresh_ev hL m (j + 1) (by omega)}}}
theorem heads1_ev {ar : List S85} (b : List ByteArray) (h : b.length ≤ 500) (hl : ar.length ≤ 400) : ∀ (rest : List S85) (i : Nat), ar.drop i = rest → ∀ L, L.length = b.length + i → L ++ rest.map (fun a => a.f0) = b ++ ar.map (fun a => a.f0) → Evt (fun k => r6_Heads.l1 k ar L (i : Int)) (fresh (b ++ ar.map (fun a => a.f0)) 0 (b ++ ar.map (fun a => a.f0)).length)
 | [], i, hd, L, hL, he => by {
 have hi := drop_nil_ge hd; refine Evt.succ ?_
 simp only [r6_Heads.l1]
 refine Evt.neg (by omega) ?_
 rw [← he]; simp only [List.map_nil, List.append_nil]
 have : i ≤ ar.length := by {
 have := congrArg List.length he
 simp at this
 omega}
 exact fresh_ev (by omega) L.length 0 (by omega)}
 | a :: rest, i, hd, L, hL, he => by {
 obtain ⟨hr, hi, l⟩ := rd85_drop hd; refine Evt.succ ?_
 simp only [r6_Heads.l1]
 refine Evt.pos (by omega) (Evt.pos (by omega) (Evt.pos (by omega) ?_))
 rw [hr, wrap_succ i (by omega)]
 exact heads1_ev b h hl rest (i + 1) l (L ++ [a.f0]) (by simp; omega) (by rw [← he]; simp)}
theorem heads0_ev {ps : List S83} {ar : List S85} (h : ps.length ≤ 400) (hl : ar.length ≤ 400) : ∀ (rest : List S83) (i : Nat), ps.drop i = rest → ∀ L, L.length = i → L ++ rest.map (fun a => a.f0) = ps.map (fun a => a.f0) → Evt (fun k => r6_Heads.l0 k ps ar L (i : Int)) (fresh (namesOf ps ar) 0 (namesOf ps ar).length)
 | [], i, hd, L, hL, he => by {
 have hi := drop_nil_ge hd; refine Evt.succ ?_
 simp only [r6_Heads.l0]
 refine Evt.neg (by omega) ?_
 simp only [List.map_nil, List.append_nil] at he
 have := heads1_ev (ar := ar) L (by rw [he]; simp; omega) hl ar 0 (by simp) L (by omega) rfl
 unfold namesOf
 rw [← he]; exact this}
 | a :: rest, i, hd, L, hL, he => by {
 obtain ⟨hr, hi, b⟩ := rd83_drop hd; refine Evt.succ ?_
 simp only [r6_Heads.l0]
 refine Evt.pos (by omega) (Evt.pos (by omega) (Evt.pos (by omega) ?_))
 rw [hr, wrap_succ i (by omega)]
 exact heads0_ev h hl rest (i + 1) b (L ++ [a.f0]) (by simp; omega) (by rw [← he]; simp)}
def headOK (nm : ByteArray) (ps : List S83) (ar : List S85) : Bool := head3 nm ps ar && fresh (namesOf ps ar) 0 (namesOf ps ar).length
theorem heads_ev {nm : ByteArray} {ps : List S83} {ar : List S85} {N : List S69} (hs : Small nm ps ar N) : Evt (fun k => r6_Heads.f k nm ps ar) (headOK nm ps ar) := by
 have h1 := hs.sum; unfold r6_Heads.f headOK
 refine Evt.bind (head3_ev (by have := hs.name; omega) (fun a ha => by have := hs.arrs a ha; omega) (fun a ha => by have := hs.pars a ha; omega) (by unfold big; omega) (by unfold big; omega)) ?_
 by_cases h : head3 nm ps ar = true
 ·refine Evt.pos h ?_
  rw [h, Bool.true_and]; exact heads0_ev (by omega) (by omega) ps 0 (by simp) [] rfl (by simp)
 ·refine Evt.neg h ?_
  rw [Bool.eq_false_iff.2 h]; exact Evt.const _
end Go.Proofs.YtefhpdcafdhcaaaDoor.M
end
section
namespace Go.Proofs.YtefhpdcafdhcaaaDoor.M
open Go Go.RowKit Go.Proofs.YtefhpdcafdhcaaaDoorW.PrintWords Go.Proofs.YtefhpdcafdhcaaaDoorW.PrintLast Go.Proofs.YtefhpdcafdhcaaaDoorW.PrintMore Go.Proofs.YtefhpdcafdhcaaaDoor Go.Proofs.YtefhpdcafdhcaaaDoor.A Go.Proofs.YtefhpdcafdhcaaaDoor.B Go.Proofs.YtefhpdcafdhcaaaDoor.N
open FlowM (next)
theorem hasS_eq (l : List ByteArray) (s : ByteArray) : hasS l s = decide (bs s ∈ l.map bs) := by
 unfold hasS
 rw [Bool.eq_iff_iff, List.any_eq_true, decide_eq_true_eq, List.mem_map]; constructor
 ·rintro ⟨x, hx, he⟩; exact ⟨x, hx, beq_iff_eq.1 he⟩
 ·rintro ⟨x, hx, he⟩; exact ⟨x, hx, beq_iff_eq.2 he⟩
def freshR : List ByteArray → List ByteArray → Bool
 | _, [] => true
 | seen, x :: xs => !hasS seen x && freshR (seen ++ [x]) xs
theorem fresh_eq (L : List ByteArray) : ∀ (rest seen : List ByteArray), L = seen ++ rest → fresh L seen.length rest.length = freshR seen rest
 | [], seen, _ => rfl
 | x :: rest, seen, h => by {
 rw [List.length_cons, fresh, freshR, hasS_eq]; have h1 : L.getD seen.length ByteArray.empty = x := by rw [h]; simp
 have b : L.take seen.length = seen := by rw [h]; simp
 rw [h1, b]; have := fresh_eq L rest (seen ++ [x]) (by rw [h]; simp)
 rw [List.length_append, List.length_singleton] at this; rw [this]}
theorem freshR_append : ∀ (a seen b : List ByteArray), freshR seen (a ++ b) = (freshR seen a && freshR (seen ++ a) b)
 | [], seen, b => by simp [freshR]
 | x :: a, seen, b => by
  rw [List.cons_append, freshR, freshR, freshR_append a, Bool.and_assoc]; congr 2
  rw [List.append_assoc]; rfl
theorem headPs_eq : ∀ (ps : List S83) (seen : List ByteArray), headPs ps seen = if (ps.all (fun p => nameB p.f0) && freshR seen (ps.map fun p => p.f0)) = true then some (seen ++ ps.map fun p => p.f0) else none
 | [], seen => by simp [headPs, freshR]
 | p :: ps, seen => by {
 rw [headPs, List.all_cons, List.map_cons, freshR, headPs_eq ps]; by_cases h1 : nameB p.f0 = true
 {
 by_cases b : hasS seen p.f0 = false
 ·rw [if_pos ⟨h1, b⟩, h1, b]; simp only [Bool.true_and, Bool.not_false, List.append_assoc, List.singleton_append]
 {
 rw [if_neg (fun h => b h.2), show hasS seen p.f0 = true by simpa using b]
 simp}}
 {
 rw [if_neg (fun h => h1 h.1), Bool.eq_false_iff.2 h1]
 simp}}
theorem headAs_eq : ∀ (ar : List S85) (seen : List ByteArray), headAs ar seen = (ar.all arrOK && freshR seen (ar.map fun p => p.f0))
 | [], seen => by simp [headAs, freshR]
 | p :: ps, seen => by {
 rw [headAs, List.all_cons, List.map_cons, freshR, headAs_eq ps, arrOK]; by_cases h : nameB p.f0 = true ∧ hasS seen p.f0 = false ∧ 1 ≤ p.f1 ∧ p.f1 ≤ 64
 ·rw [if_pos h, h.1, h.2.1, decide_eq_true h.2.2.1, decide_eq_true h.2.2.2]; simp
 {
 rw [if_neg h]; by_cases h1 : nameB p.f0 = true
 {
 by_cases l : hasS seen p.f0 = false
 {
 by_cases q : 1 ≤ p.f1
 {
 have b : ¬ p.f1 ≤ 64 := fun b => h ⟨h1, l, q, b⟩
 rw [decide_eq_false b]; simp}
 ·rw [decide_eq_false q]; simp}
 ·rw [show hasS seen p.f0 = true by simpa using l]; simp}
 ·rw [Bool.eq_false_iff.2 h1]; simp}}
theorem head_eq (nm : ByteArray) (ps : List S83) (ar : List S85) (rg : Int) : headB nm ps ar rg = (headOK nm ps ar && (decide (0 ≤ rg) && decide (rg ≤ 2000))) := by
 have h1 : fresh (namesOf ps ar) 0 (namesOf ps ar).length = freshR [] (namesOf ps ar) := fresh_eq _ _ [] rfl
 unfold headB headOK head3
 rw [h1, headPs_eq]; unfold namesOf
 rw [freshR_append, List.nil_append]; cases hP : ps.all (fun p => nameB p.f0) with
 | false => simp
 | true => (
 cases hF : freshR [] (ps.map fun p => p.f0) with
 | false => simp
 | true => (
 rw [if_pos (show (true && true) = true from rfl)]; simp only [headAs_eq, Bool.true_and]
 cases nameB nm <;> cases decide (ps.length ≤ 6) <;> cases decide (ar.length ≤ 4) <;> cases decide (0 ≤ rg) <;> cases decide (rg ≤ 2000) <;> cases ar.all arrOK <;> cases freshR (ps.map fun p => p.f0) (ar.map fun p => p.f0) <;> rfl))
theorem rnext_r (n : S69) : r6_Next.f n.f0 n.f1 n.f2 n.f3 n.f4 = some (next n) := by
 unfold r6_Next.f next
 split <;> (try split) <;> rfl
theorem fnext_r (n : S69) : flow_next.f n.f0 n.f1 n.f2 n.f3 n.f4 = some (next n) := by
 unfold flow_next.f next
 split <;> (try split) <;> rfl
def tgt (len : Nat) (m : Int) : Bool := decide (1 ≤ m) && decide (m < (len : Int))
def endK (rg : Int) (n : S69) : Bool := if n.f1 = 0 then n.f2 == 0 && n.f4 == 0 else if n.f1 = 1 then decide (0 ≤ n.f2) && decide (n.f2 < rg) else if n.f1 = 2 then n.f2 == 0 && (n.f3 == 0 && n.f4 == 0) else false
def endOK (len : Nat) (rg : Int) (n : S69) : Bool := (next n).all (tgt len) && endK rg n
theorem rends0_ev (nm : ByteArray) (ps : List S83) (ar : List S85) (rg : Int) (N : List S69) (n : S69) (L : List Int) (hL : L.length ≤ 2) : ∀ (m i : Nat), i + m = L.length → Evt (fun k => r6_ends.l0 k L (i : Int) nm ps ar rg N n.f0 n.f1 n.f2 n.f3 n.f4) ((L.drop i).all (tgt N.length) && endK rg n)
 | 0, i, h => by {
 refine Evt.succ ?_
 simp only [r6_ends.l0]
 refine Evt.neg (by omega) ?_
 rw [List.drop_of_length_le (by omega), List.all_nil, Bool.true_and]
 by_cases l : n.f1 = 0
 {
 rw [show endK rg n = (n.f2 == 0 && n.f4 == 0) by unfold endK; rw [if_pos l]]
 refine Evt.pos l ?_
 by_cases h1 : n.f2 = 0
 ·rw [show (n.f2 == 0) = true from beq_iff_eq.2 h1, Bool.true_and]; exact Evt.pos h1 (Evt.const _)
 ·rw [show (n.f2 == 0) = false from beq_eq_false_iff_ne.2 h1]; exact Evt.neg h1 (Evt.const _)}
 {
 refine Evt.neg l ?_
 by_cases h1 : n.f1 = 1
 {
 rw [show endK rg n = (decide (0 ≤ n.f2) && decide (n.f2 < rg)) by unfold endK; rw [if_neg l, if_pos h1]]
 refine Evt.pos h1 ?_
 by_cases b : n.f2 ≥ 0
 ·rw [decide_eq_true (show 0 ≤ n.f2 from b), Bool.true_and]; exact Evt.pos b (Evt.const _)
 ·rw [decide_eq_false (show ¬ 0 ≤ n.f2 from b)]; exact Evt.neg b (Evt.const _)}
 {
 refine Evt.neg h1 ?_
 by_cases b : n.f1 = 2
 {
 rw [show endK rg n = (n.f2 == 0 && (n.f3 == 0 && n.f4 == 0)) by unfold endK; rw [if_neg l, if_neg h1, if_pos b]]
 refine Evt.pos b ?_
 by_cases p : n.f2 = 0
 {
 rw [show (n.f2 == 0) = true from beq_iff_eq.2 p, Bool.true_and]; refine Evt.pos p ?_
 by_cases q : n.f3 = 0
 ·rw [show (n.f3 == 0) = true from beq_iff_eq.2 q, Bool.true_and]; exact Evt.pos q (Evt.const _)
 ·rw [show (n.f3 == 0) = false from beq_eq_false_iff_ne.2 q]; exact Evt.neg q (Evt.const _)}
 ·rw [show (n.f2 == 0) = false from beq_eq_false_iff_ne.2 p]; exact Evt.neg p (Evt.const _)}
 ·rw [show endK rg n = false by unfold endK; rw [if_neg l, if_neg h1, if_neg b]]; exact Evt.neg b (Evt.const _)}}}
 | m + 1, i, h => by {
 have hi : i < L.length := by omega
 refine Evt.succ ?_
 simp only [r6_ends.l0]
 refine Evt.pos (by omega) (Evt.pos (by omega) ?_)
 rw [show rd L (i : Int) = L[i] by simp [rd, hi], List.drop_eq_getElem_cons hi, List.all_cons, tgt]
 by_cases h1 : L[i] < 1
 ·rw [decide_eq_false (show ¬ 1 ≤ L[i] by omega)]; exact Evt.pos h1 (Evt.const _)
 {
 rw [decide_eq_true (show 1 ≤ L[i] by omega), Bool.true_and]
 refine Evt.neg h1 ?_
 by_cases b : L[i] ≥ (N.length : Int)
 ·rw [decide_eq_false (show ¬ L[i] < (N.length : Int) by omega)]; exact Evt.pos b (Evt.const _)
 {
 rw [decide_eq_true (show L[i] < (N.length : Int) by omega), Bool.true_and, wrap_succ i (by omega)]
 exact Evt.neg b (rends0_ev nm ps ar rg N n L hL m (i + 1) (by omega))}}}
theorem next_le (n : S69) : (next n).length ≤ 2 := by unfold next; split <;> (try split) <;> simp
theorem rends_ev (nm : ByteArray) (ps : List S83) (ar : List S85) (rg : Int) (N : List S69) (n : S69) : Evt (fun k => r6_ends.f k nm ps ar rg N n.f0 n.f1 n.f2 n.f3 n.f4) (endOK N.length rg n) := by
 unfold r6_ends.f
 rw [rnext_r]; have := rends0_ev nm ps ar rg N n (next n) (next_le n) (next n).length 0 (by omega)
 exact this
end Go.Proofs.YtefhpdcafdhcaaaDoor.M
end
section
namespace Go.Proofs.YtefhpdcafdhcaaaDoor.M
open Go Go.RowKit Go.Proofs.YtefhpdcafdhcaaaDoorW.PrintWords Go.Proofs.YtefhpdcafdhcaaaDoorW.PrintLast Go.Proofs.YtefhpdcafdhcaaaDoorW.PrintMore Go.Proofs.YtefhpdcafdhcaaaDoor Go.Proofs.YtefhpdcafdhcaaaDoor.A Go.Proofs.YtefhpdcafdhcaaaDoor.B Go.Proofs.YtefhpdcafdhcaaaDoor.N
open FlowM (next)
def cnt (l : List Bool) : Nat := l.count true
theorem cnt_set : ∀ (l : List Bool) (i : Nat), i < l.length → l.getD i false = false → cnt (l.set i true) = cnt l + 1
 | [], i, h, _ => by simp at h
 | b :: l, 0, _, h => by
  simp at h
  subst h; simp [cnt]
 | b :: l, i + 1, h, p => by
  have := cnt_set l i (by simpa using h) (by simpa using p)
  simp only [cnt, List.set_cons_succ, List.count_cons] at *
  omega
theorem cnt_le (l : List Bool) : cnt l ≤ l.length := List.count_le_length
def news : List Bool → List Int → List Bool × List Int
 | seen, [] => (seen, [])
 | seen, m :: l => if rdOf false seen m = true then news seen l else ((news (seen.set m.toNat true) l).1, m :: (news (seen.set m.toNat true) l).2)
theorem news_len : ∀ (l : List Int) (seen : List Bool), (news seen l).1.length = seen.length
 | [], _ => rfl
 | m :: l, seen => by
  rw [news]; split
  ·exact news_len l seen
  ·show (news (seen.set m.toNat true) l).1.length = _
   rw [news_len l, List.length_set]
theorem news_cnt : ∀ (l : List Int) (seen : List Bool), (∀ m ∈ l, 0 ≤ m ∧ m < (seen.length : Int)) → cnt (news seen l).1 = cnt seen + (news seen l).2.length
 | [], _, _ => rfl
 | m :: l, seen, h => by {
 have hm := h m List.mem_cons_self; rw [news]; split
 ·exact news_cnt l seen (fun x hx => h x (List.mem_cons_of_mem _ hx))
 {
 rename_i hf
 show cnt (news (seen.set m.toNat true) l).1 = cnt seen + (m :: (news (seen.set m.toNat true) l).2).length
 rw [news_cnt l _ (fun x hx => by rw [List.length_set]; exact h x (List.mem_cons_of_mem _ hx)), cnt_set seen m.toNat (by omega) (by simpa [rdOf] using hf), List.length_cons]
 omega}}
theorem news_mem : ∀ (l : List Int) (seen : List Bool), ∀ x ∈ (news seen l).2, x ∈ l
 | [], _, x, h => by cases h
 | m :: l, seen, x, h => by {
 rw [news] at h; split at h
 ·exact List.mem_cons_of_mem _ (news_mem l seen x h)
 {
 rcases List.mem_cons.1 h with rfl | h
 ·exact List.mem_cons_self
 ·exact List.mem_cons_of_mem _ (news_mem l _ x h)}}
section
variable (nm : ByteArray) (ps : List S83) (ar : List S85) (rg : Int) (N : List S69)
theorem rin_ev {r : List Bool} {L : List Int} (hL : L.length ≤ 2) : ∀ (m i : Nat), i + m = L.length → ∀ (seen : List Bool) (q : List Int), (∀ x ∈ L.drop i, 0 ≤ x ∧ x < (seen.length : Int)) → q.length + m < 100000 → Evt (fun k => r6_reached.l0 k (news seen (L.drop i)).1 (q ++ (news seen (L.drop i)).2) nm ps ar rg N) r → Evt (fun k => r6_reached.l1 k seen q L (i : Int) nm ps ar rg N) r
 | 0, i, h, seen, q, _, _, he => by {
 refine Evt.succ ?_
 simp only [r6_reached.l1]
 refine Evt.neg (by omega) ?_
 rw [List.drop_of_length_le (by omega), news, List.append_nil] at he
 exact he}
 | m + 1, i, h, seen, q, hx, hq, he => by {
 have hi : i < L.length := by omega
 rw [List.drop_eq_getElem_cons hi] at he hx
 have l := hx L[i] List.mem_cons_self; refine Evt.succ ?_
 simp only [r6_reached.l1]
 refine Evt.pos (by omega) (Evt.pos (by omega) ?_)
 rw [show rd L (i : Int) = L[i] by simp [rd, hi]]
 refine Evt.pos l.1 (Evt.pos l.2 ?_)
 rw [wrap_succ i (by omega)]
 by_cases hs : rdOf false seen L[i] = true
 {
 refine Evt.pos hs (rin_ev hL m (i + 1) (by omega) seen q (fun x b => hx x (List.mem_cons_of_mem _ b)) (by omega) ?_)
 rw [news, if_pos hs] at he; exact he}
 {
 refine Evt.neg hs (Evt.pos (by omega) (rin_ev hL m (i + 1) (by omega) _ _ (fun x b => by rw [List.length_set]; exact hx x (List.mem_cons_of_mem _ b)) (by rw [List.length_append, List.length_singleton]; omega) ?_))
 rw [news, if_neg hs] at he; rw [List.append_assoc]; exact he}}
theorem fin_ev {r : Bool} {L : List Int} (hL : L.length ≤ 2) (t : Nat) (ht : t < 100000) : ∀ (m i : Nat), i + m = L.length → ∀ (seen : List Bool) (q : List Int), (∀ x ∈ L.drop i, 0 ≤ x ∧ x < (seen.length : Int)) → q.length + m < 100000 → Evt (fun k => flow_ends.l2 k (news seen (L.drop i)).1 (q ++ (news seen (L.drop i)).2) ((t + 1 : Nat) : Int) nm ps ar rg N) r → Evt (fun k => flow_ends.l3 k seen q (t : Int) L (L.length : Int) (i : Int) nm ps ar rg N) r
 | 0, i, h, seen, q, _, _, he => by {
 refine Evt.succ ?_
 simp only [flow_ends.l3]
 refine Evt.neg (by omega) ?_
 rw [List.drop_of_length_le (by omega), news, List.append_nil] at he
 rw [wrap_succ t (by omega)]
 exact he}
 | m + 1, i, h, seen, q, hx, hq, he => by {
 have hi : i < L.length := by omega
 rw [List.drop_eq_getElem_cons hi] at he hx
 have l := hx L[i] List.mem_cons_self; refine Evt.succ ?_
 simp only [flow_ends.l3]
 refine Evt.pos (by omega) (Evt.pos (by omega) (Evt.pos (by omega) ?_))
 rw [show rd L (i : Int) = L[i] by simp [rd, hi]]
 refine Evt.pos l.1 (Evt.pos l.2 ?_)
 rw [wrap_succ i (by omega)]
 by_cases hs : rdOf false seen L[i] = true
 {
 refine Evt.pos hs (fin_ev hL t ht m (i + 1) (by omega) seen q (fun x b => hx x (List.mem_cons_of_mem _ b)) (by omega) ?_)
 rw [news, if_pos hs] at he; exact he}
 {
 refine Evt.neg hs (Evt.pos (by omega) (fin_ev hL t ht m (i + 1) (by omega) _ _ (fun x b => by rw [List.length_set]; exact hx x (List.mem_cons_of_mem _ b)) (by rw [List.length_append, List.length_singleton]; omega) ?_))
 rw [news, if_neg hs] at he; rw [List.append_assoc]; exact he}}
theorem rd69_at {N : List S69} {a : Int} (b : 0 ≤ a) (h1 : a < (N.length : Int)) : rd_T69 N a ∈ N := by
 have h : a.toNat < N.length := by omega
 unfold rd_T69
 rw [List.getD_eq_getElem?_getD, List.getElem?_eq_getElem h]; exact List.getElem_mem _
variable {N}
theorem bfs_ev (hN : N.length ≤ 2000) (hT : ∀ n ∈ N, ∀ m ∈ next n, 0 ≤ m ∧ m < (N.length : Int)) : ∀ (n : Nat) (seen : List Bool) (q : List Int), (N.length - cnt seen) + q.length ≤ n → seen.length = N.length → (∀ a ∈ q, 0 ≤ a ∧ a < (N.length : Int)) → q.length ≤ cnt seen →
  ∃ S, S.length = N.length ∧ Evt (fun k => r6_reached.l0 k seen q nm ps ar rg N) S ∧ ∀ (todo : List Int) (i : Nat), todo.drop i = q → cnt seen = todo.length → i ≤ todo.length → Evt (fun k => flow_ends.l2 k seen todo (i : Int) nm ps ar rg N) (decide (cnt S = N.length))
 | n, seen, [], hn, hs, hq, hql => by {
 refine ⟨seen, hs, ?_, fun todo i hd hc hi => ?_⟩
 {
 refine Evt.succ ?_
 simp only [r6_reached.l0]
 exact Evt.neg (by simp) (Evt.const _)}
 {
 have := drop_nil_ge hd
 refine Evt.succ ?_
 simp only [flow_ends.l2]
 refine Evt.neg (by omega) ?_
 rw [show ((todo.length : Int) == (N.length : Int)) = decide (cnt seen = N.length) from by
  rw [hc, Bool.eq_iff_iff, beq_iff_eq, decide_eq_true_eq]; omega]
 exact Evt.const _}}
 | 0, seen, a :: q, hn, hs, hq, hql => by simp at hn
 | n + 1, seen, a :: q, hn, hs, hq, hql => by {
 have ha := hq a List.mem_cons_self; have hmem := rd69_at ha.1 ha.2; have hnx : ∀ x ∈ next (rd_T69 N a), 0 ≤ x ∧ x < (seen.length : Int) := fun x hx => by rw [hs]; exact hT _ hmem x hx
 have hnl := next_le (rd_T69 N a); have hcn := news_cnt (next (rd_T69 N a)) seen hnx; have hle := cnt_le (news seen (next (rd_T69 N a))).1; rw [news_len] at hle; simp only [List.length_cons] at hn hql
 obtain ⟨S, hS, hr, hf⟩ := bfs_ev hN hT n (news seen (next (rd_T69 N a))).1 (q ++ (news seen (next (rd_T69 N a))).2) (by rw [List.length_append]; omega) (by rw [news_len, hs]) (fun x hx => by
  rcases List.mem_append.1 hx with h1 | h1
  ·exact hq x (List.mem_cons_of_mem _ h1)
  ·exact hT _ hmem x (news_mem _ _ x h1)) (by
   rw [List.length_append]; omega)
 refine ⟨S, hS, ?_, fun todo i hd hc hi => ?_⟩
 {
 refine Evt.succ ?_
 simp only [r6_reached.l0]
 refine Evt.pos (by simp only [List.length_cons]; omega) (Evt.pos (by simp only [List.length_cons]; omega) ?_)
 rw [show rd (a :: q) 0 = a from rfl]; refine Evt.pos ha.1 (Evt.pos ha.2 ?_)
 rw [rnext_r]; simp only [Option.bind_some]
 refine Evt.pos (by simp only [List.length_cons]; omega) ?_
 exact rin_ev nm ps ar rg N hnl (next (rd_T69 N a)).length 0 (by omega) seen q hnx (by have := cnt_le seen; omega) hr}
 {
 have b : i < todo.length := by {
 rcases Nat.lt_or_ge i todo.length with h | h
 ·exact h
 ·rw [List.drop_of_length_le h] at hd; cases hd}
 have l := hd; rw [List.drop_eq_getElem_cons b] at l; injection l with h1 p
 have hlt : todo.length ≤ 2000 := by have := cnt_le seen; omega
 refine Evt.succ ?_
 simp only [flow_ends.l2]
 refine Evt.pos (by omega) (Evt.pos (by omega) ?_)
 rw [show rd todo (i : Int) = a by simp [rd, b, h1]]
 refine Evt.pos ha.1 (Evt.pos ha.2 ?_)
 rw [fnext_r]; simp only [Option.bind_some]
 refine fin_ev nm ps ar rg N hnl i (by omega) (next (rd_T69 N a)).length 0 (by omega) seen todo hnx (by omega) ?_
 exact hf (todo ++ (news seen (next (rd_T69 N a))).2) (i + 1) (by rw [List.drop_append_of_le_length (by omega), p]) (by rw [List.length_append, hcn, hc]) (by rw [List.length_append]; omega)}}
theorem reached_ev (b : 0 < N.length) (hN : N.length ≤ 2000) (hT : ∀ n ∈ N, ∀ m ∈ next n, 0 ≤ m ∧ m < (N.length : Int)) : ∃ S, S.length = N.length ∧ Evt (fun k => r6_reached.f k nm ps ar rg N) S ∧ Evt (fun k => flow_ends.l2 k ((List.replicate N.length false).set 0 true) [0] 0 nm ps ar rg N) (decide (cnt S = N.length)) := by
 have hc : cnt ((List.replicate N.length false).set 0 true) = 1 := by
  rw [cnt_set _ 0 (by rw [List.length_replicate]; exact b) (by rw [List.getD_eq_getElem?_getD, List.getElem?_replicate]; split <;> rfl)]
  simp [cnt, List.count_replicate]
 obtain ⟨S, hS, hr, hf⟩ := bfs_ev nm ps ar rg hN hT (N.length + 1) ((List.replicate N.length false).set 0 true) [0] (by first | (simp; done) | (simp; omega)) (by simp) (fun a ha => by rw [List.mem_singleton.1 ha]; omega) (by rw [hc]; simp)
 refine ⟨S, hS, ?_, hf [0] 0 rfl (by rw [hc]; rfl) (by simp)⟩
 unfold r6_reached.f
 refine Evt.pos (by omega) (Evt.pos (by rw [Int.toNat_natCast]; omega) ?_)
 simp only [Option.bind_some, Int.toNat_natCast]
 exact Evt.pos (by first | (simp; done) | (simp; omega)) hr
theorem tgt_iff {len : Nat} {m : Int} : tgt len m = true ↔ (1 ≤ m ∧ m < (len : Int)) := by
 unfold tgt
 rw [Bool.and_eq_true, decide_eq_true_eq, decide_eq_true_eq]
theorem fl1_ev {r : Bool} {N2 : List S69} {L : List Int} (hL : L.length ≤ 2) (t : Nat) (ht : t < 100000) (h : L.all (tgt N.length) = true → Evt (fun k => flow_ends.l0 k N2 (N2.length : Int) ((t + 1 : Nat) : Int) nm ps ar rg N) r) : ∀ (m i : Nat), i + m = L.length → (L.take i).all (tgt N.length) = true → Evt (fun k => flow_ends.l1 k N2 (N2.length : Int) (t : Int) L (L.length : Int) (i : Int) nm ps ar rg N) ((L.drop i).all (tgt N.length) && r)
 | 0, i, hm, hp => by {
 refine Evt.succ ?_
 simp only [flow_ends.l1]
 refine Evt.neg (by omega) ?_
 rw [List.drop_of_length_le (by omega), List.all_nil, Bool.true_and, wrap_succ t (by omega)]
 exact h (by rw [List.take_of_length_le (by omega)] at hp; exact hp)}
 | m + 1, i, hm, hp => by {
 have hi : i < L.length := by omega
 refine Evt.succ ?_
 simp only [flow_ends.l1]
 refine Evt.pos (by omega) (Evt.pos (by omega) (Evt.pos (by omega) ?_))
 rw [show rd L (i : Int) = L[i] by simp [rd, hi], List.drop_eq_getElem_cons hi, List.all_cons, tgt]
 by_cases h1 : L[i] < 1
 ·rw [decide_eq_false (show ¬ 1 ≤ L[i] by omega)]; exact Evt.pos h1 (Evt.const _)
 {
 rw [decide_eq_true (show 1 ≤ L[i] by omega), Bool.true_and]
 refine Evt.neg h1 ?_
 by_cases b : L[i] ≥ (N.length : Int)
 ·rw [decide_eq_false (show ¬ L[i] < (N.length : Int) by omega)]; exact Evt.pos b (Evt.const _)
 {
 rw [decide_eq_true (show L[i] < (N.length : Int) by omega), Bool.true_and, wrap_succ i (by omega)]
 exact Evt.neg b (fl1_ev hL t ht h m (i + 1) (by omega) (by
  rw [List.take_add_one, List.getElem?_eq_getElem hi, Option.toList_some, List.all_append, hp, Bool.true_and, List.all_cons, List.all_nil, Bool.and_true]; exact tgt_iff.2 ⟨by omega, by omega⟩))}}}
theorem freg_r (b : Bool) (x : Int) : flow_register.f nm ps ar rg N b x = some (if b = true then decide (0 ≤ x) && decide (x < rg) else x == 0) := by
 unfold flow_register.f
 split
 ·split
  ·rename_i h; rw [decide_eq_true h, Bool.true_and]
  ·rename_i h; rw [decide_eq_false h, Bool.false_and]
 ·rfl
theorem endK_bad {rg : Int} {n : S69} (p : ¬ n.f1 = 1) (h : ¬ (n.f2 = 0 ∧ n.f4 = 0)) : endK rg n = false := by
 unfold endK
 by_cases b : n.f1 = 0
 ·rw [if_pos b, Bool.eq_false_iff]; intro he
  rw [Bool.and_eq_true, beq_iff_eq, beq_iff_eq] at he; exact h he
 ·rw [if_neg b, if_neg p]; by_cases l : n.f1 = 2
  ·rw [if_pos l, Bool.eq_false_iff]; intro he
   rw [Bool.and_eq_true, Bool.and_eq_true, beq_iff_eq, beq_iff_eq, beq_iff_eq] at he; exact h ⟨he.1, he.2.2⟩
  ·rw [if_neg l]
theorem fj1_ev {r : Bool} {N2 : List S69} (n : S69) (t : Nat) (ht : t < 100000) (h : endOK N.length rg n = true → Evt (fun k => flow_ends.l0 k N2 (N2.length : Int) ((t + 1 : Nat) : Int) nm ps ar rg N) r) :
  Evt (fun k => if n.f1 < 0 then flow_ends.j1 k N2 (N2.length : Int) (t : Int) true nm ps ar rg N n.f0 n.f1 n.f2 n.f3 n.f4 else flow_ends.j1 k N2 (N2.length : Int) (t : Int) (decide (n.f1 > 2)) nm ps ar rg N n.f0 n.f1 n.f2 n.f3 n.f4) (endOK N.length rg n && r) := by
 have hj : ∀ b : Bool, endK rg n = b → Evt (fun k => flow_ends.j2 k N2 (N2.length : Int) (t : Int) (!b) nm ps ar rg N n.f0 n.f1 n.f2 n.f3 n.f4) (b && ((next n).all (tgt N.length) && r)) := by {
 intro b hb
 refine Evt.succ ?_
 simp only [flow_ends.j2]
 cases b with
 | false => exact Evt.pos rfl (Evt.const _)
 | true => (
 refine Evt.neg (by simp) ?_
 rw [fnext_r]; simp only [Option.bind_some, Bool.true_and]
 exact fl1_ev nm ps ar rg (next_le n) t ht (fun ha => h (by unfold endOK; rw [ha, hb]; rfl)) (next n).length 0 (by omega) rfl)}
 have hc : ∀ b : Bool, endK rg n = b → (b && ((next n).all (tgt N.length) && r)) = (endOK N.length rg n && r) := by {
 intro b hb
 unfold endOK
 rw [hb]; cases b <;> cases (next n).all (tgt N.length) <;> rfl}
 by_cases h1 : n.f1 < 0
 {
 refine Evt.pos h1 ?_
 rw [← hc false (by unfold endK; rw [if_neg (by omega), if_neg (by omega), if_neg (by omega)])]
 refine Evt.succ ?_
 simp only [flow_ends.j1]
 exact Evt.pos trivial (Evt.const _)}
 {
 refine Evt.neg h1 ?_
 refine Evt.succ ?_
 simp only [flow_ends.j1]
 by_cases z : n.f1 > 2
 {
 rw [← hc false (by unfold endK; rw [if_neg (by omega), if_neg (by omega), if_neg (by omega)])]
 exact Evt.pos (decide_eq_true z) (Evt.const _)}
 {
 refine Evt.neg (by simpa using z) ?_
 by_cases l : n.f1 = 1
 {
 refine Evt.pos l (Evt.neg (by omega) ?_)
 rw [freg_r]; simp only [Option.bind_some, if_true]
 have he : endK rg n = (decide (0 ≤ n.f2) && decide (n.f2 < rg)) := (by unfold endK; rw [if_neg (by omega), if_pos l])
 rw [← hc _ he]; exact hj _ he}
 {
 refine Evt.neg l ?_
 by_cases p : n.f2 = 0
 {
 refine Evt.pos p ?_
 by_cases q : n.f4 = 0
 {
 refine Evt.pos q ?_
 by_cases h6 : n.f1 = 2
 {
 refine Evt.pos h6 ?_
 by_cases y : n.f3 = 0
 {
 refine Evt.pos y ?_
 have he : endK rg n = true := (by unfold endK; rw [if_neg (by omega), if_neg l, if_pos h6, p, q, y]; rfl)
 rw [← hc _ he]; exact hj _ he}
 {
 refine Evt.neg y ?_
 have he : endK rg n = false := (by unfold endK; rw [if_neg (by omega), if_neg l, if_pos h6, beq_eq_false_iff_ne.2 y]; simp)
 rw [← hc _ he]; exact hj _ he}}
 {
 refine Evt.neg h6 ?_
 have he : endK rg n = true := (by unfold endK; rw [if_pos (by omega), p, q]; rfl)
 rw [← hc _ he]; exact hj _ he}}
 {
 refine Evt.neg q ?_
 have he : endK rg n = false := endK_bad l (fun h => q h.2)
 rw [← hc _ he]; exact hj _ he}}
 {
 refine Evt.neg p ?_
 have he : endK rg n = false := endK_bad l (fun h => p h.1)
 rw [← hc _ he]; exact hj _ he}}}}
theorem fends_ev {S : List Bool} (p : 0 < N.length) (hN : N.length ≤ 2000) (hr : N.all (endOK N.length rg) = true → Evt (fun k => flow_ends.l2 k ((List.replicate N.length false).set 0 true) [0] 0 nm ps ar rg N) (decide (cnt S = N.length))) :
  ∀ (rest : List S69) (i : Nat), N.drop i = rest → (N.all (endOK N.length rg) = rest.all (endOK N.length rg)) → Evt (fun k => flow_ends.l0 k N (N.length : Int) (i : Int) nm ps ar rg N) (rest.all (endOK N.length rg) && decide (cnt S = N.length))
 | [], i, hd, he => by {
 have hi := drop_nil_ge hd; refine Evt.succ ?_
 simp only [flow_ends.l0]
 refine Evt.neg (by omega) (Evt.pos (by omega) (Evt.pos (by rw [Int.toNat_natCast]; omega) ?_))
 simp only [Option.bind_some, Int.toNat_natCast]
 rw [List.all_nil, Bool.true_and]; exact Evt.pos (by simp; omega) (hr (by rw [he]; rfl))}
 | n :: rest, i, hd, he => by {
 obtain ⟨b, hi, l⟩ := rd69_drop hd; refine Evt.succ ?_
 simp only [flow_ends.l0]
 refine Evt.pos (by omega) (Evt.pos (by omega) (Evt.pos (by omega) ?_))
 rw [b, List.all_cons]; cases hb : endOK N.length rg n with
 | true => (
 have := fj1_ev nm ps ar rg n i (by omega) (fun _ => fends_ev p hN hr rest (i + 1) l (by rw [he, List.all_cons, hb, Bool.true_and]))
 rw [hb] at this; rw [Bool.and_assoc]; exact this)
 | false => (
 have := fj1_ev (r := true) nm ps ar rg n i (N2 := N) (by omega) (fun h => by rw [hb] at h; cases h)
 rw [hb] at this; rw [Bool.and_assoc, Bool.false_and]; exact this)}
end
end Go.Proofs.YtefhpdcafdhcaaaDoor.M
end
section
namespace Go.Proofs.YtefhpdcafdhcaaaDoor.M
open Go Go.RowKit Go.Proofs.YtefhpdcafdhcaaaDoorW.PrintWords Go.Proofs.YtefhpdcafdhcaaaDoorW.PrintLast Go.Proofs.YtefhpdcafdhcaaaDoorW.PrintMore Go.Proofs.YtefhpdcafdhcaaaDoor Go.Proofs.YtefhpdcafdhcaaaDoor.A Go.Proofs.YtefhpdcafdhcaaaDoor.B Go.Proofs.YtefhpdcafdhcaaaDoor.N
open FlowM (next)
def pushP (out : List (List Int)) (i m : Int) : List (List Int) := out.set m.toNat (rd_L2 out m ++ [i])
def addP (out : List (List Int)) (i : Int) : List Int → List (List Int)
 | [] => out
 | [a] => pushP out i a
 | a :: b :: _ => if b = a then pushP out i a else pushP (pushP out i a) i b
structure PInv (len : Nat) (out : List (List Int)) (i : Nat) : Prop where
 len : out.length = len
 rows : ∀ l ∈ out, l.length ≤ 2 * i ∧ ∀ x ∈ l, x < (i : Int)
theorem rdL2_mem {out : List (List Int)} {m : Int} (b : 0 ≤ m) (h1 : m < (out.length : Int)) : rd_L2 out m ∈ out := by
 have h : m.toNat < out.length := by omega
 unfold rd_L2
 rw [List.getD_eq_getElem?_getD, List.getElem?_eq_getElem h]; exact List.getElem_mem _
theorem rdL2_set {out : List (List Int)} {v : List Int} {a b : Int} (l : 0 ≤ a) (h1 : a < (out.length : Int)) (hb : 0 ≤ b) : rd_L2 (out.set a.toNat v) b = if b = a then v else rd_L2 out b := by
 unfold rd_L2
 rw [List.getD_eq_getElem?_getD, List.getElem?_set]; by_cases h : b = a
 ·rw [if_pos h, h, if_pos rfl, if_pos (by omega)]; rfl
 ·rw [if_neg h, if_neg (by omega), List.getD_eq_getElem?_getD]
theorem pushP_len (out : List (List Int)) (i m : Int) : (pushP out i m).length = out.length := List.length_set
theorem addP_len (out : List (List Int)) (i : Int) : ∀ l, (addP out i l).length = out.length
 | [] => rfl
 | [a] => pushP_len _ _ _
 | a :: b :: _ => by
  rw [addP]; split
  ·exact pushP_len _ _ _
  ·rw [pushP_len, pushP_len]
theorem addP_inv {len : Nat} {out : List (List Int)} {i : Nat} (h : PInv len out i) {l : List Int} (hl : ∀ m ∈ l, 0 ≤ m ∧ m < (len : Int)) : PInv len (addP out (i : Int) l) (i + 1) := by
 have hp : ∀ (o : List (List Int)) (c : Nat) (m : Int), o.length = len → 0 ≤ m ∧ m < (len : Int) → (∀ l ∈ o, l.length ≤ c ∧ ∀ x ∈ l, x < ((i + 1 : Nat) : Int)) → ∀ l ∈ pushP o (i : Int) m, l.length ≤ c + 1 ∧ ∀ x ∈ l, x < ((i + 1 : Nat) : Int) := by {
 intro o c m ho hm hrow l hl
 rcases List.mem_or_eq_of_mem_set hl with h1 | h1
 ·exact ⟨by have := (hrow l h1).1; omega, (hrow l h1).2⟩
 {
 have hr := hrow _ (rdL2_mem hm.1 (by rw [ho]; exact hm.2))
 rw [h1, List.length_append, List.length_singleton]; refine ⟨by omega, fun x hx => ?_⟩
 rcases List.mem_append.1 hx with q | q
 ·exact hr.2 x q
 ·rw [List.mem_singleton.1 q]; omega}}
 have p : ∀ l ∈ out, l.length ≤ 2 * i ∧ ∀ x ∈ l, x < ((i + 1 : Nat) : Int) := fun l hl => ⟨(h.rows l hl).1, fun x hx => by have := (h.rows l hl).2 x hx; omega⟩
 refine ⟨by rw [addP_len, h.len], ?_⟩
 match l, hl with
 | [], _ => exact fun l hl => ⟨by have := (p l hl).1; omega, (p l hl).2⟩
 | [a], hl => (
 have := hp out (2 * i) a h.len (hl a List.mem_cons_self) p
 exact fun l hl => ⟨by have := (this l hl).1; omega, (this l hl).2⟩)
 | a :: b :: r, hl => (
 have h1 := hp out (2 * i) a h.len (hl a List.mem_cons_self) p; rw [addP]; split
 ·exact fun l hl => ⟨by have := (h1 l hl).1; omega, (h1 l hl).2⟩
 {
 have := hp (pushP out (i : Int) a) (2 * i + 1) b (by rw [pushP_len, h.len]) (hl b (List.mem_cons_of_mem _ List.mem_cons_self)) h1
 exact fun l hl => ⟨by have := (this l hl).1; omega, (this l hl).2⟩})
section
variable (nm : ByteArray) (ps : List S83) (ar : List S85) (rg : Int) {N : List S69}
theorem rnode_ev {r : List (List Int)} {out : List (List Int)} {i : Nat} (hi : i < 100000) (h : PInv N.length out i) : ∀ (L : List Int), L.length ≤ 2 → (∀ m ∈ L, 0 ≤ m ∧ m < (N.length : Int)) → Evt (fun k => r6_Preds.l0 k (addP out (i : Int) L) ((i + 1 : Nat) : Int) nm ps ar rg N) r → Evt (fun k => r6_Preds.l1 k out (i : Int) L 0 nm ps ar rg N) r := by
 intro L hL hm he
 have hrow : ∀ m : Int, 0 ≤ m ∧ m < (N.length : Int) → (rd_L2 out m).length < 17592186044416 := fun m hm => by have := (h.rows _ (rdL2_mem hm.1 (by rw [h.len]; exact hm.2))).1; omega
 match L, hL, hm, he with
 | [], _, _, he => (
 refine Evt.succ ?_
 simp only [r6_Preds.l1]
 refine Evt.neg (by simp) ?_
 rw [wrap_succ i (by omega)]
 exact he)
 | [a], _, hm, he => (
 have ha := hm a List.mem_cons_self; refine Evt.succ ?_
 simp only [r6_Preds.l1]
 refine Evt.pos (by simp) (Evt.pos trivial (Evt.pos (by omega) ?_))
 rw [show rd [a] 0 = a from rfl]
 refine Evt.pos ha.1 (Evt.pos (by rw [h.len]; exact ha.2) (Evt.pos (hrow a ha) ?_))
 refine Evt.succ ?_
 simp only [r6_Preds.l1]
 refine Evt.neg (by simp [wrap64]) ?_
 rw [wrap_succ i (by omega)]
 exact he)
 | a :: b :: x :: l, hL, _, _ => simp at hL
 | [a, b], _, hm, he => (
 have ha := hm a List.mem_cons_self; have hb := hm b (List.mem_cons_of_mem _ List.mem_cons_self); rw [addP] at he; refine Evt.succ ?_
 simp only [r6_Preds.l1]
 refine Evt.pos (by simp) (Evt.pos trivial (Evt.pos (by omega) ?_))
 rw [show rd [a, b] 0 = a from rfl]
 refine Evt.pos ha.1 (Evt.pos (by rw [h.len]; exact ha.2) (Evt.pos (hrow a ha) ?_))
 rw [show wrap64 (0 + 1) = 1 by simp [wrap64]]
 refine Evt.succ ?_
 simp only [r6_Preds.l1]
 refine Evt.pos (by simp) (Evt.neg (by omega) (Evt.pos (by omega) (Evt.pos (by simp) ?_)))
 rw [show rd [a, b] 0 = a from rfl, show rd [a, b] 1 = b from rfl]
 by_cases hab : b = a
 focus (
 rw [if_pos hab] at he; refine Evt.pos hab ?_)
 rotate_left
 focus (
 rw [if_neg hab] at he; have hlen : (out.set a.toNat (rd_L2 out a ++ [(i : Int)])).length = N.length := by rw [List.length_set, h.len]
 refine Evt.neg hab (Evt.pos hb.1 (Evt.pos (by rw [hlen]; exact hb.2) (Evt.pos (by rw [rdL2_set ha.1 (by rw [h.len]; exact ha.2) hb.1, if_neg hab]; exact hrow b hb) ?_))))
 all_goals (
 refine Evt.succ ?_
 simp only [r6_Preds.l1]
 refine Evt.neg (by simp [wrap64]) ?_
 rw [wrap_succ i (by omega)]
 exact he))
theorem fpush_ev {r : List (List Int)} {N2 : List S69} {len t : Int} {o : List (List Int)} {i : Nat} {L : List Int} {x : Nat} {m : Int} (hx : x < L.length) (hxm : rd L (x : Int) = m) (b : 0 ≤ m) (h1 : m < (o.length : Int)) (hl : (rd_L2 o m).length < 100000) (hlt : ∀ y ∈ rd_L2 o m, y < (i : Int)) (l : x < 100)
  (he : Evt (fun k => flow_before.l1 k (pushP o (i : Int) m) (i : Int) N2 len t L (L.length : Int) ((x + 1 : Nat) : Int)) r) : Evt (fun k => flow_before.l1 k o (i : Int) N2 len t L (L.length : Int) (x : Int)) r := by
 refine Evt.succ ?_
 simp only [flow_before.l1]
 refine Evt.pos (by omega) (Evt.pos (by omega) (Evt.pos (by omega) ?_))
 rw [hxm]; refine Evt.pos b (Evt.pos h1 ?_)
 rw [wrap_succ x (by omega)]
 by_cases hz : ((rd_L2 o m).length : Int) = 0
 ·exact Evt.pos hz (Evt.pos (by omega) he)
 {
 have hw : wrap64 (((rd_L2 o m).length : Int) - 1) = (((rd_L2 o m).length - 1 : Nat) : Int) := by rw [wrap64_id (by omega) (by omega)]; omega
 refine Evt.neg hz ?_
 rw [hw]; refine Evt.pos (by omega) (Evt.pos (by omega) (Evt.neg ?_ (Evt.pos (by omega) he)))
 have hi : (rd_L2 o m).length - 1 < (rd_L2 o m).length := by omega
 rw [show rd (rd_L2 o m) (((rd_L2 o m).length - 1 : Nat) : Int) = (rd_L2 o m)[(rd_L2 o m).length - 1] by simp [rd, hi]]
 have := hlt _ (List.getElem_mem hi)
 omega}
theorem fnode_ev {r : List (List Int)} {N2 : List S69} {len : Int} {out : List (List Int)} {i : Nat} (hi : i < 40000) (h : PInv N.length out i) : ∀ (L : List Int), L.length ≤ 2 → (∀ m ∈ L, 0 ≤ m ∧ m < (N.length : Int)) → Evt (fun k => flow_before.l0 k (addP out (i : Int) L) N2 len ((i + 1 : Nat) : Int)) r → Evt (fun k => flow_before.l1 k out (i : Int) N2 len (i : Int) L (L.length : Int) 0) r := by
 intro L hL hm he
 have hrow : ∀ m : Int, 0 ≤ m ∧ m < (N.length : Int) → (rd_L2 out m).length < 100000 ∧ ∀ y ∈ rd_L2 out m, y < (i : Int) := fun m hm => by {
 have := h.rows _ (rdL2_mem hm.1 (by rw [h.len]; exact hm.2))
 exact ⟨by omega, this.2⟩}
 have hend : ∀ (o : List (List Int)) (L : List Int), Evt (fun k => flow_before.l0 k o N2 len ((i + 1 : Nat) : Int)) r → Evt (fun k => flow_before.l1 k o (i : Int) N2 len (i : Int) L (L.length : Int) (L.length : Int)) r := fun o L he => by {
 refine Evt.succ ?_
 simp only [flow_before.l1]
 refine Evt.neg (by omega) ?_
 rw [wrap_succ i (by omega)]
 exact he}
 match L, hL, hm, he with
 | [], _, _, he => exact hend out [] he
 | [a], _, hm, he => have ha := hm a List.mem_cons_self; exact fpush_ev (x := 0) (m := a) (by simp) rfl ha.1 (by rw [h.len]; exact ha.2) (hrow a ha).1 (hrow a ha).2 (by omega) (hend _ [a] he)
 | a :: b :: x :: l, hL, _, _ => simp at hL
 | [a, b], _, hm, he => (
 have ha := hm a List.mem_cons_self; have hb := hm b (List.mem_cons_of_mem _ List.mem_cons_self); have p : a < (out.length : Int) := by rw [h.len]; exact ha.2
 rw [addP] at he; refine fpush_ev (x := 0) (m := a) (by simp) rfl ha.1 p (hrow a ha).1 (hrow a ha).2 (by omega) ?_
 by_cases hab : b = a
 {
 rw [if_pos hab] at he; have hrl : rd_L2 (pushP out (i : Int) a) b = rd_L2 out a ++ [(i : Int)] := by rw [pushP, rdL2_set ha.1 p hb.1, if_pos hab]
 refine Evt.succ ?_
 simp only [flow_before.l1]
 refine Evt.pos (by simp) (Evt.pos (by omega) (Evt.pos (by simp) ?_))
 rw [show rd [a, b] ((0 + 1 : Nat) : Int) = b from rfl, hrl, List.length_append, List.length_singleton]
 have hl := (hrow a ha).1; refine Evt.pos hb.1 (Evt.pos (by rw [pushP_len, h.len]; exact hb.2) (Evt.neg (by omega) ?_))
 have hw : wrap64 ((((rd_L2 out a).length + 1 : Nat) : Int) - 1) = ((rd_L2 out a).length : Int) := by rw [wrap64_id (by omega) (by omega)]; omega
 rw [hw]; refine Evt.pos (by omega) (Evt.pos (by omega) (Evt.pos (by simp [rd]) ?_))
 rw [show wrap64 (((0 + 1 : Nat) : Int) + 1) = (([a, b] : List Int).length : Int) by simp [wrap64]]
 exact hend _ [a, b] he}
 {
 rw [if_neg hab] at he; have hrl : rd_L2 (pushP out (i : Int) a) b = rd_L2 out b := by rw [pushP, rdL2_set ha.1 p hb.1, if_neg hab]
 exact fpush_ev (x := 1) (m := b) (by simp) rfl hb.1 (by rw [pushP_len, h.len]; exact hb.2) (by rw [hrl]; exact (hrow b hb).1) (by rw [hrl]; exact (hrow b hb).2) (by omega) (hend _ [a, b] he)})
def predsP (out : List (List Int)) : Nat → List S69 → List (List Int)
 | _, [] => out
 | i, n :: rest => predsP (addP out (i : Int) (next n)) (i + 1) rest
theorem predsP_len : ∀ (rest : List S69) (out : List (List Int)) (i : Nat), (predsP out i rest).length = out.length
 | [], _, _ => rfl
 | n :: rest, out, i => by rw [predsP, predsP_len rest, addP_len]
theorem preds0_ev (hN : N.length ≤ 2000) (hT : ∀ n ∈ N, ∀ m ∈ next n, 0 ≤ m ∧ m < (N.length : Int)) : ∀ (rest : List S69) (i : Nat), N.drop i = rest → ∀ out, PInv N.length out i → Evt (fun k => r6_Preds.l0 k out (i : Int) nm ps ar rg N) (predsP out i rest) ∧ Evt (fun k => flow_before.l0 k out N (N.length : Int) (i : Int)) (predsP out i rest)
 | [], i, hd, out, _ => by {
 have hi := drop_nil_ge hd; constructor
 {
 refine Evt.succ ?_
 simp only [r6_Preds.l0]
 exact Evt.neg (by omega) (Evt.const _)}
 {
 refine Evt.succ ?_
 simp only [flow_before.l0]
 exact Evt.neg (by omega) (Evt.const _)}}
 | n :: rest, i, hd, out, hp => by {
 obtain ⟨hr, hi, b⟩ := rd69_drop hd; have hm : n ∈ N := by rw [← List.take_append_drop i N, hd]; simp
 obtain ⟨h1, l⟩ := preds0_ev hN hT rest (i + 1) b _ (addP_inv hp (hT n hm)); rw [predsP]; constructor
 {
 refine Evt.succ ?_
 simp only [r6_Preds.l0]
 refine Evt.pos (by omega) (Evt.pos (by omega) ?_)
 rw [hr, rnext_r]; simp only [Option.bind_some]
 exact rnode_ev nm ps ar rg (by omega) hp (next n) (next_le n) (hT n hm) h1}
 {
 refine Evt.succ ?_
 simp only [flow_before.l0]
 refine Evt.pos (by omega) (Evt.pos (by omega) (Evt.pos (by omega) ?_))
 rw [hr, fnext_r]; simp only [Option.bind_some]
 exact fnode_ev (by omega) hp (next n) (next_le n) (hT n hm) l}}
theorem preds_ev (hN : N.length ≤ 2000) (hT : ∀ n ∈ N, ∀ m ∈ next n, 0 ≤ m ∧ m < (N.length : Int)) : ∃ B, B.length = N.length ∧ Evt (fun k => r6_Preds.f k nm ps ar rg N) B ∧ Evt (fun k => flow_before.f k nm ps ar rg N) B := by
 obtain ⟨h1, b⟩ := preds0_ev nm ps ar rg hN hT N 0 rfl (List.replicate N.length []) ⟨List.length_replicate, fun l hl => by rw [(List.mem_replicate.1 hl).2]; simp⟩
 refine ⟨predsP (List.replicate N.length []) 0 N, by rw [predsP_len, List.length_replicate], ?_, ?_⟩
 {
 unfold r6_Preds.f
 refine Evt.pos (by omega) (Evt.pos (by rw [Int.toNat_natCast]; omega) ?_)
 simp only [Int.toNat_natCast]
 exact h1}
 {
 unfold flow_before.f
 refine Evt.pos (by omega) (Evt.pos (by rw [Int.toNat_natCast]; omega) ?_)
 simp only [Int.toNat_natCast]
 exact b}
end
end Go.Proofs.YtefhpdcafdhcaaaDoor.M
end
section
namespace Go.Proofs.YtefhpdcafdhcaaaDoor.M
open Go Go.RowKit Go.Proofs.YtefhpdcafdhcaaaDoorW.PrintWords Go.Proofs.YtefhpdcafdhcaaaDoorW.PrintLast Go.Proofs.YtefhpdcafdhcaaaDoorW.PrintMore Go.Proofs.YtefhpdcafdhcaaaDoor Go.Proofs.YtefhpdcafdhcaaaDoor.A Go.Proofs.YtefhpdcafdhcaaaDoor.B Go.Proofs.YtefhpdcafdhcaaaDoor.N
open FlowM (next hasD hasA hasB)
def regB (rg : Int) (b : Bool) (x : Int) : Bool := if b = true then decide (0 ≤ x) && decide (x < rg) else x == 0
def foldsB (op : Int) : Bool := op == 0 || op == 6 || op == 7 || op == 18 || op == 19 || op == 5
def arrayB (ps : List S83) (ar : List S85) (n : Int) : Bool := if 6 ≤ n then decide (n < 6 + (ar.length : Int)) else decide (0 ≤ n) && (decide (n < (ps.length : Int)) && (rd_T83 ps n).f1)
def paramB (ps : List S83) (n : Int) : Bool := decide (0 ≤ n) && (decide (n < (ps.length : Int)) && !(rd_T83 ps n).f1)
def barB (n : Int) : Bool := decide (0 ≤ n) && decide (n ≤ 400)
def argsB (rg : Int) (phi : Bool) (args : List Int) (preds : Int) : Bool := if phi = true then args.all (regB rg true) && ((args.length : Int) == preds) else (args.length : Int) == 0
section
variable (nm : ByteArray) (ps : List S83) (ar : List S85) (rg : Int) (N : List S69)
theorem rreg_r (b : Bool) (x : Int) : r6_reg.f b x rg = some (regB rg b x) := by
 unfold r6_reg.f regB
 split
 {
 split
 {
 rename_i h
 rw [decide_eq_true (show 0 ≤ x from h), Bool.true_and]; split
 ·rename_i l; rw [decide_eq_true l]
 ·rename_i l; rw [decide_eq_false l]}
 ·rename_i h; rw [decide_eq_false (show ¬ 0 ≤ x from h), Bool.false_and]}
 ·rfl
theorem neutral_ev (op : Int) : Evt (fun k => r1_Folds.f k op) (foldsB op) ∧ Evt (fun k => num_Folds.f k op) (foldsB op) := by
 have key : ∀ (j : Nat → Int → Bool → Option (Int × Bool)), (∀ k x b, j (k + 1) x b = if b = true then (some (0, true)) else (if x = 18 then (some (2147483647, true)) else (if x = 19 then (some ((-2147483648), true)) else (if x = 5 then (some ((-1), true)) else (some (0, false)))))) →
   Evt (fun k => (if op = 0 then (j k op (op == 0)) else (if op = 6 then (j k op (op == 6)) else (j k op (op == 7)))).bind fun bt => some bt.2) (foldsB op) := by
  intro j hj
  refine Evt.succ ?_
  simp only [hj]
  unfold foldsB
  by_cases q : op = 0
  ·subst q; exact Evt.const _
  ·by_cases h6 : op = 6
   ·subst h6; exact Evt.const _
   ·by_cases z : op = 7
    ·subst z; exact Evt.const _
    ·by_cases l : op = 18
     ·subst l; exact Evt.const _
     ·by_cases p : op = 19
      ·subst p; exact Evt.const _
      ·by_cases y : op = 5
       ·subst y; exact Evt.const _
       ·simp only [if_neg q, if_neg h6, if_neg l, if_neg p, if_neg y, beq_eq_false_iff_ne.2 q, beq_eq_false_iff_ne.2 h6, beq_eq_false_iff_ne.2 z, beq_eq_false_iff_ne.2 l, beq_eq_false_iff_ne.2 p, beq_eq_false_iff_ne.2 y]
        exact Evt.const _
 constructor
 ·have := key r1_Neutral.j0 (fun k x b => rfl)
  unfold r1_Folds.f r1_Neutral.f
  exact this
 ·have := key num_Neutral.j0 (fun k x b => rfl)
  unfold num_Folds.f num_Neutral.f
  exact this
def immB (im pa arr bar : Bool) (n : Int) : Bool := if im = true then true else if pa = true then paramB ps n else if arr = true then arrayB ps ar n else if bar = true then barB n else n == 0
def signF (fo : Bool) (ops op : Int) : Bool := if fo = true then foldsB op else if ops > 0 then decide (0 ≤ op) && decide (op < ops) else op == 0
variable {ps ar}
theorem fimm_r (_hp : ps.length ≤ 400) (ha : ar.length ≤ 400) (d a b bar arr ag fo im pa : Bool) (ops : Int) (z B C D E n : Int) (l : List Int) (hn : -2147483648 ≤ n ∧ n ≤ 2147483647) : flow_imm.f nm ps ar rg N d a b bar arr ag ops fo im pa z B C D E n l = some (immB ps ar im pa arr bar n) := by
 have hw : wrap64 n = n := wrap64_id (by omega) (by omega)
 have y : wrap64 (6 + (ar.length : Int)) = 6 + (ar.length : Int) := wrap64_id (by omega) (by omega)
 unfold flow_imm.f immB
 split
 ·rfl
 {
 split
 {
 unfold paramB
 split
 {
 rename_i h
 rw [hw, decide_eq_true (show 0 ≤ n from h), Bool.true_and]; split
 {
 rename_i p
 rw [decide_eq_true p, Bool.true_and]}
 {
 rename_i p
 rw [decide_eq_false p, Bool.false_and]}}
 {
 rename_i h
 rw [decide_eq_false (show ¬ 0 ≤ n from h), Bool.false_and]}}
 {
 split
 {
 unfold flow_array.f arrayB
 rw [hw, y]; by_cases h6 : n ≥ 6
 ·rw [if_pos h6, if_pos (show 6 ≤ n from h6)]; rfl
 {
 rw [if_neg h6, if_neg (show ¬ 6 ≤ n from h6)]; by_cases q : n ≥ 0
 {
 rw [if_pos q, decide_eq_true (show 0 ≤ n from q), Bool.true_and]; by_cases p : n < (ps.length : Int)
 ·rw [if_pos p, if_pos (show 0 ≤ n from q), if_pos p, decide_eq_true p, Bool.true_and]; rfl
 ·rw [if_neg p, decide_eq_false p, Bool.false_and]; rfl}
 ·rw [if_neg q, decide_eq_false (show ¬ 0 ≤ n from q), Bool.false_and]; rfl}}
 {
 split
 {
 unfold barB
 split
 ·rename_i h; rw [decide_eq_true (show 0 ≤ n from h), Bool.true_and]
 ·rename_i h; rw [decide_eq_false (show ¬ 0 ≤ n from h), Bool.false_and]}
 ·rfl}}}
theorem fargs_ev (preds : Int) (x : S71) (hl : x.f6.length < 100000) : ∀ (m i : Nat), i + m = x.f6.length → ∀ ok : Bool, Evt (fun k => flow_instr.l0 k preds ok x.f6 (x.f6.length : Int) (i : Int) nm ps ar rg N x.f0 x.f1 x.f2 x.f3 x.f4 x.f5 x.f6) (ok && ((x.f6.drop i).all (regB rg true) && ((x.f6.length : Int) == preds)))
 | 0, i, h, ok => by {
 refine Evt.succ ?_
 simp only [flow_instr.l0]
 refine Evt.neg (by omega) ?_
 rw [List.drop_of_length_le (by omega), List.all_nil, Bool.true_and]
 cases ok with
 | true => exact Evt.pos rfl (by rw [Bool.true_and]; exact Evt.const _)
 | false => exact Evt.neg (by simp) (Evt.const _)}
 | m + 1, i, h, ok => by {
 have hi : i < x.f6.length := by omega
 refine Evt.succ ?_
 simp only [flow_instr.l0]
 refine Evt.pos (by omega) (Evt.pos (by omega) (Evt.pos (by omega) ?_))
 rw [wrap_succ i (by omega), show rd x.f6 (i : Int) = x.f6[i] by simp [rd, hi], List.drop_eq_getElem_cons hi, List.all_cons]
 cases ok with
 | true => (
 refine Evt.pos rfl ?_
 rw [freg_r]; simp only [Option.bind_some]
 have := fargs_ev preds x hl m (i + 1) (by omega) (regB rg true x.f6[i])
 rw [Bool.true_and, Bool.and_assoc]; exact this)
 | false => (
 refine Evt.neg (by simp) ?_
 have := fargs_ev preds x hl m (i + 1) (by omega) false
 rw [Bool.false_and] at this ⊢
 exact this)}
theorem finstr_ev (hp : ps.length ≤ 400) (ha : ar.length ≤ 400) (preds : Int) (x : S71) (hl : x.f6.length < 100000) (hn : -2147483648 ≤ x.f5 ∧ x.f5 ≤ 2147483647) (d a b bar arr ag fo im pa : Bool) (ops : Int) (hf : flow_fields.f x.f0 = some (d, a, b, bar, arr, ag, ops, fo, im, pa, true)) :
  Evt (fun k => flow_instr.f k nm ps ar rg N x.f0 x.f1 x.f2 x.f3 x.f4 x.f5 x.f6 preds) (regB rg d x.f2 && (regB rg a x.f3 && (regB rg b x.f4 && (immB ps ar im pa arr bar x.f5 && (signF fo ops x.f1 && argsB rg ag x.f6 preds))))) := by
 have l : ∀ ok : Bool, Evt (fun k => flow_instr.j1 k preds ok nm ps ar rg N x.f0 x.f1 x.f2 x.f3 x.f4 x.f5 x.f6 d a b bar arr ag ops fo im pa) (ok && argsB rg ag x.f6 preds) := by {
 intro ok
 refine Evt.succ ?_
 simp only [flow_instr.j1]
 unfold argsB
 cases ag with
 | true => (
 refine Evt.pos rfl ?_
 have := fargs_ev (ps := ps) (ar := ar) nm rg N preds x hl x.f6.length 0 (by omega) ok
 rw [List.drop_zero] at this; exact this)
 | false => (
 refine Evt.neg (by simp) ?_
 cases ok with
 | true => exact Evt.pos rfl (Evt.const _)
 | false => exact Evt.neg (by simp) (Evt.const _))}
 have hbad : Evt (fun k => flow_instr.j0 k preds true nm ps ar rg N x.f0 x.f1 x.f2 x.f3 x.f4 x.f5 x.f6 d a b bar arr ag ops fo im pa) false := by {
 refine Evt.succ ?_
 simp only [flow_instr.j0]
 exact Evt.pos trivial (Evt.const _)}
 have hgood : Evt (fun k => flow_instr.j0 k preds false nm ps ar rg N x.f0 x.f1 x.f2 x.f3 x.f4 x.f5 x.f6 d a b bar arr ag ops fo im pa) (signF fo ops x.f1 && argsB rg ag x.f6 preds) := by {
 refine Evt.succ ?_
 simp only [flow_instr.j0]
 refine Evt.neg (by simp) ?_
 unfold signF
 cases fo with
 | true => exact Evt.pos rfl (Evt.bind (neutral_ev x.f1).2 (l _))
 | false => (
 refine Evt.neg (by simp) ?_
 rw [if_neg (by simp)]
 by_cases ho : ops > 0
 {
 rw [if_pos ho]; refine Evt.pos ho ?_
 by_cases p : x.f1 ≥ 0
 ·rw [decide_eq_true (show 0 ≤ x.f1 from p), Bool.true_and]; exact Evt.pos p (l _)
 {
 rw [decide_eq_false (show ¬ 0 ≤ x.f1 from p), Bool.false_and, Bool.false_and]; refine Evt.neg p ?_
 have := l false
 rw [Bool.false_and] at this; exact this}}
 ·rw [if_neg ho]; exact Evt.neg ho (l _))}
 unfold flow_instr.f
 rw [hf]; simp only [Option.bind_some]
 refine Evt.pos trivial ?_
 rw [freg_r, freg_r, freg_r, fimm_r nm rg N hp ha d a b bar arr ag fo im pa ops x.f0 x.f1 x.f2 x.f3 x.f4 x.f5 x.f6 hn]; simp only [Option.bind_some]
 rw [show (if d = true then decide (0 ≤ x.f2) && decide (x.f2 < rg) else x.f2 == 0) = regB rg d x.f2 from rfl, show (if a = true then decide (0 ≤ x.f3) && decide (x.f3 < rg) else x.f3 == 0) = regB rg a x.f3 from rfl, show (if b = true then decide (0 ≤ x.f4) && decide (x.f4 < rg) else x.f4 == 0) = regB rg b x.f4 from rfl]
 cases regB rg d x.f2 with
 | false => exact Evt.neg (by simp) (by rw [Bool.false_and]; exact hbad)
 | true => (
 refine Evt.pos rfl ?_
 rw [Bool.true_and]; cases regB rg a x.f3 with
 | false => exact Evt.neg (by simp) (by rw [Bool.false_and]; exact hbad)
 | true => (
 refine Evt.pos rfl ?_
 rw [Bool.true_and]; cases regB rg b x.f4 with
 | false => exact Evt.neg (by simp) (by rw [Bool.false_and]; exact hbad)
 | true => (
 refine Evt.pos rfl ?_
 rw [Bool.true_and]; cases immB ps ar im pa arr bar x.f5 with
 | false => rw [Bool.false_and]; exact hbad
 | true => rw [Bool.true_and]; exact hgood)))
end
end Go.Proofs.YtefhpdcafdhcaaaDoor.M
end
section
namespace Go.Proofs.YtefhpdcafdhcaaaDoor.M
open Go Go.RowKit Go.Proofs.YtefhpdcafdhcaaaDoorW.PrintWords Go.Proofs.YtefhpdcafdhcaaaDoorW.PrintLast Go.Proofs.YtefhpdcafdhcaaaDoorW.PrintMore Go.Proofs.YtefhpdcafdhcaaaDoor Go.Proofs.YtefhpdcafdhcaaaDoor.A Go.Proofs.YtefhpdcafdhcaaaDoor.B Go.Proofs.YtefhpdcafdhcaaaDoor.N
open FlowM (next hasD hasA hasB)
def signB (h op : Int) : Bool := if h = 1 then decide (0 ≤ op) && decide (op < 3) else if h = 2 then decide (0 ≤ op) && decide (op < 20) else if h = 3 then decide (0 ≤ op) && decide (op < 4) else if h = 4 then foldsB op else op == 0
def wordB (ps : List S83) (ar : List S85) (wh n : Int) : Bool := if wh = 0 then paramB ps n else if wh = 1 then arrayB ps ar n else if wh = 2 then barB n else if wh = 3 then true else n == 0
theorem sign_ev (h op : Int) : Evt (fun k => r6_Sign.f k h op) (signB h op) := by
 have two : ∀ c : Int, (if op ≥ 0 then (some (decide (op < c))) else (some false)) = some (decide (0 ≤ op) && decide (op < c)) := fun c => by {
 by_cases p : op ≥ 0
 ·rw [if_pos p, decide_eq_true (show 0 ≤ op from p), Bool.true_and]
 ·rw [if_neg p, decide_eq_false (show ¬ 0 ≤ op from p), Bool.false_and]}
 unfold r6_Sign.f r1_IsUnary.f r1_IsBinary.f
 rw [two 3, two 20, two 4]; by_cases h1 : h = 1
 {
 rw [show signB h op = (decide (0 ≤ op) && decide (op < 3)) by unfold signB; rw [if_pos h1]]
 exact Evt.pos h1 (Evt.const _)}
 {
 refine Evt.neg h1 ?_
 by_cases b : h = 2
 {
 rw [show signB h op = (decide (0 ≤ op) && decide (op < 20)) by unfold signB; rw [if_neg h1, if_pos b]]
 exact Evt.pos b (Evt.const _)}
 {
 refine Evt.neg b ?_
 by_cases l : h = 3
 {
 rw [show signB h op = (decide (0 ≤ op) && decide (op < 4)) by unfold signB; rw [if_neg h1, if_neg b, if_pos l]]
 exact Evt.pos l (Evt.const _)}
 {
 refine Evt.neg l ?_
 by_cases q : h = 4
 {
 rw [show signB h op = foldsB op by unfold signB; rw [if_neg h1, if_neg b, if_neg l, if_pos q]]
 exact Evt.pos q (Evt.bind (neutral_ev op).1 (Evt.const _))}
 {
 rw [show signB h op = (op == 0) by unfold signB; rw [if_neg h1, if_neg b, if_neg l, if_neg q]]
 exact Evt.neg q (Evt.const _)}}}}
theorem word_r {ps : List S83} {ar : List S85} (hp : ps.length ≤ 6) (ha : ar.length ≤ 400) (wh n : Int) (hn : -2147483648 ≤ n ∧ n ≤ 2147483647) : r6_Word.f wh n ps ar = some (wordB ps ar wh n) := by
 have hw : wrap64 n = n := wrap64_id (by omega) (by omega)
 have q : wrap64 (6 + (ar.length : Int)) = 6 + (ar.length : Int) := wrap64_id (by omega) (by omega)
 unfold r6_Word.f wordB
 rw [hw, q]; by_cases w0 : wh = 0
 {
 rw [if_pos w0, if_pos w0]; unfold paramB
 by_cases b : n ≥ 0
 {
 rw [if_pos b, decide_eq_true (show 0 ≤ n from b), Bool.true_and]; by_cases l : n < (ps.length : Int)
 ·rw [if_pos l, if_pos (show 0 ≤ n from b), if_pos l, decide_eq_true l, Bool.true_and]
 ·rw [if_neg l, decide_eq_false l, Bool.false_and]}
 ·rw [if_neg b, decide_eq_false (show ¬ 0 ≤ n from b), Bool.false_and]}
 {
 rw [if_neg w0, if_neg w0]; by_cases w1 : wh = 1
 {
 rw [if_pos w1, if_pos w1]; unfold arrayB
 by_cases b : n ≥ 0
 {
 rw [if_pos b, decide_eq_true (show 0 ≤ n from b), Bool.true_and]; by_cases l : n < (ps.length : Int)
 {
 rw [if_pos l, if_pos (show 0 ≤ n from b), if_pos l, if_neg (show ¬ 6 ≤ n by omega), decide_eq_true l, Bool.true_and, if_neg (show ¬ n ≥ 6 by omega)]
 cases (rd_T83 ps n).f1 <;> rfl}
 {
 rw [if_neg l, decide_eq_false l, Bool.false_and]; by_cases h6 : n ≥ 6
 ·rw [if_pos h6, if_pos (show 6 ≤ n from h6)]
 ·rw [if_neg h6, if_neg (show ¬ 6 ≤ n from h6)]}}
 ·rw [if_neg b, if_neg (show ¬ n ≥ 6 by omega), if_neg (show ¬ 6 ≤ n by omega), decide_eq_false (show ¬ 0 ≤ n from b), Bool.false_and]}
 {
 rw [if_neg w1, if_neg w1]; by_cases p : wh = 2
 {
 rw [if_pos p, if_pos p]; unfold barB
 by_cases b : n ≥ 0
 ·rw [if_pos b, decide_eq_true (show 0 ≤ n from b), Bool.true_and]
 ·rw [if_neg b, decide_eq_false (show ¬ 0 ≤ n from b), Bool.false_and]}
 ·rw [if_neg p, if_neg p]; split <;> rfl}}
section
variable (nm : ByteArray) {ps : List S83} {ar : List S85} (rg : Int) (N : List S69)
theorem rargs_ev (preds : Int) (x : S71) (hl : x.f6.length < 100000) : ∀ (m i : Nat), i + m = x.f6.length → Evt (fun k => r6_instr.l0 k preds (i : Int) nm ps ar rg N x.f0 x.f1 x.f2 x.f3 x.f4 x.f5 x.f6) ((x.f6.drop i).all (regB rg true) && ((x.f6.length : Int) == preds))
 | 0, i, h => by {
 refine Evt.succ ?_
 simp only [r6_instr.l0]
 refine Evt.neg (by omega) ?_
 rw [List.drop_of_length_le (by omega), List.all_nil, Bool.true_and]
 exact Evt.const _}
 | m + 1, i, h => by {
 have hi : i < x.f6.length := by omega
 refine Evt.succ ?_
 simp only [r6_instr.l0]
 refine Evt.pos (by omega) (Evt.pos (by omega) ?_)
 rw [wrap_succ i (by omega), show rd x.f6 (i : Int) = x.f6[i] by simp [rd, hi], List.drop_eq_getElem_cons hi, List.all_cons]
 rw [show regB rg true x.f6[i] = (decide (0 ≤ x.f6[i]) && decide (x.f6[i] < rg)) from rfl]
 by_cases h1 : x.f6[i] < 0
 ·rw [decide_eq_false (show ¬ 0 ≤ x.f6[i] by omega)]; exact Evt.pos h1 (Evt.const _)
 {
 rw [decide_eq_true (show 0 ≤ x.f6[i] by omega), Bool.true_and]
 refine Evt.neg h1 ?_
 by_cases b : x.f6[i] ≥ rg
 ·rw [decide_eq_false (show ¬ x.f6[i] < rg by omega)]; exact Evt.pos b (Evt.const _)
 {
 rw [decide_eq_true (show x.f6[i] < rg by omega), Bool.true_and]
 exact Evt.neg b (rargs_ev preds x hl m (i + 1) (by omega))}}}
theorem rinstr_ev (hp : ps.length ≤ 6) (ha : ar.length ≤ 400) (preds : Int) (x : S71) (hl : x.f6.length < 100000) (hn : -2147483648 ≤ x.f5 ∧ x.f5 ≤ 2147483647) (hk : 0 ≤ x.f0 ∧ x.f0 ≤ 11) (d a b : Bool) (h wh : Int) (hH : Evt (fun k => r6_Has.f k x.f0) (d, a, b)) (hh : r6_how.f x.f0 = some h) (hw : Evt (fun k => r6_what.f k x.f0) wh) :
  Evt (fun k => r6_instr.f k nm ps ar rg N x.f0 x.f1 x.f2 x.f3 x.f4 x.f5 x.f6 preds) (regB rg d x.f2 && (regB rg a x.f3 && (regB rg b x.f4 && (wordB ps ar wh x.f5 && (signB h x.f1 && argsB rg (x.f0 == 11) x.f6 preds))))) := by
 have hbad : Evt (fun k => r6_instr.j1 k preds true nm ps ar rg N x.f0 x.f1 x.f2 x.f3 x.f4 x.f5 x.f6) false := by {
 refine Evt.succ ?_
 simp only [r6_instr.j1]
 exact Evt.pos trivial (Evt.const _)}
 have hgood : Evt (fun k => r6_instr.j1 k preds false nm ps ar rg N x.f0 x.f1 x.f2 x.f3 x.f4 x.f5 x.f6) (argsB rg (x.f0 == 11) x.f6 preds) := by {
 refine Evt.succ ?_
 simp only [r6_instr.j1]
 refine Evt.neg (by simp) ?_
 unfold argsB
 by_cases l : x.f0 = 11
 {
 rw [if_pos (beq_iff_eq.2 l)]; refine Evt.pos l ?_
 have := rargs_ev (ps := ps) (ar := ar) nm rg N preds x hl x.f6.length 0 (by omega)
 rw [List.drop_zero] at this; exact this}
 {
 rw [if_neg (by simpa using l)]
 exact Evt.neg l (Evt.const _)}}
 unfold r6_instr.f
 refine Evt.neg (by omega) ?_
 refine Evt.succ ?_
 simp only [r6_instr.j0]
 refine Evt.neg (by simp; omega) ?_
 refine Evt.bind hH ?_
 rw [rreg_r, rreg_r, rreg_r]; simp only [Option.bind_some]
 cases regB rg d x.f2 with
 | false => exact Evt.neg (by simp) (by rw [Bool.false_and]; exact hbad)
 | true => (
 refine Evt.pos rfl ?_
 rw [Bool.true_and]; cases regB rg a x.f3 with
 | false => exact Evt.neg (by simp) (by rw [Bool.false_and]; exact hbad)
 | true => (
 refine Evt.pos rfl ?_
 rw [Bool.true_and]; cases regB rg b x.f4 with
 | false => exact Evt.neg (by simp) (by rw [Bool.false_and]; exact hbad)
 | true => (
 refine Evt.pos rfl ?_
 rw [Bool.true_and, hh]; simp only [Option.bind_some]
 refine Evt.bind (sign_ev h x.f1) ?_
 cases signB h x.f1 with
 | false => exact Evt.neg (by simp) (by rw [Bool.false_and, Bool.and_false]; exact hbad)
 | true => (
 refine Evt.pos rfl (Evt.bind hw ?_)
 rw [word_r hp ha wh x.f5 hn, Bool.true_and]; simp only [Option.bind_some]
 cases wordB ps ar wh x.f5 with
 | false => rw [Bool.false_and]; exact hbad
 | true => rw [Bool.true_and]; exact hgood))))
theorem has_ev {b : Int} (l : 0 ≤ b) (h1 : b ≤ 11) : Evt (fun k => r6_Has.f k b) (hasD b, hasA b, hasB b) := by
 rcases FlowM.kinds l h1 with e | e | e | e | e | e | e | e | e | e | e | e <;> subst e <;> exact Evt.succ (Evt.succ (Evt.const _))
theorem what_ev {b : Int} (l : 0 ≤ b) (h1 : b ≤ 11) : ∃ wh, Evt (fun k => r6_what.f k b) wh ∧ wh = (if b = 0 then 3 else if b = 5 then 0 else if b = 6 ∨ b = 7 ∨ b = 8 then 1 else if b = 9 ∨ b = 10 then 2 else 4) := by
 rcases FlowM.kinds l h1 with e | e | e | e | e | e | e | e | e | e | e | e <;> subst e <;> exact ⟨_, Evt.succ (Evt.const _), rfl⟩
theorem regB_true {rg x : Int} (h : regB rg true x = true) : 0 ≤ x ∧ x < rg := by
 unfold regB at h
 rw [if_pos rfl, Bool.and_eq_true, decide_eq_true_eq, decide_eq_true_eq] at h; exact h
def FineA (m : Nat) (x : S71) : Prop := FlowM.Fine m x ∧ (x.f0 ≠ 11 → x.f6 = [])
theorem instr_ev (hp : ps.length ≤ 6) (ha : ar.length ≤ 400) (hrg : 0 ≤ rg) (preds : Int) (x : S71) (hl : x.f6.length < 100000) (hn : -2147483648 ≤ x.f5 ∧ x.f5 ≤ 2147483647) :
  ∃ b, Evt (fun k => r6_instr.f k nm ps ar rg N x.f0 x.f1 x.f2 x.f3 x.f4 x.f5 x.f6 preds) b ∧ Evt (fun k => flow_instr.f k nm ps ar rg N x.f0 x.f1 x.f2 x.f3 x.f4 x.f5 x.f6 preds) b ∧ (b = true → FineA rg.toNat x) := by
 by_cases hk : 0 ≤ x.f0 ∧ x.f0 ≤ 11
 {
 have hfine : ∀ c e : Bool, (regB rg (hasD x.f0) x.f2 && (regB rg (hasA x.f0) x.f3 && (regB rg (hasB x.f0) x.f4 && (c && (e && argsB rg (x.f0 == 11) x.f6 preds))))) = true → FineA rg.toNat x := by {
 intro c e hc
 simp only [Bool.and_eq_true] at hc
 refine ⟨⟨hk.1, hk.2, fun hd => ?_, fun hd => ?_, fun hd => ?_⟩, fun p => ?_⟩
 ·have h1 := hc.1; rw [hd] at h1; have := regB_true h1; omega
 ·have h1 := hc.2.1; rw [hd] at h1; have := regB_true h1; omega
 ·have h1 := hc.2.2.1; rw [hd] at h1; have := regB_true h1; omega
 {
 have h1 := hc.2.2.2.2.2; rw [beq_eq_false_iff_ne.2 p] at h1; unfold argsB at h1
 rw [if_neg (by simp), beq_iff_eq] at h1
 exact List.length_eq_zero_iff.1 (by omega)}}
 obtain ⟨wh, hw, hwe⟩ := what_ev hk.1 hk.2; have hH := has_ev hk.1 hk.2; rcases FlowM.kinds hk.1 hk.2 with e | e | e | e | e | e | e | e | e | e | e | e
 {
 have l : wh = 3 := by rw [hwe, e]; rfl
 subst l; have R := rinstr_ev (ps := ps) (ar := ar) nm rg N hp ha preds x hl hn hk (hasD x.f0) (hasA x.f0) (hasB x.f0) 0 3 hH (by rw [e]; rfl) hw
 have F := finstr_ev (ps := ps) (ar := ar) nm rg N (Nat.le_trans hp (by omega)) ha preds x hl hn true false false false false false false true false 0 (by rw [e]; rfl)
 refine ⟨_, R, ?_, hfine _ _⟩
 rw [show hasD x.f0 = true by rw [e]; rfl, show hasA x.f0 = false by rw [e]; rfl, show hasB x.f0 = false by rw [e]; rfl, show (x.f0 == 11) = false by rw [e]; rfl]
 exact F}
 {
 have l : wh = 4 := by rw [hwe, e]; rfl
 subst l; have R := rinstr_ev (ps := ps) (ar := ar) nm rg N hp ha preds x hl hn hk (hasD x.f0) (hasA x.f0) (hasB x.f0) 0 4 hH (by rw [e]; rfl) hw
 have F := finstr_ev (ps := ps) (ar := ar) nm rg N (Nat.le_trans hp (by omega)) ha preds x hl hn true true false false false false false false false 0 (by rw [e]; rfl)
 refine ⟨_, R, ?_, hfine _ _⟩
 rw [show hasD x.f0 = true by rw [e]; rfl, show hasA x.f0 = true by rw [e]; rfl, show hasB x.f0 = false by rw [e]; rfl, show (x.f0 == 11) = false by rw [e]; rfl]
 exact F}
 {
 have l : wh = 4 := by rw [hwe, e]; rfl
 subst l; have R := rinstr_ev (ps := ps) (ar := ar) nm rg N hp ha preds x hl hn hk (hasD x.f0) (hasA x.f0) (hasB x.f0) 1 4 hH (by rw [e]; rfl) hw
 have F := finstr_ev (ps := ps) (ar := ar) nm rg N (Nat.le_trans hp (by omega)) ha preds x hl hn true true false false false false false false false 3 (by rw [e]; rfl)
 refine ⟨_, R, ?_, hfine _ _⟩
 rw [show hasD x.f0 = true by rw [e]; rfl, show hasA x.f0 = true by rw [e]; rfl, show hasB x.f0 = false by rw [e]; rfl, show (x.f0 == 11) = false by rw [e]; rfl]
 exact F}
 {
 have l : wh = 4 := by rw [hwe, e]; rfl
 subst l; have R := rinstr_ev (ps := ps) (ar := ar) nm rg N hp ha preds x hl hn hk (hasD x.f0) (hasA x.f0) (hasB x.f0) 2 4 hH (by rw [e]; rfl) hw
 have F := finstr_ev (ps := ps) (ar := ar) nm rg N (Nat.le_trans hp (by omega)) ha preds x hl hn true true true false false false false false false 20 (by rw [e]; rfl)
 refine ⟨_, R, ?_, hfine _ _⟩
 rw [show hasD x.f0 = true by rw [e]; rfl, show hasA x.f0 = true by rw [e]; rfl, show hasB x.f0 = true by rw [e]; rfl, show (x.f0 == 11) = false by rw [e]; rfl]
 exact F}
 {
 have l : wh = 4 := by rw [hwe, e]; rfl
 subst l; have R := rinstr_ev (ps := ps) (ar := ar) nm rg N hp ha preds x hl hn hk (hasD x.f0) (hasA x.f0) (hasB x.f0) 3 4 hH (by rw [e]; rfl) hw
 have F := finstr_ev (ps := ps) (ar := ar) nm rg N (Nat.le_trans hp (by omega)) ha preds x hl hn true false false false false false false false false 4 (by rw [e]; rfl)
 refine ⟨_, R, ?_, hfine _ _⟩
 rw [show hasD x.f0 = true by rw [e]; rfl, show hasA x.f0 = false by rw [e]; rfl, show hasB x.f0 = false by rw [e]; rfl, show (x.f0 == 11) = false by rw [e]; rfl]
 exact F}
 {
 have l : wh = 0 := by rw [hwe, e]; rfl
 subst l; have R := rinstr_ev (ps := ps) (ar := ar) nm rg N hp ha preds x hl hn hk (hasD x.f0) (hasA x.f0) (hasB x.f0) 0 0 hH (by rw [e]; rfl) hw
 have F := finstr_ev (ps := ps) (ar := ar) nm rg N (Nat.le_trans hp (by omega)) ha preds x hl hn true false false false false false false false true 0 (by rw [e]; rfl)
 refine ⟨_, R, ?_, hfine _ _⟩
 rw [show hasD x.f0 = true by rw [e]; rfl, show hasA x.f0 = false by rw [e]; rfl, show hasB x.f0 = false by rw [e]; rfl, show (x.f0 == 11) = false by rw [e]; rfl]
 exact F}
 {
 have l : wh = 1 := by rw [hwe, e]; rfl
 subst l; have R := rinstr_ev (ps := ps) (ar := ar) nm rg N hp ha preds x hl hn hk (hasD x.f0) (hasA x.f0) (hasB x.f0) 0 1 hH (by rw [e]; rfl) hw
 have F := finstr_ev (ps := ps) (ar := ar) nm rg N (Nat.le_trans hp (by omega)) ha preds x hl hn true true false false true false false false false 0 (by rw [e]; rfl)
 refine ⟨_, R, ?_, hfine _ _⟩
 rw [show hasD x.f0 = true by rw [e]; rfl, show hasA x.f0 = true by rw [e]; rfl, show hasB x.f0 = false by rw [e]; rfl, show (x.f0 == 11) = false by rw [e]; rfl]
 exact F}
 {
 have l : wh = 1 := by rw [hwe, e]; rfl
 subst l; have R := rinstr_ev (ps := ps) (ar := ar) nm rg N hp ha preds x hl hn hk (hasD x.f0) (hasA x.f0) (hasB x.f0) 0 1 hH (by rw [e]; rfl) hw
 have F := finstr_ev (ps := ps) (ar := ar) nm rg N (Nat.le_trans hp (by omega)) ha preds x hl hn false true true false true false false false false 0 (by rw [e]; rfl)
 refine ⟨_, R, ?_, hfine _ _⟩
 rw [show hasD x.f0 = false by rw [e]; rfl, show hasA x.f0 = true by rw [e]; rfl, show hasB x.f0 = true by rw [e]; rfl, show (x.f0 == 11) = false by rw [e]; rfl]
 exact F}
 {
 have l : wh = 1 := by rw [hwe, e]; rfl
 subst l; have R := rinstr_ev (ps := ps) (ar := ar) nm rg N hp ha preds x hl hn hk (hasD x.f0) (hasA x.f0) (hasB x.f0) 4 1 hH (by rw [e]; rfl) hw
 have F := finstr_ev (ps := ps) (ar := ar) nm rg N (Nat.le_trans hp (by omega)) ha preds x hl hn false true true false true false true false false 0 (by rw [e]; rfl)
 refine ⟨_, R, ?_, hfine _ _⟩
 rw [show hasD x.f0 = false by rw [e]; rfl, show hasA x.f0 = true by rw [e]; rfl, show hasB x.f0 = true by rw [e]; rfl, show (x.f0 == 11) = false by rw [e]; rfl]
 exact F}
 {
 have l : wh = 2 := by rw [hwe, e]; rfl
 subst l; have R := rinstr_ev (ps := ps) (ar := ar) nm rg N hp ha preds x hl hn hk (hasD x.f0) (hasA x.f0) (hasB x.f0) 0 2 hH (by rw [e]; rfl) hw
 have F := finstr_ev (ps := ps) (ar := ar) nm rg N (Nat.le_trans hp (by omega)) ha preds x hl hn false false false true false false false false false 0 (by rw [e]; rfl)
 refine ⟨_, R, ?_, hfine _ _⟩
 rw [show hasD x.f0 = false by rw [e]; rfl, show hasA x.f0 = false by rw [e]; rfl, show hasB x.f0 = false by rw [e]; rfl, show (x.f0 == 11) = false by rw [e]; rfl]
 exact F}
 {
 have l : wh = 2 := by rw [hwe, e]; rfl
 subst l; have R := rinstr_ev (ps := ps) (ar := ar) nm rg N hp ha preds x hl hn hk (hasD x.f0) (hasA x.f0) (hasB x.f0) 4 2 hH (by rw [e]; rfl) hw
 have F := finstr_ev (ps := ps) (ar := ar) nm rg N (Nat.le_trans hp (by omega)) ha preds x hl hn true true false true false false true false false 0 (by rw [e]; rfl)
 refine ⟨_, R, ?_, hfine _ _⟩
 rw [show hasD x.f0 = true by rw [e]; rfl, show hasA x.f0 = true by rw [e]; rfl, show hasB x.f0 = false by rw [e]; rfl, show (x.f0 == 11) = false by rw [e]; rfl]
 exact F}
 {
 have l : wh = 4 := by rw [hwe, e]; rfl
 subst l; have R := rinstr_ev (ps := ps) (ar := ar) nm rg N hp ha preds x hl hn hk (hasD x.f0) (hasA x.f0) (hasB x.f0) 0 4 hH (by rw [e]; rfl) hw
 have F := finstr_ev (ps := ps) (ar := ar) nm rg N (Nat.le_trans hp (by omega)) ha preds x hl hn true false false false false true false false false 0 (by rw [e]; rfl)
 refine ⟨_, R, ?_, hfine _ _⟩
 rw [show hasD x.f0 = true by rw [e]; rfl, show hasA x.f0 = false by rw [e]; rfl, show hasB x.f0 = false by rw [e]; rfl, show (x.f0 == 11) = true by rw [e]; rfl]
 exact F}}
 {
 refine ⟨false, ?_, ?_, fun h => by cases h⟩
 {
 unfold r6_instr.f
 by_cases q : x.f0 < 0
 {
 refine Evt.pos q (Evt.succ ?_)
 simp only [r6_instr.j0]
 exact Evt.pos trivial (Evt.const _)}
 {
 refine Evt.neg q (Evt.succ ?_)
 simp only [r6_instr.j0]
 exact Evt.pos (by simp; omega) (Evt.const _)}}
 {
 have hf : flow_fields.f x.f0 = some (false, false, false, false, false, false, 0, false, false, false, false) := by {
 unfold flow_fields.f
 rw [if_neg (by omega), if_neg (by omega), if_neg (by omega), if_neg (by omega), if_neg (by omega), if_neg (by omega), if_neg (by omega), if_neg (by omega), if_neg (by omega), if_neg (by omega), if_neg (by omega), if_neg (by omega)]}
 unfold flow_instr.f
 rw [hf]; simp only [Option.bind_some]
 refine Evt.neg (by simp) (Evt.succ ?_)
 simp only [flow_instr.j0]
 exact Evt.pos trivial (Evt.const _)}}
end
end Go.Proofs.YtefhpdcafdhcaaaDoor.M
end
section
namespace Go.Proofs.YtefhpdcafdhcaaaDoor.V
open Go.RowKit Go.Proofs.YtefhpdcafdhcaaaDoorW.PrintWords Go.Proofs.YtefhpdcafdhcaaaDoorW.PrintLast Go.Proofs.YtefhpdcafdhcaaaDoorW.PrintMore Go.Proofs.YtefhpdcafdhcaaaDoor Go.Proofs.YtefhpdcafdhcaaaDoor.A Go.Proofs.YtefhpdcafdhcaaaDoor.B
section
variable {P : Program} {ops : Array Oper} {Q : Exit → Act → World → Prop} {md : Region.Mode} {S : World → Prop} {ds : List Nat} {T : Bool × List (List Nat × List Nat)}
theorem zs_ {S : World → Prop} (n : Nat) {id : Nat} {a : Act} {w : World} (hS : S w.drew) {L : List Bool} (h : S w.drew → wpAnyLast P .any ops Q S [] n ⟨L⟩ a w.drew) (hl : List.replicate n false = L := by (simp only [List.replicate_succ, List.replicate_zero]; rfl)) (hm : P.follows .mixedOrders = true := by kernel_rfl) (hn : ops.size = n := by rfl) : (Code.region id ops true).wp P Q a w := start_ ⟨L⟩ hm hn (by rw [← hl]; rfl) hS h
theorem zu_ (i : Nat) {K : Nat} {oi : Oper} {fuel : Nat} {L L' : List Bool} {a a' : Act} {w : World} (HT : Aside0 (rtab md ops = T)) (h : wpAnyLast P md ops Q S ds fuel ⟨L'⟩ a' w) (hi : ops[i]? = some oi := by rfl) (hN : oi.dst = some K := by rfl)
  (_hl : L.set i true = L' := by (simp only [List.set_cons_zero, List.set_cons_succ]; rfl)) (hc : anyT T L L' i = true := by kernel_rfl) (hw : Region.wanted oi (yielded ops a.tmps) = false := by rfl) (hQ : ∀ c a w, Q (.panic c) (a.put oi.dst undef) w → Q (.panic c) a w := by exact fun _ _ _ h => h) (ha : a.put (some K) undef = a' := by simp only [Act.put, List.setIfInBounds_toArray, List.set_cons_zero, List.set_cons_succ, i64_w, i32_w]; rfl) : wpAnyLast P md ops Q S ds (fuel + 1) ⟨L⟩ a w :=
 pure_ ⟨L'⟩ hi hN (any_of HT.out hc) hQ (Or.inr ⟨hw, rfl⟩) ha h
theorem zv_ (i : Nat) {K : Nat} {oi : Oper} {v : Value} {fuel : Nat} {L L' : List Bool} {a a' : Act} {w : World} (HT : Aside0 (rtab md ops = T)) (h : wpAnyLast P md ops Q S ds fuel ⟨L'⟩ a' w) (hi : ops[i]? = some oi := by rfl) (hN : oi.dst = some K := by rfl)
  (_hl : L.set i true = L' := by (simp only [List.set_cons_zero, List.set_cons_succ]; rfl)) (hc : anyT T L L' i = true := by kernel_rfl) (hw : Region.wanted oi (yielded ops a.tmps) = true := by rfl) (hy : ∀ w, (execOp a.eval oi).run P w = .ok (.value v) w := by (intro w'; go_simp; with_reducible rfl)) (hQ : ∀ c a w, Q (.panic c) (a.put oi.dst v) w → Q (.panic c) a w := by exact fun _ _ _ h => h) (ha : a.put (some K) v = a' := by simp only [Act.put, List.setIfInBounds_toArray, List.set_cons_zero, List.set_cons_succ, i64_w, i32_w]; rfl) : wpAnyLast P md ops Q S ds (fuel + 1) ⟨L⟩ a w :=
 pure_ ⟨L'⟩ hi hN (any_of HT.out hc) hQ (Or.inl ⟨hw, hy⟩) ha h
theorem zo_ (i : Nat) {N : Option Tmp} {oi : Oper} {fuel : Nat} {L L' : List Bool} {a : Act} {w : World} (HT : Aside0 (rtab md ops = T))
  (h : ∀ K : Act → World → Prop, Shut (∀ a' w', S w' → (S w' → wpAnyLast P md ops Q S ds fuel ⟨L'⟩ a' w') → K a' w') → if Region.wanted oi (yielded ops a.tmps) = true then Oper.wp P oi a w K Q else K (a.put N undef) w)
  (hi : ops[i]? = some oi := by rfl) (hN : oi.dst = N := by rfl) (_hl : L.set i true = L' := by (simp only [List.set_cons_zero, List.set_cons_succ]; rfl)) (hc : (readyT T.2 L == [i] && L.set i true == L') = true := by kernel_rfl) (hd : i ∉ ds := by decide) : wpAnyLast P md ops Q S ds (fuel + 1) ⟨L⟩ a w := one_ ⟨L'⟩ hi hN (one_of HT.out hc) hd h
theorem zt_ (i : Nat) {K : Nat} {oi : Oper} {v : Value} {fuel : Nat} {L L' : List Bool} {a a' : Act} {w : World} {B : List Nat} (HT : Aside0 (rtab md ops = T)) (HW : Aside0 (waitsOk T.2 B = true)) (hS : S w) (h : wpAnyLast P md ops Q S ds fuel ⟨L'⟩ a' w) (hi : ops[i]? = some oi := by rfl) (hN : oi.dst = some K := by rfl)
  (_hl : L.set i true = L' := by (simp only [List.set_cons_zero, List.set_cons_succ]; rfl)) (hc : takeW T B ds L L' i = true := by kernel_rfl) (hw : Region.wanted oi (yielded ops a.tmps) = true := by rfl) (hy : ∀ w, S w → (execOp a.eval oi).run P w = .ok (.value v) w := by (rintro w' ⟨y, z, C, D, E, F, G, I, J, M, l, p, q, b⟩; clear b; go_simp; with_reducible rfl)) (hQ : ∀ c a w, Q (.panic c) (a.put oi.dst v) w → Q (.panic c) a w := by exact fun _ _ _ h => h) (ha : a.put (some K) v = a' := by simp only [Act.put, List.setIfInBounds_toArray, List.set_cons_zero, List.set_cons_succ, i64_w, i32_w]; rfl) : wpAnyLast P md ops Q S ds (fuel + 1) ⟨L⟩ a w :=
 take_ ⟨L'⟩ hi hN (take_ofW HT.out HW.out hc) hQ (Or.inl ⟨hw, hy⟩) hS ha h
end
end Go.Proofs.YtefhpdcafdhcaaaDoor.V
end
section
namespace Go.Proofs.YtefhpdcafdhcaaaDoor.V
open Go.RowKit Go.Proofs.YtefhpdcafdhcaaaDoorW.PrintWords Go.Proofs.YtefhpdcafdhcaaaDoorW.PrintLast Go.Proofs.YtefhpdcafdhcaaaDoorW.PrintMore Go.Proofs.YtefhpdcafdhcaaaDoor Go.Proofs.YtefhpdcafdhcaaaDoor.A Go.Proofs.YtefhpdcafdhcaaaDoor.B
attribute [local go_sem] max2_int max_two
set_option linter.unusedVariables false
set_option linter.unusedSimpArgs false
mutual
def r6_Valid.j0 : Nat → Bool → ByteArray → List (S83) → List (S85) → Int → List (S69) → Option (Bool)
 | 0, _, _, _, _, _, _ => none
 | k + 1, O, l, p, q, y, b => if O = true then (some false) else (r6_Valid.l0 k (b.length : Int) 0 l p q y b)
def r6_Valid.l0 : Nat → Int → Int → ByteArray → List (S83) → List (S85) → Int → List (S69) → Option (Bool)
 | 0, _, _, _, _, _, _, _ => none
 | k + 1, R, D, l, p, q, y, b => if D < (b.length : Int) then (if 0 ≤ D then (if (wrap64 (R + (((rd_T69 b D).f0).length : Int))) > 2000 then (some false) else ((r6_ends.f k l p q y b ((rd_T69 b D).f0) ((rd_T69 b D).f1) ((rd_T69 b D).f2) ((rd_T69 b D).f3) ((rd_T69 b D).f4)).bind fun G => (if G = true then (r6_Valid.l0 k (wrap64 (R + (((rd_T69 b D).f0).length : Int))) (wrap64 (D + 1)) l p q y b) else (some false)))) else (none)) else ((r6_Preds.f k l p q y b).bind fun I => ((r6_reached.f k l p q y b).bind fun J => (r6_Valid.l1 k I J 0 l p q y b)))
def r6_Valid.l1 : Nat → List (List Int) → List Bool → Int → ByteArray → List (S83) → List (S85) → Int → List (S69) → Option (Bool)
 | 0, _, _, _, _, _, _, _, _ => none
 | k + 1, E, F, C, l, p, q, y, b => if C < (b.length : Int) then (if 0 ≤ C then (if C < (F.length : Int) then (if rdOf false F C = true then (r6_Valid.l2 k E F C ((rd_T69 b C).f0) 0 l p q y b) else (some false)) else (none)) else (none)) else (some true)
def r6_Valid.l2 : Nat → List (List Int) → List Bool → Int → List (S71) → Int → ByteArray → List (S83) → List (S85) → Int → List (S69) → Option (Bool)
 | 0, _, _, _, _, _, _, _, _, _, _ => none
 | k + 1, E, F, C, B, z, l, p, q, y, b => if z < (B.length : Int) then (if 0 ≤ z then (if 0 ≤ C then (if C < (E.length : Int) then ((r6_instr.f k l p q y b ((rd_T71 B z).f0) ((rd_T71 B z).f1) ((rd_T71 B z).f2) ((rd_T71 B z).f3) ((rd_T71 B z).f4) ((rd_T71 B z).f5) ((rd_T71 B z).f6) ((rd_L2 E C).length : Int)).bind fun L => (if L = true then (if ((rd_T71 B z).f0) = 11 then (if C = 0 then (some false) else (if z > 0 then (if 0 ≤ (wrap64 (z - 1)) then (if (wrap64 (z - 1)) < (B.length : Int) then (if ((rd_T71 B (wrap64 (z - 1))).f0) = 11 then (if z ≤ (B.length : Int) then ((r6_twice.f k (B.take (z : Int).toNat) ((rd_T71 B z).f2)).bind fun M => (if M = true then (some false) else (r6_Valid.l2 k E F C B (wrap64 (z + 1)) l p q y b))) else (none)) else (some false)) else (none)) else (none)) else (if z ≤ (B.length : Int) then ((r6_twice.f k (B.take (z : Int).toNat) ((rd_T71 B z).f2)).bind fun N => (if N = true then (some false) else (r6_Valid.l2 k E F C B (wrap64 (z + 1)) l p q y b))) else (none)))) else (r6_Valid.l2 k E F C B (wrap64 (z + 1)) l p q y b)) else (some false))) else (none)) else (none)) else (none)) else (r6_Valid.l1 k E F (wrap64 (C + 1)) l p q y b)
end
def r6_Valid.f (k : Nat) (p : ByteArray) (q : List (S83)) (y : List (S85)) (b : Int) (l : List (S69)) : Option (Bool) := (r6_Heads.f k p q y).bind fun z => (if z = true then (if b < 0 then (r6_Valid.j0 k true p q y b l) else (if b > 2000 then (r6_Valid.j0 k true p q y b l) else (if (l.length : Int) < 1 then (r6_Valid.j0 k true p q y b l) else (r6_Valid.j0 k (decide ((l.length : Int) > 2000)) p q y b l)))) else (r6_Valid.j0 k true p q y b l))
def r6_Valid.T8 : Bool × List (List Nat × List Nat) := (true, [([], []), ([0], [0]), ([1], [1]), ([2], [2]), ([2], [2]), ([4, 2], [2, 4]), ([2], [2]), ([5, 6, 2], [2, 5, 6]), ([7, 2], [2, 7]), ([3, 8, 2, 2], [2, 3, 8]), ([9, 2], [2, 9]), ([2, 10], [2, 10])])
def r6_Valid.B8 : List Nat := [0, 1, 3, 7, 7, 23, 7, 119, 247, 511, 1023, 2047]
theorem r6_Valid.tab8 : rtab .any (opsOf Tryd.f27 8) = r6_Valid.T8 := by kernel_rfl
theorem r6_Valid.bits8 : waitsOk r6_Valid.T8.2 r6_Valid.B8 = true := by kernel_rfl
def r6_Valid.T20 : Bool × List (List Nat × List Nat) := (true, [([], []), ([], []), ([], []), ([1, 2], [1, 2]), ([3], [3]), ([], []), ([], []), ([5, 6], [5, 6]), ([7], [7]), ([8], [8]), ([0, 4, 9], [0, 4, 9]), ([10], [10]), ([11, 10], [11]), ([12], [12]), ([12], [12]), ([13, 14, 12], [12, 13, 14]), ([15, 12], [12, 15]), ([16, 12], [12, 16]), ([17, 12], [12, 17]), ([18, 12, 12], [12, 18]), ([19], [19]), ([20, 19], [19, 20]), ([21, 19, 19], [19, 21]), ([22], [22]), ([23, 22], [22, 23]), ([24, 22, 22], [22, 24]), ([25], [25]), ([25], [25]), ([27, 25], [25, 27]), ([26, 28, 25], [25, 26, 28]), ([29, 25], [25, 29]), ([30, 25], [25, 30]), ([31, 25], [25, 31]), ([25, 32, 22], [22, 25, 32]), ([22, 33, 19], [19, 22, 33]), ([34, 25, 19], [19, 34]), ([35], [35]), ([35], [35]), ([36, 37, 35], [35, 36, 37]), ([35], [35]), ([35], [35]), ([39, 40, 35], [35, 39, 40]), ([41, 35], [35, 41]), ([42, 35], [35, 42]), ([38, 43, 35, 35], [35, 38, 43]), ([35, 44, 19], [19, 35, 44]), ([19, 45, 12], [12, 19, 45]), ([12, 46], [12, 46])])
def r6_Valid.B20 : List Nat := [0, 0, 0, 6, 14, 0, 0, 96, 224, 480, 1023, 2047, 4095, 8191, 8191, 32767, 65535, 131071, 262143, 524287, 1048575, 2097151, 4194303, 8388607, 16777215, 33554431, 67108863, 67108863, 201326591, 536870911, 1073741823, 2147483647, 4294967295, 8589934591, 17179869183, 34359738367, 68719476735, 68719476735, 274877906943, 68719476735, 68719476735, 1717986918399, 3917010173951, 8315056685055, 17592186044415, 35184372088831, 70368744177663, 140737488355327]
theorem r6_Valid.tab20 : rtab .any (opsOf Tryd.f27 20) = r6_Valid.T20 := by kernel_rfl
theorem r6_Valid.bits20 : waitsOk r6_Valid.T20.2 r6_Valid.B20 = true := by kernel_rfl
theorem r6_Valid.calls {k : Nat} {G : ByteArray} {M : Option Addr} {O : Nat} {E : List (S83)} {T : Option Addr} {U : Nat} {F : List (S85)} {I : Int} {b3 : Option Addr} {V : Nat} {q : List (S69)} {r : Bool} {w : World} (F2 : q5 w M O E T U F b3 V q) (h : r6_Valid.f k G E F I q = some r) :
  Calls Tryd.prog 27 #[.agg #[.string G, .slice M E.length O, .slice T F.length U, .int .i64 I, .slice b3 q.length V]] w fun e w' => e = .returned (.bool r) ∧ Below w.heap.size w w' := by
 obtain ⟨a2, a3, a4, a5, a0, _⟩ := q_O F2; have X1 := Tryd.underlying26; have Y9 := Tryd.underlying69; have X2 := Tryd.underlying71; have B := a_ (Below.refl w.heap.size w); have H : ((r6_Heads.f k G E F).bind fun F8 => (if F8 = true then (if I < 0 then (r6_Valid.j0 k true G E F I q) else (if I > 2000 then (r6_Valid.j0 k true G E F I q) else (if (q.length : Int) < 1 then (r6_Valid.j0 k true G E F I q) else (r6_Valid.j0 k (decide ((q.length : Int) > 2000)) G E F I q)))) else (r6_Valid.j0 k true G E F I q))) = some r := h
 clear h; have M9 := a_ H; clear H; go_enter Tryd.func27, Tryd.ntmps27
 go_upto_region 1 with (first | ((with_reducible refine gd_ 1 rfl ?_); (try (refine gate_guard (by rfl) ?_; dsimp only)); refine q_box 1 26 #[.string G, .slice M E.length O, .slice T F.length U, .int .i64 I, .slice b3 q.length V] ?_; intro b2 hg w3 L5 hb; have l := a_ L5; have X3 := a_ (q_ge B.out hg); have z := a_ (q_ge B.out hg); replace B := a_ (q_st B.out hb); clear hb L5 hg))
 (try simp only [Act.put, List.setIfInBounds_toArray, List.set_cons_zero, List.set_cons_succ])
 go_cut [39] (fun R6 wc => ∃ (kq : Nat) (e7 : Bool), R6 = .bool e7 ∧ Aside0 (r6_Valid.j0 kq e7 G E F I q = some r) ∧ Aside0 (kq ≤ k) ∧ Aside0 (wc.heap[b2]? = some (.cells #[.string G, (.slice M E.length O), (.slice T F.length U), .int .i64 I, (.slice b3 q.length V)] 26 (0, 0))) ∧ Aside0 (Below w.heap.size w wc))
 case first => (
 have H := M9.out; clear M9; replace H := q_bd H; obtain ⟨F8, L6, H⟩ := H; have A4 := a_ L6; clear L6; cases F8
 {
 replace H := q_if H; have H' := a_ H
 clear H; obtain ⟨f9, g0, g1, g2, g3, g4, g5, g6, g7, g8⟩ := q_cf5 l.out; go_wp2_with (first | ((with_reducible refine gc_ 45 rfl ?_); refine q_gl 16 #[.string G, .slice M E.length O, .slice T F.length U] Tryd.func45 rfl ?_; (with_reducible refine (r6_Heads.calls (q_C (Kd.C_below a2.out B.out)) a3.out (q_C (Kd.C_below a4.out B.out)) a5.out A4.out).mono ?_); rintro e L7 ⟨rfl, hb⟩; refine ⟨_, rfl, ?_⟩; replace l := a_ (q_bk l.out hb); replace B := a_ (q_st1 B.out hb z.out); (try clear hb); (try clear r4); (try clear hk); (try clear hi)))
 go_meet
 case rel => exact ⟨_, (true), q_r, H', ⟨by first | omega | exact Nat.le_refl _⟩, ⟨q_k l.out⟩, ⟨q_w1 B.out z.out⟩⟩}
 {
 rw [if_pos rfl] at H; rcases q_ite H with ⟨c6b0, H⟩ | ⟨c6b0, H⟩
 all_goals (
 (first | rw [c6b0] | (simp only [i64_w, i32_w]; rw [c6b0]) | skip))
 {
 have H' := a_ H
 clear H; obtain ⟨f9, g0, g1, g2, g3, g4, g5, g6, g7, g8⟩ := q_cf5 l.out; go_wp2_with (first | ((with_reducible refine gc_ 45 rfl ?_); refine q_gl 16 #[.string G, .slice M E.length O, .slice T F.length U] Tryd.func45 rfl ?_; (with_reducible refine (r6_Heads.calls (q_C (Kd.C_below a2.out B.out)) a3.out (q_C (Kd.C_below a4.out B.out)) a5.out A4.out).mono ?_); rintro e L7 ⟨rfl, hb⟩; refine ⟨_, rfl, ?_⟩; replace l := a_ (q_bk l.out hb); replace B := a_ (q_st1 B.out hb z.out); (try clear hb); (try clear r4); (try clear hk); (try clear hi); obtain ⟨d6, d7, d8, d9, e0, e1, e2, e3, e4, e5⟩ := q_cf5 l.out))
 go_meet
 case rel => exact ⟨_, (true), q_r, H', ⟨by first | omega | exact Nat.le_refl _⟩, ⟨q_k l.out⟩, ⟨q_w1 B.out z.out⟩⟩}
 {
 rcases q_ite H with ⟨c10b0, H⟩ | ⟨c10b0, H⟩
 {
 have H' := a_ H
 clear H; obtain ⟨f9, g0, g1, g2, g3, g4, g5, g6, g7, g8⟩ := q_cf5 l.out; go_wp2_with (first | ((with_reducible refine gc_ 45 rfl ?_); refine q_gl 16 #[.string G, .slice M E.length O, .slice T F.length U] Tryd.func45 rfl ?_; (with_reducible refine (r6_Heads.calls (q_C (Kd.C_below a2.out B.out)) a3.out (q_C (Kd.C_below a4.out B.out)) a5.out A4.out).mono ?_); rintro e L7 ⟨rfl, hb⟩; refine ⟨_, rfl, ?_⟩; replace l := a_ (q_bk l.out hb); replace B := a_ (q_st1 B.out hb z.out); (try clear hb); (try clear r4); (try clear hk); (try clear hi); obtain ⟨d6, d7, d8, d9, e0, e1, e2, e3, e4, e5⟩ := q_cf5 l.out))
 go_meet
 case rel => exact ⟨_, (true), q_r, H', ⟨by first | omega | exact Nat.le_refl _⟩, ⟨q_k l.out⟩, ⟨q_w1 B.out z.out⟩⟩}
 {
 replace H := q_iD H; rcases H with ⟨g9, c14b0, H⟩ | ⟨g9, c14b0, H⟩
 focus (
 have c14b1 : decide (q.length < 1) = true := decide_eq_true (by omega))
 rotate_left
 focus (
 have c14b1 : decide (q.length < 1) = false := decide_eq_false (by omega))
 all_goals (
 clear g9; have H' := a_ H
 clear H; obtain ⟨O6, O7, O8, O9, P0, P1, P2, P3, P4, P5⟩ := q_cf5 l.out; go_wp2_with (first | ((with_reducible refine gc_ 45 rfl ?_); refine q_gl 16 #[.string G, .slice M E.length O, .slice T F.length U] Tryd.func45 rfl ?_; (with_reducible refine (r6_Heads.calls (q_C (Kd.C_below a2.out B.out)) a3.out (q_C (Kd.C_below a4.out B.out)) a5.out A4.out).mono ?_); rintro e Z0 ⟨rfl, hb⟩; refine ⟨_, rfl, ?_⟩; replace l := a_ (q_bk l.out hb); replace B := a_ (q_st1 B.out hb z.out); (try clear hb); (try clear r4); (try clear hk); (try clear hi); obtain ⟨i0, i1, i2, i3, i4, i5, i6, i7, i8, i9⟩ := q_cf5 l.out)))
 {
 go_meet
 case rel => exact ⟨_, (decide ((q.length : Int) > 2000)), q_r, H', ⟨by first | omega | exact Nat.le_refl _⟩, ⟨q_k l.out⟩, ⟨q_w1 B.out z.out⟩⟩}
 {
 go_meet
 case rel => exact ⟨_, (true), q_r, H', ⟨by first | omega | exact Nat.le_refl _⟩, ⟨q_k l.out⟩, ⟨q_w1 B.out z.out⟩⟩}}}})
 case rest => (
 clear M9; try clear c1
 try clear c2
 try clear p2
 try clear c4
 try clear c5
 try clear R8
 try clear c6b0
 try clear g9
 try clear c10b0
 try clear R9
 try clear c14b0
 try clear c14b1
 try clear d6
 try clear d7
 try clear d8
 try clear d9
 try clear e0
 try clear i0
 try clear i1
 try clear i2
 try clear i3
 try clear i4
 try clear r5
 try clear r6
 try clear r7
 try clear r8
 try clear r9
 try clear s5
 try clear s6
 try clear s7
 try clear s8
 try clear s9
 try clear t0
 try clear t1
 try clear t2
 try clear t3
 try clear t4
 try clear t5
 try clear t6
 try clear t7
 try clear t8
 try clear t9
 try clear v0
 try clear v1
 try clear v2
 try clear v5
 try clear v6
 try clear v7
 try clear v8
 try clear v9
 try clear w2
 try clear w4
 try clear w5
 try clear w6
 try clear w7
 try clear w8
 try clear w9
 try clear e1
 try clear e2
 try clear e3
 try clear e4
 try clear e5
 try clear i5
 try clear i6
 try clear i7
 try clear i8
 try clear i9
 try clear x0
 try clear x1
 try clear x2
 try clear x3
 try clear x4
 try clear x5
 try clear x6
 try clear x7
 try clear x8
 try clear x9
 try clear y0
 try clear y1
 try clear y2
 try clear y3
 try clear y4
 try clear y5
 try clear y6
 try clear y7
 try clear y8
 try clear y9
 try clear z0
 try clear z1
 try clear z2
 try clear z3
 try clear z4
 try clear z5
 try clear z6
 try clear z7
 try clear z8
 try clear z9
 try clear A0
 try clear A1
 try clear A2
 try clear A3
 try clear A5
 obtain ⟨kq, e7, rfl, HA, f7, l, B⟩ := hcut; cases kq with
 | zero => exact absurd HA.out (by simp [r6_Valid.j0])
 | succ S0 => (
 have H := HA.out; clear HA; simp only [r6_Valid.j0] at H
 by_cases n7 : e7 = true
 {
 subst n7; rw [if_pos rfl] at H; obtain rfl := q_so H; go_wp2
 go_ret
 exact ⟨q_e, q_w1 B.out z.out⟩}
 {
 replace n7 := q_bf n7; subst n7; replace H := q_if H; have H' := a_ H
 clear H; obtain ⟨A6, A7, A8, A9, B2, B3, B6, B7, C0, C1⟩ := q_cf5 l.out; go_wp2
 go_loopg [3, 4] S0 (fun kq v3 v4 w' => ∃ (q5 : Int) (J : Int), v3 = .int .i64 q5 ∧ v4 = .int .i64 J ∧ Aside0 (r6_Valid.l0 kq q5 J G E F I q = some r) ∧ Aside0 (kq ≤ S0) ∧ Aside0 (w'.heap[b2]? = some (.cells #[.string G, (.slice M E.length O), (.slice T F.length U), .int .i64 I, (.slice b3 q.length V)] 26 (0, 0))) ∧ Aside0 (Below w.heap.size w w'))
 case atStart => exact ⟨((q.length : Int)), (0), q_r, q_r, H', ⟨Nat.le_refl _⟩, ⟨q_k l.out⟩, ⟨q_w1 B.out z.out⟩⟩
 case round => (
 clear H'; try clear c1
 try clear c2
 try clear p2
 try clear c4
 try clear c5
 try clear R8
 try clear c6b0
 try clear g9
 try clear c10b0
 try clear R9
 try clear c14b0
 try clear c14b1
 try clear n7
 try clear d6
 try clear d7
 try clear d8
 try clear d9
 try clear e0
 try clear i0
 try clear i1
 try clear i2
 try clear i3
 try clear i4
 try clear r5
 try clear r6
 try clear r7
 try clear r8
 try clear r9
 try clear s5
 try clear s6
 try clear s7
 try clear s8
 try clear s9
 try clear t0
 try clear t1
 try clear t2
 try clear t3
 try clear t4
 try clear t5
 try clear t6
 try clear t7
 try clear t8
 try clear t9
 try clear v0
 try clear v1
 try clear v2
 try clear v5
 try clear v6
 try clear A6
 try clear A7
 try clear A8
 try clear A9
 try clear B2
 try clear v7
 try clear v8
 try clear v9
 try clear w2
 try clear w4
 try clear w5
 try clear w6
 try clear w7
 try clear w8
 try clear w9
 try clear e1
 try clear e2
 try clear e3
 try clear e4
 try clear e5
 try clear i5
 try clear i6
 try clear i7
 try clear i8
 try clear i9
 try clear x0
 try clear x1
 try clear x2
 try clear x3
 try clear x4
 try clear x5
 try clear x6
 try clear x7
 try clear x8
 try clear x9
 try clear y0
 try clear y1
 try clear y2
 try clear y3
 try clear y4
 try clear y5
 try clear y6
 try clear y7
 try clear y8
 try clear y9
 try clear z0
 try clear z1
 try clear z2
 try clear z3
 try clear z4
 try clear B3
 try clear B6
 try clear B7
 try clear C0
 try clear C1
 try clear z5
 try clear z6
 try clear z7
 try clear z8
 try clear z9
 try clear A0
 try clear A1
 try clear A2
 try clear A3
 try clear A5
 try clear p2
 obtain ⟨q5, J, rfl, rfl, HA, f8, l, B⟩ := hrel; cases gk with
 | zero => exact absurd HA.out (by simp [r6_Valid.l0])
 | succ k2 => (
 have H := HA.out; clear HA; simp only [r6_Valid.l0] at H
 rcases q_ite H with ⟨c25b0, H⟩ | ⟨c25b0, H⟩
 {
 replace H := q_gD H; obtain ⟨-, c26b0, H⟩ := H; rcases q_ite H with ⟨c27b0, H⟩ | ⟨c27b0, H⟩
 {
 obtain rfl := q_so H; obtain ⟨P6, P7, P8, P9, Q0, Q1, Q2, Q3, Q4, Q5⟩ := q_cf5 l.out; obtain ⟨X7, W7, W8, S1, S2, S3, S4, S5, S6, n8, n9, Z1, Z2⟩ := b_T69 a0.out B.out J; cases S1; have S7 := a_ n9; have S8 := a_ n8; clear n9 n8; try go_wp2
 have a6 := a_ (blk_drew l.out); have a7 := a_ (below_drew1 B.out); clear l B; have l := a6; have B := a7; clear a6 a7; refine q_s 12 (S := fun w' => True) trivial (fun D => ?_); refine with_tabW r6_Valid.tab8 r6_Valid.bits8 (fun b e6 => ?_)
 generalize wr.drew = Z3 at l B D ⊢
 refine qv_ 0 b ?_
 refine qv_ 1 b ?_
 refine qv_ 2 b ?_
 refine qu_ 3 b ?_
 refine qu_ 4 b ?_
 refine qu_ 5 b ?_
 refine qu_ 6 b ?_
 refine qu_ 7 b ?_
 refine qu_ 8 b ?_
 refine qu_ 9 b ?_
 refine qu_ 10 b ?_
 refine qv_ 11 b ?_
 refine done_ (done_of b.out (by kernel_rfl)) ?_
 try go_wp2
 go_ret
 exact ⟨q_e, q_w1 B.out z.out⟩}
 {
 replace H := q_bd H; obtain ⟨b1, o0, H⟩ := H; have F9 := a_ o0; clear o0; by_cases q6 : b1 = true
 focus (
 subst q6; rw [if_pos rfl] at H; have H' := a_ H
 clear H; obtain ⟨C2, C3, C4, C5, C6, C7, C8, C9, D0, D1⟩ := q_cf5 l.out; obtain ⟨e8, K9, L0, G0, G1, G2, G3, G4, G5, a8, a9, S9, T2⟩ := b_T69 a0.out B.out J; cases G0; have G6 := a_ a9; have G7 := a_ a8; clear a9 a8; try go_wp2)
 rotate_left
 focus (
 replace q6 := q_bf q6; subst q6; replace H := q_if H; obtain rfl := q_so H; obtain ⟨C2, C3, C4, C5, C6, C7, C8, C9, D0, D1⟩ := q_cf5 l.out; obtain ⟨e8, K9, L0, G0, G1, G2, G3, G4, G5, a8, a9, S9, T2⟩ := b_T69 a0.out B.out J; cases G0; have G6 := a_ a9; have G7 := a_ a8; clear a9 a8; try go_wp2)
 all_goals (
 have a6 := a_ (blk_drew l.out); have a7 := a_ (below_drew1 B.out); clear l B; have l := a6; have B := a7; clear a6 a7; have G8 : 0 ≤ (J : Int) := q_d
 have G9 : J < (q.length : Int) := q_d
 obtain ⟨N0, q7, q8, T3, b4, b5, b6, b7, b8, o1, o2⟩ := at_T69 a0.out J G8 G9; have o3 := b8; have o4 := b7; have o5 := b6; have o6 := b5; have o7 := b4; obtain rfl : e8 = N0 := (by injection T3)
 replace b4 := q_kc B.out b4; replace b5 := q_kc B.out b5; replace b6 := q_kc B.out b6; replace b7 := q_kc B.out b7; replace b8 := q_kc B.out b8; have o8 := a_ o2; have H0 := a_ o1; clear o2 o1; replace G8 := eq_true G8; replace G9 := eq_true G9; refine q_s 12 (S := fun w' => cg5 w' b2 (.string G) (.slice M E.length O) (.slice T F.length U) (.int .i64 I) (.slice (some e8) q.length V) (cp5_ w' (e8.add ((J).toNat * 5)) (.slice q7 ((rd_T69 q J).f0).length q8) (.int .i64 ((rd_T69 q J).f1)) (.int .i64 ((rd_T69 q J).f2)) (.int .i64 ((rd_T69 q J).f3)) (.int .i64 ((rd_T69 q J).f4)))) (q_g5 l.out ⟨(q_kc B.out o7), (q_kc B.out o6), (q_kc B.out o5), (q_kc B.out o4), (q_kc B.out o3)⟩) (fun D => ?_); refine with_tabW r6_Valid.tab8 r6_Valid.bits8 (fun b e6 => ?_)
 generalize wr.drew = T6 at l B o8 b4 b5 b6 b7 b8 D ⊢
 refine qv_ 0 b ?_
 refine qv_ 1 b ?_
 refine qv_ 2 b ?_
 refine qv_ 4 b ?_
 refine qv_ 6 b ?_
 refine qt10_ 3 b e6 D ?_
 refine qt10_ 5 b e6 D ?_
 refine qv_ 7 b ?_
 refine qt10_ 8 b e6 D ?_
 refine q_o 9 b (fun K hK => ?_)
 refine q_go #[.agg #[.string G, .slice M E.length O, .slice T F.length U, .int .i64 I, .slice (some e8) q.length V], .agg #[.slice q7 ((rd_T69 q J).f0).length q8, .int .i64 ((rd_T69 q J).f1), .int .i64 ((rd_T69 q J).f2), .int .i64 ((rd_T69 q J).f3), .int .i64 ((rd_T69 q J).f4)]] Tryd.func46 rfl ?_
 with_reducible refine (r6_ends.calls (q_F F2 B.out) (q_C (Kd.C_below o8.out B.out)) H0.out F9.out).mono ?_
 rintro e Z4 ⟨rfl, hb⟩
 refine ⟨_, rfl, ?_⟩
 have a6 := a_ (q_bk l.out hb); have a7 := a_ (q_st1 B.out hb z.out); clear l B; have l := a6; have B := a7; clear a6 a7; (try clear hb)
 (try clear r4)
 (try clear hk)
 (try clear hi)
 refine q_nk hK.out (q_g5 l.out ⟨(q_kc B.out o7), (q_kc B.out o6), (q_kc B.out o5), (q_kc B.out o4), (q_kc B.out o3)⟩) (fun D => ?_)
 clear hK K
 refine qv_ 10 b ?_
 refine qv_ 11 b ?_
 refine done_ (done_of b.out (by kernel_rfl)) ?_
 try go_wp2)
 {
 go_ret
 exact ⟨q_e, q_w1 B.out z.out⟩}
 {
 go_roundg k2
 case measure => have := f7.out; have := f8.out; omega
 case rel => exact ⟨(wrap64 (q5 + (((rd_T69 q J).f0).length : Int))), (wrap64 (J + 1)), q_r, q_r, H', ⟨by have := f7.out; have := f8.out; omega⟩, ⟨q_k l.out⟩, ⟨q_w1 B.out z.out⟩⟩}}}
 {
 replace H := q_bd H; obtain ⟨b1, o0, H⟩ := H; have F9 := a_ o0; clear o0; replace H := q_bd H; obtain ⟨b9, L8, H⟩ := H; have T7 := a_ L8; clear L8; have H' := a_ H
 clear H; obtain ⟨j3, j5, j6, j7, j8, j9, k0, k1, k5, k6⟩ := q_cf5 l.out; try go_wp2
 have a6 := a_ (blk_drew l.out); have a7 := a_ (below_drew1 B.out); clear l B; have l := a6; have B := a7; clear a6 a7; refine q_s 6 (S := fun w' => cg5_ w' b2 (.string G) (.slice M E.length O) (.slice T F.length U) (.int .i64 I) (.slice b3 q.length V)) (q_g5_ l.out) (fun D => ?_)
 generalize wr.drew = Z5 at l B D ⊢
 refine take_ (i := 0) (N := some 71) (v := ?_) (a' := ?_) qb6_155 rfl rfl (by kernel_rfl) (fun _ _ _ h => h) (Or.inl ⟨by rfl, ?_⟩) D ?_ ?_
 rotate_left
 {
 rintro w' ⟨s0, s1, s2, s3, s4⟩
 go_simp
 with_reducible rfl}
 rotate_left
 {
 simp only [Act.put, List.setIfInBounds_toArray, List.set_cons_zero, List.set_cons_succ, i64_w, i32_w]
 rfl}
 refine take_ (i := 2) (N := some 73) (v := ?_) (a' := ?_) qb6_156 rfl rfl (by kernel_rfl) (fun _ _ _ h => h) (Or.inl ⟨by rfl, ?_⟩) D ?_ ?_
 rotate_left
 {
 rintro w' ⟨s0, s1, s2, s3, s4⟩
 go_simp
 with_reducible rfl}
 rotate_left
 {
 simp only [Act.put, List.setIfInBounds_toArray, List.set_cons_zero, List.set_cons_succ, i64_w, i32_w]
 rfl}
 refine one_ (i := 1) (N := some 72) qb6_157 rfl rfl (by kernel_rfl) (by decide) (fun K hK => ?_)
 refine q_go #[.agg #[.string G, .slice M E.length O, .slice T F.length U, .int .i64 I, .slice b3 q.length V]] Tryd.func47 rfl ?_
 with_reducible refine (r6_Preds.calls (q_F F2 B.out) F9.out).mono ?_
 rintro e T6 ⟨L9, rfl, H1, hb⟩
 refine ⟨_, rfl, ?_⟩
 have a6 := a_ (Kd.S_lower H1 (below_size (q_w1 B.out z.out))); have a7 := a_ (q_bk l.out hb); have H2 := a_ (q_st1 B.out hb z.out); clear l B; have p9 := a6; have l := a7; have B := H2; clear a6 a7 H2; (try clear hb)
 (try clear r4)
 (try clear hk)
 (try clear hi)
 (try clear H1)
 refine q_nk hK.out (q_g5_ l.out) (fun D => ?_)
 clear hK K
 refine one_ (i := 3) (N := some 74) qb6_158 rfl rfl (by kernel_rfl) (by decide) (fun K hK => ?_)
 refine q_go #[.agg #[.string G, .slice M E.length O, .slice T F.length U, .int .i64 I, .slice b3 q.length V]] Tryd.func48 rfl ?_
 with_reducible refine (r6_reached.calls (q_F F2 B.out) T7.out).mono ?_
 rintro e ab ⟨U0, rfl, H1, hb⟩
 refine ⟨_, rfl, ?_⟩
 have N1 := a_ (Kd.R_lower H1 (below_size (q_w1 B.out z.out))); replace p9 := a_ (Kd.S_below (q_S p9.out) hb); replace l := a_ (q_bk l.out hb); replace B := a_ (q_st1 B.out hb z.out); (try clear hb)
 (try clear r4)
 (try clear hk)
 (try clear hi)
 (try clear H1)
 refine q_nk hK.out (q_g5_ l.out) (fun D => ?_)
 clear hK K
 refine pure_ (i := 4) (N := some 5) (v := ?_) (a' := ?_) qb6_159 rfl rfl (by kernel_rfl) (fun _ _ _ h => h) (Or.inl ⟨by rfl, ?_⟩) ?_ ?_
 rotate_left
 {
 intro w'
 go_simp
 with_reducible rfl}
 rotate_left
 {
 simp only [Act.put, List.setIfInBounds_toArray, List.set_cons_zero, List.set_cons_succ, i64_w, i32_w]
 rfl}
 refine pure_ (i := 5) (N := some 6) (v := ?_) (a' := ?_) qb6_160 rfl rfl (by kernel_rfl) (fun _ _ _ h => h) (Or.inl ⟨by rfl, ?_⟩) ?_ ?_
 rotate_left
 {
 intro w'
 go_simp
 with_reducible rfl}
 rotate_left
 {
 simp only [Act.put, List.setIfInBounds_toArray, List.set_cons_zero, List.set_cons_succ, i64_w, i32_w]
 rfl}
 refine done_ (by kernel_rfl) ?_
 try go_wp2
 go_loopg [7] k2 (fun kq U1 w' => ∃ (p : Int), U1 = .int .i64 p ∧ Aside0 (r6_Valid.l1 kq b1 b9 p G E F I q = some r) ∧ Aside0 (kq ≤ k2) ∧ Aside0 (Kd.S (Kd.slice 3 (Kd.int .i64)) 27 w' w.heap.size (fun _ => True) L9 b1) ∧ Aside0 (Kd.R Kd.bool 4 w' w.heap.size (fun _ => True) U0 b9) ∧ Aside0 (w'.heap[b2]? = some (.cells #[.string G, (.slice M E.length O), (.slice T F.length U), .int .i64 I, (.slice b3 q.length V)] 26 (0, 0))) ∧ Aside0 (Below w.heap.size w w'))
 case atStart => exact ⟨(0), q_r, H', ⟨Nat.le_refl _⟩, ⟨q_S p9.out⟩, ⟨q_R N1.out⟩, ⟨q_k l.out⟩, ⟨q_w1 B.out z.out⟩⟩
 case round => (
 clear H'; try clear c1
 try clear p1
 try clear q1
 try clear X8
 try clear c2
 try clear p2
 try clear c3
 try clear c4
 try clear M0
 try clear g9
 try clear M1
 try clear M2
 try clear N3
 try clear U2
 try clear c25b0
 try clear U3
 try clear X9
 try clear c27b0
 try clear U4
 try clear D2
 try clear D3
 try clear D4
 try clear D5
 try clear D6
 try clear D7
 try clear D8
 try clear D9
 try clear E0
 try clear E1
 try clear j3
 try clear j5
 try clear j6
 try clear j7
 try clear j8
 try clear E2
 try clear E3
 try clear E4
 try clear E5
 try clear E6
 try clear E7
 try clear E8
 try clear E9
 try clear F0
 try clear F1
 try clear j9
 try clear k0
 try clear k1
 try clear k5
 try clear k6
 try clear H3
 try clear H4
 try clear H5
 try clear H6
 try clear H7
 try clear H8
 try clear H9
 try clear I0
 try clear I1
 try clear I2
 try clear U5
 try clear U6
 try clear U7
 try clear U8
 obtain ⟨p, rfl, HA, o9, HO_5, HO_6, l, B⟩ := hrel; cases gk with
 | zero => exact absurd HA.out (by simp [r6_Valid.l1])
 | succ k3 => (
 have H := HA.out; clear HA; simp only [r6_Valid.l1] at H
 rcases q_ite H with ⟨c44b0, H⟩ | ⟨c44b0, H⟩
 {
 replace H := q_gD H; obtain ⟨-, c45b0, H⟩ := H; replace H := q_gD H; obtain ⟨-, c46b0, H⟩ := H; obtain ⟨I3, n2⟩ : ∃ b_ : Bool, b_ = (rdOf false b9 p) := ⟨_, rfl⟩; replace H : (if I3 = true then (r6_Valid.l2 k3 b1 b9 p ((rd_T69 q p).f0) 0 G E F I q) else (some false)) = some r := by rw [← n2] at H; exact H
 have q9 := a_ n2; clear n2; by_cases p0 : I3 = true
 {
 subst p0; rw [if_pos rfl] at H; have H' := a_ H
 clear H; obtain ⟨k7, k8, k9, l4, l5, l6, l7, l8, l9, n0⟩ := q_cf5 l.out; obtain ⟨Y1, N4, N5⟩ := Kd.R_slice HO_6.out; subst N5; have r0 : 0 ≤ (p : Int) := q_d
 have r1 : p < (b9.length : Int) := q_d
 obtain ⟨N6, U9, p3⟩ := Kd.at_bool (Kd.R_reads' HO_6.out).2.2 p r0 r1; (try rw [← q9.out] at p3)
 cases U9; replace r0 := eq_true r0; replace r1 := eq_true r1; obtain ⟨q0, W9, b0, V0, I4, I5, I6, I7, I8, p4, p5, V1, V2⟩ := b_T69 a0.out B.out p; cases V0; have c0 := a_ p5; have c6 := a_ p4; clear p5 p4; go_wp2
 go_loopg [9] k3 (fun kq V3 w' => ∃ (y : Int), V3 = .int .i64 y ∧ Aside0 (r6_Valid.l2 kq b1 b9 p ((rd_T69 q p).f0) y G E F I q = some r) ∧ Aside0 (kq ≤ k3) ∧ Aside0 (Kd.S (Kd.slice 3 (Kd.int .i64)) 27 w' w.heap.size (fun _ => True) L9 b1) ∧ Aside0 (Kd.R Kd.bool 4 w' w.heap.size (fun _ => True) (.slice (some N6) b9.length N4) b9) ∧ Aside0 (w'.heap[b2]? = some (.cells #[.string G, (.slice M E.length O), (.slice T F.length U), .int .i64 I, (.slice (some q0) q.length V)] 26 (0, 0))) ∧ Aside0 (Below w.heap.size w w'))
 case atStart => exact ⟨(0), q_r, H', ⟨Nat.le_refl _⟩, ⟨q_S HO_5.out⟩, ⟨q_R HO_6.out⟩, ⟨q_k l.out⟩, ⟨q_w1 B.out z.out⟩⟩
 case round => (
 clear H'; try clear c1
 try clear p1
 try clear q1
 try clear X8
 try clear c2
 try clear p2
 try clear c3
 try clear c4
 try clear q4
 try clear M0
 try clear g9
 try clear M1
 try clear M2
 try clear N3
 try clear ae
 try clear af
 try clear ag
 try clear Y2
 try clear U2
 try clear c25b0
 try clear U3
 try clear X9
 try clear c27b0
 try clear U4
 try clear ah
 try clear c44b0
 try clear ai
 try clear c45b0
 try clear aj
 try clear c46b0
 try clear ak
 try clear al
 try clear p0
 try clear D2
 try clear D3
 try clear D4
 try clear D5
 try clear D6
 try clear D7
 try clear D8
 try clear D9
 try clear E0
 try clear E1
 try clear j3
 try clear j5
 try clear j6
 try clear j7
 try clear j8
 try clear k7
 try clear k8
 try clear k9
 try clear l4
 try clear l5
 try clear E2
 try clear E3
 try clear E4
 try clear E5
 try clear E6
 try clear E7
 try clear E8
 try clear E9
 try clear F0
 try clear F1
 try clear j9
 try clear k0
 try clear k1
 try clear k5
 try clear k6
 try clear l6
 try clear l7
 try clear l8
 try clear l9
 try clear n0
 try clear H3
 try clear H4
 try clear H5
 try clear H6
 try clear H7
 try clear H8
 try clear H9
 try clear I0
 try clear I1
 try clear I2
 try clear p3
 try clear I4
 try clear I5
 try clear I6
 try clear I7
 try clear I8
 try clear p1
 try clear M1
 try clear U5
 try clear U6
 try clear r0
 try clear V1
 try clear p2
 try clear M0
 try clear q1
 try clear M2
 try clear U7
 try clear U8
 try clear r1
 try clear V2
 obtain ⟨y, rfl, HA, p6, HO_5, HO_6, l, B⟩ := hrel; cases gk with
 | zero => exact absurd HA.out (by simp [r6_Valid.l2])
 | succ k4 => (
 have H := HA.out; clear HA; simp only [r6_Valid.l2] at H
 rcases q_ite H with ⟨c51b0, H⟩ | ⟨c51b0, H⟩
 {
 replace H := q_gD H; obtain ⟨-, c52b0, H⟩ := H; replace H := q_gD H; obtain ⟨-, c53b0, H⟩ := H; replace H := q_gD H; obtain ⟨-, c54b0, H⟩ := H; replace H := q_bd H; obtain ⟨V4, M3, H⟩ := H; have V5 := a_ M3; clear M3; obtain ⟨L, a1⟩ : ∃ j_ : Int, (wrap64 (y - 1)) = j_ := ⟨_, rfl⟩; simp only [a1] at H
 have hji63w : (IntKind.i64.wrap (y - 1)) = L := (i64_w _).trans a1
 try go_wp2
 have a6 := a_ (Kd.S_drew HO_5.out); have a7 := a_ (Kd.R_drew HO_6.out); have H2 := a_ (blk_drew l.out); have V6 := a_ (below_drew1 B.out); clear HO_5 HO_6 l B; have HO_5 := a6; have HO_6 := a7; have l := H2; have B := V6; clear a6 a7 H2 V6; have I9 : 0 ≤ (y : Int) := q_d
 have J0 : y < (((rd_T69 q p).f0).length : Int) := q_d
 obtain ⟨X, r2, r3, V7, c8, c9, d0, d1, d2, d3, d4, p7, p8⟩ := at_T71 c0.out y I9 J0; cases V7; have J1 := a_ p8; have J2 := a_ p7; clear p8 p7; replace I9 := eq_true I9; replace J0 := eq_true J0; have hpw : (0 ≤ L ∧ L < (((rd_T69 q p).f0).length : Int) → w.cell? (X.add ((L).toNat * 7)) = some (.int .i64 ((rd_T71 ((rd_T69 q p).f0) L).f0))) := by {
 rintro ⟨hp_, hq_⟩
 obtain ⟨N7, _, _, V8, J3, _⟩ := at_T71 c0.out L hp_ hq_; obtain rfl : X = N7 := (by injection V8)
 exact J3}
 obtain ⟨Y3, Y4, N8⟩ := Kd.S_slice HO_5.out; subst N8; have J4 : 0 ≤ (p : Int) := q_d
 have J5 : p < (b1.length : Int) := q_d
 obtain ⟨N9, L1, L2, V9, e9, _, _⟩ := at_L2 (Kd.S_reads' HO_5.out).2.2 p J4 J5; cases V9; replace J4 := eq_true J4; replace J5 := eq_true J5; refine zs_ 48 (S := fun w' => cg5 w' b2 (.string G) (.slice M E.length O) (.slice T F.length U) (.int .i64 I) (.slice (some q0) q.length V) (cp7 w' (X.add ((y).toNat * 7)) (.int .i64 ((rd_T71 ((rd_T69 q p).f0) y).f0)) (.int .i64 ((rd_T71 ((rd_T69 q p).f0) y).f1)) (.int .i64 ((rd_T71 ((rd_T69 q p).f0) y).f2)) (.int .i64 ((rd_T71 ((rd_T69 q p).f0) y).f3)) (.int .i64 ((rd_T71 ((rd_T69 q p).f0) y).f4)) (.int .i32 ((rd_T71 ((rd_T69 q p).f0) y).f5)) (.slice r2 ((rd_T71 ((rd_T69 q p).f0) y).f6).length r3) (w'.cell? (N9.add (p).toNat) = some (.slice L1 (rd_L2 b1 p).length L2) ∧ (0 ≤ L ∧ L < (((rd_T69 q p).f0).length : Int) → w'.cell? (X.add ((L).toNat * 7)) = some (.int .i64 ((rd_T71 ((rd_T69 q p).f0) L).f0)))))) ⟨q_b l.out 0, q_b l.out 1, q_b l.out 2, q_b l.out 3, q_b l.out 4, (q_kc B.out c8), (q_kc B.out c9), (q_kc B.out d0), (q_kc B.out d1), (q_kc B.out d2), (q_kc B.out d3), (q_kc B.out d4), e9, fun h_ => q_kc B.out (hpw h_)⟩ (fun D => ?_)
 refine with_tabW r6_Valid.tab20 r6_Valid.bits20 (fun b e6 => ?_)
 generalize wr.drew = am at HO_5 HO_6 l B e9 D ⊢
 refine zv_ 1 b ?_
 refine zv_ 2 b ?_
 refine zv_ 3 b ?_
 refine zv_ 5 b ?_
 refine zv_ 6 b ?_
 refine zv_ 7 b ?_
 refine zt_ 0 b e6 D ?_
 refine zt_ 4 b e6 D ?_
 refine zt_ 8 b e6 D ?_
 refine zv_ 9 b ?_
 refine zo_ 10 b (fun K hK => ?_)
 refine q_go #[.agg #[.string G, .slice M E.length O, .slice T F.length U, .int .i64 I, .slice (some q0) q.length V], .agg #[.int .i64 ((rd_T71 ((rd_T69 q p).f0) y).f0), .int .i64 ((rd_T71 ((rd_T69 q p).f0) y).f1), .int .i64 ((rd_T71 ((rd_T69 q p).f0) y).f2), .int .i64 ((rd_T71 ((rd_T69 q p).f0) y).f3), .int .i64 ((rd_T71 ((rd_T69 q p).f0) y).f4), .int .i32 ((rd_T71 ((rd_T69 q p).f0) y).f5), .slice r2 ((rd_T71 ((rd_T69 q p).f0) y).f6).length r3], .int .i64 ((rd_L2 b1 p).length : Int)] Tryd.func49 rfl ?_
 with_reducible refine (r6_instr.calls (q_F F2 B.out) (q_C (Kd.C_below J1.out B.out)) J2.out V5.out).mono ?_
 rintro e an ⟨rfl, hb⟩
 have n3 := q_kc hb (D.2.2.2.2.2.2.2.2.2.2.2.2.1); have n4 := fun h_ => q_kc hb (D.2.2.2.2.2.2.2.2.2.2.2.2.2 h_)
 refine ⟨_, rfl, ?_⟩
 replace HO_5 := a_ (Kd.S_below (q_S HO_5.out) hb); replace HO_6 := a_ (Kd.R_below (q_R HO_6.out) hb); replace l := a_ (q_bk l.out hb); replace B := a_ (q_st1 B.out hb z.out); clear hb e9; refine q_nk hK.out (q_g5 l.out ⟨(q_kc B.out c8), (q_kc B.out c9), (q_kc B.out d0), (q_kc B.out d1), (q_kc B.out d2), (q_kc B.out d3), (q_kc B.out d4), n3, n4⟩) (fun D => ?_)
 clear hK K
 cases V4
 {
 rw [if_neg (show ¬ (false = true) by decide)] at H
 obtain rfl := q_so H; refine zv_ 11 b ?_
 refine zv_ 12 b ?_
 refine zu_ 13 b ?_
 refine zu_ 14 b ?_
 refine zu_ 15 b ?_
 refine zu_ 16 b ?_
 refine zu_ 17 b ?_
 refine zu_ 18 b ?_
 refine zu_ 19 b ?_
 refine zu_ 20 b ?_
 refine zu_ 21 b ?_
 refine zu_ 22 b ?_
 refine zu_ 23 b ?_
 refine zu_ 24 b ?_
 refine zu_ 25 b ?_
 refine zu_ 26 b ?_
 refine zu_ 27 b ?_
 refine zu_ 28 b ?_
 refine zu_ 29 b ?_
 refine zu_ 30 b ?_
 refine zu_ 31 b ?_
 refine zu_ 32 b ?_
 refine zu_ 33 b ?_
 refine zu_ 34 b ?_
 refine zu_ 35 b ?_
 refine zu_ 36 b ?_
 refine zu_ 37 b ?_
 refine zu_ 38 b ?_
 refine zu_ 39 b ?_
 refine zu_ 40 b ?_
 refine zu_ 41 b ?_
 refine zu_ 42 b ?_
 refine zu_ 43 b ?_
 refine zu_ 44 b ?_
 refine zu_ 45 b ?_
 refine zu_ 46 b ?_
 refine zv_ 47 b ?_
 refine done_ (done_of b.out (by kernel_rfl)) ?_
 try go_wp2
 go_ret
 exact ⟨(by first | rfl | (simp [errW_none, errW_some] <;> rfl) | (simp only [← a1]; first | rfl | (simp [errW_none, errW_some] <;> rfl)) | (simp [*, errW_none, errW_some] <;> rfl)), q_w1 B.out z.out⟩}
 rw [if_pos rfl] at H; refine zv_ 11 b ?_
 refine zv_ 12 b ?_
 refine zv_ 13 b ?_
 refine zv_ 14 b ?_
 refine zv_ 15 b ?_
 refine zv_ 16 b ?_
 refine zt_ 17 b e6 D ?_
 replace H := q_iBN H; rcases H with ⟨-, c57b0, c57b1, H⟩ | ⟨-, c57b0, c57b1, H⟩
 {
 replace H := q_iBN H; rcases H with ⟨-, c58b0, c58b1, H⟩ | ⟨-, c58b0, c58b1, H⟩
 {
 obtain rfl := q_so H; refine zv_ 18 b ?_
 refine zv_ 19 b ?_
 refine zv_ 20 b ?_
 refine zv_ 21 b ?_
 refine zv_ 22 b ?_
 refine zu_ 23 b ?_
 refine zu_ 24 b ?_
 refine zu_ 25 b ?_
 refine zu_ 26 b ?_
 refine zu_ 27 b ?_
 refine zu_ 28 b ?_
 refine zu_ 29 b ?_
 refine zu_ 30 b ?_
 refine zu_ 31 b ?_
 refine zu_ 32 b ?_
 refine zu_ 33 b ?_
 refine zv_ 34 b ?_
 refine zv_ 35 b ?_
 refine zu_ 36 b ?_
 refine zu_ 37 b ?_
 refine zu_ 38 b ?_
 refine zu_ 39 b ?_
 refine zu_ 40 b ?_
 refine zu_ 41 b ?_
 refine zu_ 42 b ?_
 refine zu_ 43 b ?_
 refine zu_ 44 b ?_
 refine zv_ 45 b ?_
 refine zv_ 46 b ?_
 refine zv_ 47 b ?_
 refine done_ (done_of b.out (by kernel_rfl)) ?_
 try go_wp2
 go_ret
 exact ⟨(by first | rfl | (simp [errW_none, errW_some] <;> rfl) | (simp only [← a1]; first | rfl | (simp [errW_none, errW_some] <;> rfl)) | (simp [*, errW_none, errW_some] <;> rfl)), q_w1 B.out z.out⟩}
 {
 rcases q_ite H with ⟨c62b0, H⟩ | ⟨c62b0, H⟩
 focus (
 replace H := q_gD H; obtain ⟨-, c64b0, H⟩ := H; replace H := q_gD H; obtain ⟨-, c65b0, H⟩ := H; have W0 := eq_true (q_d : 0 ≤ L); have M4 := eq_true (q_d : L < (((rd_T69 q p).f0).length : Int)); have W1 : 0 ≤ L ∧ L < (((rd_T69 q p).f0).length : Int) := ⟨of_eq_true W0, of_eq_true M4⟩)
 all_goals (
 refine zv_ 18 b ?_
 refine zv_ 19 b ?_
 refine zv_ 20 b ?_
 refine zv_ 21 b ?_
 refine zv_ 22 b ?_
 refine zv_ 23 b ?_
 refine zv_ 24 b ?_
 refine zv_ 25 b ?_)
 {
 refine zv_ 26 b ?_
 refine zv_ 27 b ?_
 refine zv_ 28 b ?_
 refine zv_ 29 b ?_
 refine zv_ 30 b ?_
 refine zt_ 31 b e6 D ?_ (hy := by rintro w' ⟨s0, s1, s2, s3, s4, ao, ap, aq, au, av, aw, ax, ay, M5⟩; replace M5 := M5 W1; go_simp; with_reducible rfl)
 replace H := q_iBN H; rcases H with ⟨-, c66b0, c66b1, H⟩ | ⟨-, c66b0, c66b1, H⟩
 focus (
 refine zv_ 32 b ?_)
 rotate_left
 focus (
 obtain rfl := q_so H; refine zv_ 32 b ?_)
 all_goals (
 refine zv_ 33 b ?_
 refine zv_ 34 b ?_
 refine zv_ 35 b ?_)
 {
 refine zu_ 36 b ?_
 refine zu_ 37 b ?_
 refine zu_ 38 b ?_
 refine zu_ 39 b ?_
 refine zu_ 40 b ?_
 refine zu_ 41 b ?_
 refine zu_ 42 b ?_
 refine zu_ 43 b ?_
 refine zu_ 44 b ?_
 refine zv_ 45 b ?_
 refine zv_ 46 b ?_
 refine zv_ 47 b ?_
 refine done_ (done_of b.out (by kernel_rfl)) ?_
 try go_wp2
 go_ret
 exact ⟨(by first | rfl | (simp [errW_none, errW_some] <;> rfl) | (simp only [← a1]; first | rfl | (simp [errW_none, errW_some] <;> rfl)) | (simp [*, errW_none, errW_some] <;> rfl)), q_w1 B.out z.out⟩}
 {
 have c68c := eq_true (q_d : 0 ≤ y); replace H := q_gDE H; obtain ⟨M6, c68b1, az, H⟩ := H; obtain ⟨J6, n5⟩ : ∃ y_ : List (S71), y_ = (((rd_T69 q p).f0).take (y : Int).toNat) := ⟨_, rfl⟩; rw [← n5] at H; obtain ⟨aA, J7, _, L3, _⟩ := info_parts info71; have J8 := cut_to (P := Tryd.prog) 67 71 .i64 Tryd.underlying67 J7 (some X) ((rd_T69 q p).f0).length b0 y (q_d) M6 c6.out; have J9 : Kd.C k71 _ (some X) ((rd_T69 q p).f0).length ((rd_T69 q p).f0) := c0.out
 have q2 := Kd.C_take (m := (y : Int).toNat) J9 (by omega)
 have K0 : J6.length = (y : Int).toNat := (by rw [n5, List.length_take]; omega)
 rw [← n5] at q2; rw [← K0] at J8; have O0 := a_ q2; have O1 := a_ (show J6.length ≤ b0 from by have := c6.out; omega)
 clear q2 J9 J7 L3 n5 K0 M6; replace H := q_bd H; obtain ⟨W2, M7, H⟩ := H; have O2 := a_ M7; clear M7; refine zv_ 36 b ?_
 refine zv_ 37 b ?_
 refine zv_ 38 b ?_
 refine zv_ 39 b ?_
 refine zv_ 40 b ?_
 refine zv_ 41 b ?_
 refine zv_ 42 b ?_
 refine zt_ 43 b e6 D ?_
 refine zo_ 44 b (fun K hK => ?_)
 refine q_go #[.slice (some X) J6.length b0, .int .i64 ((rd_T71 ((rd_T69 q p).f0) y).f2)] Tryd.func50 rfl ?_
 with_reducible refine (r6_twice.calls (q_C (Kd.C_below O0.out B.out)) O1.out O2.out).mono ?_
 rintro e w' ⟨rfl, ⟨nd, rfl⟩⟩
 refine ⟨_, rfl, ?_⟩
 have HBn := a_ (pw_below_drewN B.out nd); refine q_nk hK.out (q_g5 l.out ⟨(q_kc HBn.out c8), (q_kc HBn.out c9), (q_kc HBn.out d0), (q_kc HBn.out d1), (q_kc HBn.out d2), (q_kc HBn.out d3), (q_kc HBn.out d4), n3, n4⟩) (fun D => ?_)
 clear hK K
 cases W2
 {
 rw [if_neg (show ¬ (false = true) by decide)] at H
 have H' := a_ H
 clear H; refine zv_ 45 b ?_
 refine zv_ 46 b ?_
 refine zv_ 47 b ?_
 refine done_ (done_of b.out (by kernel_rfl)) ?_
 try go_wp2
 go_roundg k4
 case measure => have := f7.out; have := f8.out; have := o9.out; have := p6.out; omega
 case rel => exact ⟨(wrap64 (y + 1)), q_r, H', ⟨by have := f7.out; have := f8.out; have := o9.out; have := p6.out; omega⟩, ⟨q_S HO_5.out⟩, ⟨q_R HO_6.out⟩, ⟨q_k l.out⟩, ⟨q_w1 B.out z.out⟩⟩}
 {
 rw [if_pos rfl] at H; obtain rfl := q_so H; refine zv_ 45 b ?_
 refine zv_ 46 b ?_
 refine zv_ 47 b ?_
 refine done_ (done_of b.out (by kernel_rfl)) ?_
 try go_wp2
 go_ret
 exact ⟨(by first | rfl | (simp [errW_none, errW_some] <;> rfl) | (simp only [← a1]; first | rfl | (simp [errW_none, errW_some] <;> rfl)) | (simp [*, errW_none, errW_some] <;> rfl)), q_w1 B.out z.out⟩}}}
 {
 refine zu_ 26 b ?_
 refine zu_ 27 b ?_
 refine zu_ 28 b ?_
 refine zu_ 29 b ?_
 refine zu_ 30 b ?_
 refine zu_ 31 b ?_
 refine zu_ 32 b ?_
 refine zv_ 33 b ?_
 refine zv_ 34 b ?_
 refine zv_ 35 b ?_
 have c83c := eq_true (q_d : 0 ≤ y); replace H := q_gDE H; obtain ⟨W3, c83b1, M4, H⟩ := H; obtain ⟨K1, n6⟩ : ∃ y_ : List (S71), y_ = (((rd_T69 q p).f0).take (y : Int).toNat) := ⟨_, rfl⟩; rw [← n6] at H; obtain ⟨aC, K2, _, L4, _⟩ := info_parts info71; have K3 := cut_to (P := Tryd.prog) 67 71 .i64 Tryd.underlying67 K2 (some X) ((rd_T69 q p).f0).length b0 y (q_d) W3 c6.out; have K4 : Kd.C k71 _ (some X) ((rd_T69 q p).f0).length ((rd_T69 q p).f0) := c0.out
 have q3 := Kd.C_take (m := (y : Int).toNat) K4 (by omega)
 have K5 : K1.length = (y : Int).toNat := (by rw [n6, List.length_take]; omega)
 rw [← n6] at q3; rw [← K5] at K3; have O3 := a_ q3; have O4 := a_ (show K1.length ≤ b0 from by have := c6.out; omega)
 clear q3 K4 K2 L4 n6 K5 W3; replace H := q_bd H; obtain ⟨W4, M8, H⟩ := H; have O2 := a_ M8; clear M8; refine zv_ 36 b ?_
 refine zv_ 37 b ?_
 refine zv_ 38 b ?_
 refine zv_ 39 b ?_
 refine zv_ 40 b ?_
 refine zv_ 41 b ?_
 refine zv_ 42 b ?_
 refine zt_ 43 b e6 D ?_
 refine zo_ 44 b (fun K hK => ?_)
 refine q_go #[.slice (some X) K1.length b0, .int .i64 ((rd_T71 ((rd_T69 q p).f0) y).f2)] Tryd.func50 rfl ?_
 with_reducible refine (r6_twice.calls (q_C (Kd.C_below O3.out B.out)) O4.out O2.out).mono ?_
 rintro e w' ⟨rfl, ⟨nd, rfl⟩⟩
 refine ⟨_, rfl, ?_⟩
 have HBn := a_ (pw_below_drewN B.out nd); refine q_nk hK.out (q_g5 l.out ⟨(q_kc HBn.out c8), (q_kc HBn.out c9), (q_kc HBn.out d0), (q_kc HBn.out d1), (q_kc HBn.out d2), (q_kc HBn.out d3), (q_kc HBn.out d4), n3, n4⟩) (fun D => ?_)
 clear hK K
 cases W4
 {
 rw [if_neg (show ¬ (false = true) by decide)] at H
 have H' := a_ H
 clear H; refine zv_ 45 b ?_
 refine zv_ 46 b ?_
 refine zv_ 47 b ?_
 refine done_ (done_of b.out (by kernel_rfl)) ?_
 try go_wp2
 go_roundg k4
 case measure => have := f7.out; have := f8.out; have := o9.out; have := p6.out; omega
 case rel => exact ⟨(wrap64 (y + 1)), q_r, H', ⟨by have := f7.out; have := f8.out; have := o9.out; have := p6.out; omega⟩, ⟨q_S HO_5.out⟩, ⟨q_R HO_6.out⟩, ⟨q_k l.out⟩, ⟨q_w1 B.out z.out⟩⟩}
 {
 rw [if_pos rfl] at H; obtain rfl := q_so H; refine zv_ 45 b ?_
 refine zv_ 46 b ?_
 refine zv_ 47 b ?_
 refine done_ (done_of b.out (by kernel_rfl)) ?_
 try go_wp2
 go_ret
 exact ⟨(by first | rfl | (simp [errW_none, errW_some] <;> rfl) | (simp only [← a1]; first | rfl | (simp [errW_none, errW_some] <;> rfl)) | (simp [*, errW_none, errW_some] <;> rfl)), q_w1 B.out z.out⟩}}}}
 {
 have H' := a_ H
 clear H; refine zv_ 18 b ?_
 refine zv_ 19 b ?_
 refine zu_ 20 b ?_
 refine zu_ 21 b ?_
 refine zu_ 22 b ?_
 refine zu_ 23 b ?_
 refine zu_ 24 b ?_
 refine zu_ 25 b ?_
 refine zu_ 26 b ?_
 refine zu_ 27 b ?_
 refine zu_ 28 b ?_
 refine zu_ 29 b ?_
 refine zu_ 30 b ?_
 refine zu_ 31 b ?_
 refine zu_ 32 b ?_
 refine zu_ 33 b ?_
 refine zu_ 34 b ?_
 refine zu_ 35 b ?_
 refine zu_ 36 b ?_
 refine zu_ 37 b ?_
 refine zu_ 38 b ?_
 refine zu_ 39 b ?_
 refine zu_ 40 b ?_
 refine zu_ 41 b ?_
 refine zu_ 42 b ?_
 refine zu_ 43 b ?_
 refine zu_ 44 b ?_
 refine zu_ 45 b ?_
 refine zv_ 46 b ?_
 refine zv_ 47 b ?_
 refine done_ (done_of b.out (by kernel_rfl)) ?_
 try go_wp2
 go_roundg k4
 case measure => have := f7.out; have := f8.out; have := o9.out; have := p6.out; omega
 case rel => exact ⟨(wrap64 (y + 1)), q_r, H', ⟨by have := f7.out; have := f8.out; have := o9.out; have := p6.out; omega⟩, ⟨q_S HO_5.out⟩, ⟨q_R HO_6.out⟩, ⟨q_k l.out⟩, ⟨q_w1 B.out z.out⟩⟩}}
 {
 have H' := a_ H
 clear H; go_wp2
 go_roundg k4
 case measure => have := f7.out; have := f8.out; have := o9.out; have := p6.out; omega
 case rel => exact ⟨(wrap64 (p + 1)), q_r, H', ⟨by have := f7.out; have := f8.out; have := o9.out; have := p6.out; omega⟩, ⟨q_S HO_5.out⟩, ⟨q_R HO_6.out⟩, ⟨q_k l.out⟩, ⟨q_w1 B.out z.out⟩⟩}))}
 {
 replace p0 := q_bf p0; subst p0; replace H := q_if H; obtain rfl := q_so H; obtain ⟨k7, k8, k9, l4, l5, l6, l7, l8, l9, n0⟩ := q_cf5 l.out; obtain ⟨Y6, Y7, O5⟩ := Kd.R_slice HO_6.out; subst O5; have K6 : 0 ≤ (p : Int) := q_d
 have K7 : p < (b9.length : Int) := q_d
 obtain ⟨Y8, W5, K8⟩ := Kd.at_bool (Kd.R_reads' HO_6.out).2.2 p K6 K7; (try rw [← q9.out] at K8)
 cases W5; replace K6 := eq_true K6; replace K7 := eq_true K7; go_wp2
 go_ret
 exact ⟨q_e, q_w1 B.out z.out⟩}}
 {
 obtain rfl := q_so H; obtain ⟨Q6, Q7, Q8, Q9, R0, R1, R2, R3, R4, R5⟩ := q_cf5 l.out; go_wp2
 go_ret
 exact ⟨q_e, q_w1 B.out z.out⟩}))}))}))
def r11_Error.f (k : Nat) (b : ByteArray) (l : List (S83)) (p : List (S85)) (q : Int) (y : List (S69)) : Option (Int) := (r6_Valid.f k b l p q y).bind fun z => (if z = true then ((r6_Phis.f k b l p q y).bind fun B => (if B > 0 then (some 6) else (some 0))) else (some 1))
theorem r11_Error.calls {k : Nat} {B : ByteArray} {E : Option Addr} {F : Nat} {l : List (S83)} {G : Option Addr} {I : Nat} {p : List (S85)} {D : Int} {J : Option Addr} {L : Nat} {q : List (S69)} {r : Int} {w : World} (V : q5 w E F l G I p J L q) (h : r11_Error.f k B l p D q = some r) :
  Calls Tryd.prog 10 #[.agg #[.string B, .slice E l.length F, .slice G p.length I, .int .i64 D, .slice J q.length L]] w fun e w' => e = .returned (.int .i64 r) ∧ Below w.heap.size w w' := by
 have g6 := Tryd.underlying26; have z := a_ (Below.refl w.heap.size w); have H : ((r6_Valid.f k B l p D q).bind fun a4 => (if a4 = true then ((r6_Phis.f k B l p D q).bind fun a7 => (if a7 > 0 then (some 6) else (some 0))) else (some 1))) = some r := h
 clear h; replace H := q_bd H; obtain ⟨a4, a8, H⟩ := H; have A2 := a_ a8; clear a8; cases a4
 {
 replace H := q_if H; obtain rfl := q_so H; go_enter Tryd.func10, Tryd.ntmps10
 go_wp2_with (first | ((with_reducible refine gd_ 1 rfl ?_); refine q_box 1 26 #[.string B, .slice E l.length F, .slice G p.length I, .int .i64 D, .slice J q.length L] ?_; intro a5 hg i2 M hb; have b := a_ M; have a6 := a_ (q_ge z.out hg); have y := a_ (q_ge z.out hg); replace z := a_ (q_st z.out hb); clear hb M hg; obtain ⟨d4, d5, d6, d7, d8, d9, e0, e1, e2, e3⟩ := q_cf5 b.out) | ((with_reducible refine gc_ 27 rfl ?_); refine q_gl 4 #[.agg #[.string B, .slice E l.length F, .slice G p.length I, .int .i64 D, .slice J q.length L]] Tryd.func27 rfl ?_; (with_reducible refine (r6_Valid.calls (q_F V z.out) A2.out).mono ?_); rintro e i3 ⟨rfl, hb⟩; refine ⟨_, rfl, ?_⟩; replace b := a_ (q_bk b.out hb); replace z := a_ (q_st1 z.out hb y.out); (clear hb)))
 go_ret
 exact ⟨q_e, q_w1 z.out y.out⟩}
 {
 rw [if_pos rfl] at H; replace H := q_bd H; obtain ⟨a7, a9, H⟩ := H; have A4 := a_ a9; clear a9; rcases q_ite H with ⟨c5b0, H⟩ | ⟨c5b0, H⟩
 {
 obtain rfl := q_so H; go_enter Tryd.func10, Tryd.ntmps10
 go_wp2_with (first | ((with_reducible refine gd_ 1 rfl ?_); refine q_box 1 26 #[.string B, .slice E l.length F, .slice G p.length I, .int .i64 D, .slice J q.length L] ?_; intro a5 hg w6 M hb; have b := a_ M; have a6 := a_ (q_ge z.out hg); have y := a_ (q_ge z.out hg); replace z := a_ (q_st z.out hb); clear hb M hg; obtain ⟨e5, e6, e7, e8, e9, f0, f1, f2, f3, f4⟩ := q_cf5 b.out) | ((with_reducible refine gc_ 27 rfl ?_); refine q_gl 4 #[.agg #[.string B, .slice E l.length F, .slice G p.length I, .int .i64 D, .slice J q.length L]] Tryd.func27 rfl ?_; (with_reducible refine (r6_Valid.calls (q_F V z.out) A2.out).mono ?_); rintro e w8 ⟨rfl, hb⟩; refine ⟨_, rfl, ?_⟩; replace b := a_ (q_bk b.out hb); replace z := a_ (q_st1 z.out hb y.out); (clear hb); obtain ⟨f5, f6, f7, f8, f9, g0, g1, g2, g3, g4⟩ := q_cf5 b.out) | ((with_reducible refine gc_ 32 rfl ?_); refine q_gl 7 #[.agg #[.string B, .slice E l.length F, .slice G p.length I, .int .i64 D, .slice J q.length L]] Tryd.func32 rfl ?_; (with_reducible refine (r6_Phis.calls (q_F V z.out) A4.out).mono ?_); rintro e g8 ⟨rfl, hb⟩; refine ⟨_, rfl, ?_⟩; replace b := a_ (q_bk b.out hb); replace z := a_ (q_st1 z.out hb y.out); (clear hb)))
 go_ret
 exact ⟨q_e, q_w1 z.out y.out⟩}
 {
 obtain rfl := q_so H; go_enter Tryd.func10, Tryd.ntmps10
 go_wp2_with (first | ((with_reducible refine gd_ 1 rfl ?_); refine q_box 1 26 #[.string B, .slice E l.length F, .slice G p.length I, .int .i64 D, .slice J q.length L] ?_; intro a5 hg g9 M hb; have b := a_ M; have a6 := a_ (q_ge z.out hg); have y := a_ (q_ge z.out hg); replace z := a_ (q_st z.out hb); clear hb M hg; obtain ⟨b0, b1, b2, b3, b4, b5, b6, b7, b8, b9⟩ := q_cf5 b.out) | ((with_reducible refine gc_ 27 rfl ?_); refine q_gl 4 #[.agg #[.string B, .slice E l.length F, .slice G p.length I, .int .i64 D, .slice J q.length L]] Tryd.func27 rfl ?_; (with_reducible refine (r6_Valid.calls (q_F V z.out) A2.out).mono ?_); rintro e i0 ⟨rfl, hb⟩; refine ⟨_, rfl, ?_⟩; replace b := a_ (q_bk b.out hb); replace z := a_ (q_st1 z.out hb y.out); (clear hb); obtain ⟨c0, c1, c4, c6, c8, c9, d0, d1, d2, d3⟩ := q_cf5 b.out) | ((with_reducible refine gc_ 32 rfl ?_); refine q_gl 7 #[.agg #[.string B, .slice E l.length F, .slice G p.length I, .int .i64 D, .slice J q.length L]] Tryd.func32 rfl ?_; (with_reducible refine (r6_Phis.calls (q_F V z.out) A4.out).mono ?_); rintro e i1 ⟨rfl, hb⟩; refine ⟨_, rfl, ?_⟩; replace b := a_ (q_bk b.out hb); replace z := a_ (q_st1 z.out hb y.out); (clear hb)))
 go_ret
 exact ⟨q_e, q_w1 z.out y.out⟩}}
def l11_wide.f (k : Nat) (l : ByteArray) (p : List (S83)) (q : List (S85)) (b : Int) (y : List (S69)) : Option (Bool) := (l6_Wide.f k l p q b y).bind fun z => (if z = true then (some true) else (if b > 300 then ((r6_Valid.f k l p q b y).bind fun B => (some B)) else (some false)))
theorem l11_wide.calls {k : Nat} {D : ByteArray} {E : Option Addr} {F : Nat} {l : List (S83)} {G : Option Addr} {I : Nat} {p : List (S85)} {z : Int} {J : Option Addr} {L : Nat} {q : List (S69)} {r : Bool} {w : World} (V : q5 w E F l G I p J L q) (h : l11_wide.f k D l p z q = some r) :
  Calls Tryd.prog 7 #[.agg #[.string D, .slice E l.length F, .slice G p.length I, .int .i64 z, .slice J q.length L]] w fun e w' => e = .returned (.bool r) ∧ Below w.heap.size w w' := by
 have g6 := Tryd.underlying26; have B := a_ (Below.refl w.heap.size w); have H : ((l6_Wide.f k D l p z q).bind fun a4 => (if a4 = true then (some true) else (if z > 300 then ((r6_Valid.f k D l p z q).bind fun a7 => (some a7)) else (some false)))) = some r := h
 clear h; replace H := q_bd H; obtain ⟨a4, a8, H⟩ := H; have A2 := a_ a8; clear a8; cases a4
 {
 replace H := q_if H; rcases q_ite H with ⟨c7b0, H⟩ | ⟨c7b0, H⟩
 {
 replace H := q_bd H; obtain ⟨a7, a9, H⟩ := H; have A8 := a_ a9; clear a9; obtain rfl := q_so H; go_enter Tryd.func7, Tryd.ntmps7
 go_wp2_with (first | ((with_reducible refine gd_ 1 rfl ?_); refine q_box 1 26 #[.string D, .slice E l.length F, .slice G p.length I, .int .i64 z, .slice J q.length L] ?_; intro a5 hg w9 M hb; have b := a_ M; have a6 := a_ (q_ge B.out hg); have y := a_ (q_ge B.out hg); replace B := a_ (q_st B.out hb); clear hb M hg; obtain ⟨b0, b1, b2, b3, b4, b5, b6, b7, b8, b9⟩ := q_cf5 b.out) | ((with_reducible refine gc_ 26 rfl ?_); refine q_gl 4 #[.agg #[.string D, .slice E l.length F, .slice G p.length I, .int .i64 z, .slice J q.length L]] Tryd.func26 rfl ?_; (with_reducible refine (l6_Wide.calls (q_F V B.out) A2.out).mono ?_); rintro e g8 ⟨rfl, hb⟩; refine ⟨_, rfl, ?_⟩; replace b := a_ (q_bk b.out hb); replace B := a_ (q_st1 B.out hb y.out); (clear hb); obtain ⟨c0, c1, c4, c6, c8, c9, d0, d1, d2, d3⟩ := q_cf5 b.out) | (go_at_call 27; (with_reducible refine (r6_Valid.calls (q_F V B.out) A8.out).mono ?_); rintro e g9 ⟨rfl, hb⟩; replace b := a_ (q_bk b.out hb); replace B := a_ (q_st1 B.out hb y.out); (clear hb)))
 go_ret
 exact ⟨q_e, q_w1 B.out y.out⟩}
 {
 obtain rfl := q_so H; go_enter Tryd.func7, Tryd.ntmps7
 go_wp2_with (first | ((with_reducible refine gd_ 1 rfl ?_); refine q_box 1 26 #[.string D, .slice E l.length F, .slice G p.length I, .int .i64 z, .slice J q.length L] ?_; intro a5 hg i0 M hb; have b := a_ M; have a6 := a_ (q_ge B.out hg); have y := a_ (q_ge B.out hg); replace B := a_ (q_st B.out hb); clear hb M hg; obtain ⟨d4, d5, d6, d7, d8, d9, e0, e1, e2, e3⟩ := q_cf5 b.out) | ((with_reducible refine gc_ 26 rfl ?_); refine q_gl 4 #[.agg #[.string D, .slice E l.length F, .slice G p.length I, .int .i64 z, .slice J q.length L]] Tryd.func26 rfl ?_; (with_reducible refine (l6_Wide.calls (q_F V B.out) A2.out).mono ?_); rintro e i1 ⟨rfl, hb⟩; refine ⟨_, rfl, ?_⟩; replace b := a_ (q_bk b.out hb); replace B := a_ (q_st1 B.out hb y.out); (clear hb); obtain ⟨e4, e5, e6, e7, e8, e9, f0, f1, f2, f3⟩ := q_cf5 b.out))
 go_ret
 exact ⟨q_e, q_w1 B.out y.out⟩}}
 {
 rw [if_pos rfl] at H; obtain rfl := q_so H; go_enter Tryd.func7, Tryd.ntmps7
 go_wp2_with (first | ((with_reducible refine gd_ 1 rfl ?_); refine q_box 1 26 #[.string D, .slice E l.length F, .slice G p.length I, .int .i64 z, .slice J q.length L] ?_; intro a5 hg w4 M hb; have b := a_ M; have a6 := a_ (q_ge B.out hg); have y := a_ (q_ge B.out hg); replace B := a_ (q_st B.out hb); clear hb M hg; obtain ⟨f5, f6, f7, f8, f9, g0, g1, g2, g3, g4⟩ := q_cf5 b.out) | ((with_reducible refine gc_ 26 rfl ?_); refine q_gl 4 #[.agg #[.string D, .slice E l.length F, .slice G p.length I, .int .i64 z, .slice J q.length L]] Tryd.func26 rfl ?_; (with_reducible refine (l6_Wide.calls (q_F V B.out) A2.out).mono ?_); rintro e w6 ⟨rfl, hb⟩; refine ⟨_, rfl, ?_⟩; replace b := a_ (q_bk b.out hb); replace B := a_ (q_st1 B.out hb y.out); (clear hb)))
 go_ret
 exact ⟨q_e, q_w1 B.out y.out⟩}
def alloc_fits.l0 : Nat → List (S69) → Int → Int → Option (Int)
 | 0, _, _, _ => none
 | k + 1, p, l, b => if b < l then (if 0 ≤ b then (if b < (p.length : Int) then (if (((rd_T69 p b).f0).length : Int) > 0 then (if 0 < (((rd_T69 p b).f0).length : Int) then (if ((rd_T71 ((rd_T69 p b).f0) 0).f0) = 11 then (some 6) else (alloc_fits.l0 k p l (wrap64 (b + 1)))) else (none)) else (alloc_fits.l0 k p l (wrap64 (b + 1)))) else (none)) else (none)) else (some 0)
def alloc_fits.f (k : Nat) (l : ByteArray) (p : List (S83)) (q : List (S85)) (y : Int) (b : List (S69)) : Option (Int) := (flow_Valid.f k l p q y b).bind fun z => (if z = true then (alloc_fits.l0 k b (b.length : Int) 0) else (some 1))
theorem alloc_fits.calls (k : Nat) (a9 : ByteArray) (b1 : Option Addr) (b2 : Nat) (a4 : List (S83)) (b3 : Option Addr) (b4 : Nat) (a5 : List (S85)) (b0 : Int) (b5 : Option Addr) (b6 : Nat) (q : List (S69)) (r : Int) (w : World) (d4 : q5 w b1 b2 a4 b3 b4 a5 b5 b6 q) (h : alloc_fits.f k a9 a4 a5 b0 q = some r) (hT : Tab w) :
  Calls Tryd.prog 29 #[.agg #[.string a9, .slice b1 a4.length b2, .slice b3 a5.length b4, .int .i64 b0, .slice b5 q.length b6]] w fun e w' => e = .returned (.int .i64 r) ∧ Below w.heap.size w w' := by
 obtain ⟨_, _, _, _, b7, _⟩ := q_O d4; have HT := a_ hT; clear hT; have q4 := Tryd.underlying26; have q5 := Tryd.underlying69; have V := a_ (Below.refl w.heap.size w); have H : ((flow_Valid.f k a9 a4 a5 b0 q).bind fun e5 => (if e5 = true then (alloc_fits.l0 k q (q.length : Int) 0) else (some 1))) = some r := h
 clear h; replace H := q_bd H; obtain ⟨e5, j9, H⟩ := H; have A2 := a_ j9; clear j9; cases e5
 {
 replace H := q_if H; obtain rfl := q_so H; go_enter Tryd.func29, Tryd.ntmps29
 go_wp2_with (first | ((with_reducible refine gd_ 1 rfl ?_); refine q_box 1 26 #[.string a9, .slice b1 a4.length b2, .slice b3 a5.length b4, .int .i64 b0, .slice b5 q.length b6] ?_; intro e6 hg r2 a3 hb; have R := a_ a3; have j5 := a_ (q_ge V.out hg); have T := a_ (q_ge V.out hg); replace V := a_ (q_st V.out hb); clear hb a3 hg; obtain ⟨o5, o6, o7, o8, o9, p0, p1, p2, p3, p4⟩ := q_cf5 R.out) | ((with_reducible refine gc_ 43 rfl ?_); refine q_gl 6 #[.agg #[.string a9, .slice b1 a4.length b2, .slice b3 a5.length b4, .int .i64 b0, .slice b5 q.length b6]] Tryd.func43 rfl ?_; (with_reducible refine (flow_Valid.calls (q_F d4 V.out) A2.out ?hTab).mono ?_); (case hTab => exact HT.out.below (q_w1 V.out T.out)); rintro e r3 ⟨rfl, hb⟩; refine ⟨_, rfl, ?_⟩; replace R := a_ (q_bk R.out hb); replace V := a_ (q_st1 V.out hb T.out); (clear hb)))
 go_ret
 exact ⟨q_e, q_w1 V.out T.out⟩}
 {
 rw [if_pos rfl] at H; have H' := a_ H
 clear H; go_enter Tryd.func29, Tryd.ntmps29
 go_wp2_with (first | ((with_reducible refine gd_ 1 rfl ?_); refine q_box 1 26 #[.string a9, .slice b1 a4.length b2, .slice b3 a5.length b4, .int .i64 b0, .slice b5 q.length b6] ?_; intro e6 hg w4 a3 hb; have R := a_ a3; have j5 := a_ (q_ge V.out hg); have T := a_ (q_ge V.out hg); replace V := a_ (q_st V.out hb); clear hb a3 hg; obtain ⟨f6, f7, f8, f9, g0, g1, g2, g3, g4, g5⟩ := q_cf5 R.out) | ((with_reducible refine gc_ 43 rfl ?_); refine q_gl 6 #[.agg #[.string a9, .slice b1 a4.length b2, .slice b3 a5.length b4, .int .i64 b0, .slice b5 q.length b6]] Tryd.func43 rfl ?_; (with_reducible refine (flow_Valid.calls (q_F d4 V.out) A2.out ?hTab).mono ?_); (case hTab => exact HT.out.below (q_w1 V.out T.out)); rintro e w6 ⟨rfl, hb⟩; refine ⟨_, rfl, ?_⟩; replace R := a_ (q_bk R.out hb); replace V := a_ (q_st1 V.out hb T.out); (clear hb); obtain ⟨g6, g7, g8, g9, i0, i1, i2, i3, i4, i5⟩ := q_cf5 R.out))
 go_loopg [11] k (fun kq p6 w' => ∃ (b : Int), p6 = .int .i64 b ∧ Aside0 (alloc_fits.l0 kq q (q.length : Int) b = some r) ∧ Aside0 (kq ≤ k) ∧ Aside0 (w'.heap[e6]? = some (.cells #[.string a9, (.slice b1 a4.length b2), (.slice b3 a5.length b4), .int .i64 b0, (.slice b5 q.length b6)] 26 (0, 0))) ∧ Aside0 (Below w.heap.size w w'))
 case atStart => exact ⟨(0), q_r, H', ⟨Nat.le_refl _⟩, ⟨q_k R.out⟩, ⟨q_w1 V.out T.out⟩⟩
 case round => (
 clear H'; clear f6 f7 f8 f9 g0 g6 g7 g8 g9 i0 g1 g2 g3 g4 g5 i1 i2 i3 i4 i5; obtain ⟨b, rfl, HA, i6, R, V⟩ := hrel; cases gk with
 | zero => exact absurd HA.out (by simp [alloc_fits.l0])
 | succ k1 => (
 have H := HA.out; clear HA; simp only [alloc_fits.l0] at H
 rcases q_ite H with ⟨c8b0, H⟩ | ⟨c8b0, H⟩
 {
 replace H := q_gD H; obtain ⟨-, c9b0, H⟩ := H; replace H := q_gD H; obtain ⟨-, c10b0, H⟩ := H; replace H := q_iD H; rcases H with ⟨j6, c11b0, H⟩ | ⟨j6, c11b0, H⟩
 {
 have c11b1 : decide (0 < ((rd_T69 q b).f0).length) = true := decide_eq_true (by omega)
 clear j6; replace H := q_gD H; obtain ⟨p7, c12b0, H⟩ := H; have c12b1 : decide (0 < ((rd_T69 q b).f0).length) = true := decide_eq_true (by omega)
 clear p7; replace H := q_iBN H; rcases H with ⟨-, c13b0, c13b1, H⟩ | ⟨q8, c13b0, c13b1, H⟩
 {
 obtain rfl := q_so H; obtain ⟨e7, d3, S, c4, c6, c8, c9, d0, d1, X, a0, i9, j3⟩ := b_T69 b7.out V.out b; cases c4; have a8 := a_ a0; have d2 := a_ X; clear a0 X; go_wp2_with (first | ((with_reducible refine gd_ 4 rfl ?_); refine q_box 4 69 #[.slice none 0 0, .int .i64 0, .int .i64 0, .int .i64 0, .int .i64 0] ?_; intro l hg q9 a3 hb; have b8 := a_ a3; have a1 := a_ (q_ge1 V.out hg T.out); have b9 := a_ (q_ge1 V.out hg T.out); have U := a_ (q_ne R.out hg); have a2 := a_ (q_en R.out hg); replace R := a_ (q_bk R.out hb); replace V := a_ (q_st1 V.out hb T.out); clear hb a3 hg; have p8 := a2.out; have p9 := U.out; obtain ⟨k0, k2, k3, k4, k5, k6, k7, k8, k9, l4⟩ := q_cf5 b8.out; have c0 : 0 ≤ (0 : Int) := (by omega); have c1 : 0 < (((rd_T69 q b).f0).length : Int) := q_d; obtain ⟨O, i7, i8, e8, F, G, I, J, L, M, N, a6, a7⟩ := at_T71 a8.out 0 c0 c1; cases e8; have j7 : (0 < ((rd_T69 q b).f0).length) = True := eq_true (by omega); (try rw [show ((0 : Int)).toNat = 0 from rfl] at F); (try rw [show 0 * 7 = 0 from rfl] at F); (try rw [Addr.add_zero'] at F); (try rw [show ((0 : Int)).toNat = 0 from rfl] at G); (try rw [show 0 * 7 = 0 from rfl] at G); (try rw [Addr.add_zero'] at G); (try rw [show ((0 : Int)).toNat = 0 from rfl] at I); (try rw [show 0 * 7 = 0 from rfl] at I); (try rw [Addr.add_zero'] at I); (try rw [show ((0 : Int)).toNat = 0 from rfl] at J); (try rw [show 0 * 7 = 0 from rfl] at J); (try rw [Addr.add_zero'] at J); (try rw [show ((0 : Int)).toNat = 0 from rfl] at L); (try rw [show 0 * 7 = 0 from rfl] at L); (try rw [Addr.add_zero'] at L); (try rw [show ((0 : Int)).toNat = 0 from rfl] at M); (try rw [show 0 * 7 = 0 from rfl] at M); (try rw [Addr.add_zero'] at M); (try rw [show ((0 : Int)).toNat = 0 from rfl] at N); (try rw [show 0 * 7 = 0 from rfl] at N); (try rw [Addr.add_zero'] at N); have y : O.block ≠ l := Nat.ne_of_lt (Nat.lt_of_lt_of_le (by have := World.block_lt_of_cell? _ _ F; first | rwa [add_block] at this | exact this) a1.out); have z : O.block ≠ l := Nat.ne_of_lt (Nat.lt_of_lt_of_le (by have := World.block_lt_of_cell? _ _ F; first | rwa [add_block] at this | exact this) a1.out); have B : O.block ≠ l := Nat.ne_of_lt (Nat.lt_of_lt_of_le (by have := World.block_lt_of_cell? _ _ F; first | rwa [add_block] at this | exact this) a1.out); have D : O.block ≠ l := Nat.ne_of_lt (Nat.lt_of_lt_of_le (by have := World.block_lt_of_cell? _ _ F; first | rwa [add_block] at this | exact this) a1.out); have E : O.block ≠ l := Nat.ne_of_lt (Nat.lt_of_lt_of_le (by have := World.block_lt_of_cell? _ _ F; first | rwa [add_block] at this | exact this) a1.out); replace F := q_kc V.out F; replace G := q_kc V.out G; replace I := q_kc V.out I; replace J := q_kc V.out J; replace L := q_kc V.out L; replace M := q_kc V.out M; replace N := q_kc V.out N; have e9 := a_ a7; have f5 := a_ a6; clear a7 a6; replace F := q_far l 0 (.slice (some O) ((rd_T69 q b).f0).length S) y F; replace G := q_far l 0 (.slice (some O) ((rd_T69 q b).f0).length S) y G; replace I := q_far l 0 (.slice (some O) ((rd_T69 q b).f0).length S) y I; replace J := q_far l 0 (.slice (some O) ((rd_T69 q b).f0).length S) y J; replace L := q_far l 0 (.slice (some O) ((rd_T69 q b).f0).length S) y L; replace M := q_far l 0 (.slice (some O) ((rd_T69 q b).f0).length S) y M; replace N := q_far l 0 (.slice (some O) ((rd_T69 q b).f0).length S) y N; replace F := q_far l 1 (.int .i64 ((rd_T69 q b).f1)) z F; replace G := q_far l 1 (.int .i64 ((rd_T69 q b).f1)) z G; replace I := q_far l 1 (.int .i64 ((rd_T69 q b).f1)) z I; replace J := q_far l 1 (.int .i64 ((rd_T69 q b).f1)) z J; replace L := q_far l 1 (.int .i64 ((rd_T69 q b).f1)) z L; replace M := q_far l 1 (.int .i64 ((rd_T69 q b).f1)) z M; replace N := q_far l 1 (.int .i64 ((rd_T69 q b).f1)) z N; replace F := q_far l 2 (.int .i64 ((rd_T69 q b).f2)) B F; replace G := q_far l 2 (.int .i64 ((rd_T69 q b).f2)) B G; replace I := q_far l 2 (.int .i64 ((rd_T69 q b).f2)) B I; replace J := q_far l 2 (.int .i64 ((rd_T69 q b).f2)) B J; replace L := q_far l 2 (.int .i64 ((rd_T69 q b).f2)) B L; replace M := q_far l 2 (.int .i64 ((rd_T69 q b).f2)) B M; replace N := q_far l 2 (.int .i64 ((rd_T69 q b).f2)) B N; replace F := q_far l 3 (.int .i64 ((rd_T69 q b).f3)) D F; replace G := q_far l 3 (.int .i64 ((rd_T69 q b).f3)) D G; replace I := q_far l 3 (.int .i64 ((rd_T69 q b).f3)) D I; replace J := q_far l 3 (.int .i64 ((rd_T69 q b).f3)) D J; replace L := q_far l 3 (.int .i64 ((rd_T69 q b).f3)) D L; replace M := q_far l 3 (.int .i64 ((rd_T69 q b).f3)) D M; replace N := q_far l 3 (.int .i64 ((rd_T69 q b).f3)) D N; replace F := q_far l 4 (.int .i64 ((rd_T69 q b).f4)) E F; replace G := q_far l 4 (.int .i64 ((rd_T69 q b).f4)) E G; replace I := q_far l 4 (.int .i64 ((rd_T69 q b).f4)) E I; replace J := q_far l 4 (.int .i64 ((rd_T69 q b).f4)) E J; replace L := q_far l 4 (.int .i64 ((rd_T69 q b).f4)) E L; replace M := q_far l 4 (.int .i64 ((rd_T69 q b).f4)) E M; replace N := q_far l 4 (.int .i64 ((rd_T69 q b).f4)) E N; clear y; clear z; clear B; clear D; clear E; replace c0 := eq_true c0; replace c1 := eq_true c1))
 go_ret
 exact ⟨q_e, q_w2 V.out T.out b9.out⟩}
 {
 have H' := a_ H
 clear H; obtain ⟨e7, d3, S, c4, c6, c8, c9, d0, d1, X, a0, i9, j3⟩ := b_T69 b7.out V.out b; cases c4; have a8 := a_ a0; have d2 := a_ X; clear a0 X; go_wp2_with (first | ((with_reducible refine gd_ 4 rfl ?_); refine q_box 4 69 #[.slice none 0 0, .int .i64 0, .int .i64 0, .int .i64 0, .int .i64 0] ?_; intro l hg r0 a3 hb; have b8 := a_ a3; have a1 := a_ (q_ge1 V.out hg T.out); have b9 := a_ (q_ge1 V.out hg T.out); have U := a_ (q_ne R.out hg); have a2 := a_ (q_en R.out hg); replace R := a_ (q_bk R.out hb); replace V := a_ (q_st1 V.out hb T.out); clear hb a3 hg; have q0 := a2.out; have q1 := U.out; obtain ⟨l5, l6, l7, l8, l9, n0, n1, n2, n3, n4⟩ := q_cf5 b8.out; have c0 : 0 ≤ (0 : Int) := (by omega); have c1 : 0 < (((rd_T69 q b).f0).length : Int) := q_d; obtain ⟨O, i7, i8, e8, F, G, I, J, L, M, N, a6, a7⟩ := at_T71 a8.out 0 c0 c1; cases e8; have j7 : (0 < ((rd_T69 q b).f0).length) = True := eq_true (by omega); (try rw [show ((0 : Int)).toNat = 0 from rfl] at F); (try rw [show 0 * 7 = 0 from rfl] at F); (try rw [Addr.add_zero'] at F); (try rw [show ((0 : Int)).toNat = 0 from rfl] at G); (try rw [show 0 * 7 = 0 from rfl] at G); (try rw [Addr.add_zero'] at G); (try rw [show ((0 : Int)).toNat = 0 from rfl] at I); (try rw [show 0 * 7 = 0 from rfl] at I); (try rw [Addr.add_zero'] at I); (try rw [show ((0 : Int)).toNat = 0 from rfl] at J); (try rw [show 0 * 7 = 0 from rfl] at J); (try rw [Addr.add_zero'] at J); (try rw [show ((0 : Int)).toNat = 0 from rfl] at L); (try rw [show 0 * 7 = 0 from rfl] at L); (try rw [Addr.add_zero'] at L); (try rw [show ((0 : Int)).toNat = 0 from rfl] at M); (try rw [show 0 * 7 = 0 from rfl] at M); (try rw [Addr.add_zero'] at M); (try rw [show ((0 : Int)).toNat = 0 from rfl] at N); (try rw [show 0 * 7 = 0 from rfl] at N); (try rw [Addr.add_zero'] at N); have y : O.block ≠ l := Nat.ne_of_lt (Nat.lt_of_lt_of_le (by have := World.block_lt_of_cell? _ _ F; first | rwa [add_block] at this | exact this) a1.out); have z : O.block ≠ l := Nat.ne_of_lt (Nat.lt_of_lt_of_le (by have := World.block_lt_of_cell? _ _ F; first | rwa [add_block] at this | exact this) a1.out); have B : O.block ≠ l := Nat.ne_of_lt (Nat.lt_of_lt_of_le (by have := World.block_lt_of_cell? _ _ F; first | rwa [add_block] at this | exact this) a1.out); have D : O.block ≠ l := Nat.ne_of_lt (Nat.lt_of_lt_of_le (by have := World.block_lt_of_cell? _ _ F; first | rwa [add_block] at this | exact this) a1.out); have E : O.block ≠ l := Nat.ne_of_lt (Nat.lt_of_lt_of_le (by have := World.block_lt_of_cell? _ _ F; first | rwa [add_block] at this | exact this) a1.out); replace F := q_kc V.out F; replace G := q_kc V.out G; replace I := q_kc V.out I; replace J := q_kc V.out J; replace L := q_kc V.out L; replace M := q_kc V.out M; replace N := q_kc V.out N; have e9 := a_ a7; have f5 := a_ a6; clear a7 a6; replace F := q_far l 0 (.slice (some O) ((rd_T69 q b).f0).length S) y F; replace G := q_far l 0 (.slice (some O) ((rd_T69 q b).f0).length S) y G; replace I := q_far l 0 (.slice (some O) ((rd_T69 q b).f0).length S) y I; replace J := q_far l 0 (.slice (some O) ((rd_T69 q b).f0).length S) y J; replace L := q_far l 0 (.slice (some O) ((rd_T69 q b).f0).length S) y L; replace M := q_far l 0 (.slice (some O) ((rd_T69 q b).f0).length S) y M; replace N := q_far l 0 (.slice (some O) ((rd_T69 q b).f0).length S) y N; replace F := q_far l 1 (.int .i64 ((rd_T69 q b).f1)) z F; replace G := q_far l 1 (.int .i64 ((rd_T69 q b).f1)) z G; replace I := q_far l 1 (.int .i64 ((rd_T69 q b).f1)) z I; replace J := q_far l 1 (.int .i64 ((rd_T69 q b).f1)) z J; replace L := q_far l 1 (.int .i64 ((rd_T69 q b).f1)) z L; replace M := q_far l 1 (.int .i64 ((rd_T69 q b).f1)) z M; replace N := q_far l 1 (.int .i64 ((rd_T69 q b).f1)) z N; replace F := q_far l 2 (.int .i64 ((rd_T69 q b).f2)) B F; replace G := q_far l 2 (.int .i64 ((rd_T69 q b).f2)) B G; replace I := q_far l 2 (.int .i64 ((rd_T69 q b).f2)) B I; replace J := q_far l 2 (.int .i64 ((rd_T69 q b).f2)) B J; replace L := q_far l 2 (.int .i64 ((rd_T69 q b).f2)) B L; replace M := q_far l 2 (.int .i64 ((rd_T69 q b).f2)) B M; replace N := q_far l 2 (.int .i64 ((rd_T69 q b).f2)) B N; replace F := q_far l 3 (.int .i64 ((rd_T69 q b).f3)) D F; replace G := q_far l 3 (.int .i64 ((rd_T69 q b).f3)) D G; replace I := q_far l 3 (.int .i64 ((rd_T69 q b).f3)) D I; replace J := q_far l 3 (.int .i64 ((rd_T69 q b).f3)) D J; replace L := q_far l 3 (.int .i64 ((rd_T69 q b).f3)) D L; replace M := q_far l 3 (.int .i64 ((rd_T69 q b).f3)) D M; replace N := q_far l 3 (.int .i64 ((rd_T69 q b).f3)) D N; replace F := q_far l 4 (.int .i64 ((rd_T69 q b).f4)) E F; replace G := q_far l 4 (.int .i64 ((rd_T69 q b).f4)) E G; replace I := q_far l 4 (.int .i64 ((rd_T69 q b).f4)) E I; replace J := q_far l 4 (.int .i64 ((rd_T69 q b).f4)) E J; replace L := q_far l 4 (.int .i64 ((rd_T69 q b).f4)) E L; replace M := q_far l 4 (.int .i64 ((rd_T69 q b).f4)) E M; replace N := q_far l 4 (.int .i64 ((rd_T69 q b).f4)) E N; clear y; clear z; clear B; clear D; clear E; replace c0 := eq_true c0; replace c1 := eq_true c1))
 go_roundg k1
 case measure => have := i6.out; omega
 case rel => exact ⟨(wrap64 (b + 1)), q_r, H', ⟨by have := i6.out; omega⟩, ⟨q_f1 R.out U.out⟩, ⟨q_w2 V.out T.out b9.out⟩⟩}}
 {
 have c11b1 : decide (0 < ((rd_T69 q b).f0).length) = false := decide_eq_false (by omega)
 clear j6; have H' := a_ H
 clear H; obtain ⟨e7, d3, S, c4, c6, c8, c9, d0, d1, X, a0, i9, j3⟩ := b_T69 b7.out V.out b; cases c4; have a8 := a_ a0; have d2 := a_ X; clear a0 X; go_wp2_with (first | ((with_reducible refine gd_ 4 rfl ?_); refine q_box 4 69 #[.slice none 0 0, .int .i64 0, .int .i64 0, .int .i64 0, .int .i64 0] ?_; intro l hg r1 a3 hb; have b8 := a_ a3; have a1 := a_ (q_ge1 V.out hg T.out); have b9 := a_ (q_ge1 V.out hg T.out); have U := a_ (q_ne R.out hg); have a2 := a_ (q_en R.out hg); replace R := a_ (q_bk R.out hb); replace V := a_ (q_st1 V.out hb T.out); clear hb a3 hg; have q2 := a2.out; have q3 := U.out; obtain ⟨n5, n6, n7, n8, n9, o0, o1, o2, o3, o4⟩ := q_cf5 b8.out))
 go_roundg k1
 case measure => have := i6.out; omega
 case rel => exact ⟨(wrap64 (b + 1)), q_r, H', ⟨by have := i6.out; omega⟩, ⟨q_f1 R.out U.out⟩, ⟨q_w2 V.out T.out b9.out⟩⟩}}
 {
 obtain rfl := q_so H; go_wp2
 go_ret
 exact ⟨q_e, q_w1 V.out T.out⟩}))}
def flow_Successors.l0 : Nat → List (List Int) → List (S69) → Int → Int → Option ((List (List Int)) × Int)
 | 0, _, _, _, _ => none
 | k + 1, y, l, p, b => if b < p then (if 0 ≤ b then (if b < (l.length : Int) then ((flow_next.f ((rd_T69 l b).f0) ((rd_T69 l b).f1) ((rd_T69 l b).f2) ((rd_T69 l b).f3) ((rd_T69 l b).f4)).bind fun q => (if y.length < 5864062014805 then (flow_Successors.l0 k (y ++ [q]) l p (wrap64 (b + 1))) else (none))) else (none)) else (none)) else (some (y, 0))
def flow_Successors.f (k : Nat) (l : ByteArray) (p : List (S83)) (q : List (S85)) (y : Int) (b : List (S69)) : Option ((List (List Int)) × Int) := (flow_Valid.f k l p q y b).bind fun z => (if z = true then (flow_Successors.l0 k ([] : List (List Int)) b (b.length : Int) 0) else (some (([] : List (List Int)), 1)))
theorem flow_Successors.calls {k : Nat} {I : ByteArray} {M : Option Addr} {N : Nat} {B : List (S83)} {O : Option Addr} {R : Nat} {D : List (S85)} {J : Int} {a0 : Option Addr} {T : Nat} {l : List (S69)} {r1 : List (List Int)} {r2 : Int} {w : World} (b1 : q5 w M N B O R D a0 T l) (h : flow_Successors.f k I B D J l = some (r1, r2)) (hT : Tab w) :
  Calls Tryd.prog 24 #[.agg #[.string I, .slice M B.length N, .slice O D.length R, .int .i64 J, .slice a0 l.length T]] w fun e w' => ∃ g6 : Value, e = .returned (.tuple #[g6, .int .i64 r2]) ∧ Kd.S (Kd.slice 3 (Kd.int .i64)) 27 w' w.heap.size (fun _ => True) g6 r1 ∧ Below w.heap.size w w' := by
 obtain ⟨_, _, _, _, a6, _⟩ := q_O b1; have HT := a_ hT; clear hT; have n7 := Tryd.underlying26; have n8 := Tryd.underlying69; have E := a_ (Below.refl w.heap.size w); have H : ((flow_Valid.f k I B D J l).bind fun c4 => (if c4 = true then (flow_Successors.l0 k ([] : List (List Int)) l (l.length : Int) 0) else (some (([] : List (List Int)), 1)))) = some (r1, r2) := h
 clear h; replace H := q_bd H; obtain ⟨c4, g7, H⟩ := H; have A2 := a_ g7; clear g7; cases c4
 {
 replace H := q_if H; simp only [Option.some.injEq, Prod.mk.injEq] at H
 obtain ⟨rfl, rfl⟩ := H; go_enter Tryd.func24, Tryd.ntmps24
 go_wp2_with (first | ((with_reducible refine gd_ 1 rfl ?_); refine q_box 1 26 #[.string I, .slice M B.length N, .slice O D.length R, .int .i64 J, .slice a0 l.length T] ?_; intro a7 hg o9 U hb; have y := a_ U; have f8 := a_ (q_ge E.out hg); have z := a_ (q_ge E.out hg); replace E := a_ (q_st E.out hb); clear hb U hg; obtain ⟨k6, k7, k8, k9, l4, l5, l6, l7, l8, l9⟩ := q_cf5 y.out) | ((with_reducible refine gc_ 43 rfl ?_); refine q_gl 8 #[.agg #[.string I, .slice M B.length N, .slice O D.length R, .int .i64 J, .slice a0 l.length T]] Tryd.func43 rfl ?_; (with_reducible refine (flow_Valid.calls (q_F b1 E.out) A2.out ?hTab).mono ?_); (case hTab => exact HT.out.below (q_w1 E.out z.out)); rintro e p0 ⟨rfl, hb⟩; refine ⟨_, rfl, ?_⟩; replace y := a_ (q_bk y.out hb); replace E := a_ (q_st1 E.out hb z.out); (clear hb)))
 go_ret2
 exact ⟨_, q_e, by first | exact Kd.S_nil _ _ _ _ _ | exact Kd.N_nil _ _ _ _ _ | exact Kd.V_nil _ _ _ _ _ | exact Kd.Q_nil _ _ _ _ _ | exact Kd.R_nil _ _ _ _ _, q_w1 E.out z.out⟩}
 {
 rw [if_pos rfl] at H; have H' := a_ H
 clear H; go_enter Tryd.func24, Tryd.ntmps24
 go_wp2_with (first | ((with_reducible refine gd_ 1 rfl ?_); refine q_box 1 26 #[.string I, .slice M B.length N, .slice O D.length R, .int .i64 J, .slice a0 l.length T] ?_; intro a7 hg w4 U hb; have y := a_ U; have f8 := a_ (q_ge E.out hg); have z := a_ (q_ge E.out hg); replace E := a_ (q_st E.out hb); clear hb U hg; obtain ⟨c9, d0, d1, d2, d3, d4, d5, d6, d7, d8⟩ := q_cf5 y.out) | ((with_reducible refine gc_ 43 rfl ?_); refine q_gl 8 #[.agg #[.string I, .slice M B.length N, .slice O D.length R, .int .i64 J, .slice a0 l.length T]] Tryd.func43 rfl ?_; (with_reducible refine (flow_Valid.calls (q_F b1 E.out) A2.out ?hTab).mono ?_); (case hTab => exact HT.out.below (q_w1 E.out z.out)); rintro e w6 ⟨rfl, hb⟩; refine ⟨_, rfl, ?_⟩; replace y := a_ (q_bk y.out hb); replace E := a_ (q_st1 E.out hb z.out); (clear hb); obtain ⟨d9, e0, e1, e2, e3, e4, e5, e6, e7, e8⟩ := q_cf5 y.out))
 go_loopg [4, 13] k (fun kq v4 n2 w' => ∃ (a3 : List (List Int)) (q : Int), n2 = .int .i64 q ∧ Aside0 (flow_Successors.l0 kq a3 l (l.length : Int) q = some (r1, r2)) ∧ Aside0 (kq ≤ k) ∧ Aside0 (Kd.S (Kd.slice 3 (Kd.int .i64)) 27 w' w.heap.size (fun _ => True) v4 a3) ∧ Aside0 (w'.heap[a7]? = some (.cells #[.string I, (.slice M B.length N), (.slice O D.length R), .int .i64 J, (.slice a0 l.length T)] 26 (0, 0))) ∧ Aside0 (Below w.heap.size w w'))
 case atStart => exact ⟨(([] : List (List Int))), (0), q_r, H', ⟨Nat.le_refl _⟩, ⟨by first | exact Kd.S_nil _ _ _ _ _ | exact Kd.N_nil _ _ _ _ _ | exact Kd.V_nil _ _ _ _ _ | exact Kd.Q_nil _ _ _ _ _ | exact Kd.R_nil _ _ _ _ _⟩, ⟨q_k y.out⟩, ⟨q_w1 E.out z.out⟩⟩
 case round => (
 clear H'; clear c9 d0 d1 d2 d3 d9 e0 e1 e2 e3 d4 d5 d6 d7 d8 e4 e5 e6 e7 e8; obtain ⟨a3, q, rfl, HA, g8, HO_4, y, E⟩ := hrel; cases gk with
 | zero => exact absurd HA.out (by simp [flow_Successors.l0])
 | succ k1 => (
 have H := HA.out; clear HA; simp only [flow_Successors.l0] at H
 rcases q_ite H with ⟨c8b0, H⟩ | ⟨c8b0, H⟩
 {
 replace H := q_gD H; obtain ⟨-, c9b0, H⟩ := H; replace H := q_gD H; obtain ⟨-, c10b0, H⟩ := H; replace H := q_bd H; obtain ⟨b0, e9, H⟩ := H; have n3 := a_ e9; clear e9; replace H := q_g H; obtain ⟨g9, H⟩ := H; have f9 := a_ g9; clear g9; obtain ⟨f5, a8⟩ : ∃ y_ : List (List Int), y_ = (a3 ++ [b0]) := ⟨_, rfl⟩; replace H : (flow_Successors.l0 k1 f5 l (l.length : Int) (wrap64 (q + 1))) = some (r1, r2) := q_rw a8 H
 have g0 := a_ a8; clear a8; have H' := a_ H
 clear H; obtain ⟨g1, V, X, i0, i1, i2, i3, i4, i5, a4, a5, o1, o2⟩ := b_T69 a6.out E.out q; cases i0; have c6 := a_ a5; have c8 := a_ a4; clear a5 a4; go_wp2_with (first | ((with_reducible refine gd_ 6 rfl ?_); refine q_box 6 69 #[.slice none 0 0, .int .i64 0, .int .i64 0, .int .i64 0, .int .i64 0] ?_; intro G hg o6 U hb; have F := a_ U; have n4 := a_ (q_ge1 E.out hg z.out); have L := a_ (q_ge1 E.out hg z.out); have a1 := a_ (q_ne y.out hg); have a9 := a_ (q_en y.out hg); replace HO_4 := a_ (Kd.S_below (q_S HO_4.out) hb); replace y := a_ (q_bk y.out hb); replace E := a_ (q_st1 E.out hb z.out); clear hb U hg; have n5 := a9.out; have n6 := a1.out; obtain ⟨i6, i7, i8, i9, j3, j5, j6, j7, j8, j9⟩ := q_cf5 F.out) | ((with_reducible refine gc_ 44 rfl ?_); refine q_gl 19 #[.agg #[.slice V ((rd_T69 l q).f0).length X, .int .i64 ((rd_T69 l q).f1), .int .i64 ((rd_T69 l q).f2), .int .i64 ((rd_T69 l q).f3), .int .i64 ((rd_T69 l q).f4)]] Tryd.func44 rfl ?_; (with_reducible refine (flow_next.calls (Kd.C_below c6.out (q_w2 E.out z.out L.out)) c8.out n3.out).mono ?_); rintro e o7 ⟨o3, rfl, g2, hb⟩; refine ⟨_, rfl, ?_⟩; have a2 := a_ (Kd.R_lower g2 (below_size (q_w2 E.out z.out L.out))); replace HO_4 := a_ (Kd.S_elder' (q_S ((Kd.S_mono (Kd.S_far (p := ⟨G, 4, none⟩) (Kd.S_far (p := ⟨G, 3, none⟩) (Kd.S_far (p := ⟨G, 2, none⟩) (Kd.S_far (p := ⟨G, 1, none⟩) (Kd.S_far (p := ⟨G, 0, none⟩) (Kd.S_types HO_4.out F.out (by decide)) (fun _ hk => hk.2) (.slice V ((rd_T69 l q).f0).length X)) (fun _ hk => hk.2) (.int .i64 ((rd_T69 l q).f1))) (fun _ hk => hk.2) (.int .i64 ((rd_T69 l q).f2))) (fun _ hk => hk.2) (.int .i64 ((rd_T69 l q).f3))) (fun _ hk => hk.2) (.int .i64 ((rd_T69 l q).f4))) (fun _ h_ => h_.1)))) (Kd.R_base g2) hb); replace y := a_ (blk_below (q_f1 y.out a1.out) hb); replace F := a_ (blk_below (g := G) (o := .cells #[.slice V ((rd_T69 l q).f0).length X, .int .i64 ((rd_T69 l q).f1), .int .i64 ((rd_T69 l q).f2), .int .i64 ((rd_T69 l q).f3), .int .i64 ((rd_T69 l q).f4)] 69 (0, 0)) (q_p F.out) hb); replace E := a_ (q_st2 E.out hb z.out L.out); clear hb g2; obtain ⟨f6, f7, k0⟩ := Kd.R_slice a2.out; subst k0) | ((with_reducible refine gate_builtin (b := .append) (xs := #[.tmp 17, .tmp 20]) rfl ?_); at_builtin; refine Kd.S_append (Kd.slice 3 (Kd.int .i64)) (w0 := w) w.heap.size rfl (.tmp 17) (.tmp 20) 42 27 (.slice none 0 0) 24 rfl Tryd.underlying42 info27 rfl (by decide) (by omega) u4 a3 b0 [.slice f6 b0.length f7] (fun _ => True) (fun k_ => some k_ = (.slice f6 b0.length f7 : Value).ownBlock) rfl rfl ?aP (fun k_ hk_ => ((Kd.R_mono (ok' := fun k_ => ((fun _ => True)) k_ ∧ some k_ ≠ (u4 : Value).ownBlock) (Kd.R_apart' (a2.out) (Kd.S_typed HO_4.out) (by decide)) (fun k_ hk => ⟨trivial, hk.2⟩))).1 k_ hk_.symm) ?aF ?aO ?aB ?aS ?aL ?_; (case aP => exact Kd.M_row (Kd.R_mono (Kd.R_tight rfl (Kd.R_mono (ok' := fun k_ => ((fun _ => True)) k_ ∧ some k_ ≠ (u4 : Value).ownBlock) (Kd.R_apart' (a2.out) (Kd.S_typed HO_4.out) (by decide)) (fun k_ hk => ⟨trivial, hk.2⟩))) (fun _ h_ => h_))); (case aB => exact (q_w2 E.out z.out L.out)); (case aF => exact (fun _ _ => trivial)); (case aO => exact (q_S (Kd.S_mono HO_4.out (fun k_ hk => ⟨trivial, fun e_ => hk.2 e_⟩)))); (case aS => exact (below_size (q_w2 E.out z.out L.out))); (case aL => have := f9.out; omega); intro o4 o8 ho hb hg hat; rw [← g0.out] at ho; have k2 := a_ (blk_grown (g := a7) (o := .cells #[.string I, .slice M B.length N, .slice O D.length R, .int .i64 J, .slice (some g1) l.length T] 26 (0, 0)) (q_k y.out) hg (Kd.S_ne HO_4.out y.out (by decide))); have k3 := a_ (blk_grown (g := G) (o := .cells #[.slice V ((rd_T69 l q).f0).length X, .int .i64 ((rd_T69 l q).f1), .int .i64 ((rd_T69 l q).f2), .int .i64 ((rd_T69 l q).f3), .int .i64 ((rd_T69 l q).f4)] 69 (0, 0)) (q_k F.out) hg (Kd.S_ne HO_4.out F.out (by decide))); have k4 := a_ hb; have k5 := a_ ho; clear y; clear F; clear E; clear HO_4; clear a2; have y := k2; have F := k3; have E := k4; have g3 := k5; clear k2 k3 k4 k5; clear ho hb hg hat))
 go_roundg k1
 case measure => have := g8.out; omega
 case rel => exact ⟨(f5), (wrap64 (q + 1)), q_r, H', ⟨by have := g8.out; omega⟩, ⟨q_S g3.out⟩, ⟨q_k y.out⟩, ⟨q_w2 E.out z.out L.out⟩⟩}
 {
 simp only [Option.some.injEq, Prod.mk.injEq] at H
 obtain ⟨rfl, rfl⟩ := H; go_wp2
 go_ret2
 exact ⟨_, q_e, q_S HO_4.out, q_w1 E.out z.out⟩}))}
end Go.Proofs.YtefhpdcafdhcaaaDoor.V
end
section
namespace Go.Proofs.YtefhpdcafdhcaaaDoor.M
open Go Go.RowKit Go.Proofs.YtefhpdcafdhcaaaDoorW.PrintWords Go.Proofs.YtefhpdcafdhcaaaDoorW.PrintLast Go.Proofs.YtefhpdcafdhcaaaDoorW.PrintMore Go.Proofs.YtefhpdcafdhcaaaDoor Go.Proofs.YtefhpdcafdhcaaaDoor.A Go.Proofs.YtefhpdcafdhcaaaDoor.B Go.Proofs.YtefhpdcafdhcaaaDoor.N Go.Proofs.YtefhpdcafdhcaaaDoor.V
open FlowM (next hasD hasA hasB Fine FineNd FineG)
def Ints (N : List S69) : Prop := ∀ n ∈ N, ∀ y ∈ n.f0, (-2147483648 ≤ y.f5 ∧ y.f5 ≤ 2147483647) ∧ (-9223372036854775808 ≤ y.f2 ∧ y.f2 ≤ 9223372036854775807)
theorem twice_ev {L : List S71} (hL : L.length < 100000) (d : Int) : ∀ (rest : List S71) (i : Nat), L.drop i = rest → Evt (fun k => r6_twice.l0 k L d (i : Int)) (rest.any fun y => y.f2 == d)
 | [], i, hd => by {
 have := drop_nil_ge hd
 refine Evt.succ ?_
 simp only [r6_twice.l0]
 exact Evt.neg (by omega) (Evt.const _)}
 | y :: rest, i, hd => by {
 obtain ⟨hr, hi, b⟩ := rd71_drop hd; refine Evt.succ ?_
 simp only [r6_twice.l0]
 refine Evt.pos (by omega) (Evt.pos (by omega) ?_)
 rw [hr, List.any_cons, wrap_succ i (by omega)]
 by_cases h : y.f2 = d
 ·rw [beq_iff_eq.2 h]; exact Evt.pos h (Evt.const _)
 ·rw [beq_eq_false_iff_ne.2 h, Bool.false_or]; exact Evt.neg h (twice_ev hL d rest (i + 1) b)}
def phis (l : List S71) : Bool := l.all fun y => y.f0 == 11
section
variable (nm : ByteArray) {ps : List S83} {ar : List S85} (rg : Int) {N : List S69}
theorem ins_ev (hp : ps.length ≤ 6) (ha : ar.length ≤ 400) (hrg : 0 ≤ rg) (P : List (List Int)) (S : List Bool) (i : Nat) (hi : i < P.length) (L : List S71) (hL : L.length ≤ 400) (hA : ∀ y ∈ L, y.f6.length ≤ 400) (hI : ∀ y ∈ L, (-2147483648 ≤ y.f5 ∧ y.f5 ≤ 2147483647) ∧ (-9223372036854775808 ≤ y.f2 ∧ y.f2 ≤ 9223372036854775807)) {r : Bool}
  (hr : Evt (fun k => r6_Valid.l1 k P S ((i + 1 : Nat) : Int) nm ps ar rg N) r) (hib : i < 100000) :
  ∀ (xs : List S71) (q : Nat), L.drop q = xs → ∀ (ph : Bool) (ch : List Int), ph = (decide (0 < i) && phis (L.take q)) → (q = 0 ∨ phis (L.take q) = ((rd_T71 L ((q : Int) - 1)).f0 == 11)) → (phis (L.take q) = true → ∀ d, d ∈ ch ↔ ((L.take q).any fun y => y.f2 == d) = true) →
   ∃ b, Evt (fun k => vIns k nm ps ar rg N ((P.getD i []).length : Int) xs ph ch) b ∧ Evt (fun k => r6_Valid.l2 k P S (i : Int) L (q : Int) nm ps ar rg N) (b && r) ∧ (b = true → (∀ y ∈ xs, FineA rg.toNat y) ∧ ((∃ y ∈ xs, y.f0 = 11) → ∃ x l, xs = x :: l ∧ x.f0 = 11 ∧ phis (L.take q) = true))
 | [], q, hd, ph, ch, _, _, _ => by {
 have := drop_nil_ge hd
 refine ⟨true, Evt.const _, ?_, fun _ => ⟨fun y hy => (by cases hy), fun ⟨y, hy, _⟩ => (by cases hy)⟩⟩
 refine Evt.succ ?_
 simp only [r6_Valid.l2]
 refine Evt.neg (by omega) ?_
 rw [wrap_succ i (by omega), Bool.true_and]
 exact hr}
 | x :: xs, q, hd, ph, ch, hph, hq, hch => by {
 obtain ⟨hrx, hqi, I⟩ := rd71_drop hd; have hxm : x ∈ L := by rw [← List.take_append_drop q L, hd]; simp
 have B : rd_L2 P (i : Int) = P.getD i [] := by simp [rd_L2]
 obtain ⟨O, hR, hF, hfine⟩ := instr_ev nm rg N (ps := ps) (ar := ar) hp ha hrg ((P.getD i []).length : Int) x (by have := hA x hxm; omega) (hI x hxm).1
 have htk : L.take (q + 1) = L.take q ++ [x] := by rw [List.take_add_one, List.getElem?_eq_getElem hqi]; congr 1; simp [← hrx, rd_T71, hqi]
 have hphis : phis (L.take (q + 1)) = (phis (L.take q) && x.f0 == 11) := by rw [htk, phis, List.all_append]; simp [phis]
 have hprev : (((q + 1 : Nat) : Int) - 1) = (q : Int) := by omega
 have hrange := (hI x hxm).2; have hw : wrap64 ((q : Int) + 1) = ((q + 1 : Nat) : Int) := wrap_succ q (by omega)
 cases O with
 | false => (
 refine ⟨false, ?_, ?_, fun h => by cases h⟩
 {
 simp only [vIns]
 refine Evt.pos hrange ?_
 by_cases hc : x.f0 = 11 ∧ (ph = false ∨ x.f2 ∈ ch)
 ·exact Evt.pos hc (Evt.const _)
 ·exact Evt.neg hc (Evt.bind hF (Evt.neg (by simp) (Evt.const _)))}
 {
 refine Evt.succ ?_
 simp only [r6_Valid.l2]
 refine Evt.pos (by omega) (Evt.pos (by omega) (Evt.pos (by omega) (Evt.pos (by omega) ?_)))
 rw [hrx, B]; exact Evt.bind hR (Evt.neg (by simp) (Evt.const _))})
 | true => (
 have hfx := hfine rfl; by_cases p : x.f0 = 11
 {
 have h11b : (x.f0 == 11) = true := beq_iff_eq.2 p
 by_cases R : i = 0
 {
 refine ⟨false, ?_, ?_, fun h => by cases h⟩
 {
 simp only [vIns]
 exact Evt.pos hrange (Evt.pos ⟨p, .inl (by rw [hph, decide_eq_false (by omega)]; rfl)⟩ (Evt.const _))}
 {
 refine Evt.succ ?_
 simp only [r6_Valid.l2]
 refine Evt.pos (by omega) (Evt.pos (by omega) (Evt.pos (by omega) (Evt.pos (by omega) ?_)))
 rw [hrx, B]; exact Evt.bind hR (Evt.pos rfl (Evt.pos p (Evt.pos (by omega) (Evt.const _))))}}
 {
 have D : ph = phis (L.take q) := by rw [hph, decide_eq_true (by omega), Bool.true_and]
 cases hphq : phis (L.take q) with
 | false => (
 have M : 0 < q := by {
 rcases Nat.eq_zero_or_pos q with h | h
 ·rw [h] at hphq; cases hphq
 ·exact h}
 have z : ¬ (rd_T71 L ((q : Int) - 1)).f0 = 11 := by {
 rcases hq with h | h
 ·omega
 ·rw [hphq] at h; exact beq_eq_false_iff_ne.1 h.symm}
 refine ⟨false, ?_, ?_, fun h => by cases h⟩
 {
 simp only [vIns]
 exact Evt.pos hrange (Evt.pos ⟨p, .inl (by rw [D, hphq])⟩ (Evt.const _))}
 {
 refine Evt.succ ?_
 simp only [r6_Valid.l2]
 refine Evt.pos (by omega) (Evt.pos (by omega) (Evt.pos (by omega) (Evt.pos (by omega) ?_)))
 rw [hrx, B, wrap64_id (x := (q : Int) - 1) (by omega) (by omega)]
 exact Evt.bind hR (Evt.pos rfl (Evt.pos p (Evt.neg (by omega) (Evt.pos (by omega) (Evt.pos (by omega) (Evt.pos (by omega) (Evt.neg z (Evt.const _))))))))})
 | true => (
 have htw : Evt (fun k => r6_twice.f k (L.take q) x.f2) ((L.take q).any fun y => y.f2 == x.f2) := by {
 have := twice_ev (L := L.take q) (by rw [List.length_take]; omega) x.f2 (L.take q) 0 rfl
 exact this}
 have hRR : ∀ v : Bool, Evt (fun k => if ((L.take q).any fun y => y.f2 == x.f2) = true then some false else r6_Valid.l2 k P S (i : Int) L ((q + 1 : Nat) : Int) nm ps ar rg N) v → Evt (fun k => r6_Valid.l2 k P S (i : Int) L (q : Int) nm ps ar rg N) v := by {
 intro v hv
 refine Evt.succ ?_
 simp only [r6_Valid.l2]
 refine Evt.pos (by omega) (Evt.pos (by omega) (Evt.pos (by omega) (Evt.pos (by omega) ?_)))
 rw [hrx, B, Int.toNat_natCast, hw]; refine Evt.bind hR (Evt.pos rfl (Evt.pos p (Evt.neg (by omega) ?_)))
 by_cases M : 0 < q
 {
 have z : (rd_T71 L ((q : Int) - 1)).f0 = 11 := by {
 rcases hq with h | h
 ·omega
 ·rw [hphq] at h; exact beq_iff_eq.1 h.symm}
 rw [wrap64_id (x := (q : Int) - 1) (by omega) (by omega)]
 exact Evt.pos (by omega) (Evt.pos (by omega) (Evt.pos (by omega) (Evt.pos z (Evt.pos (by omega) (Evt.bind htw hv)))))}
 ·exact Evt.neg (by omega) (Evt.pos (by omega) (Evt.bind htw hv))}
 by_cases hdup : ((L.take q).any fun y => y.f2 == x.f2) = true
 {
 refine ⟨false, ?_, ?_, fun h => by cases h⟩
 {
 simp only [vIns]
 exact Evt.pos hrange (Evt.pos ⟨p, .inr ((hch hphq _).2 hdup)⟩ (Evt.const _))}
 ·exact hRR _ (Evt.pos hdup (Evt.const _))}
 {
 obtain ⟨b, F, G, C⟩ := ins_ev hp ha hrg P S i hi L hL hA hI hr hib xs (q + 1) I (ph && x.f0 == 11) (if (decide (x.f2 ∈ ch) || x.f0 == 11) = true then ch ++ [x.f2] else ch)
  (by rw [hphis, hph, Bool.and_assoc]) (.inr (by rw [hphis, hprev, hrx, hphq, Bool.true_and])) (fun _ d => by
   rw [h11b, Bool.or_true, if_pos rfl, htk, List.any_append, List.mem_append, Bool.or_eq_true, hch hphq d, List.mem_singleton]; simp only [List.any_cons, List.any_nil, Bool.or_false, beq_iff_eq]
   exact or_congr Iff.rfl eq_comm)
 refine ⟨b, ?_, hRR _ (Evt.neg hdup G), fun h => ⟨fun y hy => ?_, fun _ => ⟨x, xs, rfl, p, rfl⟩⟩⟩
 {
 simp only [vIns]
 refine Evt.pos hrange (Evt.neg (fun h => ?_) (Evt.bind hF (Evt.pos rfl F)))
 rcases h.2 with J | J
 ·rw [D, hphq] at J; cases J
 ·exact hdup ((hch hphq _).1 J)}
 {
 rcases List.mem_cons.1 hy with rfl | hy
 ·exact hfx
 ·exact (C h).1 y hy}})}}
 {
 have h11b : (x.f0 == 11) = false := beq_eq_false_iff_ne.2 p
 obtain ⟨b, F, G, C⟩ := ins_ev hp ha hrg P S i hi L hL hA hI hr hib xs (q + 1) I (ph && x.f0 == 11) (if (decide (x.f2 ∈ ch) || x.f0 == 11) = true then ch ++ [x.f2] else ch)
  (by rw [hphis, hph, Bool.and_assoc]) (.inr (by rw [hphis, hprev, hrx, h11b, Bool.and_false])) (fun h => by rw [hphis, h11b, Bool.and_false] at h; cases h)
 refine ⟨b, ?_, ?_, fun h => ⟨fun y hy => ?_, fun ⟨y, hy, E⟩ => ?_⟩⟩
 {
 simp only [vIns]
 exact Evt.pos hrange (Evt.neg (fun h => p h.1) (Evt.bind hF (Evt.pos rfl F)))}
 {
 refine Evt.succ ?_
 simp only [r6_Valid.l2]
 refine Evt.pos (by omega) (Evt.pos (by omega) (Evt.pos (by omega) (Evt.pos (by omega) ?_)))
 rw [hrx, B, hw]; exact Evt.bind hR (Evt.pos rfl (Evt.neg p G))}
 {
 rcases List.mem_cons.1 hy with rfl | hy
 ·exact hfx
 ·exact (C h).1 y hy}
 {
 rcases List.mem_cons.1 hy with rfl | hy
 ·exact absurd E p
 ·obtain ⟨_, _, _, _, hc⟩ := (C h).2 ⟨y, hy, E⟩; rw [hphis, h11b, Bool.and_false] at hc; cases hc}})}
end
end Go.Proofs.YtefhpdcafdhcaaaDoor.M
end
section
namespace Go.Proofs.YtefhpdcafdhcaaaDoor
open Go Go.RowKit Go.Proofs.YtefhpdcafdhcaaaDoorW.PrintWords Go.Proofs.YtefhpdcafdhcaaaDoor.A Go.Proofs.YtefhpdcafdhcaaaDoor.Op
open Go.Proofs.YtefhpdcafdhcaaaDoor.M (Big big Ints)
abbrev laidL : List (String × DataW Unit) := [("unicode.White_Space", Rows.laid_unicode_White_Space), ("strings.asciiSpace", Rows.laid_strings_asciiSpace)]
theorem tab_data : (Rows.laid_strings_asciiSpace : DataW Unit) = Lib.tabData .u8 Lib.asciiSpaceTab := by kernel_rfl
theorem laid_tab {W : World} (h : laidMetH Tryd.prog laidL W) : Tab W := by
 rw [MakeChecks.laidMetH_plain _ _ _ (by kernel_rfl)] at h
 obtain ⟨ps, ⟨_, _, _, _, _, _, _, _, _, _, ⟨g, t, cs, fuel, p, q, hg, hty, hvar, hd, _, _⟩, _⟩, _⟩ := h; refine Tab.of ?_
 obtain rfl := Option.some.inj (hg157.symm.trans hg); obtain ⟨n, e, h1, b, l, y, z⟩ : ∃ n e, (Tryd.prog.globals[ren.g 0]?).map (·.type) = some t ∧ Tryd.prog.underlying t = some (.array n e) ∧ Tryd.prog.underlying e = some (.int .u8) ∧ Tryd.prog.cellsOf e = 1 ∧ Tryd.prog.cellsOf t = n := by
  have B : (Tryd.prog.globals[ren.g 0]?).map (·.type) = some 122 := by kernel_rfl
  obtain rfl := Option.some.inj (B.symm.trans hty); exact ⟨256, 5, hty, by kernel_rfl, by kernel_rfl, by kernel_rfl, by kernel_rfl⟩
 rw [tab_data] at hd; unfold Lib.TabIs
 rw [hvar, ← Lib.cells_of_tab b l y z hd]
theorem of_bytes {P : Program} {e : TypeId} {n : Nat} (hb : P.bytesOf e ≠ 0) (h : n * P.bytesOf e ≤ reachBytes) : n ≤ reachBytes :=
 Nat.le_trans (Nat.le_mul_of_pos_right n (Nat.pos_of_ne_zero hb)) h
theorem wf_i64 {n : Int} (h : (Lit.int .i64 n).wf = true) : -9223372036854775808 ≤ n ∧ n ≤ 9223372036854775807 := by
 simp only [Lit.wf, Bool.and_eq_true, decide_eq_true_eq] at h
 have b : IntKind.i64.min = -9223372036854775808 := by decide
 have l : IntKind.i64.max = 9223372036854775807 := by decide
 omega
theorem wf_i32 {n : Int} (h : (Lit.int .i32 n).wf = true) : -2147483648 ≤ n ∧ n ≤ 2147483647 := by
 simp only [Lit.wf, Bool.and_eq_true, decide_eq_true_eq] at h
 have b : IntKind.i32.min = -2147483648 := by decide
 have l : IntKind.i32.max = 2147483647 := by decide
 omega
def InsOK (y : S71) : Prop := ((-2147483648 ≤ y.f5 ∧ y.f5 ≤ 2147483647) ∧ (-9223372036854775808 ≤ y.f2 ∧ y.f2 ≤ 9223372036854775807)) ∧ y.f6.length ≤ reachBytes
theorem opens_places : Opens Tryd.prog 27 (Kd.slice 3 (Kd.int .i64)) (fun ys => ys.length ≤ reachBytes ∧ ∀ y ∈ ys, -9223372036854775808 ≤ y ∧ y ≤ 9223372036854775807) :=
 opens_imp (opens_slice (by kernel_rfl) (by kernel_rfl) (opens_int (by kernel_rfl))) fun _ h => ⟨of_bytes (by decide +kernel) h.1, fun y hy => wf_i64 (h.2 y hy)⟩
theorem opens_ins : Opens Tryd.prog 71 k71 InsOK := by
 refine opens_imp (opens_iso (fun x : S71 => (x.f0, x.f1, x.f2, x.f3, x.f4, x.f5, x.f6)) (fun y => ⟨y.1, y.2.1, y.2.2.1, y.2.2.2.1, y.2.2.2.2.1, y.2.2.2.2.2.1, y.2.2.2.2.2.2⟩) (fun _ => rfl)
  (opens_struct Tryd.underlying71 (by kernel_rfl) (fs_cons rfl (by kernel_rfl) (opens_int (by kernel_rfl)) (fs_cons rfl (by kernel_rfl) (opens_int (by kernel_rfl)) (fs_cons rfl (by kernel_rfl) (opens_int (by kernel_rfl)) (fs_cons rfl (by kernel_rfl) (opens_int (by kernel_rfl)) (fs_cons rfl (by kernel_rfl) (opens_int (by kernel_rfl)) (fs_cons rfl (by kernel_rfl) (opens_int (by kernel_rfl)) (fs_one rfl (by kernel_rfl) opens_places))))))))) ?_
 rintro y ⟨_, _, b, _, _, l, h6⟩
 exact ⟨⟨wf_i32 l, wf_i64 b⟩, h6.1⟩
theorem opens_node : Opens Tryd.prog 69 k69 (fun n => n.f0.length ≤ reachBytes ∧ ∀ y ∈ n.f0, InsOK y) := by
 refine opens_imp (opens_iso (fun x : S69 => (x.f0, x.f1, x.f2, x.f3, x.f4)) (fun y => ⟨y.1, y.2.1, y.2.2.1, y.2.2.2.1, y.2.2.2.2⟩) (fun _ => rfl)
  (opens_struct Tryd.underlying69 (by kernel_rfl) (fs_cons rfl (by kernel_rfl) (opens_slice (by kernel_rfl) (by kernel_rfl) opens_ins) (fs_cons rfl (by kernel_rfl) (opens_int (by kernel_rfl)) (fs_cons rfl (by kernel_rfl) (opens_int (by kernel_rfl)) (fs_cons rfl (by kernel_rfl) (opens_int (by kernel_rfl)) (fs_one rfl (by kernel_rfl) (opens_int (by kernel_rfl))))))))) ?_
 rintro y ⟨b, _⟩
 exact ⟨of_bytes (by decide +kernel) b.1, b.2⟩
theorem opens_par : Opens Tryd.prog 83 k83 (fun _ => True) :=
 opens_imp (opens_iso (fun x : S83 => (x.f0, x.f1)) (fun y => ⟨y.1, y.2⟩) (fun _ => rfl) (opens_struct Tryd.underlying83 (by kernel_rfl) (fs_cons rfl (by kernel_rfl) (opens_string (by kernel_rfl)) (fs_one rfl (by kernel_rfl) (opens_bool (by kernel_rfl)))))) fun _ _ => trivial
theorem opens_arr : Opens Tryd.prog 85 k85 (fun _ => True) :=
 opens_imp (opens_iso (fun x : S85 => (x.f0, x.f1)) (fun y => ⟨y.1, y.2⟩) (fun _ => rfl) (opens_struct Tryd.underlying85 (by kernel_rfl) (fs_cons rfl (by kernel_rfl) (opens_string (by kernel_rfl)) (fs_one rfl (by kernel_rfl) (opens_int (by kernel_rfl)))))) fun _ _ => trivial
abbrev FlowT : Type := ByteArray × List S83 × List S85 × Int × List S69
def kFlow : Kd FlowT := Kd.pair Kd.string (Kd.pair (Kd.slice 83 k83) (Kd.pair (Kd.slice 85 k85) (Kd.pair (Kd.int .i64) (Kd.slice 69 k69))))
theorem kFlow_open {w : World} {x : FlowT} {cs : List Value} (h : kFlow.K w x cs) : ∃ b l p c2 q y, cs = [.string x.1, .slice b x.2.1.length l, .slice p x.2.2.1.length c2, .int .i64 x.2.2.2.1, .slice q x.2.2.2.2.length y] ∧ (x.2.1.length ≤ l ∧ Kd.C k83 w b x.2.1.length x.2.1) ∧ (x.2.2.1.length ≤ c2 ∧ Kd.C k85 w p x.2.2.1.length x.2.2.1) ∧ (x.2.2.2.2.length ≤ y ∧ Kd.C k69 w q x.2.2.2.2.length x.2.2.2.2) := by
 obtain ⟨_, _, rfl, rfl, ⟨_, _, rfl, ⟨b, l, rfl, l1, z⟩, ⟨_, _, rfl, ⟨p, c2, rfl, l2, B⟩, ⟨_, _, rfl, rfl, ⟨q, y, rfl, D, E⟩⟩⟩⟩⟩ := h; exact ⟨b, l, p, c2, q, y, rfl, ⟨l1, z⟩, ⟨l2, B⟩, ⟨D, E⟩⟩
theorem reach_big : reachBytes < big := by unfold big; decide
theorem opens_flow : Opens Tryd.prog 26 kFlow (fun x => Big x.2.1 x.2.2.1 x.2.2.2.2 ∧ Ints x.2.2.2.2) := by
 refine opens_imp (opens_struct Tryd.underlying26 (by kernel_rfl) (fs_cons rfl (by kernel_rfl) (opens_string (by kernel_rfl)) (fs_cons rfl (by kernel_rfl) (opens_slice (by kernel_rfl) (by kernel_rfl) opens_par) (fs_cons rfl (by kernel_rfl) (opens_slice (by kernel_rfl) (by kernel_rfl) opens_arr) (fs_cons rfl (by kernel_rfl) (opens_int (by kernel_rfl)) (fs_one rfl (by kernel_rfl) (opens_slice (by kernel_rfl) (by kernel_rfl) opens_node))))))) ?_
 rintro ⟨nm, ps, ar, rg, N⟩ ⟨_, h1, l, _, b⟩
 have hb := reach_big; have p := of_bytes (by decide +kernel) h1.1
 have q := of_bytes (by decide +kernel) l.1
 have z := of_bytes (by decide +kernel) b.1
 exact ⟨⟨Nat.lt_of_le_of_lt z hb, Nat.lt_of_le_of_lt p hb, Nat.lt_of_le_of_lt q hb, fun n hn => Nat.lt_of_le_of_lt (b.2 n hn).1 hb, fun n hn y hy => Nat.lt_of_le_of_lt ((b.2 n hn).2 y hy).2 hb⟩, fun n hn y hy => ((b.2 n hn).2 y hy).1⟩
end Go.Proofs.YtefhpdcafdhcaaaDoor
end
section
namespace Go.Proofs.YtefhpdcafdhcaaaDoor.M
open Go Go.RowKit Go.Proofs.YtefhpdcafdhcaaaDoorW.PrintWords Go.Proofs.YtefhpdcafdhcaaaDoorW.PrintLast Go.Proofs.YtefhpdcafdhcaaaDoorW.PrintMore Go.Proofs.YtefhpdcafdhcaaaDoor Go.Proofs.YtefhpdcafdhcaaaDoor.A Go.Proofs.YtefhpdcafdhcaaaDoor.B Go.Proofs.YtefhpdcafdhcaaaDoor.N Go.Proofs.YtefhpdcafdhcaaaDoor.V
open FlowM (next hasD hasA hasB Fine FineNd FineG)
section
variable (nm : ByteArray) {ps : List S83} {ar : List S85} (rg : Int) {N : List S69}
theorem wNds_cons (n : S69) (l : List S69) : wNds (n :: l) = n.f0.length + wArgs n.f0 + wNds l := by simp [wNds]
theorem wArgs_mem : ∀ {l : List S71} {y : S71}, y ∈ l → y.f6.length ≤ wArgs l
 | x :: l, y, h => by {
 have e : wArgs (x :: l) = x.f6.length + wArgs l := by simp [wArgs]
 rw [e]; rcases List.mem_cons.1 h with rfl | h
 ·omega
 ·have := wArgs_mem h; omega}
def FirstPhi (n : S69) : Prop := (∃ y ∈ n.f0, y.f0 = 11) → ∃ x l, n.f0 = x :: l ∧ x.f0 = 11
theorem nds_ev (hp : ps.length ≤ 6) (ha : ar.length ≤ 400) (hrg : 0 ≤ rg) (hI : Ints N) (P : List (List Int)) (S : List Bool) (hP : P.length = N.length) (hS : S.length = N.length) (hN : N.length ≤ 400) :
  ∀ (rest : List S69) (i : Nat), N.drop i = rest → wNds rest ≤ 400 → ∀ s : Nat, s + wNds rest ≤ 2000 → ∃ b, Evt (fun k => vNds k nm ps ar rg N P i (s : Int) rest) b ∧ Evt (fun k => r6_Valid.l1 k P S (i : Int) nm ps ar rg N) ((S.drop i).all id && b) ∧ (b = true → ∀ n ∈ rest, (∀ y ∈ n.f0, FineA rg.toNat y) ∧ FirstPhi n)
 | [], i, hd, _, s, _ => by {
 have := drop_nil_ge hd
 refine ⟨true, Evt.const _, ?_, fun _ n hn => by cases hn⟩
 refine Evt.succ ?_
 simp only [r6_Valid.l1]
 refine Evt.neg (by omega) ?_
 rw [List.drop_of_length_le (by omega)]
 exact Evt.const _}
 | n :: rest, i, hd, hw, s, hs => by {
 obtain ⟨hrn, hi, p⟩ := rd69_drop hd; have hnm : n ∈ N := by rw [← List.take_append_drop i N, hd]; simp
 rw [wNds_cons] at hw hs
 obtain ⟨bR, h1, q, B⟩ := nds_ev hp ha hrg hI P S hP hS hN rest (i + 1) p (by omega) (s + n.f0.length) (by omega)
 obtain ⟨bI, C, D, z⟩ := ins_ev nm rg (N := N) hp ha hrg P S i (by omega) n.f0 (by omega) (fun y hy => by have := wArgs_mem hy; omega) (hI n hnm) q (by omega) n.f0 0 rfl (decide (0 < i)) [] (by simp [phis]) (.inl rfl) (fun _ d => by simp)
 have hiS : i < S.length := by omega
 refine ⟨bI && bR, ?_, ?_, fun h m hm => ?_⟩
 {
 simp only [vNds]
 refine Evt.pos (by omega) (Evt.neg (by omega) (Evt.bind C ?_))
 cases bI with
 | false => exact Evt.neg (by simp) (Evt.const _)
 | true => (
 refine Evt.pos rfl ?_
 rw [show ((s : Int) + (n.f0.length : Int)) = ((s + n.f0.length : Nat) : Int) by omega, Bool.true_and]
 exact h1)}
 {
 refine Evt.succ ?_
 simp only [r6_Valid.l1]
 refine Evt.pos (by omega) (Evt.pos (by omega) (Evt.pos (by omega) ?_))
 rw [hrn, rdOf_nat _ _ _ hiS, List.drop_eq_getElem_cons hiS, List.all_cons]; cases hSi : S[i] with
 | false => (
 refine Evt.neg (by simp) ?_
 exact Evt.const _)
 | true => (
 refine Evt.pos rfl ?_
 rw [show (id true && (S.drop (i + 1)).all id && (bI && bR)) = (bI && ((S.drop (i + 1)).all id && bR)) by cases bI <;> cases (S.drop (i + 1)).all id <;> rfl]
 exact D)}
 {
 rw [Bool.and_eq_true] at h; rcases List.mem_cons.1 hm with rfl | hm
 ·exact ⟨(z h.1).1, fun hy => by obtain ⟨x, l, h1, q, _⟩ := (z h.1).2 hy; exact ⟨x, l, h1, q⟩⟩
 ·exact B h.2 m hm}}
theorem rl0_ev {r : Bool} (hN : N.length ≤ 400) (hr : N.all (endOK N.length rg) = true → Evt (fun k => (r6_Preds.f k nm ps ar rg N).bind fun P => (r6_reached.f k nm ps ar rg N).bind fun S => r6_Valid.l1 k P S 0 nm ps ar rg N) r) :
  ∀ (rest : List S69) (i : Nat), N.drop i = rest → (N.all (endOK N.length rg) = rest.all (endOK N.length rg)) → ∀ c : Nat, c + wNds rest ≤ 2000 → Evt (fun k => r6_Valid.l0 k (c : Int) (i : Int) nm ps ar rg N) (rest.all (endOK N.length rg) && r)
 | [], i, hd, he, c, _ => by {
 have := drop_nil_ge hd
 refine Evt.succ ?_
 simp only [r6_Valid.l0]
 refine Evt.neg (by omega) ?_
 rw [List.all_nil, Bool.true_and]; exact hr (by rw [he]; rfl)}
 | n :: rest, i, hd, he, c, hc => by {
 obtain ⟨hrn, hi, b⟩ := rd69_drop hd; rw [wNds_cons] at hc; refine Evt.succ ?_
 simp only [r6_Valid.l0]
 refine Evt.pos (by omega) (Evt.pos (by omega) ?_)
 rw [hrn, show wrap64 ((c : Int) + (n.f0.length : Int)) = ((c + n.f0.length : Nat) : Int) by rw [wrap64_id (by omega) (by omega)]; omega, wrap_succ i (by omega)]
 refine Evt.neg (by omega) (Evt.bind (rends_ev nm ps ar rg N n) ?_)
 rw [List.all_cons]; cases hb : endOK N.length rg n with
 | false => exact Evt.neg (by simp) (Evt.const _)
 | true => (
 refine Evt.pos rfl ?_
 rw [Bool.true_and]; exact rl0_ev hN hr rest (i + 1) b (by rw [he, List.all_cons, hb, Bool.true_and]) (c + n.f0.length) (by omega))}
theorem cnt_all {S : List Bool} : S.all id = decide (cnt S = S.length) := by
 rw [Bool.eq_iff_iff, decide_eq_true_eq, List.all_eq_true, cnt, List.count_eq_length]; exact ⟨fun h b hb => (h b hb).symm, fun h b hb => (h b hb).symm⟩
structure VF (nm : ByteArray) (ps : List S83) (ar : List S85) (rg : Int) (N : List S69) : Prop where
 r0 : 0 ≤ rg
 r1 : rg ≤ 2000
 n0 : 0 < N.length
 fine : FineG rg.toNat N
 first : ∀ n ∈ N, FirstPhi n
 args : ∀ n ∈ N, ∀ y ∈ n.f0, y.f0 ≠ 11 → y.f6 = []
theorem end_fine {rg : Int} {len : Nat} {n : S69} (hrg : 0 ≤ rg) (h : endOK len rg n = true) (hy : ∀ y ∈ n.f0, Fine rg.toNat y) : FineNd rg.toNat len n := by
 unfold endOK at h
 rw [Bool.and_eq_true] at h; refine ⟨hy, fun h1 => ?_, fun k hk => ?_⟩
 ·have b := h.2; unfold endK at b
  rw [if_neg (by omega), if_pos h1, Bool.and_eq_true, decide_eq_true_eq, decide_eq_true_eq] at b
  omega
 ·have := tgt_iff.1 (List.all_eq_true.1 h.1 k hk)
  omega
theorem j0bad : Evt (fun k => r6_Valid.j0 k true nm ps ar rg N) false := by
 refine Evt.succ ?_
 simp only [r6_Valid.j0]
 exact Evt.pos trivial (Evt.const _)
theorem valid_ev (hs : Small nm ps ar N) (hI : Ints N) : ∃ b, Evt (fun k => r6_Valid.f k nm ps ar rg N) b ∧ Evt (fun k => flow_Valid.f k nm ps ar rg N) b ∧ (b = true → VF nm ps ar rg N) := by
 have hsum := hs.sum; have hH := heads_ev hs; have hsm : smallF nm ps ar = true := by {
 unfold smallF
 rw [Bool.and_eq_true, Bool.and_eq_true, decide_eq_true_eq, List.all_eq_true, List.all_eq_true]; exact ⟨⟨by have := hs.name; omega, fun p hp => decide_eq_true (by have := hs.pars p hp; omega)⟩, fun p hp => decide_eq_true (by have := hs.arrs p hp; omega)⟩}
 by_cases hn : N.length < 1
 {
 refine ⟨false, ?_, ?_, fun h => by cases h⟩
 {
 unfold r6_Valid.f
 refine Evt.bind hH ?_
 by_cases h1 : headOK nm ps ar = true
 {
 refine Evt.pos h1 ?_
 by_cases B : rg < 0
 ·exact Evt.pos B (j0bad nm rg)
 {
 refine Evt.neg B ?_
 by_cases E : rg > 2000
 ·exact Evt.pos E (j0bad nm rg)
 ·exact Evt.neg E (Evt.pos (by omega) (j0bad nm rg))}}
 ·exact Evt.neg h1 (j0bad nm rg)}
 {
 unfold flow_Valid.f
 exact Evt.pos (.inl hn) (Evt.const _)}}
 {
 by_cases hb : headB nm ps ar rg = true
 {
 have C := hb; rw [head_eq, Bool.and_eq_true, Bool.and_eq_true, decide_eq_true_eq, decide_eq_true_eq] at C; obtain ⟨hh, q, F⟩ := C; have G : ps.length ≤ 6 := by {
 have h := hh; unfold headOK head3 at h
 simp only [Bool.and_eq_true, decide_eq_true_eq] at h
 exact h.1.1.1.2}
 have hRpre : ∀ v, Evt (fun k => r6_Valid.l0 k (N.length : Int) 0 nm ps ar rg N) v → Evt (fun k => r6_Valid.f k nm ps ar rg N) v := by {
 intro v hv
 unfold r6_Valid.f
 refine Evt.bind hH (Evt.pos hh (Evt.neg (by omega) (Evt.neg (by omega) (Evt.neg (by omega) (Evt.succ ?_)))))
 simp only [r6_Valid.j0]
 exact Evt.neg (by simp; omega) hv}
 by_cases hE : N.all (endOK N.length rg) = true
 {
 have hT : ∀ n ∈ N, ∀ m ∈ next n, 0 ≤ m ∧ m < (N.length : Int) := by {
 intro n l m hm
 have h := List.all_eq_true.1 hE n l; unfold endOK at h
 rw [Bool.and_eq_true] at h; have := tgt_iff.1 (List.all_eq_true.1 h.1 m hm)
 omega}
 obtain ⟨S, hS, hSr, hSf⟩ := reached_ev nm ps ar rg (N := N) (by omega) (by omega) hT
 obtain ⟨P, hP, hPr, hPf⟩ := preds_ev nm ps ar rg (N := N) (by omega) hT
 obtain ⟨b, I, D, z⟩ := nds_ev nm rg (ps := ps) (ar := ar) (N := N) G (by omega) q hI P S hP hS (by omega) N 0 rfl (by omega) N.length (by omega)
 rw [List.drop_zero, cnt_all, hS] at D; have hR := hRpre _ (rl0_ev nm rg (by omega) (fun _ => Evt.bind hPr (Evt.bind hSr D)) N 0 rfl rfl N.length (by omega))
 rw [hE, Bool.true_and] at hR; have hF := fends_ev nm ps ar rg (S := S) (N := N) (by omega) (by omega) (fun _ => hSf) N 0 rfl rfl
 rw [hE, Bool.true_and] at hF; refine ⟨_, hR, ?_, fun h => ?_⟩
 {
 unfold flow_Valid.f
 refine Evt.neg (by omega) (Evt.pos hsm (Evt.pos hb (Evt.bind (a := decide (cnt S = N.length)) ?_ ?_)))
 {
 unfold flow_ends.f
 exact hF}
 {
 cases hc : decide (cnt S = N.length) with
 | false => exact Evt.neg (by simp) (Evt.const _)
 | true => (
 refine Evt.pos rfl (Evt.bind hPf (Evt.pos hP ?_))
 rw [Bool.true_and]; exact I)}}
 ·rw [Bool.and_eq_true] at h; exact ⟨q, F, by omega, fun n l => end_fine q (List.all_eq_true.1 hE n l) (fun y hy => ((z h.2 n l).1 y hy).1), fun n l => (z h.2 n l).2, fun n l y hy => ((z h.2 n l).1 y hy).2⟩}
 {
 refine ⟨false, ?_, ?_, fun h => by cases h⟩
 {
 have hR := hRpre _ (rl0_ev (r := true) nm rg (by omega) (fun h => absurd h hE) N 0 rfl rfl N.length (by omega))
 rw [Bool.eq_false_iff.2 hE] at hR; exact hR}
 {
 have hF := fends_ev nm ps ar rg (S := []) (N := N) (by omega) (by omega) (fun h => absurd h hE) N 0 rfl rfl
 rw [Bool.eq_false_iff.2 hE, Bool.false_and] at hF; unfold flow_Valid.f
 refine Evt.neg (by omega) (Evt.pos hsm (Evt.pos hb (Evt.bind (a := false) ?_ (Evt.neg (by simp) (Evt.const _)))))
 unfold flow_ends.f
 exact hF}}}
 {
 refine ⟨false, ?_, ?_, fun h => by cases h⟩
 {
 unfold r6_Valid.f
 refine Evt.bind hH ?_
 by_cases h1 : headOK nm ps ar = true
 {
 refine Evt.pos h1 ?_
 by_cases B : rg < 0
 ·exact Evt.pos B (j0bad nm rg)
 {
 refine Evt.neg B ?_
 by_cases E : rg > 2000
 ·exact Evt.pos E (j0bad nm rg)
 {
 exfalso
 apply hb
 rw [head_eq, h1, decide_eq_true (show 0 ≤ rg by omega), decide_eq_true (show rg ≤ 2000 by omega)]
 rfl}}}
 ·exact Evt.neg h1 (j0bad nm rg)}
 {
 unfold flow_Valid.f
 exact Evt.neg (by omega) (Evt.pos hsm (Evt.neg hb (Evt.const _)))}}}
end
end Go.Proofs.YtefhpdcafdhcaaaDoor.M
end
section
namespace Go.Proofs.YtefhpdcafdhcaaaDoor.S
open Go Go.RowKit Go.Proofs.YtefhpdcafdhcaaaDoorW.PrintWords Go.Proofs.YtefhpdcafdhcaaaDoorW.PrintLast Go.Proofs.YtefhpdcafdhcaaaDoorW.PrintMore Go.Proofs.YtefhpdcafdhcaaaDoor Go.Proofs.YtefhpdcafdhcaaaDoor.A FlowM
attribute [local go_sem] max2_int max_two
def cw (s j : Nat) : Value := .int .u64 ((word s j : Nat) : Int)
def cellsL (l : List Nat) : List Value := (List.range (32 * l.length)).map fun k => cw (l.getD (k / 32) 0) (k % 32)
theorem cellsL_len (l : List Nat) : (cellsL l).length = 32 * l.length := by simp [cellsL]
theorem cellsL_get (l : List Nat) {i j : Nat} (hi : i < l.length) (hj : j < 32) : (cellsL l)[32 * i + j]? = some (cw (l.getD i 0) j) := by
 have h1 : 32 * i + j < 32 * l.length := by omega
 unfold cellsL
 rw [List.getElem?_map, List.getElem?_range h1]; rw [Option.map_some, show (32 * i + j) / 32 = i by omega, show (32 * i + j) % 32 = j by omega]
theorem cellsL_one (l : List Nat) : ∀ v ∈ cellsL l, v.oneCell' = true := by
 intro v hv
 unfold cellsL at hv
 obtain ⟨k, _, rfl⟩ := List.mem_map.1 hv; rfl
theorem cellsL_ext {l : List Nat} {cs : List Value} (hl : cs.length = 32 * l.length) (h : ∀ i j, i < l.length → j < 32 → cs[32 * i + j]? = some (cw (l.getD i 0) j)) : cs = cellsL l := by
 apply List.ext_getElem?
 intro k
 by_cases hk : k < 32 * l.length
 {
 have e : k = 32 * (k / 32) + k % 32 := by omega
 have h1 : k / 32 < l.length := by omega
 have b : k % 32 < 32 := by omega
 rw [e, h _ _ h1 b, cellsL_get l h1 b]}
 ·rw [List.getElem?_eq_none (by omega), List.getElem?_eq_none (by rw [cellsL_len]; omega)]
theorem cellsL_set {l : List Nat} {i j s : Nat} (hi : i < l.length) (hj : j < 32) (h : ∀ k, k < 32 → k ≠ j → word s k = word (l.getD i 0) k) : (cellsL l).set (32 * i + j) (cw s j) = cellsL (l.set i s) := by
 apply cellsL_ext
 ·simp [cellsL_len]
 {
 intro a b ha hb
 rw [List.length_set] at ha; rw [List.getElem?_set]; by_cases he : 32 * i + j = 32 * a + b
 {
 obtain rfl : i = a := by omega
 obtain rfl : j = b := by omega
 rw [if_pos rfl, if_pos (by rw [cellsL_len]; omega), getD_set hi, if_pos rfl]}
 {
 rw [if_neg he, cellsL_get l ha hb, getD_set hi]; by_cases hia : i = a
 {
 subst hia; rw [if_pos rfl]; unfold cw
 rw [h b hb (by omega)]}
 ·rw [if_neg hia]}}
theorem cellsL_put {l : List Nat} {i s : Nat} (hi : i < l.length) : (cellsL l).take (32 * i) ++ cellsL [s] ++ (cellsL l).drop (32 * i + 32) = cellsL (l.set i s) := by
 have q : (cellsL [s]).length = 32 := by rw [cellsL_len]; rfl
 have p := cellsL_len l; apply cellsL_ext
 ·simp only [List.length_append, List.length_take, List.length_drop, q, p, List.length_set]; omega
 {
 intro a b ha hb
 rw [List.length_set] at ha; rw [getD_set hi]; by_cases h1 : a < i
 ·rw [List.getElem?_append_left (by simp only [List.length_append, List.length_take, q, p]; omega), List.getElem?_append_left (by simp only [List.length_take, p]; omega), List.getElem?_take, if_pos (by omega), cellsL_get l ha hb, if_neg (by omega)]
 {
 by_cases y : a = i
 {
 subst y; rw [List.getElem?_append_left (by simp only [List.length_append, List.length_take, q, p]; omega), List.getElem?_append_right (by simp only [List.length_take, p]; omega), if_pos rfl]
 have : 32 * a + b - (List.take (32 * a) (cellsL l)).length = 32 * 0 + b := by simp only [List.length_take, p]; omega
 rw [this, cellsL_get [s] (by simp) hb]
 rfl}
 {
 rw [List.getElem?_append_right (by simp only [List.length_append, List.length_take, q, p]; omega), List.getElem?_drop, if_neg (by omega)]
 have : 32 * i + 32 + (32 * a + b - (List.take (32 * i) (cellsL l) ++ cellsL [s]).length) = 32 * a + b := by simp only [List.length_append, List.length_take, q, p]; omega
 rw [this, cellsL_get l ha hb]}}}
def SetsAt (w : World) (g : Nat) (l : List Nat) : Prop := w.heap[g]? = some (.cells (cellsL l).toArray 59 (0, 0))
section
variable {w w' : World} {g : Nat} {l : List Nat}
theorem SetsAt.lt (h : SetsAt w g l) : g < w.heap.size := blk_lt h
theorem SetsAt.grown (h : SetsAt w g l) {row : Option Nat} (hg : w.grownBy w' row) (hne : some g ≠ row) : SetsAt w' g l := blk_grown h hg hne
theorem SetsAt.below (h : SetsAt w g l) {B : Nat} (hb : Below B w w') (hB : g < B) : SetsAt w' g l := (hb.block g hB).trans h
theorem SetsAt.cell (h : SetsAt w g l) {i j : Nat} (hi : i < l.length) (hj : j < 32) : w.cell? ⟨g, 32 * i + j, none⟩ = some (cw (l.getD i 0) j) := by
 rw [blk_cell h, List.getElem?_toArray, cellsL_get l hi hj]
theorem SetsAt.frozen (h : SetsAt w g l) (i : Nat) : w.frozen? ⟨g, i, none⟩ = false := blk_frozen h i
theorem SetsAt.range (h : SetsAt w g l) {i : Nat} (hi : i < l.length) : w.rangeAt g (32 * i) (cellsL [l.getD i 0]) := by
 intro j v hv
 have hj : j < 32 := by have := (List.getElem?_eq_some_iff.1 hv).1; rw [cellsL_len] at this; simpa using this
 have h1 := cellsL_get [l.getD i 0] (i := 0) (j := j) (by simp) hj
 rw [Nat.mul_zero, Nat.zero_add] at h1; rw [h1] at hv; rw [h.cell hi hj]; exact hv
theorem SetsAt.set (h : SetsAt w g l) {i j s : Nat} (hi : i < l.length) (hj : j < 32) (hw : ∀ k, k < 32 → k ≠ j → word s k = word (l.getD i 0) k) : SetsAt (w.setCell ⟨g, 32 * i + j, none⟩ (cw s j)) g (l.set i s) := by
 unfold SetsAt at h ⊢
 refine (blk_put h (32 * i + j) (cw s j) rfl).trans ?_
 rw [List.setIfInBounds_toArray, cellsL_set hi hj hw]
end
theorem grown_set (w : World) (g o : Nat) (v : Value) : w.grownBy (w.setCell ⟨g, o, none⟩ v) (some g) := ⟨rfl, rfl, rfl, by simp [World.setCell], fun k _ hne => Below.heap_setCell _ _ _ _ (fun e => hne (by rw [e]))⟩
theorem grown_drew {w w' : World} {row : Option Nat} (h : w.grownBy w' row) : w.grownBy w'.drew row := ⟨h.os, h.tape, h.output, h.size, h.block⟩
theorem SetsAt.drew {w : World} {g : Nat} {l : List Nat} (h : SetsAt w g l) : SetsAt w.drew g l := h
end Go.Proofs.YtefhpdcafdhcaaaDoor.S
end
