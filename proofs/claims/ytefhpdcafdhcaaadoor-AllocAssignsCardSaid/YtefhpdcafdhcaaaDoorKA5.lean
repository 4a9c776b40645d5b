/- This claim's texts. -/
import Derived.Test.YtefhpdcafdhcaaaDoorKA4
set_option linter.unusedSectionVars false
set_option maxHeartbeats 16000000
set_option maxRecDepth 100000
set_option exponentiation.threshold 3000
section
namespace Go.Proofs.YtefhpdcafdhcaaaDoor.S
open Go Go.RowKit Go.Proofs Go.Proofs.YtefhpdcafdhcaaaDoorW.PrintWords Go.Proofs.YtefhpdcafdhcaaaDoorW.PrintLast Go.Proofs.YtefhpdcafdhcaaaDoorW.PrintMore Go.Proofs.YtefhpdcafdhcaaaDoor Go.Proofs.YtefhpdcafdhcaaaDoor.A FlowM
attribute [local go_sem] max2_int max_two
set_option linter.unusedVariables false
set_option linter.unusedSimpArgs false
def mark (l : List Bool) (r : Int) : Option (List Bool) := if 0 ≤ r ∧ r < (l.length : Int) then some (l.set r.toNat true) else none
def combo (t : Bool × Bool × Bool) : Bool := t == (true, false, false) || t == (true, true, false) || t == (true, true, true) || t == (false, true, true) || t == (false, false, false)
def markIns (has : Int → Option (Bool × Bool × Bool)) (x : S71) (l : List Bool) : Option (List Bool) :=
 (has x.f0).bind fun t => if combo t = true ∧ x.f6 = [] then (if t.1 = true then mark l x.f2 else some l).bind fun l1 => (if t.2.1 = true then mark l1 x.f3 else some l1).bind fun l2 => if t.2.2 = true then mark l2 x.f4 else some l2 else none
def markInss (has : Int → Option (Bool × Bool × Bool)) : List S71 → List Bool → Option (List Bool)
 | [], l => some l
 | x :: xs, l => (markIns has x l).bind fun l => markInss has xs l
def markNd (has : Int → Option (Bool × Bool × Bool)) (n : S69) (l : List Bool) : Option (List Bool) := (markInss has n.f0 l).bind fun l => if n.f1 = 1 then mark l n.f2 else some l
def markNds (has : Int → Option (Bool × Bool × Bool)) : List S69 → List Bool → Option (List Bool)
 | [], l => some l
 | n :: ns, l => (markNd has n l).bind fun l => markNds has ns l
theorem mark_some {l m : List Bool} {r : Int} (h : mark l r = some m) : (0 ≤ r ∧ r < (l.length : Int)) ∧ m = l.set r.toNat true := by
 unfold mark at h
 split at h
 ·rename_i hc; exact ⟨hc, (q_so h).symm⟩
 ·cases h
theorem R_formB {α : Type} {d : Kd α} {e : TypeId} {w : World} {base : Nat} {ok : Nat → Prop} {v : Value} {xs : List α} {b n : Nat} (h : d.R e w base ok v xs) (hb : v.ownBlock = some b) (hn : xs.length = n) : ∃ cap, v = .slice (some ⟨b, 0, none⟩) n cap ∧ base ≤ b := by
 obtain ⟨inner, ho⟩ := Kd.R_own h; rcases ho.2 with ⟨rfl, _⟩ | ⟨g, cap, cur, rfl, hg, hh, r⟩
 ·simp [Value.ownBlock] at hb
 ·have : g = b := by simpa [Value.ownBlock] using hb
  subst this; exact ⟨cap, by rw [hn], hg⟩
abbrev HasB (has : Int → Option (Bool × Bool × Bool)) : Prop := ∀ (w0 : World) (x : Int) (b l p : Bool), has x = some (b, l, p) → Calls Tryd.prog 37 #[.int .i64 x] w0 fun e w' => e = .returned (.tuple #[.bool b, .bool l, .bool p]) ∧ Drawn0 w0 w'
theorem refOccurC (w : World) (nm : ByteArray) (A1 : Option Addr) (n1 d2 : Nat) (A2 : Option Addr) (n2 d3 : Nat) (rg : Nat) (A4 : Option Addr) (d4 : Nat) (N : List S69) (has : Int → Option (Bool × Bool × Bool)) (R : List Bool) (p1 : Kd.C k69 w A4 N.length N) (hH : HasB has) (hrg : rg ≤ 2048) (hN : N.length ≤ 1000000) (hNs : ∀ n ∈ N, n.f0.length ≤ 1000000) (h : markNds has N (List.replicate rg false) = some R) :
  Calls Tryd.prog 13 #[(.agg #[.string nm, .slice A1 n1 d2, .slice A2 n2 d3, .int .i64 (rg : Int), .slice A4 N.length d4])] w fun e w' => ∃ v : Value, e = .returned v ∧ Kd.R Kd.bool 4 w' w.heap.size (fun _ => True) v R ∧ Below w.heap.size w w' := by
 have s5 := a_ p1; have HHAS := a_ hH; have HRG := a_ hrg; have HN := a_ hN; have HNS := a_ hNs; have HH := a_ h; clear p1 hH hrg hN hNs h; have w3 := Tryd.underlying26; have w4 := Tryd.underlying69; have w6 := Tryd.underlying71; go_enter Tryd.func13, Tryd.ntmps13
 go_wp2_with (first | ((with_reducible refine gd_ 1 rfl ?_); refine q_box 1 26 #[.string nm, .slice A1 n1 d2, .slice A2 n2 d3, .int .i64 (rg : Int), .slice A4 N.length d4] ?_; intro g1 s6 w1 b8 p2; have p3 := a_ b8; have l6 := a_ p2; clear s6 b8 p2; obtain ⟨p4, p5, p6, p7, p8⟩ := q_c5 p3.out) | ((with_reducible refine gd_ 14 rfl ?_); refine Kd.R_make Kd.bool _ 4 rfl (N := 14) rfl 37 _ _ rfl (rg : Int) rfl rfl Tryd.underlying37 (.bool false) 1 info4 rfl (by decide) (by omega) false (ok := fun _ => True) (okp := fun _ => True) rfl (fun _ hk => hk) trivial (Int.natCast_nonneg _) (by have := HRG.out; simp; omega) (Below.refl _ _) (Nat.le_refl _) ?_; intro vO w2 o5 o6 p9 q1; obtain ⟨go, hbo, _⟩ := q1; obtain ⟨cO, rfl, hgo⟩ := R_formB (n := rg) (Kd.R_lower o5 l6.out.size) hbo (by simp); have GO := a_ hgo; clear p9 hbo hgo; have s7 := a_ (Kd.R_lower o5 l6.out.size); have s8 := a_ (blk_below p3.out o6); have s9 := a_ (below_then l6.out l6.out.size o6); clear o5 o6))
 go_loopg [4] N.length (fun gk v4 wx => ∃ x : Int, v4 = .int .i64 x ∧ Aside0 (∃ (j : Nat) (l : List Bool), x = (j : Int) ∧ j + gk = N.length ∧ markNds has (N.drop j) l = some R ∧ Kd.R Kd.bool 4 wx w.heap.size (fun _ => True) (.slice (some ⟨go, 0, none⟩) rg cO) l) ∧ Aside0 (wx.heap[g1]? = some (.cells #[.string nm, .slice A1 n1 d2, .slice A2 n2 d3, .int .i64 (rg : Int), .slice A4 N.length d4] 26 (0, 0))) ∧ Aside0 (Below w.heap.size w wx))
 case atStart => exact ⟨0, rfl, ⟨0, List.replicate rg false, rfl, by omega, HH.out, by have h_ := s7.out; rwa [Int.toNat_natCast] at h_⟩, s8, s9⟩
 case round => (
 clear p4 p5 p6 p7 p8; obtain ⟨x, rfl, ⟨j, l, hx, hj, hA, hO⟩, B1x, HWx⟩ := hrel; have HX := a_ hx; have HJ := a_ hj; have HOx := a_ hO; obtain ⟨n7, n8, n9, o0, o1⟩ := q_c5 B1x.out; cases gk with
 | zero => (
 have c1 : decide (x < (N.length : Int)) = false := decide_eq_false (by omega)
 have HRL : Aside0 (l = R) := ⟨by rw [List.drop_of_length_le (by omega)] at hA; exact q_so hA⟩
 clear hx hj hA hO; go_wp2
 (try simp only [Exit.inBlock, Exit.then])
 refine bodyPost_ret (results_tmp rfl _ _ _) rfl ?_
 rw [← HRL.out]; exact ⟨_, rfl, HOx.out, HWx.out⟩)
 | succ gO => (
 have c1 : decide (x < (N.length : Int)) = true := decide_eq_true (by omega)
 have hjl : j < N.length := by omega
 have p0 : 0 ≤ x := by omega
 have qN : x < (N.length : Int) := by omega
 obtain ⟨adN, A0, c0, e, l8, l9, n0, n3, n4, o2, hCI⟩ := at_T69 s5.out x p0 qN; cases e; obtain ⟨b, hnd⟩ : ∃ b, b = rd_T69 N x := ⟨_, rfl⟩; rw [← hnd] at l8 l9 n0 n3 n4 o2 hCI
 have hndl : b = N[j] := by rw [hnd, hx]; simp [rd_T69, hjl]
 have HCI := a_ hCI; have HNLEN : Aside0 (b.f0.length ≤ 1000000) := ⟨HNS.out b (by rw [hndl]; exact List.getElem_mem _)⟩
 rw [List.drop_eq_getElem_cons hjl, ← hndl, markNds] at hA; obtain ⟨lN, M, j3⟩ := Option.bind_eq_some_iff.1 hA; rw [markNd] at M; have t0 := a_ M; have q2 := a_ j3; have HWX : Aside0 (wrap64 (x + 1) = x + 1) := ⟨wrap64_id (by omega) (by have := HN.out; omega)⟩
 replace l8 := cell_old l8 HWx.out; replace l9 := cell_old l9 HWx.out; replace n0 := cell_old n0 HWx.out; replace n3 := cell_old n3 HWx.out; replace n4 := cell_old n4 HWx.out; replace p0 := eq_true p0; replace qN := eq_true qN; obtain ⟨n7, n8, n9, o0, o1⟩ := q_c5 B1x.out; clear hx hj hA hO hnd hndl hCI hjl o2 M j3; go_wp2_with (first | ((with_reducible refine gd_ 5 rfl ?_); refine q_box 5 69 #[.slice none 0 0, .int .i64 0, .int .i64 0, .int .i64 0, .int .i64 0] ?_; intro g5 q3 w5 b9 q4; have q5 := a_ b9; have t4 := a_ q4; have t5 : Aside0 (wr.heap.size ≤ g5) := ⟨by rw [q3]; exact Nat.le_refl _⟩; clear q3 b9 q4; obtain ⟨q6, q7, q8, q9, r0, r1, r2, r3, r4, r5⟩ := q_cf5 q5.out))
 have o7 : Aside0 (Below wr.heap.size wr (((((w5.setCell ⟨g5, 0, none⟩ (.slice A0 b.f0.length c0)).setCell ⟨g5, 1, none⟩ (.int .i64 b.f1)).setCell ⟨g5, 2, none⟩ (.int .i64 b.f2)).setCell ⟨g5, 3, none⟩ (.int .i64 b.f3)).setCell ⟨g5, 4, none⟩ (.int .i64 b.f4))) := ⟨(by (repeat (with_reducible refine below_setg ?_ t5.out)); exact t4.out)⟩
 have t6 : Aside0 (((((((w5.setCell ⟨g5, 0, none⟩ (.slice A0 b.f0.length c0)).setCell ⟨g5, 1, none⟩ (.int .i64 b.f1)).setCell ⟨g5, 2, none⟩ (.int .i64 b.f2)).setCell ⟨g5, 3, none⟩ (.int .i64 b.f3)).setCell ⟨g5, 4, none⟩ (.int .i64 b.f4))).heap[g5]? = some (.cells #[.slice A0 b.f0.length c0, .int .i64 b.f1, .int .i64 b.f2, .int .i64 b.f3, .int .i64 b.f4] 69 (0, 0))) := ⟨q_p q5.out⟩
 have t7 := a_ (Kd.R_below HOx.out o7.out); have B16 := a_ (blk_below B1x.out o7.out); have t8 := a_ (below_then HWx.out HWx.out.size o7.out); clear q6 q7 q8 q9 r0 r1 r2 r3 r4 r5 l8 l9 n0 n3 n4 qN p0 c1 n7 n8 n9 o0 o1; obtain ⟨lF, r6, r7⟩ := Option.bind_eq_some_iff.1 t0.out; have t9 := a_ r6; have v0 := a_ r7; clear r6 r7; go_loopg [6] b.f0.length (fun gz v6 wz => ∃ y : Int, v6 = .int .i64 y ∧ Aside0 (∃ (i : Nat) (l : List Bool), y = (i : Int) ∧ i + gz = b.f0.length ∧ markInss has (b.f0.drop i) l = some lF ∧ Kd.R Kd.bool 4 wz w.heap.size (fun _ => True) (.slice (some ⟨go, 0, none⟩) rg cO) l) ∧ Aside0 (wz.heap[g1]? = some (.cells #[.string nm, .slice A1 n1 d2, .slice A2 n2 d3, .int .i64 (rg : Int), .slice (some adN) N.length d4] 26 (0, 0))) ∧ Aside0 (wz.heap[g5]? = some (.cells #[.slice A0 b.f0.length c0, .int .i64 b.f1, .int .i64 b.f2, .int .i64 b.f3, .int .i64 b.f4] 69 (0, 0))) ∧ Aside0 (Below w.heap.size w wz))
 case atStart => exact ⟨0, rfl, ⟨0, l, rfl, by omega, t9.out, t7.out⟩, B16, t6, t8⟩
 case round => (
 obtain ⟨y, rfl, ⟨i, l, hy, hi, hA, hO⟩, B1y, B5y, HWy⟩ := hrel; have HY := a_ hy; have HI := a_ hi; have HOy := a_ hO; obtain ⟨c4, c8, c9, d0, d1⟩ := q_c5 B5y.out; cases gk with
 | zero => (
 have c1 : decide (y < (b.f0.length : Int)) = false := decide_eq_false (by omega)
 have hlF : l = lF := by rw [List.drop_of_length_le (by omega)] at hA; exact q_so hA
 have HLF := a_ hlF; clear hy hi hA hO hlF; have i9 := v0.out; by_cases hE : b.f1 = 1
 case pos => (
 have c2 : (b.f1 == 1) = true := beq_iff_eq.mpr hE
 rw [if_pos hE] at i9; obtain ⟨hr, hl⟩ := mark_some i9; rw [← HLF.out, ← (Kd.R_reads' HOy.out).1] at hr; have HLN := a_ hl; have hky := (Kd.R_celln false HOy.out b.f2 hr.1 hr.2).1; have hfy := (Kd.R_celln false HOy.out b.f2 hr.1 hr.2).2; have u0 := eq_true hr.1; have u1 := eq_true hr.2; clear hE i9 hr hl; go_wp2_with (first | ((with_reducible refine gate_store (t := 4) (p := 81) rfl ?_); refine store_event (t := 4) (p := 81) (v := .const (.bool true)) (w1 := (wr.setCell ⟨go, (b.f2).toNat, none⟩ (.bool true))) ?hg ?ho ?hn ?hr ?_; (case ho => rfl); (case hg => rfl); (case hn => rfl); (case hr => first | (go_simp; done) | (go_simp; rfl)); intro o8 hw_; have hg_ : wr.grownBy o8 (some go) := (by rw [hw_]; exact (Kd.R_putg HOy.out (b.f2) true).2); have HOe := a_ (show Kd.R Kd.bool 4 o8 w.heap.size (fun _ => True) (.slice (some ⟨go, 0, none⟩) rg cO) (l.set (b.f2).toNat true) from (by rw [hw_]; exact (Kd.R_putg HOy.out (b.f2) true).1)); have HWe : Aside0 (Below w.heap.size w o8) := ⟨by rw [hw_]; exact below_set HWy.out GO.out⟩; have B1e := a_ (blk_grown B1y.out hg_ (Kd.R_ne HOy.out B1y.out (by decide))); have B5e := a_ (blk_grown B5y.out hg_ (Kd.R_ne HOy.out B5y.out (by decide))); clear hg_ hw_))
 go_roundg gO
 case measure => omega
 case rel => exact ⟨wrap64 (x + 1), rfl, ⟨j + 1, lN, by rw [HWX.out, HX.out]; rfl, by have := HJ.out; omega, q2.out, by rw [HLN.out, ← HLF.out]; exact HOe.out⟩, B1e, HWe⟩)
 case neg => (
 have c2 : (b.f1 == 1) = false := beq_eq_false_iff_ne.mpr hE
 rw [if_neg hE] at i9; have HLN : Aside0 (l = lN) := ⟨by rw [HLF.out]; exact q_so i9⟩
 clear hE i9; go_wp2
 go_roundg gO
 case measure => omega
 case rel => exact ⟨wrap64 (x + 1), rfl, ⟨j + 1, l, by rw [HWX.out, HX.out]; rfl, by have := HJ.out; omega, by rw [HLN.out]; exact q2.out, HOy.out⟩, B1y, HWy⟩))
 | succ gQ => (
 have c1 : decide (y < (b.f0.length : Int)) = true := decide_eq_true (by omega)
 have hOl : i < b.f0.length := by omega
 have p0 : 0 ≤ y := by omega
 have q0 : y < (b.f0.length : Int) := by omega
 obtain ⟨adI, A6, c6, e, e7, b8, e8, e9, f7, b9, f8, j5, o9⟩ := at_T71 HCI.out y p0 q0; cases e; obtain ⟨p, hp⟩ : ∃ p, p = rd_T71 b.f0 y := ⟨_, rfl⟩; rw [← hp] at e7 b8 e8 e9 f7 b9 f8 j5 o9
 have hpl : p = b.f0[i] := by rw [hp, hy]; simp [rd_T71, hOl]
 have x5 := a_ o9; have x6 := a_ j5; rw [List.drop_eq_getElem_cons hOl, ← hpl, markInss] at hA; obtain ⟨lI, M, j3⟩ := Option.bind_eq_some_iff.1 hA; have HNX := a_ j3; rw [markIns] at M; obtain ⟨⟨t1, t2, t3⟩, ht, M⟩ := Option.bind_eq_some_iff.1 M; split at M
 case isFalse => cases M
 rename_i hcb
 have O : Aside0 (p.f6 = []) := ⟨hcb.2⟩
 replace hcb := hcb.1; obtain ⟨l1, n5, M⟩ := Option.bind_eq_some_iff.1 M; obtain ⟨l2, f9, M⟩ := Option.bind_eq_some_iff.1 M; obtain ⟨l3, L, rfl⟩ : ∃ l3, (if t3 = true then mark l2 p.f4 else some l2) = some l3 ∧ l3 = lI := ⟨lI, M, rfl⟩
 clear M; have HT := a_ ht; have hll : rg = l.length := (Kd.R_reads' hO).1
 have HWY : Aside0 (wrap64 (y + 1) = y + 1) := ⟨wrap64_id (by omega) (by have := HNLEN.out; omega)⟩
 replace e7 := cell_old e7 HWy.out; replace b8 := cell_old b8 HWy.out; replace e8 := cell_old e8 HWy.out; replace e9 := cell_old e9 HWy.out; replace f7 := cell_old f7 HWy.out; replace b9 := cell_old b9 HWy.out; replace f8 := cell_old f8 HWy.out; replace p0 := eq_true p0; replace q0 := eq_true q0; obtain ⟨c4, c8, c9, d0, d1⟩ := q_c5 B5y.out; clear hy hi hA hO hOl hp hpl o9 j5 j3 ht; cases t1 with
 | false => (
 have G : l1 = l := (q_so n5).symm
 clear n5; cases t2 with
 | false => (
 have I : l2 = l1 := (q_so f9).symm
 clear f9; cases t3 with
 | false => (
 have J : l3 = l2 := (q_so L).symm
 clear L; have d5 : Aside0 (l3 = l) := ⟨by rw [J, I, G]⟩
 clear G I J hll hcb; go_wp2_with (first | ((with_reducible refine gd_ 7 rfl ?_); refine q_box 7 71 #[.int .i64 0, .int .i64 0, .int .i64 0, .int .i64 0, .int .i64 0, .int .i32 0, .slice none 0 0] ?_; intro g7 T w7 U V; have X := a_ U; have a0 := a_ V; have a1 : Aside0 (wr.heap.size ≤ g7) := ⟨by rw [T]; exact Nat.le_refl _⟩; clear T U V; obtain ⟨a2, a3, a4, a5, a6, a7, a8, a9, b0, b1, b2, b3, b4, b5⟩ := q_cf7 X.out) | (go_at_call 37; (with_reducible refine (HHAS.out _ p.f0 false false false HT.out).mono ?_); rintro e w8 ⟨rfl, b6⟩; have F := Drawn0.below b6; have b7 : Below wr.heap.size wr w8 := below_then (by (repeat (with_reducible refine below_setg ?_ a1.out)); exact a0.out) (Below.size (by (repeat (with_reducible refine below_setg ?_ a1.out)); exact a0.out)) F; have B := a_ b7; have HOa := a_ (Kd.R_below HOy.out B.out); have HWa := a_ (below_then HWy.out HWy.out.size B.out); have B1a := a_ (blk_below B1y.out B.out); have B5a := a_ (blk_below B5y.out B.out); have B7a := a_ (blk_below (g := g7) (o := .cells #[.int .i64 p.f0, .int .i64 p.f1, .int .i64 p.f2, .int .i64 p.f3, .int .i64 p.f4, .int .i32 p.f5, .slice A6 p.f6.length c6] 71 (0, 0)) (q_p X.out) F); clear b7 F b6; obtain ⟨d7, d8, d9, e0, e1, e2, e3⟩ := q_c7 B7a.out))
 have HOs : Aside0 (Kd.R Kd.bool 4 w8 w.heap.size (fun _ => True) (.slice (some ⟨go, 0, none⟩) rg cO) l3) := ⟨by rw [d5.out]; exact HOa.out⟩
 clear a2 a3 a4 a5 a6 a7 a8 a9 b0 b1 b2 b3 b4 b5 e7 b8 e8 e9 f7 b9 f8 c4 c8 c9 d0 d1 p0 q0 c1; go_loopg [11] 0 (fun gz e4 wz => e4 = .int .i64 0 ∧ Aside0 (Kd.R Kd.bool 4 wz w.heap.size (fun _ => True) (.slice (some ⟨go, 0, none⟩) rg cO) l3) ∧ Aside0 (wz.heap[g1]? = some (.cells #[.string nm, .slice A1 n1 d2, .slice A2 n2 d3, .int .i64 (rg : Int), .slice (some adN) N.length d4] 26 (0, 0))) ∧ Aside0 (wz.heap[g5]? = some (.cells #[.slice (some adI) b.f0.length c0, .int .i64 b.f1, .int .i64 b.f2, .int .i64 b.f3, .int .i64 b.f4] 69 (0, 0))) ∧ Aside0 (wz.heap[g7]? = some (.cells #[.int .i64 p.f0, .int .i64 p.f1, .int .i64 p.f2, .int .i64 p.f3, .int .i64 p.f4, .int .i32 p.f5, .slice A6 p.f6.length c6] 71 (0, 0))) ∧ Aside0 (Below w.heap.size w wz))
 case atStart => exact ⟨rfl, HOs, B1a, B5a, B7a, HWa⟩
 case round => (
 obtain ⟨rfl, HOm, B1m, B5m, B7m, HWm⟩ := hrel; obtain ⟨i1, i2, i3, i4, i5, i6, i7⟩ := q_c7 B7m.out; have c1 : decide (0 < (p.f6.length : Int)) = false := decide_eq_false (by rw [O.out]; decide)
 have c1b : decide (0 < p.f6.length) = false := decide_eq_false (by rw [O.out]; decide)
 have c1c : (p.f6.length : Int) = 0 := by rw [O.out]; rfl
 go_wp2
 go_roundg gQ
 case measure => omega
 case rel => exact ⟨wrap64 (y + 1), rfl, ⟨i + 1, l3, by rw [HWY.out, HY.out]; rfl, by have := HI.out; omega, HNX.out, HOm.out⟩, B1m, B5m, HWm⟩))
 | true => (
 obtain ⟨c3, J⟩ := mark_some L; have q : Aside0 (0 ≤ p.f4 ∧ p.f4 < (rg : Int)) := ⟨by rw [hll]; have h_ := c3; rw [I, G] at h_; first | exact h_ | simpa using h_⟩
 have j6 := eq_true q.out.1; have j7 := eq_true q.out.2; clear L c3; cases hcb))
 | true => (
 obtain ⟨j8, I⟩ := mark_some f9; have z : Aside0 (0 ≤ p.f3 ∧ p.f3 < (rg : Int)) := ⟨by rw [hll]; have h_ := j8; rw [G] at h_; first | exact h_ | simpa using h_⟩
 have r9 := eq_true z.out.1; have s0 := eq_true z.out.2; clear f9 j8; cases t3 with
 | false => (
 have J : l3 = l2 := (q_so L).symm
 clear L; cases hcb)
 | true => (
 obtain ⟨c3, J⟩ := mark_some L; have q : Aside0 (0 ≤ p.f4 ∧ p.f4 < (rg : Int)) := ⟨by rw [hll]; have h_ := c3; rw [I, G] at h_; first | exact h_ | simpa using h_⟩
 have j6 := eq_true q.out.1; have j7 := eq_true q.out.2; clear L c3; have d5 : Aside0 (l3 = ((l.set p.f3.toNat true).set p.f4.toNat true)) := ⟨by rw [J, I, G]⟩
 clear G I J hll hcb; go_wp2_with (first | ((with_reducible refine gd_ 7 rfl ?_); refine q_box 7 71 #[.int .i64 0, .int .i64 0, .int .i64 0, .int .i64 0, .int .i64 0, .int .i32 0, .slice none 0 0] ?_; intro g7 T w7 U V; have X := a_ U; have a0 := a_ V; have a1 : Aside0 (wr.heap.size ≤ g7) := ⟨by rw [T]; exact Nat.le_refl _⟩; clear T U V; obtain ⟨a2, a3, a4, a5, a6, a7, a8, a9, b0, b1, b2, b3, b4, b5⟩ := q_cf7 X.out) | (go_at_call 37; (with_reducible refine (HHAS.out _ p.f0 false true true HT.out).mono ?_); rintro e w8 ⟨rfl, b6⟩; have F := Drawn0.below b6; have b7 : Below wr.heap.size wr w8 := below_then (by (repeat (with_reducible refine below_setg ?_ a1.out)); exact a0.out) (Below.size (by (repeat (with_reducible refine below_setg ?_ a1.out)); exact a0.out)) F; have B := a_ b7; have HOa := a_ (Kd.R_below HOy.out B.out); have HWa := a_ (below_then HWy.out HWy.out.size B.out); have B1a := a_ (blk_below B1y.out B.out); have B5a := a_ (blk_below B5y.out B.out); have B7a := a_ (blk_below (g := g7) (o := .cells #[.int .i64 p.f0, .int .i64 p.f1, .int .i64 p.f2, .int .i64 p.f3, .int .i64 p.f4, .int .i32 p.f5, .slice A6 p.f6.length c6] 71 (0, 0)) (q_p X.out) F); clear b7 F b6; obtain ⟨d7, d8, d9, e0, e1, e2, e3⟩ := q_c7 B7a.out; have hka := (Kd.R_celln false HOa.out (p.f3) z.out.1 z.out.2).1; have hfa := (Kd.R_celln false HOa.out (p.f3) z.out.1 z.out.2).2) | ((with_reducible refine gate_store (t := 4) (p := 55) rfl ?_); refine store_event (t := 4) (p := 55) (v := .const (.bool true)) (w1 := (w8.setCell ⟨go, (p.f3).toNat, none⟩ (.bool true))) ?hg ?ho ?hn ?hr ?_; (case ho => rfl); (case hg => rfl); (case hn => rfl); (case hr => first | (go_simp; done) | (go_simp; rfl)); intro D hw_; have hg_ : w8.grownBy D (some go) := (by rw [hw_]; exact (Kd.R_putg HOa.out (p.f3) true).2); have HOb := a_ (show Kd.R Kd.bool 4 D w.heap.size (fun _ => True) (.slice (some ⟨go, 0, none⟩) rg cO) (l.set (p.f3).toNat true) from (by rw [hw_]; exact (Kd.R_putg HOa.out (p.f3) true).1)); have HWb : Aside0 (Below w.heap.size w D) := ⟨by rw [hw_]; exact below_set HWa.out GO.out⟩; have B1b := a_ (blk_grown B1a.out hg_ (Kd.R_ne HOa.out B1a.out (by decide))); have B5b := a_ (blk_grown B5a.out hg_ (Kd.R_ne HOa.out B5a.out (by decide))); have B7b := a_ (blk_grown B7a.out hg_ (Kd.R_ne HOa.out B7a.out (by decide))); obtain ⟨g0, g2, g3, g4, g6, g8, g9⟩ := q_c7 B7b.out; clear hg_ hw_; have hkb := (Kd.R_celln false HOb.out (p.f4) q.out.1 q.out.2).1; have hfb := (Kd.R_celln false HOb.out (p.f4) q.out.1 q.out.2).2) | ((with_reducible refine gate_store (t := 4) (p := 60) rfl ?_); refine store_event (t := 4) (p := 60) (v := .const (.bool true)) (w1 := (D.setCell ⟨go, (p.f4).toNat, none⟩ (.bool true))) ?hg ?ho ?hn ?hr ?_; (case ho => rfl); (case hg => rfl); (case hn => rfl); (case hr => first | (go_simp; done) | (go_simp; rfl)); intro S hw_; have hg_ : D.grownBy S (some go) := (by rw [hw_]; exact (Kd.R_putg HOb.out (p.f4) true).2); have HOc := a_ (show Kd.R Kd.bool 4 S w.heap.size (fun _ => True) (.slice (some ⟨go, 0, none⟩) rg cO) ((l.set p.f3.toNat true).set (p.f4).toNat true) from (by rw [hw_]; exact (Kd.R_putg HOb.out (p.f4) true).1)); have HWc : Aside0 (Below w.heap.size w S) := ⟨by rw [hw_]; exact below_set HWb.out GO.out⟩; have B1c := a_ (blk_grown B1b.out hg_ (Kd.R_ne HOb.out B1b.out (by decide))); have B5c := a_ (blk_grown B5b.out hg_ (Kd.R_ne HOb.out B5b.out (by decide))); have B7c := a_ (blk_grown B7b.out hg_ (Kd.R_ne HOb.out B7b.out (by decide))); obtain ⟨j9, k0, k1, k2, k3, k4, k5⟩ := q_c7 B7c.out; clear hg_ hw_))
 have HOs : Aside0 (Kd.R Kd.bool 4 S w.heap.size (fun _ => True) (.slice (some ⟨go, 0, none⟩) rg cO) l3) := ⟨by rw [d5.out]; exact HOc.out⟩
 clear a2 a3 a4 a5 a6 a7 a8 a9 b0 b1 b2 b3 b4 b5 e7 b8 e8 e9 f7 b9 f8 c4 c8 c9 d0 d1 p0 q0 c1; go_loopg [11] 0 (fun gz e4 wz => e4 = .int .i64 0 ∧ Aside0 (Kd.R Kd.bool 4 wz w.heap.size (fun _ => True) (.slice (some ⟨go, 0, none⟩) rg cO) l3) ∧ Aside0 (wz.heap[g1]? = some (.cells #[.string nm, .slice A1 n1 d2, .slice A2 n2 d3, .int .i64 (rg : Int), .slice (some adN) N.length d4] 26 (0, 0))) ∧ Aside0 (wz.heap[g5]? = some (.cells #[.slice (some adI) b.f0.length c0, .int .i64 b.f1, .int .i64 b.f2, .int .i64 b.f3, .int .i64 b.f4] 69 (0, 0))) ∧ Aside0 (wz.heap[g7]? = some (.cells #[.int .i64 p.f0, .int .i64 p.f1, .int .i64 p.f2, .int .i64 p.f3, .int .i64 p.f4, .int .i32 p.f5, .slice A6 p.f6.length c6] 71 (0, 0))) ∧ Aside0 (Below w.heap.size w wz))
 case atStart => exact ⟨rfl, HOs, B1c, B5c, B7c, HWc⟩
 case round => (
 obtain ⟨rfl, HOm, B1m, B5m, B7m, HWm⟩ := hrel; obtain ⟨i1, i2, i3, i4, i5, i6, i7⟩ := q_c7 B7m.out; have c1 : decide (0 < (p.f6.length : Int)) = false := decide_eq_false (by rw [O.out]; decide)
 have c1b : decide (0 < p.f6.length) = false := decide_eq_false (by rw [O.out]; decide)
 have c1c : (p.f6.length : Int) = 0 := by rw [O.out]; rfl
 go_wp2
 go_roundg gQ
 case measure => omega
 case rel => exact ⟨wrap64 (y + 1), rfl, ⟨i + 1, l3, by rw [HWY.out, HY.out]; rfl, by have := HI.out; omega, HNX.out, HOm.out⟩, B1m, B5m, HWm⟩))))
 | true => (
 obtain ⟨s1, G⟩ := mark_some n5; have E : Aside0 (0 ≤ p.f2 ∧ p.f2 < (rg : Int)) := ⟨by rw [hll]; have h_ := s1;  first | exact h_ | simpa using h_⟩
 have x1 := eq_true E.out.1; have x2 := eq_true E.out.2; clear n5 s1; cases t2 with
 | false => (
 have I : l2 = l1 := (q_so f9).symm
 clear f9; cases t3 with
 | false => (
 have J : l3 = l2 := (q_so L).symm
 clear L; have d5 : Aside0 (l3 = (l.set p.f2.toNat true)) := ⟨by rw [J, I, G]⟩
 clear G I J hll hcb; go_wp2_with (first | ((with_reducible refine gd_ 7 rfl ?_); refine q_box 7 71 #[.int .i64 0, .int .i64 0, .int .i64 0, .int .i64 0, .int .i64 0, .int .i32 0, .slice none 0 0] ?_; intro g7 T w7 U V; have X := a_ U; have a0 := a_ V; have a1 : Aside0 (wr.heap.size ≤ g7) := ⟨by rw [T]; exact Nat.le_refl _⟩; clear T U V; obtain ⟨a2, a3, a4, a5, a6, a7, a8, a9, b0, b1, b2, b3, b4, b5⟩ := q_cf7 X.out) | (go_at_call 37; (with_reducible refine (HHAS.out _ p.f0 true false false HT.out).mono ?_); rintro e w8 ⟨rfl, b6⟩; have F := Drawn0.below b6; have b7 : Below wr.heap.size wr w8 := below_then (by (repeat (with_reducible refine below_setg ?_ a1.out)); exact a0.out) (Below.size (by (repeat (with_reducible refine below_setg ?_ a1.out)); exact a0.out)) F; have B := a_ b7; have HOa := a_ (Kd.R_below HOy.out B.out); have HWa := a_ (below_then HWy.out HWy.out.size B.out); have B1a := a_ (blk_below B1y.out B.out); have B5a := a_ (blk_below B5y.out B.out); have B7a := a_ (blk_below (g := g7) (o := .cells #[.int .i64 p.f0, .int .i64 p.f1, .int .i64 p.f2, .int .i64 p.f3, .int .i64 p.f4, .int .i32 p.f5, .slice A6 p.f6.length c6] 71 (0, 0)) (q_p X.out) F); clear b7 F b6; obtain ⟨d7, d8, d9, e0, e1, e2, e3⟩ := q_c7 B7a.out; have hka := (Kd.R_celln false HOa.out (p.f2) E.out.1 E.out.2).1; have hfa := (Kd.R_celln false HOa.out (p.f2) E.out.1 E.out.2).2) | ((with_reducible refine gate_store (t := 4) (p := 50) rfl ?_); refine store_event (t := 4) (p := 50) (v := .const (.bool true)) (w1 := (w8.setCell ⟨go, (p.f2).toNat, none⟩ (.bool true))) ?hg ?ho ?hn ?hr ?_; (case ho => rfl); (case hg => rfl); (case hn => rfl); (case hr => first | (go_simp; done) | (go_simp; rfl)); intro D hw_; have hg_ : w8.grownBy D (some go) := (by rw [hw_]; exact (Kd.R_putg HOa.out (p.f2) true).2); have HOb := a_ (show Kd.R Kd.bool 4 D w.heap.size (fun _ => True) (.slice (some ⟨go, 0, none⟩) rg cO) (l.set (p.f2).toNat true) from (by rw [hw_]; exact (Kd.R_putg HOa.out (p.f2) true).1)); have HWb : Aside0 (Below w.heap.size w D) := ⟨by rw [hw_]; exact below_set HWa.out GO.out⟩; have B1b := a_ (blk_grown B1a.out hg_ (Kd.R_ne HOa.out B1a.out (by decide))); have B5b := a_ (blk_grown B5a.out hg_ (Kd.R_ne HOa.out B5a.out (by decide))); have B7b := a_ (blk_grown B7a.out hg_ (Kd.R_ne HOa.out B7a.out (by decide))); obtain ⟨g0, g2, g3, g4, g6, g8, g9⟩ := q_c7 B7b.out; clear hg_ hw_))
 have HOs : Aside0 (Kd.R Kd.bool 4 D w.heap.size (fun _ => True) (.slice (some ⟨go, 0, none⟩) rg cO) l3) := ⟨by rw [d5.out]; exact HOb.out⟩
 clear a2 a3 a4 a5 a6 a7 a8 a9 b0 b1 b2 b3 b4 b5 e7 b8 e8 e9 f7 b9 f8 c4 c8 c9 d0 d1 p0 q0 c1; go_loopg [11] 0 (fun gz e4 wz => e4 = .int .i64 0 ∧ Aside0 (Kd.R Kd.bool 4 wz w.heap.size (fun _ => True) (.slice (some ⟨go, 0, none⟩) rg cO) l3) ∧ Aside0 (wz.heap[g1]? = some (.cells #[.string nm, .slice A1 n1 d2, .slice A2 n2 d3, .int .i64 (rg : Int), .slice (some adN) N.length d4] 26 (0, 0))) ∧ Aside0 (wz.heap[g5]? = some (.cells #[.slice (some adI) b.f0.length c0, .int .i64 b.f1, .int .i64 b.f2, .int .i64 b.f3, .int .i64 b.f4] 69 (0, 0))) ∧ Aside0 (wz.heap[g7]? = some (.cells #[.int .i64 p.f0, .int .i64 p.f1, .int .i64 p.f2, .int .i64 p.f3, .int .i64 p.f4, .int .i32 p.f5, .slice A6 p.f6.length c6] 71 (0, 0))) ∧ Aside0 (Below w.heap.size w wz))
 case atStart => exact ⟨rfl, HOs, B1b, B5b, B7b, HWb⟩
 case round => (
 obtain ⟨rfl, HOm, B1m, B5m, B7m, HWm⟩ := hrel; obtain ⟨i1, i2, i3, i4, i5, i6, i7⟩ := q_c7 B7m.out; have c1 : decide (0 < (p.f6.length : Int)) = false := decide_eq_false (by rw [O.out]; decide)
 have c1b : decide (0 < p.f6.length) = false := decide_eq_false (by rw [O.out]; decide)
 have c1c : (p.f6.length : Int) = 0 := by rw [O.out]; rfl
 go_wp2
 go_roundg gQ
 case measure => omega
 case rel => exact ⟨wrap64 (y + 1), rfl, ⟨i + 1, l3, by rw [HWY.out, HY.out]; rfl, by have := HI.out; omega, HNX.out, HOm.out⟩, B1m, B5m, HWm⟩))
 | true => (
 obtain ⟨c3, J⟩ := mark_some L; have q : Aside0 (0 ≤ p.f4 ∧ p.f4 < (rg : Int)) := ⟨by rw [hll]; have h_ := c3; rw [I, G] at h_; first | exact h_ | simpa using h_⟩
 have j6 := eq_true q.out.1; have j7 := eq_true q.out.2; clear L c3; cases hcb))
 | true => (
 obtain ⟨j8, I⟩ := mark_some f9; have z : Aside0 (0 ≤ p.f3 ∧ p.f3 < (rg : Int)) := ⟨by rw [hll]; have h_ := j8; rw [G] at h_; first | exact h_ | simpa using h_⟩
 have r9 := eq_true z.out.1; have s0 := eq_true z.out.2; clear f9 j8; cases t3 with
 | false => (
 have J : l3 = l2 := (q_so L).symm
 clear L; have d5 : Aside0 (l3 = ((l.set p.f2.toNat true).set p.f3.toNat true)) := ⟨by rw [J, I, G]⟩
 clear G I J hll hcb; go_wp2_with (first | ((with_reducible refine gd_ 7 rfl ?_); refine q_box 7 71 #[.int .i64 0, .int .i64 0, .int .i64 0, .int .i64 0, .int .i64 0, .int .i32 0, .slice none 0 0] ?_; intro g7 T w7 U V; have X := a_ U; have a0 := a_ V; have a1 : Aside0 (wr.heap.size ≤ g7) := ⟨by rw [T]; exact Nat.le_refl _⟩; clear T U V; obtain ⟨a2, a3, a4, a5, a6, a7, a8, a9, b0, b1, b2, b3, b4, b5⟩ := q_cf7 X.out) | (go_at_call 37; (with_reducible refine (HHAS.out _ p.f0 true true false HT.out).mono ?_); rintro e w8 ⟨rfl, b6⟩; have F := Drawn0.below b6; have b7 : Below wr.heap.size wr w8 := below_then (by (repeat (with_reducible refine below_setg ?_ a1.out)); exact a0.out) (Below.size (by (repeat (with_reducible refine below_setg ?_ a1.out)); exact a0.out)) F; have B := a_ b7; have HOa := a_ (Kd.R_below HOy.out B.out); have HWa := a_ (below_then HWy.out HWy.out.size B.out); have B1a := a_ (blk_below B1y.out B.out); have B5a := a_ (blk_below B5y.out B.out); have B7a := a_ (blk_below (g := g7) (o := .cells #[.int .i64 p.f0, .int .i64 p.f1, .int .i64 p.f2, .int .i64 p.f3, .int .i64 p.f4, .int .i32 p.f5, .slice A6 p.f6.length c6] 71 (0, 0)) (q_p X.out) F); clear b7 F b6; obtain ⟨d7, d8, d9, e0, e1, e2, e3⟩ := q_c7 B7a.out; have hka := (Kd.R_celln false HOa.out (p.f2) E.out.1 E.out.2).1; have hfa := (Kd.R_celln false HOa.out (p.f2) E.out.1 E.out.2).2) | ((with_reducible refine gate_store (t := 4) (p := 50) rfl ?_); refine store_event (t := 4) (p := 50) (v := .const (.bool true)) (w1 := (w8.setCell ⟨go, (p.f2).toNat, none⟩ (.bool true))) ?hg ?ho ?hn ?hr ?_; (case ho => rfl); (case hg => rfl); (case hn => rfl); (case hr => first | (go_simp; done) | (go_simp; rfl)); intro D hw_; have hg_ : w8.grownBy D (some go) := (by rw [hw_]; exact (Kd.R_putg HOa.out (p.f2) true).2); have HOb := a_ (show Kd.R Kd.bool 4 D w.heap.size (fun _ => True) (.slice (some ⟨go, 0, none⟩) rg cO) (l.set (p.f2).toNat true) from (by rw [hw_]; exact (Kd.R_putg HOa.out (p.f2) true).1)); have HWb : Aside0 (Below w.heap.size w D) := ⟨by rw [hw_]; exact below_set HWa.out GO.out⟩; have B1b := a_ (blk_grown B1a.out hg_ (Kd.R_ne HOa.out B1a.out (by decide))); have B5b := a_ (blk_grown B5a.out hg_ (Kd.R_ne HOa.out B5a.out (by decide))); have B7b := a_ (blk_grown B7a.out hg_ (Kd.R_ne HOa.out B7a.out (by decide))); obtain ⟨g0, g2, g3, g4, g6, g8, g9⟩ := q_c7 B7b.out; clear hg_ hw_; have hkb := (Kd.R_celln false HOb.out (p.f3) z.out.1 z.out.2).1; have hfb := (Kd.R_celln false HOb.out (p.f3) z.out.1 z.out.2).2) | ((with_reducible refine gate_store (t := 4) (p := 55) rfl ?_); refine store_event (t := 4) (p := 55) (v := .const (.bool true)) (w1 := (D.setCell ⟨go, (p.f3).toNat, none⟩ (.bool true))) ?hg ?ho ?hn ?hr ?_; (case ho => rfl); (case hg => rfl); (case hn => rfl); (case hr => first | (go_simp; done) | (go_simp; rfl)); intro S hw_; have hg_ : D.grownBy S (some go) := (by rw [hw_]; exact (Kd.R_putg HOb.out (p.f3) true).2); have HOc := a_ (show Kd.R Kd.bool 4 S w.heap.size (fun _ => True) (.slice (some ⟨go, 0, none⟩) rg cO) ((l.set p.f2.toNat true).set (p.f3).toNat true) from (by rw [hw_]; exact (Kd.R_putg HOb.out (p.f3) true).1)); have HWc : Aside0 (Below w.heap.size w S) := ⟨by rw [hw_]; exact below_set HWb.out GO.out⟩; have B1c := a_ (blk_grown B1b.out hg_ (Kd.R_ne HOb.out B1b.out (by decide))); have B5c := a_ (blk_grown B5b.out hg_ (Kd.R_ne HOb.out B5b.out (by decide))); have B7c := a_ (blk_grown B7b.out hg_ (Kd.R_ne HOb.out B7b.out (by decide))); obtain ⟨j9, k0, k1, k2, k3, k4, k5⟩ := q_c7 B7c.out; clear hg_ hw_))
 have HOs : Aside0 (Kd.R Kd.bool 4 S w.heap.size (fun _ => True) (.slice (some ⟨go, 0, none⟩) rg cO) l3) := ⟨by rw [d5.out]; exact HOc.out⟩
 clear a2 a3 a4 a5 a6 a7 a8 a9 b0 b1 b2 b3 b4 b5 e7 b8 e8 e9 f7 b9 f8 c4 c8 c9 d0 d1 p0 q0 c1; go_loopg [11] 0 (fun gz e4 wz => e4 = .int .i64 0 ∧ Aside0 (Kd.R Kd.bool 4 wz w.heap.size (fun _ => True) (.slice (some ⟨go, 0, none⟩) rg cO) l3) ∧ Aside0 (wz.heap[g1]? = some (.cells #[.string nm, .slice A1 n1 d2, .slice A2 n2 d3, .int .i64 (rg : Int), .slice (some adN) N.length d4] 26 (0, 0))) ∧ Aside0 (wz.heap[g5]? = some (.cells #[.slice (some adI) b.f0.length c0, .int .i64 b.f1, .int .i64 b.f2, .int .i64 b.f3, .int .i64 b.f4] 69 (0, 0))) ∧ Aside0 (wz.heap[g7]? = some (.cells #[.int .i64 p.f0, .int .i64 p.f1, .int .i64 p.f2, .int .i64 p.f3, .int .i64 p.f4, .int .i32 p.f5, .slice A6 p.f6.length c6] 71 (0, 0))) ∧ Aside0 (Below w.heap.size w wz))
 case atStart => exact ⟨rfl, HOs, B1c, B5c, B7c, HWc⟩
 case round => (
 obtain ⟨rfl, HOm, B1m, B5m, B7m, HWm⟩ := hrel; obtain ⟨i1, i2, i3, i4, i5, i6, i7⟩ := q_c7 B7m.out; have c1 : decide (0 < (p.f6.length : Int)) = false := decide_eq_false (by rw [O.out]; decide)
 have c1b : decide (0 < p.f6.length) = false := decide_eq_false (by rw [O.out]; decide)
 have c1c : (p.f6.length : Int) = 0 := by rw [O.out]; rfl
 go_wp2
 go_roundg gQ
 case measure => omega
 case rel => exact ⟨wrap64 (y + 1), rfl, ⟨i + 1, l3, by rw [HWY.out, HY.out]; rfl, by have := HI.out; omega, HNX.out, HOm.out⟩, B1m, B5m, HWm⟩))
 | true => (
 obtain ⟨c3, J⟩ := mark_some L; have q : Aside0 (0 ≤ p.f4 ∧ p.f4 < (rg : Int)) := ⟨by rw [hll]; have h_ := c3; rw [I, G] at h_; first | exact h_ | simpa using h_⟩
 have j6 := eq_true q.out.1; have j7 := eq_true q.out.2; clear L c3; have d5 : Aside0 (l3 = (((l.set p.f2.toNat true).set p.f3.toNat true).set p.f4.toNat true)) := ⟨by rw [J, I, G]⟩
 clear G I J hll hcb; go_wp2_with (first | ((with_reducible refine gd_ 7 rfl ?_); refine q_box 7 71 #[.int .i64 0, .int .i64 0, .int .i64 0, .int .i64 0, .int .i64 0, .int .i32 0, .slice none 0 0] ?_; intro g7 T w7 U V; have X := a_ U; have a0 := a_ V; have a1 : Aside0 (wr.heap.size ≤ g7) := ⟨by rw [T]; exact Nat.le_refl _⟩; clear T U V; obtain ⟨a2, a3, a4, a5, a6, a7, a8, a9, b0, b1, b2, b3, b4, b5⟩ := q_cf7 X.out) | (go_at_call 37; (with_reducible refine (HHAS.out _ p.f0 true true true HT.out).mono ?_); rintro e w8 ⟨rfl, b6⟩; have F := Drawn0.below b6; have b7 : Below wr.heap.size wr w8 := below_then (by (repeat (with_reducible refine below_setg ?_ a1.out)); exact a0.out) (Below.size (by (repeat (with_reducible refine below_setg ?_ a1.out)); exact a0.out)) F; have B := a_ b7; have HOa := a_ (Kd.R_below HOy.out B.out); have HWa := a_ (below_then HWy.out HWy.out.size B.out); have B1a := a_ (blk_below B1y.out B.out); have B5a := a_ (blk_below B5y.out B.out); have B7a := a_ (blk_below (g := g7) (o := .cells #[.int .i64 p.f0, .int .i64 p.f1, .int .i64 p.f2, .int .i64 p.f3, .int .i64 p.f4, .int .i32 p.f5, .slice A6 p.f6.length c6] 71 (0, 0)) (q_p X.out) F); clear b7 F b6; obtain ⟨d7, d8, d9, e0, e1, e2, e3⟩ := q_c7 B7a.out; have hka := (Kd.R_celln false HOa.out (p.f2) E.out.1 E.out.2).1; have hfa := (Kd.R_celln false HOa.out (p.f2) E.out.1 E.out.2).2) | ((with_reducible refine gate_store (t := 4) (p := 50) rfl ?_); refine store_event (t := 4) (p := 50) (v := .const (.bool true)) (w1 := (w8.setCell ⟨go, (p.f2).toNat, none⟩ (.bool true))) ?hg ?ho ?hn ?hr ?_; (case ho => rfl); (case hg => rfl); (case hn => rfl); (case hr => first | (go_simp; done) | (go_simp; rfl)); intro D hw_; have hg_ : w8.grownBy D (some go) := (by rw [hw_]; exact (Kd.R_putg HOa.out (p.f2) true).2); have HOb := a_ (show Kd.R Kd.bool 4 D w.heap.size (fun _ => True) (.slice (some ⟨go, 0, none⟩) rg cO) (l.set (p.f2).toNat true) from (by rw [hw_]; exact (Kd.R_putg HOa.out (p.f2) true).1)); have HWb : Aside0 (Below w.heap.size w D) := ⟨by rw [hw_]; exact below_set HWa.out GO.out⟩; have B1b := a_ (blk_grown B1a.out hg_ (Kd.R_ne HOa.out B1a.out (by decide))); have B5b := a_ (blk_grown B5a.out hg_ (Kd.R_ne HOa.out B5a.out (by decide))); have B7b := a_ (blk_grown B7a.out hg_ (Kd.R_ne HOa.out B7a.out (by decide))); obtain ⟨g0, g2, g3, g4, g6, g8, g9⟩ := q_c7 B7b.out; clear hg_ hw_; have hkb := (Kd.R_celln false HOb.out (p.f3) z.out.1 z.out.2).1; have hfb := (Kd.R_celln false HOb.out (p.f3) z.out.1 z.out.2).2) | ((with_reducible refine gate_store (t := 4) (p := 55) rfl ?_); refine store_event (t := 4) (p := 55) (v := .const (.bool true)) (w1 := (D.setCell ⟨go, (p.f3).toNat, none⟩ (.bool true))) ?hg ?ho ?hn ?hr ?_; (case ho => rfl); (case hg => rfl); (case hn => rfl); (case hr => first | (go_simp; done) | (go_simp; rfl)); intro S hw_; have hg_ : D.grownBy S (some go) := (by rw [hw_]; exact (Kd.R_putg HOb.out (p.f3) true).2); have HOc := a_ (show Kd.R Kd.bool 4 S w.heap.size (fun _ => True) (.slice (some ⟨go, 0, none⟩) rg cO) ((l.set p.f2.toNat true).set (p.f3).toNat true) from (by rw [hw_]; exact (Kd.R_putg HOb.out (p.f3) true).1)); have HWc : Aside0 (Below w.heap.size w S) := ⟨by rw [hw_]; exact below_set HWb.out GO.out⟩; have B1c := a_ (blk_grown B1b.out hg_ (Kd.R_ne HOb.out B1b.out (by decide))); have B5c := a_ (blk_grown B5b.out hg_ (Kd.R_ne HOb.out B5b.out (by decide))); have B7c := a_ (blk_grown B7b.out hg_ (Kd.R_ne HOb.out B7b.out (by decide))); obtain ⟨j9, k0, k1, k2, k3, k4, k5⟩ := q_c7 B7c.out; clear hg_ hw_; have hkc := (Kd.R_celln false HOc.out (p.f4) q.out.1 q.out.2).1; have hfc := (Kd.R_celln false HOc.out (p.f4) q.out.1 q.out.2).2) | ((with_reducible refine gate_store (t := 4) (p := 60) rfl ?_); refine store_event (t := 4) (p := 60) (v := .const (.bool true)) (w1 := (S.setCell ⟨go, (p.f4).toNat, none⟩ (.bool true))) ?hg ?ho ?hn ?hr ?_; (case ho => rfl); (case hg => rfl); (case hn => rfl); (case hr => first | (go_simp; done) | (go_simp; rfl)); intro n6 hw_; have hg_ : S.grownBy n6 (some go) := (by rw [hw_]; exact (Kd.R_putg HOc.out (p.f4) true).2); have HOd := a_ (show Kd.R Kd.bool 4 n6 w.heap.size (fun _ => True) (.slice (some ⟨go, 0, none⟩) rg cO) (((l.set p.f2.toNat true).set p.f3.toNat true).set (p.f4).toNat true) from (by rw [hw_]; exact (Kd.R_putg HOc.out (p.f4) true).1)); have HWd : Aside0 (Below w.heap.size w n6) := ⟨by rw [hw_]; exact below_set HWc.out GO.out⟩; have B1d := a_ (blk_grown B1c.out hg_ (Kd.R_ne HOc.out B1c.out (by decide))); have B5d := a_ (blk_grown B5c.out hg_ (Kd.R_ne HOc.out B5c.out (by decide))); have B7d := a_ (blk_grown B7c.out hg_ (Kd.R_ne HOc.out B7c.out (by decide))); obtain ⟨v1, v2, v3, v5, v7, v8, v9⟩ := q_c7 B7d.out; clear hg_ hw_))
 have HOs : Aside0 (Kd.R Kd.bool 4 n6 w.heap.size (fun _ => True) (.slice (some ⟨go, 0, none⟩) rg cO) l3) := ⟨by rw [d5.out]; exact HOd.out⟩
 clear a2 a3 a4 a5 a6 a7 a8 a9 b0 b1 b2 b3 b4 b5 e7 b8 e8 e9 f7 b9 f8 c4 c8 c9 d0 d1 p0 q0 c1; go_loopg [11] 0 (fun gz e4 wz => e4 = .int .i64 0 ∧ Aside0 (Kd.R Kd.bool 4 wz w.heap.size (fun _ => True) (.slice (some ⟨go, 0, none⟩) rg cO) l3) ∧ Aside0 (wz.heap[g1]? = some (.cells #[.string nm, .slice A1 n1 d2, .slice A2 n2 d3, .int .i64 (rg : Int), .slice (some adN) N.length d4] 26 (0, 0))) ∧ Aside0 (wz.heap[g5]? = some (.cells #[.slice (some adI) b.f0.length c0, .int .i64 b.f1, .int .i64 b.f2, .int .i64 b.f3, .int .i64 b.f4] 69 (0, 0))) ∧ Aside0 (wz.heap[g7]? = some (.cells #[.int .i64 p.f0, .int .i64 p.f1, .int .i64 p.f2, .int .i64 p.f3, .int .i64 p.f4, .int .i32 p.f5, .slice A6 p.f6.length c6] 71 (0, 0))) ∧ Aside0 (Below w.heap.size w wz))
 case atStart => exact ⟨rfl, HOs, B1d, B5d, B7d, HWd⟩
 case round => (
 obtain ⟨rfl, HOm, B1m, B5m, B7m, HWm⟩ := hrel; obtain ⟨i1, i2, i3, i4, i5, i6, i7⟩ := q_c7 B7m.out; have c1 : decide (0 < (p.f6.length : Int)) = false := decide_eq_false (by rw [O.out]; decide)
 have c1b : decide (0 < p.f6.length) = false := decide_eq_false (by rw [O.out]; decide)
 have c1c : (p.f6.length : Int) = 0 := by rw [O.out]; rfl
 go_wp2
 go_roundg gQ
 case measure => omega
 case rel => exact ⟨wrap64 (y + 1), rfl, ⟨i + 1, l3, by rw [HWY.out, HY.out]; rfl, by have := HI.out; omega, HNX.out, HOm.out⟩, B1m, B5m, HWm⟩))))))))
end Go.Proofs.YtefhpdcafdhcaaaDoor.S
end
section
namespace Go.Proofs.YtefhpdcafdhcaaaDoor.M
open Go Go.RowKit Go.Proofs.YtefhpdcafdhcaaaDoorW.PrintWords Go.Proofs.YtefhpdcafdhcaaaDoorW.PrintLast Go.Proofs.YtefhpdcafdhcaaaDoorW.PrintMore Go.Proofs.YtefhpdcafdhcaaaDoor Go.Proofs.YtefhpdcafdhcaaaDoor.A Go.Proofs.YtefhpdcafdhcaaaDoor.B Go.Proofs.YtefhpdcafdhcaaaDoor.N Go.Proofs.YtefhpdcafdhcaaaDoor.V Go.Proofs.YtefhpdcafdhcaaaDoor.S
open FlowM (next Fine FineNd FineG Live liveF after listOf mem_listOf after_bit)
theorem flow_cases (nm : ByteArray) {ps : List S83} {ar : List S85} (rg : Int) {N : List S69} (hB : Big ps ar N) (hI : Ints N) :
  Evt (fun k => l11_wide.f k nm ps ar rg N) true ∨
  (Small nm ps ar N ∧ Evt (fun k => l11_wide.f k nm ps ar rg N) false ∧ ∃ e : Int, e ≠ 0 ∧ Evt (fun k => r11_Error.f k nm ps ar rg N) e ∧ Evt (fun k => alloc_fits.f k nm ps ar rg N) e) ∨
  (Small nm ps ar N ∧ Evt (fun k => l11_wide.f k nm ps ar rg N) false ∧ Evt (fun k => r11_Error.f k nm ps ar rg N) 0 ∧ Evt (fun k => alloc_fits.f k nm ps ar rg N) 0 ∧ VF nm ps ar rg N ∧ Evt (fun k => flow_Valid.f k nm ps ar rg N) true ∧ rg ≤ 300 ∧ ∀ n ∈ N, ∀ y ∈ n.f0, y.f0 ≠ 11) := by
 obtain ⟨b, hW, hS⟩ := wide_ev nm rg hB; cases b with
 | true => (
 left
 unfold l11_wide.f
 exact Evt.bind hW (Evt.pos rfl (Evt.const _)))
 | false => (
 have hs := hS rfl; obtain ⟨v, hR, hF, _⟩ := valid_ev nm rg hs hI; obtain ⟨e, hE, hA, p⟩ := err_ev nm rg hs hI; by_cases l : rg > 300
 {
 cases v with
 | true => (
 left
 unfold l11_wide.f
 exact Evt.bind hW (Evt.neg (by simp) (Evt.pos l (Evt.bind hR (Evt.const _)))))
 | false => (
 right; left
 refine ⟨hs, ?_, e, fun he => ?_, hE, hA⟩
 {
 unfold l11_wide.f
 exact Evt.bind hW (Evt.neg (by simp) (Evt.pos l (Evt.bind hR (Evt.const _))))}
 {
 have := Evt.uniq hF (p he).2.1
 cases this})}
 {
 have hw : Evt (fun k => l11_wide.f k nm ps ar rg N) false := by {
 unfold l11_wide.f
 exact Evt.bind hW (Evt.neg (by simp) (Evt.neg l (Evt.const _)))}
 right
 by_cases he : e = 0
 {
 right
 subst he; obtain ⟨h1, q, z⟩ := p rfl; exact ⟨hs, hw, hE, hA, h1, q, by omega, z⟩}
 {
 left
 exact ⟨hs, hw, e, he, hE, hA⟩}})
end Go.Proofs.YtefhpdcafdhcaaaDoor.M
end
section
namespace Go.Proofs.YtefhpdcafdhcaaaDoor.M
open Go Go.RowKit Go.Proofs.YtefhpdcafdhcaaaDoorW.PrintWords Go.Proofs.YtefhpdcafdhcaaaDoorW.PrintLast Go.Proofs.YtefhpdcafdhcaaaDoorW.PrintMore Go.Proofs.YtefhpdcafdhcaaaDoor Go.Proofs.YtefhpdcafdhcaaaDoor.A Go.Proofs.YtefhpdcafdhcaaaDoor.B
open FlowM (next hasD hasA hasB Fine FineNd FineG Live scan uses sets scan_mono LiveAt)
section
variable (nm : ByteArray) {ps : List S83} {ar : List S85} (rg : Int) {N : List S69}
theorem getD_sb {l : List Bool} {i j : Nat} (hi : i < l.length) : (l.set i true).getD j false = (l.getD j false || decide (i = j)) := by
 rw [List.getD_eq_getElem?_getD, List.getD_eq_getElem?_getD, List.getElem?_set]; by_cases h : i = j
 ·subst h; rw [if_pos rfl, if_pos hi, decide_eq_true rfl, Bool.or_true]; rfl
 ·rw [if_neg h, decide_eq_false h, Bool.or_false]
def anyOf (x : List Bool) (L : List Int) : Bool := L.any fun m => x.getD m.toNat false
theorem rdOf_getD (x : List Bool) (m : Int) : rdOf false x m = x.getD m.toNat false := rfl
theorem out_ev {x : List Bool} {L : List Int} (hL : L.length ≤ 2) (hx : ∀ m ∈ L, 0 ≤ m ∧ m < (x.length : Int)) : ∀ (m i : Nat), i + m = L.length → Evt (fun k => r11_out.l0 k x L (i : Int)) (anyOf x (L.drop i))
 | 0, i, hm => by {
 refine Evt.succ ?_
 simp only [r11_out.l0]
 rw [List.drop_of_length_le (by omega)]
 exact Evt.neg (by omega) (Evt.const _)}
 | m + 1, i, hm => by {
 have hi : i < L.length := by omega
 have h := hx L[i] (List.getElem_mem _); refine Evt.succ ?_
 simp only [r11_out.l0]
 refine Evt.pos (by omega) (Evt.pos (by omega) ?_)
 rw [show rd L (i : Int) = L[i] by simp [rd, hi]]
 refine Evt.pos h.1 (Evt.pos h.2 ?_)
 rw [rdOf_getD, List.drop_eq_getElem_cons hi, wrap_succ i (by omega)]
 unfold anyOf
 rw [List.any_cons]; have ih := out_ev hL hx m (i + 1) (by omega)
 by_cases b : x.getD L[i].toNat false = true
 ·rw [b]; exact Evt.pos (by trivial) (Evt.const _)
 ·rw [Bool.not_eq_true] at b; rw [b, Bool.false_or]; exact Evt.neg (by simp) ih}
theorem rout_ev {x : List Bool} {i : Nat} (hi : i < N.length) (hxl : x.length = N.length) (hT : ∀ n ∈ N, ∀ m ∈ next n, 0 ≤ m ∧ m < (N.length : Int)) : Evt (fun k => r11_out.f k nm ps ar rg N x (i : Int)) (anyOf x (next N[i])) := by
 have hr : rd_T69 N (i : Int) = N[i] := by simp [rd_T69, hi]
 unfold r11_out.f
 refine Evt.pos (by omega) (Evt.pos (by omega) ?_)
 rw [hr, rnext_r]; simp only [Option.bind_some]
 have := out_ev (x := x) (next_le N[i]) (fun m hm => by rw [hxl]; exact hT _ (List.getElem_mem _) m hm) (next N[i]).length 0 (by omega)
 rw [List.drop_zero] at this; exact this
theorem ruses_ev {m : Nat} {y : S71} (h : Fine m y) (r : Int) : Evt (fun k => r11_Uses.f k y.f0 y.f1 y.f2 y.f3 y.f4 y.f5 y.f6 r) (uses y r) := by
 unfold r11_Uses.f uses
 refine Evt.bind (has_ev h.1 h.2.1) ?_
 cases hA : hasA y.f0 <;> cases hB : hasB y.f0 <;> simp only [Bool.true_and, Bool.false_and, Bool.false_or, Bool.or_false]
 ·exact Evt.neg (by simp) (Evt.neg (by simp) (Evt.const _))
 ·exact Evt.neg (by simp) (Evt.pos (by trivial) (Evt.const _))
 ·by_cases e : y.f3 = r
  ·rw [show (y.f3 == r) = true by simpa using e]
   exact Evt.pos (by trivial) (Evt.pos e (Evt.const _))
  ·rw [show (y.f3 == r) = false by simpa using e]
   exact Evt.pos (by trivial) (Evt.neg e (Evt.neg (by simp) (Evt.const _)))
 ·by_cases e : y.f3 = r
  ·rw [show (y.f3 == r) = true by simpa using e, Bool.true_or]
   exact Evt.pos (by trivial) (Evt.pos e (Evt.const _))
  ·rw [show (y.f3 == r) = false by simpa using e, Bool.false_or]
   exact Evt.pos (by trivial) (Evt.neg e (Evt.pos (by trivial) (Evt.const _)))
theorem rsets_ev {m : Nat} {y : S71} (h : Fine m y) (r : Int) : Evt (fun k => r11_Sets.f k y.f0 y.f1 y.f2 y.f3 y.f4 y.f5 y.f6 r) (sets y r) := by
 unfold r11_Sets.f sets
 refine Evt.bind (has_ev h.1 h.2.1) ?_
 cases hD : hasD y.f0
 ·exact Evt.neg (by simp) (Evt.const _)
 ·exact Evt.pos (by trivial) (by simpa using Evt.const _)
theorem before_ev {m : Nat} {n : S69} (hF : ∀ y ∈ n.f0, Fine m y) (hl : n.f0.length ≤ 1000) (r : Int) (out : Bool) : ∀ (rest : List S71) (i : Nat), n.f0.drop i = rest → Evt (fun k => r11_before.l0 k (i : Int) r out n.f0 n.f1 n.f2 n.f3 n.f4) (scan n r out rest)
 | [], i, hd => by {
 have := drop_nil_ge hd
 refine Evt.succ ?_
 simp only [r11_before.l0]
 refine Evt.neg (by omega) ?_
 rw [scan]; by_cases h1 : n.f1 = 1
 {
 rw [show (n.f1 == 1) = true by simpa using h1, Bool.true_and]
 refine Evt.pos h1 ?_
 by_cases b : n.f2 = r
 {
 rw [show (n.f2 == r) = true by simpa using b, Bool.true_or]
 exact Evt.pos b (Evt.const _)}
 {
 rw [show (n.f2 == r) = false by simpa using b, Bool.false_or]
 exact Evt.neg b (Evt.const _)}}
 {
 rw [show (n.f1 == 1) = false by simpa using h1, Bool.false_and, Bool.false_or]
 exact Evt.neg h1 (Evt.const _)}}
 | y :: rest, i, hd => by {
 obtain ⟨hr, hi, l⟩ := rd71_drop hd; have hm : y ∈ n.f0 := by rw [← List.take_append_drop i n.f0, hd]; simp
 have hf := hF y hm; refine Evt.succ ?_
 simp only [r11_before.l0]
 refine Evt.pos (by omega) (Evt.pos (by omega) ?_)
 rw [hr, wrap_succ i (by omega), scan]
 refine Evt.bind (ruses_ev hf r) ?_
 by_cases h1 : uses y r = true
 ·rw [if_pos h1]; exact Evt.pos h1 (Evt.const _)
 {
 rw [if_neg h1]; refine Evt.neg h1 (Evt.bind (rsets_ev hf r) ?_)
 by_cases b : sets y r = true
 ·rw [if_pos b]; exact Evt.pos b (Evt.const _)
 ·rw [if_neg b]; exact Evt.neg b (before_ev hF hl r out rest (i + 1) l)}}
theorem rbefore_ev {m : Nat} {n : S69} (hF : ∀ y ∈ n.f0, Fine m y) (hl : n.f0.length ≤ 1000) (r : Int) (out : Bool) (i : Nat) : Evt (fun k => r11_before.f k n.f0 n.f1 n.f2 n.f3 n.f4 (i : Int) r out) (scan n r out (n.f0.drop i)) := by
 unfold r11_before.f
 exact before_ev hF hl r out _ i rfl
def LiveRow (N : List S69) (r : Nat) (x : List Bool) : Prop := x.length = N.length ∧ ∀ i, i < N.length → (x.getD i false = true ↔ Live N (r : Int) i)
theorem anyOf_iff {x : List Bool} {L : List Int} (b : ∀ m ∈ L, 0 ≤ m) : anyOf x L = true ↔ ∃ k : Nat, (k : Int) ∈ L ∧ x.getD k false = true := by
 unfold anyOf
 rw [List.any_eq_true]; constructor
 ·rintro ⟨m, hm, h⟩
  exact ⟨m.toNat, by rw [Int.toNat_of_nonneg (b m hm)]; exact hm, h⟩
 ·rintro ⟨k, hk, h⟩
  exact ⟨k, hk, by simpa using h⟩
variable {rg}
theorem into_end {r : Nat} {x : List Bool} (hF : FineG rg.toNat N) (hx : x.length = N.length) (hsnd : ∀ i, i < N.length → x.getD i false = true → Live N (r : Int) i)
  (hcl : ∀ j (h : j < N.length), x.getD j false = false → scan N[j] r (anyOf x (next N[j])) N[j].f0 = false) : LiveRow N r x := by
 refine ⟨hx, fun i hi => ⟨hsnd i hi, fun h => ?_⟩⟩
 refine Live.least (fun i => x.getD i false) (fun j hj out hs ho => ?_) h
 show x.getD j false = true
 cases hxj : x.getD j false with
 | true => rfl
 | false =>
  have h1 := hcl j hj hxj; rw [scan_mono (o' := anyOf x (next N[j])) (fun h => (anyOf_iff (fun m hm => ((hF _ (List.getElem_mem _)).2.2 m hm).1)).2 (ho h)) hs] at h1
  cases h1
theorem into_inner {r : Nat} {c : Nat} (hF : FineG rg.toNat N) (hs : ∀ n ∈ N, n.f0.length ≤ 1000) (hN : N.length ≤ 1000)
  (hout : ∀ x' : List Bool, x'.length = N.length → (∀ i, i < N.length → x'.getD i false = true → Live N (r : Int) i) → c < cnt x' → ∃ z, LiveRow N r z ∧ Evt (fun k => r11_into.l1 k (r : Int) x' false 0 nm ps ar rg N) z) :
  ∀ (m i : Nat), i + m = N.length → ∀ (x : List Bool) (again : Bool), x.length = N.length → (∀ i, i < N.length → x.getD i false = true → Live N (r : Int) i) → c ≤ cnt x → (again = true → c < cnt x) →
   (again = false → ∀ j (h : j < N.length), j < i → x.getD j false = false → scan N[j] r (anyOf x (next N[j])) N[j].f0 = false) → ∃ z, LiveRow N r z ∧ Evt (fun k => r11_into.l1 k (r : Int) x again (i : Int) nm ps ar rg N) z
 | 0, i, hm, x, again, hx, hsnd, hc, ha, hcl => by {
 cases again with
 | true => (
 obtain ⟨z, hz, he⟩ := hout x hx hsnd (ha rfl); refine ⟨z, hz, Evt.succ ?_⟩
 simp only [r11_into.l1]
 refine Evt.neg (by omega) (Evt.succ ?_)
 simp only [r11_into.l0]
 exact Evt.pos (by trivial) he)
 | false => (
 refine ⟨x, into_end hF hx hsnd (fun j hj => hcl rfl j hj (by omega)), Evt.succ ?_⟩
 simp only [r11_into.l1]
 refine Evt.neg (by omega) (Evt.succ ?_)
 simp only [r11_into.l0]
 exact Evt.neg (by simp) (Evt.const _))}
 | m + 1, i, hm, x, again, hx, hsnd, hc, ha, hcl => by {
 have hi : i < N.length := by omega
 have hT : ∀ n ∈ N, ∀ m ∈ next n, 0 ≤ m ∧ m < (N.length : Int) := fun n hn => (hF n hn).2.2
 have hr : rd_T69 N (i : Int) = N[i] := by simp [rd_T69, hi]
 have hmem : N[i] ∈ N := List.getElem_mem _
 have hrd : rdOf false x (i : Int) = x.getD i false := rfl
 by_cases hxi : x.getD i false = true
 {
 obtain ⟨z, hz, he⟩ := into_inner hF hs hN hout m (i + 1) (by omega) x again hx hsnd hc ha (fun h j hj hji hxj => by
  by_cases e : j = i
  ·subst e; rw [hxi] at hxj; cases hxj
  ·exact hcl h j hj (by omega) hxj)
 refine ⟨z, hz, Evt.succ ?_⟩
 simp only [r11_into.l1]
 refine Evt.pos (by omega) (Evt.pos (by omega) (Evt.pos (by omega) (Evt.pos (by rw [hrd]; exact hxi) ?_)))
 rw [wrap_succ i (by omega)]
 exact he}
 {
 rw [Bool.not_eq_true] at hxi; by_cases hsc : scan N[i] r (anyOf x (next N[i])) N[i].f0 = true
 {
 have hlen : (x.set i true).length = N.length := by rw [List.length_set, hx]
 have hcnt := cnt_set x i (by omega) hxi
 obtain ⟨z, hz, he⟩ := into_inner hF hs hN hout m (i + 1) (by omega) (x.set i true) true hlen (fun j hj h => by
  rw [getD_sb (by omega)] at h
  by_cases e : i = j
  ·subst e; refine Live.of hi (anyOf x (next N[i])) (fun h => ?_) hsc
   obtain ⟨k, hk, b⟩ := (anyOf_iff (fun m hm => (hT _ hmem m hm).1)).1 h
   exact ⟨k, hk, hsnd k (by have := (hT _ hmem k hk).2; omega) b⟩
  ·rw [decide_eq_false e, Bool.or_false] at h; exact hsnd j hj h) (by omega) (fun _ => by omega) (fun h => by cases h)
 refine ⟨z, hz, Evt.succ ?_⟩
 simp only [r11_into.l1]
 refine Evt.pos (by omega) (Evt.pos (by omega) (Evt.pos (by omega) (Evt.neg (by rw [hrd, hxi]; simp) (Evt.bind (rout_ev nm rg hi hx hT) ?_))))
 rw [hr]; refine Evt.bind (rbefore_ev (hF _ hmem).1 (hs _ hmem) r _ 0) ?_
 rw [List.drop_zero, hsc, wrap_succ i (by omega), Int.toNat_natCast]
 exact Evt.pos (by trivial) he}
 {
 rw [Bool.not_eq_true] at hsc; obtain ⟨z, hz, he⟩ := into_inner hF hs hN hout m (i + 1) (by omega) x again hx hsnd hc ha (fun h j hj hji hxj => by
  by_cases e : j = i
  ·subst e; exact hsc
  ·exact hcl h j hj (by omega) hxj)
 refine ⟨z, hz, Evt.succ ?_⟩
 simp only [r11_into.l1]
 refine Evt.pos (by omega) (Evt.pos (by omega) (Evt.pos (by omega) (Evt.neg (by rw [hrd, hxi]; simp) (Evt.bind (rout_ev nm rg hi hx hT) ?_))))
 rw [hr]; refine Evt.bind (rbefore_ev (hF _ hmem).1 (hs _ hmem) r _ 0) ?_
 rw [List.drop_zero, hsc, wrap_succ i (by omega)]
 exact Evt.neg (by simp) he}}}
theorem into_round {r : Nat} (hF : FineG rg.toNat N) (hs : ∀ n ∈ N, n.f0.length ≤ 1000) (hN : N.length ≤ 1000) : ∀ (d : Nat) (x : List Bool), x.length = N.length → (∀ i, i < N.length → x.getD i false = true → Live N (r : Int) i) → N.length - cnt x ≤ d →
  ∃ z, LiveRow N r z ∧ Evt (fun k => r11_into.l1 k (r : Int) x false 0 nm ps ar rg N) z
 | 0, x, hx, hsnd, hd => into_inner nm hF hs hN (c := cnt x) (fun x' hx' _ hc => by have := cnt_le x'; omega) N.length 0 (by omega) x false hx hsnd (Nat.le_refl _) (fun h => by cases h) (fun _ j _ h => by omega)
 | d + 1, x, hx, hsnd, hd => into_inner nm hF hs hN (c := cnt x) (fun x' hx' hs' hc => into_round hF hs hN d x' hx' hs' (by omega)) N.length 0 (by omega) x false hx hsnd (Nat.le_refl _) (fun h => by cases h) (fun _ j _ h => by omega)
theorem into_ev {r : Nat} (hF : FineG rg.toNat N) (hs : ∀ n ∈ N, n.f0.length ≤ 1000) (hN : N.length ≤ 1000) : ∃ z, LiveRow N r z ∧ Evt (fun k => r11_into.f k nm ps ar rg N (r : Int)) z := by
 have b : ∀ i, (List.replicate N.length false).getD i false = false := fun i => by rw [List.getD_eq_getElem?_getD, List.getElem?_replicate]; split <;> rfl
 obtain ⟨z, hz, he⟩ := into_round nm (ps := ps) (ar := ar) (r := r) hF hs hN N.length (List.replicate N.length false) (by simp) (fun i _ h => by rw [b] at h; cases h) (by omega)
 refine ⟨z, hz, ?_⟩
 unfold r11_into.f
 refine Evt.pos (by omega) (Evt.pos (by rw [Int.toNat_natCast]; omega) (Evt.succ ?_))
 simp only [r11_into.l0, Int.toNat_natCast]
 exact Evt.pos (by trivial) he
def LiveAll (N : List S69) (g : Nat) (LV : List (List Bool)) : Prop := LV.length = g ∧ ∀ r, r < g → LiveRow N r (LV.getD r [])
theorem rlive_loop {g : Nat} (hg : g ≤ 2000) (hF : FineG g N) (hs : ∀ n ∈ N, n.f0.length ≤ 1000) (hN : N.length ≤ 1000) : ∀ (m r : Nat), r + m = g → ∀ LV : List (List Bool), LiveAll N r LV → ∃ z, LiveAll N g z ∧ Evt (fun k => r11_Live.l0 k LV (r : Int) nm ps ar (g : Int) N) z
 | 0, r, hm, LV, h => by {
 refine ⟨LV, by rw [show g = r by omega]; exact h, Evt.succ ?_⟩
 simp only [r11_Live.l0]
 exact Evt.neg (by omega) (Evt.const _)}
 | m + 1, r, hm, LV, h => by {
 obtain ⟨z, hz, he⟩ := into_ev (rg := (g : Int)) nm (ps := ps) (ar := ar) (r := r) (by rw [Int.toNat_natCast]; exact hF) hs hN
 obtain ⟨w, hw, hv⟩ := rlive_loop hg hF hs hN m (r + 1) (by omega) (LV ++ [z]) ⟨by simp [h.1], fun q hq => by
  rw [List.getD_eq_getElem?_getD, List.getElem?_append]; by_cases e : q < r
  ·rw [if_pos (by rw [h.1]; exact e), ← List.getD_eq_getElem?_getD]
   exact h.2 q e
  ·obtain rfl : q = r := by omega
   rw [if_neg (by rw [h.1]; omega), h.1, Nat.sub_self]
   exact hz⟩
 refine ⟨w, hw, Evt.succ ?_⟩
 simp only [r11_Live.l0]
 refine Evt.pos (by omega) (Evt.bind he (Evt.pos (by rw [h.1]; omega) ?_))
 rw [wrap_succ r (by omega)]
 exact hv}
theorem rlive_ev {g : Nat} (hg : g ≤ 2000) (hF : FineG g N) (hs : ∀ n ∈ N, n.f0.length ≤ 1000) (hN : N.length ≤ 1000) : ∃ z, LiveAll N g z ∧ Evt (fun k => r11_Live.f k nm ps ar (g : Int) N) z := by
 unfold r11_Live.f
 exact rlive_loop nm hg hF hs hN g 0 (by omega) [] ⟨rfl, fun r h => by omega⟩
end
end Go.Proofs.YtefhpdcafdhcaaaDoor.M
end
section
namespace Go.Proofs.YtefhpdcafdhcaaaDoor.S
open Go Go.RowKit Go.Proofs Go.Proofs.YtefhpdcafdhcaaaDoorW.PrintWords Go.Proofs.YtefhpdcafdhcaaaDoorW.PrintLast Go.Proofs.YtefhpdcafdhcaaaDoorW.PrintMore Go.Proofs.YtefhpdcafdhcaaaDoor Go.Proofs.YtefhpdcafdhcaaaDoor.A FlowM
attribute [local go_sem] max2_int max_two
set_option linter.unusedVariables false
set_option linter.unusedSimpArgs false
def refRow (cl : Int → Int → Option Bool) (a : Nat) : List Nat → List (Int × Int) → Option (List (Int × Int))
 | [], acc => some acc
 | b :: bs, acc => if acc.length ≤ 5000000 then (cl a b).bind fun t => refRow cl a bs (if t = true then acc ++ [((a : Int), (b : Int))] else acc) else none
def refAll (cl : Int → Int → Option Bool) (rg : Nat) : List Nat → List (Int × Int) → Option (List (Int × Int))
 | [], acc => some acc
 | a :: bs, acc => (refRow cl a (List.range' (a + 1) (rg - (a + 1))) acc).bind fun r => refAll cl rg bs r
abbrev LiveB (w : World) (v : Value) (lv : List (List Bool)) : Prop := ∀ w0, Below w.heap.size w w0 → Calls Tryd.prog 40 #[v] w0 fun e w' => ∃ b : Value, e = .returned (b) ∧ Kd.S (Kd.slice 4 Kd.bool) 37 w' w0.heap.size (fun _ => True) b lv ∧ Below w0.heap.size w0 w'
abbrev ClashB (w : World) (v : Value) (lv : List (List Bool)) (cl : Int → Int → Option Bool) : Prop := ∀ w0, Below w.heap.size w w0 → ∀ (l : Option Addr) (p : Nat), Kd.C (Kd.slice 4 Kd.bool) w0 l lv.length lv → lv.length ≤ p → ∀ a b t, cl a b = some t → Calls Tryd.prog 42 #[v, .slice l lv.length p, .int .i64 a, .int .i64 b] w0 fun e w' => e = .returned (.bool t) ∧ Below w0.heap.size w0 w'
theorem refClashesC (w : World) (nm : ByteArray) (M : Option Addr) (N p : Nat) (O : Option Addr) (S q : Nat) (rg : Nat) (T : Option Addr) (U z : Nat) (lv : List (List Bool)) (cl : Int → Int → Option Bool) (r : List (Int × Int)) (hL : LiveB w (.agg #[.string nm, .slice M N p, .slice O S q, .int .i64 (rg : Int), .slice T U z]) lv) (hC : ClashB w (.agg #[.string nm, .slice M N p, .slice O S q, .int .i64 (rg : Int), .slice T U z]) lv cl) (hrg : rg ≤ 2048) (h : refAll cl rg (List.range' 0 rg) [] = some r) :
  Calls Tryd.prog 23 #[(.agg #[.string nm, .slice M N p, .slice O S q, .int .i64 (rg : Int), .slice T U z])] w fun e w' => ∃ v : Value, e = .returned v ∧ Kd.R k54 54 w' w.heap.size (fun _ => True) v r ∧ Below w.heap.size w w' := by
 have HLV := a_ hL; have HCB := a_ hC; have HRG := a_ hrg; have HH := a_ h; clear hL hC hrg h; have e0 := Tryd.underlying26; go_enter Tryd.func23, Tryd.ntmps23
 go_wp2_with (first | ((with_reducible refine gd_ 1 rfl ?_); refine q_box 1 26 #[.string nm, .slice M N p, .slice O S q, .int .i64 (rg : Int), .slice T U z] ?_; intro g1 d1 w1 V X; have a0 := a_ V; have I := a_ X; clear d1 V X; obtain ⟨a1, a2, a3, a4, a5⟩ := q_c5 a0.out) | (go_at_call 40; (with_reducible refine (HLV.out _ I.out).mono ?_); rintro e G ⟨v3, rfl, J, L⟩; obtain ⟨A3, c3, rfl⟩ := Kd.S_slice J; have d4 := a_ J; have a6 := a_ (blk_below a0.out L); have B := a_ (below_then I.out I.out.size L); clear J L; obtain ⟨a7, a8, a9, b0, b1⟩ := q_c5 a6.out))
 go_loopg [4, 5] rg (fun gk v4 v5 wx => ∃ x : Int, v5 = .int .i64 x ∧ Aside0 (∃ (j : Nat) (xs : List (Int × Int)), x = (j : Int) ∧ j + gk = rg ∧ refAll cl rg (List.range' j gk) xs = some r ∧ Kd.R k54 54 wx G.heap.size (fun _ => True) v4 xs) ∧ Aside0 (wx.heap[g1]? = some (.cells #[.string nm, .slice M N p, .slice O S q, .int .i64 (rg : Int), .slice T U z] 26 (0, 0))) ∧ Aside0 (Below G.heap.size G wx))
 case atStart => exact ⟨0, rfl, ⟨0, [], rfl, by omega, HH.out, Kd.R_nil _ _ _ _ _⟩, a6, ⟨Below.refl _ _⟩⟩
 case round => (
 clear a1 a2 a3 a4 a5 a7 a8 a9 b0 b1; obtain ⟨x, rfl, ⟨j, xs, hx, hj, hA, hO⟩, BKx, HB⟩ := hrel; have HX := a_ hx; have HJ := a_ hj; have HO := a_ hO; obtain ⟨b2, b3, b4, b5, b6⟩ := q_c5 BKx.out; cases gk with
 | zero => (
 have c1 : decide (x < (rg : Int)) = false := decide_eq_false (by omega)
 have HRX : Aside0 (xs = r) := ⟨q_so hA⟩
 clear hx hj hA hO; go_wp2
 (try simp only [Exit.inBlock, Exit.then])
 refine bodyPost_ret (results_tmp rfl _ _ _) rfl ?_
 refine ⟨_, rfl, ?_, below_then B.out B.out.size HB.out⟩
 rw [← HRX.out]; exact Kd.R_lower HO.out B.out.size)
 | succ gO => (
 have c1 : decide (x < (rg : Int)) = true := decide_eq_true (by omega)
 have HWX : Aside0 (wrap64 (x + 1) = x + 1) := ⟨wrap64_id (by omega) (by have := HRG.out; omega)⟩
 rw [List.range'_succ, refAll, show rg - (j + 1) = gO by omega] at hA
 have HA := a_ hA; clear hx hj hA hO; go_wp2
 go_loopg [4, 6] gO (fun gz v4 v6 wz => ∃ y : Int, v6 = .int .i64 y ∧ Aside0 (∃ (i : Nat) (xs : List (Int × Int)), y = (i : Int) ∧ i + gz = rg ∧ (refRow cl j (List.range' i gz) xs).bind (fun r => refAll cl rg (List.range' (j + 1) gO) r) = some r ∧ Kd.R k54 54 wz G.heap.size (fun _ => True) v4 xs) ∧ Aside0 (wz.heap[g1]? = some (.cells #[.string nm, .slice M N p, .slice O S q, .int .i64 (rg : Int), .slice T U z] 26 (0, 0))) ∧ Aside0 (Below G.heap.size G wz))
 case atStart => exact ⟨wrap64 (x + 1), rfl, ⟨j + 1, xs, by rw [HWX.out, HX.out]; rfl, by have := HJ.out; omega, HA.out, HO.out⟩, BKx, HB⟩
 case round => (
 clear b2 b3 b4 b5 b6 c1; obtain ⟨y, rfl, ⟨i, xs, hy, hi, hA, hO⟩, BKy, HBy⟩ := hrel; have HY := a_ hy; have HI := a_ hi; have HOy := a_ hO; obtain ⟨e3, e4, e5, e6, e7⟩ := q_c5 BKy.out; cases gk with
 | zero => (
 have c1 : decide (y < (rg : Int)) = false := decide_eq_false (by omega)
 have d6 := a_ hA; clear hy hi hA hO; go_wp2
 go_roundg gO
 case measure => omega
 case rel => exact ⟨wrap64 (x + 1), rfl, ⟨j + 1, xs, by rw [HWX.out, HX.out]; rfl, by have := HJ.out; omega, d6.out, HOy.out⟩, BKy, HBy⟩)
 | succ gQ => (
 have c1 : decide (y < (rg : Int)) = true := decide_eq_true (by omega)
 have HWY : Aside0 (wrap64 (y + 1) = y + 1) := ⟨wrap64_id (by omega) (by have := HRG.out; omega)⟩
 rw [List.range'_succ, refRow] at hA; have hlm : xs.length ≤ 5000000 := by {
 by_cases hl : xs.length ≤ 5000000
 ·exact hl
 ·rw [if_neg hl] at hA; cases hA}
 rw [if_pos hlm] at hA; obtain ⟨r2, b7, b8⟩ := Option.bind_eq_some_iff.1 hA; obtain ⟨t, ht, b9⟩ := Option.bind_eq_some_iff.1 b7; have HLM := a_ hlm; have hVC := Kd.S_below d4.out HBy.out; have HVC : Aside0 (lv.length ≤ c3 ∧ Kd.C (Kd.slice 4 Kd.bool) wr A3 lv.length lv) := ⟨(Kd.S_reads' hVC).2⟩
 have HBW := a_ (below_then B.out B.out.size HBy.out); have HT : Aside0 (cl x y = some t) := ⟨by rw [HX.out, hy]; exact ht⟩
 have c0 : Aside0 ((refRow cl j (List.range' (i + 1) gQ) (if t = true then xs ++ [((j : Int), (i : Int))] else xs)).bind (fun r => refAll cl rg (List.range' (j + 1) gO) r) = some r) := ⟨by rw [b9]; exact b8⟩
 clear hy hi hA hO b7 b8 b9 ht hlm hVC; cases t with
 | true => (
 go_wp2_with (first | (go_at_call 42; (with_reducible refine (HCB.out _ HBW.out A3 c3 HVC.out.2 HVC.out.1 x y _ HT.out).mono ?_); rintro e w7 ⟨rfl, l⟩; have D := a_ (Kd.R_below HOy.out l); have E := a_ (below_then HBy.out HBy.out.size l); have F := a_ (blk_below BKy.out l); clear l) | ((with_reducible refine gate_builtin (b := .append) (xs := #[.tmp 28, .tmp 32]) rfl ?_); at_builtin; refine Kd.R_append k54 (w0 := G) G.heap.size rfl (.tmp 28) (.tmp 32) 45 54 (.agg #[.int .i64 0, .int .i64 0]) 16 rfl Tryd.underlying45 info54 rfl (by decide) (by omega) u4 xs (x, y) [.int .i64 x, .int .i64 y] (fun _ => True) (fun _ => False) rfl rfl (k54_mkM _ _ _ _ _) (fun _ h => h.elim) (fun _ _ => trivial) D.out E.out E.out.size (by have := HLM.out; omega) ?_; intro v8 w8 c4 c6 c8 c9; have d7 := a_ c4; have d8 := a_ c6; have d9 := a_ (blk_grown F.out c8 (Kd.R_ne D.out F.out (by decide))); clear c4 c6 c8 c9))
 go_roundg gQ
 case measure => omega
 case rel => exact ⟨wrap64 (y + 1), rfl, ⟨i + 1, xs ++ [(x, y)], by rw [HWY.out, HY.out]; rfl, by have := HI.out; omega, by have h_ := c0.out; (try simp only [if_true] at h_); rw [HX.out, HY.out]; exact h_, d7.out⟩, d9, d8⟩)
 | false => (
 go_wp2_with (first | (go_at_call 42; (with_reducible refine (HCB.out _ HBW.out A3 c3 HVC.out.2 HVC.out.1 x y _ HT.out).mono ?_); rintro e w7 ⟨rfl, l⟩; have D := a_ (Kd.R_below HOy.out l); have E := a_ (below_then HBy.out HBy.out.size l); have F := a_ (blk_below BKy.out l); clear l))
 go_roundg gQ
 case measure => omega
 case rel => exact ⟨wrap64 (y + 1), rfl, ⟨i + 1, xs, by rw [HWY.out, HY.out]; rfl, by have := HI.out; omega, by have h_ := c0.out; rw [if_neg (by simp)] at h_; exact h_, D.out⟩, F, E⟩)))))
def rr.T10 : Bool × List (List Nat × List Nat) := (true, [([], []), ([], []), ([], []), ([1, 2], [1, 2]), ([3], [3]), ([4], [4]), ([0, 5], [0, 5]), ([6], [6]), ([], []), ([], []), ([], []), ([9, 10], [9, 10]), ([11], [11]), ([12], [12]), ([8, 13], [8, 13]), ([14], [14]), ([7, 15], [7, 15])])
def rr.B10 : List Nat := [0, 0, 0, 6, 14, 30, 63, 127, 0, 0, 0, 1536, 3584, 7680, 16128, 32512, 65535]
theorem rr.tab10 : rtab .any (opsOf Tryd.f11 10) = rr.T10 := by kernel_rfl
theorem rr.bits10 : waitsOk rr.T10.2 rr.B10 = true := by kernel_rfl
def okR (kk p : Int) : Bool := decide (p < kk) && decide (wrap64 (-1 - p) < 64)
def refRB (l : List Int) (kk : Int) (ps : List (Int × Int)) : Bool := l.all (okR kk) && ps.all fun p => !(l.getD p.1.toNat 0 == l.getD p.2.toNat 0)
abbrev PairsB (w : World) (v : Value) (ps : List (Int × Int)) : Prop := ∀ w0, Below w.heap.size w w0 → Calls Tryd.prog 23 #[v] w0 fun e w' => ∃ b : Value, e = .returned b ∧ Kd.R k54 54 w' w0.heap.size (fun _ => True) b ps ∧ Below w0.heap.size w0 w'
theorem refRightC (w : World) (nm : ByteArray) (A1 : Option Addr) (n1 E : Nat) (A2 : Option Addr) (n2 F : Nat) (rg : Nat) (A4 : Option Addr) (n4 G : Nat) (AP : Option Addr) (cP : Nat) (l : List Int) (kk : Int) (ps : List (Int × Int)) (hC : PairsB w (.agg #[.string nm, .slice A1 n1 E, .slice A2 n2 F, .int .i64 (rg : Int), .slice A4 n4 G]) ps) (hP : Kd.C (Kd.int .i64) w AP l.length l) (hll : l.length ≤ 1000000) (hpl : ps.length ≤ 9000000) (hps : ∀ p ∈ ps, (0 ≤ p.1 ∧ p.1 < (l.length : Int)) ∧ (0 ≤ p.2 ∧ p.2 < (l.length : Int))) :
  Calls Tryd.prog 11 #[(.agg #[.string nm, .slice A1 n1 E, .slice A2 n2 F, .int .i64 (rg : Int), .slice A4 n4 G]), (.slice AP l.length cP), .int .i64 kk] w fun e w' => e = .returned (.bool (refRB l kk ps)) ∧ Below w.heap.size w w' := by
 obtain ⟨b, hb⟩ : ∃ b, b = refRB l kk ps := ⟨_, rfl⟩; rw [← hb]; have HBV := a_ hb; have HPB := a_ hC; have HP := a_ hP; have HLL := a_ hll; have HPL := a_ hpl; have HPS := a_ hps; clear hb hC hP hll hpl hps; have d3 := Tryd.underlying26; have d4 := Tryd.underlying54; go_enter Tryd.func11, Tryd.ntmps11
 go_wp2_with (first | ((with_reducible refine gd_ 3 rfl ?_); refine q_box 3 26 #[.string nm, .slice A1 n1 E, .slice A2 n2 F, .int .i64 (rg : Int), .slice A4 n4 G] ?_; intro g1 b9 w1 M N; have O := a_ M; have R := a_ N; clear b9 M N; obtain ⟨T, U, V, X, a2⟩ := q_c5 O.out))
 go_loopg [7] l.length (fun gk v7 wx => ∃ x : Int, v7 = .int .i64 x ∧ Aside0 (∃ j : Nat, x = (j : Int) ∧ j + gk = l.length ∧ (l.take j).all (okR kk) = true) ∧ Aside0 (Below w1.heap.size w1 wx))
 case atStart => exact ⟨0, rfl, ⟨0, rfl, by omega, rfl⟩, ⟨Below.refl _ _⟩⟩
 case round => (
 clear T U V X a2; obtain ⟨x, rfl, ⟨j, hx, hj, hO⟩, HB⟩ := hrel; have BKx := a_ (blk_below O.out HB.out); have HBx := a_ (below_then R.out R.out.size HB.out); have HX := a_ hx; have HJ := a_ hj; cases gk with
 | succ gO => (
 have c1 : decide (x < (l.length : Int)) = true := decide_eq_true (by omega)
 have hjl : j < l.length := by omega
 have p0 : 0 ≤ x := by omega
 have q0 : x < (l.length : Int) := by omega
 obtain ⟨ad, e, hcu⟩ := Kd.at_int HP.out x p0 q0; cases e; obtain ⟨u, hu⟩ : ∃ u, u = rd l x := ⟨_, rfl⟩; rw [← hu] at hcu; replace hcu := cell_old hcu HBx.out; have huq : u = l.getD j 0 := by rw [hu, hx]; rfl
 have HWX : Aside0 (wrap64 (x + 1) = x + 1) := ⟨wrap64_id (by omega) (by have := HLL.out; omega)⟩
 have HO := a_ hO; have HUQ := a_ huq; have HJL := a_ hjl; replace p0 := eq_true p0; replace q0 := eq_true q0; clear hx hj hO hu huq hjl; by_cases h1 : kk ≤ u
 case pos => (
 have c2 : decide (kk ≤ u) = true := decide_eq_true h1
 have hbf : b = false := by rw [HBV.out, refRB, all_false HJL.out (by rw [← HUQ.out, okR, decide_eq_false (by omega), Bool.false_and]), Bool.false_and]
 clear h1; have HBF := a_ hbf; clear hbf; go_wp2
 (try simp only [Exit.inBlock, Exit.then])
 refine bodyPost_ret (results_tmp rfl _ _ _) rfl ?_
 rw [HBF.out]; exact ⟨rfl, HBx.out⟩)
 case neg => (
 have c2 : decide (kk ≤ u) = false := decide_eq_false h1
 obtain ⟨m, hm⟩ : ∃ m, m = wrap64 (-1 - u) := ⟨_, rfl⟩; have d8 := hm.symm; have HM := a_ hm; clear hm; by_cases h2 : 64 ≤ m
 case pos => (
 have c3 : decide (64 ≤ m) = true := decide_eq_true h2
 have hbf : b = false := by rw [HBV.out, refRB, all_false HJL.out (by rw [← HUQ.out, okR, ← HM.out, decide_eq_false (show ¬ (m < 64) by omega), Bool.and_false]), Bool.false_and]
 clear h1 h2; have HBF := a_ hbf; clear hbf; go_wp2
 (try simp only [Exit.inBlock, Exit.then])
 refine bodyPost_ret (results_tmp rfl _ _ _) rfl ?_
 rw [HBF.out]; exact ⟨rfl, HBx.out⟩)
 case neg => (
 have c3 : decide (64 ≤ m) = false := decide_eq_false h2
 have HOK : Aside0 ((l.take (j + 1)).all (okR kk) = true) := ⟨all_take_succ HJL.out HO.out (by rw [← HUQ.out, okR, ← HM.out, decide_eq_true (by omega), decide_eq_true (show m < 64 by omega)]; rfl)⟩
 clear h1 h2; go_wp2
 go_roundg gO
 case measure => omega
 case rel => exact ⟨wrap64 (x + 1), rfl, ⟨j + 1, by rw [HWX.out, HX.out]; rfl, by have := HJ.out; omega, HOK.out⟩, ⟨HB.out⟩⟩)))
 | zero => (
 have c1 : decide (x < (l.length : Int)) = false := decide_eq_false (by omega)
 have HALL : Aside0 (l.all (okR kk) = true) := ⟨by rw [List.take_of_length_le (by omega)] at hO; exact hO⟩
 obtain ⟨a3, a4, a5, a6, a7⟩ := q_c5 BKx.out; clear hx hj hO; go_wp2_with (first | (go_at_call 23; (with_reducible refine (HPB.out _ HBx.out).mono ?_); rintro e w3 ⟨v3, rfl, I, a8⟩; obtain ⟨A3, c3, rfl⟩ := Kd.R_slice I; have c8 := a_ I; have a9 := a_ (below_then HBx.out HBx.out.size a8); clear I a8))
 clear c1 a3 a4 a5 a6 a7; go_loopg [9] ps.length (fun gk v9 wx => ∃ y : Int, v9 = .int .i64 y ∧ Aside0 (∃ i : Nat, y = (i : Int) ∧ i + gk = ps.length ∧ ((ps.take i).all fun p => !(l.getD p.1.toNat 0 == l.getD p.2.toNat 0)) = true) ∧ Aside0 (Below w3.heap.size w3 wx))
 case atStart => exact ⟨0, rfl, ⟨0, rfl, by omega, rfl⟩, ⟨Below.refl _ _⟩⟩
 case round => (
 obtain ⟨y, rfl, ⟨i, hy, hi, hO⟩, HBy⟩ := hrel; have HBx := a_ (below_then a9.out a9.out.size HBy.out); have HY := a_ hy; have HI := a_ hi; have HO := a_ hO; have HV := a_ (Kd.R_below c8.out HBy.out); cases gk with
 | zero => (
 have c1 : decide (y < (ps.length : Int)) = false := decide_eq_false (by omega)
 have HBF : Aside0 (b = true) := ⟨by rw [HBV.out, refRB, HALL.out, Bool.true_and, ← HO.out, List.take_of_length_le (by omega)]⟩
 clear hy hi hO; go_wp2
 (try simp only [Exit.inBlock, Exit.then])
 refine bodyPost_ret (results_tmp rfl _ _ _) rfl ?_
 rw [HBF.out]; exact ⟨rfl, HBx.out⟩)
 | succ gQ => (
 have c1 : decide (y < (ps.length : Int)) = true := decide_eq_true (by omega)
 have hil : i < ps.length := by omega
 have p1 : 0 ≤ y := by omega
 have q1 : y < (ps.length : Int) := by omega
 obtain ⟨adp, e, J, L⟩ := at_P54 (Kd.R_reads' HV.out).2.2 y p1 q1; cases e; obtain ⟨p, hp⟩ : ∃ p, p = rd_P ps y := ⟨_, rfl⟩; rw [← hp] at J L
 have hpg : p = ps.getD i (0, 0) := by rw [hp, rd_P, hy]; rfl
 have hpm : p ∈ ps := by rw [hpg, List.getD_eq_getElem?_getD, List.getElem?_eq_getElem hil]; exact List.getElem_mem _
 have hpb := HPS.out p hpm; obtain ⟨a, ha⟩ : ∃ a, a = p.1 := ⟨_, rfl⟩; obtain ⟨d, hd⟩ : ∃ d, d = p.2 := ⟨_, rfl⟩; rw [← ha] at J hpb
 rw [← hd] at L hpb
 obtain ⟨b0, e1, hca⟩ := Kd.at_int HP.out a hpb.1.1 hpb.1.2; obtain ⟨e3, e2, hcb⟩ := Kd.at_int HP.out d hpb.2.1 hpb.2.2; cases e1; cases e2; obtain ⟨u, hu⟩ : ∃ u, u = rd l a := ⟨_, rfl⟩; obtain ⟨v, hv⟩ : ∃ v, v = rd l d := ⟨_, rfl⟩; rw [← hu] at hca; rw [← hv] at hcb; replace hca := cell_old hca HBx.out; replace hcb := cell_old hcb HBx.out; have HU : Aside0 (u = l.getD (ps.getD i (0, 0)).1.toNat 0) := ⟨by rw [hu, rd, ha, hpg]⟩
 have HVV : Aside0 (v = l.getD (ps.getD i (0, 0)).2.toNat 0) := ⟨by rw [hv, rd, hd, hpg]⟩
 have HWY : Aside0 (wrap64 (y + 1) = y + 1) := ⟨wrap64_id (by omega) (by have := HPL.out; omega)⟩
 have HIL := a_ hil; have a0 := eq_true hpb.1.1; have a1 := eq_true hpb.1.2; have d0 := eq_true hpb.2.1; have d1 := eq_true hpb.2.2; replace p1 := eq_true p1; replace q1 := eq_true q1; clear hy hi hO hp hpg hpm hpb ha hd hu hv hil; go_upto_region 10 with (fail)
 refine q_s 17 (S := fun W' => cp2 W' (adp.add (y.toNat * 2)) (.int .i64 a) (.int .i64 d) (W'.cell? (b0.add a.toNat) = some (.int .i64 u) ∧ W'.cell? (b0.add d.toNat) = some (.int .i64 v))) ⟨J, L, hca, hcb⟩ (fun B => ?_)
 refine with_tabW rr.tab10 rr.bits10 (fun q D => ?_)
 refine qv_ 0 q ?_
 refine qv_ 1 q ?_
 refine qv_ 2 q ?_
 refine qv_ 3 q ?_
 refine qv_ 4 q ?_
 refine qv_ 8 q ?_
 refine qv_ 9 q ?_
 refine qv_ 10 q ?_
 refine qv_ 11 q ?_
 refine qv_ 12 q ?_
 refine qt_ 5 q D B ?_
 refine qv_ 6 q ?_
 refine qt_ 7 q D B ?_
 refine qt_ 13 q D B ?_
 refine qv_ 14 q ?_
 refine qt_ 15 q D B ?_
 refine qv_ 16 q ?_
 refine done_ (done_of q.out (by kernel_rfl)) ?_
 clear q D B; by_cases huv : u = v
 case pos => (
 have c2 : (u == v) = true := beq_iff_eq.mpr huv
 have hbf : b = false := by rw [HBV.out, refRB, all_false (z := (0, 0)) (l := ps) HIL.out (by rw [← HU.out, ← HVV.out, c2]; rfl), Bool.and_false]
 clear huv; have HBF := a_ hbf; clear hbf; go_wp2
 (try simp only [Exit.inBlock, Exit.then])
 refine bodyPost_ret (results_tmp rfl _ _ _) rfl ?_
 rw [HBF.out]; exact ⟨rfl, below_drew1 HBx.out⟩)
 case neg => (
 have c2 : (u == v) = false := beq_eq_false_iff_ne.mpr huv
 have HN : Aside0 (((ps.take (i + 1)).all fun p => !(l.getD p.1.toNat 0 == l.getD p.2.toNat 0)) = true) := ⟨all_take_succ (z := (0, 0)) HIL.out HO.out (by rw [← HU.out, ← HVV.out, c2]; rfl)⟩
 clear huv; go_wp2
 go_roundg gQ
 case measure => omega
 case rel => exact ⟨wrap64 (y + 1), rfl, ⟨i + 1, by rw [HWY.out, HY.out]; rfl, by have := HI.out; omega, HN.out⟩, ⟨below_drew1 HBy.out⟩⟩)))))
def r11_Clashes.f (k : Nat) (p : ByteArray) (q : List (S83)) (y : List (S85)) (l : Int) (z : List (S69)) : Option (List (Int × Int)) := if 0 ≤ l ∧ l ≤ 2000 then (r11_Live.f k p q y l z).bind fun lv => refAll (fun a b => r11_clash.f k p q y l z lv a b) l.toNat (List.range' 0 l.toNat) [] else none
theorem r11_Clashes.calls (k : Nat) (z : ByteArray) (B : Option Addr) (D : Nat) (l : List (S83)) (E : Option Addr) (F : Nat) (p : List (S85)) (y : Int) (G : Option Addr) (I : Nat) (q : List (S69)) (r : List (Int × Int)) (w : World) (J : Kd.C k83 w B l.length l) (L : l.length ≤ D) (M : Kd.C k85 w E p.length p) (N : p.length ≤ F) (O : Kd.C k69 w G q.length q) (S : q.length ≤ I) (h : r11_Clashes.f k z l p y q = some r) :
  Calls Tryd.prog 23 #[.agg #[.string z, .slice B l.length D, .slice E p.length F, .int .i64 y, .slice G q.length I]] w fun e w' => ∃ T : Value, e = .returned T ∧ Kd.R k54 54 w' w.heap.size (fun _ => True) T r ∧ Below w.heap.size w w' := by
 unfold r11_Clashes.f at h
 split at h
 case isFalse => cases h
 rename_i hg
 obtain ⟨lv, hl, h⟩ := Option.bind_eq_some_iff.1 h; have hE : ((y.toNat : Nat) : Int) = y := Int.toNat_of_nonneg hg.1
 have hL : LiveB w (.agg #[.string z, .slice B l.length D, .slice E p.length F, .int .i64 (y.toNat : Int), .slice G q.length I]) lv := by
  intro w0 hb
  rw [hE]; exact r11_Live.calls k z B D l E F p y G I q lv w0 ⟨Kd.C_below J hb, L, Kd.C_below M hb, N, Kd.C_below O hb, S⟩ hl
 have hC : ClashB w (.agg #[.string z, .slice B l.length D, .slice E p.length F, .int .i64 (y.toNat : Int), .slice G q.length I]) lv (fun a b => r11_clash.f k z l p y q lv a b) := by
  intro w0 hb X c1 U V a b t ht
  rw [hE]; exact r11_clash.calls k z B D l E F p y G I q X c1 lv a b t w0 ⟨Kd.C_below J hb, L, Kd.C_below M hb, N, Kd.C_below O hb, S⟩ U V ht
 have := refClashesC w z B l.length D E p.length F y.toNat G q.length I lv _ r hL hC (by omega) h
 rw [hE] at this; exact this
def r11_Right.f (k : Nat) (b : ByteArray) (l : List (S83)) (q : List (S85)) (y : Int) (z : List (S69)) (l1 : List Int) (B : Int) : Option Bool := if l1.length ≤ 1000000 then (r11_Clashes.f k b l q y z).bind fun ps => if ps.length ≤ 9000000 ∧ (∀ p ∈ ps, (0 ≤ p.1 ∧ p.1 < (l1.length : Int)) ∧ (0 ≤ p.2 ∧ p.2 < (l1.length : Int))) then some (refRB l1 B ps) else none else none
theorem r11_Right.calls {k : Nat} {y : ByteArray} {z : Option Addr} {B : Nat} {b : List (S83)} {D : Option Addr} {E : Nat} {l : List (S85)} {p : Int} {F : Option Addr} {G : Nat} {q : List (S69)} {R : Option Addr} {S : Nat} {l1 : List Int} {T : Int} {r : Bool} {w : World} (I : Kd.C k83 w z b.length b) (J : b.length ≤ B) (L : Kd.C k85 w D l.length l) (M : l.length ≤ E) (N : Kd.C k69 w F q.length q) (O : q.length ≤ G) (U : Kd.C (Kd.int .i64) w R l1.length l1) (V : l1.length ≤ S) (h : r11_Right.f k y b l p q l1 T = some r) :
  Calls Tryd.prog 11 #[.agg #[.string y, .slice z b.length B, .slice D l.length E, .int .i64 p, .slice F q.length G], .slice R l1.length S, .int .i64 T] w fun e w' => e = .returned (.bool r) ∧ Below w.heap.size w w' := by
 unfold r11_Right.f at h
 split at h
 case isFalse => cases h
 rename_i hl
 obtain ⟨ps, hp, h⟩ := Option.bind_eq_some_iff.1 h; split at h
 case isFalse => cases h
 rename_i hps
 have hg : 0 ≤ p := by
  unfold r11_Clashes.f at hp
  split at hp
  ·rename_i hg; exact hg.1
  ·cases hp
 have hE : ((p.toNat : Nat) : Int) = p := Int.toNat_of_nonneg hg
 have hB : PairsB w (.agg #[.string y, .slice z b.length B, .slice D l.length E, .int .i64 (p.toNat : Int), .slice F q.length G]) ps := by
  intro w0 hb
  rw [hE]; exact r11_Clashes.calls k y z B b D E l p F G q ps w0 (Kd.C_below I hb) J (Kd.C_below L hb) M (Kd.C_below N hb) O hp
 have := refRightC w y z b.length B D l.length E p.toNat F q.length G R S l1 T ps hB U hl hps.1 hps.2
 rw [hE, q_so h] at this; exact this
def occOK (rg : Int) (N : List S69) : Prop := (0 ≤ rg ∧ rg ≤ 2000) ∧ N.length ≤ 1000000 ∧ ∀ n ∈ N, n.f0.length ≤ 1000000
instance (rg : Int) (N : List S69) : Decidable (occOK rg N) := by unfold occOK; infer_instance
def r11_Occur.f (k : Nat) (p : ByteArray) (q : List (S83)) (y : List (S85)) (b : Int) (l : List (S69)) : Option (List Bool) := if occOK b l then markNds (r6_Has.f k) l (List.replicate b.toNat false) else none
theorem r11_Occur.calls {k : Nat} {y : ByteArray} {z : Option Addr} {B : Nat} {b : List (S83)} {D : Option Addr} {E : Nat} {l : List (S85)} {q : Int} {F : Option Addr} {G : Nat} {p : List (S69)} {r : List Bool} {w : World} (L : Kd.C k83 w z b.length b) (M : b.length ≤ B) (N : Kd.C k85 w D l.length l) (O : l.length ≤ E) (I : Kd.C k69 w F p.length p) (S : p.length ≤ G) (h : r11_Occur.f k y b l q p = some r) :
  Calls Tryd.prog 13 #[.agg #[.string y, .slice z b.length B, .slice D l.length E, .int .i64 q, .slice F p.length G]] w fun e w' => ∃ J : Value, e = .returned (J) ∧ Kd.R Kd.bool 4 w' w.heap.size (fun _ => True) J r ∧ Below w.heap.size w w' := by
 unfold r11_Occur.f at h
 split at h
 case isFalse => cases h
 rename_i hg
 have hE : ((q.toNat : Nat) : Int) = q := Int.toNat_of_nonneg hg.1.1
 have hH : HasB (r6_Has.f k) := fun w0 x T U V ht => r6_Has.calls k x T U V w0 ht
 have := refOccurC w y z b.length B D l.length E q.toNat F G p _ r I hH (by have := hg.1.2; omega) hg.2.1 hg.2.2 h
 rw [hE] at this; exact this
end Go.Proofs.YtefhpdcafdhcaaaDoor.S
end
section
namespace Go.Proofs.YtefhpdcafdhcaaaDoor.M
open Go Go.RowKit Go.Proofs.YtefhpdcafdhcaaaDoorW.PrintWords Go.Proofs.YtefhpdcafdhcaaaDoorW.PrintLast Go.Proofs.YtefhpdcafdhcaaaDoorW.PrintMore Go.Proofs.YtefhpdcafdhcaaaDoor Go.Proofs.YtefhpdcafdhcaaaDoor.A Go.Proofs.YtefhpdcafdhcaaaDoor.B
open FlowM (next hasD hasA hasB Fine FineNd FineG Live scan uses sets scan_mono LiveAt Clash listOf after after_bit clashF clashF_clash clashF_len)
open Go.Proofs.YtefhpdcafdhcaaaDoor.S (regsL regsL_succ pairsOf rowP refRow refAll)
section
variable (nm : ByteArray) {ps : List S83} {ar : List S85} {N : List S69}
theorem rdL10 (xs : List (List Bool)) (i : Nat) : rd_L10 xs (i : Int) = xs.getD i [] := by unfold rd_L10; rw [Int.toNat_natCast]
def atB (_N : List S69) (LV : List (List Bool)) (n : S69) (j r : Nat) : Bool := scan n (r : Int) (anyOf (LV.getD r []) (next n)) (n.f0.drop j)
def insC (N : List S69) (LV : List (List Bool)) (a b : Nat) (n : S69) (j : Nat) : Bool :=
 match n.f0[j]? with
 | some y => (sets y (a : Int) && atB N LV n (j + 1) b) || (sets y (b : Int) && atB N LV n (j + 1) a)
 | none => false
def ndC (N : List S69) (LV : List (List Bool)) (a b : Nat) (n : S69) (j m : Nat) : Bool := (List.range' j m).any (insC N LV a b n)
def ndsC (N : List S69) (LV : List (List Bool)) (a b : Nat) (rest : List S69) : Bool := rest.any fun n => ndC N LV a b n 0 n.f0.length
variable {g : Nat} {LV : List (List Bool)} (hg : g ≤ 2000) (hN : N.length ≤ 1000) (hs : ∀ n ∈ N, n.f0.length ≤ 1000) (hF : FineG g N) (hLV : LiveAll N g LV)
include hg hN hs hF hLV
omit hg hN in
theorem rat_ev {i : Nat} (hi : i < N.length) {r : Nat} (hr : r < g) (j : Nat) : Evt (fun k => r11_At.f k nm ps ar (g : Int) N LV (i : Int) (j : Int) (r : Int)) (atB N LV N[i] j r) := by
 have hT : ∀ n ∈ N, ∀ m ∈ next n, 0 ≤ m ∧ m < (N.length : Int) := fun n hn => (hF n hn).2.2
 have hrd : rd_T69 N (i : Int) = N[i] := by simp [rd_T69, hi]
 have hmem : N[i] ∈ N := List.getElem_mem _
 unfold r11_At.f
 refine Evt.pos (by omega) (Evt.pos (by omega) (Evt.pos (by omega) (Evt.pos (by rw [hLV.1]; omega) ?_)))
 rw [rdL10, hrd]; refine Evt.bind (rout_ev nm (g : Int) hi (hLV.2 r hr).1 hT) (Evt.bind (rbefore_ev (hF _ hmem).1 (hs _ hmem) r _ j) ?_)
 exact Evt.const _
omit hg in
theorem rclash_ins {a b : Nat} (ha : a < g) (hb : b < g) {i : Nat} (hi : i < N.length) {rest : Bool} (hnext : Evt (fun k => r11_clash.l0 k LV (a : Int) (b : Int) ((i + 1 : Nat) : Int) nm ps ar (g : Int) N) rest) :
  ∀ (m j : Nat), j + m = N[i].f0.length → Evt (fun k => r11_clash.l1 k LV (a : Int) (b : Int) (i : Int) N[i].f0 (j : Int) nm ps ar (g : Int) N) (ndC N LV a b N[i] j m || rest)
 | 0, j, hm => by {
 refine Evt.succ ?_
 simp only [r11_clash.l1]
 refine Evt.neg (by omega) ?_
 rw [wrap_succ i (by omega)]
 simpa [ndC] using hnext}
 | m + 1, j, hm => by {
 have hj : j < N[i].f0.length := by omega
 have hmem : N[i] ∈ N := List.getElem_mem _
 have hlen := hs _ hmem; have ih := rclash_ins ha hb hi hnext m (j + 1) (by omega)
 have hf := (hF _ hmem).1 N[i].f0[j] (List.getElem_mem _); have hrd : rd_T71 N[i].f0 (j : Int) = N[i].f0[j] := by simp [rd_T71, hj]
 have hAb := rat_ev nm (ps := ps) (ar := ar) hs hF hLV hi hb (j + 1); have hAa := rat_ev nm (ps := ps) (ar := ar) hs hF hLV hi ha (j + 1); have e : ndC N LV a b N[i] j (m + 1) = ((sets N[i].f0[j] (a : Int) && atB N LV N[i] (j + 1) b) || ((sets N[i].f0[j] (b : Int) && atB N LV N[i] (j + 1) a) || ndC N LV a b N[i] (j + 1) m)) := by {
 unfold ndC
 rw [List.range'_succ, List.any_cons, insC, List.getElem?_eq_getElem hj, Bool.or_assoc]}
 rw [e]; refine Evt.succ ?_
 simp only [r11_clash.l1]
 refine Evt.pos (by omega) (Evt.pos (by omega) ?_)
 rw [hrd, wrap_succ j (by omega)]
 have second : Evt (fun k => (r11_Sets.f k N[i].f0[j].f0 N[i].f0[j].f1 N[i].f0[j].f2 N[i].f0[j].f3 N[i].f0[j].f4 N[i].f0[j].f5 N[i].f0[j].f6 (b : Int)).bind fun t => (if t = true then ((r11_At.f k nm ps ar (g : Int) N LV (i : Int) ((j + 1 : Nat) : Int) (a : Int)).bind fun l => (if l = true then (some true) else (r11_clash.l1 k LV (a : Int) (b : Int) (i : Int) N[i].f0 ((j + 1 : Nat) : Int) nm ps ar (g : Int) N))) else (r11_clash.l1 k LV (a : Int) (b : Int) (i : Int) N[i].f0 ((j + 1 : Nat) : Int) nm ps ar (g : Int) N)))
   ((sets N[i].f0[j] (b : Int) && atB N LV N[i] (j + 1) a) || (ndC N LV a b N[i] (j + 1) m || rest)) := by
  refine Evt.bind (rsets_ev hf (b : Int)) ?_
  cases sets N[i].f0[j] (b : Int) with
  | false => exact Evt.neg (by simp) (by simpa using ih)
  | true =>
   refine Evt.pos (by trivial) (Evt.bind hAa ?_)
   cases atB N LV N[i] (j + 1) a with
   | true => exact Evt.pos (by trivial) (by simpa using Evt.const _)
   | false => exact Evt.neg (by simp) (by simpa using ih)
 rw [Bool.or_assoc, Bool.or_assoc]; refine Evt.bind (rsets_ev hf (a : Int)) ?_
 cases sets N[i].f0[j] (a : Int) with
 | false => (
 refine Evt.neg (by simp) ?_
 rw [Bool.false_and, Bool.false_or]; exact second)
 | true => (
 refine Evt.pos (by trivial) (Evt.bind hAb ?_)
 cases atB N LV N[i] (j + 1) b with
 | true => exact Evt.pos (by trivial) (by simpa using Evt.const _)
 | false => (
 refine Evt.neg (by simp) ?_
 rw [Bool.and_false, Bool.false_or]; exact second))}
theorem rclash_nds {a b : Nat} (ha : a < g) (hb : b < g) : ∀ (rest : List S69) (i : Nat), N.drop i = rest → Evt (fun k => r11_clash.l0 k LV (a : Int) (b : Int) (i : Int) nm ps ar (g : Int) N) (ndsC N LV a b rest)
 | [], i, hd => by {
 have := drop_nil_ge hd
 refine Evt.succ ?_
 simp only [r11_clash.l0]
 exact Evt.neg (by omega) (Evt.const _)}
 | n :: rest, i, hd => by {
 obtain ⟨hr, hi, l⟩ := rd69_drop hd; have hn : N[i] = n := by have p := hd; rw [List.drop_eq_getElem_cons hi] at p; exact (List.cons.inj p).1
 refine Evt.succ ?_
 simp only [r11_clash.l0]
 refine Evt.pos (by omega) (Evt.pos (by omega) ?_)
 rw [hr]; have := rclash_ins nm (ps := ps) (ar := ar) hN hs hF hLV ha hb hi (rclash_nds ha hb rest (i + 1) l) N[i].f0.length 0 (by omega)
 rw [hn] at this; unfold ndsC
 rw [List.any_cons]; exact this}
theorem rclash_ev (l : 0 < N.length) {a b : Nat} (ha : a < g) (hb : b < g) : Evt (fun k => r11_clash.f k nm ps ar (g : Int) N LV (a : Int) (b : Int)) (((LV.getD a []).getD 0 false && (LV.getD b []).getD 0 false) || ndsC N LV a b N) := by
 have hn := rclash_nds nm (ps := ps) (ar := ar) hg hN hs hF hLV ha hb N 0 rfl; have hj : ∀ t : Bool, Evt (fun k => r11_clash.j0 k LV (a : Int) (b : Int) t nm ps ar (g : Int) N) (t || ndsC N LV a b N) := fun t => by
  refine Evt.succ ?_
  simp only [r11_clash.j0]
  cases t with
  | true => exact Evt.pos (by trivial) (Evt.const _)
  | false => exact Evt.neg (by simp) (by simpa using hn)
 unfold r11_clash.f
 rw [rdL10, rdL10]; refine Evt.pos (by omega) (Evt.pos (by rw [hLV.1]; omega) (Evt.pos (by rw [(hLV.2 a ha).1]; omega) ?_))
 rw [rdOf_getD, rdOf_getD, show ((0 : Int).toNat) = 0 from rfl]; cases e : (LV.getD a []).getD 0 false with
 | true =>
  refine Evt.pos (by trivial) (Evt.pos (by omega) (Evt.pos (by rw [hLV.1]; omega) (Evt.pos (by rw [(hLV.2 b hb).1]; omega) ?_)))
  rw [Bool.true_and]; exact hj _
 | false =>
  refine Evt.neg (by simp) ?_
  rw [Bool.false_and]; exact hj _
omit hg hN hs in
theorem atB_iff {i : Nat} (hi : i < N.length) {r : Nat} (hr : r < g) (j : Nat) : atB N LV N[i] j r = true ↔ LiveAt N (r : Int) i j := by
 have hT : ∀ n ∈ N, ∀ m ∈ next n, 0 ≤ m ∧ m < (N.length : Int) := fun n hn => (hF n hn).2.2
 have hmem : N[i] ∈ N := List.getElem_mem _
 have hany : anyOf (LV.getD r []) (next N[i]) = true ↔ ∃ k : Nat, (k : Int) ∈ next N[i] ∧ Live N (r : Int) k := by
  rw [anyOf_iff (fun m hm => (hT _ hmem m hm).1)]
  constructor
  ·rintro ⟨k, hk, h⟩
   exact ⟨k, hk, ((hLV.2 r hr).2 k (by have := (hT _ hmem k hk).2; omega)).1 h⟩
  ·rintro ⟨k, hk, h⟩
   exact ⟨k, hk, ((hLV.2 r hr).2 k (by have := (hT _ hmem k hk).2; omega)).2 h⟩
 constructor
 ·intro h
  exact ⟨hi, _, hany.1, h⟩
 ·rintro ⟨_, out, ho, h⟩
  exact scan_mono (fun b => hany.2 (ho b)) h
omit hg hN hs in
theorem rclash_iff (q : 0 < N.length) {a b : Nat} (ha : a < g) (hb : b < g) : (((LV.getD a []).getD 0 false && (LV.getD b []).getD 0 false) || ndsC N LV a b N) = true ↔ Clash N (a : Int) (b : Int) := by
 have hA := @atB_iff N g LV hF hLV; rw [Bool.or_eq_true, Bool.and_eq_true, (hLV.2 a ha).2 0 q, (hLV.2 b hb).2 0 q]; unfold Clash
 refine or_congr Iff.rfl ?_
 unfold ndsC ndC
 rw [List.any_eq_true]; constructor
 {
 rintro ⟨n, hn, h⟩
 obtain ⟨i, hi, rfl⟩ := List.getElem_of_mem hn; rw [List.any_eq_true] at h; obtain ⟨j, hj, h⟩ := h; have p : j < N[i].f0.length := by rw [List.mem_range'_1] at hj; omega
 rw [insC, List.getElem?_eq_getElem p] at h; refine ⟨i, j, hi, p, ?_⟩
 simp only [Bool.or_eq_true, Bool.and_eq_true] at h
 rcases h with ⟨h1, l⟩ | ⟨h1, l⟩
 ·left; exact ⟨h1, (hA hi hb _).1 l⟩
 ·right; exact ⟨h1, (hA hi ha _).1 l⟩}
 {
 rintro ⟨i, j, hi, hj, h⟩
 refine ⟨N[i], List.getElem_mem _, ?_⟩
 rw [List.any_eq_true]; refine ⟨j, by rw [List.mem_range'_1]; omega, ?_⟩
 rw [insC, List.getElem?_eq_getElem hj]; simp only [Bool.or_eq_true, Bool.and_eq_true]
 rcases h with ⟨h1, l⟩ | ⟨h1, l⟩
 ·left; exact ⟨h1, (hA hi hb _).2 l⟩
 ·right; exact ⟨h1, (hA hi ha _).2 l⟩}
end
end Go.Proofs.YtefhpdcafdhcaaaDoor.M
end
section
namespace Go.Proofs.YtefhpdcafdhcaaaDoor.M
open Go Go.RowKit Go.Proofs.YtefhpdcafdhcaaaDoorW.PrintWords Go.Proofs.YtefhpdcafdhcaaaDoorW.PrintLast Go.Proofs.YtefhpdcafdhcaaaDoorW.PrintMore Go.Proofs.YtefhpdcafdhcaaaDoor Go.Proofs.YtefhpdcafdhcaaaDoor.A Go.Proofs.YtefhpdcafdhcaaaDoor.B Go.Proofs.YtefhpdcafdhcaaaDoor.N Go.Proofs.YtefhpdcafdhcaaaDoor.V Go.Proofs.YtefhpdcafdhcaaaDoor.S
open FlowM (next hasD hasA hasB Fine FineNd FineG Live scan uses sets scan_mono LiveAt Clash listOf mem_listOf after after_bit clashF clashF_clash clashF_len)
section
variable {cl : Nat → Int → Int → Option Bool} {C : List Nat} {g : Nat}
theorem refRow_ev {a : Nat} (ha : a < g) (hg : g ≤ 2000) (h : ∀ b, a < b → b < g → Evt (fun k => cl k (a : Int) (b : Int)) ((C.getD a 0).testBit b)) : ∀ (m b : Nat), b + m = g → a < b → ∀ acc : List (Int × Int), acc.length + m ≤ 4900000 →
  Evt (fun k => refRow (cl k) a (List.range' b m) acc) (acc ++ ((List.range' b m).filter fun q => (C.getD a 0).testBit q).map fun (q : Nat) => ((a : Int), (q : Int)))
 | 0, b, hm, hab, acc, hl => by {
 simp only [List.range'_zero, refRow, List.filter_nil, List.map_nil, List.append_nil]
 exact Evt.const _}
 | m + 1, b, hm, hab, acc, hl => by {
 simp only [List.range'_succ, refRow]
 refine Evt.pos (by omega) (Evt.bind (h b hab (by omega)) ?_)
 by_cases e : (C.getD a 0).testBit b = true
 {
 have := refRow_ev ha hg h m (b + 1) (by omega) (by omega) (acc ++ [((a : Int), (b : Int))]) (by rw [List.length_append, List.length_singleton]; omega)
 rw [if_pos e, List.filter_cons_of_pos e, List.map_cons]; rw [List.append_assoc] at this; exact this}
 {
 have := refRow_ev ha hg h m (b + 1) (by omega) (by omega) acc (by omega)
 rw [if_neg e, List.filter_cons_of_neg e]; exact this}}
theorem row_split {a : Nat} (ha : a < g) (s : Nat) : rowP a (listOf s g) = ((List.range' (a + 1) (g - (a + 1))).filter fun q => s.testBit q).map fun (q : Nat) => ((a : Int), (q : Int)) := by
 unfold rowP listOf
 congr 1
 rw [List.filter_filter]; have e : List.range g = List.range' 0 (a + 1) ++ List.range' (a + 1) (g - (a + 1)) := by
  rw [List.range_eq_range']; have := List.range'_append (s := 0) (m := a + 1) (n := g - (a + 1)) (step := 1)
  rw [show 0 + 1 * (a + 1) = a + 1 by omega, show (a + 1) + (g - (a + 1)) = g by omega] at this
  exact this.symm
 rw [e, List.filter_append]; have h1 : (List.range' 0 (a + 1)).filter (fun q => decide (a < q) && s.testBit q) = [] := by
  rw [List.filter_eq_nil_iff]; intro q hq
  rw [List.mem_range'_1] at hq; rw [decide_eq_false (by omega), Bool.false_and]
  simp
 rw [h1, List.nil_append]; apply List.filter_congr
 intro q hq
 rw [List.mem_range'_1] at hq; rw [decide_eq_true (by omega), Bool.true_and]
theorem rowP_len (a s : Nat) : (rowP a (listOf s g)).length ≤ g := by
 unfold rowP listOf
 rw [List.length_map]; exact Nat.le_trans (List.length_filter_le _ _) (Nat.le_trans (List.length_filter_le _ _) (by rw [List.length_range]; omega))
theorem refAll_ev (hg : g ≤ 2000) (h : ∀ a b, a < b → b < g → Evt (fun k => cl k (a : Int) (b : Int)) ((C.getD a 0).testBit b)) : ∀ (m a : Nat), a + m = g → ∀ acc : List (Int × Int), acc.length ≤ a * g →
  Evt (fun k => refAll (cl k) g (List.range' a m) acc) (acc ++ (List.range' a m).flatMap fun r => rowP r (listOf (C.getD r 0) g))
 | 0, a, hm, acc, hl => by {
 simp only [List.range'_zero, refAll, List.flatMap_nil, List.append_nil]
 exact Evt.const _}
 | m + 1, a, hm, acc, hl => by {
 simp only [List.range'_succ, refAll, List.flatMap_cons]
 have hb : a * g ≤ 2000 * 2000 := Nat.mul_le_mul (by omega) hg
 have h1 := refRow_ev (cl := cl) (C := C) (g := g) (a := a) (by omega) hg (fun b hab hb => h a b hab hb) (g - (a + 1)) (a + 1) (by omega) (by omega) acc (by omega)
 rw [← row_split (by omega)] at h1
 refine Evt.bind h1 ?_
 have := refAll_ev hg h m (a + 1) (by omega) (acc ++ rowP a (listOf (C.getD a 0) g)) (by
  have := rowP_len (g := g) a (C.getD a 0)
  rw [List.length_append, Nat.succ_mul]; omega)
 rw [List.append_assoc] at this; exact this}
theorem pairs_len (n : Nat) : (pairsOf C g n).length ≤ n * g := by
 unfold pairsOf
 induction n with
 | zero => simp
 | succ n ih =>
  rw [List.range_succ, List.flatMap_append, List.length_append, Nat.succ_mul]; have := rowP_len (g := g) n (C.getD n 0)
  simp only [List.flatMap_cons, List.flatMap_nil, List.append_nil]
  omega
end
section
variable (nm : ByteArray) {ps : List S83} {ar : List S85} {N : List S69} {g : Nat} {R : List Nat} (hg : g ≤ 2000) (hN : N.length ≤ 1000) (h0 : 0 < N.length) (hs : ∀ n ∈ N, n.f0.length ≤ 1000) (hF : FineG g N) (hL : ∀ i, i < N.length → ∀ r : Nat, ((R.getD i 0).testBit r = true ↔ Live N (r : Int) i))
include hg hN hs hF hL h0
theorem rclashes_ev : Evt (fun k => r11_Clashes.f k nm ps ar (g : Int) N) (pairsOf (clashF g N R) g g) := by
 obtain ⟨LV, hLV, he⟩ := rlive_ev nm (ps := ps) (ar := ar) hg hF hs hN; unfold r11_Clashes.f
 refine Evt.pos ⟨by omega, by omega⟩ (Evt.bind he ?_)
 rw [Int.toNat_natCast]; have := refAll_ev (cl := fun k a b => r11_clash.f k nm ps ar (g : Int) N LV a b) (C := clashF g N R) hg (fun a b hab hb => by
  have h1 := rclash_ev nm (ps := ps) (ar := ar) hg hN hs hF hLV h0 (a := a) (b := b) (by omega) hb
  have e : (((LV.getD a []).getD 0 false && (LV.getD b []).getD 0 false) || ndsC N LV a b N) = ((clashF g N R).getD a 0).testBit b := by
   rw [Bool.eq_iff_iff, rclash_iff hF hLV h0 (by omega) hb, clashF_clash hF h0 hL a b (by omega) hb]
   exact ⟨fun h => ⟨by omega, h⟩, fun h => h.2⟩
  rw [e] at h1; exact h1) g 0 (by omega) [] (by simp)
 rw [List.nil_append] at this; unfold pairsOf
 rw [List.range_eq_range' (n := g)]; exact this
omit hg hN h0 hs hF hL in
theorem mem_pairs {C : List Nat} {n : Nat} {p : Int × Int} : p ∈ pairsOf C g n ↔ ∃ a b : Nat, p = ((a : Int), (b : Int)) ∧ a < n ∧ b < g ∧ a < b ∧ (C.getD a 0).testBit b = true := by
 unfold pairsOf rowP
 rw [List.mem_flatMap]; constructor
 ·rintro ⟨a, ha, h⟩
  obtain ⟨b, hb, rfl⟩ := List.mem_map.1 h; rw [List.mem_filter, mem_listOf, decide_eq_true_eq] at hb; exact ⟨a, b, rfl, List.mem_range.1 ha, hb.1.1, hb.2, hb.1.2⟩
 ·rintro ⟨a, b, rfl, ha, hb, hab, h⟩
  exact ⟨a, List.mem_range.2 ha, List.mem_map.2 ⟨b, by rw [List.mem_filter, mem_listOf, decide_eq_true_eq]; exact ⟨⟨hb, h⟩, hab⟩, rfl⟩⟩
omit hg hN h0 hs hF hL in
theorem okR_ok (kk p : Int) (hp : -9223372036854775808 ≤ p ∧ p ≤ 9223372036854775807) : okR kk p = okP kk p := by
 unfold okR okP
 rw [wrap64_id (by omega) (by omega)]
 congr 1
 rw [decide_eq_decide]; omega
omit hg hN hs in
theorem right_eq {l : List Int} {kk : Int} (hl : ∀ p ∈ l, -9223372036854775808 ≤ p ∧ p ≤ 9223372036854775807) : refRB l kk (pairsOf (clashF g N R) g g) = rightB l kk (clashF g N R) g := by
 unfold refRB rightB
 congr 1
 ·rw [Bool.eq_iff_iff, List.all_eq_true, List.all_eq_true]; exact ⟨fun h x hx => by rw [← okR_ok _ _ (hl x hx)]; exact h x hx, fun h x hx => by rw [okR_ok _ _ (hl x hx)]; exact h x hx⟩
 {
 have hcc := clashF_clash (R := R) hF h0 hL; rw [Bool.eq_iff_iff, List.all_eq_true, List.all_eq_true]; constructor
 {
 intro h r hr
 rw [List.all_eq_true]; intro q hq
 have y := List.mem_range.1 hr; obtain ⟨z, B⟩ := mem_listOf.1 hq; obtain ⟨hne, hcl⟩ := (hcc r q y z).1 B; rcases Nat.lt_or_ge r q with hlt | hge
 {
 have := h ((r : Int), (q : Int)) (mem_pairs.2 ⟨r, q, rfl, y, z, hlt, B⟩)
 simpa using this}
 {
 have C : ((clashF g N R).getD q 0).testBit r = true := (hcc q r z y).2 ⟨by omega, hcl.symm⟩
 have := h ((q : Int), (r : Int)) (mem_pairs.2 ⟨q, r, rfl, z, y, by omega, C⟩)
 have D : ¬ l.getD q 0 = l.getD r 0 := by simpa using this
 rw [Bool.not_eq_true', beq_eq_false_iff_ne]; exact fun e => D e.symm}}
 {
 intro h p hp
 obtain ⟨a, b, rfl, ha, hb, hab, hbit⟩ := mem_pairs.1 hp; have := h a (List.mem_range.2 ha)
 rw [List.all_eq_true] at this; have := this b (mem_listOf.2 ⟨hb, hbit⟩)
 simpa using this}}
theorem rright_ev {l : List Int} {kk : Int} (hl : ∀ p ∈ l, -9223372036854775808 ≤ p ∧ p ≤ 9223372036854775807) (hlen : l.length = g) : Evt (fun k => r11_Right.f k nm ps ar (g : Int) N l kk) (rightB l kk (clashF g N R) g) := by
 unfold r11_Right.f
 refine Evt.pos (by omega) (Evt.bind (rclashes_ev nm hg hN h0 hs hF hL) (Evt.pos ⟨?_, ?_⟩ ?_))
 ·have := pairs_len (C := clashF g N R) (g := g) g
  have hb : g * g ≤ 2000 * 2000 := Nat.mul_le_mul hg hg
  omega
 ·intro p hp
  obtain ⟨a, b, rfl, ha, hb, hab, hbit⟩ := mem_pairs.1 hp; constructor <;> constructor <;> simp only [] <;> omega
 ·rw [right_eq h0 hF hL hl]; exact Evt.const _
end
end Go.Proofs.YtefhpdcafdhcaaaDoor.M
end
section
namespace Go.Proofs.YtefhpdcafdhcaaaDoor.D
open Go.RowKit Go.Proofs.YtefhpdcafdhcaaaDoorW.PrintWords Go.Proofs.YtefhpdcafdhcaaaDoorW.PrintLast Go.Proofs.YtefhpdcafdhcaaaDoorW.PrintMore Go.Proofs.YtefhpdcafdhcaaaDoor Go.Proofs.YtefhpdcafdhcaaaDoor.A Go.Proofs.YtefhpdcafdhcaaaDoor.B Go.Proofs.YtefhpdcafdhcaaaDoor.V Go.Proofs.YtefhpdcafdhcaaaDoor.S
attribute [local go_sem] max2_int max_two
set_option linter.unusedVariables false
set_option linter.unusedSimpArgs false
mutual
def l11_AllocAssigns.j0 : Nat → Int → List Int → Int → Int → Bool → ByteArray → List (S83) → List (S85) → Int → List (S69) → Option (Bool)
 | 0, _, _, _, _, _, _, _, _, _, _ => none
 | k + 1, C, z, F, S, T, l, p, q, b, y => if T = true then (l11_AllocAssigns.j1 k C z F 6 l p q b y) else (l11_AllocAssigns.j1 k C z F S l p q b y)
def l11_AllocAssigns.j1 : Nat → Int → List Int → Int → Int → ByteArray → List (S83) → List (S85) → Int → List (S69) → Option (Bool)
 | 0, _, _, _, _, _, _, _, _, _ => none
 | k + 1, C, z, F, S, l, p, q, b, y => if S = 0 then ((r11_Occur.f k l p q b y).bind fun B => (if F = 0 then (if (z.length : Int) = b then ((r11_Right.f k l p q b y z C).bind fun I => (if I = true then ((r11_Cells.f k z).bind fun J => ((r11_Many.f k B).bind fun L => (l11_AllocAssigns.j2 k C z B (decide (J > (mx 0 (wrap64 (L - C))))) l p q b y))) else (l11_AllocAssigns.j2 k C z B true l p q b y))) else (l11_AllocAssigns.j2 k C z B true l p q b y)) else (if F = 5 then (if (z.length : Int) = 0 then ((r11_Many.f k B).bind fun M => (if M > (wrap64 (C + 64)) then ((l11_awake.f).bind fun N => (some N)) else (some false))) else (some false)) else (some false)))) else (if F = S then (if (z.length : Int) = 0 then ((l11_awake.f).bind fun O => (some O)) else (some false)) else (some false))
def l11_AllocAssigns.j2 : Nat → Int → List Int → List Bool → Bool → ByteArray → List (S83) → List (S85) → Int → List (S69) → Option (Bool)
 | 0, _, _, _, _, _, _, _, _, _ => none
 | k + 1, C, z, G, U, l, p, q, b, y => if U = true then (some false) else (l11_AllocAssigns.l0 k C z G 0 l p q b y)
def l11_AllocAssigns.l0 : Nat → Int → List Int → List Bool → Int → ByteArray → List (S83) → List (S85) → Int → List (S69) → Option (Bool)
 | 0, _, _, _, _, _, _, _, _, _ => none
 | k + 1, C, z, G, E, l, p, q, b, y => if E < b then (if 0 ≤ E then (if E < (G.length : Int) then (if rdOf false G E = true then (l11_AllocAssigns.l0 k C z G (wrap64 (E + 1)) l p q b y) else (if E < (z.length : Int) then (if (rd z E) = 0 then (l11_AllocAssigns.l0 k C z G (wrap64 (E + 1)) l p q b y) else (some false)) else (none))) else (none)) else (none)) else ((alloc_Right.f k l p q b y z C).bind fun D => (if D.1 = true then (if D.2 = 0 then ((l11_awake.f).bind fun R => (some R)) else (some false)) else (some false)))
end
def l11_AllocAssigns.f (k : Nat) (l : ByteArray) (p : List (S83)) (q : List (S85)) (y : Int) (z : List (S69)) (C : Int) : Option (Bool) := (l11_wide.f k l p q y z).bind fun D => (if D = true then ((l11_awake.f).bind fun E => (some E)) else ((alloc_Assign.f k l p q y z C).bind fun b => ((r11_Error.f k l p q y z).bind fun B => (if B = 0 then (if C < 1 then (l11_AllocAssigns.j0 k C b.1 b.2 B true l p q y z) else (l11_AllocAssigns.j0 k C b.1 b.2 B (decide (C > 13)) l p q y z)) else (l11_AllocAssigns.j0 k C b.1 b.2 B false l p q y z)))))
theorem alloc_Assign.cq (k : Nat) (a0 : ByteArray) (A1 : Option Addr) (c1 : Nat) (m1 : List (S83)) (A2 : Option Addr) (c2 : Nat) (m2 : List (S85)) (a3 : Int) (A4 : Option Addr) (c4 : Nat) (m4 : List (S69)) (B : Int) (F : List Int) (G : Int) (w : World) (oq : q5 w A1 c1 m1 A2 c2 m2 A4 c4 m4) (h : alloc_Assign.f k a0 m1 m2 a3 m4 B = some (F, G)) (hT : Tab w) :
  Calls Tryd.prog 12 #[.agg #[.string a0, .slice A1 m1.length c1, .slice A2 m2.length c2, .int .i64 a3, .slice A4 m4.length c4], .int .i64 B] w fun e w' => ∃ D : Value, e = .returned (.tuple #[D, .int .i64 G]) ∧ Kd.R (Kd.int .i64) 3 w' w.heap.size (fun _ => True) D F ∧ Below w.heap.size w w' :=
 let ⟨h1, h2, h3, h4, h5, h6⟩ := oq; alloc_Assign.calls k a0 A1 c1 m1 A2 c2 m2 a3 A4 c4 m4 B F G w h1 h2 h3 h4 h5 h6 h hT
theorem alloc_Right.cq (k : Nat) (a0 : ByteArray) (A1 : Option Addr) (c1 : Nat) (m1 : List (S83)) (A2 : Option Addr) (c2 : Nat) (m2 : List (S85)) (a3 : Int) (A4 : Option Addr) (c4 : Nat) (m4 : List (S69)) (D : Option Addr) (E : Nat) (l1 : List Int) (B : Int) (I : Bool) (J : Int) (w : World) (oq : q5 w A1 c1 m1 A2 c2 m2 A4 c4 m4) (G : Kd.C (Kd.int .i64) w D l1.length l1) (N : l1.length ≤ E) (h : alloc_Right.f k a0 m1 m2 a3 m4 l1 B = some (I, J)) (hT : Tab w) :
  Calls Tryd.prog 9 #[.agg #[.string a0, .slice A1 m1.length c1, .slice A2 m2.length c2, .int .i64 a3, .slice A4 m4.length c4], .slice D l1.length E, .int .i64 B] w fun e w' => e = .returned (.tuple #[.bool I, .int .i64 J]) ∧ Below w.heap.size w w' :=
 let ⟨h1, h2, h3, h4, h5, h6⟩ := oq; alloc_Right.calls k a0 A1 c1 m1 A2 c2 m2 a3 A4 c4 m4 D E l1 B I J w h1 h2 h3 h4 h5 h6 G N h hT
theorem r11_Right.cq {k : Nat} {y : ByteArray} {z : Option Addr} {B : Nat} {b : List (S83)} {D : Option Addr} {E : Nat} {l : List (S85)} {p : Int} {F : Option Addr} {G : Nat} {q : List (S69)} {R : Option Addr} {S : Nat} {l1 : List Int} {T : Int} {r : Bool} {w : World} (oq : q5 w z B b D E l F G q) (U : Kd.C (Kd.int .i64) w R l1.length l1) (V : l1.length ≤ S) (h : r11_Right.f k y b l p q l1 T = some r) :
  Calls Tryd.prog 11 #[.agg #[.string y, .slice z b.length B, .slice D l.length E, .int .i64 p, .slice F q.length G], .slice R l1.length S, .int .i64 T] w fun e w' => e = .returned (.bool r) ∧ Below w.heap.size w w' :=
 let ⟨h1, h2, h3, h4, h5, h6⟩ := oq; r11_Right.calls h1 h2 h3 h4 h5 h6 U V h
theorem r11_Occur.cq {k : Nat} {y : ByteArray} {z : Option Addr} {B : Nat} {b : List (S83)} {D : Option Addr} {E : Nat} {l : List (S85)} {q : Int} {F : Option Addr} {G : Nat} {p : List (S69)} {r : List Bool} {w : World} (oq : q5 w z B b D E l F G p) (h : r11_Occur.f k y b l q p = some r) :
  Calls Tryd.prog 13 #[.agg #[.string y, .slice z b.length B, .slice D l.length E, .int .i64 q, .slice F p.length G]] w fun e w' => ∃ J : Value, e = .returned (J) ∧ Kd.R Kd.bool 4 w' w.heap.size (fun _ => True) J r ∧ Below w.heap.size w w' :=
 let ⟨h1, h2, h3, h4, h5, h6⟩ := oq; r11_Occur.calls h1 h2 h3 h4 h5 h6 h
theorem l11_AllocAssigns.calls (k : Nat) (B : ByteArray) (G : Option Addr) (I : Nat) (q : List (S83)) (J : Option Addr) (L : Nat) (y : List (S85)) (D : Int) (M : Option Addr) (N : Nat) (z : List (S69)) (a1 : Int) (r : Bool) (w : World) (o0 : q5 w G I q J L y M N z) (h : l11_AllocAssigns.f k B q y D z a1 = some r) (hT : Tab w) :
  Calls Tryd.prog 4 #[.agg #[.string B, .slice G q.length I, .slice J y.length L, .int .i64 D, .slice M z.length N], .int .i64 a1] w fun e w' => e = .returned (.bool r) ∧ Below w.heap.size w w' := by
 have HT := a_ hT; clear hT; have G5 := Tryd.underlying26; have p := a_ (Below.refl w.heap.size w); have H : ((l11_wide.f k B q y D z).bind fun o6 => (if o6 = true then ((l11_awake.f).bind fun q4 => (some q4)) else ((alloc_Assign.f k B q y D z a1).bind fun b1 => ((r11_Error.f k B q y D z).bind fun a3 => (if a3 = 0 then (if a1 < 1 then (l11_AllocAssigns.j0 k a1 b1.1 b1.2 a3 true B q y D z) else (l11_AllocAssigns.j0 k a1 b1.1 b1.2 a3 (decide (a1 > 13)) B q y D z)) else (l11_AllocAssigns.j0 k a1 b1.1 b1.2 a3 false B q y D z)))))) = some r := h
 clear h; replace H := q_bd H; obtain ⟨o6, q5, H⟩ := H; have A3 := a_ q5; clear q5; cases o6
 {
 replace H := q_if H; replace H := q_bd H; obtain ⟨⟨F, d7⟩, f0, H⟩ := H; replace H : ((r11_Error.f k B q y D z).bind fun a3 => (if a3 = 0 then (if a1 < 1 then (l11_AllocAssigns.j0 k a1 F d7 a3 true B q y D z) else (l11_AllocAssigns.j0 k a1 F d7 a3 (decide (a1 > 13)) B q y D z)) else (l11_AllocAssigns.j0 k a1 F d7 a3 false B q y D z))) = some r := H
 have C3 := a_ f0; clear f0; replace H := q_bd H; obtain ⟨a3, q7, H⟩ := H; have G8 := a_ q7; clear q7; have e0 := a_ H; clear H; go_enter Tryd.func4, Tryd.ntmps4
 go_upto_region 5 with (first | ((with_reducible refine gd_ 2 rfl ?_); (try (refine gate_guard (by rfl) ?_; dsimp only)); refine q_box 2 26 #[.string B, .slice G q.length I, .slice J y.length L, .int .i64 D, .slice M z.length N] ?_; intro d3 hg C2 d6 hb; have b := a_ d6; have G9 := a_ (q_ge p.out hg); have l := a_ (q_ge p.out hg); replace p := a_ (q_st p.out hb); clear hb d6 hg; obtain ⟨g1, g2, g3, g4, g5, g6, g7, g8, g9, i0⟩ := q_cf5 b.out) | ((with_reducible refine gc_ 7 rfl ?_); refine q_gl 13 #[.agg #[.string B, .slice G q.length I, .slice J y.length L, .int .i64 D, .slice M z.length N]] Tryd.func7 rfl ?_; (with_reducible refine (l11_wide.calls (q_F o0 p.out) A3.out).mono ?_); rintro e J3 ⟨rfl, hb⟩; refine ⟨_, rfl, ?_⟩; replace b := a_ (q_bk b.out hb); replace p := a_ (q_st1 p.out hb l.out); (clear hb); obtain ⟨i1, i2, i3, i4, i5, i6, i7, i8, i9, j3⟩ := q_cf5 b.out) | ((with_reducible refine gc_ 12 rfl ?_); refine q_gl 18 #[.agg #[.string B, .slice G q.length I, .slice J y.length L, .int .i64 D, .slice M z.length N], .int .i64 a1] Tryd.func12 rfl ?_; (with_reducible refine (alloc_Assign.cq _ _ _ _ _ _ _ _ _ _ _ _ _ _ _ _ (q_F o0 p.out) C3.out ?hTab).mono ?_); (case hTab => exact HT.out.below (q_w1 p.out l.out)); rintro e J4 ⟨f1, rfl, a4, hb⟩; refine ⟨_, rfl, ?_⟩; have b3 := a_ (Kd.R_lower a4 (below_size (q_w1 p.out l.out))); replace b := a_ (q_bk b.out hb); replace p := a_ (q_st1 p.out hb l.out); clear hb a4; obtain ⟨j5, j6, j7, j8, j9, k0, k1, k2, k3, k5⟩ := q_cf5 b.out) | ((with_reducible refine gc_ 10 rfl ?_); refine q_gl 22 #[.agg #[.string B, .slice G q.length I, .slice J y.length L, .int .i64 D, .slice M z.length N]] Tryd.func10 rfl ?_; (with_reducible refine (r11_Error.calls (q_F o0 p.out) G8.out).mono ?_); rintro e J5 ⟨rfl, hb⟩; refine ⟨_, rfl, ?_⟩; replace b3 := a_ (Kd.R_below (q_R b3.out) hb); replace b := a_ (q_bk b.out hb); replace p := a_ (q_st1 p.out hb l.out); (clear hb)))
 (try simp only [Act.put, List.setIfInBounds_toArray, List.set_cons_zero, List.set_cons_succ])
 go_cut [32] (fun C4 wc => ∃ (kq : Nat) (a7 : Bool), C4 = .bool a7 ∧ Aside0 (l11_AllocAssigns.j0 kq a1 F d7 a3 a7 B q y D z = some r) ∧ Aside0 (kq ≤ k) ∧ Aside0 (Kd.R (Kd.int .i64) 3 wc w.heap.size (fun _ => True) f1 F) ∧ Aside0 (wc.heap[d3]? = some (.cells #[.string B, (.slice G q.length I), (.slice J y.length L), .int .i64 D, (.slice M z.length N)] 26 (0, 0))) ∧ Aside0 (Below w.heap.size w wc))
 case first => (
 have H := e0.out; clear e0; replace H := q_iBN H; rcases H with ⟨-, c20b0, c20b1, H⟩ | ⟨J6, c20b0, c20b1, H⟩
 all_goals (
 (first | rw [c20b0] | (simp only [i64_w, i32_w]; rw [c20b0]) | skip))
 {
 rcases q_ite H with ⟨c21b0, H⟩ | ⟨c21b0, H⟩
 {
 have H' := a_ H
 clear H; go_wp2
 go_meet
 case rel => exact ⟨_, (true), q_r, H', ⟨by first | omega | exact Nat.le_refl _⟩, ⟨q_R b3.out⟩, ⟨q_k b.out⟩, ⟨q_w1 p.out l.out⟩⟩}
 {
 have H' := a_ H
 clear H; go_wp2
 go_meet
 case rel => exact ⟨_, (decide (a1 > 13)), q_r, H', ⟨by first | omega | exact Nat.le_refl _⟩, ⟨q_R b3.out⟩, ⟨q_k b.out⟩, ⟨q_w1 p.out l.out⟩⟩}}
 {
 have H' := a_ H
 clear H; go_wp2
 go_meet
 case rel => exact ⟨_, (false), q_r, H', ⟨by first | omega | exact Nat.le_refl _⟩, ⟨q_R b3.out⟩, ⟨q_k b.out⟩, ⟨q_w1 p.out l.out⟩⟩})
 case rest => (
 clear e0 g1 g2 g3 g4 g5 i1 i2 i3 i4 i5 j5 j6 j7 j8 j9 g6 g7 g8 g9 i0 i6 i7 i8 i9 j3 k0 k1 k2 k3 k5; obtain ⟨kq, a7, rfl, HA, a8, HO_5, b, p⟩ := hcut; cases kq with
 | zero => exact absurd HA.out (by simp [l11_AllocAssigns.j0])
 | succ C5 => (
 have H := HA.out; clear HA; simp only [l11_AllocAssigns.j0] at H
 have e1 := a_ H; clear H; go_upto_if 32 with (fail)
 go_cut [7] (fun C6 wc => ∃ (kq : Nat) (b4 : Int), C6 = .int .i64 b4 ∧ Aside0 (l11_AllocAssigns.j1 kq a1 F d7 b4 B q y D z = some r) ∧ Aside0 (kq ≤ C5) ∧ Aside0 (Kd.R (Kd.int .i64) 3 wc w.heap.size (fun _ => True) f1 F) ∧ Aside0 (wc.heap[d3]? = some (.cells #[.string B, (.slice G q.length I), (.slice J y.length L), .int .i64 D, (.slice M z.length N)] 26 (0, 0))) ∧ Aside0 (Below w.heap.size w wc))
 case first => (
 have H := e1.out; clear e1; cases a7
 {
 replace H := q_if H; have H' := a_ H
 clear H; go_wp2
 go_meet
 case rel => exact ⟨_, (a3), q_r, H', ⟨by have := a8.out; first | omega | exact Nat.le_refl _⟩, ⟨q_R HO_5.out⟩, ⟨q_k b.out⟩, ⟨q_w1 p.out l.out⟩⟩}
 {
 rw [if_pos rfl] at H; have H' := a_ H
 clear H; go_wp2
 go_meet
 case rel => exact ⟨_, (6), q_r, H', ⟨by have := a8.out; first | omega | exact Nat.le_refl _⟩, ⟨q_R HO_5.out⟩, ⟨q_k b.out⟩, ⟨q_w1 p.out l.out⟩⟩})
 case rest => (
 clear e1; obtain ⟨kq, b4, rfl, HA, a6, HO_5, b, p⟩ := hcut; cases kq with
 | zero => exact absurd HA.out (by simp [l11_AllocAssigns.j1])
 | succ o7 => (
 have H := HA.out; clear HA; simp only [l11_AllocAssigns.j1] at H
 replace H := q_iBN H; rcases H with ⟨-, c24b0, c24b1, H⟩ | ⟨J7, c24b0, c24b1, H⟩
 {
 replace H := q_bd H; obtain ⟨a5, q8, H⟩ := H; have d8 := a_ q8; clear q8; replace H := q_iBN H; rcases H with ⟨-, c26b0, c26b1, H⟩ | ⟨J8, c26b0, c26b1, H⟩
 {
 have e2 := a_ H; clear H; obtain ⟨b8, b9, c0, c1, c3, c6, c8, c9, d0, d1⟩ := q_cf5 b.out; go_upto_region 12 with (first | ((with_reducible refine gc_ 13 rfl ?_); refine q_gl 47 #[.agg #[.string B, .slice G q.length I, .slice J y.length L, .int .i64 D, .slice M z.length N]] Tryd.func13 rfl ?_; (with_reducible refine (r11_Occur.cq (q_F o0 p.out) d8.out).mono ?_); rintro e C7 ⟨o8, rfl, a4, hb⟩; refine ⟨_, rfl, ?_⟩; have a0 := a_ (Kd.R_lower a4 (below_size (q_w1 p.out l.out))); replace HO_5 := a_ (Kd.R_below (q_R HO_5.out) hb); replace b := a_ (q_bk b.out hb); replace p := a_ (q_st1 p.out hb l.out); clear hb a4))
 (try simp only [Act.put, List.setIfInBounds_toArray, List.set_cons_zero, List.set_cons_succ])
 go_cut [88] (fun C8 wc => ∃ (kq : Nat) (a9 : Bool), C8 = .bool a9 ∧ Aside0 (l11_AllocAssigns.j2 kq a1 F a5 a9 B q y D z = some r) ∧ Aside0 (kq ≤ o7) ∧ Aside0 (Kd.R (Kd.int .i64) 3 wc w.heap.size (fun _ => True) f1 F) ∧ Aside0 (Kd.R Kd.bool 4 wc w.heap.size (fun _ => True) o8 a5) ∧ Aside0 (wc.heap[d3]? = some (.cells #[.string B, (.slice G q.length I), (.slice J y.length L), .int .i64 D, (.slice M z.length N)] 26 (0, 0))) ∧ Aside0 (Below w.heap.size w wc))
 case first => (
 have H := e2.out; clear e2; replace H := q_iBN H; rcases H with ⟨-, c30b0, c30b1, H⟩ | ⟨J9, c30b0, c30b1, H⟩
 all_goals (
 (first | rw [c30b0] | (simp only [i64_w, i32_w]; rw [c30b0]) | skip))
 {
 replace H := q_bd H; obtain ⟨C9, f3, H⟩ := H; have o9 := a_ f3; clear f3; cases C9
 {
 replace H := q_if H; have H' := a_ H
 clear H; obtain ⟨s1, s2, e4⟩ := Kd.R_slice HO_5.out; subst e4; obtain ⟨k6, k7, k8, k9, l4, l5, l6, l7, l8, l9⟩ := q_cf5 b.out; go_wp2_with (first | (go_at_call 11; (with_reducible refine (r11_Right.cq (q_F o0 p.out) ?side7 ((Kd.R_reads' HO_5.out).2.1) o9.out).mono ?_); (case side7 => repeat (first | exact (Kd.R_reads' HO_5.out).2.2 | with_reducible first | refine Kd.C_alloc ?_ _ | refine Kd.C_drewN ?_ _ | refine Kd.C_drew ?_)); rintro e K0 ⟨rfl, hb⟩; replace HO_5 := a_ (Kd.R_below (q_R HO_5.out) hb); replace a0 := a_ (Kd.R_below (q_R a0.out) hb); replace b := a_ (q_bk b.out hb); replace p := a_ (q_st1 p.out hb l.out); (clear hb)))
 go_meet
 case rel => exact ⟨_, (true), q_r, H', ⟨by have := a8.out; have := a6.out; first | omega | exact Nat.le_refl _⟩, ⟨q_R HO_5.out⟩, ⟨q_R a0.out⟩, ⟨q_k b.out⟩, ⟨q_w1 p.out l.out⟩⟩}
 {
 rw [if_pos rfl] at H; replace H := q_bd H; obtain ⟨f5, d9, H⟩ := H; have q9 := a_ d9; clear d9; replace H := q_bd H; obtain ⟨p0, r0, H⟩ := H; have r1 := a_ r0; clear r0; obtain ⟨e3, a2⟩ : ∃ j_ : Int, (mx 0 (wrap64 (p0 - a1))) = j_ := ⟨_, rfl⟩; replace H : (l11_AllocAssigns.j2 o7 a1 F a5 (decide (f5 > (e3))) B q y D z) = some r := by first | (rw [a2] at H; exact H) | (simp only [a2] at H ⊢; exact H)
 (try rw [a2] at o9)
 (try rw [a2] at q9)
 (try rw [a2] at r1)
 have D0 : (if 0 < (wrap64 (p0 - a1)) then (wrap64 (p0 - a1)) else 0) = e3 := a2
 have H' := a_ H
 clear H; obtain ⟨H0, H1, r9⟩ := Kd.R_slice HO_5.out; subst r9; obtain ⟨v3, v4, v5, v6, v7, v8, v9, w2, w3, w4⟩ := q_cf5 b.out; go_wp2_with (first | (go_at_call 11; (with_reducible refine (r11_Right.cq (q_F o0 p.out) ?side7 ((Kd.R_reads' HO_5.out).2.1) o9.out).mono ?_); (case side7 => repeat (first | exact (Kd.R_reads' HO_5.out).2.2 | with_reducible first | refine Kd.C_alloc ?_ _ | refine Kd.C_drewN ?_ _ | refine Kd.C_drew ?_)); rintro e D1 ⟨rfl, hb⟩; replace HO_5 := a_ (Kd.R_below (q_R HO_5.out) hb); replace a0 := a_ (Kd.R_below (q_R a0.out) hb); replace b := a_ (q_bk b.out hb); replace p := a_ (q_st1 p.out hb l.out); (clear hb)) | (go_at_call 15; (with_reducible refine (r11_Cells.calls ?side1 ((Kd.R_reads' HO_5.out).2.1) q9.out).mono ?_); (case side1 => repeat (first | exact (Kd.R_reads' HO_5.out).2.2 | with_reducible first | refine Kd.C_alloc ?_ _ | refine Kd.C_drewN ?_ _ | refine Kd.C_drew ?_)); rintro e w' ⟨rfl, ⟨nd, rfl⟩⟩; obtain ⟨H3, H4, s0⟩ := Kd.R_slice a0.out; subst s0) | (go_at_call 14; (with_reducible refine (r11_Many.calls ?side1 ((Kd.R_reads' a0.out).2.1) r1.out).mono ?_); (case side1 => repeat (first | exact (Kd.R_reads' a0.out).2.2 | with_reducible first | refine Kd.C_alloc ?_ _ | refine Kd.C_drewN ?_ _ | refine Kd.C_drew ?_)); rintro e w' ⟨rfl, ⟨nd, rfl⟩⟩))
 go_meet
 case rel => exact ⟨_, (decide (f5 > (e3))), (by first | rfl | (simp; done) | (simp only [← a2] <;> (first | rfl | simp)) | (simp [*]; done)), H', ⟨by have := a8.out; have := a6.out; first | omega | exact Nat.le_refl _⟩, ⟨q_R HO_5.out⟩, ⟨q_R a0.out⟩, ⟨q_k b.out⟩, ⟨q_w1 p.out l.out⟩⟩}}
 {
 have H' := a_ H
 clear H; obtain ⟨s3, s4, e5⟩ := Kd.R_slice HO_5.out; subst e5; obtain ⟨w5, w6, w7, w8, w9, x0, x1, x2, x3, x4⟩ := q_cf5 b.out; go_wp2
 go_meet
 case rel => exact ⟨_, (true), q_r, H', ⟨by have := a8.out; have := a6.out; first | omega | exact Nat.le_refl _⟩, ⟨q_R HO_5.out⟩, ⟨q_R a0.out⟩, ⟨q_k b.out⟩, ⟨q_w1 p.out l.out⟩⟩})
 case rest => (
 clear e2 c24b0 c24b1 c26b0 c26b1 b8 b9 c0 c1 c3 c6 c8 c9 d0 d1; obtain ⟨kq, a9, rfl, HA, d4, HO_5, HO_8, b, p⟩ := hcut; cases kq with
 | zero => exact absurd HA.out (by simp [l11_AllocAssigns.j2])
 | succ p1 => (
 have H := HA.out; clear HA; simp only [l11_AllocAssigns.j2] at H
 cases a9
 {
 replace H := q_if H; have H' := a_ H
 clear H; go_wp2
 go_loopg [9] p1 (fun kq D2 w' => ∃ (E : Int), D2 = .int .i64 E ∧ Aside0 (l11_AllocAssigns.l0 kq a1 F a5 E B q y D z = some r) ∧ Aside0 (kq ≤ p1) ∧ Aside0 (Kd.R (Kd.int .i64) 3 w' w.heap.size (fun _ => True) f1 F) ∧ Aside0 (Kd.R Kd.bool 4 w' w.heap.size (fun _ => True) o8 a5) ∧ Aside0 (w'.heap[d3]? = some (.cells #[.string B, (.slice G q.length I), (.slice J y.length L), .int .i64 D, (.slice M z.length N)] 26 (0, 0))) ∧ Aside0 (Below w.heap.size w w'))
 case atStart => exact ⟨(0), q_r, H', ⟨Nat.le_refl _⟩, ⟨q_R HO_5.out⟩, ⟨q_R HO_8.out⟩, ⟨q_k b.out⟩, ⟨q_w1 p.out l.out⟩⟩
 case round => (
 clear H'; obtain ⟨E, rfl, HA, q3, HO_5, HO_8, b, p⟩ := hrel; cases gk with
 | zero => exact absurd HA.out (by simp [l11_AllocAssigns.l0])
 | succ k4 => (
 have H := HA.out; clear HA; simp only [l11_AllocAssigns.l0] at H
 rcases q_ite H with ⟨c46b0, H⟩ | ⟨c46b0, H⟩
 {
 replace H := q_gD H; obtain ⟨-, c47b0, H⟩ := H; replace H := q_gD H; obtain ⟨-, c48b0, H⟩ := H; obtain ⟨p2, d5⟩ : ∃ b_ : Bool, b_ = (rdOf false a5 E) := ⟨_, rfl⟩; replace H : (if p2 = true then (l11_AllocAssigns.l0 k4 a1 F a5 (wrap64 (E + 1)) B q y D z) else (if E < (F.length : Int) then (if (rd F E) = 0 then (l11_AllocAssigns.l0 k4 a1 F a5 (wrap64 (E + 1)) B q y D z) else (some false)) else (none))) = some r := by rw [← d5] at H; exact H
 have f7 := a_ d5; clear d5; cases p2
 {
 replace H := q_if H; replace H := q_gD H; obtain ⟨-, c53b0, H⟩ := H; replace H := q_iBN H; rcases H with ⟨-, c54b0, c54b1, H⟩ | ⟨K1, c54b0, c54b1, H⟩
 focus (
 have H' := a_ H
 clear H; obtain ⟨n0, n1, n2, n3, n4, n5, n6, n7, n8, n9⟩ := q_cf5 b.out; obtain ⟨p6, p7, b5⟩ := Kd.R_slice HO_8.out; subst b5; have f9 : 0 ≤ (E : Int) := q_d)
 rotate_left
 focus (
 obtain rfl := q_so H; obtain ⟨n0, n1, n2, n3, n4, n5, n6, n7, n8, n9⟩ := q_cf5 b.out; obtain ⟨p6, p7, b5⟩ := Kd.R_slice HO_8.out; subst b5; have f9 : 0 ≤ (E : Int) := q_d)
 all_goals (
 have p8 : E < (a5.length : Int) := q_d
 obtain ⟨H8, D4, p9⟩ := Kd.at_bool (Kd.R_reads' HO_8.out).2.2 E f9 p8; (try rw [← f7.out] at p9)
 cases D4; replace f9 := eq_true f9; replace p8 := eq_true p8; obtain ⟨H9, I0, s6⟩ := Kd.R_slice HO_5.out; subst s6; have q0 : 0 ≤ (E : Int) := q_d
 have q1 : E < (F.length : Int) := q_d
 obtain ⟨I1, D5, D6⟩ := Kd.at_int (Kd.R_reads' HO_5.out).2.2 E q0 q1; cases D5; replace q0 := eq_true q0; replace q1 := eq_true q1; go_wp2)
 {
 go_ret
 exact ⟨q_e, q_w1 p.out l.out⟩}
 {
 go_roundg k4
 case measure => have := a8.out; have := a6.out; have := d4.out; have := q3.out; omega
 case rel => exact ⟨(wrap64 (E + 1)), q_r, H', ⟨by have := a8.out; have := a6.out; have := d4.out; have := q3.out; omega⟩, ⟨q_R HO_5.out⟩, ⟨q_R HO_8.out⟩, ⟨q_k b.out⟩, ⟨q_w1 p.out l.out⟩⟩}}
 {
 rw [if_pos rfl] at H; have H' := a_ H
 clear H; obtain ⟨k6, k7, k8, k9, l4, l5, l6, l7, l8, l9⟩ := q_cf5 b.out; obtain ⟨H5, H6, s5⟩ := Kd.R_slice HO_8.out; subst s5; have p3 : 0 ≤ (E : Int) := q_d
 have p4 : E < (a5.length : Int) := q_d
 obtain ⟨H7, D3, p5⟩ := Kd.at_bool (Kd.R_reads' HO_8.out).2.2 E p3 p4; (try rw [← f7.out] at p5)
 cases D3; replace p3 := eq_true p3; replace p4 := eq_true p4; go_wp2
 go_roundg k4
 case measure => have := a8.out; have := a6.out; have := d4.out; have := q3.out; omega
 case rel => exact ⟨(wrap64 (E + 1)), q_r, H', ⟨by have := a8.out; have := a6.out; have := d4.out; have := q3.out; omega⟩, ⟨q_R HO_5.out⟩, ⟨q_R HO_8.out⟩, ⟨q_k b.out⟩, ⟨q_w1 p.out l.out⟩⟩}}
 {
 replace H := q_bd H; obtain ⟨⟨r2, f5⟩, d9, H⟩ := H; replace H : (if r2 = true then (if f5 = 0 then ((l11_awake.f).bind fun r3 => (some r3)) else (some false)) else (some false)) = some r := H
 have q2 := a_ d9; clear d9; cases r2
 {
 replace H := q_if H; obtain rfl := q_so H; obtain ⟨y5, y6, y7, y8, y9, z0, z1, z2, z3, z4⟩ := q_cf5 b.out; obtain ⟨e6, e7, e8⟩ := Kd.R_slice HO_5.out; subst e8; go_wp2_with (first | ((with_reducible refine gc_ 9 rfl ?_); refine q_gl 111 #[.agg #[.string B, .slice G q.length I, .slice J y.length L, .int .i64 D, .slice M z.length N], .slice e6 F.length e7, .int .i64 a1] Tryd.func9 rfl ?_; (with_reducible refine (alloc_Right.cq _ _ _ _ _ _ _ _ _ _ _ _ _ _ _ _ _ _ _ (q_F o0 p.out) ?side7 ((Kd.R_reads' HO_5.out).2.1) q2.out ?hTab).mono ?_); (case hTab => exact HT.out.below (q_w1 p.out l.out)); (case side7 => repeat (first | exact (Kd.R_reads' HO_5.out).2.2 | with_reducible first | refine Kd.C_alloc ?_ _ | refine Kd.C_drewN ?_ _ | refine Kd.C_drew ?_)); rintro e E7 ⟨rfl, hb⟩; refine ⟨_, rfl, ?_⟩; replace HO_5 := a_ (Kd.R_below (q_R HO_5.out) hb); replace HO_8 := a_ (Kd.R_below (q_R HO_8.out) hb); replace b := a_ (q_bk b.out hb); replace p := a_ (q_st1 p.out hb l.out); (clear hb)))
 go_ret
 exact ⟨q_e, q_w1 p.out l.out⟩}
 {
 rw [if_pos rfl] at H; replace H := q_iBN H; rcases H with ⟨-, c63b0, c63b1, H⟩ | ⟨K2, c63b0, c63b1, H⟩
 focus (
 replace H := q_bd H; obtain ⟨r3, r4, H⟩ := H; have I2 := a_ r4; clear r4; obtain rfl := q_so H; obtain ⟨x5, x6, x7, x8, x9, y0, y1, y2, y3, y4⟩ := q_cf5 b.out; obtain ⟨s7, s8, s9⟩ := Kd.R_slice HO_5.out; subst s9; go_wp2_with (first | ((with_reducible refine gc_ 9 rfl ?_); refine q_gl 111 #[.agg #[.string B, .slice G q.length I, .slice J y.length L, .int .i64 D, .slice M z.length N], .slice s7 F.length s8, .int .i64 a1] Tryd.func9 rfl ?_; (with_reducible refine (alloc_Right.cq _ _ _ _ _ _ _ _ _ _ _ _ _ _ _ _ _ _ _ (q_F o0 p.out) ?side7 ((Kd.R_reads' HO_5.out).2.1) q2.out ?hTab).mono ?_); (case hTab => exact HT.out.below (q_w1 p.out l.out)); (case side7 => repeat (first | exact (Kd.R_reads' HO_5.out).2.2 | with_reducible first | refine Kd.C_alloc ?_ _ | refine Kd.C_drewN ?_ _ | refine Kd.C_drew ?_)); rintro e D1 ⟨rfl, hb⟩; refine ⟨_, rfl, ?_⟩; replace HO_5 := a_ (Kd.R_below (q_R HO_5.out) hb); replace HO_8 := a_ (Kd.R_below (q_R HO_8.out) hb); replace b := a_ (q_bk b.out hb); replace p := a_ (q_st1 p.out hb l.out); (clear hb)) | (go_at_call 8; (with_reducible refine (l11_awake.calls I2.out ?hTab).mono ?_); (case hTab => exact HT.out.below (q_w1 p.out l.out)); rintro e K3 ⟨rfl, hb⟩; replace HO_5 := a_ (Kd.R_below (q_R HO_5.out) hb); replace HO_8 := a_ (Kd.R_below (q_R HO_8.out) hb); replace b := a_ (q_bk b.out hb); replace p := a_ (q_st1 p.out hb l.out); (clear hb))))
 rotate_left
 focus (
 obtain rfl := q_so H; obtain ⟨D7, D8, D9, E0, E1, E2, E3, E4, E5, E6⟩ := q_cf5 b.out; obtain ⟨e6, e7, e8⟩ := Kd.R_slice HO_5.out; subst e8; go_wp2_with (first | ((with_reducible refine gc_ 9 rfl ?_); refine q_gl 111 #[.agg #[.string B, .slice G q.length I, .slice J y.length L, .int .i64 D, .slice M z.length N], .slice e6 F.length e7, .int .i64 a1] Tryd.func9 rfl ?_; (with_reducible refine (alloc_Right.cq _ _ _ _ _ _ _ _ _ _ _ _ _ _ _ _ _ _ _ (q_F o0 p.out) ?side7 ((Kd.R_reads' HO_5.out).2.1) q2.out ?hTab).mono ?_); (case hTab => exact HT.out.below (q_w1 p.out l.out)); (case side7 => repeat (first | exact (Kd.R_reads' HO_5.out).2.2 | with_reducible first | refine Kd.C_alloc ?_ _ | refine Kd.C_drewN ?_ _ | refine Kd.C_drew ?_)); rintro e E7 ⟨rfl, hb⟩; refine ⟨_, rfl, ?_⟩; replace HO_5 := a_ (Kd.R_below (q_R HO_5.out) hb); replace HO_8 := a_ (Kd.R_below (q_R HO_8.out) hb); replace b := a_ (q_bk b.out hb); replace p := a_ (q_st1 p.out hb l.out); (clear hb))))
 all_goals (
 go_ret
 exact ⟨q_e, q_w1 p.out l.out⟩)}}))}
 {
 rw [if_pos rfl] at H; obtain rfl := q_so H; go_wp2
 go_ret
 exact ⟨q_e, q_w1 p.out l.out⟩}))}
 {
 replace H := q_iBN H; rcases H with ⟨-, c75b0, c75b1, H⟩ | ⟨K4, c75b0, c75b1, H⟩
 {
 replace H := q_iBN H; rcases H with ⟨-, c76b0, c76b1, H⟩ | ⟨E8, c76b0, c76b1, H⟩
 {
 replace H := q_bd H; obtain ⟨K5, r5, H⟩ := H; have r6 := a_ r5; clear r5; rcases q_ite H with ⟨c78b0, H⟩ | ⟨c78b0, H⟩
 focus (
 replace H := q_bd H; obtain ⟨K6, r7, H⟩ := H; have f3 := a_ r7; clear r7; obtain rfl := q_so H; obtain ⟨z5, z6, z7, z8, z9, A0, A1, A2, A4, A5⟩ := q_cf5 b.out; go_wp2_with (first | ((with_reducible refine gc_ 13 rfl ?_); refine q_gl 47 #[.agg #[.string B, .slice G q.length I, .slice J y.length L, .int .i64 D, .slice M z.length N]] Tryd.func13 rfl ?_; (with_reducible refine (r11_Occur.cq (q_F o0 p.out) d8.out).mono ?_); rintro e K7 ⟨K8, rfl, a4, hb⟩; refine ⟨_, rfl, ?_⟩; have b6 := a_ (Kd.R_lower a4 (below_size (q_w1 p.out l.out))); replace HO_5 := a_ (Kd.R_below (q_R HO_5.out) hb); replace b := a_ (q_bk b.out hb); replace p := a_ (q_st1 p.out hb l.out); clear hb a4; obtain ⟨p6, p7, b5⟩ := Kd.R_slice HO_5.out; subst b5; obtain ⟨K9, L0, E9⟩ := Kd.R_slice b6.out; subst E9) | (go_at_call 14; (with_reducible refine (r11_Many.calls ?side1 ((Kd.R_reads' b6.out).2.1) r6.out).mono ?_); (case side1 => repeat (first | exact (Kd.R_reads' b6.out).2.2 | with_reducible first | refine Kd.C_alloc ?_ _ | refine Kd.C_drewN ?_ _ | refine Kd.C_drew ?_)); rintro e w' ⟨rfl, ⟨nd, rfl⟩⟩) | (go_at_call 8; (with_reducible refine (l11_awake.calls f3.out ?hTab).mono ?_); (case hTab => exact HT.out.below (q_w1 p.out l.out)); rintro e L1 ⟨rfl, hb⟩; replace HO_5 := a_ (Kd.R_below (q_R HO_5.out) hb); replace b6 := a_ (Kd.R_below (q_R b6.out) hb); replace b := a_ (q_bk b.out hb); replace p := a_ (q_st1 p.out hb l.out); (clear hb))))
 rotate_left
 focus (
 obtain rfl := q_so H; obtain ⟨F0, F1, F2, F3, F4, F5, F6, F7, F8, F9⟩ := q_cf5 b.out; go_wp2_with (first | ((with_reducible refine gc_ 13 rfl ?_); refine q_gl 47 #[.agg #[.string B, .slice G q.length I, .slice J y.length L, .int .i64 D, .slice M z.length N]] Tryd.func13 rfl ?_; (with_reducible refine (r11_Occur.cq (q_F o0 p.out) d8.out).mono ?_); rintro e L2 ⟨L3, rfl, a4, hb⟩; refine ⟨_, rfl, ?_⟩; have e9 := a_ (Kd.R_lower a4 (below_size (q_w1 p.out l.out))); replace HO_5 := a_ (Kd.R_below (q_R HO_5.out) hb); replace b := a_ (q_bk b.out hb); replace p := a_ (q_st1 p.out hb l.out); clear hb a4; obtain ⟨I3, I4, t0⟩ := Kd.R_slice HO_5.out; subst t0; obtain ⟨s1, s2, e4⟩ := Kd.R_slice e9.out; subst e4) | (go_at_call 14; (with_reducible refine (r11_Many.calls ?side1 ((Kd.R_reads' e9.out).2.1) r6.out).mono ?_); (case side1 => repeat (first | exact (Kd.R_reads' e9.out).2.2 | with_reducible first | refine Kd.C_alloc ?_ _ | refine Kd.C_drewN ?_ _ | refine Kd.C_drew ?_)); rintro e w' ⟨rfl, ⟨nd, rfl⟩⟩)))
 all_goals (
 go_ret
 exact ⟨q_e, q_w1 p.out l.out⟩)}
 {
 have c76b2 : ¬ (F = []) := fun h_ => E8 (by rw [h_]; rfl)
 obtain rfl := q_so H; obtain ⟨A6, A7, A8, A9, B2, B3, B6, B7, C0, C1⟩ := q_cf5 b.out; go_wp2_with (first | ((with_reducible refine gc_ 13 rfl ?_); refine q_gl 47 #[.agg #[.string B, .slice G q.length I, .slice J y.length L, .int .i64 D, .slice M z.length N]] Tryd.func13 rfl ?_; (with_reducible refine (r11_Occur.cq (q_F o0 p.out) d8.out).mono ?_); rintro e G0 ⟨L4, rfl, a4, hb⟩; refine ⟨_, rfl, ?_⟩; have I5 := a_ (Kd.R_lower a4 (below_size (q_w1 p.out l.out))); replace HO_5 := a_ (Kd.R_below (q_R HO_5.out) hb); replace b := a_ (q_bk b.out hb); replace p := a_ (q_st1 p.out hb l.out); clear hb a4; obtain ⟨s3, s4, e5⟩ := Kd.R_slice HO_5.out; subst e5))
 go_ret
 exact ⟨q_e, q_w1 p.out l.out⟩}}
 {
 obtain rfl := q_so H; obtain ⟨b8, b9, c0, c1, c3, c6, c8, c9, d0, d1⟩ := q_cf5 b.out; go_wp2_with (first | ((with_reducible refine gc_ 13 rfl ?_); refine q_gl 47 #[.agg #[.string B, .slice G q.length I, .slice J y.length L, .int .i64 D, .slice M z.length N]] Tryd.func13 rfl ?_; (with_reducible refine (r11_Occur.cq (q_F o0 p.out) d8.out).mono ?_); rintro e C7 ⟨o8, rfl, a4, hb⟩; refine ⟨_, rfl, ?_⟩; have a0 := a_ (Kd.R_lower a4 (below_size (q_w1 p.out l.out))); replace HO_5 := a_ (Kd.R_below (q_R HO_5.out) hb); replace b := a_ (q_bk b.out hb); replace p := a_ (q_st1 p.out hb l.out); clear hb a4))
 go_ret
 exact ⟨q_e, q_w1 p.out l.out⟩}}}
 {
 replace H := q_iBN H; rcases H with ⟨-, c94b0, c94b1, H⟩ | ⟨L5, c94b0, c94b1, H⟩
 {
 replace H := q_iBN H; rcases H with ⟨-, c95b0, c95b1, H⟩ | ⟨G1, c95b0, c95b1, H⟩
 focus (
 replace H := q_bd H; obtain ⟨L6, r8, H⟩ := H; have G2 := a_ r8; clear r8; obtain rfl := q_so H; obtain ⟨I6, I7, t1⟩ := Kd.R_slice HO_5.out; subst t1; go_wp2_with (first | (go_at_call 8; (with_reducible refine (l11_awake.calls G2.out ?hTab).mono ?_); (case hTab => exact HT.out.below (q_w1 p.out l.out)); rintro e G0 ⟨rfl, hb⟩; replace HO_5 := a_ (Kd.R_below (q_R HO_5.out) hb); replace b := a_ (q_bk b.out hb); replace p := a_ (q_st1 p.out hb l.out); (clear hb))))
 rotate_left
 focus (
 have c95b2 : ¬ (F = []) := fun h_ => G1 (by rw [h_]; rfl)
 obtain rfl := q_so H; obtain ⟨I8, I9, t2⟩ := Kd.R_slice HO_5.out; subst t2; go_wp2)
 all_goals (
 go_ret
 exact ⟨q_e, q_w1 p.out l.out⟩)}
 {
 obtain rfl := q_so H; go_wp2
 go_ret
 exact ⟨q_e, q_w1 p.out l.out⟩}}))))}
 {
 rw [if_pos rfl] at H; replace H := q_bd H; obtain ⟨q4, q6, H⟩ := H; have f0 := a_ q6; clear q6; obtain rfl := q_so H; go_enter Tryd.func4, Tryd.ntmps4
 go_wp2_with (first | ((with_reducible refine gd_ 2 rfl ?_); (try (refine gate_guard (by rfl) ?_; dsimp only)); refine q_box 2 26 #[.string B, .slice G q.length I, .slice J y.length L, .int .i64 D, .slice M z.length N] ?_; intro G6 hg J1 d6 hb; have b2 := a_ d6; have G7 := a_ (q_ge p.out hg); have d2 := a_ (q_ge p.out hg); replace p := a_ (q_st p.out hb); clear hb d6 hg; obtain ⟨t3, t4, t5, t6, t7, t8, t9, v0, v1, v2⟩ := q_cf5 b2.out) | ((with_reducible refine gc_ 7 rfl ?_); refine q_gl 13 #[.agg #[.string B, .slice G q.length I, .slice J y.length L, .int .i64 D, .slice M z.length N]] Tryd.func7 rfl ?_; (with_reducible refine (l11_wide.calls (q_F o0 p.out) A3.out).mono ?_); rintro e C2 ⟨rfl, hb⟩; refine ⟨_, rfl, ?_⟩; replace b2 := a_ (q_bk b2.out hb); replace p := a_ (q_st1 p.out hb d2.out); (clear hb)) | ((with_reducible refine gc_ 8 rfl ?_); refine q_gl 14 #[] Tryd.func8 rfl ?_; (with_reducible refine (l11_awake.calls f0.out ?hTab).mono ?_); (case hTab => exact HT.out.below (q_w1 p.out d2.out)); rintro e J2 ⟨rfl, hb⟩; refine ⟨_, rfl, ?_⟩; replace b2 := a_ (q_bk b2.out hb); replace p := a_ (q_st1 p.out hb d2.out); (clear hb)))
 go_ret
 exact ⟨q_e, q_w1 p.out d2.out⟩}
end Go.Proofs.YtefhpdcafdhcaaaDoor.D
end
section
namespace Go.Proofs.YtefhpdcafdhcaaaDoor.M
open Go Go.RowKit Go.Proofs.YtefhpdcafdhcaaaDoorW.PrintWords Go.Proofs.YtefhpdcafdhcaaaDoorW.PrintLast Go.Proofs.YtefhpdcafdhcaaaDoorW.PrintMore Go.Proofs.YtefhpdcafdhcaaaDoor Go.Proofs.YtefhpdcafdhcaaaDoor.A Go.Proofs.YtefhpdcafdhcaaaDoor.B Go.Proofs.YtefhpdcafdhcaaaDoor.N Go.Proofs.YtefhpdcafdhcaaaDoor.V Go.Proofs.YtefhpdcafdhcaaaDoor.S
open FlowM (next Fine FineNd FineG Live liveF after listOf mem_listOf after_bit clashF)
open Go.Proofs.YtefhpdcafdhcaaaDoor.D
theorem aw_ev : l11_awake.f = some true := rfl
end Go.Proofs.YtefhpdcafdhcaaaDoor.M
end
section
namespace Go.Proofs.YtefhpdcafdhcaaaDoor.M
open Go Go.RowKit Go.Proofs.YtefhpdcafdhcaaaDoorW.PrintWords Go.Proofs.YtefhpdcafdhcaaaDoorW.PrintLast Go.Proofs.YtefhpdcafdhcaaaDoorW.PrintMore Go.Proofs.YtefhpdcafdhcaaaDoor Go.Proofs.YtefhpdcafdhcaaaDoor.A Go.Proofs.YtefhpdcafdhcaaaDoor.B Go.Proofs.YtefhpdcafdhcaaaDoor.N Go.Proofs.YtefhpdcafdhcaaaDoor.V Go.Proofs.YtefhpdcafdhcaaaDoor.S
open FlowM (next hasD hasA hasB uses sets scan Fine FineNd FineG Live LiveAt Clash liveF after listOf mem_listOf after_bit clashF clashF_clash clashF_len assignF assignF_spec Asg idx placeOf put useList defs nodup_le reach_le)
open Go.Proofs.YtefhpdcafdhcaaaDoor.D
section
variable {m : Nat}
theorem useList_eq {y : S71} (h : Fine m y) : useList y = (if hasA y.f0 = true then [y.f3] else []) ++ (if hasB y.f0 = true then [y.f4] else []) := by
 unfold useList
 rcases FlowM.kinds h.1 h.2.1 with e | e | e | e | e | e | e | e | e | e | e | e <;> rw [e] <;> rfl
def OccRow (g s : Nat) (l : List Bool) : Prop := l.length = g ∧ ∀ r, r < g → l.getD r false = s.testBit r
theorem mark_row {g s : Nat} {l : List Bool} (h : OccRow g s l) {r : Int} (h0 : 0 ≤ r ∧ r < (g : Int)) : ∃ l', S.mark l r = some l' ∧ OccRow g (put s r.toNat) l' := by
 refine ⟨l.set r.toNat true, ?_, by rw [List.length_set]; exact h.1, fun q hq => ?_⟩
 ·unfold S.mark
  rw [if_pos ⟨h0.1, by rw [h.1]; exact h0.2⟩]
 ·rw [getD_sb (by rw [h.1]; omega), h.2 q hq, FlowM.put_bit]
theorem markIns_ev {g s : Nat} {l : List Bool} {y : S71} (hf : Fine g y) (ha : y.f6 = []) (h : OccRow g s l) : ∃ l', Evt (fun k => markIns (r6_Has.f k) y l) l' ∧ OccRow g (occI s y) l' := by
 have q : ∃ l1, (if hasD y.f0 = true then S.mark l y.f2 else some l) = some l1 ∧ OccRow g (if defs y = true then put s y.f2.toNat else s) l1 := by {
 rw [FlowM.defs_hasD hf]; by_cases hd : hasD y.f0 = true
 ·rw [if_pos hd, if_pos hd]; exact mark_row h (hf.2.2.1 hd)
 ·rw [if_neg hd, if_neg hd]; exact ⟨l, rfl, h⟩}
 obtain ⟨l1, h1, p⟩ := q; have z : ∃ l2, (if hasA y.f0 = true then S.mark l1 y.f3 else some l1) = some l2 ∧ OccRow g (putsI (if defs y = true then put s y.f2.toNat else s) (if hasA y.f0 = true then [y.f3] else [])) l2 := by {
 by_cases hd : hasA y.f0 = true
 ·rw [if_pos hd, if_pos hd]; exact mark_row p (hf.2.2.2.1 hd)
 ·rw [if_neg hd, if_neg hd]; exact ⟨l1, rfl, p⟩}
 obtain ⟨l2, B, b⟩ := z; have C : ∃ l3, (if hasB y.f0 = true then S.mark l2 y.f4 else some l2) = some l3 ∧ OccRow g (occI s y) l3 := by {
 unfold occI
 rw [useList_eq hf]; unfold putsI at b ⊢
 rw [List.foldl_append]; by_cases hd : hasB y.f0 = true
 ·rw [if_pos hd, if_pos hd]; exact mark_row b (hf.2.2.2.2 hd)
 ·rw [if_neg hd, if_neg hd]; exact ⟨l2, rfl, b⟩}
 obtain ⟨l3, D, E⟩ := C; refine ⟨l3, ?_, E⟩
 unfold markIns
 refine Evt.bind (has_ev hf.1 hf.2.1) (Evt.pos ⟨?_, ha⟩ ?_)
 ·rcases FlowM.kinds hf.1 hf.2.1 with e | e | e | e | e | e | e | e | e | e | e | e <;> rw [e] <;> rfl
 ·rw [h1, Option.bind_some, B, Option.bind_some, D]; exact Evt.const _
theorem markInss_ev {g : Nat} : ∀ (xs : List S71) (s : Nat) (l : List Bool), (∀ y ∈ xs, Fine g y ∧ y.f6 = []) → OccRow g s l → ∃ l', Evt (fun k => markInss (r6_Has.f k) xs l) l' ∧ OccRow g (xs.foldl occI s) l'
 | [], s, l, _, h => ⟨l, Evt.const _, h⟩
 | y :: xs, s, l, hx, h => by {
 obtain ⟨l1, h1, b⟩ := markIns_ev (hx y List.mem_cons_self).1 (hx y List.mem_cons_self).2 h; obtain ⟨l2, p, q⟩ := markInss_ev xs _ l1 (fun z hz => hx z (List.mem_cons_of_mem _ hz)) b
 refine ⟨l2, ?_, q⟩
 simp only [markInss]
 exact Evt.bind h1 p}
theorem markNds_ev {g n : Nat} : ∀ (xs : List S69) (s : Nat) (l : List Bool), (∀ x ∈ xs, FineNd g n x ∧ ∀ y ∈ x.f0, y.f6 = []) → OccRow g s l → ∃ l', Evt (fun k => markNds (r6_Has.f k) xs l) l' ∧ OccRow g (xs.foldl occN s) l'
 | [], s, l, _, h => ⟨l, Evt.const _, h⟩
 | x :: xs, s, l, hx, h => by {
 have hf := hx x List.mem_cons_self; obtain ⟨l1, h1, b⟩ := markInss_ev x.f0 s l (fun y hy => ⟨hf.1.1 y hy, hf.2 y hy⟩) h
 have p : ∃ l2, (if x.f1 = 1 then S.mark l1 x.f2 else some l1) = some l2 ∧ OccRow g (occN s x) l2 := by {
 unfold occN
 by_cases hd : x.f1 = 1
 ·rw [if_pos hd, if_pos hd]; exact mark_row b (hf.1.2.1 hd)
 ·rw [if_neg hd, if_neg hd]; exact ⟨l1, rfl, b⟩}
 obtain ⟨l2, q, B⟩ := p; obtain ⟨l3, C, D⟩ := markNds_ev xs _ l2 (fun z hz => hx z (List.mem_cons_of_mem _ hz)) B
 refine ⟨l3, ?_, D⟩
 simp only [markNds, markNd]
 refine Evt.bind (Evt.bind h1 ?_) C
 rw [q]; exact Evt.const _}
end
theorem many_ev {z : List Bool} (hz : z.length ≤ 100000) : ∀ (m i n : Nat), i + m = z.length → n ≤ i → Evt (fun k => r11_Many.l0 k z (n : Int) (i : Int)) (((n + cnt (z.drop i) : Nat)) : Int)
 | 0, i, n, h, hn => by {
 refine Evt.succ ?_
 simp only [r11_Many.l0]
 rw [List.drop_of_length_le (by omega)]
 exact Evt.neg (by omega) (Evt.const _)}
 | m + 1, i, n, h, hn => by {
 have hi : i < z.length := by omega
 refine Evt.succ ?_
 simp only [r11_Many.l0]
 refine Evt.pos (by omega) (Evt.pos (by omega) ?_)
 rw [rdOf_nat _ _ _ hi, wrap_succ i (by omega), wrap_succ n (by omega), List.drop_eq_getElem_cons hi]
 cases e : z[i] with
 | true => (
 refine Evt.pos (by trivial) ?_
 have := many_ev hz m (i + 1) (n + 1) (by omega) (by omega)
 rw [show n + cnt (true :: z.drop (i + 1)) = n + 1 + cnt (z.drop (i + 1)) by simp [cnt]; omega]
 exact this)
 | false => (
 refine Evt.neg (by simp) ?_
 have := many_ev hz m (i + 1) n (by omega) (by omega)
 rw [show n + cnt (false :: z.drop (i + 1)) = n + cnt (z.drop (i + 1)) by simp [cnt]]
 exact this)}
theorem occ_count {g s : Nat} {z : List Bool} (h : OccRow g s z) : cnt z = (listOf s g).length := by
 have e : z = (List.range g).map fun r => s.testBit r := by {
 apply List.ext_getElem
 ·rw [List.length_map, List.length_range]; exact h.1
 {
 intro i h1 b
 have := h.2 i (by rw [← h.1]; exact h1)
 rw [List.getD_eq_getElem?_getD, List.getElem?_eq_getElem h1, Option.getD_some] at this; rw [this, List.getElem_map, List.getElem_range]}}
 rw [e]; unfold cnt listOf
 rw [List.count_eq_countP, List.countP_map, List.countP_eq_length_filter]; congr 1
 apply List.filter_congr
 intro r _
 simp
def CellsL (l : List Int) (i : Nat) (F : List Int) : Prop := F.Nodup ∧ F.length ≤ i ∧ ∀ x ∈ F, x < 0 ∧ x ∈ l.take i
def newB (l : List Int) (i j : Nat) : Prop := l.getD i 0 < 0 ∧ ∀ q, q < j → l.getD q 0 ≠ l.getD i 0
theorem rd_get (l : List Int) (i : Nat) : rd l (i : Int) = l.getD i 0 := by unfold rd; rw [Int.toNat_natCast]
theorem cells_in {l : List Int} {i n : Nat} {r : Int} (hl : l.length ≤ 100000) (hi : i < l.length) (hn : n ≤ i) (ht : newB l i i → Evt (fun k => r11_Cells.l0 k l ((n + 1 : Nat) : Int) ((i + 1 : Nat) : Int)) r) (hf : ¬ newB l i i → Evt (fun k => r11_Cells.l0 k l (n : Int) ((i + 1 : Nat) : Int)) r) :
  ∀ (m j : Nat), j + m = i → ∀ b : Bool, (b = true ↔ newB l i j) → Evt (fun k => r11_Cells.l1 k l (n : Int) (i : Int) b (j : Int)) r
 | 0, j, h, b, hb => by {
 obtain rfl : j = i := by omega
 refine Evt.succ ?_
 simp only [r11_Cells.l1]
 refine Evt.neg (by omega) ?_
 rw [wrap_succ j (by omega), wrap_succ n (by omega)]
 cases b with
 | true => exact Evt.pos (by trivial) (ht (hb.1 rfl))
 | false => exact Evt.neg (by simp) (hf (fun h => by have := hb.2 h; cases this))}
 | m + 1, j, h, b, hb => by {
 refine Evt.succ ?_
 simp only [r11_Cells.l1]
 refine Evt.pos (by omega) ?_
 rw [wrap_succ j (by omega)]
 cases b with
 | true => (
 have y := hb.1 rfl; refine Evt.pos (by trivial) (Evt.pos (by omega) (Evt.pos (by omega) (Evt.pos (by omega) (Evt.pos (by omega) ?_))))
 rw [rd_get, rd_get]; refine cells_in hl hi hn ht hf m (j + 1) (by omega) _ ?_
 rw [bne_iff_ne]; constructor
 {
 intro hne
 exact ⟨y.1, fun q hq => by
  by_cases e : q = j
  ·subst e; exact hne
  ·exact y.2 q (by omega)⟩}
 ·intro p; exact p.2 j (by omega))
 | false => (
 refine Evt.neg (by simp) (cells_in hl hi hn ht hf m (j + 1) (by omega) false ?_)
 constructor
 ·intro p; cases p
 {
 intro p
 exact absurd (hb.2 ⟨p.1, fun q hq => p.2 q (by omega)⟩) (by simp)})}
theorem cells_ev {l : List Int} (hl : l.length ≤ 100000) : ∀ (m i : Nat), i + m = l.length → ∀ F : List Int, CellsL l i F → ∃ F', CellsL l l.length F' ∧ Evt (fun k => r11_Cells.l0 k l ((F.length : Nat) : Int) (i : Int)) ((F'.length : Nat) : Int)
 | 0, i, h, F, hF => by {
 obtain rfl : i = l.length := by omega
 refine ⟨F, hF, Evt.succ ?_⟩
 simp only [r11_Cells.l0]
 exact Evt.neg (by omega) (Evt.const _)}
 | m + 1, i, h, F, hF => by {
 have hi : i < l.length := by omega
 have hg : l.getD i 0 = l[i] := by rw [List.getD_eq_getElem?_getD, List.getElem?_eq_getElem hi]; rfl
 have htk : l.take (i + 1) = l.take i ++ [l[i]] := by rw [List.take_add_one, List.getElem?_eq_getElem hi]; rfl
 by_cases hnew : newB l i i
 {
 have hni : l[i] ∉ l.take i := by {
 intro hm
 obtain ⟨q, hq, e⟩ := List.getElem_of_mem hm; have b : q < i := by rw [List.length_take] at hq; omega
 apply hnew.2 q b
 rw [hg, ← e, List.getElem_take, List.getD_eq_getElem?_getD, List.getElem?_eq_getElem (by omega), Option.getD_some]}
 obtain ⟨F', hF', he⟩ := cells_ev hl m (i + 1) (by omega) (l[i] :: F) ⟨List.nodup_cons.2 ⟨fun hm => hni (hF.2.2 _ hm).2, hF.1⟩, by rw [List.length_cons]; have := hF.2.1; omega, fun x hx => by
  rcases List.mem_cons.1 hx with rfl | hx
  ·exact ⟨by rw [← hg]; exact hnew.1, by rw [htk]; exact List.mem_append_right _ List.mem_cons_self⟩
  ·exact ⟨(hF.2.2 x hx).1, by rw [htk]; exact List.mem_append_left _ (hF.2.2 x hx).2⟩⟩
 refine ⟨F', hF', Evt.succ ?_⟩
 simp only [r11_Cells.l0]
 refine Evt.pos (by omega) (Evt.pos (by omega) ?_)
 refine cells_in hl hi hF.2.1 (fun _ => he) (fun h => absurd hnew h) i 0 (by omega) _ ?_
 rw [decide_eq_true_eq, rd_get]; exact ⟨fun h => ⟨h, fun q hq => by omega⟩, fun h => h.1⟩}
 {
 obtain ⟨F', hF', he⟩ := cells_ev hl m (i + 1) (by omega) F ⟨hF.1, by have := hF.2.1; omega, fun x hx => ⟨(hF.2.2 x hx).1, by rw [htk]; exact List.mem_append_left _ (hF.2.2 x hx).2⟩⟩
 refine ⟨F', hF', Evt.succ ?_⟩
 simp only [r11_Cells.l0]
 refine Evt.pos (by omega) (Evt.pos (by omega) ?_)
 refine cells_in hl hi hF.2.1 (fun h => absurd h hnew) (fun _ => he) i 0 (by omega) _ ?_
 rw [decide_eq_true_eq, rd_get]; exact ⟨fun h => ⟨h, fun q hq => by omega⟩, fun h => h.1⟩}}
theorem cells_le {k g : Nat} {C : List Nat} {R : List Int} {L : List Nat} (hk : 1 ≤ k) (hA : Asg k g C R (L.foldl put 0)) {F : List Int} (hF : CellsL R R.length F) : F.length ≤ L.length - k := by
 have hgv : ∀ q, (L.foldl put 0).testBit q = true ↔ q ∈ L := fun q => by rw [FlowM.puts_list, Nat.zero_testBit]; simp
 have hx : ∀ x ∈ F, ∃ q ∈ L, R.getD q 0 = x ∧ x < 0 := by {
 intro x hx
 obtain ⟨h1, b⟩ := hF.2.2 x hx; rw [List.take_length] at b; obtain ⟨q, hq, e⟩ := List.getElem_of_mem b; have D : R.getD q 0 = x := by rw [List.getD_eq_getElem?_getD, List.getElem?_eq_getElem hq, Option.getD_some, e]
 refine ⟨q, (hgv q).1 ?_, D, h1⟩
 cases hb : (L.foldl put 0).testBit q with
 | true => rfl
 | false => have := hA.rest q hb; omega}
 have hin : ∀ t ∈ F.map (idx k), t ∈ List.range' k (L.length - k) := by {
 intro t ht
 obtain ⟨x, hxF, rfl⟩ := List.mem_map.1 ht; obtain ⟨q, hq, rfl, hneg⟩ := hx x hxF; have hge : k ≤ idx k (R.getD q 0) := by unfold idx; rw [if_pos hneg]; omega
 have hlt : idx k (R.getD q 0) + 1 ≤ L.length := reach_le (l := L) (f := fun q => idx k (R.getD q 0)) fun t ht => by {
 by_cases e : t = idx k (R.getD q 0)
 ·exact ⟨q, hq, e.symm⟩
 {
 obtain ⟨p, hp, he⟩ := hA.dense q ((hgv q).2 hq) t (by omega)
 exact ⟨p, (hgv p).1 hp, he⟩}}
 rw [List.mem_range'_1]; omega}
 have hnd : (F.map (idx k)).Nodup := by {
 have hneg : ∀ x ∈ F, x < 0 := fun x hx => (hF.2.2 x hx).1
 have : ∀ F : List Int, F.Nodup → (∀ x ∈ F, x < 0) → (F.map (idx k)).Nodup := by {
 intro F
 induction F with
 | nil => intros; exact List.nodup_nil
 | cons x F ih => (
 intro h1 b
 rw [List.nodup_cons] at h1; rw [List.map_cons, List.nodup_cons]; refine ⟨fun hm => ?_, ih h1.2 (fun y hy => b y (List.mem_cons_of_mem _ hy))⟩
 obtain ⟨y, hy, e⟩ := List.mem_map.1 hm; have z := b x List.mem_cons_self; have B := b y (List.mem_cons_of_mem _ hy); unfold idx at e
 rw [if_pos z, if_pos B] at e; have : x = y := by omega
 exact h1.1 (this ▸ hy))}
 exact this F hF.1 hneg}
 have := nodup_le hnd hin
 rw [List.length_map, List.length_range'] at this; exact this
def Occurs (N : List S69) (r : Int) : Prop := ∃ n ∈ N, (∃ y ∈ n.f0, uses y r = true ∨ sets y r = true) ∨ (n.f1 = 1 ∧ n.f2 = r)
theorem scan_occ {n : S69} {r : Int} {out : Bool} : ∀ l : List S71, scan n r out l = true → (∃ y ∈ l, uses y r = true) ∨ (n.f1 = 1 ∧ n.f2 = r) ∨ out = true
 | [], h => by {
 rw [scan, Bool.or_eq_true, Bool.and_eq_true, beq_iff_eq, beq_iff_eq] at h; rcases h with h | h
 ·exact .inr (.inl h)
 ·exact .inr (.inr h)}
 | y :: l, h => by {
 rw [scan] at h; split at h
 ·rename_i hu; exact .inl ⟨y, List.mem_cons_self, hu⟩
 {
 split at h
 ·cases h
 {
 rcases scan_occ l h with ⟨z, hz, hu⟩ | b
 ·exact .inl ⟨z, List.mem_cons_of_mem _ hz, hu⟩
 ·exact .inr b}}}
theorem live_occ {N : List S69} {r : Int} {i : Nat} (h : Live N r i) : Occurs N r := by
 induction h with
 | gen hi hs => (
 rcases scan_occ _ hs with ⟨y, hy, hu⟩ | b | b
 ·exact ⟨_, List.getElem_mem hi, .inl ⟨y, hy, .inl hu⟩⟩
 ·exact ⟨_, List.getElem_mem hi, .inr b⟩
 ·cases b)
 | pass _ _ _ _ ih => exact ih
theorem liveAt_occ {N : List S69} {r : Int} {i k : Nat} (h : LiveAt N r i k) : Occurs N r := by
 obtain ⟨hi, out, ho, hs⟩ := h; rcases scan_occ _ hs with ⟨y, hy, hu⟩ | b | b
 ·exact ⟨_, List.getElem_mem hi, .inl ⟨y, List.mem_of_mem_drop hy, .inl hu⟩⟩
 ·exact ⟨_, List.getElem_mem hi, .inr b⟩
 ·obtain ⟨m, _, hm⟩ := ho b; exact live_occ hm
theorem clash_occ {N : List S69} {a b : Int} (h : Clash N a b) : Occurs N a := by
 rcases h with ⟨h, _⟩ | ⟨i, k, hi, hk, ⟨h, _⟩ | ⟨_, h⟩⟩
 ·exact live_occ h
 ·exact ⟨_, List.getElem_mem hi, .inl ⟨_, List.getElem_mem hk, .inr h⟩⟩
 ·exact liveAt_occ h
theorem occI_bit {m : Nat} {y : S71} (hf : Fine m y) (s r : Nat) : (occI s y).testBit r = true ↔ (s.testBit r = true ∨ uses y (r : Int) = true ∨ sets y (r : Int) = true) := by
 unfold occI putsI
 rw [FlowM.puts_bit _ _ _ (fun q hq => (FlowM.useList_fine hf q hq).1), Bool.or_eq_true, decide_eq_true_eq, FlowM.mem_useList hf]
 unfold sets
 rw [FlowM.defs_hasD hf]; by_cases hd : hasD y.f0 = true
 {
 have := hf.2.2.1 hd
 rw [if_pos hd, FlowM.put_bit, hd, Bool.true_and, Bool.or_eq_true, decide_eq_true_eq, beq_iff_eq]; rw [show y.f2.toNat = r ↔ y.f2 = (r : Int) by omega]
 constructor
 {
 rintro ((h | h) | h)
 ·exact .inl h
 ·exact .inr (.inr h)
 ·exact .inr (.inl h)}
 {
 rintro (h | h | h)
 ·exact .inl (.inl h)
 ·exact .inr h
 ·exact .inl (.inr h)}}
 ·rw [if_neg hd, Bool.eq_false_iff.2 hd, Bool.false_and]; simp
theorem occIs_bit {m : Nat} (r : Nat) : ∀ (l : List S71) (s : Nat), (∀ y ∈ l, Fine m y) → ((l.foldl occI s).testBit r = true ↔ (s.testBit r = true ∨ ∃ y ∈ l, uses y (r : Int) = true ∨ sets y (r : Int) = true))
 | [], s, _ => by simp
 | y :: l, s, h => by
  rw [List.foldl_cons, occIs_bit r l _ (fun z hz => h z (List.mem_cons_of_mem _ hz)), occI_bit (h y List.mem_cons_self)]
  simp only [List.mem_cons, exists_eq_or_imp, or_assoc]
theorem occNs_bit {m n : Nat} (r : Nat) : ∀ (l : List S69) (s : Nat), (∀ x ∈ l, FineNd m n x) → ((l.foldl occN s).testBit r = true ↔ (s.testBit r = true ∨ ∃ x ∈ l, (∃ y ∈ x.f0, uses y (r : Int) = true ∨ sets y (r : Int) = true) ∨ (x.f1 = 1 ∧ x.f2 = (r : Int))))
 | [], s, _ => by simp
 | x :: l, s, h => by {
 have hx := h x List.mem_cons_self; have e : (occN s x).testBit r = true ↔ (s.testBit r = true ∨ (∃ y ∈ x.f0, uses y (r : Int) = true ∨ sets y (r : Int) = true) ∨ (x.f1 = 1 ∧ x.f2 = (r : Int))) := by {
 unfold occN
 by_cases h1 : x.f1 = 1
 {
 have := hx.2.1 h1
 rw [if_pos h1, FlowM.put_bit, Bool.or_eq_true, decide_eq_true_eq, occIs_bit r _ _ hx.1, or_assoc]; rw [show x.f2.toNat = r ↔ (x.f1 = 1 ∧ x.f2 = (r : Int)) by constructor <;> intro b <;> omega]}
 ·rw [if_neg h1, occIs_bit r _ _ hx.1]; simp [h1]}
 rw [List.foldl_cons, occNs_bit r l _ (fun z hz => h z (List.mem_cons_of_mem _ hz)), e]
 simp only [List.mem_cons, exists_eq_or_imp, or_assoc]}
theorem occF_bit {m : Nat} {N : List S69} (hF : FineG m N) (r : Nat) : (occF N).testBit r = true ↔ Occurs N (r : Int) := by
 unfold occF Occurs
 rw [occNs_bit r N 0 hF, Nat.zero_testBit]; simp
section
variable {N : List S69} {g : Nat} {R : List Nat} (h0 : 0 < N.length) (hF : FineG g N) (hL : ∀ i, i < N.length → ∀ r : Nat, ((R.getD i 0).testBit r = true ↔ Live N (r : Int) i))
include hF hL h0
theorem right_true {kk : Nat} (hk : 1 ≤ kk) {out : List Int} (hA : Asg kk g (clashF g N R) out ((listOf (occF N) g).foldl put 0)) : rightB out (kk : Int) (clashF g N R) g = true := by
 have hgv : ∀ q, ((listOf (occF N) g).foldl put 0).testBit q = true ↔ (q < g ∧ (occF N).testBit q = true) := fun q => by rw [FlowM.puts_list, Nat.zero_testBit, mem_listOf]; simp
 have hcc := clashF_clash (R := R) hF h0 hL; unfold rightB
 rw [Bool.and_eq_true, List.all_eq_true, List.all_eq_true]; constructor
 {
 intro p hp
 obtain ⟨q, hq, e⟩ := List.getElem_of_mem hp; have z : out.getD q 0 = p := by rw [List.getD_eq_getElem?_getD, List.getElem?_eq_getElem hq, Option.getD_some, e]
 unfold okP
 rw [Bool.and_eq_true, decide_eq_true_eq, decide_eq_true_eq]; cases hb : ((listOf (occF N) g).foldl put 0).testBit q with
 | false => have := hA.rest q hb; omega
 | true => (
 obtain ⟨_, C, B⟩ := hA.given q hb; rw [← z, B]; unfold placeOf
 split <;> omega)}
 {
 intro r hr
 rw [List.all_eq_true]; intro q hq
 have b := List.mem_range.1 hr; obtain ⟨l, y⟩ := mem_listOf.1 hq; obtain ⟨_, hcl⟩ := (hcc r q b l).1 y; have hgr := (hgv r).2 ⟨b, (occF_bit hF r).2 (clash_occ hcl)⟩; have hgq := (hgv q).2 ⟨l, (occF_bit hF q).2 (clash_occ hcl.symm)⟩; have := hA.apart q r hgq hgr y
 rw [Bool.not_eq_true', beq_eq_false_iff_ne]; exact fun e => this e.symm}
theorem assign_cases {kk : Nat} (hk : 1 ≤ kk) : (∃ out, assignF kk g (clashF g N R) (listOf (occF N) g) (List.replicate g 0) 0 = some out ∧ Asg kk g (clashF g N R) out ((listOf (occF N) g).foldl put 0)) ∨ (assignF kk g (clashF g N R) (listOf (occF N) g) (List.replicate g 0) 0 = none ∧ kk + 64 < (listOf (occF N) g).length) := by
 have hcc := clashF_clash (R := R) hF h0 hL; have hcl := clashF_len g N R; have hz : ∀ q, g ≤ q → (clashF g N R).getD q 0 = 0 := fun q hq => by rw [List.getD_eq_getElem?_getD, List.getElem?_eq_none (by omega)]; rfl
 have hnd : (listOf (occF N) g).Nodup := List.Nodup.sublist List.filter_sublist List.nodup_range
 obtain ⟨h1, l⟩ := assignF_spec (k := kk) (regs := g) (C := clashF g N R) hk
  (fun r hr => by
   cases hb : ((clashF g N R).getD r 0).testBit r with
   | false => rfl
   | true => exact absurd rfl ((hcc r r hr hr).1 hb).1)
  (fun q r hq hr h => (hcc r q hr hq).2 ⟨fun e => ((hcc q r hq hr).1 h).1 e.symm, ((hcc q r hq hr).1 h).2.symm⟩)
  (listOf (occF N) g) (List.replicate g 0) 0 (fun r hr => (mem_listOf.1 hr).1) hnd (fun r _ => Nat.zero_testBit r)
  (fun q r hr h => by
   rcases Nat.lt_or_ge q g with b | b
   ·exact b
   ·rw [hz q b, Nat.zero_testBit] at h; cases h) Asg.nil
 cases hA : assignF kk g (clashF g N R) (listOf (occF N) g) (List.replicate g 0) 0 with
 | some out => exact .inl ⟨out, rfl, h1 out hA⟩
 | none => (
 obtain ⟨out', g', r, hAs, hsub, hr, hgr, hall⟩ := l hA; refine .inr ⟨rfl, ?_⟩
 have hle : kk + 64 ≤ ((listOf (occF N) g).filter fun q => g'.testBit q).length := reach_le (f := fun q => idx kk (out'.getD q 0)) fun t ht => by {
 obtain ⟨q, hq, e⟩ := hall t ht; refine ⟨q, ?_, e⟩
 have b := hsub q hq; rw [FlowM.puts_list, Nat.zero_testBit] at b; exact List.mem_filter.2 ⟨b.resolve_left (by simp), hq⟩}
 have hlt : ((listOf (occF N) g).filter fun q => g'.testBit q).length < (listOf (occF N) g).length := List.length_filter_lt_length_iff_exists.2 ⟨r, hr, by rw [hgr]; simp⟩
 omega)
end
theorem assigns_ev (nm : ByteArray) {ps : List S83} {ar : List S85} {rg : Int} {N : List S69} (hB : Big ps ar N) (hI : Ints N) (kk : Int) : Evt (fun k => l11_AllocAssigns.f k nm ps ar rg N kk) true := by
 unfold l11_AllocAssigns.f
 rcases flow_cases nm rg hB hI with hw | ⟨hs, hw, e, he, hE, hA⟩ | ⟨hs, hw, hE, hA, hV, hFV, I, hnp⟩
 {
 refine Evt.bind hw (Evt.pos (by trivial) ?_)
 rw [aw_ev]; exact Evt.const _}
 {
 refine Evt.bind hw (Evt.neg (by simp) ?_)
 have hR : Evt (fun k => alloc_Assign.f k nm ps ar rg N kk) ([], e) := by {
 unfold alloc_Assign.f
 exact Evt.bind hA (Evt.neg he (Evt.const _))}
 refine Evt.bind hR (Evt.bind hE (Evt.neg he (Evt.succ ?_)))
 simp only [l11_AllocAssigns.j0]
 refine Evt.neg (by simp) (Evt.succ ?_)
 simp only [l11_AllocAssigns.j1]
 refine Evt.neg he (Evt.pos (by trivial) (Evt.pos (by trivial) ?_))
 rw [aw_ev]; exact Evt.const _}
 {
 refine Evt.bind hw (Evt.neg (by simp) ?_)
 by_cases hbad : kk < 1 ∨ 13 < kk
 {
 have hR : Evt (fun k => alloc_Assign.f k nm ps ar rg N kk) ([], 6) := by {
 unfold alloc_Assign.f
 exact Evt.bind hA (Evt.pos (by trivial) (Evt.pos hbad (Evt.const _)))}
 have hj : Evt (fun k => l11_AllocAssigns.j0 k kk [] 6 0 true nm ps ar rg N) true := by {
 refine Evt.succ ?_
 simp only [l11_AllocAssigns.j0]
 refine Evt.pos (by trivial) (Evt.succ ?_)
 simp only [l11_AllocAssigns.j1]
 refine Evt.neg (by omega) (Evt.pos (by trivial) (Evt.pos (by trivial) ?_))
 rw [aw_ev]; exact Evt.const _}
 refine Evt.bind hR (Evt.bind hE (Evt.pos (by trivial) ?_))
 by_cases G : kk < 1
 ·exact Evt.pos G hj
 {
 refine Evt.neg G ?_
 rw [decide_eq_true (show kk > 13 by omega)]
 exact hj}}
 {
 obtain ⟨R, hR, hRl, _, hL⟩ := live_ev nm rg hs hV hFV; have hsum := hs.sum; have J := hV.r0; have hN : N.length ≤ 400 := by omega
 have hns : ∀ n ∈ N, n.f0.length ≤ 1000 := fun n hn => by {
 have : n.f0.length + wArgs n.f0 ≤ wNds N := sum_mem_le (List.mem_map_of_mem hn)
 omega}
 have hF := hV.fine; have h0 := hV.n0; have harg : ∀ n ∈ N, ∀ y ∈ n.f0, y.f6 = [] := fun n hn y hy => hV.args n hn y hy (hnp n hn y hy)
 obtain ⟨g, rfl⟩ : ∃ g : Nat, rg = (g : Int) := ⟨rg.toNat, by omega⟩
 obtain ⟨q, rfl⟩ : ∃ q : Nat, kk = (q : Int) := ⟨kk.toNat, by omega⟩
 rw [Int.toNat_natCast] at hF; have hg : g ≤ 300 := by omega
 have hj (p : List Int) (e : Int) (h : Evt (fun k => l11_AllocAssigns.j1 k (q : Int) p e 0 nm ps ar (g : Int) N) true) (hAs : Evt (fun k => alloc_Assign.f k nm ps ar (g : Int) N (q : Int)) (p, e)) : Evt (fun k => (alloc_Assign.f k nm ps ar (g : Int) N (q : Int)).bind fun b => ((r11_Error.f k nm ps ar (g : Int) N).bind fun B => (if B = 0 then (if (q : Int) < 1 then (l11_AllocAssigns.j0 k (q : Int) b.1 b.2 B true nm ps ar (g : Int) N) else (l11_AllocAssigns.j0 k (q : Int) b.1 b.2 B (decide ((q : Int) > 13)) nm ps ar (g : Int) N)) else (l11_AllocAssigns.j0 k (q : Int) b.1 b.2 B false nm ps ar (g : Int) N)))) true := by {
 refine Evt.bind hAs (Evt.bind hE (Evt.pos (by trivial) (Evt.neg (by omega) ?_)))
 rw [decide_eq_false (show ¬ (q : Int) > 13 by omega)]
 refine Evt.succ ?_
 simp only [l11_AllocAssigns.j0]
 exact Evt.neg (by simp) h}
 obtain ⟨z, E, C⟩ := markNds_ev (g := g) (n := N.length) N 0 (List.replicate g false) (fun x hx => ⟨hF x hx, harg x hx⟩) ⟨by simp, fun r hr => by rw [Nat.zero_testBit, List.getD_eq_getElem?_getD, List.getElem?_replicate]; split <;> rfl⟩
 have hO : Evt (fun k => r11_Occur.f k nm ps ar (g : Int) N) z := by {
 unfold r11_Occur.f
 refine Evt.pos ⟨⟨by omega, by omega⟩, by omega, fun n hn => by have := hns n hn; omega⟩ ?_
 rw [Int.toNat_natCast]; exact E}
 have hM : Evt (fun k => r11_Many.f k z) (((listOf (occF N) g).length : Nat) : Int) := by {
 have := many_ev (z := z) (by rw [C.1]; omega) z.length 0 0 (by omega) (by omega)
 rw [List.drop_zero, occ_count C, Nat.zero_add] at this; exact this}
 have hlen : (listOf (occF N) g).length ≤ 300 := by {
 unfold listOf
 exact Nat.le_trans (List.length_filter_le _ _) (by rw [List.length_range]; omega)}
 have hAs (p : List Int) (e : Int) (h : asgR (q : Int) (g : Int) N R = (p, e)) : Evt (fun k => alloc_Assign.f k nm ps ar (g : Int) N (q : Int)) (p, e) := by {
 unfold alloc_Assign.f
 refine Evt.bind hA (Evt.pos (by trivial) (Evt.neg hbad (Evt.bind hR ?_)))
 rw [h]; exact Evt.const _}
 rcases assign_cases (R := R) h0 hF hL (kk := q) (by omega) with ⟨out, ho, hAsg⟩ | ⟨ho, hbig⟩
 {
 refine hj out 0 ?_ (hAs out 0 (by unfold asgR; rw [Int.toNat_natCast, Int.toNat_natCast, ho]))
 have hrt := right_true (R := R) h0 hF hL (kk := q) (by omega) hAsg
 have hol := hAsg.len; have hbd : ∀ p ∈ out, -9223372036854775808 ≤ p ∧ p ≤ 9223372036854775807 := fun p hp => by {
 have h := hrt; unfold rightB at h
 rw [Bool.and_eq_true, List.all_eq_true] at h; have D := h.1 p hp; unfold okP at D
 rw [Bool.and_eq_true, decide_eq_true_eq, decide_eq_true_eq] at D; omega}
 have hRef := rright_ev nm (ps := ps) (ar := ar) (kk := (q : Int)) (by omega) (by omega) h0 hns hF hL hbd hol
 rw [hrt] at hRef; obtain ⟨F, hFc, hC⟩ := cells_ev (l := out) (by omega) out.length 0 (by omega) [] ⟨List.nodup_nil, by simp, fun x hx => by cases hx⟩
 have hcle := cells_le (by omega) hAsg hFc
 have hRp : Evt (fun k => alloc_Right.f k nm ps ar (g : Int) N out (q : Int)) (true, 0) := by {
 unfold alloc_Right.f
 refine Evt.bind hA (Evt.pos (by trivial) (Evt.neg (by omega) (Evt.bind hR ?_)))
 rw [Int.toNat_natCast, hrt]; exact Evt.const _}
 refine Evt.succ ?_
 simp only [l11_AllocAssigns.j1]
 refine Evt.pos (by trivial) (Evt.bind hO (Evt.pos (by trivial) (Evt.pos (by omega) (Evt.bind hRef (Evt.pos (by trivial) (Evt.bind hC (Evt.bind hM (Evt.succ ?_))))))))
 simp only [l11_AllocAssigns.j2]
 refine Evt.neg ?_ ?_
 {
 rw [decide_eq_true_eq, wrap64_id (by omega) (by omega)]
 unfold mx
 split <;> omega}
 {
 have loop : ∀ (m r : Nat), r + m = g → Evt (fun k => l11_AllocAssigns.l0 k (q : Int) out z (r : Int) nm ps ar (g : Int) N) true := by {
 intro m
 induction m with
 | zero => (
 intro r hr
 refine Evt.succ ?_
 simp only [l11_AllocAssigns.l0]
 refine Evt.neg (by omega) (Evt.bind hRp (Evt.pos (by trivial) (Evt.pos (by trivial) ?_)))
 rw [aw_ev]; exact Evt.const _)
 | succ m ih => (
 intro r hr
 have hrz : r < z.length := by rw [C.1]; omega
 refine Evt.succ ?_
 simp only [l11_AllocAssigns.l0]
 refine Evt.pos (by omega) (Evt.pos (by omega) (Evt.pos (by omega) ?_))
 rw [wrap_succ r (by omega), rdOf_getD, Int.toNat_natCast, C.2 r (by omega)]
 by_cases hb : (N.foldl occN 0).testBit r = true
 ·exact Evt.pos hb (ih (r + 1) (by omega))
 {
 refine Evt.neg hb (Evt.pos (by omega) (Evt.pos ?_ (ih (r + 1) (by omega))))
 rw [rd_get]; apply hAsg.rest
 rw [Bool.eq_false_iff]; intro D
 rw [FlowM.puts_list, Nat.zero_testBit, mem_listOf] at D; rcases D with D | D
 ·cases D
 ·exact hb D.2})}
 exact loop g 0 (by omega)}}
 {
 refine hj [] 5 ?_ (hAs [] 5 (by unfold asgR; rw [Int.toNat_natCast, Int.toNat_natCast, ho]))
 refine Evt.succ ?_
 simp only [l11_AllocAssigns.j1]
 refine Evt.pos (by trivial) (Evt.bind hO (Evt.neg (by omega) (Evt.pos (by trivial) (Evt.pos (by trivial) (Evt.bind hM (Evt.pos ?_ ?_))))))
 ·rw [wrap64_id (by omega) (by omega)]; omega
 ·rw [aw_ev]; exact Evt.const _}}}
theorem assigns_law {nm : ByteArray} {ps : List S83} {ar : List S85} {rg : Int} {N : List S69} {w : World} {b : Option Addr} {l : Nat} {p : Option Addr} {c2 : Nat} {q : Option Addr} {y : Nat}
  (h1 : Kd.C k83 w b ps.length ps) (z : ps.length ≤ l) (E : Kd.C k85 w p ar.length ar) (B : ar.length ≤ c2) (F : Kd.C k69 w q N.length N) (D : N.length ≤ y) (hT : Tab w) (hB : Big ps ar N) (hI : Ints N)
  {kk : Int} (_hk : (Lit.int .i64 kk).wf = true) :
  Calls Tryd.prog 4 #[.agg #[.string nm, .slice b ps.length l, .slice p ar.length c2, .int .i64 rg, .slice q N.length y], .int .i64 kk] w fun e w' => e = .returned (.bool true) ∧ Below w.heap.size w w' := by
 obtain ⟨k, hk⟩ := (assigns_ev nm (rg := rg) hB hI kk).get; exact l11_AllocAssigns.calls k nm b l ps p c2 ar rg q y N kk true w ⟨h1, z, E, B, F, D⟩ hk hT
end Go.Proofs.YtefhpdcafdhcaaaDoor.M
end
