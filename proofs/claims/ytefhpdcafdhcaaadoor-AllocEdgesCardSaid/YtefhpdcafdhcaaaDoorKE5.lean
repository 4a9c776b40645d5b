/- Texts of this claim, cut down to what its theorem uses and laid end to end (wip/shake.py). -/
import Derived.ArgAppend
import Derived.Below
import Derived.BigQuiet
import Derived.ChangeOld
import Derived.ChangeVars
import Derived.Deep.AppendLies
import Derived.Deep.CutBlock
import Derived.Deep.DeepCutAuto
import Derived.Deep.Draws
import Derived.Deep.LoopGhost
import Derived.Deep.MidRow
import Derived.Deep.OwnRows
import Derived.Deep.QuietTactic
import Derived.Deep.RegionHeld3
import Derived.Deep.Slices
import Derived.KernelRfl
import Derived.LaidLaws
import Derived.LaidMore
import Derived.Laws.Bits64b
import Derived.Laws.BitsLemmas
import Derived.Laws.BytesArg
import Derived.Laws.CopyRow
import Derived.Laws.IdiomCopy
import Derived.Laws.MakeOwn
import Derived.Laws.OwnMore
import Derived.Laws.Rows
import Derived.Laws.Slices
import Derived.Laws.StructEq
import Derived.Lay
import Derived.Lib.AppendStr
import Derived.Lib.ConvBytes
import Derived.Lib.LaidTab
import Derived.Maps.AppendAt
import Derived.Maps.OwnOps
import Derived.Maps.OwnSet
import Derived.OpenShut
import Derived.OrdersHeld
import Derived.OwnWalk
import Derived.ProofKit
import Derived.RowKit
import Derived.RowKit3
import Derived.SevenTiedAt
import Derived.Shelf.Strings.Fields
import Derived.ShutString
import Derived.SizedLaws
import Derived.Stop.Joined
import Derived.StringKeys
import Derived.Tactics
import Derived.Test.YtefhpdcafdhcaaaDoorCards
import Derived.Test.YtefhpdcafdhcaaaDoorProg
import Derived.Test.YtefhpdcafdhcaaaDoorRows
import Derived.Test.YtefhpdcafdhcaaaDoorTie
import Derived.WalkKit
import Derived.WideLaws
import Derived.Test.YtefhpdcafdhcaaaDoorKE4
set_option maxHeartbeats 16000000
set_option exponentiation.threshold 3000
set_option maxRecDepth 100000
section
namespace Go.Proofs.YtefhpdcafdhcaaaDoor.S
open Go Go.RowKit Go.Proofs Go.Proofs.YtefhpdcafdhcaaaDoorW.PrintWords Go.Proofs.YtefhpdcafdhcaaaDoorW.PrintLast Go.Proofs.YtefhpdcafdhcaaaDoorW.PrintMore Go.Proofs.YtefhpdcafdhcaaaDoor Go.Proofs.YtefhpdcafdhcaaaDoor.A FlowM
set_option linter.unusedVariables false
set_option linter.unusedSimpArgs false
theorem listC2 (w : World) (g off i n : Nat) (l : List Nat) (s : Nat) (he : off = 32 * i) (hs : SetsAt w g l) (hi : i < l.length) (hn : n ≤ 2048) (hse : l.getD i 0 = s) :
  Calls Tryd.prog 31 #[.pointer (some ⟨g, off, none⟩), .int .i64 (n : Int)] w fun e w' => ∃ v : Value, e = .returned v ∧ Kd.R (Kd.int .i64) 3 w' w.heap.size (fun _ => True) v (regsL s n) ∧ Below w.heap.size w w' := by
 subst he; exact listC w g i n l s hs hi hn hse
abbrev LiveCall (w : World) (v : Value) (n : Nat) (R : List Nat) (nx : List (List Int)) : Prop := ∀ w0, Below w.heap.size w w0 → Calls Tryd.prog 38 #[v] w0 fun e w' => ∃ (g c : Nat) (b : Value), e = .returned (.tuple #[.slice (some ⟨g, 0, none⟩) n c, b]) ∧ w0.heap.size ≤ g ∧ SetsAt w' g R ∧ Kd.S (Kd.slice 3 (Kd.int .i64)) 27 w' w0.heap.size (fun _ => True) b nx ∧ Below w0.heap.size w0 w'
abbrev FitsCall (w : World) (v : Value) (b : Int) : Prop := ∀ w0, Below w.heap.size w w0 → Calls Tryd.prog 29 #[v] w0 fun e w' => e = .returned (.int .i64 b) ∧ Below w0.heap.size w0 w'
theorem intoE (w : World) (nm : ByteArray) (E : Option Addr) (F b : Nat) (G : Option Addr) (I l : Nat) (rg : Int) (J : Option Addr) (L p : Nat) (z : Int) (M : z ≠ 0) (hF : FitsCall w (.agg #[.string nm, .slice E F b, .slice G I l, .int .i64 (rg : Int), .slice J L p]) z) :
  Calls Tryd.prog 16 #[(.agg #[.string nm, .slice E F b, .slice G I l, .int .i64 (rg : Int), .slice J L p])] w fun e w' => e = .returned (.tuple #[.slice none 0 0, .int .i64 z]) ∧ Below w.heap.size w w' := by
 have HFI := a_ hF; clear hF; have S := Tryd.underlying26; have c0 : (z != 0) = true := bne_iff_ne.mpr M
 have c0b : decide (z = 0) = false := decide_eq_false M
 clear M; go_enter Tryd.func16, Tryd.ntmps16
 go_wp2_with (first | ((with_reducible refine gd_ 1 rfl ?_); refine q_box 1 26 #[.string nm, .slice E F b, .slice G I l, .int .i64 (rg : Int), .slice J L p] ?_; intro g1 N w1 B C; have D := a_ B; have q := a_ C; clear N B C; obtain ⟨T, U, V, X, a0⟩ := q_c5 D.out) | (go_at_call 29; (with_reducible refine (HFI.out _ q.out).mono ?_); rintro e w2 ⟨rfl, y⟩; have O := a_ (blk_below D.out y); have R := a_ (below_then q.out q.out.size y); clear y; obtain ⟨a1, a2, a3, a4, a5⟩ := q_c5 O.out))
 (try simp only [Exit.inBlock, Exit.then])
 refine bodyPost_ret (results_tmp2 rfl _ _ _) rfl ?_
 exact ⟨rfl, R.out⟩
theorem outE (w : World) (nm : ByteArray) (E : Option Addr) (F b : Nat) (G : Option Addr) (I l : Nat) (rg : Int) (J : Option Addr) (L p : Nat) (z : Int) (M : z ≠ 0) (hF : FitsCall w (.agg #[.string nm, .slice E F b, .slice G I l, .int .i64 (rg : Int), .slice J L p]) z) :
  Calls Tryd.prog 17 #[(.agg #[.string nm, .slice E F b, .slice G I l, .int .i64 (rg : Int), .slice J L p])] w fun e w' => e = .returned (.tuple #[.slice none 0 0, .int .i64 z]) ∧ Below w.heap.size w w' := by
 have HFI := a_ hF; clear hF; have S := Tryd.underlying26; have c0 : (z != 0) = true := bne_iff_ne.mpr M
 have c0b : decide (z = 0) = false := decide_eq_false M
 clear M; go_enter Tryd.func17, Tryd.ntmps17
 go_wp2_with (first | ((with_reducible refine gd_ 1 rfl ?_); refine q_box 1 26 #[.string nm, .slice E F b, .slice G I l, .int .i64 (rg : Int), .slice J L p] ?_; intro g1 N w1 B C; have D := a_ B; have q := a_ C; clear N B C; obtain ⟨T, U, V, X, a0⟩ := q_c5 D.out) | (go_at_call 29; (with_reducible refine (HFI.out _ q.out).mono ?_); rintro e w2 ⟨rfl, y⟩; have O := a_ (blk_below D.out y); have R := a_ (below_then q.out q.out.size y); clear y; obtain ⟨a1, a2, a3, a4, a5⟩ := q_c5 O.out))
 (try simp only [Exit.inBlock, Exit.then])
 refine bodyPost_ret (results_tmp2 rfl _ _ _) rfl ?_
 exact ⟨rfl, R.out⟩
theorem clashesE (w : World) (nm : ByteArray) (E : Option Addr) (F b : Nat) (G : Option Addr) (I l : Nat) (rg : Int) (J : Option Addr) (L p : Nat) (z : Int) (M : z ≠ 0) (hF : FitsCall w (.agg #[.string nm, .slice E F b, .slice G I l, .int .i64 (rg : Int), .slice J L p]) z) :
  Calls Tryd.prog 18 #[(.agg #[.string nm, .slice E F b, .slice G I l, .int .i64 (rg : Int), .slice J L p])] w fun e w' => e = .returned (.tuple #[.slice none 0 0, .int .i64 z]) ∧ Below w.heap.size w w' := by
 have HFI := a_ hF; clear hF; have S := Tryd.underlying26; have c0 : (z != 0) = true := bne_iff_ne.mpr M
 have c0b : decide (z = 0) = false := decide_eq_false M
 clear M; go_enter Tryd.func18, Tryd.ntmps18
 go_wp2_with (first | ((with_reducible refine gd_ 1 rfl ?_); refine q_box 1 26 #[.string nm, .slice E F b, .slice G I l, .int .i64 (rg : Int), .slice J L p] ?_; intro g1 N w1 B C; have D := a_ B; have q := a_ C; clear N B C; obtain ⟨T, U, V, X, a0⟩ := q_c5 D.out) | (go_at_call 29; (with_reducible refine (HFI.out _ q.out).mono ?_); rintro e w2 ⟨rfl, y⟩; have O := a_ (blk_below D.out y); have R := a_ (below_then q.out q.out.size y); clear y; obtain ⟨a1, a2, a3, a4, a5⟩ := q_c5 O.out))
 (try simp only [Exit.inBlock, Exit.then])
 refine bodyPost_ret (results_tmp2 rfl _ _ _) rfl ?_
 exact ⟨rfl, R.out⟩
theorem rightE (w : World) (nm : ByteArray) (E : Option Addr) (F b : Nat) (G : Option Addr) (I l : Nat) (rg : Int) (J : Option Addr) (L p : Nat) (AP : Option Addr) (nP cP : Nat) (kk : Int) (z : Int) (M : z ≠ 0) (hF : FitsCall w (.agg #[.string nm, .slice E F b, .slice G I l, .int .i64 (rg : Int), .slice J L p]) z) :
  Calls Tryd.prog 9 #[(.agg #[.string nm, .slice E F b, .slice G I l, .int .i64 (rg : Int), .slice J L p]), .slice AP nP cP, .int .i64 kk] w fun e w' => e = .returned (.tuple #[.bool false, .int .i64 z]) ∧ Below w.heap.size w w' := by
 have HFI := a_ hF; clear hF; have S := Tryd.underlying26; have c0 : (z != 0) = true := bne_iff_ne.mpr M
 have c0b : decide (z = 0) = false := decide_eq_false M
 clear M; go_enter Tryd.func9, Tryd.ntmps9
 go_wp2_with (first | ((with_reducible refine gd_ 3 rfl ?_); refine q_box 3 26 #[.string nm, .slice E F b, .slice G I l, .int .i64 (rg : Int), .slice J L p] ?_; intro g1 N w1 B C; have D := a_ B; have q := a_ C; clear N B C; obtain ⟨T, U, V, X, a0⟩ := q_c5 D.out) | (go_at_call 29; (with_reducible refine (HFI.out _ q.out).mono ?_); rintro e w2 ⟨rfl, y⟩; have O := a_ (blk_below D.out y); have R := a_ (below_then q.out q.out.size y); clear y; obtain ⟨a1, a2, a3, a4, a5⟩ := q_c5 O.out))
 (try simp only [Exit.inBlock, Exit.then])
 refine bodyPost_ret (results_tmp2 rfl _ _ _) rfl ?_
 exact ⟨rfl, R.out⟩
theorem assignE (w : World) (nm : ByteArray) (E : Option Addr) (F b : Nat) (G : Option Addr) (I l : Nat) (rg : Int) (J : Option Addr) (L p : Nat) (kk : Int) (z : Int) (M : z ≠ 0) (hF : FitsCall w (.agg #[.string nm, .slice E F b, .slice G I l, .int .i64 (rg : Int), .slice J L p]) z) :
  Calls Tryd.prog 12 #[(.agg #[.string nm, .slice E F b, .slice G I l, .int .i64 (rg : Int), .slice J L p]), .int .i64 kk] w fun e w' => e = .returned (.tuple #[.slice none 0 0, .int .i64 z]) ∧ Below w.heap.size w w' := by
 have HFI := a_ hF; clear hF; have S := Tryd.underlying26; have c0 : (z != 0) = true := bne_iff_ne.mpr M
 have c0b : decide (z = 0) = false := decide_eq_false M
 clear M; go_enter Tryd.func12, Tryd.ntmps12
 go_wp2_with (first | ((with_reducible refine gd_ 2 rfl ?_); refine q_box 2 26 #[.string nm, .slice E F b, .slice G I l, .int .i64 (rg : Int), .slice J L p] ?_; intro g1 N w1 B C; have D := a_ B; have q := a_ C; clear N B C; obtain ⟨T, U, V, X, a0⟩ := q_c5 D.out) | (go_at_call 29; (with_reducible refine (HFI.out _ q.out).mono ?_); rintro e w2 ⟨rfl, y⟩; have O := a_ (blk_below D.out y); have R := a_ (below_then q.out q.out.size y); clear y; obtain ⟨a1, a2, a3, a4, a5⟩ := q_c5 O.out))
 (try simp only [Exit.inBlock, Exit.then])
 refine bodyPost_ret (results_tmp2 rfl _ _ _) rfl ?_
 exact ⟨rfl, R.out⟩
def in.T9 : Bool × List (List Nat × List Nat) := (true, [([], []), ([], []), ([], []), ([1, 2], [1, 2]), ([], []), ([4], [4]), ([3, 5], [3, 5]), ([6], [6]), ([0, 7, 6], [0, 7]), ([8, 8, 0, 1, 2, 3, 4, 5, 6, 7, 8], [0, 8])])
def in.B9 : List Nat := [0, 0, 0, 6, 0, 16, 62, 126, 255, 511]
theorem in.tab9 : rtab .any (opsOf Tryd.f16 9) = in.T9 := by kernel_rfl
theorem in.bits9 : waitsOk in.T9.2 in.B9 = true := by kernel_rfl
theorem intoC (w : World) (nm : ByteArray) (A1 : Option Addr) (n1 p : Nat) (A2 : Option Addr) (n2 q : Nat) (rg : Nat) (A4 : Option Addr) (n4 y : Nat) (R : List Nat) (nx : List (List Int)) (hF : FitsCall w (.agg #[.string nm, .slice A1 n1 p, .slice A2 n2 q, .int .i64 (rg : Int), .slice A4 n4 y]) 0) (hL : LiveCall w (.agg #[.string nm, .slice A1 n1 p, .slice A2 n2 q, .int .i64 (rg : Int), .slice A4 n4 y]) R.length R nx) (hrg : rg ≤ 2048) (hRl : R.length ≤ 1000000) :
  Calls Tryd.prog 16 #[(.agg #[.string nm, .slice A1 n1 p, .slice A2 n2 q, .int .i64 (rg : Int), .slice A4 n4 y])] w fun e w' => ∃ v : Value, e = .returned (.tuple #[v, .int .i64 0]) ∧ Kd.S (Kd.slice 3 (Kd.int .i64)) 27 w' w.heap.size (fun _ => True) v (R.map fun s => regsL s rg) ∧ Below w.heap.size w w' := by
 have HFI := a_ hF; have HLI := a_ hL; have HRG := a_ hrg; have HRL := a_ hRl; clear hF hL hrg hRl; have d8 := Tryd.underlying26; go_enter Tryd.func16, Tryd.ntmps16
 go_wp2_with (first | ((with_reducible refine gd_ 1 rfl ?_); refine q_box 1 26 #[.string nm, .slice A1 n1 p, .slice A2 n2 q, .int .i64 (rg : Int), .slice A4 n4 y] ?_; intro g1 d4 w1 N O; have T := a_ N; have D := a_ O; clear d4 N O; obtain ⟨U, V, X, a0, a1⟩ := q_c5 T.out) | (go_at_call 29; (with_reducible refine (HFI.out _ D.out).mono ?_); rintro e w2 ⟨rfl, E⟩; have a2 := a_ (blk_below T.out E); have F := a_ (below_then D.out D.out.size E); clear E; obtain ⟨a3, a4, a5, a6, a7⟩ := q_c5 a2.out) | (go_at_call 38; (with_reducible refine (HLI.out _ F.out).mono ?_); rintro e w3 ⟨gI, cI, v3, rfl, hgI, hSI, G, I⟩; obtain ⟨A3, c3, rfl⟩ := Kd.S_slice G; have HSI := a_ hSI; have e6 := a_ G; have HGI := a_ hgI; have J := a_ (blk_below a2.out I); have L := a_ (below_then F.out F.out.size I); have a9 := a_ hSI.lt; have d9 := a_ (blk_lt J.out); clear hgI hSI G I; obtain ⟨b0, b1, b2, b3, b4⟩ := q_c5 J.out))
 go_loopg [7, 21] R.length (fun gk v7 d5 wx => ∃ x : Int, d5 = .int .i64 x ∧ Aside0 (∃ j : Nat, x = (j : Int) ∧ j + gk = R.length ∧ Kd.S (Kd.slice 3 (Kd.int .i64)) 27 wx w3.heap.size (fun _ => True) v7 ((R.take j).map fun s => regsL s rg)) ∧ Aside0 (Below w3.heap.size w3 wx))
 case atStart => exact ⟨0, rfl, ⟨0, rfl, by omega, Kd.S_nil _ _ _ _ _⟩, ⟨Below.refl _ _⟩⟩
 case round => (
 clear U V X a0 a1 a3 a4 a5 a6 a7 b0 b1 b2 b3 b4; obtain ⟨x, rfl, ⟨j, hx, hj, hS⟩, HB⟩ := hrel; have BKx := a_ (blk_below J.out HB.out); have HSx : Aside0 (SetsAt wr gI R) := ⟨HSI.out.below HB.out a9.out⟩
 have HO := a_ hS; have HX := a_ hx; have HJ := a_ hj; obtain ⟨e1, e2, e3, b6, e4⟩ := q_c5 BKx.out; cases gk with
 | zero => (
 have c1 : decide (x < (R.length : Int)) = false := decide_eq_false (by omega)
 clear hx hj hS; go_wp2
 (try simp only [Exit.inBlock, Exit.then])
 refine bodyPost_ret (results_tmp2 rfl _ _ _) rfl ?_
 refine ⟨_, rfl, ?_, below_then L.out L.out.size HB.out⟩
 have h_ := Kd.S_lower HO.out L.out.size; rwa [List.take_of_length_le (by have := HJ.out; omega)] at h_)
 | succ gO => (
 have c1 : decide (x < (R.length : Int)) = true := decide_eq_true (by omega)
 have p0 : (0 ≤ x) = True := eq_true (by omega)
 have q0 : (x < (R.length : Int)) = True := eq_true (by omega)
 have hjl : j < R.length := by omega
 have HJL := a_ hjl; have hw : wrap64 (x + 1) = x + 1 := wrap64_id (by omega) (by have := HRL.out; omega)
 obtain ⟨s, hs⟩ : ∃ s, s = R.getD j 0 := ⟨_, rfl⟩; have HSE := a_ hs; have HXT : Aside0 (x.toNat * 32 = 32 * j) := ⟨by omega⟩
 obtain ⟨xs, hxs⟩ : ∃ xs, xs = (R.take j).map fun s => regsL s rg := ⟨_, rfl⟩
 have HLM : Aside0 (xs.length < 5864062014805) := ⟨by rw [hxs, List.length_map, List.length_take]; have := HRL.out; omega⟩
 have HNX : Aside0 ((R.take (j + 1)).map (fun s => regsL s rg) = xs ++ [regsL s rg]) := ⟨by rw [hxs, hs, List.take_add_one, List.map_append, List.getElem?_eq_getElem hjl, getD_atR _ hjl]; rfl⟩
 rw [← hxs] at hS; have HO := a_ hS; clear hx hj hS hs hxs hjl; go_upto_region 9 with (fail)
 refine q_s 10 (S := fun W' => W'.cell? ⟨g1, 3, none⟩ = some (.int .i64 (rg : Int))) b6 (fun l => ?_)
 refine with_tabW in.tab9 in.bits9 (fun b b7 => ?_)
 refine qv_ 0 b ?_
 refine qv_ 1 b ?_
 refine qv_ 2 b ?_
 refine qv_ 3 b ?_
 refine qv_ 4 b ?_
 refine qt_ 5 b b7 l ?_
 refine q_o 6 b (fun K hK => ?_)
 refine goes_ Tryd.func31 (by kernel_rfl) rfl #[.pointer (some ⟨gI, x.toNat * 32, none⟩), .int .i64 (rg : Int)] (by rfl) rfl rfl (by (try simp only [List.map_toArray, List.map_cons, List.map_nil]); first | done | rfl | (simp; done)) ?_
 refine (listC2 _ gI _ j rg R s HXT.out HSx.out.drew HJL.out HRG.out HSE.out.symm).mono ?_
 rintro e w7 ⟨v7, rfl, M, z⟩
 refine ⟨_, rfl, ?_⟩
 have B := a_ (Kd.S_elder' (Kd.S_drew HO.out) (Kd.R_base M) z); have b8 := a_ (below_step (below_drew1 HB.out) z); have HOR := a_ (Kd.R_lower M (below_size (below_drew1 HB.out))); have C := a_ (blk_below (blk_drew BKx.out) z); clear M z; obtain ⟨Ao, co, eo⟩ := Kd.R_slice HOR.out; subst eo; refine q_nk hK.out (q_b C.out 3) (fun l => ?_)
 clear hK K
 refine q_o 7 b (fun K hK => ?_)
 refine value_ (w1 := ?_) (v := ?_) (by rfl) rfl ?_ ?_
 rotate_left 2
 {
 go_simp
 constructor
 ·rfl
 ·rfl}
 refine q_nk hK.out ((blk_cell (blk_alloc C.out _) 3).trans rfl) (fun l => ?_)
 clear hK K
 refine q_o 8 b (fun K hK => ?_)
 refine Kd.S_append_step (Kd.slice 3 (Kd.int .i64)) (w0 := w3) w3.heap.size (by rfl) (.tmp 24) (.tmp 31) 42 27 (.slice none 0 0) 24 rfl Tryd.underlying42 info27 rfl (by decide) (by omega) u7 xs (regsL s rg) [.slice Ao (regsL s rg).length co] (fun _ => True) (fun k_ => some k_ = (.slice Ao (regsL s rg).length co : Value).ownBlock) rfl rfl ?aP (fun k_ hk_ => ((Kd.R_mono (ok' := fun k_ => ((fun _ => True)) k_ ∧ some k_ ≠ (u7 : Value).ownBlock) (Kd.R_apart' (HOR.out) (Kd.S_typed B.out) (by decide)) (fun k_ hk => ⟨trivial, hk.2⟩))).1 k_ hk_.symm) ?aF ?aO ?aB ?aS ?aL ?_
 (case aP => exact Kd.M_row (Kd.R_mono (Kd.R_tight rfl (Kd.R_mono (ok' := fun k_ => ((fun _ => True)) k_ ∧ some k_ ≠ (u7 : Value).ownBlock) (Kd.R_apart' (HOR.out) (Kd.S_typed B.out) (by decide)) (fun k_ hk => ⟨trivial, hk.2⟩))) (fun _ h_ => h_)))
 (case aB => exact b8.out)
 (case aF => exact (fun _ _ => trivial))
 (case aO => exact Kd.S_mono B.out (fun k_ hk => ⟨trivial, fun e_ => hk.2 e_⟩))
 (case aS => exact b8.out.size)
 (case aL => have := HLM.out; omega)
 intro v8 w8 b9 c0 c4 c6
 refine q_nk hK.out ((blk_cell (blk_grown C.out c4 (Kd.S_ne B.out C.out (by decide))) 3).trans rfl) (fun l => ?_)
 clear hK K
 refine qv_ 9 b ?_
 refine done_ (done_of b.out (by kernel_rfl)) ?_
 have d6 := a_ b9; have d7 := a_ c0; clear b9 c0 c4 c6 b b7 l; go_wp2
 go_roundg gO
 case measure => omega
 case rel => exact ⟨x + 1, by go_num, ⟨j + 1, by rw [HX.out]; rfl, by have := HJ.out; omega, by rw [HNX.out]; exact d6.out⟩, ⟨d7.out⟩⟩))
theorem outC (w : World) (nm : ByteArray) (A1 : Option Addr) (n1 E : Nat) (A2 : Option Addr) (n2 F : Nat) (rg : Nat) (A4 : Option Addr) (n4 G : Nat) (R : List Nat) (nx : List (List Int)) (hF : FitsCall w (.agg #[.string nm, .slice A1 n1 E, .slice A2 n2 F, .int .i64 (rg : Int), .slice A4 n4 G]) 0) (hL : LiveCall w (.agg #[.string nm, .slice A1 n1 E, .slice A2 n2 F, .int .i64 (rg : Int), .slice A4 n4 G]) R.length R nx) (hrg : rg ≤ 2048) (hRl : R.length ≤ 1000000) (hRb : ∀ s ∈ R, s < 2 ^ (64 * 32)) (hnl : nx.length = R.length) (hnx : ∀ row ∈ nx, row.length ≤ 1000000 ∧ ∀ q ∈ row, 0 ≤ q ∧ q < (R.length : Int)) :
  Calls Tryd.prog 17 #[(.agg #[.string nm, .slice A1 n1 E, .slice A2 n2 F, .int .i64 (rg : Int), .slice A4 n4 G])] w fun e w' => ∃ v : Value, e = .returned (.tuple #[v, .int .i64 0]) ∧ Kd.S (Kd.slice 3 (Kd.int .i64)) 27 w' w.heap.size (fun _ => True) v ((List.range R.length).map fun i => regsL (after (nx.getD i []) R) rg) ∧ Below w.heap.size w w' := by
 have HFI := a_ hF; have HLI := a_ hL; have HRG := a_ hrg; have HRL := a_ hRl; have HRB := a_ hRb; have HNL := a_ hnl; have a5 := a_ hnx; clear hF hL hrg hRl hRb hnl hnx; have f6 := Tryd.underlying26; go_enter Tryd.func17, Tryd.ntmps17
 go_wp2_with (first | ((with_reducible refine gd_ 1 rfl ?_); refine q_box 1 26 #[.string nm, .slice A1 n1 E, .slice A2 n2 F, .int .i64 (rg : Int), .slice A4 n4 G] ?_; intro g1 e7 w1 a6 a7; have a8 := a_ a6; have L := a_ a7; clear e7 a6 a7; obtain ⟨a9, b0, b1, b2, b3⟩ := q_c5 a8.out) | (go_at_call 29; (with_reducible refine (HFI.out _ L.out).mono ?_); rintro e w2 ⟨rfl, M⟩; have b4 := a_ (blk_below a8.out M); have O := a_ (below_then L.out L.out.size M); clear M; obtain ⟨b5, b6, b7, b8, b9⟩ := q_c5 b4.out) | (go_at_call 38; (with_reducible refine (HLI.out _ O.out).mono ?_); rintro e w3 ⟨gI, cI, v3, rfl, hgI, hSI, T, U⟩; obtain ⟨A3, c3, rfl⟩ := Kd.S_slice T; have HSI := a_ hSI; have e8 := a_ T; have HGI := a_ hgI; have V := a_ (blk_below b4.out U); have X := a_ (below_then O.out O.out.size U); have c0 := a_ hSI.lt; have f7 := a_ (blk_lt V.out); clear hgI hSI T U; obtain ⟨c4, c6, c8, c9, d0⟩ := q_c5 V.out))
 go_loopg [7, 22] R.length (fun gk v7 e9 wx => ∃ x : Int, e9 = .int .i64 x ∧ Aside0 (∃ j : Nat, x = (j : Int) ∧ j + gk = R.length ∧ Kd.S (Kd.slice 3 (Kd.int .i64)) 27 wx w3.heap.size (fun _ => True) v7 ((List.range j).map fun i => regsL (after (nx.getD i []) R) rg)) ∧ Aside0 (Below w3.heap.size w3 wx))
 case atStart => exact ⟨0, rfl, ⟨0, rfl, by omega, Kd.S_nil _ _ _ _ _⟩, ⟨Below.refl _ _⟩⟩
 case round => (
 clear a9 b0 b1 b2 b3 b5 b6 b7 b8 b9 c4 c6 c8 c9 d0; obtain ⟨x, rfl, ⟨j, hx, hj, hS⟩, HB⟩ := hrel; have BKx := a_ (blk_below V.out HB.out); have HSx : Aside0 (SetsAt wr gI R) := ⟨HSI.out.below HB.out c0.out⟩
 have HX := a_ hx; have HJ := a_ hj; obtain ⟨f8, f9, g0, g2, g3⟩ := q_c5 BKx.out; cases gk with
 | zero => (
 have c1 : decide (x < (R.length : Int)) = false := decide_eq_false (by omega)
 have HO := a_ hS; clear hx hj hS; go_wp2
 (try simp only [Exit.inBlock, Exit.then])
 refine bodyPost_ret (results_tmp2 rfl _ _ _) rfl ?_
 refine ⟨_, rfl, ?_, below_then X.out X.out.size HB.out⟩
 have h_ := Kd.S_lower HO.out X.out.size; rwa [show j = R.length by have := HJ.out; omega] at h_)
 | succ gO => (
 have c1 : decide (x < (R.length : Int)) = true := decide_eq_true (by omega)
 have p0 : 0 ≤ x := by omega
 have q0 : (x < (R.length : Int)) = True := eq_true (by omega)
 have qX : x < (nx.length : Int) := by have := HNL.out; omega
 have hjl : j < nx.length := by have := HNL.out; omega
 have hw : wrap64 (x + 1) = x + 1 := wrap64_id (by omega) (by have := HRL.out; omega)
 have hOx := Kd.S_below e8.out HB.out; obtain ⟨adX, AR, cR, e, hrow, hlrow, hCR⟩ := at_L2 (Kd.S_reads' hOx).2.2 x p0 qX; cases e; obtain ⟨row, hrowe⟩ : ∃ row, row = rd_L2 nx x := ⟨_, rfl⟩; rw [← hrowe] at hrow hlrow hCR
 have a0 : row = nx.getD j [] := by rw [hrowe, hx]; simp [rd_L2, hjl]
 have a1 := a5.out row (by rw [a0, List.getD_eq_getElem?_getD, List.getElem?_eq_getElem hjl]; exact List.getElem_mem _)
 have HRQ := a_ a1.2; have HRN := a_ a1.1; have HCR := a_ hCR; obtain ⟨s, hs⟩ : ∃ s, s = after row R := ⟨_, rfl⟩; obtain ⟨xs, hxs⟩ : ∃ xs, xs = (List.range j).map fun i => regsL (after (nx.getD i []) R) rg := ⟨_, rfl⟩
 have HLM : Aside0 (xs.length < 5864062014805) := ⟨by rw [hxs, List.length_map, List.length_range]; have := HRL.out; have := HNL.out; omega⟩
 have HNX : Aside0 ((List.range (j + 1)).map (fun i => regsL (after (nx.getD i []) R) rg) = xs ++ [regsL s rg]) := ⟨by rw [hxs, hs, List.range_succ, List.map_append, a0]; rfl⟩
 have HSE := a_ hs; rw [← hxs] at hS; have HO := a_ hS; replace p0 := eq_true p0; replace qX := eq_true qX; clear hx hj hS hs hxs hjl hOx hrowe hlrow hCR a0 a1; go_wp2_with (first | (go_at_call 39; (with_reducible refine (afterC _ row AR cR gI R _ HCR.out HSx.out HRB.out HRQ.out HRN.out).mono ?_); rintro e i2 ⟨rfl, y⟩; have d1 := a_ (Kd.S_below HO.out y); have z := a_ (below_then HB.out HB.out.size y); have I := a_ (blk_below BKx.out y); clear y) | ((with_reducible refine gd_ 9 rfl ?_); refine box_event ?hg (N := 9) ?hd (cs := (cellsL [0]).toArray) (t := 59) ?hr ?_; (case hd => rfl); (case hg => rfl); (case hr => rw [← zero_cells]; first | (go_simp; done) | (go_simp; rfl)); intro gA hgA f1 hSA hbA; have HSA := a_ (show SetsAt f1 gA [0] from hSA); have HGA : Aside0 (w3.heap.size ≤ gA) := ⟨by rw [hgA]; exact z.out.size⟩; have HNA : Aside0 (g1 ≠ gA) := ⟨by have := blk_lt I.out; omega⟩; have d2 := a_ (Kd.S_below d1.out hbA); have d3 := a_ (below_then z.out z.out.size hbA); have d4 := a_ (blk_below I.out hbA); clear hgA hSA hbA) | ((with_reducible refine gate_store (t := 59) (p := 9) rfl ?_); refine put_event (g := gA) (i := 0) (off := 0) (l := [0]) (s := after row R) rfl rfl rfl ?hx rfl ?hy HSA.out (by simp) ?_; (case hx => first | rfl | (go_simp; done) | (go_simp; rfl)); (case hy => first | rfl | (go_simp; done) | (go_simp; rfl)); intro f2 hgP hsP; have d5 : Aside0 (SetsAt f2 gA [s]) := ⟨by rw [HSE.out]; exact hsP⟩; have d6 := a_ (S_sets d2.out HSA.out (by decide) hgP); have B := a_ (below_grown d3.out hgP HGA.out); have d7 := a_ (blk_grown d4.out hgP (fun e => HNA.out (Option.some.inj e))); clear hgP hsP; obtain ⟨g4, g5, g6, g7, g8⟩ := q_c5 d7.out) | (go_at_call 31; (with_reducible refine (listC1 _ gA rg s d5.out HRG.out).mono ?_); rintro e i3 ⟨i4, rfl, a2, C⟩; have D := a_ (Kd.S_elder' d6.out (Kd.R_base a2) C); have J := a_ (below_then B.out B.out.size C); have HOR := a_ (Kd.R_lower a2 (below_size B.out)); clear a2 C; obtain ⟨Ao, co, eo⟩ := Kd.R_slice HOR.out; subst eo) | ((with_reducible refine gate_builtin (b := .append) (xs := #[.tmp 31, .tmp 35]) rfl ?_); at_builtin; refine Kd.S_append (Kd.slice 3 (Kd.int .i64)) (w0 := w3) w3.heap.size rfl (.tmp 31) (.tmp 35) 42 27 (.slice none 0 0) 24 rfl Tryd.underlying42 info27 rfl (by decide) (by omega) u7 xs (regsL s rg) [.slice Ao (regsL s rg).length co] (fun _ => True) (fun k_ => some k_ = (.slice Ao (regsL s rg).length co : Value).ownBlock) rfl rfl ?aP (fun k_ hk_ => ((Kd.R_mono (ok' := fun k_ => ((fun _ => True)) k_ ∧ some k_ ≠ (u7 : Value).ownBlock) (Kd.R_apart' (HOR.out) (Kd.S_typed D.out) (by decide)) (fun k_ hk => ⟨trivial, hk.2⟩))).1 k_ hk_.symm) ?aF ?aO ?aB ?aS ?aL ?_; (case aP => exact Kd.M_row (Kd.R_mono (Kd.R_tight rfl (Kd.R_mono (ok' := fun k_ => ((fun _ => True)) k_ ∧ some k_ ≠ (u7 : Value).ownBlock) (Kd.R_apart' (HOR.out) (Kd.S_typed D.out) (by decide)) (fun k_ hk => ⟨trivial, hk.2⟩))) (fun _ h_ => h_))); (case aB => exact J.out); (case aF => exact (fun _ _ => trivial)); (case aO => exact Kd.S_mono D.out (fun k_ hk => ⟨trivial, fun e_ => hk.2 e_⟩)); (case aS => exact J.out.size); (case aL => have := HLM.out; omega); intro v8 i5 d8 d9 f3 e0; have f4 := a_ d8; have f5 := a_ d9; clear d8 d9 f3 e0))
 go_roundg gO
 case measure => omega
 case rel => exact ⟨x + 1, by go_num, ⟨j + 1, by rw [HX.out]; rfl, by have := HJ.out; omega, by rw [HNX.out]; exact f4.out⟩, ⟨f5.out⟩⟩))
theorem putC2 (w : World) (g off i : Nat) (x : Int) (l : List Nat) (he : off = 32 * i) (hs : SetsAt w g l) (hi : i < l.length) (b : 0 ≤ x) (h1 : x < 2048) :
  Calls Tryd.prog 36 #[.pointer (some ⟨g, off, none⟩), .int .i64 x] w fun e w' => e = .returned (.tuple #[]) ∧ w.grownBy w' (some g) ∧ SetsAt w' g (l.set i (put (l.getD i 0) x.toNat)) := by
 subst he; exact putC w g i x l hs hi b h1
theorem meet1_take (r : Nat) (C : List Nat) {L : List Nat} {j : Nat} (hj : j < L.length) : (L.take (j + 1)).foldl (meet1 r) C = meet1 r ((L.take j).foldl (meet1 r) C) L[j] := by
 rw [List.take_add_one, List.foldl_append, List.getElem?_eq_getElem hj]; rfl
theorem meets1_len (r : Nat) : ∀ (L : List Nat) (C : List Nat), (L.foldl (meet1 r) C).length = C.length
 | [], _ => rfl
 | q :: L, C => by rw [List.foldl_cons, meets1_len r L, meet1_len]
theorem apart59 {w : World} {g g' : Nat} {cs : Array Value} {t : TypeId} {p : Nat × Nat} {l : List Nat} (h : w.heap[g]? = some (.cells cs t p)) (hs : SetsAt w g' l) (ht : t ≠ 59) : g ≠ g' := by
 rintro rfl
 have := h.symm.trans hs
 simp only [Option.some.injEq, Obj.cells.injEq] at this
 exact ht this.2.1
theorem meetC (w : World) (nm : ByteArray) (A1 : Option Addr) (n1 a2 : Nat) (A2 : Option Addr) (n2 a3 : Nat) (rg : Nat) (A4 : Option Addr) (n4 a4 : Nat) (r : Int) (rn s : Nat) (g1 gB gC cO : Nat) (C : List Nat) (hr : r = (rn : Int)) (hrn : rn < rg) (hrg : rg ≤ 2048) (hCl : C.length = rg)
  (B : w.heap[g1]? = some (.cells #[.string nm, .slice A1 n1 a2, .slice A2 n2 a3, .int .i64 (rg : Int), .slice A4 n4 a4] 26 (0, 0))) (hBO : w.heap[gB]? = some (.cells #[.slice (some ⟨gC, 0, none⟩) rg cO] 55 (0, 0))) (hSC : SetsAt w gC C) :
  Calls Tryd.prog 51 #[.int .i64 r, setV s, .pointer (some ⟨g1, 0, none⟩), .pointer (some ⟨gB, 0, none⟩)] w fun e w' => e = .returned (.tuple #[]) ∧ w.grownBy w' (some gC) ∧ SetsAt w' gC (meet rg C rn s) := by
 have d7 : Aside0 (g1 ≠ gC) := ⟨apart59 B hSC (by decide)⟩
 have HNO : Aside0 (gB ≠ gC) := ⟨apart59 hBO hSC (by decide)⟩
 obtain ⟨L, hL⟩ : ∃ L, L = listOf s rg := ⟨_, rfl⟩; obtain ⟨us, hus⟩ : ∃ us, us = regsL s rg := ⟨_, rfl⟩; have HUS : Aside0 (us = L.map Int.ofNat) := ⟨by rw [hus, hL]; rfl⟩
 have HUSE := a_ hus; have HLE := a_ hL; have HLL : Aside0 (us.length = L.length) := ⟨by rw [HUS.out, List.length_map]⟩
 have HUN : Aside0 (us.length ≤ rg) := ⟨by rw [hus]; exact regsL_len s rg⟩
 have HRG := a_ hrg; have HRN := a_ hr; have HRR := a_ hrn; have HCL := a_ hCl; have a6 := a_ B; have HBO := a_ hBO; have HSC := a_ hSC; have F : Aside0 (0 ≤ r) := ⟨by omega⟩
 have a7 : Aside0 (r < 2048) := ⟨by omega⟩
 clear hL hus hr hrn hrg hCl B hBO hSC; have c4 := Tryd.underlying26; go_enter Tryd.func51, Tryd.ntmps51
 go_wp2_with (first | ((with_reducible refine gd_ 5 rfl ?_); refine box_event ?hg (N := 5) ?hd (cs := (cellsL [s]).toArray) (t := 59) ?hr ?_; (case hd => rfl); (case hg => rfl); (case hr => first | (go_simp; done) | (go_simp; rfl)); intro gA hgA w1 hxA hbA; have HSA := a_ (show SetsAt w1 gA [s] from hxA); have HBA := a_ hbA; have G := a_ (blk_below a6.out hbA); have BKO := a_ (blk_below HBO.out hbA); have y := a_ (HSC.out.below hbA HSC.out.lt); clear hgA hxA hbA; obtain ⟨I, J, M, O, S⟩ := q_c5 G.out) | (go_at_call 31; (with_reducible refine (listC1 _ gA rg s HSA.out HRG.out).mono ?_); rintro e w2 ⟨v2, rfl, D, b⟩; obtain ⟨Av, cv, rfl⟩ := Kd.R_slice D; have E := a_ D; have d8 := a_ (blk_below G.out b); have T := a_ (blk_below BKO.out b); have U := a_ (y.out.below b y.out.lt); have a8 := a_ (below_then HBA.out HBA.out.size b); clear D b))
 (try rw [← HUSE.out])
 have E : Aside0 (Kd.R (Kd.int .i64) 3 w2 w1.heap.size (fun _ => True) (.slice Av us.length cv) us) := ⟨by have h_ := E.out; rw [← HUSE.out] at h_; exact h_⟩
 go_loopg [12] us.length (fun gk a9 wx => ∃ x : Int, a9 = .int .i64 x ∧ Aside0 (∃ j : Nat, x = (j : Int) ∧ j + gk = us.length ∧ SetsAt wx gC ((L.take j).foldl (meet1 rn) C)) ∧ Aside0 (w2.grownBy wx (some gC)) ∧ Aside0 (Kd.R (Kd.int .i64) 3 wx w1.heap.size (fun _ => True) (.slice Av us.length cv) us))
 case atStart => exact ⟨0, rfl, ⟨0, rfl, by omega, U.out⟩, ⟨⟨rfl, rfl, rfl, Nat.le_refl _, fun _ _ _ => rfl⟩⟩, E⟩
 case round => (
 clear I J M O S; obtain ⟨x, rfl, ⟨j, hx, hj, hS⟩, HG, HR⟩ := hrel; have HX := a_ hx; have HJ := a_ hj; have BKOx := a_ (blk_grown T.out HG.out (fun e => HNO.out (Option.some.inj e)))
 have c8 := q_c1 BKOx.out; cases gk with
 | zero => (
 have c1 : decide (x < (us.length : Int)) = false := decide_eq_false (by omega)
 have HS := a_ hS; clear hx hj hS; go_wp2
 (try simp only [Exit.inBlock, Exit.then])
 refine bodyPost_end (results_none rfl _ _ _) rfl ?_
 refine ⟨rfl, grown_then (grown_of a8.out) HG.out, ?_⟩
 have h_ := HS.out; rw [List.take_of_length_le (by have := HJ.out; have := HLL.out; omega), HLE.out] at h_
 exact h_)
 | succ gO => (
 have c1 : decide (x < (us.length : Int)) = true := decide_eq_true (by omega)
 have hjl : j < us.length := by omega
 have hjL : j < L.length := by have := HLL.out; omega
 have p0 : 0 ≤ x := by omega
 have q0 : x < (us.length : Int) := by omega
 obtain ⟨ad, e, hcu⟩ := Kd.at_int (Kd.R_reads' HR.out).2.2 x p0 q0; cases e; obtain ⟨u, hu⟩ : ∃ u, u = rd us x := ⟨_, rfl⟩; rw [← hu] at hcu; obtain ⟨q, hq⟩ : ∃ q, q = L[j] := ⟨_, rfl⟩; have hmem := mem_listOf.1 (show q ∈ listOf s rg by rw [← HLE.out, hq]; exact List.getElem_mem _)
 have huq : u = (q : Int) := by rw [hu, hx, hq]; simp [rd, HUS.out, hjL]
 have HUQ := a_ huq; have V : Aside0 (0 ≤ u) := ⟨by omega⟩
 have b2 : Aside0 (u < 2048) := ⟨by have := HRG.out; omega⟩
 obtain ⟨Cx, hCx⟩ : ∃ Cx, Cx = (L.take j).foldl (meet1 rn) C := ⟨_, rfl⟩; have HCN : Aside0 ((L.take (j + 1)).foldl (meet1 rn) C = meet1 rn Cx q) := ⟨by rw [meet1_take _ _ hjL, hCx, hq]⟩
 have hlx : Cx.length = C.length := by rw [hCx]; exact meets1_len _ _ _
 have b3 : Aside0 (rn < Cx.length) := ⟨by rw [hlx, HCL.out]; exact HRR.out⟩
 have b4 : Aside0 (q < Cx.length) := ⟨by rw [hlx, HCL.out]; exact hmem.1⟩
 rw [← hCx] at hS; have HSx := a_ hS; have hw : wrap64 (x + 1) = x + 1 := wrap64_id (by omega) (by have := HUN.out; have := HRG.out; omega)
 have hrC : r < (rg : Int) := by have := HRR.out; have := HRN.out; omega
 have huC : u < (rg : Int) := by omega
 have r0 : (0 ≤ r) = True := eq_true F.out
 have u0 : (0 ≤ u) = True := eq_true V.out
 replace hrC := eq_true hrC; replace huC := eq_true huC; replace p0 := eq_true p0; replace q0 := eq_true q0; by_cases hne : u = r
 case pos => (
 have c2 : (u != r) = false := bne_eq_false_iff_eq.mpr hne
 have HE : Aside0 (meet1 rn Cx q = Cx) := ⟨by unfold meet1; rw [if_pos (by have := HRN.out; omega)]⟩
 clear hx hj hS hu hq huq hmem hCx hlx hjl hjL hne; go_wp2
 go_roundg gO
 case measure => omega
 case rel => exact ⟨x + 1, by go_num, ⟨j + 1, by rw [HX.out]; rfl, by have := HJ.out; omega, by rw [HCN.out, HE.out]; exact HSx.out⟩, ⟨HG.out⟩, ⟨HR.out⟩⟩)
 case neg => (
 have c2 : (u != r) = true := bne_iff_ne.mpr hne
 have HE : Aside0 (meet1 rn Cx q = (Cx.set rn (put (Cx.getD rn 0) q)).set q (put ((Cx.set rn (put (Cx.getD rn 0) q)).getD q 0) rn)) := ⟨by unfold meet1; rw [if_neg (by have := HRN.out; omega)]⟩
 have b5 : Aside0 (u.toNat = q) := ⟨by omega⟩
 have b6 : Aside0 (r.toNat = rn) := ⟨by have := HRN.out; omega⟩
 clear hx hj hS hu hq huq hmem hCx hlx hjl hjL hne; go_wp2_with (first | (go_at_call 36; (with_reducible refine (putC2 _ gC _ rn u Cx (by rw [HRN.out]; simp; omega) HSx.out b3.out V.out b2.out).mono ?_); rintro e w5 ⟨rfl, l, X⟩; have b7 := a_ (grown_then HG.out l); have a0 := a_ X; have b8 := a_ (R_sets HR.out HSx.out (by decide) l); have z := a_ (blk_grown BKOx.out l (fun e => HNO.out (Option.some.inj e))); clear l X; have c9 := q_c1 z.out) | (go_at_call 36; (with_reducible refine (putC2 _ gC _ q r _ (by rw [HUQ.out]; simp; omega) a0.out (by rw [List.length_set]; exact b4.out) F.out a7.out).mono ?_); rintro e w6 ⟨rfl, p, a1⟩; have b9 := a_ (grown_then b7.out p); have c0 := a_ a1; have c3 := a_ (R_sets b8.out a0.out (by decide) p); have d0 := a_ (blk_grown z.out p (fun e => HNO.out (Option.some.inj e))); clear p a1))
 go_roundg gO
 case measure => omega
 case rel => exact ⟨x + 1, by go_num, ⟨j + 1, by rw [HX.out]; rfl, by have := HJ.out; omega, by have h_ := c0.out; rw [b5.out, b6.out] at h_; rw [HCN.out, HE.out]; exact h_⟩, ⟨b9.out⟩, ⟨c3.out⟩⟩)))
theorem clashNd_cons (regs : Nat) (C : List Nat) (s : Nat) (x : Ins) (l : List Ins) : clashNd regs C s (x :: l) = (if defs x then meet regs (clashNd regs C s l).1 x.f2.toNat (clashNd regs C s l).2 else (clashNd regs C s l).1, back (clashNd regs C s l).2 x) := rfl
theorem clashNd_len (regs : Nat) (C : List Nat) (s : Nat) : ∀ l, (clashNd regs C s l).1.length = C.length
 | [] => rfl
 | x :: l => by {
 rw [clashNd_cons]; show (if defs x then _ else _ : List Nat).length = _
 split
 ·rw [meet_len, clashNd_len regs C s l]
 ·exact clashNd_len regs C s l}
theorem nodes_take (regs : Nat) (R : List Nat) (C : List Nat) {N : List Nd} {j : Nat} (hj : j < N.length) : (N.take (j + 1)).foldl (clashN regs R) C = clashN regs R ((N.take j).foldl (clashN regs R) C) N[j] := by
 rw [List.take_add_one, List.foldl_append, List.getElem?_eq_getElem hj]; rfl
theorem meets_take (regs s : Nat) (C : List Nat) {L : List Nat} {j : Nat} (hj : j < L.length) : (L.take (j + 1)).foldl (fun C r => meet regs C r s) C = meet regs ((L.take j).foldl (fun C r => meet regs C r s) C) L[j] s := by
 rw [List.take_add_one, List.foldl_append, List.getElem?_eq_getElem hj]; rfl
def cl.T18 : Bool × List (List Nat × List Nat) := (true, [([], []), ([0], [0]), ([], []), ([2], [2]), ([1, 3], [1, 3]), ([4], [4]), ([], [])])
def cl.B18 : List Nat := [0, 1, 0, 4, 15, 31, 0]
theorem cl.tab18 : rtab .any (opsOf Tryd.f30 18) = cl.T18 := by kernel_rfl
theorem cl.bits18 : waitsOk cl.T18.2 cl.B18 = true := by kernel_rfl
theorem clashesC (w : World) (nm : ByteArray) (A1 : Option Addr) (n1 b7 : Nat) (A2 : Option Addr) (n2 b8 : Nat) (rg : Nat) (A4 : Option Addr) (b9 : Nat) (N : List S69) (R : List Nat) (nx : List (List Int)) (o1 : nx = N.map next) (C8 : Kd.C k69 w A4 N.length N) (hL : LiveCall w (.agg #[.string nm, .slice A1 n1 b7, .slice A2 n2 b8, .int .i64 (rg : Int), .slice A4 N.length b9]) R.length R nx) (hrg : rg ≤ 2048) (C9 : 0 < N.length) (hN : N.length ≤ 1000000) (hNs : ∀ n ∈ N, n.f0.length ≤ 1000000) (hF : FineG rg N) (hRl : R.length = N.length) (hRb : ∀ s ∈ R, s < 2 ^ (64 * 32)) :
  Calls Tryd.prog 30 #[(.agg #[.string nm, .slice A1 n1 b7, .slice A2 n2 b8, .int .i64 (rg : Int), .slice A4 N.length b9])] w fun e w' => ∃ (g c : Nat), e = .returned (.slice (some ⟨g, 0, none⟩) rg c) ∧ w.heap.size ≤ g ∧ SetsAt w' g (clashF rg N R) ∧ Below w.heap.size w w' := by
 have HNX := a_ o1; have HLI := a_ hL; have H8 := a_ C8; have HRG := a_ hrg; have H9 := a_ C9; have HN := a_ hN; have HNS := a_ hNs; have HF := a_ hF; have HRL := a_ hRl; have HRB := a_ hRb; have HNL : Aside0 (nx.length = N.length) := ⟨by rw [o1, List.length_map]⟩
 clear o1 hL C8 hrg C9 hN hNs hF hRl hRb; have K2 := Tryd.underlying26; have K3 := Tryd.underlying69; have K4 := Tryd.underlying71; have hmf : ∀ (fn : Fn) (first cap : Array Value) (w : World), (Instr.makeFunc fn first cap).run Tryd.prog w = .ok (.func fn first cap) w := fun _ _ _ _ => rfl
 go_enter Tryd.func30, Tryd.ntmps30
 go_wp2_with (first | ((with_reducible refine gd_ 1 rfl ?_); refine q_box 1 26 #[.string nm, .slice A1 n1 b7, .slice A2 n2 b8, .int .i64 (rg : Int), .slice A4 N.length b9] ?_; intro g1 I0 w1 b5 D0; have D1 := a_ b5; have A7 := a_ D0; clear I0 b5 D0; obtain ⟨D2, D3, D4, D5, D6⟩ := q_c5 D1.out) | ((with_reducible refine gd_ 16 rfl ?_); refine make_event (n := rg) rfl rfl ?hx ?hy rfl (Nat.le_trans HRG.out (by decide)) ?_; (case hx => first | rfl | (go_simp; done) | (go_simp; rfl)); (case hy => first | rfl | (go_simp; done) | (go_simp; rfl)); intro gC w2 hgC D7 A8; have A9 := a_ D7; have LC : Aside0 (w.heap.size ≤ gC) := ⟨Nat.le_trans A7.out.size hgC⟩; have D8 := a_ (blk_below D1.out A8); have B1 := a_ (below_then A7.out A7.out.size A8); clear hgC D7 A8) | ((with_reducible refine gd_ 3 rfl ?_); refine q_box 3 55 #[.slice none 0 0] ?_; intro gB hgB w3 b6 l9; have B2 := a_ b6; have LB : Aside0 (w.heap.size ≤ gB) := ⟨by rw [hgB]; exact B1.out.size⟩; have NCB : Aside0 (gC ≠ gB) := ⟨by have := A9.out.lt; omega⟩; have N1B : Aside0 (g1 ≠ gB) := ⟨by have := blk_lt D8.out; omega⟩; have I1 := a_ (A9.out.below l9 A9.out.lt); have n0 := a_ (blk_below D8.out l9); have y5 := a_ (below_then B1.out B1.out.size l9); clear hgB b6 l9; have hfB := blk_frozen B2.out 0; have D9 : w3.cell? ⟨gB, 0, none⟩ = some (.slice none 0 0) := q_b B2.out 0; have E0 : w3.cell? ⟨g1, 0, none⟩ = some (.string nm) := q_b n0.out 0; have E1 : w3.cell? ⟨g1, 1, none⟩ = some (.slice A1 n1 b7) := q_b n0.out 1; have E2 : w3.cell? ⟨g1, 2, none⟩ = some (.slice A2 n2 b8) := q_b n0.out 2; have E3 : w3.cell? ⟨g1, 3, none⟩ = some (.int .i64 (rg : Int)) := q_b n0.out 3; have E4 : w3.cell? ⟨g1, 4, none⟩ = some (.slice A4 N.length b9) := q_b n0.out 4; have l9 := N1B.out; have hb3b := N1B.out.symm) | (go_at_call 38; (with_reducible refine (HLI.out _ (below_setg y5.out LB.out)).mono ?_); rintro e w4 ⟨gI, cI, v3, rfl, hgI, hSI, B3, o2⟩; obtain ⟨A3, c3, rfl⟩ := Kd.S_slice B3; have I2 := a_ hSI; have I3 := a_ (Kd.S_lower B3 (Below.size (below_setg y5.out LB.out))); have HC3s := a_ (I1.out.far (p := ⟨gB, 0, none⟩) NCB.out (.slice (some ⟨gC, 0, none⟩) rg rg)); have NIC : Aside0 (gI ≠ gC) := ⟨by have := HC3s.out.lt; omega⟩; have I4 := a_ (HC3s.out.below o2 HC3s.out.lt); have B14 := a_ (blk_below (blk_far (p := ⟨gB, 0, none⟩) n0.out N1B.out (.slice (some ⟨gC, 0, none⟩) rg rg)) o2); have I5 := a_ (blk_below (g := gB) (o := .cells #[.slice (some ⟨gC, 0, none⟩) rg rg] 55 (0, 0)) (blk_put (cs := #[.slice none 0 0]) B2.out 0 _ rfl) o2); have I6 := a_ (below_then (below_setg y5.out LB.out) (Below.size (below_setg y5.out LB.out)) o2); clear hgI hSI B3 o2; obtain ⟨E5, E6, E7, E8, E9⟩ := q_c5 B14.out))
 go_loopg [26] N.length (fun gk I7 wx => ∃ x : Int, I7 = .int .i64 x ∧ Aside0 (∃ j : Nat, x = (j : Int) ∧ j + gk = N.length ∧ SetsAt wx gC ((N.take j).foldl (clashN rg R) (List.replicate rg 0))) ∧ Aside0 (SetsAt wx gI R) ∧ Aside0 (Kd.S (Kd.slice 3 (Kd.int .i64)) 27 wx w.heap.size (fun _ => True) (.slice A3 nx.length c3) nx) ∧ Aside0 (wx.heap[g1]? = some (.cells #[.string nm, .slice A1 n1 b7, .slice A2 n2 b8, .int .i64 (rg : Int), .slice A4 N.length b9] 26 (0, 0))) ∧ Aside0 (wx.heap[gB]? = some (.cells #[.slice (some ⟨gC, 0, none⟩) rg rg] 55 (0, 0))) ∧ Aside0 (Below w.heap.size w wx))
 case atStart => exact ⟨0, rfl, ⟨0, rfl, by omega, I4.out⟩, I2, I3, B14, I5, I6⟩
 case round => (
 clear D2 D3 D4 D5 D6 E0 E1 E2 E3 E4 E5 E6 E7 E8 E9 hfB l9 hb3b D9; obtain ⟨x, rfl, ⟨j, hx, hj, hS⟩, HIx, HVx, B1x, BBx, HWx⟩ := hrel; have HX := a_ hx; have HJ := a_ hj; obtain ⟨l4, l5, l6, g6, l7⟩ := q_c5 B1x.out; have hcB : wr.cell? ⟨gB, 0, none⟩ = some (.slice (some ⟨gC, 0, none⟩) rg rg) := q_b BBx.out 0
 cases gk with
 | zero => (
 have c1 : decide (x < (N.length : Int)) = false := decide_eq_false (by omega)
 have HCx : Aside0 (SetsAt wr gC (N.foldl (clashN rg R) (List.replicate rg 0))) := ⟨by rw [List.take_of_length_le (by omega)] at hS; exact hS⟩
 clear hx hj hS; obtain ⟨s0, B6⟩ : ∃ s0, s0 = R.getD 0 0 := ⟨_, rfl⟩; have F0 := a_ B6; obtain ⟨L, hL⟩ : ∃ L, L = listOf s0 rg := ⟨_, rfl⟩; obtain ⟨us, hus⟩ : ∃ us, us = regsL s0 rg := ⟨_, rfl⟩; have HUS : Aside0 (us = L.map Int.ofNat) := ⟨by rw [hus, hL]; rfl⟩
 have HUSE := a_ hus; have HLE := a_ hL; have HLL : Aside0 (us.length = L.length) := ⟨by rw [HUS.out, List.length_map]⟩
 have HUN : Aside0 (us.length ≤ rg) := ⟨by rw [hus]; exact regsL_len s0 rg⟩
 obtain ⟨C0, y6⟩ : ∃ C0, C0 = N.foldl (clashN rg R) (List.replicate rg 0) := ⟨_, rfl⟩; have HC0L : Aside0 (C0.length = rg) := ⟨by rw [y6, clashNs_len, List.length_replicate]⟩
 have HCF : Aside0 (clashF rg N R = L.foldl (fun C r => meet rg C r s0) C0) := ⟨by rw [y6, hL, B6]; rfl⟩
 have HCx : Aside0 (SetsAt wr gC C0) := ⟨by rw [y6]; exact HCx.out⟩
 have y7 : Aside0 (0 < R.length) := ⟨by have := H9.out; have := HRL.out; omega⟩
 have r0 : (0 < R.length) = True := eq_true y7.out
 have r1 : ((0 : Int) < (R.length : Int)) = True := eq_true (by have := y7.out; omega)
 clear B6 hL hus y6; go_upto_region 18 with (fail)
 refine q_s 7 (S := fun W' => W'.cell? ⟨g1, 3, none⟩ = some (.int .i64 (rg : Int))) g6 (fun j3 => ?_)
 refine with_tabW cl.tab18 cl.bits18 (fun e6 F1 => ?_)
 refine qv_ 0 e6 ?_
 refine qv_ 1 e6 ?_
 refine qv_ 2 e6 ?_
 refine qv_ 6 e6 ?_
 refine qt_ 3 e6 F1 j3 ?_
 refine q_o 4 e6 (fun K hK => ?_)
 refine goes_ Tryd.func31 (by kernel_rfl) rfl #[.pointer (some ⟨gI, 0, none⟩), .int .i64 (rg : Int)] (by rfl) rfl rfl (by (try simp only [List.map_toArray, List.map_cons, List.map_nil]); first | done | rfl | (simp; done)) ?_
 refine (listC2 _ gI 0 0 rg R s0 rfl HIx.out.drew y7.out HRG.out F0.out.symm).mono ?_
 rintro e w7 ⟨v7, rfl, y8, j5⟩
 refine ⟨_, rfl, ?_⟩
 rw [← HUSE.out] at y8; have I8 := a_ (HIx.out.drew.below j5 HIx.out.drew.lt); have I9 := a_ (HCx.out.drew.below j5 HCx.out.drew.lt); have B17 := a_ (blk_below (blk_drew B1x.out) j5); have J0 := a_ (blk_below (blk_drew BBx.out) j5); have J1 := a_ (below_step (below_drew1 HWx.out) j5); have J2 := a_ (Kd.S_below (Kd.S_drew HVx.out) j5); obtain ⟨Av, cv, rfl⟩ := Kd.R_slice y8; have J3 := a_ y8; clear y8 j5; refine q_nk hK.out (q_b B17.out 3) (fun j3 => ?_)
 clear hK K
 refine qv_ 5 e6 ?_
 refine done_ (done_of e6.out (by kernel_rfl)) ?_
 clear e6 F1 j3 l4 l5 l6 g6 l7 hcB c1; go_wp2
 go_loopg [76] us.length (fun gk J4 wx => ∃ y : Int, J4 = .int .i64 y ∧ Aside0 (∃ j : Nat, y = (j : Int) ∧ j + gk = us.length ∧ SetsAt wx gC ((L.take j).foldl (fun C r => meet rg C r s0) C0)) ∧ Aside0 (Kd.R (Kd.int .i64) 3 wx wr.drew.heap.size (fun _ => True) (.slice Av us.length cv) us) ∧ Aside0 (SetsAt wx gI R) ∧ Aside0 (Kd.S (Kd.slice 3 (Kd.int .i64)) 27 wx w.heap.size (fun _ => True) (.slice A3 nx.length c3) nx) ∧ Aside0 (wx.heap[g1]? = some (.cells #[.string nm, .slice A1 n1 b7, .slice A2 n2 b8, .int .i64 (rg : Int), .slice A4 N.length b9] 26 (0, 0))) ∧ Aside0 (wx.heap[gB]? = some (.cells #[.slice (some ⟨gC, 0, none⟩) rg rg] 55 (0, 0))) ∧ Aside0 (Below w.heap.size w wx))
 case atStart => exact ⟨0, rfl, ⟨0, rfl, by omega, I9.out⟩, J3, I8, J2, B17, J0, J1⟩
 case round => (
 obtain ⟨y, rfl, ⟨i, hy, hi, hS⟩, HR, HIy, HVy, B1y, BBy, HWy⟩ := hrel; have HY := a_ hy; have HI := a_ hi; have hcB : wr.cell? ⟨gB, 0, none⟩ = some (.slice (some ⟨gC, 0, none⟩) rg rg) := q_b BBy.out 0
 cases gk with
 | zero => (
 have c1 : decide (y < (us.length : Int)) = false := decide_eq_false (by omega)
 have HS := a_ hS; clear hy hi hS; go_wp2
 (try simp only [Exit.inBlock, Exit.then])
 refine bodyPost_ret (results_tmp rfl _ _ _) rfl ?_
 first | refine ⟨gC, ⟨rg, rfl⟩, LC.out, ?_, HWy.out⟩ | refine ⟨gC, rg, rfl, LC.out, ?_, HWy.out⟩
 have h_ := HS.out; rw [List.take_of_length_le (by have := HI.out; have := HLL.out; omega)] at h_
 rw [HCF.out]; exact h_)
 | succ gQ => (
 have c1 : decide (y < (us.length : Int)) = true := decide_eq_true (by omega)
 have hjl : i < us.length := by omega
 have hjL : i < L.length := by have := HLL.out; omega
 have p0 : 0 ≤ y := by omega
 have q0 : y < (us.length : Int) := by omega
 obtain ⟨ad, e, hcu⟩ := Kd.at_int (Kd.R_reads' HR.out).2.2 y p0 q0; cases e; obtain ⟨u, hu⟩ : ∃ u, u = rd us y := ⟨_, rfl⟩; rw [← hu] at hcu; obtain ⟨q, hq⟩ : ∃ q, q = L[i] := ⟨_, rfl⟩; have hmem := mem_listOf.1 (show q ∈ listOf s0 rg by rw [← HLE.out, hq]; exact List.getElem_mem _)
 have huq : u = (q : Int) := by rw [hu, hy, hq]; simp [rd, HUS.out, hjL]
 have HUQ := a_ huq; have HQL := a_ hmem.1; obtain ⟨Cx, hCx⟩ : ∃ Cx, Cx = (L.take i).foldl (fun C r => meet rg C r s0) C0 := ⟨_, rfl⟩
 have HCN : Aside0 ((L.take (i + 1)).foldl (fun C r => meet rg C r s0) C0 = meet rg Cx q s0) := ⟨by rw [meets_take _ _ _ hjL, hCx, hq]⟩
 have HLX : Aside0 (Cx.length = rg) := ⟨by rw [hCx, meets_len]; exact HC0L.out⟩
 rw [← hCx] at hS; have HCy := a_ hS; have hw : wrap64 (y + 1) = y + 1 := wrap64_id (by omega) (by have := HUN.out; have := HRG.out; omega)
 replace p0 := eq_true p0; replace q0 := eq_true q0; clear hy hi hS hu hq huq hmem hCx hjl hjL; go_wp2_with (first | ((with_reducible refine gd_ 84 rfl ?_); refine load_event (g := gI) (i := 0) (off := 0) (l := R) (s := s0) rfl rfl ?hx rfl HIy.out y7.out F0.out.symm ?_; (case hx => first | rfl | (go_simp; done) | (go_simp; rfl))) | (go_at_call 51; (with_reducible refine (meetC _ nm A1 n1 b7 A2 n2 b8 rg A4 N.length b9 u q s0 g1 gB gC rg Cx HUQ.out HQL.out HRG.out HLX.out B1y.out BBy.out HCy.out).mono ?_); rintro e w8 ⟨rfl, b2, F2⟩; have J5 := a_ F2; have J6 := a_ (R_sets HR.out HCy.out (by decide) b2); have J7 := a_ (HIy.out.grown b2 (fun e => NIC.out (Option.some.inj e))); have J8 := a_ (S_sets HVy.out HCy.out (by decide) b2); have B18 := a_ (blk_grown B1y.out b2 (fun e => apart59 B1y.out HCy.out (by decide) (Option.some.inj e))); have J9 := a_ (blk_grown BBy.out b2 (fun e => apart59 BBy.out HCy.out (by decide) (Option.some.inj e))); have K0 := a_ (below_grown HWy.out b2 LC.out); clear b2 F2))
 go_roundg gQ
 case measure => omega
 case rel => exact ⟨y + 1, by go_num, ⟨i + 1, by rw [HY.out]; rfl, by have := HI.out; omega, by rw [HCN.out]; exact J5.out⟩, J6, J7, J8, B18, J9, K0⟩)))
 | succ gO => (
 have c1 : decide (x < (N.length : Int)) = true := decide_eq_true (by omega)
 have hjl : j < N.length := by omega
 have p0 : 0 ≤ x := by omega
 have qN : x < (N.length : Int) := by omega
 have qX : x < (nx.length : Int) := by have := HNL.out; omega
 obtain ⟨adN, A0, c0, e, o4, o5, o6, o7, o8, z2, hCI⟩ := at_T69 H8.out x p0 qN; cases e; obtain ⟨adX, AR, cR, e, hrow, hlrow, hCR⟩ := at_L2 (Kd.S_reads' HVx.out).2.2 x p0 qX; cases e; obtain ⟨D, hnd⟩ : ∃ D, D = rd_T69 N x := ⟨_, rfl⟩; rw [← hnd] at o4 o5 o6 o7 o8 z2 hCI
 have hndl : D = N[j] := by rw [hnd, hx]; simp [rd_T69, hjl]
 have hrl : rd_L2 nx x = next D := by rw [HNX.out, hx, rd_L2_map _ _ hjl, hndl]
 obtain ⟨row, hrowe⟩ : ∃ row, row = next D := ⟨_, rfl⟩; rw [hrl, ← hrowe] at hrow hlrow hCR
 have HROW := a_ hrowe; have HCI := a_ hCI; have HCR := a_ hCR; have hndF : FineNd rg N.length D := HF.out D (by rw [hndl]; exact List.getElem_mem _)
 have HNF := a_ hndF; have HNLEN : Aside0 (D.f0.length ≤ 1000000) := ⟨HNS.out D (by rw [hndl]; exact List.getElem_mem _)⟩
 have HRQ : Aside0 (∀ q ∈ row, 0 ≤ q ∧ q < (R.length : Int)) := ⟨fun q hq => by rw [HRL.out]; exact hndF.2.2 q (by rw [← hrowe]; exact hq)⟩
 have HRN : Aside0 (row.length ≤ 1000000) := ⟨by rw [hrowe]; exact Nat.le_trans (next_len _) (by omega)⟩
 obtain ⟨Cx, hCx⟩ : ∃ Cx, Cx = (N.take j).foldl (clashN rg R) (List.replicate rg 0) := ⟨_, rfl⟩; have HCX : Aside0 (Cx.length = rg) := ⟨by rw [hCx, clashNs_len, List.length_replicate]⟩
 have HNXT : Aside0 ((N.take (j + 1)).foldl (clashN rg R) (List.replicate rg 0) = (clashNd rg Cx (atEnd D (after (next D) R)) D.f0).1) := ⟨by rw [nodes_take _ _ _ hjl, ← hCx, ← hndl]; rfl⟩
 rw [← hCx] at hS; have HCx := a_ hS; have hw : wrap64 (x + 1) = x + 1 := wrap64_id (by omega) (by have := HN.out; omega)
 replace o4 := cell_old o4 HWx.out; replace o5 := cell_old o5 HWx.out; replace o6 := cell_old o6 HWx.out; replace o7 := cell_old o7 HWx.out; replace o8 := cell_old o8 HWx.out; replace p0 := eq_true p0; replace qN := eq_true qN; replace qX := eq_true qX; obtain ⟨l4, l5, l6, g6, l7⟩ := q_c5 B1x.out; clear hx hj hS hnd hndl hrl hrowe hCI hCR hjl hndF z2 hlrow hCx; by_cases hE : D.f1 = 1
 case pos => (
 have c2 : (D.f1 == 1) = true := beq_iff_eq.mpr hE
 have z3 : Aside0 (0 ≤ D.f2 ∧ D.f2 < 2048) := ⟨by have K6 := HNF.out.2.1 hE; have K7 := HRG.out; omega⟩
 have o9 := a_ hE; clear hE; go_wp2_with (first | ((with_reducible refine gd_ 8 rfl ?_); refine q_box 8 69 #[.slice none 0 0, .int .i64 0, .int .i64 0, .int .i64 0, .int .i64 0] ?_; intro g8 b2 w9 p1 j6; have p2 := a_ p1; have e7 := a_ j6; have e8 : Aside0 (wr.heap.size ≤ g8) := ⟨by rw [b2]; exact Nat.le_refl _⟩; have p3 : g8 ≠ g1 := (by have := blk_lt B1x.out; omega); have p4 : g1 ≠ g8 := (by omega); have hra : (adX.add x.toNat).block < wr.heap.size := World.block_lt_of_cell? wr _ hrow; rw [add_block] at hra; have hrd : adX.block ≠ g8 := (by omega); have U : g8 ≠ adX.block := (by omega); have p5 : (⟨g8, 0, none⟩ : Addr) ≠ adX.add x.toNat := (fun e_ => U ((congrArg Addr.block e_).trans (add_block _ _))); have p6 : (⟨g8, 1, none⟩ : Addr) ≠ adX.add x.toNat := (fun e_ => U ((congrArg Addr.block e_).trans (add_block _ _))); have p7 : (⟨g8, 2, none⟩ : Addr) ≠ adX.add x.toNat := (fun e_ => U ((congrArg Addr.block e_).trans (add_block _ _))); have p8 : (⟨g8, 3, none⟩ : Addr) ≠ adX.add x.toNat := (fun e_ => U ((congrArg Addr.block e_).trans (add_block _ _))); have p9 : (⟨g8, 4, none⟩ : Addr) ≠ adX.add x.toNat := (fun e_ => U ((congrArg Addr.block e_).trans (add_block _ _))); have j7 := cell_old hrow j6; clear b2 p1 j6; clear hra; obtain ⟨q1, q2, q3, q4, q5, q6, q7, q8, q9, r2⟩ := q_cf5 p2.out) | (go_at_call 39; (with_reducible refine (afterC _ row AR cR gI R _ ?hn ?hI HRB.out HRQ.out HRN.out).mono ?_); (case hn => exact Kd.C_below HCR.out (by (repeat (with_reducible refine below_setg ?_ e8.out)); exact e7.out)); (case hI => exact HIx.out.below (by (repeat (with_reducible refine below_setg ?_ e8.out)); exact e7.out) HIx.out.lt); rintro e B7 ⟨rfl, c4⟩; have g7 : Below wr.heap.size wr B7 := below_then (by (repeat (with_reducible refine below_setg ?_ e8.out)); exact e7.out) (Below.size (by (repeat (with_reducible refine below_setg ?_ e8.out)); exact e7.out)) c4; have V := a_ g7; have c8 := a_ (HIx.out.below V.out HIx.out.lt); have r3 := a_ (Kd.S_below HVx.out V.out); have r4 := a_ (blk_below B1x.out V.out); have r5 := a_ (blk_below BBx.out V.out); have c9 := a_ (below_then HWx.out HWx.out.size V.out); have d0 := a_ (HCx.out.below V.out HCx.out.lt); have r6 := a_ (blk_below (g := g8) (o := .cells #[.slice A0 D.f0.length c0, .int .i64 D.f1, .int .i64 D.f2, .int .i64 D.f3, .int .i64 D.f4] 69 (0, 0)) (by refine blk_put (cs := #[.slice A0 D.f0.length c0, .int .i64 D.f1, .int .i64 D.f2, .int .i64 D.f3, .int .i64 0]) ?_ 4 _ rfl; refine blk_put (cs := #[.slice A0 D.f0.length c0, .int .i64 D.f1, .int .i64 D.f2, .int .i64 0, .int .i64 0]) ?_ 3 _ rfl; refine blk_put (cs := #[.slice A0 D.f0.length c0, .int .i64 D.f1, .int .i64 0, .int .i64 0, .int .i64 0]) ?_ 2 _ rfl; refine blk_put (cs := #[.slice A0 D.f0.length c0, .int .i64 0, .int .i64 0, .int .i64 0, .int .i64 0]) ?_ 1 _ rfl; refine blk_put (cs := #[.slice none 0 0, .int .i64 0, .int .i64 0, .int .i64 0, .int .i64 0]) ?_ 0 _ rfl; exact p2.out) c4); clear g7 c4) | ((with_reducible refine gd_ 9 rfl ?_); refine box_event ?hg (N := 9) ?hd (cs := (cellsL [0]).toArray) (t := 59) ?hr ?_; (case hd => rfl); (case hg => rfl); (case hr => rw [← zero_cells]; first | (go_simp; done) | (go_simp; rfl)); intro gA hgA C1 hSA hbA; have a2 := a_ (show SetsAt C1 gA [0] from hSA); have LA : Aside0 (w.heap.size ≤ gA) := ⟨by rw [hgA]; exact c9.out.size⟩; have NIA : Aside0 (gI ≠ gA) := ⟨by have := c8.out.lt; omega⟩; have NCA : Aside0 (gC ≠ gA) := ⟨by have := d0.out.lt; omega⟩; have r7 := a_ (c8.out.below hbA c8.out.lt); have r8 := a_ (Kd.S_below r3.out hbA); have g9 := a_ (blk_below r4.out hbA); have i0 := a_ (blk_below r5.out hbA); have r9 := a_ (below_then c9.out c9.out.size hbA); have i1 := a_ (blk_below r6.out hbA); have s2 := a_ (d0.out.below hbA d0.out.lt); clear hgA hSA hbA) | ((with_reducible refine gate_store (t := 59) (p := 9) rfl ?_); refine put_event (g := gA) (i := 0) (off := 0) (l := [0]) (s := after row R) rfl rfl rfl ?hx rfl ?hy a2.out (by simp) ?_; (case hx => first | rfl | (go_simp; done) | (go_simp; rfl)); (case hy => first | rfl | (go_simp; done) | (go_simp; rfl)); intro C2 hgP hsP; have a3 := a_ (show SetsAt C2 gA [after row R] from hsP); have i2 := a_ (r7.out.grown hgP (fun e => NIA.out (Option.some.inj e))); have i3 := a_ (S_sets r8.out a2.out (by decide) hgP); have e4 := a_ (blk_grown g9.out hgP (fun e => apart59 g9.out a2.out (by decide) (Option.some.inj e))); have e5 := a_ (blk_grown i0.out hgP (fun e => apart59 i0.out a2.out (by decide) (Option.some.inj e))); have i4 := a_ (below_grown r9.out hgP LA.out); have b3 := a_ (blk_grown i1.out hgP (fun e => apart59 i1.out a2.out (by decide) (Option.some.inj e))); have i5 := a_ (s2.out.grown hgP (fun e => NCA.out (Option.some.inj e))); clear hgP hsP; obtain ⟨s3, s4, s5, s6, s7⟩ := q_c5 b3.out) | (go_at_call 36; (with_reducible refine (putC1 _ gA D.f2 (after row R) a3.out z3.out.1 z3.out.2).mono ?_); rintro e K9 ⟨rfl, b4, z4⟩; have F3 := a_ z4; have F4 := a_ (i2.out.grown b4 (fun e => NIA.out (Option.some.inj e))); have F5 := a_ (S_sets i3.out a3.out (by decide) b4); have F6 := a_ (blk_grown e4.out b4 (fun e => apart59 e4.out a3.out (by decide) (Option.some.inj e))); have F7 := a_ (blk_grown e5.out b4 (fun e => apart59 e5.out a3.out (by decide) (Option.some.inj e))); have F8 := a_ (below_grown i4.out b4 LA.out); have z5 := a_ (blk_grown b3.out b4 (fun e => apart59 b3.out a3.out (by decide) (Option.some.inj e))); have F9 := a_ (i5.out.grown b4 (fun e => NCA.out (Option.some.inj e))); clear b4 z4; obtain ⟨z6, z7, z8, z9, A5⟩ := q_c5 z5.out))
 have a3 := F3; have i5 := F9; have b3 := z5; have i2 := F4; have i3 := F5; have e4 := F6; have e5 := F7; have i4 := F8; obtain ⟨s1, j8⟩ : ∃ s1, s1 = atEnd D (after row R) := ⟨_, rfl⟩; have C3 := a_ (show SetsAt _ gA [s1] from by rw [j8, atEnd]; first | (rw [if_pos o9.out]; exact a3.out) | (rw [if_neg o9.out]; exact a3.out))
 have HSE := a_ j8; clear j8 c2; clear q1 q2 q3 q4 q5 q6 q7 q8 q9 r2 p3 p4 hrd U p5 p6 p7 p8 p9 j7 l4 l5 l6 g6 l7 hcB o4 o5 o6 o7 o8 hrow qN qX p0; have s8 : wrap64 ((D.f0.length : Int) - 1) = (D.f0.length : Int) - 1 := wrap64_id (by omega) (by have := HNLEN.out; omega)
 go_loopg [10] D.f0.length (fun gz C4 wz => ∃ y : Int, C4 = .int .i64 y ∧ Aside0 (y = (gz : Int) - 1 ∧ gz ≤ D.f0.length ∧ SetsAt wz gC (clashNd rg Cx s1 (D.f0.drop gz)).1 ∧ SetsAt wz gA [(clashNd rg Cx s1 (D.f0.drop gz)).2]) ∧ Aside0 (wz.heap[g8]? = some (.cells #[.slice A0 D.f0.length c0, .int .i64 D.f1, .int .i64 D.f2, .int .i64 D.f3, .int .i64 D.f4] 69 (0, 0))) ∧ Aside0 (SetsAt wz gI R) ∧ Aside0 (Kd.S (Kd.slice 3 (Kd.int .i64)) 27 wz w.heap.size (fun _ => True) (.slice (some adX) nx.length c3) nx) ∧ Aside0 (wz.heap[g1]? = some (.cells #[.string nm, .slice A1 n1 b7, .slice A2 n2 b8, .int .i64 (rg : Int), .slice (some adN) N.length b9] 26 (0, 0))) ∧ Aside0 (wz.heap[gB]? = some (.cells #[.slice (some ⟨gC, 0, none⟩) rg rg] 55 (0, 0))) ∧ Aside0 (Below w.heap.size w wz))
 case atStart => exact ⟨(D.f0.length : Int) - 1, by rw [s8], ⟨rfl, Nat.le_refl _, by rw [List.drop_length]; exact i5.out, by rw [List.drop_length]; exact C3.out⟩, b3, i2, i3, e4, e5, i4⟩
 case round => (
 clear s8 s3 s4 s5 s6 s7; (try clear z6 z7 z8 z9 A5)
 obtain ⟨y, rfl, ⟨hy, hgz, hCz, hAz⟩, B8y, HIy, HVy, B1y, BBy, HWy⟩ := hrel; have HY := a_ hy; cases gk with
 | zero => (
 have c1 : decide (0 ≤ y) = false := decide_eq_false (by omega)
 have HCy := a_ hCz; clear hy hgz hCz hAz; go_wp2
 go_roundg gO
 case measure => omega
 case rel => exact ⟨x + 1, by go_num, ⟨j + 1, by rw [HX.out]; rfl, by have := HJ.out; omega, by have h_ := HCy.out; rw [List.drop_zero, HSE.out, HROW.out] at h_; rw [HNXT.out]; exact h_⟩, HIy, HVy, B1y, BBy, HWy⟩)
 | succ gQ => (
 have c1 : decide (0 ≤ y) = true := decide_eq_true (by omega)
 have hyn : y = (gQ : Int) := by omega
 have hOl : gQ < D.f0.length := hgz
 have p0 : 0 ≤ y := by omega
 have q0 : y < (D.f0.length : Int) := by omega
 obtain ⟨adI, A6, c6, e, e9, b5, f7, b6, f8, f9, g0, d1, j9⟩ := at_T71 HCI.out y p0 q0; cases e; obtain ⟨p, hp⟩ : ∃ p, p = rd_T71 D.f0 y := ⟨_, rfl⟩; rw [← hp] at e9 b5 f7 b6 f8 f9 g0 d1 j9
 have hpl : p = D.f0[gQ] := by rw [hp, hyn]; simp [rd_T71, hOl]
 have hfp := HNF.out.1 p (by rw [hpl]; exact List.getElem_mem _)
 have HGD : Aside0 (Good p) := ⟨fine_good HRG.out hfp⟩
 have g2 := a_ j9; have g3 := a_ d1; have k0 := a_ e9; have k1 := a_ b5; have k2 := a_ f7; have k3 := a_ b6; have k4 := a_ f8; have k5 := a_ f9; have k6 := a_ g0; obtain ⟨Cz, hCze⟩ : ∃ Cz, Cz = (clashNd rg Cx s1 (D.f0.drop (gQ + 1))).1 := ⟨_, rfl⟩; obtain ⟨sz, hsze⟩ : ∃ sz, sz = (clashNd rg Cx s1 (D.f0.drop (gQ + 1))).2 := ⟨_, rfl⟩; have HST : Aside0 (clashNd rg Cx s1 (D.f0.drop gQ) = (if defs p then meet rg Cz p.f2.toNat sz else Cz, back sz p)) := ⟨by rw [List.drop_eq_getElem_cons hOl, clashNd_cons, ← hpl, hCze, hsze]⟩
 have HCZ : Aside0 (Cz.length = rg) := ⟨by rw [hCze, clashNd_len]; exact HCX.out⟩
 rw [← hCze] at hCz; rw [← hsze] at hAz; have HCy := a_ hCz; have HAy := a_ hAz; have HHO := a_ hgz; have HDF : Aside0 (defs p = true → p.f2 = ((p.f2.toNat : Nat) : Int) ∧ p.f2.toNat < rg) := ⟨fun hd => by have := hfp.2.2.1 (by rw [← defs_hasD hfp]; exact hd); omega⟩
 replace e9 := cell_old e9 HWy.out; replace b5 := cell_old b5 HWy.out; replace f7 := cell_old f7 HWy.out; replace b6 := cell_old b6 HWy.out; replace f8 := cell_old f8 HWy.out; replace f9 := cell_old f9 HWy.out; replace g0 := cell_old g0 HWy.out; replace p0 := eq_true p0; replace q0 := eq_true q0; obtain ⟨G0, G1, G2, G3, G4⟩ := q_c5 B8y.out; obtain ⟨d, hd⟩ : ∃ d, defs p = d := ⟨_, rfl⟩; have HD := a_ hd; clear hy hgz hCz hAz hyn hOl hp hpl j9 d1 hCze hsze hfp hd hw; cases d with
 | false => (
 go_wp2_with (first | ((with_reducible refine gd_ 11 rfl ?_); refine q_box 11 71 #[.int .i64 0, .int .i64 0, .int .i64 0, .int .i64 0, .int .i64 0, .int .i32 0, .slice none 0 0] ?_; intro a1 a4 C5 a5 a6; have a7 := a_ a5; have I := a_ a6; have J : Aside0 (wr.heap.size ≤ a1) := ⟨by rw [a4]; exact Nat.le_refl _⟩; have k7 : a1 ≠ g8 := (by have := blk_lt B8y.out; omega); have k8 : g8 ≠ a1 := (by omega); clear a4 a5 a6; obtain ⟨s9, t0, t1, t2, t3, t4, t5, t6, t7, t8, t9, v0, v1, v2⟩ := q_cf7 a7.out) | (go_at_call 52; (with_reducible refine (definesC _ p A6 c6 false ?h6 g3.out HD.out).mono ?_); (case h6 => exact Kd.C_below g2.out (below_then HWy.out HWy.out.size (by (repeat (with_reducible refine below_setg ?_ J.out)); exact I.out))); rintro e k9 ⟨rfl, M⟩; have a8 : Below wr.heap.size wr k9 := below_then (by (repeat (with_reducible refine below_setg ?_ J.out)); exact I.out) (Below.size (by (repeat (with_reducible refine below_setg ?_ J.out)); exact I.out)) M; have z := a_ a8; have d2 := a_ (HIy.out.below z.out HIy.out.lt); have d3 := a_ (Kd.S_below HVy.out z.out); have X := a_ (blk_below B1y.out z.out); have a0 := a_ (blk_below BBy.out z.out); have b := a_ (below_then HWy.out HWy.out.size z.out); have O := a_ (blk_below B8y.out z.out); have T := a_ (HCy.out.below z.out HCy.out.lt); have F := a_ (HAy.out.below z.out HAy.out.lt); have d4 := a_ (blk_below (g := a1) (o := .cells #[.int .i64 p.f0, .int .i64 p.f1, .int .i64 p.f2, .int .i64 p.f3, .int .i64 p.f4, .int .i32 p.f5, .slice A6 p.f6.length c6] 71 (0, 0)) (by refine blk_put (cs := #[.int .i64 p.f0, .int .i64 p.f1, .int .i64 p.f2, .int .i64 p.f3, .int .i64 p.f4, .int .i32 p.f5, .slice none 0 0]) ?_ 6 _ rfl; refine blk_put (cs := #[.int .i64 p.f0, .int .i64 p.f1, .int .i64 p.f2, .int .i64 p.f3, .int .i64 p.f4, .int .i32 0, .slice none 0 0]) ?_ 5 _ rfl; refine blk_put (cs := #[.int .i64 p.f0, .int .i64 p.f1, .int .i64 p.f2, .int .i64 p.f3, .int .i64 0, .int .i32 0, .slice none 0 0]) ?_ 4 _ rfl; refine blk_put (cs := #[.int .i64 p.f0, .int .i64 p.f1, .int .i64 p.f2, .int .i64 0, .int .i64 0, .int .i32 0, .slice none 0 0]) ?_ 3 _ rfl; refine blk_put (cs := #[.int .i64 p.f0, .int .i64 p.f1, .int .i64 0, .int .i64 0, .int .i64 0, .int .i32 0, .slice none 0 0]) ?_ 2 _ rfl; refine blk_put (cs := #[.int .i64 p.f0, .int .i64 0, .int .i64 0, .int .i64 0, .int .i64 0, .int .i32 0, .slice none 0 0]) ?_ 1 _ rfl; refine blk_put (cs := #[.int .i64 0, .int .i64 0, .int .i64 0, .int .i64 0, .int .i64 0, .int .i32 0, .slice none 0 0]) ?_ 0 _ rfl; exact a7.out) M); clear a8 M; obtain ⟨v4, v5, v6, v8, v9, w5, w6⟩ := q_c7 d4.out; obtain ⟨x0, x1, x2, x3, x4⟩ := q_c5 O.out; have x5 := cell_old k0.out b.out; have x6 := cell_old k1.out b.out; have x7 := cell_old k2.out b.out; have x8 := cell_old k3.out b.out; have x9 := cell_old k4.out b.out; have y0 := cell_old k5.out b.out; have y1 := cell_old k6.out b.out) | (go_at_call 53; (with_reducible refine (backC1 _ gA sz p A6 c6 F.out ?h6 g3.out HGD.out).mono ?_); (case h6 => exact fun w' hg => Kd.C_below g2.out (below_grown b.out hg LA.out)); rintro e C6 ⟨rfl, B, a9⟩; have d5 := a_ a9; have d6 := a_ (d2.out.grown B (fun e => NIA.out (Option.some.inj e))); have d7 := a_ (S_sets d3.out F.out (by decide) B); have d8 := a_ (blk_grown X.out B (fun e => apart59 X.out F.out (by decide) (Option.some.inj e))); have d9 := a_ (blk_grown a0.out B (fun e => apart59 a0.out F.out (by decide) (Option.some.inj e))); have e0 := a_ (below_grown b.out B LA.out); have e1 := a_ (blk_grown O.out B (fun e => apart59 O.out F.out (by decide) (Option.some.inj e))); have e2 := a_ (T.out.grown B (fun e => NCA.out (Option.some.inj e))); clear B a9))
 go_roundg gQ
 case measure => omega
 case rel => exact ⟨wrap64 (y - 1), rfl, ⟨by rw [HY.out, wrap64_id (by omega) (by have := HNLEN.out; have := HHO.out; omega)]; omega, Nat.le_of_lt HHO.out, by rw [HST.out, HD.out]; exact e2.out, by rw [HST.out]; exact d5.out⟩, e1, d6, d7, d8, d9, e0⟩)
 | true => (
 have HDN := a_ (HDF.out HD.out); go_wp2_with (first | ((with_reducible refine gd_ 11 rfl ?_); refine q_box 11 71 #[.int .i64 0, .int .i64 0, .int .i64 0, .int .i64 0, .int .i64 0, .int .i32 0, .slice none 0 0] ?_; intro a1 a4 C5 a5 a6; have a7 := a_ a5; have I := a_ a6; have J : Aside0 (wr.heap.size ≤ a1) := ⟨by rw [a4]; exact Nat.le_refl _⟩; have k7 : a1 ≠ g8 := (by have := blk_lt B8y.out; omega); have k8 : g8 ≠ a1 := (by omega); clear a4 a5 a6; obtain ⟨s9, t0, t1, t2, t3, t4, t5, t6, t7, t8, t9, v0, v1, v2⟩ := q_cf7 a7.out) | (go_at_call 52; (with_reducible refine (definesC _ p A6 c6 true ?h6 g3.out HD.out).mono ?_); (case h6 => exact Kd.C_below g2.out (below_then HWy.out HWy.out.size (by (repeat (with_reducible refine below_setg ?_ J.out)); exact I.out))); rintro e k9 ⟨rfl, M⟩; have a8 : Below wr.heap.size wr k9 := below_then (by (repeat (with_reducible refine below_setg ?_ J.out)); exact I.out) (Below.size (by (repeat (with_reducible refine below_setg ?_ J.out)); exact I.out)) M; have z := a_ a8; have d2 := a_ (HIy.out.below z.out HIy.out.lt); have d3 := a_ (Kd.S_below HVy.out z.out); have X := a_ (blk_below B1y.out z.out); have a0 := a_ (blk_below BBy.out z.out); have b := a_ (below_then HWy.out HWy.out.size z.out); have O := a_ (blk_below B8y.out z.out); have T := a_ (HCy.out.below z.out HCy.out.lt); have F := a_ (HAy.out.below z.out HAy.out.lt); have d4 := a_ (blk_below (g := a1) (o := .cells #[.int .i64 p.f0, .int .i64 p.f1, .int .i64 p.f2, .int .i64 p.f3, .int .i64 p.f4, .int .i32 p.f5, .slice A6 p.f6.length c6] 71 (0, 0)) (by refine blk_put (cs := #[.int .i64 p.f0, .int .i64 p.f1, .int .i64 p.f2, .int .i64 p.f3, .int .i64 p.f4, .int .i32 p.f5, .slice none 0 0]) ?_ 6 _ rfl; refine blk_put (cs := #[.int .i64 p.f0, .int .i64 p.f1, .int .i64 p.f2, .int .i64 p.f3, .int .i64 p.f4, .int .i32 0, .slice none 0 0]) ?_ 5 _ rfl; refine blk_put (cs := #[.int .i64 p.f0, .int .i64 p.f1, .int .i64 p.f2, .int .i64 p.f3, .int .i64 0, .int .i32 0, .slice none 0 0]) ?_ 4 _ rfl; refine blk_put (cs := #[.int .i64 p.f0, .int .i64 p.f1, .int .i64 p.f2, .int .i64 0, .int .i64 0, .int .i32 0, .slice none 0 0]) ?_ 3 _ rfl; refine blk_put (cs := #[.int .i64 p.f0, .int .i64 p.f1, .int .i64 0, .int .i64 0, .int .i64 0, .int .i32 0, .slice none 0 0]) ?_ 2 _ rfl; refine blk_put (cs := #[.int .i64 p.f0, .int .i64 0, .int .i64 0, .int .i64 0, .int .i64 0, .int .i32 0, .slice none 0 0]) ?_ 1 _ rfl; refine blk_put (cs := #[.int .i64 0, .int .i64 0, .int .i64 0, .int .i64 0, .int .i64 0, .int .i32 0, .slice none 0 0]) ?_ 0 _ rfl; exact a7.out) M); clear a8 M; obtain ⟨v4, v5, v6, v8, v9, w5, w6⟩ := q_c7 d4.out; obtain ⟨x0, x1, x2, x3, x4⟩ := q_c5 O.out; have x5 := cell_old k0.out b.out; have x6 := cell_old k1.out b.out; have x7 := cell_old k2.out b.out; have x8 := cell_old k3.out b.out; have x9 := cell_old k4.out b.out; have y0 := cell_old k5.out b.out; have y1 := cell_old k6.out b.out) | ((with_reducible refine gd_ 61 rfl ?_); refine load_event (g := gA) (i := 0) (off := 0) (l := [sz]) (s := sz) rfl rfl ?hx rfl F.out (by simp) rfl ?_; (case hx => first | rfl | (go_simp; done) | (go_simp; rfl))) | (go_at_call 51; (with_reducible refine (meetC _ nm A1 n1 b7 A2 n2 b8 rg (some adN) N.length b9 p.f2 p.f2.toNat sz g1 gB gC rg Cz HDN.out.1 HDN.out.2 HRG.out HCZ.out X.out a0.out T.out).mono ?_); rintro e K1 ⟨rfl, G, i7⟩; have y2 := a_ i7; have y3 := a_ (d2.out.grown G (fun e => NIC.out (Option.some.inj e))); have y4 := a_ (S_sets d3.out T.out (by decide) G); have i8 := a_ (blk_grown X.out G (fun e => apart59 X.out T.out (by decide) (Option.some.inj e))); have i9 := a_ (blk_grown a0.out G (fun e => apart59 a0.out T.out (by decide) (Option.some.inj e))); have E := a_ (below_grown b.out G LC.out); have e3 := a_ (blk_grown O.out G (fun e => apart59 O.out T.out (by decide) (Option.some.inj e))); have b0 := a_ (F.out.grown G (fun e => NCA.out.symm (Option.some.inj e))); clear G i7; obtain ⟨G5, G6, G7, G8, G9⟩ := q_c5 e3.out; have H0 := cell_old k0.out E.out; have H1 := cell_old k1.out E.out; have H2 := cell_old k2.out E.out; have H3 := cell_old k3.out E.out; have H4 := cell_old k4.out E.out; have H5 := cell_old k5.out E.out; have H6 := cell_old k6.out E.out) | (go_at_call 53; (with_reducible refine (backC1 _ gA sz p A6 c6 b0.out ?h6 g3.out HGD.out).mono ?_); (case h6 => exact fun w' hg => Kd.C_below g2.out (below_grown E.out hg LA.out)); rintro e C6 ⟨rfl, B, a9⟩; have d5 := a_ a9; have d6 := a_ (y3.out.grown B (fun e => NIA.out (Option.some.inj e))); have d7 := a_ (S_sets y4.out b0.out (by decide) B); have d8 := a_ (blk_grown i8.out B (fun e => apart59 i8.out b0.out (by decide) (Option.some.inj e))); have d9 := a_ (blk_grown i9.out B (fun e => apart59 i9.out b0.out (by decide) (Option.some.inj e))); have e0 := a_ (below_grown E.out B LA.out); have e1 := a_ (blk_grown e3.out B (fun e => apart59 e3.out b0.out (by decide) (Option.some.inj e))); have e2 := a_ (y2.out.grown B (fun e => NCA.out (Option.some.inj e))); clear B a9))
 go_roundg gQ
 case measure => omega
 case rel => exact ⟨wrap64 (y - 1), rfl, ⟨by rw [HY.out, wrap64_id (by omega) (by have := HNLEN.out; have := HHO.out; omega)]; omega, Nat.le_of_lt HHO.out, by rw [HST.out, HD.out]; exact e2.out, by rw [HST.out]; exact d5.out⟩, e1, d6, d7, d8, d9, e0⟩))))
 case neg => (
 have c2 : (D.f1 == 1) = false := beq_eq_false_iff_ne.mpr hE
 have o9 := a_ hE; clear hE; go_wp2_with (first | ((with_reducible refine gd_ 8 rfl ?_); refine q_box 8 69 #[.slice none 0 0, .int .i64 0, .int .i64 0, .int .i64 0, .int .i64 0] ?_; intro g8 b2 w9 p1 j6; have p2 := a_ p1; have e7 := a_ j6; have e8 : Aside0 (wr.heap.size ≤ g8) := ⟨by rw [b2]; exact Nat.le_refl _⟩; have p3 : g8 ≠ g1 := (by have := blk_lt B1x.out; omega); have p4 : g1 ≠ g8 := (by omega); have hra : (adX.add x.toNat).block < wr.heap.size := World.block_lt_of_cell? wr _ hrow; rw [add_block] at hra; have hrd : adX.block ≠ g8 := (by omega); have U : g8 ≠ adX.block := (by omega); have p5 : (⟨g8, 0, none⟩ : Addr) ≠ adX.add x.toNat := (fun e_ => U ((congrArg Addr.block e_).trans (add_block _ _))); have p6 : (⟨g8, 1, none⟩ : Addr) ≠ adX.add x.toNat := (fun e_ => U ((congrArg Addr.block e_).trans (add_block _ _))); have p7 : (⟨g8, 2, none⟩ : Addr) ≠ adX.add x.toNat := (fun e_ => U ((congrArg Addr.block e_).trans (add_block _ _))); have p8 : (⟨g8, 3, none⟩ : Addr) ≠ adX.add x.toNat := (fun e_ => U ((congrArg Addr.block e_).trans (add_block _ _))); have p9 : (⟨g8, 4, none⟩ : Addr) ≠ adX.add x.toNat := (fun e_ => U ((congrArg Addr.block e_).trans (add_block _ _))); have j7 := cell_old hrow j6; clear b2 p1 j6; clear hra; obtain ⟨q1, q2, q3, q4, q5, q6, q7, q8, q9, r2⟩ := q_cf5 p2.out) | (go_at_call 39; (with_reducible refine (afterC _ row AR cR gI R _ ?hn ?hI HRB.out HRQ.out HRN.out).mono ?_); (case hn => exact Kd.C_below HCR.out (by (repeat (with_reducible refine below_setg ?_ e8.out)); exact e7.out)); (case hI => exact HIx.out.below (by (repeat (with_reducible refine below_setg ?_ e8.out)); exact e7.out) HIx.out.lt); rintro e B7 ⟨rfl, c4⟩; have g7 : Below wr.heap.size wr B7 := below_then (by (repeat (with_reducible refine below_setg ?_ e8.out)); exact e7.out) (Below.size (by (repeat (with_reducible refine below_setg ?_ e8.out)); exact e7.out)) c4; have V := a_ g7; have c8 := a_ (HIx.out.below V.out HIx.out.lt); have r3 := a_ (Kd.S_below HVx.out V.out); have r4 := a_ (blk_below B1x.out V.out); have r5 := a_ (blk_below BBx.out V.out); have c9 := a_ (below_then HWx.out HWx.out.size V.out); have d0 := a_ (HCx.out.below V.out HCx.out.lt); have r6 := a_ (blk_below (g := g8) (o := .cells #[.slice A0 D.f0.length c0, .int .i64 D.f1, .int .i64 D.f2, .int .i64 D.f3, .int .i64 D.f4] 69 (0, 0)) (by refine blk_put (cs := #[.slice A0 D.f0.length c0, .int .i64 D.f1, .int .i64 D.f2, .int .i64 D.f3, .int .i64 0]) ?_ 4 _ rfl; refine blk_put (cs := #[.slice A0 D.f0.length c0, .int .i64 D.f1, .int .i64 D.f2, .int .i64 0, .int .i64 0]) ?_ 3 _ rfl; refine blk_put (cs := #[.slice A0 D.f0.length c0, .int .i64 D.f1, .int .i64 0, .int .i64 0, .int .i64 0]) ?_ 2 _ rfl; refine blk_put (cs := #[.slice A0 D.f0.length c0, .int .i64 0, .int .i64 0, .int .i64 0, .int .i64 0]) ?_ 1 _ rfl; refine blk_put (cs := #[.slice none 0 0, .int .i64 0, .int .i64 0, .int .i64 0, .int .i64 0]) ?_ 0 _ rfl; exact p2.out) c4); clear g7 c4) | ((with_reducible refine gd_ 9 rfl ?_); refine box_event ?hg (N := 9) ?hd (cs := (cellsL [0]).toArray) (t := 59) ?hr ?_; (case hd => rfl); (case hg => rfl); (case hr => rw [← zero_cells]; first | (go_simp; done) | (go_simp; rfl)); intro gA hgA C1 hSA hbA; have a2 := a_ (show SetsAt C1 gA [0] from hSA); have LA : Aside0 (w.heap.size ≤ gA) := ⟨by rw [hgA]; exact c9.out.size⟩; have NIA : Aside0 (gI ≠ gA) := ⟨by have := c8.out.lt; omega⟩; have NCA : Aside0 (gC ≠ gA) := ⟨by have := d0.out.lt; omega⟩; have r7 := a_ (c8.out.below hbA c8.out.lt); have r8 := a_ (Kd.S_below r3.out hbA); have g9 := a_ (blk_below r4.out hbA); have i0 := a_ (blk_below r5.out hbA); have r9 := a_ (below_then c9.out c9.out.size hbA); have i1 := a_ (blk_below r6.out hbA); have s2 := a_ (d0.out.below hbA d0.out.lt); clear hgA hSA hbA) | ((with_reducible refine gate_store (t := 59) (p := 9) rfl ?_); refine put_event (g := gA) (i := 0) (off := 0) (l := [0]) (s := after row R) rfl rfl rfl ?hx rfl ?hy a2.out (by simp) ?_; (case hx => first | rfl | (go_simp; done) | (go_simp; rfl)); (case hy => first | rfl | (go_simp; done) | (go_simp; rfl)); intro C2 hgP hsP; have a3 := a_ (show SetsAt C2 gA [after row R] from hsP); have i2 := a_ (r7.out.grown hgP (fun e => NIA.out (Option.some.inj e))); have i3 := a_ (S_sets r8.out a2.out (by decide) hgP); have e4 := a_ (blk_grown g9.out hgP (fun e => apart59 g9.out a2.out (by decide) (Option.some.inj e))); have e5 := a_ (blk_grown i0.out hgP (fun e => apart59 i0.out a2.out (by decide) (Option.some.inj e))); have i4 := a_ (below_grown r9.out hgP LA.out); have b3 := a_ (blk_grown i1.out hgP (fun e => apart59 i1.out a2.out (by decide) (Option.some.inj e))); have i5 := a_ (s2.out.grown hgP (fun e => NCA.out (Option.some.inj e))); clear hgP hsP; obtain ⟨s3, s4, s5, s6, s7⟩ := q_c5 b3.out))
 obtain ⟨s1, j8⟩ : ∃ s1, s1 = atEnd D (after row R) := ⟨_, rfl⟩; have C3 := a_ (show SetsAt _ gA [s1] from by rw [j8, atEnd]; first | (rw [if_pos o9.out]; exact a3.out) | (rw [if_neg o9.out]; exact a3.out))
 have HSE := a_ j8; clear j8 c2; clear q1 q2 q3 q4 q5 q6 q7 q8 q9 r2 p3 p4 hrd U p5 p6 p7 p8 p9 j7 l4 l5 l6 g6 l7 hcB o4 o5 o6 o7 o8 hrow qN qX p0; have s8 : wrap64 ((D.f0.length : Int) - 1) = (D.f0.length : Int) - 1 := wrap64_id (by omega) (by have := HNLEN.out; omega)
 go_loopg [10] D.f0.length (fun gz C4 wz => ∃ y : Int, C4 = .int .i64 y ∧ Aside0 (y = (gz : Int) - 1 ∧ gz ≤ D.f0.length ∧ SetsAt wz gC (clashNd rg Cx s1 (D.f0.drop gz)).1 ∧ SetsAt wz gA [(clashNd rg Cx s1 (D.f0.drop gz)).2]) ∧ Aside0 (wz.heap[g8]? = some (.cells #[.slice A0 D.f0.length c0, .int .i64 D.f1, .int .i64 D.f2, .int .i64 D.f3, .int .i64 D.f4] 69 (0, 0))) ∧ Aside0 (SetsAt wz gI R) ∧ Aside0 (Kd.S (Kd.slice 3 (Kd.int .i64)) 27 wz w.heap.size (fun _ => True) (.slice (some adX) nx.length c3) nx) ∧ Aside0 (wz.heap[g1]? = some (.cells #[.string nm, .slice A1 n1 b7, .slice A2 n2 b8, .int .i64 (rg : Int), .slice (some adN) N.length b9] 26 (0, 0))) ∧ Aside0 (wz.heap[gB]? = some (.cells #[.slice (some ⟨gC, 0, none⟩) rg rg] 55 (0, 0))) ∧ Aside0 (Below w.heap.size w wz))
 case atStart => exact ⟨(D.f0.length : Int) - 1, by rw [s8], ⟨rfl, Nat.le_refl _, by rw [List.drop_length]; exact i5.out, by rw [List.drop_length]; exact C3.out⟩, b3, i2, i3, e4, e5, i4⟩
 case round => (
 clear s8 s3 s4 s5 s6 s7; (try clear z6 z7 z8 z9 A5)
 obtain ⟨y, rfl, ⟨hy, hgz, hCz, hAz⟩, B8y, HIy, HVy, B1y, BBy, HWy⟩ := hrel; have HY := a_ hy; cases gk with
 | zero => (
 have c1 : decide (0 ≤ y) = false := decide_eq_false (by omega)
 have HCy := a_ hCz; clear hy hgz hCz hAz; go_wp2
 go_roundg gO
 case measure => omega
 case rel => exact ⟨x + 1, by go_num, ⟨j + 1, by rw [HX.out]; rfl, by have := HJ.out; omega, by have h_ := HCy.out; rw [List.drop_zero, HSE.out, HROW.out] at h_; rw [HNXT.out]; exact h_⟩, HIy, HVy, B1y, BBy, HWy⟩)
 | succ gQ => (
 have c1 : decide (0 ≤ y) = true := decide_eq_true (by omega)
 have hyn : y = (gQ : Int) := by omega
 have hOl : gQ < D.f0.length := hgz
 have p0 : 0 ≤ y := by omega
 have q0 : y < (D.f0.length : Int) := by omega
 obtain ⟨adI, A6, c6, e, e9, b5, f7, b6, f8, f9, g0, d1, j9⟩ := at_T71 HCI.out y p0 q0; cases e; obtain ⟨p, hp⟩ : ∃ p, p = rd_T71 D.f0 y := ⟨_, rfl⟩; rw [← hp] at e9 b5 f7 b6 f8 f9 g0 d1 j9
 have hpl : p = D.f0[gQ] := by rw [hp, hyn]; simp [rd_T71, hOl]
 have hfp := HNF.out.1 p (by rw [hpl]; exact List.getElem_mem _)
 have HGD : Aside0 (Good p) := ⟨fine_good HRG.out hfp⟩
 have g2 := a_ j9; have g3 := a_ d1; have k0 := a_ e9; have k1 := a_ b5; have k2 := a_ f7; have k3 := a_ b6; have k4 := a_ f8; have k5 := a_ f9; have k6 := a_ g0; obtain ⟨Cz, hCze⟩ : ∃ Cz, Cz = (clashNd rg Cx s1 (D.f0.drop (gQ + 1))).1 := ⟨_, rfl⟩; obtain ⟨sz, hsze⟩ : ∃ sz, sz = (clashNd rg Cx s1 (D.f0.drop (gQ + 1))).2 := ⟨_, rfl⟩; have HST : Aside0 (clashNd rg Cx s1 (D.f0.drop gQ) = (if defs p then meet rg Cz p.f2.toNat sz else Cz, back sz p)) := ⟨by rw [List.drop_eq_getElem_cons hOl, clashNd_cons, ← hpl, hCze, hsze]⟩
 have HCZ : Aside0 (Cz.length = rg) := ⟨by rw [hCze, clashNd_len]; exact HCX.out⟩
 rw [← hCze] at hCz; rw [← hsze] at hAz; have HCy := a_ hCz; have HAy := a_ hAz; have HHO := a_ hgz; have HDF : Aside0 (defs p = true → p.f2 = ((p.f2.toNat : Nat) : Int) ∧ p.f2.toNat < rg) := ⟨fun hd => by have := hfp.2.2.1 (by rw [← defs_hasD hfp]; exact hd); omega⟩
 replace e9 := cell_old e9 HWy.out; replace b5 := cell_old b5 HWy.out; replace f7 := cell_old f7 HWy.out; replace b6 := cell_old b6 HWy.out; replace f8 := cell_old f8 HWy.out; replace f9 := cell_old f9 HWy.out; replace g0 := cell_old g0 HWy.out; replace p0 := eq_true p0; replace q0 := eq_true q0; obtain ⟨G0, G1, G2, G3, G4⟩ := q_c5 B8y.out; obtain ⟨d, hd⟩ : ∃ d, defs p = d := ⟨_, rfl⟩; have HD := a_ hd; clear hy hgz hCz hAz hyn hOl hp hpl j9 d1 hCze hsze hfp hd hw; cases d with
 | false => (
 go_wp2_with (first | ((with_reducible refine gd_ 11 rfl ?_); refine q_box 11 71 #[.int .i64 0, .int .i64 0, .int .i64 0, .int .i64 0, .int .i64 0, .int .i32 0, .slice none 0 0] ?_; intro a1 a4 C5 a5 a6; have a7 := a_ a5; have I := a_ a6; have J : Aside0 (wr.heap.size ≤ a1) := ⟨by rw [a4]; exact Nat.le_refl _⟩; have k7 : a1 ≠ g8 := (by have := blk_lt B8y.out; omega); have k8 : g8 ≠ a1 := (by omega); clear a4 a5 a6; obtain ⟨s9, t0, t1, t2, t3, t4, t5, t6, t7, t8, t9, v0, v1, v2⟩ := q_cf7 a7.out) | (go_at_call 52; (with_reducible refine (definesC _ p A6 c6 false ?h6 g3.out HD.out).mono ?_); (case h6 => exact Kd.C_below g2.out (below_then HWy.out HWy.out.size (by (repeat (with_reducible refine below_setg ?_ J.out)); exact I.out))); rintro e k9 ⟨rfl, M⟩; have a8 : Below wr.heap.size wr k9 := below_then (by (repeat (with_reducible refine below_setg ?_ J.out)); exact I.out) (Below.size (by (repeat (with_reducible refine below_setg ?_ J.out)); exact I.out)) M; have z := a_ a8; have d2 := a_ (HIy.out.below z.out HIy.out.lt); have d3 := a_ (Kd.S_below HVy.out z.out); have X := a_ (blk_below B1y.out z.out); have a0 := a_ (blk_below BBy.out z.out); have b := a_ (below_then HWy.out HWy.out.size z.out); have O := a_ (blk_below B8y.out z.out); have T := a_ (HCy.out.below z.out HCy.out.lt); have F := a_ (HAy.out.below z.out HAy.out.lt); have d4 := a_ (blk_below (g := a1) (o := .cells #[.int .i64 p.f0, .int .i64 p.f1, .int .i64 p.f2, .int .i64 p.f3, .int .i64 p.f4, .int .i32 p.f5, .slice A6 p.f6.length c6] 71 (0, 0)) (by refine blk_put (cs := #[.int .i64 p.f0, .int .i64 p.f1, .int .i64 p.f2, .int .i64 p.f3, .int .i64 p.f4, .int .i32 p.f5, .slice none 0 0]) ?_ 6 _ rfl; refine blk_put (cs := #[.int .i64 p.f0, .int .i64 p.f1, .int .i64 p.f2, .int .i64 p.f3, .int .i64 p.f4, .int .i32 0, .slice none 0 0]) ?_ 5 _ rfl; refine blk_put (cs := #[.int .i64 p.f0, .int .i64 p.f1, .int .i64 p.f2, .int .i64 p.f3, .int .i64 0, .int .i32 0, .slice none 0 0]) ?_ 4 _ rfl; refine blk_put (cs := #[.int .i64 p.f0, .int .i64 p.f1, .int .i64 p.f2, .int .i64 0, .int .i64 0, .int .i32 0, .slice none 0 0]) ?_ 3 _ rfl; refine blk_put (cs := #[.int .i64 p.f0, .int .i64 p.f1, .int .i64 0, .int .i64 0, .int .i64 0, .int .i32 0, .slice none 0 0]) ?_ 2 _ rfl; refine blk_put (cs := #[.int .i64 p.f0, .int .i64 0, .int .i64 0, .int .i64 0, .int .i64 0, .int .i32 0, .slice none 0 0]) ?_ 1 _ rfl; refine blk_put (cs := #[.int .i64 0, .int .i64 0, .int .i64 0, .int .i64 0, .int .i64 0, .int .i32 0, .slice none 0 0]) ?_ 0 _ rfl; exact a7.out) M); clear a8 M; obtain ⟨v4, v5, v6, v8, v9, w5, w6⟩ := q_c7 d4.out; obtain ⟨x0, x1, x2, x3, x4⟩ := q_c5 O.out; have x5 := cell_old k0.out b.out; have x6 := cell_old k1.out b.out; have x7 := cell_old k2.out b.out; have x8 := cell_old k3.out b.out; have x9 := cell_old k4.out b.out; have y0 := cell_old k5.out b.out; have y1 := cell_old k6.out b.out) | (go_at_call 53; (with_reducible refine (backC1 _ gA sz p A6 c6 F.out ?h6 g3.out HGD.out).mono ?_); (case h6 => exact fun w' hg => Kd.C_below g2.out (below_grown b.out hg LA.out)); rintro e C6 ⟨rfl, B, a9⟩; have d5 := a_ a9; have d6 := a_ (d2.out.grown B (fun e => NIA.out (Option.some.inj e))); have d7 := a_ (S_sets d3.out F.out (by decide) B); have d8 := a_ (blk_grown X.out B (fun e => apart59 X.out F.out (by decide) (Option.some.inj e))); have d9 := a_ (blk_grown a0.out B (fun e => apart59 a0.out F.out (by decide) (Option.some.inj e))); have e0 := a_ (below_grown b.out B LA.out); have e1 := a_ (blk_grown O.out B (fun e => apart59 O.out F.out (by decide) (Option.some.inj e))); have e2 := a_ (T.out.grown B (fun e => NCA.out (Option.some.inj e))); clear B a9))
 go_roundg gQ
 case measure => omega
 case rel => exact ⟨wrap64 (y - 1), rfl, ⟨by rw [HY.out, wrap64_id (by omega) (by have := HNLEN.out; have := HHO.out; omega)]; omega, Nat.le_of_lt HHO.out, by rw [HST.out, HD.out]; exact e2.out, by rw [HST.out]; exact d5.out⟩, e1, d6, d7, d8, d9, e0⟩)
 | true => (
 have HDN := a_ (HDF.out HD.out); go_wp2_with (first | ((with_reducible refine gd_ 11 rfl ?_); refine q_box 11 71 #[.int .i64 0, .int .i64 0, .int .i64 0, .int .i64 0, .int .i64 0, .int .i32 0, .slice none 0 0] ?_; intro a1 a4 C5 a5 a6; have a7 := a_ a5; have I := a_ a6; have J : Aside0 (wr.heap.size ≤ a1) := ⟨by rw [a4]; exact Nat.le_refl _⟩; have k7 : a1 ≠ g8 := (by have := blk_lt B8y.out; omega); have k8 : g8 ≠ a1 := (by omega); clear a4 a5 a6; obtain ⟨s9, t0, t1, t2, t3, t4, t5, t6, t7, t8, t9, v0, v1, v2⟩ := q_cf7 a7.out) | (go_at_call 52; (with_reducible refine (definesC _ p A6 c6 true ?h6 g3.out HD.out).mono ?_); (case h6 => exact Kd.C_below g2.out (below_then HWy.out HWy.out.size (by (repeat (with_reducible refine below_setg ?_ J.out)); exact I.out))); rintro e k9 ⟨rfl, M⟩; have a8 : Below wr.heap.size wr k9 := below_then (by (repeat (with_reducible refine below_setg ?_ J.out)); exact I.out) (Below.size (by (repeat (with_reducible refine below_setg ?_ J.out)); exact I.out)) M; have z := a_ a8; have d2 := a_ (HIy.out.below z.out HIy.out.lt); have d3 := a_ (Kd.S_below HVy.out z.out); have X := a_ (blk_below B1y.out z.out); have a0 := a_ (blk_below BBy.out z.out); have b := a_ (below_then HWy.out HWy.out.size z.out); have O := a_ (blk_below B8y.out z.out); have T := a_ (HCy.out.below z.out HCy.out.lt); have F := a_ (HAy.out.below z.out HAy.out.lt); have d4 := a_ (blk_below (g := a1) (o := .cells #[.int .i64 p.f0, .int .i64 p.f1, .int .i64 p.f2, .int .i64 p.f3, .int .i64 p.f4, .int .i32 p.f5, .slice A6 p.f6.length c6] 71 (0, 0)) (by refine blk_put (cs := #[.int .i64 p.f0, .int .i64 p.f1, .int .i64 p.f2, .int .i64 p.f3, .int .i64 p.f4, .int .i32 p.f5, .slice none 0 0]) ?_ 6 _ rfl; refine blk_put (cs := #[.int .i64 p.f0, .int .i64 p.f1, .int .i64 p.f2, .int .i64 p.f3, .int .i64 p.f4, .int .i32 0, .slice none 0 0]) ?_ 5 _ rfl; refine blk_put (cs := #[.int .i64 p.f0, .int .i64 p.f1, .int .i64 p.f2, .int .i64 p.f3, .int .i64 0, .int .i32 0, .slice none 0 0]) ?_ 4 _ rfl; refine blk_put (cs := #[.int .i64 p.f0, .int .i64 p.f1, .int .i64 p.f2, .int .i64 0, .int .i64 0, .int .i32 0, .slice none 0 0]) ?_ 3 _ rfl; refine blk_put (cs := #[.int .i64 p.f0, .int .i64 p.f1, .int .i64 0, .int .i64 0, .int .i64 0, .int .i32 0, .slice none 0 0]) ?_ 2 _ rfl; refine blk_put (cs := #[.int .i64 p.f0, .int .i64 0, .int .i64 0, .int .i64 0, .int .i64 0, .int .i32 0, .slice none 0 0]) ?_ 1 _ rfl; refine blk_put (cs := #[.int .i64 0, .int .i64 0, .int .i64 0, .int .i64 0, .int .i64 0, .int .i32 0, .slice none 0 0]) ?_ 0 _ rfl; exact a7.out) M); clear a8 M; obtain ⟨v4, v5, v6, v8, v9, w5, w6⟩ := q_c7 d4.out; obtain ⟨x0, x1, x2, x3, x4⟩ := q_c5 O.out; have x5 := cell_old k0.out b.out; have x6 := cell_old k1.out b.out; have x7 := cell_old k2.out b.out; have x8 := cell_old k3.out b.out; have x9 := cell_old k4.out b.out; have y0 := cell_old k5.out b.out; have y1 := cell_old k6.out b.out) | ((with_reducible refine gd_ 61 rfl ?_); refine load_event (g := gA) (i := 0) (off := 0) (l := [sz]) (s := sz) rfl rfl ?hx rfl F.out (by simp) rfl ?_; (case hx => first | rfl | (go_simp; done) | (go_simp; rfl))) | (go_at_call 51; (with_reducible refine (meetC _ nm A1 n1 b7 A2 n2 b8 rg (some adN) N.length b9 p.f2 p.f2.toNat sz g1 gB gC rg Cz HDN.out.1 HDN.out.2 HRG.out HCZ.out X.out a0.out T.out).mono ?_); rintro e K1 ⟨rfl, G, i7⟩; have y2 := a_ i7; have y3 := a_ (d2.out.grown G (fun e => NIC.out (Option.some.inj e))); have y4 := a_ (S_sets d3.out T.out (by decide) G); have i8 := a_ (blk_grown X.out G (fun e => apart59 X.out T.out (by decide) (Option.some.inj e))); have i9 := a_ (blk_grown a0.out G (fun e => apart59 a0.out T.out (by decide) (Option.some.inj e))); have E := a_ (below_grown b.out G LC.out); have e3 := a_ (blk_grown O.out G (fun e => apart59 O.out T.out (by decide) (Option.some.inj e))); have b0 := a_ (F.out.grown G (fun e => NCA.out.symm (Option.some.inj e))); clear G i7; obtain ⟨G5, G6, G7, G8, G9⟩ := q_c5 e3.out; have H0 := cell_old k0.out E.out; have H1 := cell_old k1.out E.out; have H2 := cell_old k2.out E.out; have H3 := cell_old k3.out E.out; have H4 := cell_old k4.out E.out; have H5 := cell_old k5.out E.out; have H6 := cell_old k6.out E.out) | (go_at_call 53; (with_reducible refine (backC1 _ gA sz p A6 c6 b0.out ?h6 g3.out HGD.out).mono ?_); (case h6 => exact fun w' hg => Kd.C_below g2.out (below_grown E.out hg LA.out)); rintro e C6 ⟨rfl, B, a9⟩; have d5 := a_ a9; have d6 := a_ (y3.out.grown B (fun e => NIA.out (Option.some.inj e))); have d7 := a_ (S_sets y4.out b0.out (by decide) B); have d8 := a_ (blk_grown i8.out B (fun e => apart59 i8.out b0.out (by decide) (Option.some.inj e))); have d9 := a_ (blk_grown i9.out B (fun e => apart59 i9.out b0.out (by decide) (Option.some.inj e))); have e0 := a_ (below_grown E.out B LA.out); have e1 := a_ (blk_grown e3.out B (fun e => apart59 e3.out b0.out (by decide) (Option.some.inj e))); have e2 := a_ (y2.out.grown B (fun e => NCA.out (Option.some.inj e))); clear B a9))
 go_roundg gQ
 case measure => omega
 case rel => exact ⟨wrap64 (y - 1), rfl, ⟨by rw [HY.out, wrap64_id (by omega) (by have := HNLEN.out; have := HHO.out; omega)]; omega, Nat.le_of_lt HHO.out, by rw [HST.out, HD.out]; exact e2.out, by rw [HST.out]; exact d5.out⟩, e1, d6, d7, d8, d9, e0⟩))))))
def k54 : Kd (Int × Int) := Kd.pair (Kd.int .i64) (Kd.int .i64)
theorem k54_mkM (w : World) (base : Nat) (ok : Nat → Prop) (a b : Int) : k54.M w base ok (a, b) [.int .i64 a, .int .i64 b] := ⟨[.int .i64 a], [.int .i64 b], rfl, rfl, rfl⟩
theorem k54_open {w : World} {x : Int × Int} {cs : List Value} (h : k54.K w x cs) : cs = [.int .i64 x.1, .int .i64 x.2] := by
 obtain ⟨_, _, rfl, rfl, rfl⟩ := h; rfl
theorem info54 : (Tryd.prog.info? 54).map (fun i => (i.zero, i.size, i.bytes)) = some (some (.agg #[.int .i64 0, .int .i64 0]), k54.sz, 16) := by kernel_rfl
abbrev ClashCall (w : World) (v : Value) (rg : Nat) (C : List Nat) : Prop := ∀ w0, Below w.heap.size w w0 → Calls Tryd.prog 30 #[v] w0 fun e w' => ∃ (g c : Nat), e = .returned (.slice (some ⟨g, 0, none⟩) rg c) ∧ w0.heap.size ≤ g ∧ SetsAt w' g C ∧ Below w0.heap.size w0 w'
def rowP (r : Nat) (L : List Nat) : List (Int × Int) := (L.filter fun q => decide (r < q)).map fun (q : Nat) => ((r : Int), (q : Int))
def pairsOf (C : List Nat) (rg n : Nat) : List (Int × Int) := (List.range n).flatMap fun r => rowP r (listOf (C.getD r 0) rg)
theorem rowP_take (r : Nat) {L : List Nat} {i : Nat} (h : i < L.length) : rowP r (L.take (i + 1)) = if r < L[i] then rowP r (L.take i) ++ [((r : Int), (L[i] : Int))] else rowP r (L.take i) := by
 unfold rowP
 rw [List.take_add_one, List.getElem?_eq_getElem h, Option.toList_some, List.filter_append, List.map_append]; by_cases hr : r < L[i]
 ·rw [if_pos hr, List.filter_cons_of_pos (by simpa using hr)]; rfl
 ·rw [if_neg hr, List.filter_cons_of_neg (by simpa using hr)]; simp
theorem pairsOf_succ (C : List Nat) (rg n : Nat) : pairsOf C rg (n + 1) = pairsOf C rg n ++ rowP n (listOf (C.getD n 0) rg) := by
 unfold pairsOf
 rw [List.range_succ, List.flatMap_append, List.flatMap_cons, List.flatMap_nil, List.append_nil]
theorem rowP_len (r : Nat) (L : List Nat) : (rowP r L).length ≤ L.length := by
 unfold rowP
 rw [List.length_map]; exact List.length_filter_le _ _
theorem listOf_len (s n : Nat) : (listOf s n).length ≤ n := by
 have := regsL_len s n
 unfold regsL at this
 rwa [List.length_map] at this
theorem pairsOf_len (C : List Nat) (rg : Nat) : ∀ n, (pairsOf C rg n).length ≤ n * rg
 | 0 => Nat.zero_le _
 | n + 1 => by rw [pairsOf_succ, List.length_append, Nat.succ_mul]; have h1 := pairsOf_len C rg n; have b := rowP_len n (listOf (C.getD n 0) rg); have l := listOf_len (C.getD n 0) rg; omega
def cs.T9 : Bool × List (List Nat × List Nat) := (true, [([], []), ([], []), ([0, 1], [0, 1]), ([], []), ([3], [3]), ([2, 4], [2, 4]), ([5], [5]), ([], [])])
def cs.B9 : List Nat := [0, 0, 3, 0, 8, 31, 63, 0]
theorem cs.tab9 : rtab .any (opsOf Tryd.f18 9) = cs.T9 := by kernel_rfl
theorem cs.bits9 : waitsOk cs.T9.2 cs.B9 = true := by kernel_rfl
theorem clashesC2 (w : World) (nm : ByteArray) (X : Option Addr) (n1 z : Nat) (A2 : Option Addr) (n2 B : Nat) (rg : Nat) (A4 : Option Addr) (n4 D : Nat) (C : List Nat) (hF : FitsCall w (.agg #[.string nm, .slice X n1 z, .slice A2 n2 B, .int .i64 (rg : Int), .slice A4 n4 D]) 0) (hL : ClashCall w (.agg #[.string nm, .slice X n1 z, .slice A2 n2 B, .int .i64 (rg : Int), .slice A4 n4 D]) rg C) (hrg : rg ≤ 2048) (hCl : C.length = rg) :
  Calls Tryd.prog 18 #[(.agg #[.string nm, .slice X n1 z, .slice A2 n2 B, .int .i64 (rg : Int), .slice A4 n4 D])] w fun e w' => ∃ v : Value, e = .returned (.tuple #[v, .int .i64 0]) ∧ Kd.R k54 54 w' w.heap.size (fun _ => True) v (pairsOf C rg rg) ∧ Below w.heap.size w w' := by
 have HFI := a_ hF; have HCA := a_ hL; have HRG := a_ hrg; have HCL := a_ hCl; clear hF hL hrg hCl; have f5 := Tryd.underlying26; go_enter Tryd.func18, Tryd.ntmps18
 go_wp2_with (first | ((with_reducible refine gd_ 1 rfl ?_); refine q_box 1 26 #[.string nm, .slice X n1 z, .slice A2 n2 B, .int .i64 (rg : Int), .slice A4 n4 D] ?_; intro g1 e0 w1 a5 a6; have a7 := a_ a5; have M := a_ a6; clear e0 a5 a6; obtain ⟨a8, a9, b0, b1, b2⟩ := q_c5 a7.out) | (go_at_call 29; (with_reducible refine (HFI.out _ M.out).mono ?_); rintro e w2 ⟨rfl, N⟩; have b3 := a_ (blk_below a7.out N); have O := a_ (below_then M.out M.out.size N); clear N; obtain ⟨b4, b5, b6, b7, b8⟩ := q_c5 b3.out) | (go_at_call 30; (with_reducible refine (HCA.out _ O.out).mono ?_); rintro e I ⟨gC, cC, rfl, hgC, hSC, T⟩; have HSC := a_ hSC; have b9 := a_ (blk_below b3.out T); have U := a_ (below_then O.out O.out.size T); clear hgC hSC T; obtain ⟨c0, c3, c4, c6, c8⟩ := q_c5 b9.out))
 go_loopg [5, 19] rg (fun gk v5 e2 wx => ∃ x : Int, e2 = .int .i64 x ∧ Aside0 (∃ j : Nat, x = (j : Int) ∧ j + gk = rg ∧ Kd.R k54 54 wx I.heap.size (fun _ => True) v5 (pairsOf C rg j)) ∧ Aside0 (SetsAt wx gC C) ∧ Aside0 (wx.heap[g1]? = some (.cells #[.string nm, .slice X n1 z, .slice A2 n2 B, .int .i64 (rg : Int), .slice A4 n4 D] 26 (0, 0))) ∧ Aside0 (Below I.heap.size I wx))
 case atStart => exact ⟨0, rfl, ⟨0, rfl, by omega, Kd.R_nil _ _ _ _ _⟩, HSC, b9, ⟨Below.refl _ _⟩⟩
 case round => (
 clear a8 a9 b0 b1 b2 b4 b5 b6 b7 b8 c0 c3 c4 c6 c8; obtain ⟨x, rfl, ⟨j, hx, hj, hO⟩, HSx, BKx, V⟩ := hrel; have HX := a_ hx; have HJ := a_ hj; obtain ⟨c9, d0, d1, J, d2⟩ := q_c5 BKx.out; cases gk with
 | zero => (
 have c1 : decide (x < (rg : Int)) = false := decide_eq_false (by omega)
 have HO := a_ hO; clear hx hj hO; go_wp2
 (try simp only [Exit.inBlock, Exit.then])
 refine bodyPost_ret (results_tmp2 rfl _ _ _) rfl ?_
 refine ⟨_, rfl, ?_, below_then U.out U.out.size V.out⟩
 have h_ := Kd.R_lower HO.out U.out.size; rwa [show j = rg by have := HJ.out; omega] at h_)
 | succ gO => (
 have c1 : decide (x < (rg : Int)) = true := decide_eq_true (by omega)
 have p0 : (0 ≤ x) = True := eq_true (by omega)
 have q0 : (x < (rg : Int)) = True := eq_true (by omega)
 have HJR : Aside0 (j < C.length) := ⟨by have := HCL.out; omega⟩
 have hw : wrap64 (x + 1) = x + 1 := wrap64_id (by omega) (by have := HRG.out; omega)
 obtain ⟨s, hs⟩ : ∃ s, s = C.getD j 0 := ⟨_, rfl⟩; have HSE := a_ hs; have HXT : Aside0 (x.toNat * 32 = 32 * j) := ⟨by omega⟩
 obtain ⟨L, hL⟩ : ∃ L, L = listOf s rg := ⟨_, rfl⟩; obtain ⟨us, hus⟩ : ∃ us, us = regsL s rg := ⟨_, rfl⟩; have HUS : Aside0 (us = L.map Int.ofNat) := ⟨by rw [hus, hL]; rfl⟩
 have HUSE := a_ hus; have HLL : Aside0 (us.length = L.length) := ⟨by rw [HUS.out, List.length_map]⟩
 have HUN : Aside0 (us.length ≤ rg) := ⟨by rw [hus]; exact regsL_len s rg⟩
 obtain ⟨P, hP⟩ : ∃ P, P = pairsOf C rg j := ⟨_, rfl⟩; have HPL : Aside0 (P.length ≤ 2048 * 2048) := ⟨by rw [hP]; exact Nat.le_trans (pairsOf_len C rg j) (Nat.mul_le_mul (by have := HRG.out; have := HJ.out; omega) HRG.out)⟩
 have HPN : Aside0 (pairsOf C rg (j + 1) = P ++ rowP j L) := ⟨by rw [pairsOf_succ, hP, hL, hs]⟩
 rw [← hP] at hO; have HO := a_ hO; clear hx hj hO hs hL hus hP; go_upto_region 9 with (fail)
 refine q_s 8 (S := fun W' => W'.cell? ⟨g1, 3, none⟩ = some (.int .i64 (rg : Int))) J (fun p => ?_)
 refine with_tabW cs.tab9 cs.bits9 (fun l d3 => ?_)
 refine qv_ 0 l ?_
 refine qv_ 1 l ?_
 refine qv_ 2 l ?_
 refine qv_ 3 l ?_
 refine qv_ 7 l ?_
 refine qt_ 4 l d3 p ?_
 refine q_o 5 l (fun K hK => ?_)
 refine goes_ Tryd.func31 (by kernel_rfl) rfl #[.pointer (some ⟨gC, x.toNat * 32, none⟩), .int .i64 (rg : Int)] (by rfl) rfl rfl (by (try simp only [List.map_toArray, List.map_cons, List.map_nil]); first | done | rfl | (simp; done)) ?_
 refine (listC2 _ gC _ j rg C s HXT.out HSx.out.drew HJR.out HRG.out HSE.out.symm).mono ?_
 rintro e w7 ⟨v7, rfl, F, E⟩
 refine ⟨_, rfl, ?_⟩
 rw [← HUSE.out] at F; have e3 := a_ (HSx.out.drew.below E HSx.out.drew.lt); have d4 := a_ (blk_below (blk_drew BKx.out) E); have e4 := a_ (below_step (below_drew1 V.out) E); have e5 := a_ (Kd.R_below (Kd.R_drew HO.out) E); obtain ⟨Av, cv, rfl⟩ := Kd.R_slice F; have e6 := a_ F; clear F E; refine q_nk hK.out (q_b d4.out 3) (fun p => ?_)
 clear hK K
 refine qv_ 6 l ?_
 refine done_ (done_of l.out (by kernel_rfl)) ?_
 clear l d3 p c9 d0 d1 J d2 c1; go_wp2
 go_loopg [5, 29] us.length (fun gk v5 e7 wx => ∃ y : Int, e7 = .int .i64 y ∧ Aside0 (∃ i : Nat, y = (i : Int) ∧ i + gk = us.length ∧ Kd.R k54 54 wx I.heap.size (fun _ => True) v5 (P ++ rowP j (L.take i))) ∧ Aside0 (SetsAt wx gC C) ∧ Aside0 (wx.heap[g1]? = some (.cells #[.string nm, .slice X n1 z, .slice A2 n2 B, .int .i64 (rg : Int), .slice A4 n4 D] 26 (0, 0))) ∧ Aside0 (Below I.heap.size I wx) ∧ Aside0 (Kd.R (Kd.int .i64) 3 wx wr.drew.heap.size (fun _ => True) (.slice Av us.length cv) us))
 case atStart => exact ⟨0, rfl, ⟨0, rfl, by omega, by rw [show rowP j (L.take 0) = [] from rfl, List.append_nil]; exact e5.out⟩, e3, d4, e4, e6⟩
 case round => (
 obtain ⟨y, rfl, ⟨i, hy, hi, hO⟩, HSx, BKx, V, HR⟩ := hrel; have HY := a_ hy; have HI := a_ hi; have HO := a_ hO; cases gk with
 | zero => (
 have c1 : decide (y < (us.length : Int)) = false := decide_eq_false (by omega)
 clear hy hi hO; go_wp2
 go_roundg gO
 case measure => omega
 case rel => exact ⟨x + 1, by go_num, ⟨j + 1, by rw [HX.out]; rfl, by have := HJ.out; omega, by have h_ := HO.out; rw [List.take_of_length_le (by have := HI.out; have := HLL.out; omega)] at h_; rw [HPN.out]; exact h_⟩, HSx, BKx, V⟩)
 | succ gQ => (
 have c1 : decide (y < (us.length : Int)) = true := decide_eq_true (by omega)
 have hjl : i < us.length := by omega
 have hjL : i < L.length := by have := HLL.out; omega
 have p1 : 0 ≤ y := by omega
 have q1 : y < (us.length : Int) := by omega
 obtain ⟨ad, e, hcu⟩ := Kd.at_int (Kd.R_reads' HR.out).2.2 y p1 q1; cases e; obtain ⟨u, hu⟩ : ∃ u, u = rd us y := ⟨_, rfl⟩; rw [← hu] at hcu; obtain ⟨q, hq⟩ : ∃ q, q = L[i] := ⟨_, rfl⟩; have huq : u = (q : Int) := by rw [hu, hy, hq]; simp [rd, HUS.out, hjL]
 have hRT := rowP_take j hjL; rw [← hq] at hRT; obtain ⟨xs, hxs⟩ : ∃ xs, xs = P ++ rowP j (L.take i) := ⟨_, rfl⟩; have HLM : Aside0 ((xs.length + 1) * 16 ≤ 140737488355328) := ⟨by
  have h1 := rowP_len j (L.take i); rw [List.length_take] at h1; rw [hxs, List.length_append]; have := HPL.out; have := HUN.out; have := HRG.out; have := HLL.out; omega⟩
 rw [← hxs] at hO; have HO := a_ hO; have hwy : wrap64 (y + 1) = y + 1 := wrap64_id (by omega) (by have := HUN.out; have := HRG.out; omega)
 have hxn : x = (j : Int) := HX.out
 replace p1 := eq_true p1; replace q1 := eq_true q1; by_cases hlt : j < q
 case pos => (
 have c2 : decide (x < u) = true := decide_eq_true (by omega)
 rw [if_pos hlt] at hRT; have HRT : Aside0 (P ++ rowP j (L.take (i + 1)) = xs ++ [(x, u)]) := ⟨by rw [hRT, hxs, List.append_assoc, hxn, huq]⟩
 clear hy hi hO hu hq huq hjl hjL hRT hxs hlt hxn; go_wp2_with (first | ((with_reducible refine gate_builtin (b := .append) (xs := #[.tmp 36, .tmp 40]) rfl ?_); at_builtin; refine Kd.R_append k54 (w0 := I) I.heap.size rfl (.tmp 36) (.tmp 40) 45 54 (.agg #[.int .i64 0, .int .i64 0]) 16 rfl Tryd.underlying45 info54 rfl (by decide) (by omega) u5 xs (x, u) [.int .i64 x, .int .i64 u] (fun _ => True) (fun _ => False) rfl rfl (k54_mkM _ _ _ _ _) (fun _ h => h.elim) (fun _ _ => trivial) HO.out V.out V.out.size HLM.out ?_; intro v8 w8 d5 d6 G d7; have f0 := a_ d5; have f1 := a_ d6; have f2 := a_ (Kd.R_over' (v := u5) HR.out (Kd.R_typed HO.out) (by decide) G); have f3 := a_ (blk_grown HSx.out G (Kd.R_ne HO.out HSx.out (by decide))); have f4 := a_ (blk_grown BKx.out G (Kd.R_ne HO.out BKx.out (by decide))); clear d5 d6 G d7))
 go_roundg gQ
 case measure => omega
 case rel => exact ⟨y + 1, by go_num, ⟨i + 1, by rw [HY.out]; rfl, by have := HI.out; omega, by rw [HRT.out]; exact f0.out⟩, f3, f4, f1, f2⟩)
 case neg => (
 have c2 : decide (x < u) = false := decide_eq_false (by omega)
 rw [if_neg hlt] at hRT; have HRT : Aside0 (P ++ rowP j (L.take (i + 1)) = xs) := ⟨by rw [hRT, hxs]⟩
 clear hy hi hO hu hq huq hjl hjL hRT hxs hlt hxn; go_wp2
 go_roundg gQ
 case measure => omega
 case rel => exact ⟨y + 1, by go_num, ⟨i + 1, by rw [HY.out]; rfl, by have := HI.out; omega, by rw [HRT.out]; exact HO.out⟩, HSx, BKx, V, HR⟩)))))
def okP (kk p : Int) : Bool := decide (p < kk) && decide (-64 ≤ p)
def rightB (l : List Int) (kk : Int) (C : List Nat) (rg : Nat) : Bool := l.all (okP kk) && (List.range rg).all fun r => (listOf (C.getD r 0) rg).all fun q => !(l.getD r 0 == l.getD q 0)
theorem all_take_succ {α : Type} {f : α → Bool} {l : List α} {j : Nat} {z : α} (hj : j < l.length) (h : (l.take j).all f = true) (b : f (l.getD j z) = true) : (l.take (j + 1)).all f = true := by
 rw [List.getD_eq_getElem?_getD, List.getElem?_eq_getElem hj, Option.getD_some] at b; rw [List.take_add_one, List.getElem?_eq_getElem hj, Option.toList_some, List.all_append, h]; simpa using b
theorem all_false {α : Type} {f : α → Bool} {l : List α} {j : Nat} {z : α} (hj : j < l.length) (b : f (l.getD j z) = false) : l.all f = false := by
 rw [List.getD_eq_getElem?_getD, List.getElem?_eq_getElem hj, Option.getD_some] at b; cases h : l.all f with
 | false => rfl
 | true => rw [List.all_eq_true.1 h _ (List.getElem_mem hj)] at b; cases b
theorem range_all_succ {f : Nat → Bool} {j : Nat} (h : (List.range j).all f = true) (b : f j = true) : (List.range (j + 1)).all f = true := by
 rw [List.range_succ, List.all_append, h]; simpa using b
theorem range_all_false {f : Nat → Bool} {j n : Nat} (hj : j < n) (b : f j = false) : (List.range n).all f = false := by
 cases h : (List.range n).all f with
 | false => rfl
 | true => rw [List.all_eq_true.1 h _ (List.mem_range.2 hj)] at b; cases b
theorem rightA (w : World) (nm : ByteArray) (V : Option Addr) (X B : Nat) (A2 : Option Addr) (n2 C : Nat) (rg : Int) (A4 : Option Addr) (n4 D : Nat) (AP : Option Addr) (cP : Nat) (l : List Int) (kk : Int) (hF : FitsCall w (.agg #[.string nm, .slice V X B, .slice A2 n2 C, .int .i64 (rg : Int), .slice A4 n4 D]) 0) (hbad : (l.length : Int) ≠ rg ∨ kk < 1 ∨ 13 < kk) :
  Calls Tryd.prog 9 #[(.agg #[.string nm, .slice V X B, .slice A2 n2 C, .int .i64 (rg : Int), .slice A4 n4 D]), (.slice AP l.length cP), .int .i64 kk] w fun e w' => e = .returned (.tuple #[.bool false, .int .i64 6]) ∧ Below w.heap.size w w' := by
 have HFI := a_ hF; have HBD := a_ hbad; clear hF hbad; have a5 := Tryd.underlying26; go_enter Tryd.func9, Tryd.ntmps9
 by_cases h1 : (l.length : Int) = rg
 case neg => (
 have c1 : ((l.length : Int) != (rg : Int)) = true := bne_iff_ne.mpr h1
 clear h1; go_wp2_with (first | ((with_reducible refine gd_ 3 rfl ?_); refine q_box 3 26 #[.string nm, .slice V X B, .slice A2 n2 C, .int .i64 (rg : Int), .slice A4 n4 D] ?_; intro g1 E w1 q y; have z := a_ q; have b := a_ y; clear E q y; obtain ⟨I, J, L, M, N⟩ := q_c5 z.out) | (go_at_call 29; (with_reducible refine (HFI.out _ b.out).mono ?_); rintro e w2 ⟨rfl, p⟩; have F := a_ (blk_below z.out p); have G := a_ (below_then b.out b.out.size p); clear p; obtain ⟨O, R, S, T, U⟩ := q_c5 F.out))
 (try simp only [Exit.inBlock, Exit.then])
 refine bodyPost_ret (results_tmp2 rfl _ _ _) rfl ?_
 exact ⟨rfl, G.out⟩)
 case pos => (
 have c1 : ((l.length : Int) != (rg : Int)) = false := bne_eq_false_iff_eq.mpr h1
 have H1 := a_ h1; clear h1; by_cases h2 : kk < 1
 case pos => (
 have c2 : decide (kk < 1) = true := decide_eq_true h2
 clear h2; go_wp2_with (first | ((with_reducible refine gd_ 3 rfl ?_); refine q_box 3 26 #[.string nm, .slice V X B, .slice A2 n2 C, .int .i64 (rg : Int), .slice A4 n4 D] ?_; intro g1 E w1 q y; have z := a_ q; have b := a_ y; clear E q y; obtain ⟨I, J, L, M, N⟩ := q_c5 z.out) | (go_at_call 29; (with_reducible refine (HFI.out _ b.out).mono ?_); rintro e w2 ⟨rfl, p⟩; have F := a_ (blk_below z.out p); have G := a_ (below_then b.out b.out.size p); clear p; obtain ⟨O, R, S, T, U⟩ := q_c5 F.out))
 (try simp only [Exit.inBlock, Exit.then])
 refine bodyPost_ret (results_tmp2 rfl _ _ _) rfl ?_
 exact ⟨rfl, G.out⟩)
 case neg => (
 have h3 : 13 < kk := by have := HBD.out; have := H1.out; omega
 have c2 : decide (kk < 1) = false := decide_eq_false h2
 have c3 : decide (13 < kk) = true := decide_eq_true h3
 clear h2 h3; go_wp2_with (first | ((with_reducible refine gd_ 3 rfl ?_); refine q_box 3 26 #[.string nm, .slice V X B, .slice A2 n2 C, .int .i64 (rg : Int), .slice A4 n4 D] ?_; intro g1 E w1 q y; have z := a_ q; have b := a_ y; clear E q y; obtain ⟨I, J, L, M, N⟩ := q_c5 z.out) | (go_at_call 29; (with_reducible refine (HFI.out _ b.out).mono ?_); rintro e w2 ⟨rfl, p⟩; have F := a_ (blk_below z.out p); have G := a_ (below_then b.out b.out.size p); clear p; obtain ⟨O, R, S, T, U⟩ := q_c5 F.out))
 (try simp only [Exit.inBlock, Exit.then])
 refine bodyPost_ret (results_tmp2 rfl _ _ _) rfl ?_
 exact ⟨rfl, G.out⟩))
def rl.T16 : Bool × List (List Nat × List Nat) := (true, [([], []), ([], []), ([0, 1], [0, 1]), ([], []), ([3], [3]), ([2, 4], [2, 4]), ([5], [5]), ([], [])])
def rl.B16 : List Nat := [0, 0, 3, 0, 8, 31, 63, 0]
theorem rl.tab16 : rtab .any (opsOf Tryd.f9 16) = rl.T16 := by kernel_rfl
theorem rl.bits16 : waitsOk rl.T16.2 rl.B16 = true := by kernel_rfl
def rq.T19 : Bool × List (List Nat × List Nat) := (true, [([], []), ([], []), ([0, 1], [0, 1]), ([2], [2]), ([], []), ([], []), ([4, 5], [4, 5]), ([6], [6]), ([3, 7], [3, 7])])
def rq.B19 : List Nat := [0, 0, 3, 7, 0, 0, 48, 112, 255]
theorem rq.tab19 : rtab .any (opsOf Tryd.f9 19) = rq.T19 := by kernel_rfl
theorem rq.bits19 : waitsOk rq.T19.2 rq.B19 = true := by kernel_rfl
theorem rightC (w : World) (nm : ByteArray) (A1 : Option Addr) (n1 M : Nat) (A2 : Option Addr) (n2 N : Nat) (rg : Nat) (A4 : Option Addr) (n4 O : Nat) (AP : Option Addr) (cP : Nat) (l : List Int) (kk : Int) (C : List Nat) (hF : FitsCall w (.agg #[.string nm, .slice A1 n1 M, .slice A2 n2 N, .int .i64 (rg : Int), .slice A4 n4 O]) 0) (hL : ClashCall w (.agg #[.string nm, .slice A1 n1 M, .slice A2 n2 N, .int .i64 (rg : Int), .slice A4 n4 O]) rg C) (hP : Kd.C (Kd.int .i64) w AP l.length l) (hlr : l.length = rg) (a5 : 1 ≤ kk) (a6 : kk ≤ 13) (hrg : rg ≤ 2048) (hCl : C.length = rg) :
  Calls Tryd.prog 9 #[(.agg #[.string nm, .slice A1 n1 M, .slice A2 n2 N, .int .i64 (rg : Int), .slice A4 n4 O]), (.slice AP l.length cP), .int .i64 kk] w fun e w' => e = .returned (.tuple #[.bool (rightB l kk C rg), .int .i64 0]) ∧ Below w.heap.size w w' := by
 obtain ⟨b, hb⟩ : ∃ b, b = rightB l kk C rg := ⟨_, rfl⟩; rw [← hb]; have HBV := a_ hb; have HFI := a_ hF; have HCA := a_ hL; have HP := a_ hP; have HLR := a_ hlr; have HRG := a_ hrg; have HCL := a_ hCl; have HK := a_ (And.intro a5 a6); have R : ((l.length : Int) != (rg : Int)) = false := bne_eq_false_iff_eq.mpr (by omega)
 have c2 : decide (kk < 1) = false := decide_eq_false (by omega)
 have c3 : decide (13 < kk) = false := decide_eq_false (by omega)
 clear hb hF hL hP hlr a5 a6 hrg hCl; have f5 := Tryd.underlying26; go_enter Tryd.func9, Tryd.ntmps9
 go_wp2_with (first | ((with_reducible refine gd_ 3 rfl ?_); refine q_box 3 26 #[.string nm, .slice A1 n1 M, .slice A2 n2 N, .int .i64 (rg : Int), .slice A4 n4 O] ?_; intro g1 e7 w1 a7 a8; have a9 := a_ a7; have X := a_ a8; clear e7 a7 a8; obtain ⟨b0, b1, b2, b3, b4⟩ := q_c5 a9.out) | (go_at_call 29; (with_reducible refine (HFI.out _ X.out).mono ?_); rintro e w2 ⟨rfl, a0⟩; have b5 := a_ (blk_below a9.out a0); have b6 := a_ (below_then X.out X.out.size a0); clear a0; obtain ⟨b7, b8, b9, c0, c4⟩ := q_c5 b5.out))
 clear R c2 c3; go_loopg [35] l.length (fun gk e8 wx => ∃ x : Int, e8 = .int .i64 x ∧ Aside0 (∃ j : Nat, x = (j : Int) ∧ j + gk = l.length ∧ (l.take j).all (okP kk) = true) ∧ Aside0 (Below w2.heap.size w2 wx))
 case atStart => exact ⟨0, rfl, ⟨0, rfl, by omega, rfl⟩, ⟨Below.refl _ _⟩⟩
 case round => (
 clear b0 b1 b2 b3 b4 b7 b8 b9 c0 c4; obtain ⟨x, rfl, ⟨j, hx, hj, hO⟩, V⟩ := hrel; have BKx := a_ (blk_below b5.out V.out); have HBx := a_ (below_then b6.out b6.out.size V.out); have HX := a_ hx; have HJ := a_ hj; cases gk with
 | succ gO => (
 have R : decide (x < (l.length : Int)) = true := decide_eq_true (by omega)
 have hjl : j < l.length := by omega
 have p0 : 0 ≤ x := by omega
 have q0 : x < (l.length : Int) := by omega
 obtain ⟨ad, e, hcu⟩ := Kd.at_int HP.out x p0 q0; cases e; obtain ⟨u, hu⟩ : ∃ u, u = rd l x := ⟨_, rfl⟩; rw [← hu] at hcu; replace hcu := cell_old hcu HBx.out; have huq : u = l.getD j 0 := by rw [hu, hx]; rfl
 have hw : wrap64 (x + 1) = x + 1 := wrap64_id (by omega) (by have := HLR.out; have := HRG.out; omega)
 have HO := a_ hO; have HUQ := a_ huq; have HJL := a_ hjl; replace p0 := eq_true p0; replace q0 := eq_true q0; clear hx hj hO hu huq hjl; by_cases h1 : kk ≤ u
 case pos => (
 have c2 : decide (kk ≤ u) = true := decide_eq_true h1
 have hbf : b = false := by rw [HBV.out, rightB, all_false HJL.out (by rw [← HUQ.out, okP, decide_eq_false (by omega), Bool.false_and]), Bool.false_and]
 have HBF := a_ hbf; clear h1 hbf; go_wp2
 (try simp only [Exit.inBlock, Exit.then])
 refine bodyPost_ret (results_tmp2 rfl _ _ _) rfl ?_
 rw [HBF.out]; exact ⟨rfl, HBx.out⟩)
 case neg => (
 have c2 : decide (kk ≤ u) = false := decide_eq_false h1
 by_cases h2 : u < -64
 case pos => (
 have c3 : decide (u < -64) = true := decide_eq_true h2
 have hbf : b = false := by rw [HBV.out, rightB, all_false HJL.out (by rw [← HUQ.out, okP, decide_eq_false (show ¬ (-64 ≤ u) by omega), Bool.and_false]), Bool.false_and]
 have HBF := a_ hbf; clear h1 h2 hbf; go_wp2
 (try simp only [Exit.inBlock, Exit.then])
 refine bodyPost_ret (results_tmp2 rfl _ _ _) rfl ?_
 rw [HBF.out]; exact ⟨rfl, HBx.out⟩)
 case neg => (
 have c3 : decide (u < -64) = false := decide_eq_false h2
 have HOK : Aside0 ((l.take (j + 1)).all (okP kk) = true) := ⟨all_take_succ HJL.out HO.out (by rw [← HUQ.out, okP, decide_eq_true (by omega), decide_eq_true (show -64 ≤ u by omega)]; rfl)⟩
 clear h1 h2; go_wp2
 go_roundg gO
 case measure => omega
 case rel => exact ⟨x + 1, by go_num, ⟨j + 1, by rw [HX.out]; rfl, by have := HJ.out; omega, HOK.out⟩, ⟨V.out⟩⟩)))
 | zero => (
 have R : decide (x < (l.length : Int)) = false := decide_eq_false (by omega)
 have HALL : Aside0 (l.all (okP kk) = true) := ⟨by rw [List.take_of_length_le (by omega)] at hO; exact hO⟩
 obtain ⟨F, G, I, D, J⟩ := q_c5 BKx.out; clear hx hj hO; go_wp2_with (first | (go_at_call 30; (with_reducible refine (HCA.out _ HBx.out).mono ?_); rintro e w3 ⟨gC, cC, rfl, hgC, hSC, a1⟩; have HSC := a_ hSC; have c6 := a_ (blk_below BKx.out a1); have T := a_ (below_then HBx.out HBx.out.size a1); clear hgC hSC a1; obtain ⟨c8, c9, d0, d1, d2⟩ := q_c5 c6.out))
 clear R; go_loopg [51] rg (fun gk e9 wx => ∃ x : Int, e9 = .int .i64 x ∧ Aside0 (∃ j : Nat, x = (j : Int) ∧ j + gk = rg ∧ ((List.range j).all fun r => (listOf (C.getD r 0) rg).all fun q => !(l.getD r 0 == l.getD q 0)) = true) ∧ Aside0 (Below w3.heap.size w3 wx))
 case atStart => exact ⟨0, rfl, ⟨0, rfl, by omega, rfl⟩, ⟨Below.refl _ _⟩⟩
 case round => (
 clear F G I D J c8 c9 d0 d1 d2; obtain ⟨x, rfl, ⟨j, hx, hj, hO⟩, V⟩ := hrel; have BKx := a_ (blk_below c6.out V.out); have HSx := a_ (HSC.out.below V.out HSC.out.lt); have HBx := a_ (below_then T.out T.out.size V.out); have HX := a_ hx; have HJ := a_ hj; have HO := a_ hO; obtain ⟨F, G, I, D, J⟩ := q_c5 BKx.out; cases gk with
 | zero => (
 have R : decide (x < (rg : Int)) = false := decide_eq_false (by omega)
 have HBF : Aside0 (b = true) := ⟨by rw [HBV.out, rightB, HALL.out, Bool.true_and, ← HO.out, show j = rg by omega]⟩
 clear hx hj hO; go_wp2
 (try simp only [Exit.inBlock, Exit.then])
 refine bodyPost_ret (results_tmp2 rfl _ _ _) rfl ?_
 rw [HBF.out]; exact ⟨rfl, HBx.out⟩)
 | succ gO => (
 have R : decide (x < (rg : Int)) = true := decide_eq_true (by omega)
 have p0 : (0 ≤ x) = True := eq_true (by omega)
 have q0 : (x < (rg : Int)) = True := eq_true (by omega)
 have HJR : Aside0 (j < C.length) := ⟨by have := HCL.out; omega⟩
 have hw : wrap64 (x + 1) = x + 1 := wrap64_id (by omega) (by have := HRG.out; omega)
 obtain ⟨s, hs⟩ : ∃ s, s = C.getD j 0 := ⟨_, rfl⟩; have HSE := a_ hs; have HXT : Aside0 (x.toNat * 32 = 32 * j) := ⟨by omega⟩
 obtain ⟨L, hL⟩ : ∃ L, L = listOf s rg := ⟨_, rfl⟩; obtain ⟨us, hus⟩ : ∃ us, us = regsL s rg := ⟨_, rfl⟩; have HUS : Aside0 (us = L.map Int.ofNat) := ⟨by rw [hus, hL]; rfl⟩
 have HUSE := a_ hus; have HLE := a_ hL; have HLL : Aside0 (us.length = L.length) := ⟨by rw [HUS.out, List.length_map]⟩
 have HUN : Aside0 (us.length ≤ rg) := ⟨by rw [hus]; exact regsL_len s rg⟩
 clear hx hj hO hs hL hus; go_upto_region 16 with (fail)
 refine q_s 8 (S := fun W' => W'.cell? ⟨g1, 3, none⟩ = some (.int .i64 (rg : Int))) D (fun B => ?_)
 refine with_tabW rl.tab16 rl.bits16 (fun p E => ?_)
 refine qv_ 0 p ?_
 refine qv_ 1 p ?_
 refine qv_ 2 p ?_
 refine qv_ 3 p ?_
 refine qv_ 7 p ?_
 refine qt_ 4 p E B ?_
 refine q_o 5 p (fun K hK => ?_)
 refine goes_ Tryd.func31 (by kernel_rfl) rfl #[.pointer (some ⟨gC, x.toNat * 32, none⟩), .int .i64 (rg : Int)] (by rfl) rfl rfl (by (try simp only [List.map_toArray, List.map_cons, List.map_nil]); first | done | rfl | (simp; done)) ?_
 refine (listC2 _ gC _ j rg C s HXT.out HSx.out.drew HJR.out HRG.out HSE.out.symm).mono ?_
 rintro e w7 ⟨v7, rfl, U, a2⟩
 refine ⟨_, rfl, ?_⟩
 rw [← HUSE.out] at U; have f0 := a_ (blk_below (blk_drew BKx.out) a2); have d3 := a_ (below_step (below_drew1 V.out) a2); obtain ⟨Av, cv, rfl⟩ := Kd.R_slice U; have f1 := a_ U; clear U a2; refine q_nk hK.out (q_b f0.out 3) (fun B => ?_)
 clear hK K
 refine qv_ 6 p ?_
 refine done_ (done_of p.out (by kernel_rfl)) ?_
 clear p E B F G I D J R; go_wp2
 go_loopg [61] us.length (fun gk f2 wx => ∃ y : Int, f2 = .int .i64 y ∧ Aside0 (∃ i : Nat, y = (i : Int) ∧ i + gk = us.length ∧ ((L.take i).all fun q => !(l.getD j 0 == l.getD q 0)) = true) ∧ Aside0 (Below w7.heap.size w7 wx))
 case atStart => exact ⟨0, rfl, ⟨0, rfl, by omega, rfl⟩, ⟨Below.refl _ _⟩⟩
 case round => (
 obtain ⟨y, rfl, ⟨i, hy, hi, hO⟩, HBy⟩ := hrel; have HBz := a_ (below_then d3.out d3.out.size HBy.out); have HBzz := a_ (below_then T.out T.out.size HBz.out); have HR := a_ (Kd.R_below f1.out HBy.out); have HY := a_ hy; have HI := a_ hi; have d4 := a_ hO; cases gk with
 | zero => (
 have R : decide (y < (us.length : Int)) = false := decide_eq_false (by omega)
 have HN : Aside0 (((List.range (j + 1)).all fun r => (listOf (C.getD r 0) rg).all fun q => !(l.getD r 0 == l.getD q 0)) = true) := ⟨range_all_succ HO.out (by
  have h_ := d4.out; rw [List.take_of_length_le (by have := HLL.out; omega), HLE.out, HSE.out] at h_
  exact h_)⟩
 clear hy hi hO; go_wp2
 go_roundg gO
 case measure => omega
 case rel => exact ⟨x + 1, by go_num, ⟨j + 1, by rw [HX.out]; rfl, by have := HJ.out; omega, HN.out⟩, HBz⟩)
 | succ gQ => (
 have R : decide (y < (us.length : Int)) = true := decide_eq_true (by omega)
 have hjl : i < us.length := by omega
 have hjL : i < L.length := by have := HLL.out; omega
 have p1 : 0 ≤ y := by omega
 have q1 : y < (us.length : Int) := by omega
 obtain ⟨ad, e, hcu⟩ := Kd.at_int (Kd.R_reads' HR.out).2.2 y p1 q1; cases e; obtain ⟨u, hu⟩ : ∃ u, u = rd us y := ⟨_, rfl⟩; rw [← hu] at hcu; obtain ⟨q, hq⟩ : ∃ q, q = L[i] := ⟨_, rfl⟩; have huq : u = (q : Int) := by rw [hu, hy, hq]; simp [rd, HUS.out, hjL]
 have hmem := mem_listOf.1 (show q ∈ listOf s rg by rw [← HLE.out, hq]; exact List.getElem_mem _)
 have hwy : wrap64 (y + 1) = y + 1 := wrap64_id (by omega) (by have := HUN.out; have := HRG.out; omega)
 have hxl : x < (l.length : Int) := by have := HLR.out; have := HX.out; have := HJ.out; omega
 have a3 : 0 ≤ x := by have := HX.out; omega
 have hul : u < (l.length : Int) := by have := HLR.out; omega
 have a4 : 0 ≤ u := by omega
 obtain ⟨adp, e, hca⟩ := Kd.at_int HP.out x a3 hxl; obtain ⟨f9, e2, hcb⟩ := Kd.at_int HP.out u a4 hul; cases e; cases e2; obtain ⟨a, ha⟩ : ∃ a, a = rd l x := ⟨_, rfl⟩; obtain ⟨d, hd⟩ : ∃ d, d = rd l u := ⟨_, rfl⟩; rw [← ha] at hca; rw [← hd] at hcb; replace hca := cell_old hca HBzz.out; replace hcb := cell_old hcb HBzz.out; have HA : Aside0 (a = l.getD j 0) := ⟨by rw [ha, rd, HX.out]; rfl⟩
 have HD : Aside0 (d = l.getD q 0) := ⟨by rw [hd, rd, huq]; rfl⟩
 have HQE : Aside0 (q = L.getD i 0) := ⟨by rw [hq, getD_atR _ hjL]⟩
 have d5 := a_ hjL; have g3 : (0 ≤ u) = True := eq_true a4
 have uxl : (u < (l.length : Int)) = True := eq_true hul
 have g4 : (0 ≤ x) = True := eq_true a3
 have xxl : (x < (l.length : Int)) = True := eq_true hxl
 replace p1 := eq_true p1; replace q1 := eq_true q1; clear hy hi hO hu hq huq hjl hjL hmem a3 a4 hxl hul ha hd; go_upto_region 19 with (fail)
 refine q_s 9 (S := fun W' => W'.cell? (adp.add x.toNat) = some (.int .i64 a) ∧ W'.cell? (adp.add u.toNat) = some (.int .i64 d)) ⟨hca, hcb⟩ (fun B => ?_)
 refine with_tabW rq.tab19 rq.bits19 (fun p E => ?_)
 refine qv_ 0 p ?_
 refine qv_ 1 p ?_
 refine qv_ 2 p ?_
 refine qv_ 4 p ?_
 refine qv_ 5 p ?_
 refine qv_ 6 p ?_
 refine qt_ 3 p E B ?_
 refine qt_ 7 p E B ?_
 refine qv_ 8 p ?_
 refine done_ (done_of p.out (by kernel_rfl)) ?_
 clear p E B; by_cases had : a = d
 case pos => (
 have c2 : (a == d) = true := beq_iff_eq.mpr had
 have HBF : Aside0 (b = false) := ⟨by
  have h1 : ((listOf (C.getD j 0) rg).all fun q => !(l.getD j 0 == l.getD q 0)) = false := by
   rw [← HSE.out, ← HLE.out]; refine all_false (z := 0) d5.out ?_
   rw [← HQE.out, ← HA.out, ← HD.out, c2]; rfl
  rw [HBV.out, rightB, range_all_false (j := j) (n := rg) (by have := HJ.out; omega) h1, Bool.and_false]⟩
 clear had; go_wp2
 (try simp only [Exit.inBlock, Exit.then])
 refine bodyPost_ret (results_tmp2 rfl _ _ _) rfl ?_
 rw [HBF.out]; exact ⟨rfl, below_drew1 HBzz.out⟩)
 case neg => (
 have c2 : (a == d) = false := beq_eq_false_iff_ne.mpr had
 have HN : Aside0 (((L.take (i + 1)).all fun q => !(l.getD j 0 == l.getD q 0)) = true) := ⟨all_take_succ (z := 0) d5.out d4.out (by rw [← HQE.out, ← HA.out, ← HD.out, c2]; rfl)⟩
 clear had; go_wp2
 go_roundg gQ
 case measure => omega
 case rel => exact ⟨y + 1, by go_num, ⟨i + 1, by rw [HY.out]; rfl, by have := HI.out; omega, HN.out⟩, ⟨below_drew1 HBy.out⟩⟩)))))))
def occI (s : Nat) (x : S71) : Nat := putsI (if defs x then put s x.f2.toNat else s) (useList x)
def occN (s : Nat) (n : S69) : Nat := if n.f1 = 1 then put (n.f0.foldl occI s) n.f2.toNat else n.f0.foldl occI s
def occF (N : List S69) : Nat := N.foldl occN 0
theorem foldl_take {α β : Type} (f : β → α → β) (b : β) {l : List α} {j : Nat} (hj : j < l.length) : (l.take (j + 1)).foldl f b = f ((l.take j).foldl f b) l[j] := by
 rw [List.take_add_one, List.foldl_append, List.getElem?_eq_getElem hj]; rfl
theorem occurC (w : World) (nm : ByteArray) (A1 : Option Addr) (n1 l7 : Nat) (A2 : Option Addr) (n2 l8 : Nat) (rg : Nat) (A4 : Option Addr) (l9 : Nat) (N : List S69) (m0 : Nat) (n0 : Kd.C k69 w A4 N.length N) (n3 : m0 ≤ 2048) (hN : N.length ≤ 1000000) (hNs : ∀ n ∈ N, n.f0.length ≤ 1000000) (hF : FineG m0 N) :
  Calls Tryd.prog 33 #[(.agg #[.string nm, .slice A1 n1 l7, .slice A2 n2 l8, .int .i64 (rg : Int), .slice A4 N.length l9])] w fun e w' => e = .returned (setV (occF N)) ∧ Below w.heap.size w w' := by
 obtain ⟨sx, hsx⟩ : ∃ sx, sx = occF N := ⟨_, rfl⟩; rw [← hsx]; have HOC := a_ hsx; have r1 := a_ n0; have n4 := a_ n3; have HN := a_ hN; have HNS := a_ hNs; have HF := a_ hF; clear n0 n3 hN hNs hF hsx; have t9 := Tryd.underlying26; have v0 := Tryd.underlying69; have v1 := Tryd.underlying71; go_enter Tryd.func33, Tryd.ntmps33
 go_wp2_with (first | ((with_reducible refine gd_ 1 rfl ?_); refine q_box 1 26 #[.string nm, .slice A1 n1 l7, .slice A2 n2 l8, .int .i64 (rg : Int), .slice A4 N.length l9] ?_; intro g1 r2 w1 F n5; have n6 := a_ F; have j8 := a_ n5; clear r2 F n5; obtain ⟨i6, i7, i8, i9, j3⟩ := q_c5 n6.out) | ((with_reducible refine gd_ 2 rfl ?_); refine box_event ?hg (N := 2) ?hd (cs := (cellsL [0]).toArray) (t := 59) ?hr ?_; (case hd => rfl); (case hg => rfl); (case hr => rw [← zero_cells]; first | (go_simp; done) | (go_simp; rfl)); intro U n7 w2 hSA hbA; have j9 := a_ (show SetsAt w2 U [0] from hSA); have k0 := a_ (below_then j8.out j8.out.size hbA); have r3 := a_ (blk_below n6.out hbA); have r4 : Aside0 (U = w1.heap.size) := ⟨n7⟩; clear n7 hSA hbA) | ((with_reducible refine gd_ 3 rfl ?_); refine box_event ?hg (N := 3) ?hd (cs := (cellsL [0]).toArray) (t := 59) ?hr ?_; (case hd => rfl); (case hg => rfl); (case hr => rw [← zero_cells]; first | (go_simp; done) | (go_simp; rfl)); intro J n8 w3 hSA hbA; have r5 := a_ (show SetsAt w3 J [0] from hSA); have L3 : Aside0 (w.heap.size ≤ J) := ⟨by rw [n8]; exact k0.out.size⟩; have g4 : Aside0 (U ≠ J) := ⟨by have := j9.out.lt; omega⟩; have r6 := a_ (j9.out.below hbA j9.out.lt); have r7 := a_ (below_then k0.out k0.out.size hbA); have r8 := a_ (blk_below r3.out hbA); clear n8 hSA hbA; obtain ⟨i6, i7, i8, i9, j3⟩ := q_c5 r8.out))
 have L2 : Aside0 (w.heap.size ≤ U) := ⟨by have r9 := j8.out.size; have s1 := r4.out; omega⟩
 go_loopg [13] N.length (fun gk s2 wx => ∃ x : Int, s2 = .int .i64 x ∧ Aside0 (∃ j : Nat, x = (j : Int) ∧ j + gk = N.length ∧ SetsAt wx J [(N.take j).foldl occN 0]) ∧ Aside0 (SetsAt wx U [0]) ∧ Aside0 (Below w.heap.size w wx))
 case atStart => exact ⟨0, rfl, ⟨0, rfl, by omega, r5.out⟩, r6, r7⟩
 case round => (
 clear i6 i7 i8 i9 j3; obtain ⟨x, rfl, ⟨j, hx, hj, hS⟩, HTx, HWx⟩ := hrel; have HX := a_ hx; have HJ := a_ hj; cases gk with
 | zero => (
 have c1 : decide (x < (N.length : Int)) = false := decide_eq_false (by omega)
 have HSx : Aside0 (SetsAt wr J [sx]) := ⟨by rw [List.take_of_length_le (by omega)] at hS; rw [HOC.out]; exact hS⟩
 clear hx hj hS; go_wp2_with (first | ((with_reducible refine gd_ 47 rfl ?_); refine load_event (g := J) (i := 0) (off := 0) (l := [sx]) (s := sx) rfl rfl ?hx rfl HSx.out (by simp) rfl ?_; (case hx => first | rfl | (go_simp; done) | (go_simp; rfl))) | ((with_reducible refine gate_store (t := 59) (p := 2) rfl ?_); refine put_event (g := U) (i := 0) (off := 0) (l := [0]) (s := sx) rfl rfl rfl ?hx rfl ?hy HTx.out (by simp) ?_; (case hx => first | rfl | (go_simp; done) | (go_simp; rfl)); (case hy => first | rfl | (go_simp; done) | (go_simp; rfl)); intro s3 hgP hsP; have n9 := a_ (show SetsAt s3 U [sx] from hsP); have o0 := a_ (below_grown HWx.out hgP L2.out); clear hgP hsP))
 (try simp only [Exit.inBlock, Exit.then])
 refine bodyPost_ret (results_cell_row rfl _ _ U 59 (cellsL [sx]).toArray (0, 0) (.array 32 57) rfl n9.out Tryd.underlying59 rfl (size59 _)) rfl ?_
 exact ⟨rfl, o0.out⟩)
 | succ gO => (
 have c1 : decide (x < (N.length : Int)) = true := decide_eq_true (by omega)
 have hjl : j < N.length := by omega
 have p0 : 0 ≤ x := by omega
 have qN : x < (N.length : Int) := by omega
 obtain ⟨adN, A0, c0, e, g6, g8, g9, i0, i1, j6, hCI⟩ := at_T69 r1.out x p0 qN; cases e; obtain ⟨b, hnd⟩ : ∃ b, b = rd_T69 N x := ⟨_, rfl⟩; rw [← hnd] at g6 g8 g9 i0 i1 j6 hCI
 have hndl : b = N[j] := by rw [hnd, hx]; simp [rd_T69, hjl]
 have HCI := a_ hCI; have hndF : FineNd m0 N.length b := HF.out b (by rw [hndl]; exact List.getElem_mem _)
 have HNF := a_ hndF; have HNLEN : Aside0 (b.f0.length ≤ 1000000) := ⟨HNS.out b (by rw [hndl]; exact List.getElem_mem _)⟩
 have o1 : Aside0 (b.f1 = 1 → 0 ≤ b.f2 ∧ b.f2 < 2048) := ⟨fun hE => by have r9 := hndF.2.1 hE; have s1 := n4.out; omega⟩
 obtain ⟨s0, k2⟩ : ∃ s0, s0 = (N.take j).foldl occN 0 := ⟨_, rfl⟩; have HNXT : Aside0 ((N.take (j + 1)).foldl occN 0 = occN s0 b) := ⟨by rw [foldl_take _ _ hjl, k2, hndl]⟩
 rw [← k2] at hS; have HSx := a_ hS; have hw : wrap64 (x + 1) = x + 1 := wrap64_id (by omega) (by have := HN.out; omega)
 replace g6 := cell_old g6 HWx.out; replace g8 := cell_old g8 HWx.out; replace g9 := cell_old g9 HWx.out; replace i0 := cell_old i0 HWx.out; replace i1 := cell_old i1 HWx.out; replace p0 := eq_true p0; replace qN := eq_true qN; clear hx hj hS hnd hndl hCI hjl hndF j6 k2; go_wp2_with (first | ((with_reducible refine gd_ 5 rfl ?_); refine q_box 5 69 #[.slice none 0 0, .int .i64 0, .int .i64 0, .int .i64 0, .int .i64 0] ?_; intro L o2 w5 G o3; have o4 := a_ G; have s4 := a_ o3; have s5 : Aside0 (wr.heap.size ≤ L) := ⟨by rw [o2]; exact Nat.le_refl _⟩; clear o2 G o3; obtain ⟨o5, o6, o7, o8, o9, p2, p3, p4, p5, p6⟩ := q_cf5 o4.out))
 have k3 : Aside0 (Below wr.heap.size wr (((((w5.setCell ⟨L, 0, none⟩ (.slice A0 b.f0.length c0)).setCell ⟨L, 1, none⟩ (.int .i64 b.f1)).setCell ⟨L, 2, none⟩ (.int .i64 b.f2)).setCell ⟨L, 3, none⟩ (.int .i64 b.f3)).setCell ⟨L, 4, none⟩ (.int .i64 b.f4))) := ⟨(by (repeat (with_reducible refine below_setg ?_ s5.out)); exact s4.out)⟩
 have s6 : Aside0 (((((((w5.setCell ⟨L, 0, none⟩ (.slice A0 b.f0.length c0)).setCell ⟨L, 1, none⟩ (.int .i64 b.f1)).setCell ⟨L, 2, none⟩ (.int .i64 b.f2)).setCell ⟨L, 3, none⟩ (.int .i64 b.f3)).setCell ⟨L, 4, none⟩ (.int .i64 b.f4))).heap[L]? = some (.cells #[.slice A0 b.f0.length c0, .int .i64 b.f1, .int .i64 b.f2, .int .i64 b.f3, .int .i64 b.f4] 69 (0, 0))) := ⟨by refine blk_put (cs := #[.slice A0 b.f0.length c0, .int .i64 b.f1, .int .i64 b.f2, .int .i64 b.f3, .int .i64 0]) ?_ 4 _ rfl; refine blk_put (cs := #[.slice A0 b.f0.length c0, .int .i64 b.f1, .int .i64 b.f2, .int .i64 0, .int .i64 0]) ?_ 3 _ rfl; refine blk_put (cs := #[.slice A0 b.f0.length c0, .int .i64 b.f1, .int .i64 0, .int .i64 0, .int .i64 0]) ?_ 2 _ rfl; refine blk_put (cs := #[.slice A0 b.f0.length c0, .int .i64 0, .int .i64 0, .int .i64 0, .int .i64 0]) ?_ 1 _ rfl; refine blk_put (cs := #[.slice none 0 0, .int .i64 0, .int .i64 0, .int .i64 0, .int .i64 0]) ?_ 0 _ rfl; exact o4.out⟩
 have s7 := a_ (HTx.out.below k3.out HTx.out.lt); have s8 := a_ (HSx.out.below k3.out HSx.out.lt); have s9 := a_ (below_then HWx.out HWx.out.size k3.out); clear o5 o6 o7 o8 o9 p2 p3 p4 p5 p6 g6 g8 g9 i0 i1 qN p0 c1; go_loopg [20] b.f0.length (fun gz t0 wz => ∃ y : Int, t0 = .int .i64 y ∧ Aside0 (∃ i : Nat, y = (i : Int) ∧ i + gz = b.f0.length ∧ SetsAt wz J [(b.f0.take i).foldl occI s0]) ∧ Aside0 (SetsAt wz U [0]) ∧ Aside0 (wz.heap[L]? = some (.cells #[.slice A0 b.f0.length c0, .int .i64 b.f1, .int .i64 b.f2, .int .i64 b.f3, .int .i64 b.f4] 69 (0, 0))) ∧ Aside0 (Below w.heap.size w wz))
 case atStart => exact ⟨0, rfl, ⟨0, rfl, by omega, s8.out⟩, s7, s6, s9⟩
 case round => (
 obtain ⟨y, rfl, ⟨i, hy, hi, hS⟩, HTy, B5y, HWy⟩ := hrel; have HY := a_ hy; have HI := a_ hi; cases gk with
 | zero => (
 have c1 : decide (y < (b.f0.length : Int)) = false := decide_eq_false (by omega)
 obtain ⟨sy, hsy⟩ : ∃ sy, sy = b.f0.foldl occI s0 := ⟨_, rfl⟩; have HSYE := a_ hsy; have HSy : Aside0 (SetsAt wr J [sy]) := ⟨by rw [List.take_of_length_le (by omega)] at hS; rw [hsy]; exact hS⟩
 clear hy hi hS hsy; obtain ⟨v3, v4, v5, v6, v7⟩ := q_c5 B5y.out; by_cases hE : b.f1 = 1
 case pos => (
 have c2 : (b.f1 == 1) = true := beq_iff_eq.mpr hE
 have HNE := a_ (o1.out hE); have k4 := a_ hE; clear hE; go_wp2_with (first | (go_at_call 36; (with_reducible refine (putC1 _ J b.f2 sy HSy.out HNE.out.1 HNE.out.2).mono ?_); rintro e x6 ⟨rfl, V, j7⟩; have p7 := a_ j7; have p8 := a_ (HTy.out.grown V (fun e => g4.out (Option.some.inj e))); have p9 := a_ (below_grown HWy.out V L3.out); clear V j7))
 go_roundg gO
 case measure => omega
 case rel => exact ⟨x + 1, by go_num, ⟨j + 1, by rw [HX.out]; rfl, by have := HJ.out; omega, by rw [HNXT.out, occN, if_pos k4.out, ← HSYE.out]; exact p7.out⟩, p8, p9⟩)
 case neg => (
 have c2 : (b.f1 == 1) = false := beq_eq_false_iff_ne.mpr hE
 have k4 := a_ hE; clear hE; go_wp2
 go_roundg gO
 case measure => omega
 case rel => exact ⟨x + 1, by go_num, ⟨j + 1, by rw [HX.out]; rfl, by have := HJ.out; omega, by rw [HNXT.out, occN, if_neg k4.out, ← HSYE.out]; exact HSy.out⟩, HTy, HWy⟩))
 | succ gQ => (
 have c1 : decide (y < (b.f0.length : Int)) = true := decide_eq_true (by omega)
 have hOl : i < b.f0.length := by omega
 have p0 : 0 ≤ y := by omega
 have q0 : y < (b.f0.length : Int) := by omega
 obtain ⟨adI, A6, c6, e, X, F, a0, a1, a2, G, a3, a4, k5⟩ := at_T71 HCI.out y p0 q0; cases e; obtain ⟨p, hp⟩ : ∃ p, p = rd_T71 b.f0 y := ⟨_, rfl⟩; rw [← hp] at X F a0 a1 a2 G a3 a4 k5
 have hpl : p = b.f0[i] := by rw [hp, hy]; simp [rd_T71, hOl]
 have hfp := HNF.out.1 p (by rw [hpl]; exact List.getElem_mem _)
 have HGD : Aside0 (Good p) := ⟨fine_good n4.out hfp⟩
 have i2 := a_ k5; have i3 := a_ a4; obtain ⟨sy, hsy⟩ : ∃ sy, sy = (b.f0.take i).foldl occI s0 := ⟨_, rfl⟩; have HST : Aside0 ((b.f0.take (i + 1)).foldl occI s0 = occI sy p) := ⟨by rw [foldl_take _ _ hOl, hsy, hpl]⟩
 rw [← hsy] at hS; have HSy := a_ hS; obtain ⟨us, hus⟩ : ∃ us, us = useList p := ⟨_, rfl⟩; have HUE := a_ hus; have HUL : Aside0 (us.length ≤ 2) := ⟨by rw [hus]; unfold useList; split <;> (try split) <;> simp⟩
 have hwy : wrap64 (y + 1) = y + 1 := wrap64_id (by omega) (by have := HNLEN.out; omega)
 replace X := cell_old X HWy.out; replace F := cell_old F HWy.out; replace a0 := cell_old a0 HWy.out; replace a1 := cell_old a1 HWy.out; replace a2 := cell_old a2 HWy.out; replace G := cell_old G HWy.out; replace a3 := cell_old a3 HWy.out; replace p0 := eq_true p0; replace q0 := eq_true q0; obtain ⟨d, hd⟩ : ∃ d, defs p = d := ⟨_, rfl⟩; have HD := a_ hd; clear hy hi hS hOl hp hpl k5 a4 hfp hd hsy hus; cases d with
 | false => (
 go_wp2_with (first | ((with_reducible refine gd_ 7 rfl ?_); refine q_box 7 71 #[.int .i64 0, .int .i64 0, .int .i64 0, .int .i64 0, .int .i64 0, .int .i32 0, .slice none 0 0] ?_; intro g7 a5 w7 a6 a7; have a8 := a_ a6; have M := a_ a7; have O : Aside0 (wr.heap.size ≤ g7) := ⟨by rw [a5]; exact Nat.le_refl _⟩; clear a5 a6 a7; obtain ⟨a9, b0, b1, b2, b3, b4, b5, b6, b7, b8, b9, c3, c4, c8⟩ := q_cf7 a8.out) | (go_at_call 52; (with_reducible refine (definesC _ p A6 c6 false ?h6 i3.out HD.out).mono ?_); (case h6 => exact Kd.C_below i2.out (below_then HWy.out HWy.out.size (by (repeat (with_reducible refine below_setg ?_ O.out)); exact M.out))); rintro e w8 ⟨rfl, S⟩; have c9 : Below wr.heap.size wr w8 := below_then (by (repeat (with_reducible refine below_setg ?_ O.out)); exact M.out) (Below.size (by (repeat (with_reducible refine below_setg ?_ O.out)); exact M.out)) S; have E := a_ c9; have i4 := a_ (HTy.out.below E.out HTy.out.lt); have T := a_ (HSy.out.below E.out HSy.out.lt); have d0 := a_ (below_then HWy.out HWy.out.size E.out); have i5 := a_ (blk_below B5y.out E.out); have d1 := a_ (blk_below (g := g7) (o := .cells #[.int .i64 p.f0, .int .i64 p.f1, .int .i64 p.f2, .int .i64 p.f3, .int .i64 p.f4, .int .i32 p.f5, .slice A6 p.f6.length c6] 71 (0, 0)) (by refine blk_put (cs := #[.int .i64 p.f0, .int .i64 p.f1, .int .i64 p.f2, .int .i64 p.f3, .int .i64 p.f4, .int .i32 p.f5, .slice none 0 0]) ?_ 6 _ rfl; refine blk_put (cs := #[.int .i64 p.f0, .int .i64 p.f1, .int .i64 p.f2, .int .i64 p.f3, .int .i64 p.f4, .int .i32 0, .slice none 0 0]) ?_ 5 _ rfl; refine blk_put (cs := #[.int .i64 p.f0, .int .i64 p.f1, .int .i64 p.f2, .int .i64 p.f3, .int .i64 0, .int .i32 0, .slice none 0 0]) ?_ 4 _ rfl; refine blk_put (cs := #[.int .i64 p.f0, .int .i64 p.f1, .int .i64 p.f2, .int .i64 0, .int .i64 0, .int .i32 0, .slice none 0 0]) ?_ 3 _ rfl; refine blk_put (cs := #[.int .i64 p.f0, .int .i64 p.f1, .int .i64 0, .int .i64 0, .int .i64 0, .int .i32 0, .slice none 0 0]) ?_ 2 _ rfl; refine blk_put (cs := #[.int .i64 p.f0, .int .i64 0, .int .i64 0, .int .i64 0, .int .i64 0, .int .i32 0, .slice none 0 0]) ?_ 1 _ rfl; refine blk_put (cs := #[.int .i64 0, .int .i64 0, .int .i64 0, .int .i64 0, .int .i64 0, .int .i32 0, .slice none 0 0]) ?_ 0 _ rfl; exact a8.out) S); clear c9 S; obtain ⟨d2, d3, d4, d5, d6, d7, d8⟩ := q_c7 d1.out) | (go_at_call 54; (with_reducible refine (usesC _ p A6 c6 (Kd.C_below i2.out d0.out) i3.out).mono ?_); rintro e k6 ⟨t1, rfl, D, q⟩; obtain ⟨Av, cv, rfl⟩ := Kd.R_slice D; rw [← HUE.out] at D; have d9 := a_ D; have e0 := a_ (i4.out.below q i4.out.lt); have e1 := a_ (T.out.below q T.out.lt); have e2 := a_ (below_then d0.out d0.out.size q); have e3 := a_ (blk_below i5.out q); (try rw [← HUE.out]); clear q D))
 clear a9 b0 b1 b2 b3 b4 b5 b6 b7 b8 b9 c3 c4 c8 d2 d3 d4 d5 d6 d7 d8 X F a0 a1 a2 G a3 p0 q0 c1; have e4 : Aside0 (SetsAt k6 J [sy]) := e1
 go_loopg [32] us.length (fun gz k7 wz => ∃ z : Int, k7 = .int .i64 z ∧ Aside0 (∃ m : Nat, z = (m : Int) ∧ m + gz = us.length ∧ SetsAt wz J [putsI (sy) (us.take m)]) ∧ Aside0 (SetsAt wz U [0]) ∧ Aside0 (wz.heap[L]? = some (.cells #[.slice (some adI) b.f0.length c0, .int .i64 b.f1, .int .i64 b.f2, .int .i64 b.f3, .int .i64 b.f4] 69 (0, 0))) ∧ Aside0 (Below w.heap.size w wz) ∧ Aside0 (Kd.R (Kd.int .i64) 3 wz w8.heap.size (fun _ => True) (.slice Av us.length cv) us))
 case atStart => exact ⟨0, rfl, ⟨0, rfl, by omega, e4.out⟩, e0, e3, e2, d9⟩
 case round => (
 obtain ⟨z, rfl, ⟨m, hz, hm, hS⟩, HTx, B5x, HWx, HRx⟩ := hrel; have HZ := a_ hz; have HM := a_ hm; cases gk with
 | zero => (
 have c1 : decide (z < (us.length : Int)) = false := decide_eq_false (by omega)
 rw [List.take_of_length_le (by omega)] at hS
 have HSx := a_ hS; clear hz hm hS; go_wp2
 go_roundg gQ
 case measure => omega
 case rel => exact ⟨y + 1, by go_num, ⟨i + 1, by rw [HY.out]; rfl, by have := HI.out; omega, by rw [HST.out, occI, HD.out, ← HUE.out]; exact HSx.out⟩, HTx, B5x, HWx⟩)
 | succ gT => (
 have c1 : decide (z < (us.length : Int)) = true := decide_eq_true (by omega)
 have hml : m < us.length := by omega
 have p1 : 0 ≤ z := by omega
 have q1 : z < (us.length : Int) := by omega
 obtain ⟨adu, e, hcu⟩ := Kd.at_int (Kd.R_reads' HRx.out).2.2 z p1 q1; cases e; obtain ⟨u, hu⟩ : ∃ u, u = rd us z := ⟨_, rfl⟩; rw [← hu] at hcu; have huj : u = us[m] := by rw [hu, hz]; simp [rd, hml]
 have HU : Aside0 (0 ≤ u ∧ u < 2048) := ⟨HGD.out.2 u (by rw [← HUE.out, huj]; exact List.getElem_mem _)⟩
 obtain ⟨sx, hsx⟩ : ∃ sx, sx = putsI (sy) (us.take m) := ⟨_, rfl⟩; have HUJ : Aside0 (putsI (sy) (us.take (m + 1)) = put sx u.toNat) := ⟨by rw [putsI_take _ hml, huj, hsx]⟩
 rw [← hsx] at hS; have HSx := a_ hS; have hwz : wrap64 (z + 1) = z + 1 := wrap64_id (by omega) (by have := HUL.out; omega)
 replace p1 := eq_true p1; replace q1 := eq_true q1; clear hz hm hS hu huj hml hsx; go_wp2_with (first | (go_at_call 36; (with_reducible refine (putC1 _ J u sx HSx.out HU.out.1 HU.out.2).mono ?_); rintro e t2 ⟨rfl, B, I⟩; have e5 := a_ I; have e6 := a_ (HTx.out.grown B (fun e => g4.out (Option.some.inj e))); have e7 := a_ (below_grown HWx.out B L3.out); have e8 := a_ (blk_grown B5x.out B (fun e => apart59 B5x.out HSx.out (by decide) (Option.some.inj e))); have e9 := a_ (R_sets HRx.out HSx.out (by decide) B); clear B I))
 go_roundg gT
 case measure => omega
 case rel => exact ⟨z + 1, by go_num, ⟨m + 1, by rw [HZ.out]; rfl, by have := HM.out; omega, by rw [HUJ.out]; exact e5.out⟩, e6, e8, e7, e9⟩)))
 | true => (
 have HDN := a_ (HGD.out.1 HD.out); go_wp2_with (first | ((with_reducible refine gd_ 7 rfl ?_); refine q_box 7 71 #[.int .i64 0, .int .i64 0, .int .i64 0, .int .i64 0, .int .i64 0, .int .i32 0, .slice none 0 0] ?_; intro g7 a5 w7 a6 a7; have a8 := a_ a6; have M := a_ a7; have O : Aside0 (wr.heap.size ≤ g7) := ⟨by rw [a5]; exact Nat.le_refl _⟩; clear a5 a6 a7; obtain ⟨a9, b0, b1, b2, b3, b4, b5, b6, b7, b8, b9, c3, c4, c8⟩ := q_cf7 a8.out) | (go_at_call 52; (with_reducible refine (definesC _ p A6 c6 true ?h6 i3.out HD.out).mono ?_); (case h6 => exact Kd.C_below i2.out (below_then HWy.out HWy.out.size (by (repeat (with_reducible refine below_setg ?_ O.out)); exact M.out))); rintro e w8 ⟨rfl, S⟩; have c9 : Below wr.heap.size wr w8 := below_then (by (repeat (with_reducible refine below_setg ?_ O.out)); exact M.out) (Below.size (by (repeat (with_reducible refine below_setg ?_ O.out)); exact M.out)) S; have E := a_ c9; have i4 := a_ (HTy.out.below E.out HTy.out.lt); have T := a_ (HSy.out.below E.out HSy.out.lt); have d0 := a_ (below_then HWy.out HWy.out.size E.out); have i5 := a_ (blk_below B5y.out E.out); have d1 := a_ (blk_below (g := g7) (o := .cells #[.int .i64 p.f0, .int .i64 p.f1, .int .i64 p.f2, .int .i64 p.f3, .int .i64 p.f4, .int .i32 p.f5, .slice A6 p.f6.length c6] 71 (0, 0)) (by refine blk_put (cs := #[.int .i64 p.f0, .int .i64 p.f1, .int .i64 p.f2, .int .i64 p.f3, .int .i64 p.f4, .int .i32 p.f5, .slice none 0 0]) ?_ 6 _ rfl; refine blk_put (cs := #[.int .i64 p.f0, .int .i64 p.f1, .int .i64 p.f2, .int .i64 p.f3, .int .i64 p.f4, .int .i32 0, .slice none 0 0]) ?_ 5 _ rfl; refine blk_put (cs := #[.int .i64 p.f0, .int .i64 p.f1, .int .i64 p.f2, .int .i64 p.f3, .int .i64 0, .int .i32 0, .slice none 0 0]) ?_ 4 _ rfl; refine blk_put (cs := #[.int .i64 p.f0, .int .i64 p.f1, .int .i64 p.f2, .int .i64 0, .int .i64 0, .int .i32 0, .slice none 0 0]) ?_ 3 _ rfl; refine blk_put (cs := #[.int .i64 p.f0, .int .i64 p.f1, .int .i64 0, .int .i64 0, .int .i64 0, .int .i32 0, .slice none 0 0]) ?_ 2 _ rfl; refine blk_put (cs := #[.int .i64 p.f0, .int .i64 0, .int .i64 0, .int .i64 0, .int .i64 0, .int .i32 0, .slice none 0 0]) ?_ 1 _ rfl; refine blk_put (cs := #[.int .i64 0, .int .i64 0, .int .i64 0, .int .i64 0, .int .i64 0, .int .i32 0, .slice none 0 0]) ?_ 0 _ rfl; exact a8.out) S); clear c9 S; obtain ⟨d2, d3, d4, d5, d6, d7, d8⟩ := q_c7 d1.out) | (go_at_call 36; (with_reducible refine (putC1 _ J p.f2 sy T.out HDN.out.1 HDN.out.2).mono ?_); rintro e w9 ⟨rfl, f7, q4⟩; have q5 := a_ q4; have q6 := a_ (i4.out.grown f7 (fun e => g4.out (Option.some.inj e))); have l4 := a_ (below_grown d0.out f7 L3.out); have t3 := a_ (blk_grown i5.out f7 (fun e => apart59 i5.out T.out (by decide) (Option.some.inj e))); have t4 := a_ (blk_grown d1.out f7 (fun e => apart59 d1.out T.out (by decide) (Option.some.inj e))); clear f7 q4; obtain ⟨v8, v9, w4, w6, x0, x1, x2⟩ := q_c7 t4.out) | (go_at_call 54; (with_reducible refine (usesC _ p A6 c6 (Kd.C_below i2.out l4.out) i3.out).mono ?_); rintro e k6 ⟨t1, rfl, D, q⟩; obtain ⟨Av, cv, rfl⟩ := Kd.R_slice D; rw [← HUE.out] at D; have d9 := a_ D; have e0 := a_ (q6.out.below q q6.out.lt); have e1 := a_ (q5.out.below q q5.out.lt); have e2 := a_ (below_then l4.out l4.out.size q); have e3 := a_ (blk_below t3.out q); (try rw [← HUE.out]); clear q D))
 clear a9 b0 b1 b2 b3 b4 b5 b6 b7 b8 b9 c3 c4 c8 d2 d3 d4 d5 d6 d7 d8 X F a0 a1 a2 G a3 p0 q0 c1; have e4 : Aside0 (SetsAt k6 J [put sy p.f2.toNat]) := e1
 go_loopg [32] us.length (fun gz k7 wz => ∃ z : Int, k7 = .int .i64 z ∧ Aside0 (∃ m : Nat, z = (m : Int) ∧ m + gz = us.length ∧ SetsAt wz J [putsI (put sy p.f2.toNat) (us.take m)]) ∧ Aside0 (SetsAt wz U [0]) ∧ Aside0 (wz.heap[L]? = some (.cells #[.slice (some adI) b.f0.length c0, .int .i64 b.f1, .int .i64 b.f2, .int .i64 b.f3, .int .i64 b.f4] 69 (0, 0))) ∧ Aside0 (Below w.heap.size w wz) ∧ Aside0 (Kd.R (Kd.int .i64) 3 wz w9.heap.size (fun _ => True) (.slice Av us.length cv) us))
 case atStart => exact ⟨0, rfl, ⟨0, rfl, by omega, e4.out⟩, e0, e3, e2, d9⟩
 case round => (
 obtain ⟨z, rfl, ⟨m, hz, hm, hS⟩, HTx, B5x, HWx, HRx⟩ := hrel; have HZ := a_ hz; have HM := a_ hm; cases gk with
 | zero => (
 have c1 : decide (z < (us.length : Int)) = false := decide_eq_false (by omega)
 rw [List.take_of_length_le (by omega)] at hS
 have HSx := a_ hS; clear hz hm hS; go_wp2
 go_roundg gQ
 case measure => omega
 case rel => exact ⟨y + 1, by go_num, ⟨i + 1, by rw [HY.out]; rfl, by have := HI.out; omega, by rw [HST.out, occI, HD.out, ← HUE.out]; exact HSx.out⟩, HTx, B5x, HWx⟩)
 | succ gT => (
 have c1 : decide (z < (us.length : Int)) = true := decide_eq_true (by omega)
 have hml : m < us.length := by omega
 have p1 : 0 ≤ z := by omega
 have q1 : z < (us.length : Int) := by omega
 obtain ⟨adu, e, hcu⟩ := Kd.at_int (Kd.R_reads' HRx.out).2.2 z p1 q1; cases e; obtain ⟨u, hu⟩ : ∃ u, u = rd us z := ⟨_, rfl⟩; rw [← hu] at hcu; have huj : u = us[m] := by rw [hu, hz]; simp [rd, hml]
 have HU : Aside0 (0 ≤ u ∧ u < 2048) := ⟨HGD.out.2 u (by rw [← HUE.out, huj]; exact List.getElem_mem _)⟩
 obtain ⟨sx, hsx⟩ : ∃ sx, sx = putsI (put sy p.f2.toNat) (us.take m) := ⟨_, rfl⟩; have HUJ : Aside0 (putsI (put sy p.f2.toNat) (us.take (m + 1)) = put sx u.toNat) := ⟨by rw [putsI_take _ hml, huj, hsx]⟩
 rw [← hsx] at hS; have HSx := a_ hS; have hwz : wrap64 (z + 1) = z + 1 := wrap64_id (by omega) (by have := HUL.out; omega)
 replace p1 := eq_true p1; replace q1 := eq_true q1; clear hz hm hS hu huj hml hsx; go_wp2_with (first | (go_at_call 36; (with_reducible refine (putC1 _ J u sx HSx.out HU.out.1 HU.out.2).mono ?_); rintro e t2 ⟨rfl, B, I⟩; have e5 := a_ I; have e6 := a_ (HTx.out.grown B (fun e => g4.out (Option.some.inj e))); have e7 := a_ (below_grown HWx.out B L3.out); have e8 := a_ (blk_grown B5x.out B (fun e => apart59 B5x.out HSx.out (by decide) (Option.some.inj e))); have e9 := a_ (R_sets HRx.out HSx.out (by decide) B); clear B I))
 go_roundg gT
 case measure => omega
 case rel => exact ⟨z + 1, by go_num, ⟨m + 1, by rw [HZ.out]; rfl, by have := HM.out; omega, by rw [HUJ.out]; exact e5.out⟩, e6, e8, e7, e9⟩)))))))
abbrev OccurCall (w : World) (v : Value) (oc : Nat) : Prop := ∀ w0, Below w.heap.size w w0 → Calls Tryd.prog 33 #[v] w0 fun e w' => e = .returned (setV oc) ∧ Below w0.heap.size w0 w'
def AssignPost (w : World) (RES : Option (List Int)) (e : Ending) (w' : World) : Prop :=
 match RES with
 | some R => ∃ v : Value, e = .returned (.tuple #[v, .int .i64 0]) ∧ Kd.R (Kd.int .i64) 3 w' w.heap.size (fun _ => True) v R ∧ Below w.heap.size w w'
 | none => e = .returned (.tuple #[.slice none 0 0, .int .i64 5]) ∧ Below w.heap.size w w'
def Anv (k rg : Nat) (out : List Int) (g : Nat) : Prop := ∀ q, g.testBit q = true → q < rg ∧ idx k (out.getD q 0) < k + 64
theorem Anv.nil (k rg : Nat) (out : List Int) : Anv k rg out 0 := fun q hq => by simp at hq
theorem Anv.step {k rg g r t : Nat} {out : List Int} (hk : 1 ≤ k) (h : Anv k rg out g) (hr : r < rg) (hl : out.length = rg) (ht : t < k + 64) : Anv k rg (out.set r (placeOf k t)) (put g r) := by
 intro q hq
 rw [getD_seti (by omega)]
 rw [put_bit, Bool.or_eq_true, decide_eq_true_eq] at hq; by_cases e : r = q
 ·rw [if_pos e, idx_placeOf hk]; exact ⟨by omega, ht⟩
 ·rw [if_neg e]; exact h q (hq.resolve_right e)
def usedL (k g : Nat) (out : List Int) (L : List Nat) (u : List Bool) : List Bool := L.foldl (fun u q => if g.testBit q then u.set (idx k (out.getD q 0)) true else u) u
theorem usedL_len (k g : Nat) (out : List Int) : ∀ (L : List Nat) (u : List Bool), (usedL k g out L u).length = u.length
 | [], _ => rfl
 | q :: L, u => by {
 show (usedL k g out L (if g.testBit q then u.set (idx k (out.getD q 0)) true else u)).length = _
 rw [usedL_len k g out L]; split
 ·rw [List.length_set]
 ·rfl}
theorem getD_setb {l : List Bool} {i j : Nat} {v : Bool} (hi : i < l.length) : (l.set i v).getD j false = if i = j then v else l.getD j false := by
 rw [List.getD_eq_getElem?_getD, List.getD_eq_getElem?_getD, List.getElem?_set]; split
 ·rename_i h
  subst h; first | rfl | (rw [if_pos hi]; rfl)
 ·rfl
theorem usedL_get (k g : Nat) (out : List Int) (t : Nat) : ∀ (L : List Nat) (u : List Bool), (∀ q ∈ L, g.testBit q = true → idx k (out.getD q 0) < u.length) → (usedL k g out L u).getD t false = (u.getD t false || L.any fun q => g.testBit q && idx k (out.getD q 0) == t)
 | [], u, _ => by simp [usedL]
 | q :: L, u, h => by {
 show (usedL k g out L (if g.testBit q then u.set (idx k (out.getD q 0)) true else u)).getD t false = _
 rw [usedL_get k g out t L _ (fun p hp hg => by
  have := h p (List.mem_cons_of_mem _ hp) hg
  split
  ·rw [List.length_set]; exact this
  ·exact this), List.any_cons]
 by_cases hq : g.testBit q = true
 {
 rw [if_pos hq, getD_setb (h q List.mem_cons_self hq), hq, Bool.true_and]; by_cases e : idx k (out.getD q 0) = t
 ·rw [if_pos e, show (idx k (out.getD q 0) == t) = true from beq_iff_eq.mpr e, Bool.true_or, Bool.or_true]
 ·rw [if_neg e, show (idx k (out.getD q 0) == t) = false from beq_eq_false_iff_ne.mpr e, Bool.false_or]}
 ·rw [if_neg hq, Bool.eq_false_iff.2 hq]; simp}
theorem usedL_take (k g : Nat) (out : List Int) (u : List Bool) {L : List Nat} {j : Nat} (hj : j < L.length) : usedL k g out (L.take (j + 1)) u = if g.testBit L[j] then (usedL k g out (L.take j) u).set (idx k (out.getD L[j] 0)) true else usedL k g out (L.take j) u := by
 unfold usedL
 rw [List.take_add_one, List.foldl_append, List.getElem?_eq_getElem hj]; rfl
theorem free_congr {U V : Nat → Bool} : ∀ (n t : Nat), (∀ s, t ≤ s → s < t + n → U s = V s) → free U n t = free V n t
 | 0, _, _ => rfl
 | n + 1, t, h => by rw [free, free, h t (Nat.le_refl _) (by omega), free_congr n (t + 1) (fun s h1 b => h s (by omega) (by omega))]
def UsedAt (w : World) (g : Nat) (u : List Bool) : Prop := w.heap[g]? = some (.cells (u.map Value.bool).toArray 63 (0, 0))
theorem UsedAt.cell {w : World} {g : Nat} {u : List Bool} (h : UsedAt w g u) {i : Nat} (hi : i < u.length) : w.cell? ⟨g, i, none⟩ = some (.bool (u.getD i false)) := by
 rw [blk_cell h, List.getElem?_toArray, List.getElem?_map, List.getD_eq_getElem?_getD, List.getElem?_eq_getElem hi]; rfl
theorem UsedAt.frozen {w : World} {g : Nat} {u : List Bool} (h : UsedAt w g u) (i : Nat) : w.frozen? ⟨g, i, none⟩ = false := blk_frozen h i
theorem UsedAt.set {w : World} {g : Nat} {u : List Bool} (h : UsedAt w g u) (i : Nat) : UsedAt (w.setCell ⟨g, i, none⟩ (.bool true)) g (u.set i true) := by
 unfold UsedAt at h ⊢
 refine (blk_put h i (.bool true) rfl).trans ?_
 rw [List.setIfInBounds_toArray, List.map_set]
theorem index_f {k it : Nat} {p : Int} (b : 1 ≤ k) (l : k ≤ 13) (hit : it = idx k p) (hb : it < k + 64) : alloc_index.f p (k : Int) = some (it : Int) := by
 unfold idx at hit
 unfold alloc_index.f
 by_cases h : p < 0
 {
 rw [if_pos h] at hit ⊢
 rw [wrap64_id (n := (k : Int) - 1) (by omega) (by omega), wrap64_id (by omega) (by omega)]
 congr 1
 omega}
 {
 rw [if_neg h] at hit ⊢
 congr 1
 omega}
theorem used0 : (Array.replicate 77 (.bool false : Value)) = ((List.replicate 77 false).map Value.bool).toArray := by kernel_rfl
theorem used0L : ∀ t, (List.replicate 77 false).getD t false = false := fun t => by
 rw [List.getD_eq_getElem?_getD, List.getElem?_replicate]; split <;> rfl
theorem assignA (w : World) (nm : ByteArray) (U : Option Addr) (V z : Nat) (X : Option Addr) (n2 B : Nat) (rg : Int) (A4 : Option Addr) (n4 C : Nat) (kk : Int) (hF : FitsCall w (.agg #[.string nm, .slice U V z, .slice X n2 B, .int .i64 (rg : Int), .slice A4 n4 C]) 0) (hbad : kk < 1 ∨ 13 < kk) :
  Calls Tryd.prog 12 #[(.agg #[.string nm, .slice U V z, .slice X n2 B, .int .i64 (rg : Int), .slice A4 n4 C]), .int .i64 kk] w fun e w' => e = .returned (.tuple #[.slice none 0 0, .int .i64 6]) ∧ Below w.heap.size w w' := by
 have HFI := a_ hF; have HBD := a_ hbad; clear hF hbad; have a4 := Tryd.underlying26; go_enter Tryd.func12, Tryd.ntmps12
 by_cases h2 : kk < 1
 case pos => (
 have c2 : decide (kk < 1) = true := decide_eq_true h2
 clear h2; go_wp2_with (first | ((with_reducible refine gd_ 2 rfl ?_); refine q_box 2 26 #[.string nm, .slice U V z, .slice X n2 B, .int .i64 (rg : Int), .slice A4 n4 C] ?_; intro g1 D w1 p q; have y := a_ p; have b := a_ q; clear D p q; obtain ⟨G, I, J, L, M⟩ := q_c5 y.out) | (go_at_call 29; (with_reducible refine (HFI.out _ b.out).mono ?_); rintro e w2 ⟨rfl, l⟩; have E := a_ (blk_below y.out l); have F := a_ (below_then b.out b.out.size l); clear l; obtain ⟨N, O, R, S, T⟩ := q_c5 E.out))
 (try simp only [Exit.inBlock, Exit.then])
 refine bodyPost_ret (results_tmp2 rfl _ _ _) rfl ?_
 exact ⟨rfl, F.out⟩)
 case neg => (
 have h3 : 13 < kk := by have := HBD.out; omega
 have c2 : decide (kk < 1) = false := decide_eq_false h2
 have c3 : decide (13 < kk) = true := decide_eq_true h3
 clear h2 h3; go_wp2_with (first | ((with_reducible refine gd_ 2 rfl ?_); refine q_box 2 26 #[.string nm, .slice U V z, .slice X n2 B, .int .i64 (rg : Int), .slice A4 n4 C] ?_; intro g1 D w1 p q; have y := a_ p; have b := a_ q; clear D p q; obtain ⟨G, I, J, L, M⟩ := q_c5 y.out) | (go_at_call 29; (with_reducible refine (HFI.out _ b.out).mono ?_); rintro e w2 ⟨rfl, l⟩; have E := a_ (blk_below y.out l); have F := a_ (below_then b.out b.out.size l); clear l; obtain ⟨N, O, R, S, T⟩ := q_c5 E.out))
 (try simp only [Exit.inBlock, Exit.then])
 refine bodyPost_ret (results_tmp2 rfl _ _ _) rfl ?_
 exact ⟨rfl, F.out⟩)
def as_.T14 : Bool × List (List Nat × List Nat) := (true, [([], []), ([], []), ([0, 1], [0, 1]), ([], []), ([3], [3]), ([2, 4], [2, 4]), ([5], [5]), ([], [])])
def as_.B14 : List Nat := [0, 0, 3, 0, 8, 31, 63, 0]
theorem as_.tab14 : rtab .any (opsOf Tryd.f12 14) = as_.T14 := by kernel_rfl
theorem as_.bits14 : waitsOk as_.T14.2 as_.B14 = true := by kernel_rfl
theorem assignC (w : World) (nm : ByteArray) (A1 : Option Addr) (n1 a8 : Nat) (A2 : Option Addr) (n2 a9 : Nat) (rg : Nat) (A4 : Option Addr) (n4 b0 : Nat) (k : Nat) (C : List Nat) (oc : Nat) (RES : Option (List Int)) (hF : FitsCall w (.agg #[.string nm, .slice A1 n1 a8, .slice A2 n2 a9, .int .i64 (rg : Int), .slice A4 n4 b0]) 0) (hL : ClashCall w (.agg #[.string nm, .slice A1 n1 a8, .slice A2 n2 a9, .int .i64 (rg : Int), .slice A4 n4 b0]) rg C) (hOC : OccurCall w (.agg #[.string nm, .slice A1 n1 a8, .slice A2 n2 a9, .int .i64 (rg : Int), .slice A4 n4 b0]) oc) (g7 : 1 ≤ k) (g9 : k ≤ 13) (hrg : rg ≤ 2048) (hCl : C.length = rg) (hres : assignF k rg C (listOf oc rg) (List.replicate rg 0) 0 = RES) :
  Calls Tryd.prog 12 #[(.agg #[.string nm, .slice A1 n1 a8, .slice A2 n2 a9, .int .i64 (rg : Int), .slice A4 n4 b0]), .int .i64 (k : Int)] w fun e w' => AssignPost w RES e w' := by
 have HFI := a_ hF; have HCA := a_ hL; have HOC := a_ hOC; have HRG := a_ hrg; have HCL := a_ hCl; have HRES := a_ hres; have HK := a_ (And.intro g7 g9); have c2 : decide ((k : Int) < 1) = false := decide_eq_false (by omega)
 have c3 : decide (13 < (k : Int)) = false := decide_eq_false (by omega)
 have c2n : decide (k < 1) = false := decide_eq_false (by omega)
 have c3n : decide (13 < k) = false := decide_eq_false (by omega)
 obtain ⟨L, hL⟩ : ∃ L, L = listOf oc rg := ⟨_, rfl⟩; obtain ⟨us, hus⟩ : ∃ us, us = regsL oc rg := ⟨_, rfl⟩; have HUS : Aside0 (us = L.map Int.ofNat) := ⟨by rw [hus, hL]; rfl⟩
 have HUSE := a_ hus; have HLE := a_ hL; have HLL : Aside0 (us.length = L.length) := ⟨by rw [HUS.out, List.length_map]⟩
 have HUN : Aside0 (us.length ≤ rg) := ⟨by rw [hus]; exact regsL_len oc rg⟩
 clear hF hL hOC g7 g9 hrg hCl hres hus; have x9 := Tryd.underlying26; go_enter Tryd.func12, Tryd.ntmps12
 go_wp2_with (first | ((with_reducible refine gd_ 2 rfl ?_); refine q_box 2 26 #[.string nm, .slice A1 n1 a8, .slice A2 n2 a9, .int .i64 (rg : Int), .slice A4 n4 b0] ?_; intro g1 s6 w1 i0 i1; have i2 := a_ i0; have e6 := a_ i1; clear s6 i0 i1; obtain ⟨i3, i4, i5, i6, i7⟩ := q_c5 i2.out) | (go_at_call 29; (with_reducible refine (HFI.out _ e6.out).mono ?_); rintro e w2 ⟨rfl, e7⟩; have i8 := a_ (blk_below i2.out e7); have e8 := a_ (below_then e6.out e6.out.size e7); clear e7; obtain ⟨i9, j3, j5, j6, j7⟩ := q_c5 i8.out) | ((with_reducible refine gd_ 30 rfl ?_); refine Kd.R_make (Kd.int .i64) _ 3 rfl (N := 30) rfl 27 _ _ rfl (rg : Int) rfl rfl Tryd.underlying27 (.int .i64 0) 8 info3 rfl (by decide) (by omega) 0 (ok := fun _ => True) (okp := fun _ => True) rfl (fun _ hk => hk) trivial (Int.natCast_nonneg _) (by have := HRG.out; simp; omega) (Below.refl _ _) (Nat.le_refl _) ?_; intro vO w3 j8 e9 j9 k0; clear j9 k0; have s7 := a_ (Kd.R_lower j8 e8.out.size); have k1 := a_ (blk_below i8.out e9); have f0 := a_ (below_then e8.out e8.out.size e9); clear j8 e9; obtain ⟨k2, k3, k4, k5, k6⟩ := q_c5 k1.out) | ((with_reducible refine gd_ 8 rfl ?_); refine box_event ?hg (N := 8) ?hd (cs := (cellsL [0]).toArray) (t := 59) ?hr ?_; (case hd => rfl); (case hg => rfl); (case hr => rw [← zero_cells]; first | (go_simp; done) | (go_simp; rfl)); intro g8 k7 w4 hSA hbA; have f1 := a_ (show SetsAt w4 g8 [0] from hSA); have L8 : Aside0 (w.heap.size ≤ g8) := ⟨by rw [k7]; exact f0.out.size⟩; have s8 := a_ (Kd.R_below s7.out hbA); have k8 := a_ (blk_below k1.out hbA); have d2 := a_ (below_then f0.out f0.out.size hbA); clear k7 hSA hbA; obtain ⟨k9, l4, l5, l6, l7⟩ := q_c5 k8.out) | (go_at_call 30; (with_reducible refine (HCA.out _ d2.out).mono ?_); rintro e w5 ⟨gC, cC, rfl, hgC, hSC, b4⟩; have d6 := a_ hSC; have LC : Aside0 (w.heap.size ≤ gC) := ⟨Nat.le_trans d2.out.size hgC⟩; have N8C : Aside0 (g8 ≠ gC) := ⟨by have := f1.out.lt; omega⟩; have l8 := a_ (f1.out.below b4 f1.out.lt); have s9 := a_ (Kd.R_below s8.out b4); have l9 := a_ (blk_below k8.out b4); have f2 := a_ (below_then d2.out d2.out.size b4); clear hgC hSC b4; obtain ⟨n0, n3, n5, n6, n7⟩ := q_c5 l9.out) | (go_at_call 33; (with_reducible refine (HOC.out _ f2.out).mono ?_); rintro e w6 ⟨rfl, b1⟩; have b5 := a_ (d6.out.below b1 d6.out.lt); have f3 := a_ (l8.out.below b1 l8.out.lt); have t2 := a_ (Kd.R_below s9.out b1); have t3 := a_ (blk_below l9.out b1); have f4 := a_ (below_then f2.out f2.out.size b1); clear b1) | ((with_reducible refine gd_ 10 rfl ?_); refine box_event ?hg (N := 10) ?hd (cs := (cellsL [0]).toArray) (t := 59) ?hr ?_; (case hd => rfl); (case hg => rfl); (case hr => rw [← zero_cells]; first | (go_simp; done) | (go_simp; rfl)); intro T d7 w7 hSA hbA; have f5 := a_ (show SetsAt w7 T [0] from hSA); have t4 : Aside0 (w.heap.size ≤ T) := ⟨by rw [d7]; exact f4.out.size⟩; have n8 : Aside0 (g8 ≠ T) := ⟨by have := f3.out.lt; omega⟩; have n9 : Aside0 (gC ≠ T) := ⟨by have := b5.out.lt; omega⟩; have o0 := a_ (b5.out.below hbA b5.out.lt); have t5 := a_ (f3.out.below hbA f3.out.lt); have t6 := a_ (Kd.R_below t2.out hbA); have o1 := a_ (blk_below t3.out hbA); have t7 := a_ (below_then f4.out f4.out.size hbA); clear d7 hSA hbA) | ((with_reducible refine gate_store (t := 59) (p := 10) rfl ?_); refine put_event (g := T) (i := 0) (off := 0) (l := [0]) (s := oc) rfl rfl rfl ?hx rfl ?hy f5.out (by simp) ?_; (case hx => first | rfl | (go_simp; done) | (go_simp; rfl)); (case hy => first | rfl | (go_simp; done) | (go_simp; rfl)); intro w8 hgP hsP; have t8 := a_ (show SetsAt w8 T [oc] from hsP); have d8 := a_ (o0.out.grown hgP (fun e => n9.out (Option.some.inj e))); have o2 := a_ (t5.out.grown hgP (fun e => n8.out (Option.some.inj e))); have o3 := a_ (R_sets t6.out f5.out (by decide) hgP); have o4 := a_ (blk_grown o1.out hgP (fun e => apart59 o1.out f5.out (by decide) (Option.some.inj e))); have o5 := a_ (below_grown t7.out hgP t4.out); clear hgP hsP; obtain ⟨o6, o7, o8, o9, p2⟩ := q_c5 o4.out) | (go_at_call 31; (with_reducible refine (listC1 _ T rg oc t8.out HRG.out).mono ?_); rintro e w9 ⟨v9, rfl, d3, b2⟩; obtain ⟨Av, cv, rfl⟩ := Kd.R_slice d3; rw [← HUSE.out] at d3; have t9 := a_ (Kd.R_newR d3 o3.out); have p3 := a_ (d8.out.below b2 d8.out.lt); have v0 := a_ (o2.out.below b2 o2.out.lt); have v1 := a_ (Kd.R_below o3.out b2); have v2 := a_ (blk_below o4.out b2); have v3 := a_ (below_then o5.out o5.out.size b2); (try rw [← HUSE.out]); clear d3 b2))
 clear c2 c3 c2n c3n i3 i4 i5 i6 i7 i9 j3 j5 j6 j7 k2 k3 k4 k5 k6 k9 l4 l5 l6 l7 n0 n3 n5 n6 n7 o6 o7 o8 o9 p2; go_loopg [39] us.length (fun gk v4 wx => ∃ x : Int, v4 = .int .i64 x ∧ Aside0 (∃ (j : Nat) (out : List Int) (g : Nat), x = (j : Int) ∧ j + gk = us.length ∧ assignF k rg C (L.drop j) out g = RES ∧ out.length = rg ∧ Anv k rg out g ∧ Kd.R (Kd.int .i64) 3 wx w.heap.size (fun _ => True) vO out ∧ SetsAt wx g8 [g]) ∧ Aside0 (SetsAt wx gC C) ∧ Aside0 (wx.heap[g1]? = some (.cells #[.string nm, .slice A1 n1 a8, .slice A2 n2 a9, .int .i64 (rg : Int), .slice A4 n4 b0] 26 (0, 0))) ∧ Aside0 (Kd.R (Kd.int .i64) 3 wx w8.heap.size (fun k_ => True ∧ some k_ ≠ vO.ownBlock) (.slice Av us.length cv) us) ∧ Aside0 (Below w.heap.size w wx))
 case atStart => exact ⟨0, rfl, ⟨0, List.replicate rg 0, 0, rfl, by omega, by rw [List.drop_zero, HLE.out]; exact HRES.out, List.length_replicate, Anv.nil _ _ _, by have h_ := v1.out; rwa [Int.toNat_natCast] at h_, v0.out⟩, p3, v2, t9, v3⟩
 case round => (
 obtain ⟨x, rfl, ⟨j, out, g, hx, hj, hA, hOL, hAN, hO, hG⟩, HSCx, BKx, HRx, HBx⟩ := hrel; have HX := a_ hx; have HJ := a_ hj; have HA := a_ hA; have HOL := a_ hOL; have HAN := a_ hAN; have HOx := a_ hO; have HGx := a_ hG; cases gk with
 | zero => (
 have c1 : decide (x < (us.length : Int)) = false := decide_eq_false (by omega)
 have hRS : RES = some out := by rw [← hA, List.drop_of_length_le (by have := HLL.out; omega)]; rfl
 have HRS := a_ hRS; clear hx hj hA hOL hAN hO hG hRS; go_wp2
 (try simp only [Exit.inBlock, Exit.then])
 refine bodyPost_ret (results_tmp2 rfl _ _ _) rfl ?_
 rw [HRS.out]; exact ⟨_, rfl, HOx.out, HBx.out⟩)
 | succ gO => (
 have c1 : decide (x < (us.length : Int)) = true := decide_eq_true (by omega)
 have hjl : j < us.length := by omega
 have hjL : j < L.length := by have := HLL.out; omega
 have p0 : 0 ≤ x := by omega
 have q0 : x < (us.length : Int) := by omega
 obtain ⟨ad, e, hcu⟩ := Kd.at_int (Kd.R_reads' HRx.out).2.2 x p0 q0; cases e; obtain ⟨r, hr⟩ : ∃ r, r = rd us x := ⟨_, rfl⟩; rw [← hr] at hcu; obtain ⟨rn, hrn⟩ : ∃ rn, rn = L[j] := ⟨_, rfl⟩; have hrr : r = (rn : Int) := by rw [hr, hx, hrn]; simp [rd, HUS.out, hjL]
 have hmem := mem_listOf.1 (show rn ∈ listOf oc rg by rw [← HLE.out, hrn]; exact List.getElem_mem _)
 have HRN := a_ hrr; have HRR := a_ hmem.1; have RR : Aside0 (0 ≤ r ∧ r < 2048) := ⟨by have := HRG.out; omega⟩
 have hdr : L.drop j = rn :: L.drop (j + 1) := by rw [hrn]; exact List.drop_eq_getElem_cons hjL
 rw [hdr, assignF] at hA; have p4 := a_ hA; obtain ⟨go, cO, eO, hgo, p5, p6⟩ := Kd.R_form hO (by omega)
 cases eO; have GO := a_ hgo; obtain ⟨s, hs⟩ : ∃ s, s = C.getD rn 0 := ⟨_, rfl⟩; have HSE := a_ hs; have HXT : Aside0 (r.toNat * 32 = 32 * rn) := ⟨by omega⟩
 have HJR : Aside0 (rn < C.length) := ⟨by rw [HCL.out]; exact hmem.1⟩
 obtain ⟨M, hM⟩ : ∃ M, M = listOf s rg := ⟨_, rfl⟩; obtain ⟨B, a1⟩ : ∃ B, B = regsL s rg := ⟨_, rfl⟩; have HVS : Aside0 (B = M.map Int.ofNat) := ⟨by rw [a1, hM]; rfl⟩
 have HVSE := a_ a1; have HME := a_ hM; have HVL : Aside0 (B.length = M.length) := ⟨by rw [HVS.out, List.length_map]⟩
 have HVN : Aside0 (B.length ≤ rg) := ⟨by rw [a1]; exact regsL_len s rg⟩
 have hwx : wrap64 (x + 1) = x + 1 := wrap64_id (by omega) (by have := HUN.out; have := HRG.out; omega)
 have y8 : (0 ≤ r) = True := eq_true RR.out.1
 have rrg : (r < (rg : Int)) = True := eq_true (by omega)
 have rro : (r < (out.length : Int)) = True := eq_true (by omega)
 replace p0 := eq_true p0; replace q0 := eq_true q0; obtain ⟨p7, p8, p9, q2, q3⟩ := q_c5 BKx.out; clear hx hj hA hOL hAN hO hG hjl hr hrn hrr hmem hdr hgo p5 p6 hs hM a1; go_wp2_with (first | ((with_reducible refine gd_ 13 rfl ?_); refine box_event ?hg (N := 13) ?hd (cs := ((List.replicate 77 false).map Value.bool).toArray) (t := 63) ?hr ?_; (case hd => rfl); (case hg => rfl); (case hr => rw [← used0]; first | (go_simp; done) | (go_simp; rfl)); intro U d9 f6 e0 b6; have q4 := a_ (show UsedAt f6 U (List.replicate 77 false) from e0); have e1 := a_ b6; have q5 : Aside0 (wr.heap.size ≤ U) := ⟨by rw [d9]; exact Nat.le_refl _⟩; have e2 := a_ (blk_below BKx.out b6); clear d9 e0 b6; obtain ⟨q6, q7, q8, e3, q9⟩ := q_c5 e2.out))
 go_upto_region 14 with (fail)
 refine q_s 8 (S := fun W' => W'.cell? ⟨g1, 3, none⟩ = some (.int .i64 (rg : Int))) e3 (fun V => ?_)
 refine with_tabW as_.tab14 as_.bits14 (fun G r0 => ?_)
 refine qv_ 0 G ?_
 refine qv_ 1 G ?_
 refine qv_ 2 G ?_
 refine qv_ 3 G ?_
 refine qv_ 7 G ?_
 refine qt_ 4 G r0 V ?_
 refine q_o 5 G (fun K hK => ?_)
 refine goes_ Tryd.func31 (by kernel_rfl) rfl #[.pointer (some ⟨gC, r.toNat * 32, none⟩), .int .i64 (rg : Int)] (by rfl) rfl rfl (by (try simp only [List.map_toArray, List.map_cons, List.map_nil]); first | done | rfl | (simp; done)) ?_
 refine (listC2 _ gC _ rn rg C s HXT.out (HSCx.out.below e1.out HSCx.out.lt).drew HJR.out HRG.out HSE.out.symm).mono ?_
 rintro e v7 ⟨y9, rfl, d4, a2⟩
 refine ⟨_, rfl, ?_⟩
 rw [← HVSE.out] at d4; have r1 := a_ (below_step (below_drew1 e1.out) a2); have r2 := a_ (blk_below (blk_drew e2.out) a2); have r3 : Aside0 (UsedAt v7 U (List.replicate 77 false)) := ⟨blk_below (blk_drew q4.out) a2⟩
 obtain ⟨Aw, cw, rfl⟩ := Kd.R_slice d4; have r4 := a_ d4; clear d4 a2; refine q_nk hK.out (q_b r2.out 3) (fun V => ?_)
 clear hK K
 refine qv_ 6 G ?_
 refine done_ (done_of G.out (by kernel_rfl)) ?_
 clear G r0 V p7 p8 p9 q2 q3 q6 q7 q8 e3 q9 c1 hcu; obtain ⟨wO, hwO⟩ : ∃ wO, wO = wr := ⟨_, rfl⟩; subst hwO; go_wp2
 go_loopg [50] B.length (fun gz v8 wz => ∃ y : Int, v8 = .int .i64 y ∧ Aside0 (∃ i : Nat, y = (i : Int) ∧ i + gz = B.length ∧ UsedAt wz U (usedL k g out (M.take i) (List.replicate 77 false))) ∧ Aside0 (Below wO.heap.size wO wz) ∧ Aside0 (Kd.R (Kd.int .i64) 3 wz f6.drew.heap.size (fun _ => True) (.slice Aw B.length cw) B))
 case atStart => exact ⟨0, rfl, ⟨0, rfl, by omega, r3.out⟩, r1, r4⟩
 case round => (
 obtain ⟨y, rfl, ⟨i, hy, hi, hU⟩, HQz, HRz⟩ := hrel; have HY := a_ hy; have HI := a_ hi; have HUz := a_ hU; cases gk with
 | succ gQ => (
 have c1 : decide (y < (B.length : Int)) = true := decide_eq_true (by omega)
 have hil : i < B.length := by omega
 have hiM : i < M.length := by have := HVL.out; omega
 have p1 : 0 ≤ y := by omega
 have q1 : y < (B.length : Int) := by omega
 obtain ⟨adu, e, hcu⟩ := Kd.at_int (Kd.R_reads' HRz.out).2.2 y p1 q1; cases e; obtain ⟨u, hu⟩ : ∃ u, u = rd B y := ⟨_, rfl⟩; rw [← hu] at hcu; obtain ⟨q, hq⟩ : ∃ q, q = M[i] := ⟨_, rfl⟩; have huq : u = (q : Int) := by rw [hu, hy, hq]; simp [rd, HVS.out, hiM]
 have hmem := mem_listOf.1 (show q ∈ listOf s rg by rw [← HME.out, hq]; exact List.getElem_mem _)
 have HU : Aside0 (0 ≤ u ∧ u < 2048) := ⟨by have := HRG.out; omega⟩
 obtain ⟨ul, hul⟩ : ∃ ul, ul = usedL k g out (M.take i) (List.replicate 77 false) := ⟨_, rfl⟩; have HULL : Aside0 (ul.length = 77) := ⟨by rw [hul, usedL_len, List.length_replicate]⟩
 have HUT := usedL_take k g out (List.replicate 77 false) hiM; rw [← hq, ← hul] at HUT; rw [← hul] at hU; have HUz := a_ hU; obtain ⟨hb_, hhb⟩ : ∃ hb_, g.testBit q = hb_ := ⟨_, rfl⟩; have HHB : Aside0 (g.testBit u.toNat = hb_) := ⟨by rw [huq, Int.toNat_natCast]; exact hhb⟩
 have HGz := a_ (HGx.out.below HQz.out HGx.out.lt); have hwy : wrap64 (y + 1) = y + 1 := wrap64_id (by omega) (by have := HVN.out; have := HRG.out; omega)
 have HOz := a_ (Kd.R_below HOx.out HQz.out); have d5 : 0 ≤ u := by omega
 have uuo : u < (out.length : Int) := by have := HOL.out; omega
 replace p1 := eq_true p1; replace q1 := eq_true q1; cases hb_ with
 | false => (
 rw [if_neg (by rw [hhb]; simp)] at HUT
 have HUT := a_ HUT; clear hy hi hU hil hiM hu hq huq hmem hul hhb d5 uuo; go_wp2_with (first | (go_at_call 34; (with_reducible refine (hasC1 _ g8 u g false HGz.out HU.out.1 HU.out.2 HHB.out).mono ?_); rintro e x2 ⟨rfl, D⟩; have a3 := a_ (below_then HQz.out HQz.out.size D); have X := a_ (blk_below HUz.out D); have b7 := a_ (Kd.R_below HRz.out D); clear D ))
 go_roundg gQ
 case measure => omega
 case rel => exact ⟨y + 1, by go_num, ⟨i + 1, by rw [HY.out]; rfl, by have := HI.out; omega, by rw [HUT.out]; exact X.out⟩, a3, b7⟩)
 | true => (
 rw [if_pos hhb] at HUT; obtain ⟨it, hit⟩ : ∃ it, it = idx k (out.getD q 0) := ⟨_, rfl⟩; rw [← hit] at HUT; obtain ⟨pq, hpq⟩ : ∃ pq, pq = out.getD q 0 := ⟨_, rfl⟩; rw [← hpq] at hit; have hib := (HAN.out q hhb).2; rw [← hpq, ← hit] at hib; have HIT : Aside0 (alloc_index.f pq (k : Int) = some (it : Int)) := ⟨index_f HK.out.1 HK.out.2 hit hib⟩
 have HITL : Aside0 (it < ul.length) := ⟨by rw [HULL.out]; have := HK.out; omega⟩
 have z0 : (0 ≤ (it : Int)) = True := eq_true (by omega)
 have z1 : ((it : Int) < 77) = True := eq_true (by have := HK.out; omega)
 have it1n : (it < 77) = True := eq_true (by have := HK.out; omega)
 have hco := (Kd.R_celln 0 HOz.out u d5 uuo).1; have HPQ : Aside0 (rdOf 0 out u = pq) := ⟨by rw [hpq, huq]; simp [rdOf]⟩
 rw [HPQ.out] at hco; have HUT := a_ HUT; replace d5 := eq_true d5; replace uuo := eq_true uuo; clear hy hi hU hil hiM hu hq huq hmem hul hhb hit hpq hib; go_wp2_with (first | (go_at_call 34; (with_reducible refine (hasC1 _ g8 u g true HGz.out HU.out.1 HU.out.2 HHB.out).mono ?_); rintro e x2 ⟨rfl, D⟩; have a3 := a_ (below_then HQz.out HQz.out.size D); have X := a_ (blk_below HUz.out D); have b7 := a_ (Kd.R_below HRz.out D); have x3 := cell_old hco D; clear D) | (go_at_call 35; (with_reducible refine (alloc_index.calls pq (k : Int) (it : Int) _ HIT.out).mono ?_); rintro e x4 ⟨rfl, e4⟩; have a4 := Drawn0.below e4; have r5 := a_ (below_then a3.out a3.out.size a4); have a5 := a_ (blk_below X.out a4); have r6 := a_ (Kd.R_below b7.out a4); clear a4 e4; have y3 := UsedAt.cell (u := ul) a5.out HITL.out; have y4 := UsedAt.frozen (u := ul) a5.out it) | ((with_reducible refine gate_store (t := 4) (p := 62) rfl ?_); refine store_event (t := 4) (p := 62) (v := .const (.bool true)) (w1 := (x4.setCell ⟨U, it, none⟩ (.bool true))) ?hg ?ho ?hn ?hr ?_; (case ho => rfl); (case hg => rfl); (case hn => rfl); (case hr => first | (go_simp; done) | (go_simp; rfl)); intro f7 a6; have r7 : Aside0 (Below wO.heap.size wO f7) := ⟨by rw [a6]; exact below_setg r5.out q5.out⟩; have r8 : Aside0 (UsedAt f7 U (ul.set it true)) := ⟨by rw [a6]; exact UsedAt.set a5.out it⟩; have r9 : Aside0 (Kd.R (Kd.int .i64) 3 f7 f6.drew.heap.size (fun _ => True) (.slice (some adu) B.length cw) B) := ⟨by rw [a6]; exact Kd.R_over' (v := .slice (some ⟨U, 0, none⟩) 0 0) r6.out (fun k_ hk_ => by obtain rfl := Option.some.inj hk_; exact ⟨_, a5.out⟩) (by decide) (grown_set _ _ _ _)⟩; clear a6))
 go_roundg gQ
 case measure => omega
 case rel => exact ⟨y + 1, by go_num, ⟨i + 1, by rw [HY.out]; rfl, by have := HI.out; omega, by rw [HUT.out]; exact r8.out⟩, r7, r9⟩))
 | zero => (
 have c1 : decide (y < (B.length : Int)) = false := decide_eq_false (by omega)
 obtain ⟨ul, hul⟩ : ∃ ul, ul = usedL k g out M (List.replicate 77 false) := ⟨_, rfl⟩; have HULL : Aside0 (ul.length = 77) := ⟨by rw [hul, usedL_len, List.length_replicate]⟩
 rw [List.take_of_length_le (by have := HVL.out; omega), ← hul] at hU
 have HUF : Aside0 (free (usedBy k rg C out g rn) (k + 64) 0 = free (fun t => ul.getD t false) (k + 64) 0) := ⟨free_congr _ _ (fun t _ _ => by
  rw [hul, usedL_get _ _ _ _ _ _ (fun q _ hg => by rw [List.length_replicate]; have := (HAN.out q hg).2; have := HK.out; omega), used0L, Bool.false_or, usedBy, HME.out, HSE.out])⟩
 have HUz := a_ hU; clear hy hi hU hul; obtain ⟨wP, hwP⟩ : ∃ wP, wP = wr := ⟨_, rfl⟩; subst hwP; go_wp2
 have z2 : wrap64 ((k : Int) + 64) = (k : Int) + 64 := wrap64_id (by omega) (by have := HK.out; omega)
 go_loopg [16] (k + 64) (fun gz x5 wz => ∃ t : Int, x5 = .int .i64 t ∧ Aside0 (∃ m : Nat, t = (m : Int) ∧ m + gz = k + 64 ∧ free (usedBy k rg C out g rn) (k + 64) 0 = free (fun t => ul.getD t false) gz m) ∧ Aside0 (Below wP.heap.size wP wz))
 case atStart => exact ⟨0, rfl, ⟨0, rfl, by omega, HUF.out⟩, ⟨Below.refl _ _⟩⟩
 case round => (
 obtain ⟨t, rfl, ⟨m, ht, hm, hf⟩, HP⟩ := hrel; have HTM := a_ ht; have HM := a_ hm; have HQw := a_ (below_then HQz.out HQz.out.size HP.out); have HSCz := a_ (HSCx.out.below HQw.out HSCx.out.lt); have BKz := a_ (blk_below BKx.out HQw.out); have HRRz := a_ (Kd.R_below HRx.out HQw.out); have HBz := a_ (below_then HBx.out HBx.out.size HQw.out); have HGz := a_ (HGx.out.below HQw.out HGx.out.lt); have HOz := a_ (Kd.R_below HOx.out HQw.out); cases gk with
 | zero => (
 have c1 : decide (t < (k : Int) + 64) = false := decide_eq_false (by omega)
 have c5 : (t == (k : Int) + 64) = true := beq_iff_eq.mpr (by omega)
 have HRS : Aside0 (RES = none) := ⟨by rw [← p4.out, hf, free, if_pos (by omega)]⟩
 clear ht hm hf; go_wp2
 (try simp only [Exit.inBlock, Exit.then])
 refine bodyPost_ret (results_tmp2 rfl _ _ _) rfl ?_
 rw [HRS.out]; exact ⟨rfl, HBz.out⟩)
 | succ gT => (
 have c1 : decide (t < (k : Int) + 64) = true := decide_eq_true (by omega)
 have hmk : m < k + 64 := by omega
 have t0 : (0 ≤ t) = True := eq_true (by omega)
 have t1 : (t < 77) = True := eq_true (by have := HK.out; omega)
 have hcell := UsedAt.cell (u := ul) (blk_below HUz.out HP.out) (i := m) (by rw [HULL.out]; have := HK.out; omega)
 obtain ⟨ub, hub⟩ : ∃ ub, ub = ul.getD m false := ⟨_, rfl⟩; rw [← hub, show m = t.toNat by omega] at hcell
 rw [show free (fun t => ul.getD t false) (gT + 1) m = if ub = true then free (fun t => ul.getD t false) gT (m + 1) else m from by rw [hub]; rfl] at hf
 cases ub with
 | true => (
 rw [if_pos rfl] at hf; have HFR := a_ hf; have hwt : wrap64 (t + 1) = t + 1 := wrap64_id (by omega) (by have := HK.out; omega)
 clear ht hm hf hub hmk; go_wp2
 go_roundg gT
 case measure => omega
 case rel => exact ⟨t + 1, by go_num, ⟨m + 1, by rw [HTM.out]; rfl, by have := HM.out; omega, HFR.out⟩, HP⟩)
 | false => (
 rw [if_neg (by simp)] at hf
 have hA := p4.out; rw [hf, if_neg (by omega)] at hA
 have s0 := a_ hA; have HMK := a_ hmk; have c5 : (t == (k : Int) + 64) = false := beq_eq_false_iff_ne.mpr (by omega)
 have hcr := (Kd.R_celln 0 HOz.out r RR.out.1 (by have := HOL.out; have := HRR.out; have := HRN.out; omega)).1
 have hfr := (Kd.R_celln 0 HOz.out r RR.out.1 (by have := HOL.out; have := HRR.out; have := HRN.out; omega)).2
 have HRT : Aside0 (r.toNat = rn) := ⟨by have := HRN.out; omega⟩
 have ROL : Aside0 (r < (out.length : Int)) := ⟨by have := HOL.out; have := HRR.out; have := HRN.out; omega⟩
 by_cases hge : (k : Int) ≤ t
 case pos => (
 have c6 : decide ((k : Int) ≤ t) = true := decide_eq_true hge
 obtain ⟨pl, hpl⟩ : ∃ pl, pl = (k : Int) - 1 - t := ⟨_, rfl⟩; have HPL : Aside0 (placeOf k m = pl) := ⟨by rw [placeOf, if_neg (by omega), hpl]; omega⟩
 have x6 : Aside0 (wrap64 ((k : Int) - 1) = (k : Int) - 1) := ⟨wrap64_id (by omega) (by have := HK.out; omega)⟩
 have x7 : Aside0 (wrap64 ((k : Int) - 1 - t) = pl) := ⟨by rw [hpl]; exact wrap64_id (by have := HK.out; omega) (by have := HK.out; omega)⟩
 have z4 := x6.out; have z5 := x7.out; clear ht hm hf hub hmk hA hge hpl; go_wp2_with (first | ((with_reducible refine gate_store (t := 3) (p := 82) rfl ?_); refine store_event (t := 3) (p := 82) (v := .tmp 81) (w1 := (wr.setCell ⟨go, r.toNat, none⟩ (.int .i64 t))) ?hg ?ho ?hn ?hr ?_; (case ho => rfl); (case hg => rfl); (case hn => rfl); (case hr => first | (go_simp; done) | (go_simp; rfl)); intro E hw_; have hg_ : wr.grownBy E (some go) := (by rw [hw_]; exact (Kd.R_putg HOz.out r t).2); have z := a_ (show Kd.R (Kd.int .i64) 3 E w.heap.size (fun _ => True) (.slice (some ⟨go, 0, none⟩) out.length cO) (out.set r.toNat t) from (by rw [hw_]; exact (Kd.R_putg HOz.out r t).1)); have F : Aside0 (SetsAt E g8 [g]) := ⟨blk_grown HGz.out hg_ (Kd.R_ne HOz.out HGz.out (by decide))⟩; have I : Aside0 (SetsAt E gC C) := ⟨blk_grown HSCz.out hg_ (Kd.R_ne HOz.out HSCz.out (by decide))⟩; have J := a_ (blk_grown BKz.out hg_ (Kd.R_ne HOz.out BKz.out (by decide))); have b8 := a_ (Kd.R_grown HRRz.out hg_ (fun _ h_ => h_.2)); have b9 : Aside0 (Below w.heap.size w E) := ⟨by rw [hw_]; exact below_set HBz.out GO.out⟩; clear hg_ hw_; have s1 := (Kd.R_celln 0 z.out r RR.out.1 ROL.out).1; have s2 := (Kd.R_celln 0 z.out r RR.out.1 ROL.out).2) | ((with_reducible refine gate_store (t := 3) (p := 92) rfl ?_); refine store_event (t := 3) (p := 92) (v := .tmp 91) (w1 := (E.setCell ⟨go, r.toNat, none⟩ (.int .i64 pl))) ?hg ?ho ?hn ?hr ?_; (case ho => rfl); (case hg => rfl); (case hn => rfl); (case hr => first | (go_simp; done) | (go_simp; rfl)); intro c0 hw_; have hg_ : E.grownBy c0 (some go) := (by rw [hw_]; exact (Kd.R_putg z.out r pl).2); have s3 := a_ (show Kd.R (Kd.int .i64) 3 c0 w.heap.size (fun _ => True) (.slice (some ⟨go, 0, none⟩) out.length cO) ((out.set r.toNat t).set r.toNat pl) from (by rw [hw_]; exact (Kd.R_putg z.out r pl).1)); have a7 : Aside0 (SetsAt c0 g8 [g]) := ⟨blk_grown F.out hg_ (Kd.R_ne z.out F.out (by decide))⟩; have f8 : Aside0 (SetsAt c0 gC C) := ⟨blk_grown I.out hg_ (Kd.R_ne z.out I.out (by decide))⟩; have e5 := a_ (blk_grown J.out hg_ (Kd.R_ne z.out J.out (by decide))); have s4 := a_ (Kd.R_grown b8.out hg_ (fun _ h_ => h_.2)); have s5 : Aside0 (Below w.heap.size w c0) := ⟨by rw [hw_]; exact below_set b9.out GO.out⟩; clear hg_ hw_) | (go_at_call 36; (with_reducible refine (putC1 _ g8 r g a7.out RR.out.1 RR.out.2).mono ?_); rintro e x8 ⟨rfl, b, O⟩; have c4 := a_ O; have c8 := a_ (R_sets s3.out a7.out (by decide) b); have a0 := a_ (f8.out.grown b (fun e => N8C.out (Option.some.inj e).symm)); have c9 := a_ (blk_grown e5.out b (fun e => apart59 e5.out a7.out (by decide) (Option.some.inj e))); have d0 := a_ (R_sets s4.out a7.out (by decide) b); have d1 := a_ (below_grown s5.out b L8.out); clear b O))
 go_roundg gO
 case measure => omega
 case rel => exact ⟨x + 1, by go_num, ⟨j + 1, out.set rn (placeOf k m), put g rn, by rw [HX.out]; rfl, by have := HJ.out; omega, s0.out, by rw [List.length_set]; exact HOL.out, Anv.step HK.out.1 HAN.out HRR.out HOL.out HMK.out, by have h_ := c8.out; rw [List.set_set, HRT.out, ← HPL.out] at h_; exact h_, by have h_ := c4.out; rw [HRT.out] at h_; exact h_⟩, a0, c9, d0, d1⟩)
 case neg => (
 have c6 : decide ((k : Int) ≤ t) = false := decide_eq_false hge
 have HPL : Aside0 (placeOf k m = t) := ⟨by rw [placeOf, if_pos (by omega)]; omega⟩
 clear ht hm hf hub hmk hA hge; go_wp2_with (first | ((with_reducible refine gate_store (t := 3) (p := 82) rfl ?_); refine store_event (t := 3) (p := 82) (v := .tmp 81) (w1 := (wr.setCell ⟨go, r.toNat, none⟩ (.int .i64 t))) ?hg ?ho ?hn ?hr ?_; (case ho => rfl); (case hg => rfl); (case hn => rfl); (case hr => first | (go_simp; done) | (go_simp; rfl)); intro E hw_; have hg_ : wr.grownBy E (some go) := (by rw [hw_]; exact (Kd.R_putg HOz.out r t).2); have z := a_ (show Kd.R (Kd.int .i64) 3 E w.heap.size (fun _ => True) (.slice (some ⟨go, 0, none⟩) out.length cO) (out.set r.toNat t) from (by rw [hw_]; exact (Kd.R_putg HOz.out r t).1)); have F : Aside0 (SetsAt E g8 [g]) := ⟨blk_grown HGz.out hg_ (Kd.R_ne HOz.out HGz.out (by decide))⟩; have I : Aside0 (SetsAt E gC C) := ⟨blk_grown HSCz.out hg_ (Kd.R_ne HOz.out HSCz.out (by decide))⟩; have J := a_ (blk_grown BKz.out hg_ (Kd.R_ne HOz.out BKz.out (by decide))); have b8 := a_ (Kd.R_grown HRRz.out hg_ (fun _ h_ => h_.2)); have b9 : Aside0 (Below w.heap.size w E) := ⟨by rw [hw_]; exact below_set HBz.out GO.out⟩; clear hg_ hw_; have s1 := (Kd.R_celln 0 z.out r RR.out.1 ROL.out).1; have s2 := (Kd.R_celln 0 z.out r RR.out.1 ROL.out).2) | (go_at_call 36; (with_reducible refine (putC1 _ g8 r g F.out RR.out.1 RR.out.2).mono ?_); rintro e x8 ⟨rfl, b, O⟩; have c4 := a_ O; have c8 := a_ (R_sets z.out F.out (by decide) b); have a0 := a_ (I.out.grown b (fun e => N8C.out (Option.some.inj e).symm)); have c9 := a_ (blk_grown J.out b (fun e => apart59 J.out F.out (by decide) (Option.some.inj e))); have d0 := a_ (R_sets b8.out F.out (by decide) b); have d1 := a_ (below_grown b9.out b L8.out); clear b O))
 go_roundg gO
 case measure => omega
 case rel => exact ⟨x + 1, by go_num, ⟨j + 1, out.set rn (placeOf k m), put g rn, by rw [HX.out]; rfl, by have := HJ.out; omega, s0.out, by rw [List.length_set]; exact HOL.out, Anv.step HK.out.1 HAN.out HRR.out HOL.out HMK.out, by have h_ := c8.out; rw [HRT.out, ← HPL.out] at h_; exact h_, by have h_ := c4.out; rw [HRT.out] at h_; exact h_⟩, a0, c9, d0, d1⟩))))))))
end Go.Proofs.YtefhpdcafdhcaaaDoor.S
end
section
namespace Go.Proofs.YtefhpdcafdhcaaaDoor.S
open Go Go.RowKit Go.Proofs Go.Proofs.YtefhpdcafdhcaaaDoorW.PrintWords Go.Proofs.YtefhpdcafdhcaaaDoorW.PrintLast Go.Proofs.YtefhpdcafdhcaaaDoorW.PrintMore Go.Proofs.YtefhpdcafdhcaaaDoor Go.Proofs.YtefhpdcafdhcaaaDoor.A Go.Proofs.YtefhpdcafdhcaaaDoor.V FlowM
set_option linter.unusedVariables false
set_option linter.unusedSimpArgs false
def allocOK (rg : Int) (N : List S69) : Prop := (0 ≤ rg ∧ rg ≤ 2000) ∧ (0 < N.length ∧ N.length ≤ 1000000) ∧ (∀ n ∈ N, n.f0.length ≤ 1000000) ∧ FineG rg.toNat N
instance (m : Nat) (x : S71) : Decidable (Fine m x) := by unfold Fine; infer_instance
instance (m n : Nat) (x : S69) : Decidable (FineNd m n x) := by unfold FineNd; infer_instance
instance (rg : Int) (N : List S69) : Decidable (allocOK rg N) := by unfold allocOK FineG; infer_instance
def liveR (k : Nat) (a0_0 : ByteArray) (l0_1 : List (S83)) (l0_2 : List (S85)) (a0_3 : Int) (l0_4 : List (S69)) : Option (List Nat) := if allocOK a0_3 l0_4 then (flow_Successors.f k a0_0 l0_1 l0_2 a0_3 l0_4).bind fun p => if p = (l0_4.map next, 0) then liveF l0_4 k (List.replicate l0_4.length 0) else none else none
theorem sweep_len (N : List S69) : ∀ (i : Nat) (I : List Nat) (c : Bool), (sweep N i I c).1.length = I.length
 | 0, _, _ => rfl
 | i + 1, I, c => by
  rw [sweep]; split
  ·exact sweep_len N i I c
  ·rw [sweep_len N i, List.length_set]
theorem liveF_len {N : List S69} : ∀ {k : Nat} {I R : List Nat}, liveF N k I = some R → R.length = I.length
 | 0, _, _, h => by cases h
 | k + 1, I, R, h => by
  rw [liveF] at h; split at h
  ·rw [liveF_len h, sweep_len]
  ·rw [← Option.some.inj h, sweep_len]
theorem sweep_lt {m : Nat} {N : List S69} (hF : FineG m N) : ∀ (i : Nat) (I : List Nat) (c : Bool), i ≤ N.length → (∀ s ∈ I, s < 2 ^ m) → ∀ s ∈ (sweep N i I c).1, s < 2 ^ m
 | 0, _, _, _, h => h
 | i + 1, I, c, hi, h => by {
 rw [sweep]; split
 ·exact sweep_lt hF i I c (by omega) h
 {
 refine sweep_lt hF i _ true (by omega) fun s hs => ?_
 rcases List.mem_or_eq_of_mem_set hs with h1 | h1
 ·exact h s h1
 ·rw [h1]; exact transfer_lt (FineG.at hF (by omega)) _ h}}
theorem liveF_lt {m : Nat} {N : List S69} (hF : FineG m N) : ∀ {k : Nat} {I R : List Nat}, (∀ s ∈ I, s < 2 ^ m) → liveF N k I = some R → ∀ s ∈ R, s < 2 ^ m
 | 0, _, _, _, h => by cases h
 | k + 1, I, R, hI, h => by
  rw [liveF] at h; split at h
  ·exact liveF_lt hF (sweep_lt hF _ _ _ (Nat.le_refl _) hI) h
  ·rw [← Option.some.inj h]; exact sweep_lt hF _ _ _ (Nat.le_refl _) hI
structure LiveG (k : Nat) (a0_0 : ByteArray) (l0_1 : List (S83)) (l0_2 : List (S85)) (a0_3 : Int) (l0_4 : List (S69)) (R : List Nat) : Prop where
 r0 : 0 ≤ a0_3
 r1 : a0_3 ≤ 2000
 n0 : 0 < l0_4.length
 n1 : l0_4.length ≤ 1000000
 ns : ∀ n ∈ l0_4, n.f0.length ≤ 1000000
 fine : FineG a0_3.toNat l0_4
 succ : flow_Successors.f k a0_0 l0_1 l0_2 a0_3 l0_4 = some (l0_4.map next, 0)
 live : liveF l0_4 k (List.replicate l0_4.length 0) = some R
theorem LiveG.of {k : Nat} {a0_0 : ByteArray} {l0_1 : List (S83)} {l0_2 : List (S85)} {a0_3 : Int} {l0_4 : List (S69)} {R : List Nat} (h : liveR k a0_0 l0_1 l0_2 a0_3 l0_4 = some R) : LiveG k a0_0 l0_1 l0_2 a0_3 l0_4 R := by
 unfold liveR at h
 split at h
 {
 rename_i hk
 obtain ⟨p, hp, h⟩ := Option.bind_eq_some_iff.1 h; split at h
 {
 rename_i he
 obtain ⟨⟨h1, b⟩, ⟨l, q⟩, y, h6⟩ := hk; exact ⟨h1, b, l, q, y, h6, by rw [hp, he], h⟩}
 ·cases h}
 ·cases h
section
variable {k : Nat} {a0_0 : ByteArray} {l0_1 : List (S83)} {l0_2 : List (S85)} {a0_3 : Int} {l0_4 : List (S69)} {R : List Nat}
theorem LiveG.len (h : LiveG k a0_0 l0_1 l0_2 a0_3 l0_4 R) : R.length = l0_4.length := by rw [liveF_len h.live, List.length_replicate]
theorem LiveG.lt (h : LiveG k a0_0 l0_1 l0_2 a0_3 l0_4 R) : ∀ s ∈ R, s < 2 ^ (64 * 32) := fun s hs => q_pw (liveF_lt h.fine (fun s hs => by rw [(List.mem_replicate.1 hs).2]; exact Nat.two_pow_pos _) h.live s hs) (by have := h.r0; have := h.r1; omega)
theorem LiveG.next (h : LiveG k a0_0 l0_1 l0_2 a0_3 l0_4 R) : ∀ row ∈ l0_4.map FlowM.next, row.length ≤ 1000000 ∧ ∀ q ∈ row, 0 ≤ q ∧ q < (R.length : Int) := by
 intro row hr
 obtain ⟨n, hn, rfl⟩ := List.mem_map.1 hr; refine ⟨Nat.le_trans (next_len n) (by omega), fun q hq => ?_⟩
 rw [h.len]; exact (h.fine n hn).2.2 q hq
variable {A0_1 : Option Addr} {c0_1 : Nat} {A0_2 : Option Addr} {c0_2 : Nat} {A0_4 : Option Addr} {c0_4 : Nat} {w : World}
theorem live_call (b : Kd.C k83 w A0_1 l0_1.length l0_1) (l : l0_1.length ≤ c0_1) (p : Kd.C k85 w A0_2 l0_2.length l0_2) (q : l0_2.length ≤ c0_2) (y : Kd.C k69 w A0_4 l0_4.length l0_4) (z : l0_4.length ≤ c0_4) (hT : Tab w) (h : LiveG k a0_0 l0_1 l0_2 a0_3 l0_4 R) : LiveCall w (.agg #[.string a0_0, .slice A0_1 l0_1.length c0_1, .slice A0_2 l0_2.length c0_2, .int .i64 (a0_3.toNat : Int), .slice A0_4 l0_4.length c0_4]) R.length R (l0_4.map FlowM.next) := by
 intro w0 hb
 rw [h.len, show ((a0_3.toNat : Nat) : Int) = a0_3 from Int.toNat_of_nonneg h.r0]; refine (liveC k a0_0 A0_1 c0_1 l0_1 A0_2 c0_2 l0_2 a0_3 A0_4 c0_4 l0_4 w0 k R (Kd.C_below b hb) l (Kd.C_below p hb) q (Kd.C_below y hb) z h.succ (hT.below hb) a0_3.toNat (by have := h.r0; have := h.r1; omega) h.fine h.n1 h.ns h.live).mono ?_
 rintro e w' ⟨g, c, B, h1, D, E, F, G⟩
 exact ⟨g, c, B, h1, D, E, F, G⟩
theorem fits_call (b : Kd.C k83 w A0_1 l0_1.length l0_1) (l : l0_1.length ≤ c0_1) (p : Kd.C k85 w A0_2 l0_2.length l0_2) (q : l0_2.length ≤ c0_2) (y : Kd.C k69 w A0_4 l0_4.length l0_4) (z : l0_4.length ≤ c0_4) (hT : Tab w) {B : Int} (D : 0 ≤ a0_3) (h : alloc_fits.f k a0_0 l0_1 l0_2 a0_3 l0_4 = some B) : FitsCall w (.agg #[.string a0_0, .slice A0_1 l0_1.length c0_1, .slice A0_2 l0_2.length c0_2, .int .i64 (a0_3.toNat : Int), .slice A0_4 l0_4.length c0_4]) B := by
 intro w0 hb
 rw [show ((a0_3.toNat : Nat) : Int) = a0_3 from Int.toNat_of_nonneg D]; exact alloc_fits.calls k a0_0 A0_1 c0_1 l0_1 A0_2 c0_2 l0_2 a0_3 A0_4 c0_4 l0_4 B w0 (Kd.C_below b hb) l (Kd.C_below p hb) q (Kd.C_below y hb) z h (hT.below hb)
theorem fits_callI (b : Kd.C k83 w A0_1 l0_1.length l0_1) (l : l0_1.length ≤ c0_1) (p : Kd.C k85 w A0_2 l0_2.length l0_2) (q : l0_2.length ≤ c0_2) (y : Kd.C k69 w A0_4 l0_4.length l0_4) (z : l0_4.length ≤ c0_4) (hT : Tab w) {B : Int} (h : alloc_fits.f k a0_0 l0_1 l0_2 a0_3 l0_4 = some B) : FitsCall w (.agg #[.string a0_0, .slice A0_1 l0_1.length c0_1, .slice A0_2 l0_2.length c0_2, .int .i64 a0_3, .slice A0_4 l0_4.length c0_4]) B := by
 intro w0 hb
 exact alloc_fits.calls k a0_0 A0_1 c0_1 l0_1 A0_2 c0_2 l0_2 a0_3 A0_4 c0_4 l0_4 B w0 (Kd.C_below b hb) l (Kd.C_below p hb) q (Kd.C_below y hb) z h (hT.below hb)
theorem clash_call (l : Kd.C k83 w A0_1 l0_1.length l0_1) (p : l0_1.length ≤ c0_1) (q : Kd.C k85 w A0_2 l0_2.length l0_2) (y : l0_2.length ≤ c0_2) (b : Kd.C k69 w A0_4 l0_4.length l0_4) (z : l0_4.length ≤ c0_4) (hT : Tab w) (h : LiveG k a0_0 l0_1 l0_2 a0_3 l0_4 R) : ClashCall w (.agg #[.string a0_0, .slice A0_1 l0_1.length c0_1, .slice A0_2 l0_2.length c0_2, .int .i64 (a0_3.toNat : Int), .slice A0_4 l0_4.length c0_4]) a0_3.toNat (clashF a0_3.toNat l0_4 R) := by
 intro w0 hb
 exact clashesC w0 a0_0 A0_1 l0_1.length c0_1 A0_2 l0_2.length c0_2 a0_3.toNat A0_4 c0_4 l0_4 R (l0_4.map FlowM.next) rfl (Kd.C_below b hb) (live_call (Kd.C_below l hb) p (Kd.C_below q hb) y (Kd.C_below b hb) z (hT.below hb) h) (by have := h.r0; have := h.r1; omega) h.n0 h.n1 h.ns h.fine h.len h.lt
theorem occur_call (l : Kd.C k83 w A0_1 l0_1.length l0_1) (p : l0_1.length ≤ c0_1) (q : Kd.C k85 w A0_2 l0_2.length l0_2) (y : l0_2.length ≤ c0_2) (b : Kd.C k69 w A0_4 l0_4.length l0_4) (z : l0_4.length ≤ c0_4) (h : LiveG k a0_0 l0_1 l0_2 a0_3 l0_4 R) : OccurCall w (.agg #[.string a0_0, .slice A0_1 l0_1.length c0_1, .slice A0_2 l0_2.length c0_2, .int .i64 (a0_3.toNat : Int), .slice A0_4 l0_4.length c0_4]) (occF l0_4) := by
 intro w0 hb
 exact occurC w0 a0_0 A0_1 l0_1.length c0_1 A0_2 l0_2.length c0_2 a0_3.toNat A0_4 c0_4 l0_4 a0_3.toNat (Kd.C_below b hb) (by have := h.r0; have := h.r1; omega) h.n1 h.ns h.fine
end
def alloc_Into.f (k : Nat) (a0_0 : ByteArray) (l0_1 : List (S83)) (l0_2 : List (S85)) (a0_3 : Int) (l0_4 : List (S69)) : Option (List (List Int) × Int) := (alloc_fits.f k a0_0 l0_1 l0_2 a0_3 l0_4).bind fun e => if e = 0 then (liveR k a0_0 l0_1 l0_2 a0_3 l0_4).bind fun R => some (R.map fun s => regsL s a0_3.toNat, 0) else some (([] : List (List Int)), e)
theorem alloc_Into.calls (k : Nat) (a0_0 : ByteArray) (A0_1 : Option Addr) (c0_1 : Nat) (l0_1 : List (S83)) (A0_2 : Option Addr) (c0_2 : Nat) (l0_2 : List (S85)) (a0_3 : Int) (A0_4 : Option Addr) (c0_4 : Nat) (l0_4 : List (S69)) (E : List (List Int)) (F : Int) (w : World) (b : Kd.C k83 w A0_1 l0_1.length l0_1) (l : l0_1.length ≤ c0_1) (p : Kd.C k85 w A0_2 l0_2.length l0_2) (q : l0_2.length ≤ c0_2) (y : Kd.C k69 w A0_4 l0_4.length l0_4) (z : l0_4.length ≤ c0_4) (h : alloc_Into.f k a0_0 l0_1 l0_2 a0_3 l0_4 = some (E, F)) (hT : Tab w) :
  Calls Tryd.prog 16 #[.agg #[.string a0_0, .slice A0_1 l0_1.length c0_1, .slice A0_2 l0_2.length c0_2, .int .i64 a0_3, .slice A0_4 l0_4.length c0_4]] w fun e w' => ∃ B : Value, e = .returned (.tuple #[B, .int .i64 F]) ∧ Kd.S (Kd.slice 3 (Kd.int .i64)) 27 w' w.heap.size (fun _ => True) B E ∧ Below w.heap.size w w' := by
 unfold alloc_Into.f at h
 obtain ⟨G, he, h⟩ := Option.bind_eq_some_iff.1 h; by_cases D : G = 0
 ·rw [if_pos D] at h; subst D; obtain ⟨R, hR, h⟩ := Option.bind_eq_some_iff.1 h; have g := LiveG.of hR; have I := g.r0; have J := g.r1; obtain ⟨rfl, rfl⟩ := Prod.mk.inj (Option.some.inj h); have hfc := fits_call b l p q y z hT I he; have := intoC w a0_0 A0_1 l0_1.length c0_1 A0_2 l0_2.length c0_2 a0_3.toNat A0_4 l0_4.length c0_4 R (l0_4.map FlowM.next) hfc (live_call b l p q y z hT g) (by omega) (by rw [g.len]; exact g.n1)
  rw [show ((a0_3.toNat : Nat) : Int) = a0_3 from Int.toNat_of_nonneg I] at this; exact this
 ·rw [if_neg D] at h; obtain ⟨rfl, rfl⟩ := Prod.mk.inj (Option.some.inj h); have := intoE w a0_0 A0_1 l0_1.length c0_1 A0_2 l0_2.length c0_2 a0_3 A0_4 l0_4.length c0_4 G D (fits_callI b l p q y z hT he)
  refine this.mono ?_
  rintro e w' ⟨rfl, hb⟩
  exact ⟨_, rfl, Kd.S_nil _ _ _ _ _, hb⟩
def alloc_Out.f (k : Nat) (a0_0 : ByteArray) (l0_1 : List (S83)) (l0_2 : List (S85)) (a0_3 : Int) (l0_4 : List (S69)) : Option (List (List Int) × Int) := (alloc_fits.f k a0_0 l0_1 l0_2 a0_3 l0_4).bind fun e => if e = 0 then (liveR k a0_0 l0_1 l0_2 a0_3 l0_4).bind fun R => some ((List.range R.length).map fun i => regsL (after ((l0_4.map next).getD i []) R) a0_3.toNat, 0) else some (([] : List (List Int)), e)
theorem alloc_Out.calls (k : Nat) (a0_0 : ByteArray) (A0_1 : Option Addr) (c0_1 : Nat) (l0_1 : List (S83)) (A0_2 : Option Addr) (c0_2 : Nat) (l0_2 : List (S85)) (a0_3 : Int) (A0_4 : Option Addr) (c0_4 : Nat) (l0_4 : List (S69)) (E : List (List Int)) (F : Int) (w : World) (b : Kd.C k83 w A0_1 l0_1.length l0_1) (l : l0_1.length ≤ c0_1) (p : Kd.C k85 w A0_2 l0_2.length l0_2) (q : l0_2.length ≤ c0_2) (y : Kd.C k69 w A0_4 l0_4.length l0_4) (z : l0_4.length ≤ c0_4) (h : alloc_Out.f k a0_0 l0_1 l0_2 a0_3 l0_4 = some (E, F)) (hT : Tab w) :
  Calls Tryd.prog 17 #[.agg #[.string a0_0, .slice A0_1 l0_1.length c0_1, .slice A0_2 l0_2.length c0_2, .int .i64 a0_3, .slice A0_4 l0_4.length c0_4]] w fun e w' => ∃ B : Value, e = .returned (.tuple #[B, .int .i64 F]) ∧ Kd.S (Kd.slice 3 (Kd.int .i64)) 27 w' w.heap.size (fun _ => True) B E ∧ Below w.heap.size w w' := by
 unfold alloc_Out.f at h
 obtain ⟨G, he, h⟩ := Option.bind_eq_some_iff.1 h; by_cases D : G = 0
 ·rw [if_pos D] at h; subst D; obtain ⟨R, hR, h⟩ := Option.bind_eq_some_iff.1 h; have g := LiveG.of hR; have I := g.r0; have J := g.r1; obtain ⟨rfl, rfl⟩ := Prod.mk.inj (Option.some.inj h); have hfc := fits_call b l p q y z hT I he; have := outC w a0_0 A0_1 l0_1.length c0_1 A0_2 l0_2.length c0_2 a0_3.toNat A0_4 l0_4.length c0_4 R (l0_4.map FlowM.next) hfc (live_call b l p q y z hT g) (by omega) (by rw [g.len]; exact g.n1) g.lt (by rw [List.length_map, g.len]) g.next
  rw [show ((a0_3.toNat : Nat) : Int) = a0_3 from Int.toNat_of_nonneg I] at this; exact this
 ·rw [if_neg D] at h; obtain ⟨rfl, rfl⟩ := Prod.mk.inj (Option.some.inj h); have := outE w a0_0 A0_1 l0_1.length c0_1 A0_2 l0_2.length c0_2 a0_3 A0_4 l0_4.length c0_4 G D (fits_callI b l p q y z hT he)
  refine this.mono ?_
  rintro e w' ⟨rfl, hb⟩
  exact ⟨_, rfl, Kd.S_nil _ _ _ _ _, hb⟩
def alloc_Clashes.f (k : Nat) (a0_0 : ByteArray) (l0_1 : List (S83)) (l0_2 : List (S85)) (a0_3 : Int) (l0_4 : List (S69)) : Option (List (Int × Int) × Int) := (alloc_fits.f k a0_0 l0_1 l0_2 a0_3 l0_4).bind fun e => if e = 0 then (liveR k a0_0 l0_1 l0_2 a0_3 l0_4).bind fun R => some (pairsOf (clashF a0_3.toNat l0_4 R) a0_3.toNat a0_3.toNat, 0) else some (([] : List (Int × Int)), e)
theorem alloc_Clashes.calls (k : Nat) (a0_0 : ByteArray) (A0_1 : Option Addr) (c0_1 : Nat) (l0_1 : List (S83)) (A0_2 : Option Addr) (c0_2 : Nat) (l0_2 : List (S85)) (a0_3 : Int) (A0_4 : Option Addr) (c0_4 : Nat) (l0_4 : List (S69)) (E : List (Int × Int)) (F : Int) (w : World) (b : Kd.C k83 w A0_1 l0_1.length l0_1) (l : l0_1.length ≤ c0_1) (p : Kd.C k85 w A0_2 l0_2.length l0_2) (q : l0_2.length ≤ c0_2) (y : Kd.C k69 w A0_4 l0_4.length l0_4) (z : l0_4.length ≤ c0_4) (h : alloc_Clashes.f k a0_0 l0_1 l0_2 a0_3 l0_4 = some (E, F)) (hT : Tab w) :
  Calls Tryd.prog 18 #[.agg #[.string a0_0, .slice A0_1 l0_1.length c0_1, .slice A0_2 l0_2.length c0_2, .int .i64 a0_3, .slice A0_4 l0_4.length c0_4]] w fun e w' => ∃ B : Value, e = .returned (.tuple #[B, .int .i64 F]) ∧ Kd.R k54 54 w' w.heap.size (fun _ => True) B E ∧ Below w.heap.size w w' := by
 unfold alloc_Clashes.f at h
 obtain ⟨G, he, h⟩ := Option.bind_eq_some_iff.1 h; by_cases D : G = 0
 ·rw [if_pos D] at h; subst D; obtain ⟨R, hR, h⟩ := Option.bind_eq_some_iff.1 h; have g := LiveG.of hR; have I := g.r0; have J := g.r1; obtain ⟨rfl, rfl⟩ := Prod.mk.inj (Option.some.inj h); have hfc := fits_call b l p q y z hT I he; have := clashesC2 w a0_0 A0_1 l0_1.length c0_1 A0_2 l0_2.length c0_2 a0_3.toNat A0_4 l0_4.length c0_4 (clashF a0_3.toNat l0_4 R) hfc (clash_call b l p q y z hT g) (by omega) (clashF_len _ _ _)
  rw [show ((a0_3.toNat : Nat) : Int) = a0_3 from Int.toNat_of_nonneg I] at this; exact this
 ·rw [if_neg D] at h; obtain ⟨rfl, rfl⟩ := Prod.mk.inj (Option.some.inj h); have := clashesE w a0_0 A0_1 l0_1.length c0_1 A0_2 l0_2.length c0_2 a0_3 A0_4 l0_4.length c0_4 G D (fits_callI b l p q y z hT he)
  refine this.mono ?_
  rintro e w' ⟨rfl, hb⟩
  exact ⟨_, rfl, Kd.R_nil _ _ _ _ _, hb⟩
def alloc_Right.f (k : Nat) (a0_0 : ByteArray) (l0_1 : List (S83)) (l0_2 : List (S85)) (a0_3 : Int) (l0_4 : List (S69)) (l1 : List Int) (b : Int) : Option (Bool × Int) := (alloc_fits.f k a0_0 l0_1 l0_2 a0_3 l0_4).bind fun e => if e = 0 then (if (l1.length : Int) ≠ a0_3 ∨ b < 1 ∨ 13 < b then some (false, 6) else (liveR k a0_0 l0_1 l0_2 a0_3 l0_4).bind fun R => some (rightB l1 b (clashF a0_3.toNat l0_4 R) a0_3.toNat, 0)) else some (false, e)
theorem alloc_Right.calls (k : Nat) (a0_0 : ByteArray) (A0_1 : Option Addr) (c0_1 : Nat) (l0_1 : List (S83)) (A0_2 : Option Addr) (c0_2 : Nat) (l0_2 : List (S85)) (a0_3 : Int) (A0_4 : Option Addr) (c0_4 : Nat) (l0_4 : List (S69)) (D : Option Addr) (E : Nat) (l1 : List Int) (B : Int) (I : Bool) (J : Int) (w : World) (b : Kd.C k83 w A0_1 l0_1.length l0_1) (l : l0_1.length ≤ c0_1) (p : Kd.C k85 w A0_2 l0_2.length l0_2) (q : l0_2.length ≤ c0_2) (y : Kd.C k69 w A0_4 l0_4.length l0_4) (z : l0_4.length ≤ c0_4) (G : Kd.C (Kd.int .i64) w D l1.length l1) (N : l1.length ≤ E) (h : alloc_Right.f k a0_0 l0_1 l0_2 a0_3 l0_4 l1 B = some (I, J)) (hT : Tab w) :
  Calls Tryd.prog 9 #[.agg #[.string a0_0, .slice A0_1 l0_1.length c0_1, .slice A0_2 l0_2.length c0_2, .int .i64 a0_3, .slice A0_4 l0_4.length c0_4], .slice D l1.length E, .int .i64 B] w fun e w' => e = .returned (.tuple #[.bool I, .int .i64 J]) ∧ Below w.heap.size w w' := by
 unfold alloc_Right.f at h
 obtain ⟨L, he, h⟩ := Option.bind_eq_some_iff.1 h; by_cases F : L = 0
 ·rw [if_pos F] at h; subst F; by_cases hb : (l1.length : Int) ≠ a0_3 ∨ B < 1 ∨ 13 < B
  ·rw [if_pos hb] at h; obtain ⟨rfl, rfl⟩ := Prod.mk.inj (Option.some.inj h); have := rightA w a0_0 A0_1 l0_1.length c0_1 A0_2 l0_2.length c0_2 a0_3 A0_4 l0_4.length c0_4 D E l1 B (fits_callI b l p q y z hT he) hb
   exact this
  ·rw [if_neg hb] at h; obtain ⟨R, hR, h⟩ := Option.bind_eq_some_iff.1 h; have g := LiveG.of hR; have M := g.r0; have O := g.r1; obtain ⟨rfl, rfl⟩ := Prod.mk.inj (Option.some.inj h); have := rightC w a0_0 A0_1 l0_1.length c0_1 A0_2 l0_2.length c0_2 a0_3.toNat A0_4 l0_4.length c0_4 D E l1 B (clashF a0_3.toNat l0_4 R) (fits_call b l p q y z hT M he) (clash_call b l p q y z hT g) G (by omega) (by omega) (by omega) (by omega) (clashF_len _ _ _)
   rw [show ((a0_3.toNat : Nat) : Int) = a0_3 from Int.toNat_of_nonneg M] at this; exact this
 ·rw [if_neg F] at h; obtain ⟨rfl, rfl⟩ := Prod.mk.inj (Option.some.inj h); have := rightE w a0_0 A0_1 l0_1.length c0_1 A0_2 l0_2.length c0_2 a0_3 A0_4 l0_4.length c0_4 D l1.length E B L F (fits_callI b l p q y z hT he)
  exact this
def asgR (b : Int) (a0_3 : Int) (l0_4 : List (S69)) (R : List Nat) : List Int × Int := match assignF b.toNat a0_3.toNat (clashF a0_3.toNat l0_4 R) (listOf (occF l0_4) a0_3.toNat) (List.replicate a0_3.toNat 0) 0 with | some r => (r, 0) | none => ([], 5)
def alloc_Assign.f (k : Nat) (a0_0 : ByteArray) (l0_1 : List (S83)) (l0_2 : List (S85)) (a0_3 : Int) (l0_4 : List (S69)) (b : Int) : Option (List Int × Int) := (alloc_fits.f k a0_0 l0_1 l0_2 a0_3 l0_4).bind fun e => if e = 0 then (if b < 1 ∨ 13 < b then some ([], 6) else (liveR k a0_0 l0_1 l0_2 a0_3 l0_4).bind fun R => some (asgR b a0_3 l0_4 R)) else some (([] : List Int), e)
theorem alloc_Assign.calls (k : Nat) (a0_0 : ByteArray) (A0_1 : Option Addr) (c0_1 : Nat) (l0_1 : List (S83)) (A0_2 : Option Addr) (c0_2 : Nat) (l0_2 : List (S85)) (a0_3 : Int) (A0_4 : Option Addr) (c0_4 : Nat) (l0_4 : List (S69)) (B : Int) (F : List Int) (G : Int) (w : World) (b : Kd.C k83 w A0_1 l0_1.length l0_1) (l : l0_1.length ≤ c0_1) (p : Kd.C k85 w A0_2 l0_2.length l0_2) (q : l0_2.length ≤ c0_2) (y : Kd.C k69 w A0_4 l0_4.length l0_4) (z : l0_4.length ≤ c0_4) (h : alloc_Assign.f k a0_0 l0_1 l0_2 a0_3 l0_4 B = some (F, G)) (hT : Tab w) :
  Calls Tryd.prog 12 #[.agg #[.string a0_0, .slice A0_1 l0_1.length c0_1, .slice A0_2 l0_2.length c0_2, .int .i64 a0_3, .slice A0_4 l0_4.length c0_4], .int .i64 B] w fun e w' => ∃ D : Value, e = .returned (.tuple #[D, .int .i64 G]) ∧ Kd.R (Kd.int .i64) 3 w' w.heap.size (fun _ => True) D F ∧ Below w.heap.size w w' := by
 unfold alloc_Assign.f at h
 obtain ⟨I, he, h⟩ := Option.bind_eq_some_iff.1 h; by_cases E : I = 0
 {
 rw [if_pos E] at h; subst E; by_cases hb : B < 1 ∨ 13 < B
 {
 rw [if_pos hb] at h; obtain ⟨rfl, rfl⟩ := Prod.mk.inj (Option.some.inj h); have := assignA w a0_0 A0_1 l0_1.length c0_1 A0_2 l0_2.length c0_2 a0_3 A0_4 l0_4.length c0_4 B (fits_callI b l p q y z hT he) hb
 refine this.mono ?_
 rintro e w' ⟨rfl, hb⟩
 exact ⟨_, rfl, Kd.R_nil _ _ _ _ _, hb⟩}
 {
 rw [if_neg hb] at h; obtain ⟨R, hR, h⟩ := Option.bind_eq_some_iff.1 h; have g := LiveG.of hR; have J := g.r0; have L := g.r1; have h := Option.some.inj h; have := assignC w a0_0 A0_1 l0_1.length c0_1 A0_2 l0_2.length c0_2 a0_3.toNat A0_4 l0_4.length c0_4 B.toNat (clashF a0_3.toNat l0_4 R) (occF l0_4) _ (fits_call b l p q y z hT J he) (clash_call b l p q y z hT g) (occur_call b l p q y z g) (by omega) (by omega) (by omega) (clashF_len _ _ _) rfl
 rw [show ((a0_3.toNat : Nat) : Int) = a0_3 from Int.toNat_of_nonneg J, show ((B.toNat : Nat) : Int) = B from Int.toNat_of_nonneg (by omega)] at this
 refine this.mono ?_
 intro e w' hp
 unfold asgR at h
 unfold AssignPost at hp
 split at hp
 {
 rename_i r hr
 rw [hr] at h; obtain ⟨rfl, rfl⟩ := Prod.mk.inj h; exact hp}
 {
 rename_i hr
 rw [hr] at h; obtain ⟨rfl, rfl⟩ := Prod.mk.inj h; obtain ⟨rfl, hb⟩ := hp; exact ⟨_, rfl, Kd.R_nil _ _ _ _ _, hb⟩}}}
 {
 rw [if_neg E] at h; obtain ⟨rfl, rfl⟩ := Prod.mk.inj (Option.some.inj h); have := assignE w a0_0 A0_1 l0_1.length c0_1 A0_2 l0_2.length c0_2 a0_3 A0_4 l0_4.length c0_4 B I E (fits_callI b l p q y z hT he)
 refine this.mono ?_
 rintro e w' ⟨rfl, hb⟩
 exact ⟨_, rfl, Kd.R_nil _ _ _ _ _, hb⟩}
end Go.Proofs.YtefhpdcafdhcaaaDoor.S
end
section
namespace Go.Proofs.YtefhpdcafdhcaaaDoor.M
open Go Go.RowKit Go.Proofs.YtefhpdcafdhcaaaDoorW.PrintWords Go.Proofs.YtefhpdcafdhcaaaDoorW.PrintLast Go.Proofs.YtefhpdcafdhcaaaDoorW.PrintMore Go.Proofs.YtefhpdcafdhcaaaDoor Go.Proofs.YtefhpdcafdhcaaaDoor.A Go.Proofs.YtefhpdcafdhcaaaDoor.B Go.Proofs.YtefhpdcafdhcaaaDoor.N Go.Proofs.YtefhpdcafdhcaaaDoor.V
open FlowM (next hasD hasA hasB Fine FineNd FineG Live liveF)
open Go.Proofs.YtefhpdcafdhcaaaDoor.S (liveR allocOK)
section
variable (nm : ByteArray) {ps : List S83} {ar : List S85} (rg : Int) {N : List S69}
def phiN (l : List S71) : Nat := l.countP fun y => y.f0 == 11
def phiG (l : List S69) : Nat := (l.map fun n => phiN n.f0).sum
theorem phi0_ev (hN : N.length ≤ 400) (hl : ∀ n ∈ N, n.f0.length ≤ 400) : ∀ (rest : List S69) (i : Nat), N.drop i = rest → ∀ c : Nat, c + 400 * rest.length < 900000 → ∃ r, Evt (fun k => r6_Phis.l0 k (c : Int) (i : Int) nm ps ar rg N) r ∧ r = ((c + phiG rest : Nat) : Int)
 | [], i, hd, c, hc => by {
 have := drop_nil_ge hd
 refine ⟨(c : Int), ?_, by simp [phiG]⟩
 refine Evt.succ ?_
 simp only [r6_Phis.l0]
 exact Evt.neg (by omega) (Evt.const _)}
 | n :: rest, i, hd, c, hc => by {
 obtain ⟨hr, hi, b⟩ := rd69_drop hd; have hm : n ∈ N := by rw [← List.take_append_drop i N, hd]; simp
 have hln := hl n hm; simp only [List.length_cons] at hc
 refine ⟨_, ?_, rfl⟩
 refine Evt.succ ?_
 simp only [r6_Phis.l0]
 refine Evt.pos (by omega) ?_
 have key : ∀ (xs : List S71) (q : Nat), n.f0.drop q = xs → ∀ c : Nat, c + xs.length + 400 * rest.length < 900000 → Evt (fun k => r6_Phis.l1 k (c : Int) (i : Int) (q : Int) nm ps ar rg N) ((c + phiN xs + phiG rest : Nat) : Int) := by {
 intro xs
 induction xs with
 | nil => (
 intro q hd c hc
 have := drop_nil_ge hd
 obtain ⟨r, h1, p⟩ := phi0_ev hN hl rest (i + 1) b c (by simpa using hc)
 refine Evt.succ ?_
 simp only [r6_Phis.l1]
 refine Evt.pos (by omega) (Evt.pos (by omega) ?_)
 rw [hr, wrap_succ i (by omega)]
 refine Evt.neg (by omega) ?_
 rw [show c + phiN [] + phiG rest = c + phiG rest by simp [phiN], ← p]
 exact h1)
 | cons y xs ih => (
 intro q hd c hc
 obtain ⟨hry, hq, b⟩ := rd71_drop hd; simp only [List.length_cons] at hc
 refine Evt.succ ?_
 simp only [r6_Phis.l1]
 refine Evt.pos (by omega) (Evt.pos (by omega) ?_)
 rw [hr]; refine Evt.pos (by omega) (Evt.pos (by omega) ?_)
 rw [hry, wrap_succ q (by omega), wrap_succ c (by omega)]
 by_cases l : y.f0 = 11
 {
 have := ih (q + 1) b (c + 1) (by omega)
 rw [show c + phiN (y :: xs) + phiG rest = c + 1 + phiN xs + phiG rest by simp [phiN, l]; omega]
 exact Evt.pos l this}
 {
 have := ih (q + 1) b c (by omega)
 rw [show c + phiN (y :: xs) + phiG rest = c + phiN xs + phiG rest by simp [phiN, l]]
 exact Evt.neg l this})}
 have := key n.f0 0 rfl c (by omega)
 rw [show c + phiG (n :: rest) = c + phiN n.f0 + phiG rest by simp [phiG]; omega]
 exact this}
theorem sum_mem_le : ∀ {l : List Nat} {x : Nat}, x ∈ l → x ≤ l.sum
 | y :: l, x, h => by
  rw [List.sum_cons]; rcases List.mem_cons.1 h with rfl | h
  ·omega
  ·have := sum_mem_le h; omega
theorem phiG_pos {N : List S69} : 0 < phiG N ↔ ∃ n ∈ N, ∃ y ∈ n.f0, y.f0 = 11 := by
 unfold phiG
 constructor
 {
 intro h
 apply Classical.byContradiction
 intro hn
 have : (N.map fun n => phiN n.f0).sum = 0 := by {
 rw [List.sum_eq_zero_iff_forall_eq_nat]; intro x hx
 obtain ⟨n, l, rfl⟩ := List.mem_map.1 hx; exact List.countP_eq_zero.2 fun y hy b => hn ⟨n, l, y, hy, beq_iff_eq.1 b⟩}
 omega}
 {
 rintro ⟨n, hn, y, hy, b⟩
 have h1 : 0 < phiN n.f0 := List.countP_pos_iff.2 ⟨y, hy, beq_iff_eq.2 b⟩
 have p : phiN n.f0 ≤ (N.map fun n => phiN n.f0).sum := sum_mem_le (List.mem_map_of_mem hn)
 omega}
def phiFirst (n : S69) : Bool := match n.f0 with
 | [] => false
 | y :: _ => y.f0 == 11
theorem fits0_ev (hN : N.length ≤ 400) : ∀ (rest : List S69) (i : Nat), N.drop i = rest → Evt (fun k => alloc_fits.l0 k N (N.length : Int) (i : Int)) (if rest.any phiFirst = true then 6 else 0)
 | [], i, hd => by {
 have := drop_nil_ge hd
 refine Evt.succ ?_
 simp only [alloc_fits.l0]
 exact Evt.neg (by omega) (Evt.const _)}
 | n :: rest, i, hd => by {
 obtain ⟨hr, hi, l⟩ := rd69_drop hd; have ih := fits0_ev hN rest (i + 1) l; refine Evt.succ ?_
 simp only [alloc_fits.l0]
 refine Evt.pos (by omega) (Evt.pos (by omega) (Evt.pos (by omega) ?_))
 rw [hr, wrap_succ i (by omega), List.any_cons]
 cases hf : n.f0 with
 | nil => (
 rw [show phiFirst n = false by unfold phiFirst; rw [hf], Bool.false_or]
 exact Evt.neg (by simp) ih)
 | cons y ys => (
 rw [show phiFirst n = (y.f0 == 11) by unfold phiFirst; rw [hf]]
 refine Evt.pos (by simp only [List.length_cons]; omega) (Evt.pos (by simp only [List.length_cons]; omega) ?_)
 rw [show rd_T71 (y :: ys) 0 = y from rfl]; by_cases b : y.f0 = 11
 ·rw [beq_iff_eq.2 b, Bool.true_or, if_pos rfl]; exact Evt.pos b (Evt.const _)
 ·rw [beq_eq_false_iff_ne.2 b, Bool.false_or]; exact Evt.neg b ih)}
theorem err_ev (hs : Small nm ps ar N) (hI : Ints N) : ∃ e : Int, Evt (fun k => r11_Error.f k nm ps ar rg N) e ∧ Evt (fun k => alloc_fits.f k nm ps ar rg N) e ∧ (e = 0 → VF nm ps ar rg N ∧ Evt (fun k => flow_Valid.f k nm ps ar rg N) true ∧ ∀ n ∈ N, ∀ y ∈ n.f0, y.f0 ≠ 11) := by
 obtain ⟨b, hR, hF, hV⟩ := valid_ev nm rg hs hI; have hsum := hs.sum; cases b with
 | false => (
 refine ⟨1, ?_, ?_, fun h => by cases h⟩
 {
 unfold r11_Error.f
 exact Evt.bind hR (Evt.neg (by simp) (Evt.const _))}
 {
 unfold alloc_fits.f
 exact Evt.bind hF (Evt.neg (by simp) (Evt.const _))})
 | true => (
 have v := hV rfl; have hl : ∀ n ∈ N, n.f0.length ≤ 400 := fun n hn => by {
 have : n.f0.length + wArgs n.f0 ≤ wNds N := sum_mem_le (List.mem_map_of_mem hn)
 omega}
 obtain ⟨r, h1, q⟩ := phi0_ev nm rg (ps := ps) (ar := ar) (by omega) hl N 0 rfl 0 (by omega)
 have hany : (N.any phiFirst = true) ↔ 0 < phiG N := by {
 rw [phiG_pos, List.any_eq_true]; constructor
 {
 rintro ⟨n, hn, hp⟩
 unfold phiFirst at hp
 split at hp
 ·cases hp
 ·rename_i y ys hf; exact ⟨n, hn, y, by rw [hf]; exact List.mem_cons_self, beq_iff_eq.1 hp⟩}
 {
 rintro ⟨n, hn, y, hy, p⟩
 obtain ⟨x, l, hf, hx⟩ := v.first n hn ⟨y, hy, p⟩
 exact ⟨n, hn, by unfold phiFirst; rw [hf]; exact beq_iff_eq.2 hx⟩}}
 have hfit := fits0_ev (N := N) (by omega) N 0 rfl
 refine ⟨if N.any phiFirst = true then 6 else 0, ?_, ?_, fun h => ⟨v, hF, fun n hn y hy p => ?_⟩⟩
 {
 unfold r11_Error.f
 refine Evt.bind hR (Evt.pos rfl ?_)
 unfold r6_Phis.f
 refine Evt.bind h1 ?_
 rw [q]; by_cases hp : N.any phiFirst = true
 ·rw [if_pos hp]; exact Evt.pos (by have := hany.1 hp; omega) (Evt.const _)
 ·rw [if_neg hp]; exact Evt.neg (by have z : ¬ 0 < phiG N := fun h => hp (hany.2 h); omega) (Evt.const _)}
 {
 unfold alloc_fits.f
 exact Evt.bind hF (Evt.pos rfl hfit)}
 {
 have : N.any phiFirst = true := hany.2 (phiG_pos.2 ⟨n, hn, y, hy, p⟩)
 rw [if_pos this] at h; cases h})
theorem succ0_ev (hN : N.length ≤ 400) : ∀ (rest : List S69) (i : Nat), N.drop i = rest → ∀ out : List (List Int), out.length = i → Evt (fun k => flow_Successors.l0 k out N (N.length : Int) (i : Int)) (out ++ rest.map next, 0)
 | [], i, hd, out, _ => by {
 have := drop_nil_ge hd
 refine Evt.succ ?_
 simp only [flow_Successors.l0]
 refine Evt.neg (by omega) ?_
 rw [List.map_nil, List.append_nil]; exact Evt.const _}
 | n :: rest, i, hd, out, ho => by {
 obtain ⟨hr, hi, b⟩ := rd69_drop hd; refine Evt.succ ?_
 simp only [flow_Successors.l0]
 refine Evt.pos (by omega) (Evt.pos (by omega) (Evt.pos (by omega) ?_))
 rw [hr, fnext_r, wrap_succ i (by omega)]
 simp only [Option.bind_some]
 refine Evt.pos (by omega) ?_
 have := succ0_ev hN rest (i + 1) b (out ++ [next n]) (by simp; omega)
 rw [List.append_assoc] at this; exact this}
theorem succ_ev (hN : N.length ≤ 400) (hV : Evt (fun k => flow_Valid.f k nm ps ar rg N) true) : Evt (fun k => flow_Successors.f k nm ps ar rg N) (N.map next, 0) := by
 unfold flow_Successors.f
 refine Evt.bind hV (Evt.pos rfl ?_)
 exact succ0_ev hN N 0 rfl [] rfl
theorem live_ev (hs : Small nm ps ar N) (v : VF nm ps ar rg N) (hV : Evt (fun k => flow_Valid.f k nm ps ar rg N) true) : ∃ R, Evt (fun k => liveR k nm ps ar rg N) R ∧ R.length = N.length ∧ (∀ s ∈ R, s < 2 ^ rg.toNat) ∧ ∀ i, i < N.length → ∀ r : Nat, ((R.getD i 0).testBit r = true ↔ Live N (r : Int) i) := by
 have hsum := hs.sum; obtain ⟨K, R, h1, p, q, y⟩ := FlowM.liveF_live v.fine; refine ⟨R, ?_, p, q, y⟩
 have hl : ∀ n ∈ N, n.f0.length ≤ 1000000 := fun n hn => by
  have : n.f0.length + wArgs n.f0 ≤ wNds N := sum_mem_le (List.mem_map_of_mem hn)
  omega
 have hv := v.r0; have b := v.r1; have l := v.n0; unfold liveR
 refine Evt.pos ⟨⟨hv, b⟩, ⟨l, by omega⟩, hl, v.fine⟩ (Evt.bind (succ_ev nm rg (by omega) hV) (Evt.pos rfl ?_))
 exact Evt.of_mono (f := fun k => liveF N k (List.replicate N.length 0)) (fun k r h => FlowM.liveF_mono h) h1
end
end Go.Proofs.YtefhpdcafdhcaaaDoor.M
end
section
namespace Go.Proofs.YtefhpdcafdhcaaaDoor.S
open Go Go.RowKit Go.Proofs Go.Proofs.YtefhpdcafdhcaaaDoorW.PrintWords Go.Proofs.YtefhpdcafdhcaaaDoorW.PrintLast Go.Proofs.YtefhpdcafdhcaaaDoorW.PrintMore Go.Proofs.YtefhpdcafdhcaaaDoor Go.Proofs.YtefhpdcafdhcaaaDoor.A Go.Proofs.YtefhpdcafdhcaaaDoor.V Go.Proofs.YtefhpdcafdhcaaaDoor.B FlowM
set_option linter.unusedVariables false
set_option linter.unusedSimpArgs false
def rd_P (xs : List (Int × Int)) (i : Int) : Int × Int := xs.getD i.toNat (0, 0)
theorem at_P54 {w : World} {A : Option Addr} {n : Nat} {xs : List (Int × Int)} (h : Kd.C k54 w A n xs) (i : Int) (z : 0 ≤ i) (h1 : i < n) : ∃ ad , A = some ad ∧ w.cell? (ad.add (i.toNat * 2)) = some (.int .i64 (rd_P xs i).1) ∧ w.cell? ⟨(ad.add (i.toNat * 2)).block, (ad.add (i.toNat * 2)).off + 1, none⟩ = some (.int .i64 (rd_P xs i).2) := by
 obtain ⟨ad, c, e, _, hK, b⟩ := Kd.C_get h ((0, 0) : Int × Int) i z h1; have hc : ∀ j u, c[j]? = some u → w.cell? (ad.add (i.toNat * 2 + j)) = some u := b
 obtain rfl := k54_open hK; exact ⟨ad, e, hc 0 _ rfl, by rw [← add_field _ _ 1 (by omega)]; exact hc 1 _ rfl⟩
theorem b_P54 {w W : World} {A : Option Addr} {n : Nat} {xs : List (Int × Int)} (h : Kd.C k54 w A n xs) (hB : Below w.heap.size w W) (i : Int) (p : 0 ≤ i := by exact q_d) (q : i < n := by exact q_d) : ∃ ad, A = some ad ∧ W.cell? (ad.add (i.toNat * 2)) = some (.int .i64 (rd_P xs i).1) ∧ W.cell? ⟨(ad.add (i.toNat * 2)).block, (ad.add (i.toNat * 2)).off + 1, none⟩ = some (.int .i64 (rd_P xs i).2) ∧ (0 ≤ i) = True ∧ (i < n) = True := by
 obtain ⟨ad, e_, l, y⟩ := at_P54 h i p q; exact ⟨ad, e_, q_kc hB l, q_kc hB y, eq_true p, eq_true q⟩
def pairV (p : Int × Int) : Value := .agg #[.int .i64 p.1, .int .i64 p.2]
theorem run_equalIn_u (W : World) (d : Nat) (a b : Int) : (Op.equalIn (d + 1) 3 (.int .i64 a) (.int .i64 b)).run Tryd.prog W = .ok (a == b) W := run_equalIn_int W d 3 .i64 .i64 _ _ Tryd.underlying3
theorem run_partP (W : World) (p : Int × Int) : (part 3 #[.int .i64 p.1, .int .i64 p.2] 0).run Tryd.prog W = .ok (.int .i64 p.1) W ∧ (part 3 #[.int .i64 p.1, .int .i64 p.2] 1).run Tryd.prog W = .ok (.int .i64 p.2) W := by
 constructor <;> simp [part, isAgg, Sem.run_bind, run_underlying Tryd.underlying3]
theorem run_sameP (W : World) (d : Nat) (p q : Int × Int) : (Op.equalIn (d + 2) 54 (pairV p) (pairV q)).run Tryd.prog W = .ok (decide (p = q)) W := by
 have z : (Tryd.prog.info? 3).map (·.size) = some 1 := by kernel_rfl
 cases hq : Tryd.prog.info? 3 with
 | none => simp [hq] at z
 | some f => (
 have hs : f.size = 1 := by simpa [hq] using z
 rw [show d + 2 = (d + 1) + 1 from rfl, Op.equalIn]; simp only [pairV, Sem.run_bind, run_underlying Tryd.underlying54, Result.andThen_ok, sizeOf, typeInfo]
 simp [hq, hs]
 rw [show List.range' 0 2 = [0, 1] from rfl, List.forIn_cons]
 simp only [Sem.run_bind, (run_partP W p).1, (run_partP W q).1, Result.andThen_ok, run_equalIn_u]
 by_cases h1 : p.1 = q.1
 {
 have l : (p.1 == q.1) = true := beq_iff_eq.2 h1
 simp only [l, Bool.true_eq_false, if_false, Sem.run_pure, Result.andThen_ok]
 rw [List.forIn_cons]; simp only [Sem.run_bind, (run_partP W p).2, (run_partP W q).2, Result.andThen_ok, run_equalIn_u]
 by_cases b : p.2 = q.2
 {
 have y : (p.2 == q.2) = true := beq_iff_eq.2 b
 simp only [y, Bool.true_eq_false, if_false, Sem.run_pure, Result.andThen_ok, List.forIn_nil]
 rw [decide_eq_true (show p = q from Prod.ext h1 b)]}
 {
 have y : (p.2 == q.2) = false := beq_eq_false_iff_ne.2 b
 simp only [y, if_true, Sem.run_pure, Result.andThen_ok]
 rw [decide_eq_false (fun e => b (by rw [e]))]}}
 {
 have l : (p.1 == q.1) = false := beq_eq_false_iff_ne.2 h1
 simp only [l, if_true, Sem.run_pure, Result.andThen_ok]
 rw [decide_eq_false (fun e => h1 (by rw [e]))]})
theorem run_eqP {o : Oper} {a : Act} {x y : Operand} {p q : Int × Int} (ho : o.op = .binOp .eql 54 x y 54) (hx : a.eval x = pairV p) (hy : a.eval y = pairV q) (W : World) :
  (execOp a.eval o).run Tryd.prog W = .ok (.value (.bool (decide (p = q)))) W := by
 have b : (Op.equal 54 (pairV p) (pairV q)).run Tryd.prog W = .ok (decide (p = q)) W := run_sameP W 9998 p q
 unfold execOp
 simp only [ho, hx, hy, Sem.run_bind]
 unfold pairV at b ⊢
 rw [run_eqGuard_agg W .eql 54 x y _ _ (by kernel_rfl)]
 simp only [Result.andThen_ok, binOp, Sem.run_bind, b, Sem.run_pure]
theorem run_loadP {W : World} {o : Oper} {a : Act} {x : Operand} {ad : Addr} {p : Int × Int} (hp : ad.spot = none) (ho : o.op = .load 54 x) (hx : a.eval x = .pointer (some ad)) (h1 : W.cell? ad = some (.int .i64 p.1)) (l : W.cell? ⟨ad.block, ad.off + 1, none⟩ = some (.int .i64 p.2)) :
  (execOp a.eval o).run Tryd.prog W = .ok (.value (pairV p)) W := by
 have hsz : (Tryd.prog.info? 54).map (·.size) = some 2 := by kernel_rfl
 obtain ⟨b, off, sp⟩ := ad; obtain rfl : sp = none := hp; have hr : W.rangeAt b off [.int .i64 p.1, .int .i64 p.2] := by {
 intro j v hv
 match j, hv with
 | 0, hv => cases hv; exact h1
 | 1, hv => cases hv; exact l}
 unfold execOp
 simp only [ho, hx, Sem.run_bind, run_loadAt_mid W b off 54 [.int .i64 p.1, .int .i64 p.2] (.array 2 3) hr Tryd.underlying54 rfl hsz, Result.andThen_ok]
 rfl
def sN : List S69 := [(⟨([(⟨0, 0, 0, 0, 0, 1, ([] : List Int)⟩ : S71), (⟨0, 0, 1, 0, 0, 2, ([] : List Int)⟩ : S71), (⟨3, 0, 2, 0, 1, 0, ([] : List Int)⟩ : S71), (⟨7, 0, 0, 2, 2, 0, ([] : List Int)⟩ : S71)] : List (S71)), 2, 0, 0, 0⟩ : S69)]
def sP : List S83 := [(⟨(⟨#[97]⟩ : ByteArray), true⟩ : S83)]
def sK : ByteArray := ⟨#[107]⟩
def sA : List S85 := []
def sQ1 : List Int := [0, 1, 0]
def sQ2 : List Int := [0, 0, 0]
theorem aw1 : alloc_Clashes.f 20 sK sP sA 3 sN = some ([(0, 1)], 0) := by decide +kernel
theorem aw2 : alloc_Assign.f 20 sK sP sA 3 sN 2 = some ([0, 1, 0], 0) := by decide +kernel
theorem aw3 : alloc_Right.f 20 sK sP sA 3 sN sQ1 2 = some (true, 0) := by decide +kernel
theorem aw4 : alloc_Right.f 20 sK sP sA 3 sN sQ2 2 = some (false, 0) := by decide +kernel
theorem sumsC (w : World) : Calls Tryd.prog 28 #[] w fun e w' => ∃ (b : Option Addr) (l : Nat) (p : Option Addr) (c2 : Nat) (q : Option Addr) (y : Nat), e = .returned (.agg #[.string sK, .slice b sP.length l, .slice p sA.length c2, .int .i64 3, .slice q sN.length y]) ∧ (Kd.C k83 w' b sP.length sP ∧ sP.length ≤ l) ∧ (Kd.C k85 w' p sA.length sA ∧ sA.length ≤ c2) ∧ (Kd.C k69 w' q sN.length sN ∧ sN.length ≤ y) ∧ Below w.heap.size w w' := by
 refine (l11_sums.calls sK sP sA 3 sN w rfl).mono ?_
 rintro e w' ⟨D, E, F, rfl, h1, z, B, hb⟩
 obtain ⟨b, l, rfl⟩ := Kd.R_slice h1; obtain ⟨p, c2, rfl⟩ := Kd.R_slice z; obtain ⟨q, y, rfl⟩ := Kd.N_slice B; exact ⟨b, l, p, c2, q, y, rfl, ⟨(Kd.R_reads' h1).2.2, (Kd.R_reads' h1).2.1⟩, ⟨(Kd.R_reads' z).2.2, (Kd.R_reads' z).2.1⟩, ⟨(Kd.N_reads' B).2.2, (Kd.N_reads' B).2.1⟩, hb⟩
def aw.T5 : Bool × List (List Nat × List Nat) := (true, [([], []), ([0], [0]), ([1], [1]), ([2], [2]), ([3, 2], [2, 3]), ([2, 4], [2, 4]), ([5, 2], [5]), ([6], [6]), ([7, 6], [6, 7]), ([6, 8], [6, 8]), ([9, 6], [9]), ([10], [10]), ([11, 10], [10, 11]), ([10, 12], [10, 12]), ([13, 10], [13]), ([14], [14]), ([15, 14], [14, 15]), ([16, 14], [14, 16]), ([14, 17], [14, 17]), ([18, 14], [18]), ([19], [19]), ([20, 19], [19, 20]), ([21, 19], [19, 21]), ([19], [19]), ([22, 23, 19], [19, 22, 23]), ([19, 24], [19, 24]), ([25, 19], [25]), ([26], [26]), ([27, 26], [26, 27]), ([28, 26], [26, 28]), ([26, 29], [26, 29]), ([30, 26], [30]), ([31], [31]), ([32, 31], [31, 32]), ([33, 31], [31, 33]), ([31], [31]), ([35, 31], [31, 35]), ([36, 31], [31, 36]), ([34, 37, 31], [31, 34, 37]), ([31, 38], [31, 38]), ([39, 31], [39]), ([40], [40]), ([40, 41], [40, 41]), ([42, 40], [42]), ([43], [43]), ([44, 43], [43, 44]), ([43, 45], [43, 45]), ([46, 43, 0, 1, 2, 3, 4, 5, 6, 7, 8, 9, 10, 11, 12, 13, 14, 15, 16, 17, 18, 19, 20, 21, 22, 23, 24, 25, 26, 27, 28, 29, 30, 31, 32, 33, 34, 35, 36, 37, 38, 39, 40, 41, 42, 43, 44, 45, 46], [46])])
def aw.B5 : List Nat := [0, 1, 3, 7, 15, 31, 63, 127, 255, 511, 1023, 2047, 4095, 8191, 16383, 32767, 65535, 131071, 262143, 524287, 1048575, 2097151, 4194303, 1048575, 16777215, 33554431, 67108863, 134217727, 268435455, 536870911, 1073741823, 2147483647, 4294967295, 8589934591, 17179869183, 4294967295, 38654705663, 107374182399, 274877906943, 549755813887, 1099511627775, 2199023255551, 4398046511103, 8796093022207, 17592186044415, 35184372088831, 70368744177663, 140737488355327]
theorem aw.tab5 : rtab .any (opsOf Tryd.f8 5) = aw.T5 := by kernel_rfl
theorem aw.bits5 : waitsOk aw.T5.2 aw.B5 = true := by kernel_rfl
theorem awakeC (w : World) (hT : Tab w) : Calls Tryd.prog 8 #[] w fun e w' => e = .returned (.bool true) ∧ Below w.heap.size w w' := by
 have HT := a_ hT; clear hT; have l := a_ (Below.refl w.heap.size w); go_enter Tryd.func8, Tryd.ntmps8
 go_wp2_with (first | (go_at_call 28; (with_reducible refine (sumsC _).mono ?_); rintro e wS ⟨F, G, I, c2, J, L, rfl, h1, E, V, hb⟩; have B := a_ h1; have C := a_ E; have D := a_ V; replace l := a_ (below_then l.out l.out.size hb); (try (replace HL := a_ (Kd.R_below HL.out hb))); (try (replace HP := a_ (Kd.R_below HP.out hb))); clear h1 E V hb) | (go_at_call 18; (with_reducible refine (alloc_Clashes.calls 20 sK F G sP I c2 sA 3 J L sN [(0, 1)] 0 _ B.out.1 B.out.2 C.out.1 C.out.2 D.out.1 D.out.2 aw1 (HT.out.below l.out)).mono ?_); rintro e wC ⟨v0, rfl, hl, hb⟩; obtain ⟨gl, cl, rfl, _, _, _⟩ := Kd.R_form hl (by decide); have HL := a_ hl; replace l := a_ (below_then l.out l.out.size hb); clear hl hb) | (go_at_call 12; (with_reducible refine (alloc_Assign.calls 20 sK F G sP I c2 sA 3 J L sN 2 [0, 1, 0] 0 _ B.out.1 B.out.2 C.out.1 C.out.2 D.out.1 D.out.2 aw2 (HT.out.below l.out)).mono ?_); rintro e wC ⟨v0, rfl, hl, hb⟩; obtain ⟨gp, cp, rfl, _, _, _⟩ := Kd.R_form hl (by decide); have HP := a_ hl; replace l := a_ (below_then l.out l.out.size hb); (try (replace HL := a_ (Kd.R_below HL.out hb))); clear hl hb) | (go_at_call 9; (with_reducible refine (alloc_Right.calls 20 sK F G sP I c2 sA 3 J L sN (some ⟨gr, 0, none⟩) cr sQ1 2 true 0 _ (Kd.C_below B.out.1 HBL.out) B.out.2 (Kd.C_below C.out.1 HBL.out) C.out.2 (Kd.C_below D.out.1 HBL.out) D.out.2 HX.out HXC.out aw3 (HT.out.below l.out)).mono ?_); rintro e wC ⟨rfl, hb⟩; replace l := a_ (below_then l.out l.out.size hb); (try (replace HL := a_ (Kd.R_below HL.out hb))); (try (replace HP := a_ (Kd.R_below HP.out hb))); clear hb) | ((with_reducible refine gd_ 21 rfl ?_); refine Kd.R_lit (Kd.int .i64) _ 3 ?hg (N := 21) ?hd (xs := (sQ1 : List Int)) (inner := [.int .i64 0, .int .i64 1, .int .i64 0]) (ok := fun _ => True) (okp := fun _ => True) ?hr ?hp (fun _ hk => hk) trivial (Below.refl _ _) (Nat.le_refl _) (by decide) ?_; (case hd => rfl); (case hg => rfl); (case hr => first | (go_simp; done) | (go_simp; rfl)); (case hp => exact (Reps.one (show Kd.M (Kd.int .i64) _ _ _ 0 [.int .i64 0] from rfl) (Reps.one (show Kd.M (Kd.int .i64) _ _ _ 1 [.int .i64 1] from rfl) (Reps.one (show Kd.M (Kd.int .i64) _ _ _ 0 [.int .i64 0] from rfl) (Reps.none _ _))))); intro v1 wL hl hb _ _; obtain ⟨gr, cr, rfl, _, _, _⟩ := Kd.R_form hl (by decide); have HX := a_ ((Kd.R_reads' hl).2.2); have HXC := a_ ((Kd.R_reads' hl).2.1); have HBL := a_ hb; replace l := a_ (below_then l.out l.out.size hb); (try (replace HL := a_ (Kd.R_below HL.out hb))); (try (replace HP := a_ (Kd.R_below HP.out hb))); clear hl hb) | (go_at_call 9; (with_reducible refine (alloc_Right.calls 20 sK F G sP I c2 sA 3 J L sN (some ⟨gr, 0, none⟩) cr sQ2 2 false 0 _ (Kd.C_below B.out.1 HBL.out) B.out.2 (Kd.C_below C.out.1 HBL.out) C.out.2 (Kd.C_below D.out.1 HBL.out) D.out.2 HX.out HXC.out aw4 (HT.out.below l.out)).mono ?_); rintro e wC ⟨rfl, hb⟩; replace l := a_ (below_then l.out l.out.size hb); (try (replace HL := a_ (Kd.R_below HL.out hb))); (try (replace HP := a_ (Kd.R_below HP.out hb))); clear hb) | ((with_reducible refine gd_ 27 rfl ?_); refine Kd.R_lit (Kd.int .i64) _ 3 ?hg (N := 27) ?hd (xs := (sQ2 : List Int)) (inner := [.int .i64 0, .int .i64 0, .int .i64 0]) (ok := fun _ => True) (okp := fun _ => True) ?hr ?hp (fun _ hk => hk) trivial (Below.refl _ _) (Nat.le_refl _) (by decide) ?_; (case hd => rfl); (case hg => rfl); (case hr => first | (go_simp; done) | (go_simp; rfl)); (case hp => exact (Reps.one (show Kd.M (Kd.int .i64) _ _ _ 0 [.int .i64 0] from rfl) (Reps.one (show Kd.M (Kd.int .i64) _ _ _ 0 [.int .i64 0] from rfl) (Reps.one (show Kd.M (Kd.int .i64) _ _ _ 0 [.int .i64 0] from rfl) (Reps.none _ _))))); intro v1 wL hl hb _ _; obtain ⟨gr, cr, rfl, _, _, _⟩ := Kd.R_form hl (by decide); have HX := a_ ((Kd.R_reads' hl).2.2); have HXC := a_ ((Kd.R_reads' hl).2.1); have HBL := a_ hb; replace l := a_ (below_then l.out l.out.size hb); (try (replace HL := a_ (Kd.R_below HL.out hb))); (try (replace HP := a_ (Kd.R_below HP.out hb))); clear hl hb))
 obtain ⟨ad, e, h1, E⟩ := at_P54 (Kd.R_reads' HL.out).2.2 0 (by decide) (by decide)
 cases e; have O := h1; have R := E; have T := (Kd.R_celln 0 HP.out 0 (by decide) (by decide)).1
 have U := (Kd.R_celln 0 HP.out 1 (by decide) (by decide)).1
 clear h1 E; go_upto_region 5 with (fail)
 refine q_s 48 (S := fun W' => cg2 W' gl (.int .i64 0) (.int .i64 1) (cg2_ W' gp (.int .i64 0) (.int .i64 1))) ⟨O, R, T, U⟩ (fun y => ?_)
 refine with_tabW aw.tab5 aw.bits5 (fun b z => ?_)
 refine qv_ 0 b ?_
 refine qv_ 1 b ?_
 refine qv_ 2 b ?_
 refine qv_ 3 b ?_
 refine qv_ 4 b ?_
 refine qv_ 5 b ?_
 refine qv_ 6 b ?_
 refine qv_ 7 b ?_
 refine qv_ 8 b ?_
 refine qv_ 9 b ?_
 refine qv_ 10 b ?_
 refine qv_ 11 b ?_
 refine qv_ 12 b ?_
 refine qv_ 13 b ?_
 refine qv_ 14 b ?_
 refine qv_ 15 b ?_
 refine qv_ 16 b ?_
 refine qv_ 17 b ?_
 refine qv_ 18 b ?_
 refine qv_ 19 b ?_
 refine qv_ 20 b ?_
 refine qv_ 21 b ?_
 refine qv_ (v := pairV (0, 1)) 23 b ?_ (hy := by intro w'; go_simp; first | done | rfl)
 refine qt_ (v := pairV (0, 1)) 22 b z y ?_ (hy := by intro w' X; exact run_loadP rfl rfl rfl X.1 X.2.1)
 refine qv_ (v := .bool true) 24 b ?_ (hy := by intro w'; exact (run_eqP (p := (0, 1)) (q := (0, 1)) rfl rfl rfl w').trans rfl)
 refine qv_ 25 b ?_
 refine qv_ 26 b ?_
 refine qv_ 27 b ?_
 refine qv_ 28 b ?_
 refine qv_ 29 b ?_
 refine qv_ 30 b ?_
 refine qv_ 31 b ?_
 refine qv_ 32 b ?_
 refine qv_ 33 b ?_
 refine qv_ 35 b ?_
 refine qv_ 36 b ?_
 refine qt_ 34 b z y ?_
 refine qt_ 37 b z y ?_
 refine qv_ 38 b ?_
 refine qv_ 39 b ?_
 refine qv_ 40 b ?_
 refine qv_ 41 b ?_
 refine qv_ 42 b ?_
 refine qv_ 43 b ?_
 refine qv_ 44 b ?_
 refine qv_ 45 b ?_
 refine qv_ 46 b ?_
 refine qv_ 47 b ?_
 refine done_ (done_of b.out (by kernel_rfl)) ?_
 clear b z y; go_wp2
 (try simp only [Exit.inBlock, Exit.then])
 refine bodyPost_ret (results_tmp rfl _ _ _) rfl ?_
 exact ⟨rfl, below_drew1 l.out⟩
end Go.Proofs.YtefhpdcafdhcaaaDoor.S
end
section
namespace Go.Proofs.YtefhpdcafdhcaaaDoor.S
open Go Go.RowKit Go.Proofs Go.Proofs.YtefhpdcafdhcaaaDoorW.PrintWords Go.Proofs.YtefhpdcafdhcaaaDoorW.PrintLast Go.Proofs.YtefhpdcafdhcaaaDoorW.PrintMore Go.Proofs.YtefhpdcafdhcaaaDoor Go.Proofs.YtefhpdcafdhcaaaDoor.A FlowM
set_option linter.unusedVariables false
set_option linter.unusedSimpArgs false
theorem R_formB {α : Type} {d : Kd α} {e : TypeId} {w : World} {base : Nat} {ok : Nat → Prop} {v : Value} {xs : List α} {b n : Nat} (h : d.R e w base ok v xs) (hb : v.ownBlock = some b) (hn : xs.length = n) : ∃ cap, v = .slice (some ⟨b, 0, none⟩) n cap ∧ base ≤ b := by
 obtain ⟨inner, ho⟩ := Kd.R_own h; rcases ho.2 with ⟨rfl, _⟩ | ⟨g, cap, cur, rfl, hg, hh, r⟩
 ·simp [Value.ownBlock] at hb
 ·have : g = b := by simpa [Value.ownBlock] using hb
  subst this; exact ⟨cap, by rw [hn], hg⟩
def ed.T19 : Bool × List (List Nat × List Nat) := (true, [([], []), ([], []), ([0, 1], [0, 1]), ([2], [2]), ([3], [3]), ([4], [4]), ([5], [5]), ([5], [5]), ([6, 7, 5], [5, 6, 7]), ([8, 5], [5, 8]), ([5], [5]), ([10, 5], [5, 10]), ([9, 11, 5], [5, 9, 11]), ([5, 12], [5, 12])])
def ed.B19 : List Nat := [0, 0, 3, 7, 15, 31, 63, 63, 255, 511, 63, 1087, 4095, 8191]
theorem ed.tab19 : rtab .any (opsOf Tryd.f6 19) = ed.T19 := by kernel_rfl
theorem ed.bits19 : waitsOk ed.T19.2 ed.B19 = true := by kernel_rfl
abbrev WideB (w : World) (v : Value) (b : Bool) : Prop := ∀ w0, Below w.heap.size w w0 → Calls Tryd.prog 7 #[v] w0 fun e w' => e = .returned (.bool b) ∧ Below w0.heap.size w0 w'
abbrev ErrB (w : World) (v : Value) (x : Int) : Prop := ∀ w0, Below w.heap.size w w0 → Calls Tryd.prog 10 #[v] w0 fun e w' => e = .returned (.int .i64 x) ∧ Below w0.heap.size w0 w'
abbrev AwB (w : World) : Prop := ∀ w0, Below w.heap.size w w0 → Calls Tryd.prog 8 #[] w0 fun e w' => e = .returned (.bool true) ∧ Below w0.heap.size w0 w'
abbrev RowsB (fn : Nat) (w : World) (v : Value) (rows : List (List Int)) : Prop := ∀ w0, Below w.heap.size w w0 → Calls Tryd.prog fn #[v] w0 fun e w' => ∃ b : Value, e = .returned (.tuple #[b, .int .i64 0]) ∧ Kd.S (Kd.slice 3 (Kd.int .i64)) 27 w' w0.heap.size (fun _ => True) b rows ∧ Below w0.heap.size w0 w'
abbrev SameB : Prop := ∀ (w0 : World) (l : List Int) (b : Option Addr) (p : Nat) (q : Option Addr) (y : Nat), l.length ≤ 2048 → Kd.C (Kd.int .i64) w0 b l.length l → l.length ≤ p → Kd.C (Kd.int .i64) w0 q l.length l → l.length ≤ y → Calls Tryd.prog 25 #[.slice b l.length p, .slice q l.length y] w0 fun e w' => e = .returned (.bool true) ∧ Drawn0 w0 w'
def metRow (met : List Bool) (l : List Int) : List Bool := l.foldl (fun met r => met.set r.toNat true) met
def metOf (IN : List (List Int)) (rg : Nat) (row : List Int) : List Bool := row.foldl (fun met m => metRow met (IN.getD m.toNat [])) (List.replicate rg false)
def allOf (met : List Bool) (n : Nat) : List Int := ((List.range n).filter fun r => met.getD r false).map Int.ofNat
theorem allOf_succ (met : List Bool) (n : Nat) : allOf met (n + 1) = if met.getD n false = true then allOf met n ++ [(n : Int)] else allOf met n := by
 unfold allOf
 rw [List.range_succ, List.filter_append, List.map_append]; by_cases h : met.getD n false = true
 ·rw [if_pos h]; simp only [List.filter_cons, List.filter_nil, h, if_true]; rfl
 ·rw [if_neg h]; simp only [List.filter_cons, List.filter_nil, h, if_false, List.map_nil, List.append_nil]; first | done | simp
theorem allOf_len (met : List Bool) (n : Nat) : (allOf met n).length ≤ n := by
 unfold allOf
 rw [List.length_map]; exact Nat.le_trans (List.length_filter_le _ _) (by simp)
theorem metRow_len (l : List Int) : ∀ met : List Bool, (metRow met l).length = met.length := by
 induction l with
 | nil => intro met; rfl
 | cons r l ih => intro met; show (metRow (met.set r.toNat true) l).length = _; rw [ih, List.length_set]
theorem edgesA (w : World) (nm : ByteArray) (D : Option Addr) (E b : Nat) (F : Option Addr) (G l : Nat) (rg : Int) (I : Option Addr) (J p : Nat) (hW : WideB w (.agg #[.string nm, .slice D E b, .slice F G l, .int .i64 (rg : Int), .slice I J p]) true) (hAw : AwB w) : Calls Tryd.prog 6 #[(.agg #[.string nm, .slice D E b, .slice F G l, .int .i64 (rg : Int), .slice I J p])] w fun e w' => e = .returned (.bool true) ∧ Below w.heap.size w w' := by
 have HWI := a_ hW; have HAW := a_ hAw; clear hW hAw; have O := Tryd.underlying26; go_enter Tryd.func6, Tryd.ntmps6
 go_wp2_with (first | ((with_reducible refine gd_ 1 rfl ?_); refine q_box 1 26 #[.string nm, .slice D E b, .slice F G l, .int .i64 (rg : Int), .slice I J p] ?_; intro g1 L w1 z B; have C := a_ z; have q := a_ B; clear L z B; obtain ⟨R, S, T, U, V⟩ := q_c5 C.out) | (go_at_call 7; (with_reducible refine (HWI.out _ q.out).mono ?_); rintro e w2 ⟨rfl, hb⟩; have M := a_ (blk_below C.out hb); have y := a_ (below_then q.out q.out.size hb); clear hb; obtain ⟨X, a0, a1, a2, a3⟩ := q_c5 M.out) | (go_at_call 8; (with_reducible refine (HAW.out _ y.out).mono ?_); rintro e w9 ⟨rfl, hb⟩; have N := a_ (below_then y.out y.out.size hb); clear hb))
 (try simp only [Exit.inBlock, Exit.then])
 refine bodyPost_ret (results_tmp rfl _ _ _) rfl ?_
 exact ⟨rfl, N.out⟩
theorem edgesB (w : World) (nm : ByteArray) (F : Option Addr) (G b : Nat) (I : Option Addr) (J l : Nat) (rg : Int) (L : Option Addr) (M p : Nat) (x : Int) (hx : x ≠ 0) (hW : WideB w (.agg #[.string nm, .slice F G b, .slice I J l, .int .i64 (rg : Int), .slice L M p]) false) (hE : ErrB w (.agg #[.string nm, .slice F G b, .slice I J l, .int .i64 (rg : Int), .slice L M p]) x) (hAw : AwB w) : Calls Tryd.prog 6 #[(.agg #[.string nm, .slice F G b, .slice I J l, .int .i64 (rg : Int), .slice L M p])] w fun e w' => e = .returned (.bool true) ∧ Below w.heap.size w w' := by
 have HER := a_ hE; have c1 : (x != 0) = true := bne_iff_ne.mpr hx
 clear hE hx; have HWI := a_ hW; have HAW := a_ hAw; clear hW hAw; have S := Tryd.underlying26; go_enter Tryd.func6, Tryd.ntmps6
 go_wp2_with (first | ((with_reducible refine gd_ 1 rfl ?_); refine q_box 1 26 #[.string nm, .slice F G b, .slice I J l, .int .i64 (rg : Int), .slice L M p] ?_; intro g1 N w1 B C; have D := a_ B; have q := a_ C; clear N B C; obtain ⟨T, U, V, X, a0⟩ := q_c5 D.out) | (go_at_call 7; (with_reducible refine (HWI.out _ q.out).mono ?_); rintro e w2 ⟨rfl, hb⟩; have E := a_ (blk_below D.out hb); have y := a_ (below_then q.out q.out.size hb); clear hb; obtain ⟨a1, a2, a3, a4, a5⟩ := q_c5 E.out) | (go_at_call 10; (with_reducible refine (HER.out _ y.out).mono ?_); rintro e w3 ⟨rfl, hb⟩; have O := a_ (blk_below E.out hb); have z := a_ (below_then y.out y.out.size hb); clear hb; obtain ⟨a6, a7, a8, a9, b0⟩ := q_c5 O.out) | (go_at_call 8; (with_reducible refine (HAW.out _ z.out).mono ?_); rintro e w9 ⟨rfl, hb⟩; have R := a_ (below_then z.out z.out.size hb); clear hb))
 (try simp only [Exit.inBlock, Exit.then])
 refine bodyPost_ret (results_tmp rfl _ _ _) rfl ?_
 exact ⟨rfl, R.out⟩
theorem edgesC (w : World) (nm : ByteArray) (V : Option Addr) (X F : Nat) (A2 : Option Addr) (n2 G : Nat) (rg : Nat) (A4 : Option Addr) (C I : Nat) (IN OUT NX : List (List Int)) (hW : WideB w (.agg #[.string nm, .slice V X F, .slice A2 n2 G, .int .i64 (rg : Int), .slice A4 C I]) false) (hE : ErrB w (.agg #[.string nm, .slice V X F, .slice A2 n2 G, .int .i64 (rg : Int), .slice A4 C I]) 0) (hAw : AwB w) (hI : RowsB 16 w (.agg #[.string nm, .slice V X F, .slice A2 n2 G, .int .i64 (rg : Int), .slice A4 C I]) IN) (hO : RowsB 17 w (.agg #[.string nm, .slice V X F, .slice A2 n2 G, .int .i64 (rg : Int), .slice A4 C I]) OUT) (hN : RowsB 24 w (.agg #[.string nm, .slice V X F, .slice A2 n2 G, .int .i64 (rg : Int), .slice A4 C I]) NX) (hS : SameB)
  (hrg : rg ≤ 2048) (hn : C ≤ 1000000) (hi : IN.length = C) (ho : OUT.length = C) (hx : NX.length = C) (hnx : ∀ row ∈ NX, row.length ≤ 1000000 ∧ ∀ m ∈ row, 0 ≤ m ∧ m < (C : Int)) (hin : ∀ l ∈ IN, l.length ≤ 1000000 ∧ ∀ r ∈ l, 0 ≤ r ∧ r < (rg : Int))
  (heq : ∀ i, i < C → allOf (metOf IN rg (NX.getD i [])) rg = OUT.getD i []) :
  Calls Tryd.prog 6 #[(.agg #[.string nm, .slice V X F, .slice A2 n2 G, .int .i64 (rg : Int), .slice A4 C I])] w fun e w' => e = .returned (.bool true) ∧ Below w.heap.size w w' := by
 have HER := a_ hE; have HIN := a_ hI; have HOUT := a_ hO; have HNX := a_ hN; have HSAME := a_ hS; have HRG := a_ hrg; have j5 := a_ hn; have HIL := a_ hi; have HOL := a_ ho; have HXL := a_ hx; have HNXR := a_ hnx; have HINR := a_ hin; have HEQ := a_ heq; have ci : ((IN.length : Int) != (C : Int)) = false := bne_eq_false_iff_eq.mpr (by omega)
 have co : ((OUT.length : Int) != (C : Int)) = false := bne_eq_false_iff_eq.mpr (by omega)
 have cx : ((NX.length : Int) != (C : Int)) = false := bne_eq_false_iff_eq.mpr (by omega)
 clear hE hI hO hN hS hrg hn hi ho hx hnx hin heq; have HWI := a_ hW; have HAW := a_ hAw; clear hW hAw; have l8 := Tryd.underlying26; go_enter Tryd.func6, Tryd.ntmps6
 go_wp2_with (first | ((with_reducible refine gd_ 1 rfl ?_); refine q_box 1 26 #[.string nm, .slice V X F, .slice A2 n2 G, .int .i64 (rg : Int), .slice A4 C I] ?_; intro g1 j6 w1 b7 b8; have b9 := a_ b7; have a3 := a_ b8; clear j6 b7 b8; obtain ⟨c0, c3, c4, c6, c8⟩ := q_c5 b9.out) | (go_at_call 7; (with_reducible refine (HWI.out _ a3.out).mono ?_); rintro e w2 ⟨rfl, hb⟩; have c9 := a_ (blk_below b9.out hb); have a4 := a_ (below_then a3.out a3.out.size hb); clear hb; obtain ⟨d0, d1, d2, d3, d4⟩ := q_c5 c9.out) | (go_at_call 10; (with_reducible refine (HER.out _ a4.out).mono ?_); rintro e w3 ⟨rfl, hb⟩; have d5 := a_ (blk_below c9.out hb); have a5 := a_ (below_then a4.out a4.out.size hb); clear hb; obtain ⟨d6, d7, d8, d9, e0⟩ := q_c5 d5.out) | (go_at_call 16; (with_reducible refine (HIN.out _ a5.out).mono ?_); rintro e w4 ⟨v4, rfl, hs, hb⟩; obtain ⟨n8, n9, rfl⟩ := Kd.S_slice hs; skip; have e1 := a_ hs; have e2 := a_ (blk_below d5.out hb); have a6 := a_ (below_then a5.out a5.out.size hb); clear hs hb; obtain ⟨e3, e4, e5, e6, e7⟩ := q_c5 e2.out) | (go_at_call 17; (with_reducible refine (HOUT.out _ a6.out).mono ?_); rintro e w5 ⟨v5, rfl, hs, hb⟩; obtain ⟨o0, o1, rfl⟩ := Kd.S_slice hs; have e8 := a_ (Kd.S_below e1.out hb); have a7 := a_ hs; have e9 := a_ (blk_below e2.out hb); have a8 := a_ (below_then a6.out a6.out.size hb); clear hs hb; obtain ⟨f0, f1, f2, f3, f4⟩ := q_c5 e9.out) | (go_at_call 24; (with_reducible refine (HNX.out _ a8.out).mono ?_); rintro e E ⟨v6, rfl, hs, hb⟩; obtain ⟨o2, o3, rfl⟩ := Kd.S_slice hs; have f5 := a_ (Kd.S_below e8.out hb); have a9 := a_ (Kd.S_below a7.out hb); have f6 := a_ hs; have J := a_ (blk_below e9.out hb); have f7 := a_ (below_then a8.out a8.out.size hb); clear hs hb; obtain ⟨f8, f9, g0, g2, g3⟩ := q_c5 J.out))
 clear ci co cx c0 c3 c4 c6 c8 d0 d1 d2 d3 d4 d6 d7 d8 d9 e0 e3 e4 e5 e6 e7 f0 f1 f2 f3 f4 f8 f9 g0 g2 g3; go_loopg [9] C (fun gk v9 wx => ∃ x : Int, v9 = .int .i64 x ∧ Aside0 (∃ i : Nat, x = (i : Int) ∧ i + gk = C) ∧ Aside0 (Below E.heap.size E wx))
 case atStart => exact ⟨0, rfl, ⟨0, rfl, by omega⟩, ⟨Below.refl _ _⟩⟩
 case round => (
 obtain ⟨x, rfl, ⟨i, hx, hi⟩, HB⟩ := hrel; have HX := a_ hx; have HI := a_ hi; have BKx := a_ (blk_below J.out HB.out); have HBx := a_ (below_then f7.out f7.out.size HB.out); obtain ⟨g4, g5, g6, g7, g8⟩ := q_c5 BKx.out; cases gk with
 | zero => (
 have T : decide (x < (C : Int)) = false := decide_eq_false (by omega)
 clear hx hi; go_wp2_with (first | (go_at_call 8; (with_reducible refine (HAW.out _ HBx.out).mono ?_); rintro e w9 ⟨rfl, hb⟩; have j7 := a_ (below_then HBx.out HBx.out.size hb); clear hb))
 (try simp only [Exit.inBlock, Exit.then])
 refine bodyPost_ret (results_tmp rfl _ _ _) rfl ?_
 exact ⟨rfl, j7.out⟩)
 | succ gO => (
 have T : decide (x < (C : Int)) = true := decide_eq_true (by omega)
 have hil : i < NX.length := by have := HXL.out; omega
 have x0 : 0 ≤ x := by omega
 have xN : x < (NX.length : Int) := by have := HXL.out; omega
 have xO : x < (OUT.length : Int) := by have := HOL.out; omega
 obtain ⟨adX, AR, cR, e, hrow, hlrow, hCR⟩ := at_L2 (Kd.S_reads' f6.out).2.2 x x0 xN; cases e; obtain ⟨adO, AO, cO, e, hro, hlo, hCO⟩ := at_L2 (Kd.S_reads' a9.out).2.2 x x0 xO; cases e; obtain ⟨row, hrowe⟩ : ∃ row, row = rd_L2 NX x := ⟨_, rfl⟩; rw [← hrowe] at hrow hlrow hCR
 have b0 : row = NX.getD i [] := by rw [hrowe, hx]; simp [rd_L2]
 have b1 := HNXR.out row (by rw [b0, List.getD_eq_getElem?_getD, List.getElem?_eq_getElem hil]; exact List.getElem_mem _)
 obtain ⟨orow, horow⟩ : ∃ orow, orow = rd_L2 OUT x := ⟨_, rfl⟩; rw [← horow] at hro hlo hCO
 have hor : allOf (metOf IN rg row) rg = orow := by rw [b0, HEQ.out i (by omega), horow, hx]; simp [rd_L2]
 have HOR := a_ hor; have HLO := a_ hlo; have HCO := a_ hCO; have HCR := a_ hCR; have HRL := a_ b1.1; have HRM := a_ b1.2; have HROW := a_ hrow; have HRO := a_ hro; have HWX : Aside0 (wrap64 (x + 1) = x + 1) := ⟨wrap64_id (by omega) (by have := j5.out; omega)⟩
 have o5 := eq_true x0; have xxN := eq_true xN; have xxO := eq_true xO; skip
 clear hx hi hil x0 xN xO hrowe b0 b1 hor horow hlo hCO hCR hrow hro hlrow; go_wp2_with (first | ((with_reducible refine gd_ 82 rfl ?_); refine Kd.R_make Kd.bool _ 4 rfl (N := 82) rfl 37 _ _ rfl (rg : Int) rfl rfl Tryd.underlying37 (.bool false) 1 info4 rfl (by decide) (by omega) false (ok := fun _ => True) (okp := fun _ => True) rfl (fun _ hk => hk) trivial (Int.natCast_nonneg _) (by have := HRG.out; simp; omega) (Below.refl _ _) (Nat.le_refl _) ?_; intro vM w7 b2 g9 i0 i1; obtain ⟨gm, hbo, _⟩ := i1; obtain ⟨cm, rfl, hgm⟩ := R_formB (n := rg) (Kd.R_lower b2 HB.out.size) hbo (by simp); have GM := a_ hgm; have j8 : Aside0 (Kd.R Kd.bool 4 w7 E.heap.size (fun _ => True) (.slice (some ⟨gm, 0, none⟩) rg cm) (List.replicate rg false)) := ⟨by have h_ := Kd.R_lower b2 HB.out.size; rwa [Int.toNat_natCast] at h_⟩; have i2 := a_ (below_then HB.out HB.out.size g9); have j9 := cell_old HROW.out i2.out; clear i0 hbo hgm b2 g9))
 clear g4 g5 g6 g7 g8 T; go_loopg [11] row.length (fun gz k0 wz => ∃ y : Int, k0 = .int .i64 y ∧ Aside0 (∃ k : Nat, y = (k : Int) ∧ k + gz = row.length ∧ Kd.R Kd.bool 4 wz E.heap.size (fun _ => True) (.slice (some ⟨gm, 0, none⟩) rg cm) ((row.take k).foldl (fun met m => metRow met (IN.getD m.toNat [])) (List.replicate rg false))) ∧ Aside0 (Below E.heap.size E wz))
 case atStart => exact ⟨0, rfl, ⟨0, rfl, by omega, j8.out⟩, i2⟩
 case round => (
 obtain ⟨y, rfl, ⟨k, hy, hk, hM⟩, HBy⟩ := hrel; have HY := a_ hy; have HK := a_ hk; have BKy := a_ (blk_below J.out HBy.out); have hrowy := cell_old HROW.out HBy.out; cases gk with
 | zero => (
 have T : decide (y < (row.length : Int)) = false := decide_eq_false (by omega)
 obtain ⟨met, hmet⟩ : ∃ met, met = metOf IN rg row := ⟨_, rfl⟩; have hmf : (row.take k).foldl (fun met m => metRow met (IN.getD m.toNat [])) (List.replicate rg false) = met := by rw [List.take_of_length_le (by omega), hmet]; rfl
 rw [hmf] at hM; have HMET := a_ hmet; have HM := a_ hM; clear hy hk hM hmet hmf; go_wp2
 clear T hrowy; go_loopg [14, 15] rg (fun gz k1 k2 wz => ∃ z : Int, k2 = .int .i64 z ∧ Aside0 (∃ r : Nat, z = (r : Int) ∧ r + gz = rg ∧ Kd.R Kd.bool 4 wz E.heap.size (fun _ => True) (.slice (some ⟨gm, 0, none⟩) rg cm) met ∧ Kd.R (Kd.int .i64) 3 wz E.heap.size (fun _ => True) k1 (allOf met r)) ∧ Aside0 (Below E.heap.size E wz))
 case atStart => exact ⟨0, rfl, ⟨0, rfl, by omega, HM.out, Kd.R_nil _ _ _ _ _⟩, HBy⟩
 case round => (
 obtain ⟨z, rfl, ⟨r, hz, hr, hM, hA⟩, HBz⟩ := hrel; have HZ := a_ hz; have HR := a_ hr; have HMz := a_ hM; have HAz := a_ hA; have BKz := a_ (blk_below J.out HBz.out); obtain ⟨n0, n3, n5, n6, n7⟩ := q_c5 BKz.out; cases gk with
 | zero => (
 have T : decide (z < (rg : Int)) = false := decide_eq_false (by omega)
 have hall : allOf met r = orow := by rw [show r = rg by omega, HMET.out]; exact HOR.out
 rw [hall] at hA; have hol : orow.length ≤ 2048 := by rw [← hall]; exact Nat.le_trans (allOf_len _ _) (by have := HRG.out; omega)
 obtain ⟨AL, cL, eL⟩ := Kd.R_slice hA; subst eL; have HAA := a_ hA; have HOLL := a_ hol; have hroz := cell_old HRO.out HBz.out; clear hz hr hM hA hall hol; go_wp2_with (first | (go_at_call 25; (with_reducible refine (HSAME.out _ orow AL cL AO cO HOLL.out (Kd.R_reads' HAA.out).2.2 (Kd.R_reads' HAA.out).2.1 (Kd.C_below HCO.out HBz.out) HLO.out).mono ?_); rintro e w8 ⟨rfl, i3⟩; have L := a_ (below_then HBz.out HBz.out.size (Drawn0.below i3)); clear i3))
 go_roundg gO
 case measure => omega
 case rel => exact ⟨wrap64 (x + 1), rfl, ⟨i + 1, by rw [HWX.out, HX.out]; rfl, by have := HI.out; omega⟩, L⟩)
 | succ gT => (
 have T : decide (z < (rg : Int)) = true := decide_eq_true (by omega)
 have z0 : 0 ≤ z := by omega
 have z1 : z < (rg : Int) := by omega
 have hcm := (Kd.R_celln false hM z z0 z1).1; obtain ⟨mb, hmb⟩ : ∃ mb, mb = met.getD r false := ⟨_, rfl⟩; have hrd : rdOf false met z = mb := by rw [hmb, hz]; simp [rdOf]
 rw [hrd] at hcm; have hsu := allOf_succ met r; rw [← hmb] at hsu; have HWZ : Aside0 (wrap64 (z + 1) = z + 1) := ⟨wrap64_id (by omega) (by have := HRG.out; omega)⟩
 have HLM : Aside0 ((allOf met r).length < 17592186044415) := ⟨by have := allOf_len met r; have := HRG.out; omega⟩
 have k3 := eq_true z0; have k4 := eq_true z1; obtain ⟨al, hal⟩ : ∃ al, al = allOf met r := ⟨_, rfl⟩; rw [← hal] at hsu HAz HLM
 clear hz hr hM hA z0 z1 hmb hrd; cases mb with
 | true => (
 have HSU : Aside0 (allOf met (r + 1) = al ++ [z]) := ⟨by rw [hsu, HZ.out]; first | exact if_pos rfl | rfl⟩
 clear hsu hal; go_wp2_with (first | ((with_reducible refine gate_builtin (b := .append) (xs := #[.tmp 138, .tmp 140]) rfl ?_); at_builtin; refine Kd.R_append (Kd.int .i64) (w0 := E) E.heap.size rfl (.tmp 138) (.tmp 140) 27 3 (.int .i64 0) 8 rfl Tryd.underlying27 info3 rfl (by decide) (by omega) u14 al z [.int .i64 z] (fun _ => True) (fun _ => False) rfl rfl rfl (fun _ h => h.elim) (fun _ _ => trivial) HAz.out HBz.out HBz.out.size (by have := HLM.out; omega) ?_; intro v8 w8 i4 i5 i6 i7; have k5 := a_ i4; have L := a_ i5; have b5 := a_ (Kd.R_over' (v := u14) HMz.out (Kd.R_typed HAz.out) (by decide) i6); clear i4 i5 i6 i7))
 go_roundg gT
 case measure => omega
 case rel => exact ⟨wrap64 (z + 1), rfl, ⟨r + 1, by rw [HWZ.out, HZ.out]; rfl, by have := HR.out; omega, b5.out, by rw [HSU.out]; exact k5.out⟩, L⟩)
 | false => (
 have HSU : Aside0 (allOf met (r + 1) = al) := ⟨by rw [hsu]; first | exact if_neg (by simp) | rfl⟩
 clear hsu hal; go_wp2
 go_roundg gT
 case measure => omega
 case rel => exact ⟨wrap64 (z + 1), rfl, ⟨r + 1, by rw [HWZ.out, HZ.out]; rfl, by have := HR.out; omega, HMz.out, by rw [HSU.out]; exact HAz.out⟩, HBz⟩))))
 | succ gQ => (
 have T : decide (y < (row.length : Int)) = true := decide_eq_true (by omega)
 have hkl : k < row.length := by omega
 have y0 : 0 ≤ y := by omega
 have y1 : y < (row.length : Int) := by omega
 obtain ⟨adR, e, hcm⟩ := Kd.at_int HCR.out y y0 y1; cases e; obtain ⟨m, hm⟩ : ∃ m, m = rd row y := ⟨_, rfl⟩; rw [← hm] at hcm; replace hcm := cell_old hcm HBy.out; have hmk : m = row[k] := by rw [hm, hy]; simp [rd, hkl]
 have hmb := HRM.out m (by rw [hmk]; exact List.getElem_mem _)
 have m1 : m < (IN.length : Int) := by have := HIL.out; omega
 obtain ⟨adI, AI, cI, e, hin, hli, hCI⟩ := at_L2 (Kd.S_reads' f5.out).2.2 m hmb.1 m1; cases e; obtain ⟨ir, hir⟩ : ∃ ir, ir = rd_L2 IN m := ⟨_, rfl⟩; rw [← hir] at hin hli hCI
 have M : ir = IN.getD m.toNat [] := by rw [hir]; simp [rd_L2]
 have hmn : m.toNat < IN.length := by omega
 have O := HINR.out ir (by rw [M, List.getD_eq_getElem?_getD, List.getElem?_eq_getElem hmn]; exact List.getElem_mem _)
 replace hin := cell_old hin HBy.out; have HCI := a_ hCI; have HIRL := a_ O.1; have HIRM := a_ O.2; obtain ⟨met, hmet⟩ : ∃ met, met = (row.take k).foldl (fun met m => metRow met (IN.getD m.toNat [])) (List.replicate rg false) := ⟨_, rfl⟩
 have HNXT : Aside0 ((row.take (k + 1)).foldl (fun met m => metRow met (IN.getD m.toNat [])) (List.replicate rg false) = metRow met ir) := ⟨by rw [foldl_take _ _ hkl, ← hmet, ← hmk, M]⟩
 rw [← hmet] at hM; have HM := a_ hM; have HWY : Aside0 (wrap64 (y + 1) = y + 1) := ⟨wrap64_id (by omega) (by have := HRL.out; omega)⟩
 have k9 := eq_true y0; have l4 := eq_true y1; have l5 := eq_true hmb.1; have l6 := eq_true m1; clear hy hk hM hkl y0 y1 hm hmk hmb m1 hir M hmn O hmet hCI hli; go_wp2
 clear T hrowy hcm hin k9 l4 l5 l6; go_loopg [13] ir.length (fun gz l7 wz => ∃ z : Int, l7 = .int .i64 z ∧ Aside0 (∃ q : Nat, z = (q : Int) ∧ q + gz = ir.length ∧ Kd.R Kd.bool 4 wz E.heap.size (fun _ => True) (.slice (some ⟨gm, 0, none⟩) rg cm) (metRow met (ir.take q))) ∧ Aside0 (Below E.heap.size E wz))
 case atStart => exact ⟨0, rfl, ⟨0, rfl, by omega, HM.out⟩, HBy⟩
 case round => (
 obtain ⟨z, rfl, ⟨q, hz, hq, hM⟩, HBz⟩ := hrel; have HZ := a_ hz; have HQ := a_ hq; have HMz := a_ hM; have BKz := a_ (blk_below J.out HBz.out); cases gk with
 | zero => (
 have T : decide (z < (ir.length : Int)) = false := decide_eq_false (by omega)
 have HFN : Aside0 (metRow met (ir.take q) = metRow met ir) := ⟨by rw [List.take_of_length_le (by omega)]⟩
 clear hz hq hM; go_wp2
 go_roundg gQ
 case measure => omega
 case rel => exact ⟨wrap64 (y + 1), rfl, ⟨k + 1, by rw [HWY.out, HY.out]; rfl, by have := HK.out; omega, by rw [HNXT.out, ← HFN.out]; exact HMz.out⟩, HBz⟩)
 | succ gT => (
 have T : decide (z < (ir.length : Int)) = true := decide_eq_true (by omega)
 have hql : q < ir.length := by omega
 have z0 : 0 ≤ z := by omega
 have z1 : z < (ir.length : Int) := by omega
 obtain ⟨adr, e, hcu⟩ := Kd.at_int HCI.out z z0 z1; cases e; obtain ⟨u, hu⟩ : ∃ u, u = rd ir z := ⟨_, rfl⟩; rw [← hu] at hcu; replace hcu := cell_old hcu HBz.out; have huq : u = ir[q] := by rw [hu, hz]; simp [rd, hql]
 have hub := HIRM.out u (by rw [huq]; exact List.getElem_mem _)
 have hst : metRow met (ir.take (q + 1)) = (metRow met (ir.take q)).set u.toNat true := by unfold metRow; rw [foldl_take _ _ hql, ← huq]
 have HST := a_ hst; have C0 : Aside0 (decide (u < 0) = false) := ⟨decide_eq_false (by omega)⟩
 have C1 : Aside0 (decide ((rg : Int) ≤ u) = false) := ⟨decide_eq_false (by omega)⟩
 have i8 : wr.cell? ⟨g1, 3, none⟩ = some (.int .i64 (rg : Int)) := q_b BKz.out 3
 obtain ⟨mt, hmt⟩ : ∃ mt, mt = metRow met (ir.take q) := ⟨_, rfl⟩; rw [← hmt] at hM HST HMz
 have hkm := (Kd.R_celln false hM u hub.1 hub.2).1; have hfm := (Kd.R_celln false hM u hub.1 hub.2).2; have HWZ : Aside0 (wrap64 (z + 1) = z + 1) := ⟨wrap64_id (by omega) (by have := HIRL.out; omega)⟩
 have k3 := eq_true z0; have k4 := eq_true z1; have u0 := eq_true hub.1; have u1 := eq_true hub.2; clear hz hq hM hql z0 z1 hu huq hub hst hmt; go_upto_region 19 with (fail)
 refine q_s 14 (S := fun W' => W'.cell? (adr.add z.toNat) = some (.int .i64 u) ∧ W'.cell? ⟨g1, 3, none⟩ = some (.int .i64 (rg : Int))) ⟨hcu, i8⟩ (fun D => ?_)
 refine with_tabW ed.tab19 ed.bits19 (fun B U => ?_)
 refine qv_ 0 B ?_
 refine qv_ 1 B ?_
 refine qv_ 2 B ?_
 refine qt_ 3 B U D ?_
 refine qv_ (v := .bool false) 4 B ?_ (hy := by intro w'; go_simp; first | done | rw [C0.out])
 refine qv_ 5 B ?_
 refine qv_ 6 B ?_
 refine qv_ 7 B ?_
 refine qv_ 8 B ?_
 refine qv_ 10 B ?_
 refine qt_ 9 B U D ?_
 refine qt_ 11 B U D ?_
 refine qv_ (v := .bool false) 12 B ?_ (hy := by intro w'; go_simp; first | done | rw [C1.out])
 refine qv_ 13 B ?_
 refine done_ (done_of B.out (by kernel_rfl)) ?_
 clear B U D; go_wp2_with (first | ((with_reducible refine gate_store (t := 4) (p := 127) rfl ?_); refine store_event (t := 4) (p := 127) (v := .const (.bool true)) (w1 := (wr.drew.setCell ⟨gm, u.toNat, none⟩ (.bool true))) ?hg ?ho ?hn ?hr ?_; (case ho => rfl); (case hg => rfl); (case hn => rfl); (case hr => first | (go_simp; done) | (go_simp; rfl)); intro w8 hw_; have b5 : Aside0 (Kd.R Kd.bool 4 w8 E.heap.size (fun _ => True) (.slice (some ⟨gm, 0, none⟩) rg cm) (mt.set u.toNat true)) := ⟨by rw [hw_]; exact (Kd.R_putg (Kd.R_drew HMz.out) u true).1⟩; have L : Aside0 (Below E.heap.size E w8) := ⟨by rw [hw_]; exact below_set (below_drew1 HBz.out) GM.out⟩; clear hw_))
 go_roundg gT
 case measure => omega
 case rel => exact ⟨wrap64 (z + 1), rfl, ⟨q + 1, by rw [HWZ.out, HZ.out]; rfl, by have := HQ.out; omega, by rw [HST.out]; exact b5.out⟩, L⟩))))))
end Go.Proofs.YtefhpdcafdhcaaaDoor.S
end
section
namespace Go.Proofs.YtefhpdcafdhcaaaDoor.M
open Go Go.RowKit Go.Proofs.YtefhpdcafdhcaaaDoorW.PrintWords Go.Proofs.YtefhpdcafdhcaaaDoorW.PrintLast Go.Proofs.YtefhpdcafdhcaaaDoorW.PrintMore Go.Proofs.YtefhpdcafdhcaaaDoor Go.Proofs.YtefhpdcafdhcaaaDoor.A Go.Proofs.YtefhpdcafdhcaaaDoor.B Go.Proofs.YtefhpdcafdhcaaaDoor.N Go.Proofs.YtefhpdcafdhcaaaDoor.V Go.Proofs.YtefhpdcafdhcaaaDoor.S
open FlowM (next Fine FineNd FineG Live liveF after listOf mem_listOf after_bit)
theorem getD_b {l : List Bool} {i j : Nat} (hi : i < l.length) : (l.set i true).getD j false = (l.getD j false || decide (i = j)) := by
 rw [List.getD_eq_getElem?_getD, List.getD_eq_getElem?_getD, List.getElem?_set]; by_cases h : i = j
 ·subst h; rw [if_pos rfl, if_pos hi, decide_eq_true rfl, Bool.or_true]; rfl
 ·rw [if_neg h, decide_eq_false h, Bool.or_false]
theorem metRow_get (r : Nat) : ∀ (l : List Int) (met : List Bool), (∀ x ∈ l, 0 ≤ x ∧ x < (met.length : Int)) → (metRow met l).getD r false = (met.getD r false || decide ((r : Int) ∈ l))
 | [], met, _ => by simp [metRow]
 | x :: l, met, h => by {
 have hx := h x List.mem_cons_self; show (metRow (met.set x.toNat true) l).getD r false = _
 rw [metRow_get r l _ (fun y hy => by rw [List.length_set]; exact h y (List.mem_cons_of_mem _ hy)), getD_b (by omega), Bool.or_assoc]
 congr 1
 rw [Bool.eq_iff_iff, Bool.or_eq_true, decide_eq_true_eq, decide_eq_true_eq, decide_eq_true_eq, List.mem_cons]; constructor
 {
 rintro (h1 | h1)
 ·left; omega
 ·right; exact h1}
 {
 rintro (h1 | h1)
 ·left; omega
 ·right; exact h1}}
theorem metOf_get {IN : List (List Int)} {rg : Nat} (r : Nat) : ∀ (row : List Int) (met : List Bool), met.length = rg → (∀ m ∈ row, ∀ x ∈ IN.getD m.toNat [], 0 ≤ x ∧ x < (rg : Int)) → (row.foldl (fun met m => metRow met (IN.getD m.toNat [])) met).getD r false = (met.getD r false || row.any fun m => decide ((r : Int) ∈ IN.getD m.toNat []))
 | [], met, _, _ => by simp
 | m :: row, met, hl, h => by rw [List.foldl_cons, metOf_get r row _ (by rw [metRow_len, hl]) (fun x hx => h x (List.mem_cons_of_mem _ hx)), metRow_get r _ met (fun x hx => by rw [hl]; exact h m List.mem_cons_self x hx), List.any_cons, Bool.or_assoc]
theorem mem_regsL {s n r : Nat} : (r : Int) ∈ regsL s n ↔ r < n ∧ s.testBit r = true := by
 unfold regsL
 rw [List.mem_map]; constructor
 ·rintro ⟨q, hq, he⟩
  have : q = r := Int.ofNat.inj he
  rw [← this]; exact mem_listOf.1 hq
 ·intro h; exact ⟨r, mem_listOf.2 h, rfl⟩
theorem regsL_range {s n : Nat} : ∀ x ∈ regsL s n, 0 ≤ x ∧ x < (n : Int) := by
 intro x hx
 unfold regsL at hx
 obtain ⟨q, hq, rfl⟩ := List.mem_map.1 hx; have := (mem_listOf.1 hq).1
 simp; omega
theorem gather {R : List Nat} {n : Nat} {row : List Int} (hr : ∀ m ∈ row, 0 ≤ m ∧ m < (R.length : Int)) : allOf (metOf (R.map fun s => regsL s n) n row) n = regsL (after row R) n := by
 have hget : ∀ m ∈ row, (R.map fun s => regsL s n).getD m.toNat [] = regsL (R.getD m.toNat 0) n := by {
 intro m hm
 have h := hr m hm; have b : m.toNat < R.length := by omega
 rw [List.getD_eq_getElem?_getD, List.getElem?_map, List.getD_eq_getElem?_getD, List.getElem?_eq_getElem b]; rfl}
 show ((List.range n).filter _).map Int.ofNat = ((List.range n).filter _).map Int.ofNat
 congr 1
 apply List.filter_congr
 intro r hrn
 rw [List.mem_range] at hrn; unfold metOf
 rw [metOf_get r row _ List.length_replicate (fun m hm x hx => by rw [hget m hm] at hx; exact regsL_range x hx)]
 unfold after
 rw [after_bit]; have l : (List.replicate n false).getD r false = false := by rw [List.getD_eq_getElem?_getD, List.getElem?_replicate]; split <;> rfl
 rw [l, Bool.false_or, Nat.zero_testBit, Bool.false_or]; rw [Bool.eq_iff_iff, List.any_eq_true, List.any_eq_true]; constructor
 {
 rintro ⟨m, hm, h⟩
 refine ⟨m, hm, ?_⟩
 rw [decide_eq_true_eq, hget m hm, mem_regsL] at h; exact h.2}
 {
 rintro ⟨m, hm, h⟩
 refine ⟨m, hm, ?_⟩
 rw [decide_eq_true_eq, hget m hm, mem_regsL]; exact ⟨hrn, h⟩}
theorem sameInts_ev {l : List Int} (hl : l.length ≤ 2048) : ∀ (m j : Nat), j + m = l.length → Evt (fun k => r5_SameInts.l0 k l l (j : Int)) true
 | 0, j, h => by {
 refine Evt.succ ?_
 simp only [r5_SameInts.l0]
 exact Evt.neg (by omega) (Evt.const _)}
 | m + 1, j, h => by {
 refine Evt.succ ?_
 simp only [r5_SameInts.l0]
 refine Evt.pos (by omega) (Evt.pos (by omega) (Evt.pos (by omega) (Evt.pos trivial ?_)))
 rw [wrap_succ j (by omega)]
 exact sameInts_ev hl m (j + 1) (by omega)}
theorem sameB : SameB := by
 intro w0 l p q A1 c1 hl y b h1 hc1
 obtain ⟨k, hk⟩ := (sameInts_ev hl l.length 0 (by omega)).get
 exact r5_SameInts.calls k p q l A1 c1 l true w0 y b h1 hc1 (by unfold r5_SameInts.f; rw [if_pos rfl]; exact hk)
theorem flow_cases (nm : ByteArray) {ps : List S83} {ar : List S85} (rg : Int) {N : List S69} (hB : Big ps ar N) (hI : Ints N) :
  Evt (fun k => l11_wide.f k nm ps ar rg N) true ∨
  (Small nm ps ar N ∧ Evt (fun k => l11_wide.f k nm ps ar rg N) false ∧ ∃ e : Int, e ≠ 0 ∧ Evt (fun k => r11_Error.f k nm ps ar rg N) e ∧ Evt (fun k => alloc_fits.f k nm ps ar rg N) e) ∨
  (Small nm ps ar N ∧ Evt (fun k => l11_wide.f k nm ps ar rg N) false ∧ Evt (fun k => r11_Error.f k nm ps ar rg N) 0 ∧ Evt (fun k => alloc_fits.f k nm ps ar rg N) 0 ∧ VF nm ps ar rg N ∧ Evt (fun k => flow_Valid.f k nm ps ar rg N) true ∧ rg ≤ 300 ∧ ∀ n ∈ N, ∀ y ∈ n.f0, y.f0 ≠ 11) := by
 obtain ⟨b, hW, hS⟩ := wide_ev nm rg hB; cases b with
 | true => (
 left
 unfold l11_wide.f
 exact Evt.bind hW (Evt.pos rfl (Evt.const _)))
 | false => (
 have hs := hS rfl; obtain ⟨v, hR, hF, _⟩ := valid_ev nm rg hs hI; obtain ⟨e, hE, hA, p⟩ := err_ev nm rg hs hI; by_cases l : rg > 300
 {
 cases v with
 | true => (
 left
 unfold l11_wide.f
 exact Evt.bind hW (Evt.neg (by simp) (Evt.pos l (Evt.bind hR (Evt.const _)))))
 | false => (
 right; left
 refine ⟨hs, ?_, e, fun he => ?_, hE, hA⟩
 {
 unfold l11_wide.f
 exact Evt.bind hW (Evt.neg (by simp) (Evt.pos l (Evt.bind hR (Evt.const _))))}
 {
 have := Evt.uniq hF (p he).2.1
 cases this})}
 {
 have hw : Evt (fun k => l11_wide.f k nm ps ar rg N) false := by {
 unfold l11_wide.f
 exact Evt.bind hW (Evt.neg (by simp) (Evt.neg l (Evt.const _)))}
 right
 by_cases he : e = 0
 {
 right
 subst he; obtain ⟨h1, h2, h4⟩ := p rfl; exact ⟨hs, hw, hE, hA, h1, h2, by omega, h4⟩}
 {
 left
 exact ⟨hs, hw, e, he, hE, hA⟩}})
section
variable {nm : ByteArray} {ps : List S83} {ar : List S85} {rg : Int} {N : List S69} {w : World} {A1 : Option Addr} {c1 : Nat} {A2 : Option Addr} {c2 : Nat} {A4 : Option Addr} {c4 : Nat}
variable (h1 : Kd.C k83 w A1 ps.length ps) (hc1 : ps.length ≤ c1) (h2 : Kd.C k85 w A2 ar.length ar) (hc2 : ar.length ≤ c2) (h4 : Kd.C k69 w A4 N.length N) (hc4 : N.length ≤ c4)
include h1 hc1 h2 hc2 h4 hc4
theorem wideB_of {b : Bool} (h : Evt (fun k => l11_wide.f k nm ps ar rg N) b) : WideB w (.agg #[.string nm, .slice A1 ps.length c1, .slice A2 ar.length c2, .int .i64 rg, .slice A4 N.length c4]) b := by
 obtain ⟨k, hk⟩ := h.get; intro w0 hb
 exact l11_wide.calls k nm A1 c1 ps A2 c2 ar rg A4 c4 N b w0 (Kd.C_below h1 hb) hc1 (Kd.C_below h2 hb) hc2 (Kd.C_below h4 hb) hc4 hk
theorem errB_of {e : Int} (h : Evt (fun k => r11_Error.f k nm ps ar rg N) e) : ErrB w (.agg #[.string nm, .slice A1 ps.length c1, .slice A2 ar.length c2, .int .i64 rg, .slice A4 N.length c4]) e := by
 obtain ⟨k, hk⟩ := h.get; intro w0 hb
 exact r11_Error.calls k nm A1 c1 ps A2 c2 ar rg A4 c4 N e w0 (Kd.C_below h1 hb) hc1 (Kd.C_below h2 hb) hc2 (Kd.C_below h4 hb) hc4 hk
variable (hT : Tab w)
include hT
omit h1 hc1 h2 hc2 h4 hc4 in
theorem awB_of : AwB w := by
 intro w0 hb
 exact awakeC w0 (hT.below hb)
theorem intoB_of {r : List (List Int)} (h : Evt (fun k => alloc_Into.f k nm ps ar rg N) (r, 0)) : RowsB 16 w (.agg #[.string nm, .slice A1 ps.length c1, .slice A2 ar.length c2, .int .i64 rg, .slice A4 N.length c4]) r := by
 obtain ⟨k, hk⟩ := h.get; intro w0 hb
 exact alloc_Into.calls k nm A1 c1 ps A2 c2 ar rg A4 c4 N r 0 w0 (Kd.C_below h1 hb) hc1 (Kd.C_below h2 hb) hc2 (Kd.C_below h4 hb) hc4 hk (hT.below hb)
theorem outB_of {r : List (List Int)} (h : Evt (fun k => alloc_Out.f k nm ps ar rg N) (r, 0)) : RowsB 17 w (.agg #[.string nm, .slice A1 ps.length c1, .slice A2 ar.length c2, .int .i64 rg, .slice A4 N.length c4]) r := by
 obtain ⟨k, hk⟩ := h.get; intro w0 hb
 exact alloc_Out.calls k nm A1 c1 ps A2 c2 ar rg A4 c4 N r 0 w0 (Kd.C_below h1 hb) hc1 (Kd.C_below h2 hb) hc2 (Kd.C_below h4 hb) hc4 hk (hT.below hb)
theorem succB_of {r : List (List Int)} (h : Evt (fun k => flow_Successors.f k nm ps ar rg N) (r, 0)) : RowsB 24 w (.agg #[.string nm, .slice A1 ps.length c1, .slice A2 ar.length c2, .int .i64 rg, .slice A4 N.length c4]) r := by
 obtain ⟨k, hk⟩ := h.get; intro w0 hb
 exact flow_Successors.calls k nm A1 c1 ps A2 c2 ar rg A4 c4 N r 0 w0 (Kd.C_below h1 hb) hc1 (Kd.C_below h2 hb) hc2 (Kd.C_below h4 hb) hc4 hk (hT.below hb)
theorem edges_law (hB : Big ps ar N) (hI : Ints N) : Calls Tryd.prog 6 #[.agg #[.string nm, .slice A1 ps.length c1, .slice A2 ar.length c2, .int .i64 rg, .slice A4 N.length c4]] w fun e w' => e = .returned (.bool true) ∧ Below w.heap.size w w' := by
 rcases flow_cases nm rg hB hI with hw | ⟨hs, hw, e, he, hE, hA⟩ | ⟨hs, hw, hE, hA, hV, hFV, b, _⟩
 ·exact edgesA w nm A1 _ c1 A2 _ c2 rg A4 _ c4 (wideB_of h1 hc1 h2 hc2 h4 hc4 hw) (awB_of hT)
 ·exact edgesB w nm A1 _ c1 A2 _ c2 rg A4 _ c4 e he (wideB_of h1 hc1 h2 hc2 h4 hc4 hw) (errB_of h1 hc1 h2 hc2 h4 hc4 hE) (awB_of hT)
 {
 obtain ⟨R, hR, hRl, _, _⟩ := live_ev nm rg hs hV hFV; have hsum := hs.sum; have p := hV.r0; have hN : N.length ≤ 400 := by omega
 have hS := succ_ev nm rg hN hFV; have hI : Evt (fun k => alloc_Into.f k nm ps ar rg N) (R.map fun s => regsL s rg.toNat, 0) := by {
 unfold alloc_Into.f
 exact Evt.bind hA (Evt.pos rfl (Evt.bind hR (Evt.const _)))}
 have hO : Evt (fun k => alloc_Out.f k nm ps ar rg N) ((List.range R.length).map fun i => regsL (after ((N.map next).getD i []) R) rg.toNat, 0) := by {
 unfold alloc_Out.f
 exact Evt.bind hA (Evt.pos rfl (Evt.bind hR (Evt.const _)))}
 have hwB := wideB_of h1 hc1 h2 hc2 h4 hc4 hw; have heB := errB_of h1 hc1 h2 hc2 h4 hc4 hE; have hiB := intoB_of h1 hc1 h2 hc2 h4 hc4 hT hI; have hoB := outB_of h1 hc1 h2 hc2 h4 hc4 hT hO; have hsB := succB_of h1 hc1 h2 hc2 h4 hc4 hT hS; obtain ⟨g, rfl⟩ : ∃ g : Nat, rg = (g : Int) := ⟨rg.toNat, by omega⟩
 rw [Int.toNat_natCast] at hiB hoB
 have hrow : ∀ row ∈ N.map next, row.length ≤ 1000000 ∧ ∀ m ∈ row, 0 ≤ m ∧ m < (N.length : Int) := by {
 intro row hr
 obtain ⟨n, hn, rfl⟩ := List.mem_map.1 hr; exact ⟨Nat.le_trans (next_len n) (by omega), (hV.fine n hn).2.2⟩}
 refine edgesC w nm A1 _ c1 A2 _ c2 g A4 _ c4 _ _ _ hwB heB (awB_of hT) hiB hoB hsB sameB (by omega) (by omega) (by simp [hRl]) (by simp [hRl]) (by simp) hrow ?_ ?_
 {
 intro l hl
 obtain ⟨s, _, rfl⟩ := List.mem_map.1 hl; refine ⟨?_, regsL_range⟩
 unfold regsL listOf
 rw [List.length_map]; exact Nat.le_trans (List.length_filter_le _ _) (by rw [List.length_range]; omega)}
 {
 intro i hi
 rw [gather]
 {
 generalize hr : (N.map next).getD i [] = row
 symm
 rw [List.getD_eq_getElem?_getD, List.getElem?_map, List.getElem?_range (by omega), Option.map_some, Option.getD_some, hr]}
 {
 intro m hm
 rw [hRl]; refine (hrow _ ?_).2 m hm
 rw [List.getD_eq_getElem?_getD, List.getElem?_eq_getElem (by simpa using hi)]
 exact List.getElem_mem _}}}
end
end Go.Proofs.YtefhpdcafdhcaaaDoor.M
end
