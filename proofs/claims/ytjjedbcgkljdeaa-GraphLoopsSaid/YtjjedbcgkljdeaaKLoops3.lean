/- Texts of this claim, cut down to what its theorem uses and laid end to end (wip/shake.py). -/
import Derived.ArgAppend
import Derived.Below
import Derived.BigQuiet
import Derived.ChangeOld
import Derived.ChangeSlices
import Derived.Deep.AppendLies
import Derived.Deep.CutBlock
import Derived.Deep.DeepCutAuto
import Derived.Deep.Draws
import Derived.Deep.LoopGhost
import Derived.Deep.Matrix
import Derived.Deep.OwnRows
import Derived.Deep.QuietTactic
import Derived.Deep.RegionHeld3
import Derived.KernelRfl
import Derived.Laws.BitsLemmas
import Derived.Laws.BytesArg
import Derived.Laws.CopyOwn
import Derived.Laws.IdiomCopy
import Derived.Laws.MakeOwn
import Derived.Laws.OwnMore
import Derived.Laws.Rows
import Derived.Laws.Slices
import Derived.Laws.StructEq
import Derived.Lib.AppendStr
import Derived.Lib.ConvBytes
import Derived.LoopIn
import Derived.LoopNIn
import Derived.Maps.AppendAt
import Derived.OpenShut
import Derived.OrdersHeld
import Derived.OwnWalk
import Derived.OwnWalkIn
import Derived.ProofKit
import Derived.RangeFuncBound
import Derived.RangeFuncBox
import Derived.RangeFuncCalls
import Derived.RangeFuncFrom
import Derived.RangeFuncLeaves
import Derived.RangeFuncNested
import Derived.RowKit
import Derived.RowKit3
import Derived.Shelf.Abstract
import Derived.ShutString
import Derived.SizedLaws
import Derived.Tactics
import Derived.TacticsInMore
import Derived.Test.YtjjedbcgkljdeaaProg
import Derived.WalkKit
import Derived.WideLaws
import GoSem.ClaimData
import Derived.Test.YtjjedbcgkljdeaaKLoops2
section
namespace Go.Proofs.Ytjjedbcgkljdeaa.D
open Go Go.RowKit Go.Shelf Go.Proofs.YtjjedbcgkljdeaaW.PrintWords Go.Proofs.YtjjedbcgkljdeaaW.PrintLast Go.Proofs.YtjjedbcgkljdeaaW.PrintMore Go.Proofs.Ytjjedbcgkljdeaa Go.Proofs.Ytjjedbcgkljdeaa.A Go.Proofs.Ytjjedbcgkljdeaa.B
attribute [local go_sem] Oper.semAt_some
theorem R_betweenQ {α : Type} {d : Kd α} {e : Nat} {w1 w2 : World} {base b : Nat} {v : Value} {xs : List α} (h : d.R e w1 base (fun _ => True) v xs) (hb : b ≤ base) (hw : Below w1.heap.size w1 w2) : d.R e w2 b (fun k => b ≤ k ∧ k < w2.heap.size) v xs :=
 Kd.R_below (Kd.R_lower (Kd.R_mono (Kd.R_bound h) (fun _ hk => ⟨Nat.le_trans hb hk.2.1, Nat.lt_of_lt_of_le hk.2.2.1 hw.size⟩)) hb) hw
structure RdSt (w w2 W : World) (go : Nat) (vs : List Value) (ls : List (List Int)) (vK : Value) (back : List (List Int)) : Prop where
 o : OutSt w2 W w2.heap.size go vs ls
 wgo : w.heap.size ≤ go
 b2 : Below w.heap.size w w2
 back : Kd.R (Kd.slice 3 (Kd.int .i64)) 33 w2 (go + 1) (fun k => go < k ∧ k < w2.heap.size) vK back
section
variable {w w2 W : World} {go : Nat} {vs : List Value} {ls : List (List Int)} {vK : Value} {back : List (List Int)}
theorem RdSt.backR (h : RdSt w w2 W go vs ls vK back) : Kd.R (Kd.slice 3 (Kd.int .i64)) 33 W (go + 1) (fun k => go < k ∧ k < w2.heap.size) vK back := Kd.R_move h.back (fun _ hk => h.o.same _ hk.2 (by omega))
theorem RdSt.grown (h : RdSt w w2 W go vs ls vK back) {W1 : World} (hb : Below W.heap.size W W1) : RdSt w w2 W1 go vs ls vK back := ⟨h.o.grown hb, h.wgo, h.b2, h.back⟩
theorem RdSt.below (h : RdSt w w2 W go vs ls vK back) : Below w.heap.size w W := h.o.below h.b2 h.wgo
end
set_option maxHeartbeats 4000000 in
set_option maxRecDepth 100000 in
theorem graph_Reducible.calls (k : Nat) (A0 : Option Addr) (c0 : Nat) (l0 : List (List Int)) (r1 : Bool) (r2 : Int) (w : World) (hr0 : Kd.C (Kd.slice 3 (Kd.int .i64)) w A0 l0.length l0) (hc0 : l0.length ≤ c0) (h : graph_Reducible.f k l0 = some (r1, r2)) :
  Calls Try.prog 17 #[.slice A0 l0.length c0] w fun e w' => e = .returned (.tuple #[.bool r1, .int .i64 r2]) ∧ Below w.heap.size w w' := by
 unfold graph_Reducible.f at h
 obtain ⟨v, hv, h⟩ := Option.bind_eq_some_iff.mp h; have HR0 := Aside0.mk hr0; have HC0 := Aside0.mk hc0; have HV := Aside0.mk hv; clear hr0 hc0 hv; cases v with
 | false =>
  simp only [Bool.false_eq_true, if_false, Option.some.injEq, Prod.mk.injEq] at h
  obtain ⟨rfl, rfl⟩ := h; go_enter Try.func17, Try.ntmps17
  go_wp2_with fail
  refine (graph_valid.calls k _ _ l0 false _ HR0.out HC0.out HV.out).mono ?_
  rintro e w1 ⟨rfl, ⟨nd, rfl⟩⟩
  go_wp2
  go_ret2
  exact ⟨rfl, pw_below_drewN (Below.refl _ _) _⟩
 | true =>
  simp only [if_true] at h
  by_cases hlen : l0.length ≤ 5864062014805
  case neg => rw [if_neg hlen] at h; cases h
  rw [if_pos hlen] at h; obtain ⟨back, hbk, h⟩ := Option.bind_eq_some_iff.mp h; obtain ⟨left, hlf, h⟩ := Option.bind_eq_some_iff.mp h; by_cases hll : left.length = l0.length
  case neg => rw [if_neg hll] at h; cases h
  rw [if_pos hll] at h; obtain ⟨order, hor, h⟩ := Option.bind_eq_some_iff.mp h; obtain ⟨place, hpl, h⟩ := Option.bind_eq_some_iff.mp h; obtain ⟨seen, hsn, h⟩ := Option.bind_eq_some_iff.mp h; obtain ⟨rr, hrr, h⟩ := Option.bind_eq_some_iff.mp h; simp only [Option.some.injEq, Prod.mk.injEq] at h
  obtain ⟨rfl, rfl⟩ := h; have HBk := Aside0.mk hbk; have HLf := Aside0.mk hlf; have HLL := Aside0.mk hll; have HOr := Aside0.mk hor; have HPl := Aside0.mk hpl; have HSn := Aside0.mk hsn; have HRr := Aside0.mk hrr; clear hbk hlf hll hor hpl hsn hrr; have hmk := print_make_of (P := Try.prog) 22 33 (.slice none 0 0) 24 Try.underlying22 A.info33 rfl (by decide) l0.length (by omega)
  refine callsIn_wide.1 (callsIn_of_wp_marks (n := 3) Try.func17 rfl trivial ?_ rfl)
  simp only [Try.ntmps17, List.size_toArray, List.length_cons, List.length_nil, Nat.reduceAdd, Nat.reduceSub, Array.replicate_succ, Array.replicate_zero, List.push_toArray, List.append_toArray, List.nil_append, List.cons_append]
  refine wpIn_wide.2 ?_
  go_wp2_with fail
  refine (graph_valid.calls k _ _ l0 true _ HR0.out HC0.out HV.out).mono ?_
  rintro e w1 ⟨rfl, ⟨nd, rfl⟩⟩
  go_upto_region 4 with (fail)
  clear hmk; obtain ⟨go, hgo⟩ : ∃ go, go = w.heap.size := ⟨_, rfl⟩; rw [← hgo]; refine gen_world (P := fun W => W.heap[go]? = some (.cells (List.replicate l0.length (.slice none 0 0)).toArray 33 (0, 0)) ∧ Below w.heap.size w W) ?_ ?_
  ·refine ⟨?_, (pw_below_drewN (Below.refl _ _) nd).alloc (Nat.le_refl _) _⟩
   have e0 : (madeCells #[(.slice none 0 0 : Value)] l0.length) = (List.replicate l0.length (.slice none 0 0)).toArray := by
    apply Array.ext_getElem?
    intro i
    simp only [madeCells, Array.getElem?_map, List.getElem?_toArray]
    by_cases hi : i < l0.length
    ·rw [Array.getElem?_eq_getElem (by simpa using hi), List.getElem?_eq_getElem (by simpa using hi)]; simp [Nat.mod_one]
    ·rw [Array.getElem?_eq_none (by simpa using hi), List.getElem?_eq_none (by simpa using hi)]; rfl
   rw [e0]; exact new_at _ hgo
  rintro W1 ⟨ht1, hb1⟩
  have HT1 := Aside0.mk ht1; have HB1 := Aside0.mk hb1; have HGo := Aside0.mk hgo; clear ht1 hb1 hgo; go_wp2_with fail
  refine (graph_backs.calls k _ _ l0 back _ (Kd.C_below HR0.out HB1.out) HC0.out HBk.out).mono ?_
  rintro e w2 ⟨vK, rfl, hrK, hbK⟩
  obtain ⟨AK, cK, rfl⟩ := Kd.R_slice (Kd.S_R hrK); have HRK := Aside0.mk (Kd.S_R hrK); have HBK := Aside0.mk hbK; have HB6 : Aside0 (Below w.heap.size w w2) := ⟨HB1.out.trans (HBK.out.mono HB1.out.size)⟩
  clear hrK hbK; have hF : RdSt w w2 w2 go (List.replicate l0.length (.slice none 0 0)) (List.replicate l0.length []) (.slice AK back.length cK) back := by
   have hlt := blk_lt HT1.out; have s4 := HBK.out.size; refine ⟨⟨by simp, blk_below HT1.out HBK.out, by omega, Nat.le_refl _, ?_, ?_, rfl, rfl, rfl, Nat.le_refl _, fun _ _ _ => rfl⟩, by rw [HGo.out]; exact Nat.le_refl _, HB6.out, ?_⟩
   ·intro i hi
    have hi' : i < l0.length := by simpa using hi
    have e1 : (List.replicate l0.length ([] : List Int)).getD i [] = [] := by rw [List.getD_eq_getElem?_getD]; simp [hi']
    rw [e1, List.getElem_replicate]; exact own_nil _ _ _ _
   ·intro i j hi hj _ hn
    rw [List.getElem_replicate] at hn; exact absurd rfl hn
   ·exact R_betweenQ HRK.out (by omega) (Below.refl _ _)
  have HF := Aside0.mk hF; clear hF HB1 HB6 HBK HRK HT1; have HO0 : Aside0 (rdA k back l0 (List.range' 0 l0.length) (List.replicate l0.length []) = some left) := ⟨by rw [← List.range_eq_range']; exact HLf.out⟩
  have hmK := Kd.C_max (Kd.R_reads' HF.out.back).2.2; clear HLf HV HBk h HC0; go_wp2
  go_loopw [28] (fun i wr => ∃ (j : Nat) (vs : List Value) (ls : List (List Int)), j ≤ l0.length ∧ i = .int .i64 j ∧ Aside0 (rdA k back l0 (List.range' j (l0.length - j)) ls = some left) ∧ Aside0 (RdSt w w2 wr go vs ls (.slice AK back.length cK) back) ∧ Aside0 (ls.length = l0.length)) (fun i _ => l0.length - (intOf i).toNat)
  case atStart => exact ⟨0, _, _, by omega, rfl, HO0, HF, ⟨by simp⟩⟩
  case round =>
   obtain ⟨j, vs, ls, hj, rfl, HV, HF, HS⟩ := hrel; clear HO0; by_cases hlt : j < l0.length
   ·have hv := HV.out; rw [show l0.length - j = (l0.length - (j + 1)) + 1 by omega, List.range'_succ, rdA] at hv
    obtain ⟨ls1, hp1, hp2⟩ := Option.bind_eq_some_iff.mp hv; obtain ⟨ad0, Ar, cr, e0, hrow0, hrc, hread⟩ := at_L1 HR0.out (j : Int) (by omega) (by omega)
    cases e0; rw [Int.toNat_natCast] at hrow0; have hrow1 := (HF.out.below.cell (World.block_lt_of_cell? w _ hrow0)).trans hrow0; have HROW := Aside0.mk hread; have hP1 := Aside0.mk hp1; have hP2 := Aside0.mk hp2; have hmR := Kd.C_max hread; clear hv HV hp1 hp2 hread hrc hrow0; generalize rd_L1 l0 (j : Int) = row at *
    go_wp2
    clear hrow1; go_loopw [35] (fun i w' => ∃ (q : Nat) (vs : List Value) (ls : List (List Int)), q ≤ row.length ∧ i = .int .i64 q ∧ Aside0 (rdB k back j (row.drop q) ls = some ls1) ∧ Aside0 (RdSt w w2 w' go vs ls (.slice AK back.length cK) back) ∧ Aside0 (ls.length = l0.length)) (fun i _ => row.length - (intOf i).toNat)
    case atStart => exact ⟨0, _, _, by omega, rfl, hP1, HF, HS⟩
    case round =>
     clear hP1 HF HS; obtain ⟨q, vs, ls, hq, rfl, HV, HF, HS⟩ := hrel; by_cases hlq : q < row.length
     ·have hv := HV.out; rw [List.drop_eq_getElem_cons hlq, rdB] at hv; obtain ⟨p, hp⟩ : ∃ p, p = row[q] := ⟨_, rfl⟩; rw [← hp] at hv; by_cases h0 : 0 ≤ p
      case neg => rw [if_neg h0] at hv; cases hv
      rw [if_pos h0] at hv; by_cases h1 : p < (back.length : Int)
      case neg => rw [if_neg h1] at hv; cases hv
      rw [if_pos h1] at hv; obtain ⟨cc, hc1, hc2⟩ := Option.bind_eq_some_iff.mp hv; obtain ⟨adR, eR, hcR⟩ := Kd.at_int (Kd.C_below HROW.out HF.out.below) (q : Int) (by omega) (by omega)
      cases eR; rw [Int.toNat_natCast, show rd row (q : Int) = p by unfold rd; rw [Int.toNat_natCast, List.getD_eq_getElem?_getD, List.getElem?_eq_getElem hlq, hp]; rfl] at hcR
      obtain ⟨pn, rfl⟩ := Int.eq_ofNat_of_zero_le h0; have hpn : pn < back.length := by omega
      obtain ⟨adK, AKr, cKr, eK, hcK, hKc, hKr⟩ := at_L1 (Kd.R_reads' HF.out.backR).2.2 (pn : Int) h0 h1; cases eK; rw [Int.toNat_natCast] at hcK; have HC1 := Aside0.mk hc1; have HC2 := Aside0.mk hc2; have HKC := Aside0.mk hKc; have HKR := Aside0.mk hKr; clear hv HV hp hc1 hc2 hKc hKr; generalize rd_L1 back (pn : Int) = krow at *
      go_wp2_with fail
      refine (slices_Contains_int_int.calls k _ _ krow (j : Int) cc _ HKR.out HKC.out HC1.out).mono ?_
      rintro e W5 ⟨rfl, ⟨nq, rfl⟩⟩
      have HF5 := Aside0.mk (HF.out.grown (pw_below_drewN (Below.refl _ _) nq)); clear hcR hcK HKC HKR HF; generalize wr.drewN nq = wq at *
      cases cc with
      | true =>
       have hc2 := HC2.out; rw [if_pos rfl] at hc2; have HN := Aside0.mk hc2; clear hc2 HC2; go_wp2
       go_roundw
       case rel => exact ⟨q + 1, _, _, by omega, by go_num, HN, HF5, HS⟩
       case measure => simp [intOf]; omega
      | false =>
       have hA := HC2.out; rw [if_neg (by simp)] at hA
       by_cases hal : j < ls.length
       case neg => rw [if_neg hal] at hA; cases hA
       rw [if_pos hal] at hA; by_cases hbd : (rd_L1 ls (j : Int)).length < 17592186044416
       case neg => rw [if_neg hbd] at hA; cases hA
       rw [if_pos hbd] at hA; have hav : j < vs.length := by rw [HF5.out.o.len]; exact hal
       have hown := HF5.out.o.own j hav; obtain ⟨Ah, ch, evs, hch, hfh⟩ := HF5.out.o.cell j hav; rw [evs] at hown; obtain ⟨lrow, hlrow⟩ : ∃ row, row = ls.getD j [] := ⟨_, rfl⟩; have hlrow2 : rd_L1 ls (j : Int) = lrow := by rw [hlrow]; rfl
       rw [← hlrow] at hown hch evs
       rw [hlrow2] at hbd hA
       have HOWN := Aside0.mk hown; have HA := Aside0.mk hA; have HEV := Aside0.mk evs; clear hA hown hlrow hlrow2 evs HC2; go_upto_region 13 with ((with_reducible refine gate_builtin (b := .append) (xs := #[.tmp 51, .tmp 53]) rfl ?_); at_builtin; refine print_append_num (w0 := wq) w2.heap.size rfl (.tmp 51) (.tmp 53) 33 3 .i64 8 rfl Try.underlying33 A.info3 (by decide) _ lrow (pn : Int) rfl (by first | (go_simp; done) | (go_simp; rfl)) HOWN.out (Below.refl _ _) HF5.out.o.size (by omega) ?_; intro tv1 w1 ho hb hg hat; obtain ⟨At1, ct1, rfl⟩ := own_slice ho; have hb3 := blk_grown HF5.out.o.top hg (fun e => by have := HF5.out.o.ge j hav go (by rw [HEV.out]; exact e.symm); have := HF5.out.o.lt; omega); have g3 : w1.cell? ⟨go, j, none⟩ = some (.slice Ah lrow.length ch) := (blk_cell hb3 j).trans (by rw [← HEV.out]; simp [hav]); have gf := blk_frozen hb3 j; have HO2 := Aside0.mk ho; have HG2 := Aside0.mk hg; have HAT := Aside0.mk hat; clear ho hb hg hat hb3)
       have HF2 : Aside0 (RdSt w w2 (w1.setCell ⟨go, j, none⟩ (.slice At1 (lrow.length + 1) ct1)) go (vs.set j (.slice At1 (lrow.length + 1) ct1)) (ls.set j (lrow ++ [(pn : Int)])) (.slice (some adK) back.length cK) back) :=
        ⟨⟨HF5.out.o.put j hav (l1 := lrow ++ [(pn : Int)]) (by rw [HEV.out]; exact HG2.out) (by have h := HO2.out; rwa [show (lrow ++ [(pn : Int)]).length = lrow.length + 1 by simp] at h ⊢) (by have h := HAT.out; rw [show (lrow ++ [(pn : Int)]).length = lrow.length + 1 from by simp] at h; rw [HEV.out]; exact h.imp id .inr), HF5.out.wgo, HF5.out.b2, HF5.out.back⟩⟩
       refine gen_world (P := fun W => RdSt w w2 W go (vs.set j (.slice At1 (lrow.length + 1) ct1)) (ls.set j (lrow ++ [(pn : Int)])) (.slice (some adK) back.length cK) back) HF2.out ?_
       rintro W3 hf3
       have HF3 := Aside0.mk hf3; have HS3 : Aside0 ((ls.set j (lrow ++ [(pn : Int)])).length = l0.length) := ⟨by rw [List.length_set]; exact HS.out⟩
       clear hf3 HF2 HF5 HO2 HG2 HAT hch hfh; go_wp2
       go_roundw
       case rel => exact ⟨q + 1, _, _, by omega, by go_num, HA, HF3, HS3⟩
       case measure => simp [intOf]; omega
     ·obtain rfl : q = row.length := by omega
      have hv := HV.out; rw [List.drop_of_length_le (Nat.le_refl _), rdB] at hv; obtain rfl := Option.some.inj hv; have hd : decide (((row.length : Nat) : Int) < ((row.length : Nat) : Int)) = false := decide_eq_false (by omega)
      clear hv HV; go_wp2
      go_roundw
      case rel => exact ⟨j + 1, vs, ls, by omega, by go_num, hP2, HF, HS⟩
      case measure => simp [intOf]; omega
   ·obtain rfl : j = l0.length := by omega
    have hv := HV.out; rw [Nat.sub_self, List.range'_zero, rdA] at hv; obtain rfl := Option.some.inj hv; have hd : decide (((l0.length : Nat) : Int) < ((l0.length : Nat) : Int)) = false := decide_eq_false (by omega)
    clear hv HV; have hS := HF.out.o.row (base := w.heap.size) HF.out.wgo (by rw [HF.out.o.len, HS.out]; unfold maxLen; omega)
    rw [show vs.length = ls.length by rw [HF.out.o.len]] at hS
    have HCL := Aside0.mk (Kd.S_reads' hS).2.2; have HBL := Aside0.mk HF.out.below; have hgl : go < wr.heap.size := blk_lt HF.out.o.top
    have hln : l0.length = ls.length := HS.out.symm
    clear hS HF HLL; rw [hln] at hd hlen
    rw [hln]; have HLN := Aside0.mk hln; clear hln; have hmk := print_make_of (P := Try.prog) 33 3 (.int .i64 0) 8 Try.underlying33 A.info3 rfl (by decide) ls.length (by omega)
    go_upto_region 17 with (fail)
    clear hmk; refine gen_world (P := fun W => W.heap[wr.heap.size]? = some (.cells (nums .i64 (List.replicate ls.length 0)).toArray 3 (0, 0)) ∧ W.heap[wr.heap.size + 1]? = some (.cells #[.slice (some ⟨wr.heap.size, 0, none⟩) ls.length ls.length] 33 (0, 0)) ∧ W.heap[wr.heap.size + 1 + 1]? = some (.cells #[.int .i64 0] 3 (0, 0)) ∧ Below wr.heap.size wr W) ?_ ?_
    ·have e0 : (madeCells #[(.int .i64 0 : Value)] ls.length) = (nums .i64 (List.replicate ls.length 0)).toArray := by
      apply Array.ext_getElem?
      intro i
      simp only [madeCells, nums, Array.getElem?_map, List.getElem?_toArray, List.map_replicate]
      by_cases hi : i < ls.length
      ·rw [Array.getElem?_eq_getElem (by simpa using hi), List.getElem?_eq_getElem (by simpa using hi)]; simp [Nat.mod_one]
      ·rw [Array.getElem?_eq_none (by simpa using hi), List.getElem?_eq_none (by simpa using hi)]; rfl
     rw [e0]; exact ⟨blk_alloc (blk_alloc (new_at _ rfl) _) _, blk_alloc (new_at _ (by simp)) _, new_at _ (by simp), below_alloc (below_alloc (below_alloc (Below.refl _ _) _) _) _⟩
    rintro Wi ⟨hgp, hbp, hbi, hbw⟩
    have HGP := Aside0.mk hgp; have HBP := Aside0.mk hbp; have HBI := Aside0.mk hbi; have HBW := Aside0.mk hbw; clear hgp hbp hbi hbw; go_wp2_with fail
    refine (post_calls' (some ⟨go, 0, none⟩) ls.length ls.length 0 Wi).mono ?_
    rintro e WP ⟨b, rfl, hpo⟩
    have HPO := Aside0.mk hpo; clear hpo; go_wp2_with fail
    have hbW : Below wr.heap.size wr WP := HBW.out.trans (HPO.out.below.mono HBW.out.size)
    have hbge : wr.heap.size + 1 + 1 < b := Nat.lt_of_lt_of_le (blk_lt HBI.out) HPO.out.hb
    have hI0 : PlI wr WP wr.heap.size b go ls.length [] (List.replicate ls.length 0) := ⟨rfl, blk_below HGP.out HPO.out.below, blk_below HBP.out HPO.out.below, blk_below HBI.out HPO.out.below, HPO.out.b0, HPO.out.b1, hbW⟩
    have hord : order.length ≤ 17592186044416 := by
     have h := HOr.out; unfold graph_collect.f collectF at h
     split at h
     case isFalse => cases h
     split at h
     case isFalse => cases h
     split at h
     case isFalse => cases h
     obtain ⟨l, _, h2⟩ := Option.bind_eq_some_iff.mp h; split at h2
     case isFalse => cases h2
     next h3 => obtain rfl := Option.some.inj h2; exact h3
    have HI0 := Aside0.mk hI0; have HBWP := Aside0.mk hbW; clear hI0 hbW HGP HBP HBI; refine (wpIn_wide (n := 3)).1 ?_
    refine wpIn_rangeFunc_ty (F := Fence.wide) (n := 3) (α := Int) rfl (by decide) (gf := 71) (lb := #[.pointer (some ⟨b, 0, none⟩), .pointer (some ⟨b + 1, 0, none⟩)]) rfl trivial (enters_of Try.func71 (by kernel_rfl) rfl)
     (encs := fun x : Int => #[.int .i64 x]) (Ty := Ty) (Kp := KpT wr) (S := fun xs => xs = order) (Pk := fun pre x => ∃ rest, order = pre ++ x :: rest)
     (Fx := fun W => W.cell? ⟨b, 0, none⟩ = some (.slice (some ⟨go, 0, none⟩) ls.length ls.length) ∧ W.cell? ⟨b + 1, 0, none⟩ = some (.int .i64 0) ∧ Kd.C (Kd.slice 3 (Kd.int .i64)) W (some ⟨go, 0, none⟩) ls.length ls) (w0 := WP)
     ?hseq (fun h k => KpT.t h k) (KpT.b HBWP.out.size) (Below.refl _ _) (fun _ => rfl)
     (fun pre W => ∃ pl, PlI wr W wr.heap.size b go ls.length pre pl) ?own ?ty ?fx ⟨_, HI0.out⟩ ?a1 ?assign ?body ?done
    case assign =>
     intro l x W K hK
     gi_wp2
     exact hK
    case hseq =>
     intro l J W2 hW2 hJ hFx hY h0
     exact callsIn_wide.2 (post_iter 1 k (some ⟨go, 0, none⟩) ls.length ls 0 order b (b + 1) l wr W2 J hFx HOr.out (HBWP.out.trans (hW2.mono HBWP.out.size)) hJ hY h0)
    case own =>
     rintro pre W W' row ⟨pl, h⟩ hg hr
     exact ⟨pl, h.kept hg (fun k e => Nat.le_trans HBWP.out.size (hr k e).1) (fun k cs t hk _ e => by
      obtain ⟨_, o, ho, hc⟩ := hr k e.symm; rw [hk] at ho; cases ho; cases hc)⟩
    case ty =>
     rintro pre W W' row ⟨pl, h⟩ hg hr
     exact ⟨pl, h.kept hg (fun k e => Nat.le_trans HBWP.out.size (hr k e).1) (fun k cs t hk hn e => by
      obtain ⟨_, cs2, t2, fr, ho, hc⟩ := hr k e.symm; rw [hk] at ho; cases ho; exact hn hc)⟩
    case fx =>
     rintro pre W ⟨pl, h⟩
     exact ⟨(blk_cell h.b0 0).trans rfl, (blk_cell h.b1 0).trans rfl, Kd.C_below HCL.out h.below⟩
    case body =>
     rintro l pre x W ⟨pl, h⟩ ⟨rest, hrest⟩
     have hp := HPl.out; rw [HLN.out, hrest, plF_append, h.f] at hp; simp only [Option.bind_some, plF] at hp
     by_cases hx0 : 0 ≤ x
     case neg => rw [if_neg hx0] at hp; cases hp
     rw [if_pos hx0] at hp; by_cases hx1 : x < (pl.length : Int)
     case neg => rw [if_neg hx1] at hp; cases hp
     clear hp; obtain ⟨xn, rfl⟩ := Int.eq_ofNat_of_zero_le hx0; have hl := h.len; have hxn : xn < ls.length := by omega
     have hpre : pre.length < order.length := by rw [hrest]; simp
     have hxp : xn < pl.length := by omega
     have cbp : W.cell? ⟨wr.heap.size + 1, 0, none⟩ = some (.slice (some ⟨wr.heap.size, 0, none⟩) ls.length ls.length) := (blk_cell h.bp 0).trans rfl
     have cbi : W.cell? ⟨wr.heap.size + 1 + 1, 0, none⟩ = some (.int .i64 (pre.length : Int)) := (blk_cell h.bi 0).trans rfl
     have cg : W.cell? ⟨wr.heap.size, xn, none⟩ = some (.int .i64 pl[xn]) := by rw [blk_cell h.g xn]; simp [nums, hxp]
     have fg := blk_frozen h.g xn; have fi := blk_frozen h.bi 0; have HST := Aside0.mk (h.step (Nat.le_refl _) hbge xn hxn); have HH := Aside0.mk h; have hb2 := blk_grown h.bi (grownBy_set0 W ⟨wr.heap.size, xn, none⟩ (.int .i64 (pre.length : Int))) (fun e => absurd (Option.some.inj e) (by show wr.heap.size + 1 + 1 ≠ wr.heap.size; omega))
     have cbi2 : (W.setCell ⟨wr.heap.size, xn, none⟩ (.int .i64 (pre.length : Int))).cell? ⟨wr.heap.size + 1 + 1, 0, none⟩ = some (.int .i64 (pre.length : Int)) := (blk_cell hb2 0).trans rfl
     have fi2 := blk_frozen hb2 0; clear h hrest hl hx0 hx1 hb2; gi_wp2
     refine ⟨(KeepsOthers.setCell _ _ _).trans (KeepsOthers.setCell _ _ _), ⟨?_, ?_⟩, _, HST.out⟩
     ·have h1 : wr.heap.size ≤ (⟨wr.heap.size, xn, none⟩ : Addr).block := Nat.le_refl _
      have h2 : wr.heap.size ≤ (⟨wr.heap.size + 1 + 1, 0, none⟩ : Addr).block := (show wr.heap.size ≤ wr.heap.size + 1 + 1 by omega)
      exact ((Below.refl _ W).setCell h1 _).setCell h2 _
     ·intro kk cs t fr hk ht
      have n1 : kk ≠ wr.heap.size := by
       rintro rfl
       rw [HH.out.g] at hk; cases hk; rcases ht with h | h <;> cases h
      have n2 : kk ≠ wr.heap.size + 1 + 1 := by
       rintro rfl
       rw [HH.out.bi] at hk; cases hk; rcases ht with h | h <;> cases h
      rw [Below.heap_setCell _ _ _ kk n2, Below.heap_setCell _ _ _ kk n1]
    case done =>
     rintro D xs W hD rfl ⟨pl, hI⟩ hK
     have hlp := hI.len; obtain rfl : pl = place := by
      have h1 := HPl.out; rw [HLN.out, hI.f] at h1; exact Option.some.inj h1
     have HP := Aside0.mk hI; have HD := Aside0.mk hK; have HDg := Aside0.mk hD; clear h hI hK HPl hD; go_wp2_with fail
     have hl1 : Kd.R (Kd.int .i64) 3 (W.alloc (.cells #[.int .i64 0] 3)) W.heap.size (fun _ => True) (.slice (some ⟨W.heap.size, 0, none⟩) 1 1) [0] :=
      Kd.R_of_own ⟨rfl, .inr ⟨W.heap.size, 1, _, rfl, Nat.le_refl _, new_at _ rfl, Nat.le_refl _, by decide, rfl, rfl⟩⟩ (fun _ _ => trivial)
     refine (graph_fromOpen.calls k _ _ ls _ _ [0] seen _ (Kd.C_alloc (Kd.C_below HCL.out HP.out.below) _) (Nat.le_refl _) (Kd.R_reads' hl1).2.2 (Nat.le_refl _) HSn.out).mono ?_
     clear hl1; rintro e WF ⟨vS, rfl, hrS, hbS⟩
     obtain ⟨AS, cS, rfl⟩ := Kd.R_slice hrS; have hbF : Below W.heap.size W WF := (below_alloc (Below.refl _ _) _).trans (hbS.mono (by simp))
     have HBF : Aside0 (Below wr.heap.size wr WF) := ⟨HP.out.below.trans (hbF.mono HP.out.below.size)⟩
     have HGF := Aside0.mk (blk_below HP.out.g hbF); have HPF := Aside0.mk (blk_below HP.out.bp hbF); have HDF := Aside0.mk (blk_below HD.out hbF); have HSF := Aside0.mk hrS; have HBWF : Aside0 (Below w.heap.size w WF) := ⟨HBL.out.trans (HBF.out.mono HBL.out.size)⟩
     have HDW : Aside0 (w.heap.size ≤ D) := ⟨Nat.le_trans (Nat.le_trans HBL.out.size HBWP.out.size) HDg.out⟩
     have hmS := Kd.C_max (Kd.R_reads' hrS).2.2; have HR1 : Aside0 (rdD seen pl ls (List.range' 0 ls.length) = some rr) := ⟨by rw [← List.range_eq_range']; exact HRr.out⟩
     have HCF := Aside0.mk (Kd.C_below HCL.out HBF.out); clear hrS hbS hbF HP HD HRr HSn HOr HI0 HPO HBW HBF HCL; obtain ⟨gp, hgp⟩ : ∃ g, g = wr.heap.size := ⟨_, rfl⟩; rw [← hgp] at HGF HPF
     rw [← hgp]; clear hgp; go_wp2
     go_loopw [75] (fun i wq => ∃ (j : Nat), j ≤ ls.length ∧ i = .int .i64 j ∧ Aside0 (rdD seen pl ls (List.range' j (ls.length - j)) = some rr) ∧ Aside0 (Below WF.heap.size WF wq)) (fun i _ => ls.length - (intOf i).toNat)
     case atStart => exact ⟨0, by omega, rfl, HR1, ⟨Below.refl _ _⟩⟩
     case round =>
      clear HR1; obtain ⟨j, hj, rfl, HV, HW⟩ := hrel; by_cases hlt : j < ls.length
      ·have hv := HV.out; rw [show ls.length - j = (ls.length - (j + 1)) + 1 by omega, List.range'_succ, rdD] at hv
       obtain ⟨rb, hp1, hp2⟩ := Option.bind_eq_some_iff.mp hv; obtain ⟨ad0, Ar, cr, e0, hrow0, hrc, hread⟩ := at_L1 HCF.out (j : Int) (by omega) (by omega)
       cases e0; simp only [add_plain, Int.toNat_natCast] at hrow0
       have hrow1 := (HW.out.cell (World.block_lt_of_cell? _ _ hrow0)).trans hrow0; have HROW := Aside0.mk hread; have hmR := Kd.C_max hread; have hP1 := Aside0.mk hp1; have hP2 := Aside0.mk hp2; clear hv HV hp1 hp2 hread hrc hrow0; generalize rd_L1 ls (j : Int) = row at *
       go_wp2
       clear hrow1; go_loopw [82] (fun i wq => ∃ (q : Nat), q ≤ row.length ∧ i = .int .i64 q ∧ Aside0 (rdC seen pl j (row.drop q) = some rb) ∧ Aside0 (Below WF.heap.size WF wq)) (fun i _ => row.length - (intOf i).toNat)
       case atStart => exact ⟨0, by omega, rfl, hP1, HW⟩
       case round =>
        clear hP1 HW; obtain ⟨q, hq, rfl, HV, HW⟩ := hrel; by_cases hlq : q < row.length
        ·have hv := HV.out; rw [List.drop_eq_getElem_cons hlq, rdC] at hv; obtain ⟨p, hp⟩ : ∃ p, p = row[q] := ⟨_, rfl⟩; rw [← hp] at hv; by_cases hjs : j < seen.length
         case neg => rw [if_neg hjs] at hv; cases hv
         rw [if_pos hjs] at hv; obtain ⟨adR, eR, hcR⟩ := Kd.at_int (Kd.C_below HROW.out HW.out) (q : Int) (by omega) (by omega)
         cases eR; rw [Int.toNat_natCast, show rd row (q : Int) = p by unfold rd; rw [Int.toNat_natCast, List.getD_eq_getElem?_getD, List.getElem?_eq_getElem hlq, hp]; rfl] at hcR
         obtain ⟨adS, eS, hcS⟩ := Kd.at_bool (Kd.R_reads' (Kd.R_below HSF.out HW.out)).2.2 (j : Int) (by omega) (by omega)
         cases eS; rw [Int.toNat_natCast] at hcS; have cbp : wr.cell? ⟨gp + 1, 0, none⟩ = some (.slice (some ⟨gp, 0, none⟩) ls.length ls.length) := (blk_cell (blk_below HPF.out HW.out) 0).trans rfl
         by_cases hs : rdOf false seen (j : Int) = true
         ·rw [if_pos hs] at hv; rw [hs] at hcS; by_cases h0 : 0 ≤ p
          case neg => rw [if_neg h0] at hv; cases hv
          rw [if_pos h0] at hv; by_cases h1 : p < (pl.length : Int)
          case neg => rw [if_neg h1] at hv; cases hv
          rw [if_pos h1] at hv; by_cases h2 : j < pl.length
          case neg => rw [if_neg h2] at hv; cases hv
          rw [if_pos h2] at hv; obtain ⟨pn, rfl⟩ := Int.eq_ofNat_of_zero_le h0; have hpn : pn < ls.length := by omega
          have hpp : pn < pl.length := by omega
          have c1 : wr.cell? ⟨gp, pn, none⟩ = some (.int .i64 (rd pl (pn : Int))) := by rw [blk_cell (blk_below HGF.out HW.out) pn]; simp [nums, rd, hpp]
          have c2 : wr.cell? ⟨gp, j, none⟩ = some (.int .i64 (rd pl (j : Int))) := by rw [blk_cell (blk_below HGF.out HW.out) j]; simp [nums, rd, h2]
          clear hp hs HV; by_cases hge : rd pl (pn : Int) ≥ rd pl (j : Int)
          ·rw [if_pos hge] at hv; obtain rfl := Option.some.inj hv; have hd3 : decide (rd pl (pn : Int) ≥ rd pl (j : Int)) = true := decide_eq_true hge
           have hd4 : decide (rd pl (j : Int) ≤ rd pl (pn : Int)) = true := decide_eq_true hge
           have hP3 := hP2.out; rw [if_neg (by simp)] at hP3
           obtain rfl := Option.some.inj hP3; clear hv hge hP2 hP3; go_wp2
           repeat (go_quiet (fail); try go_wp2)
           have HWq : Aside0 (Below WF.heap.size WF (wr.drewN nq)) := ⟨pw_below_drewN HW.out nq⟩
           have HDQ := Aside0.mk ((HWq.out.block D (blk_lt HDF.out)).trans HDF.out); exact ⟨by simp, .inl ⟨_, _, rfl, run_takeDeferred HDQ.out, _, results_tmp2 rfl _ _ _, rfl, (HBWF.out.trans (HWq.out.mono HBWF.out.size)).trans (belowK_b (w := w) (Nat.le_refl _) _ D _ _ HDW.out HDQ.out rfl rfl)⟩⟩
          ·rw [if_neg hge] at hv; have hd3 : decide (rd pl (pn : Int) ≥ rd pl (j : Int)) = false := decide_eq_false hge
           have hd4 : decide (rd pl (j : Int) ≤ rd pl (pn : Int)) = false := decide_eq_false hge
           have HV2 := Aside0.mk hv; clear hv hge; go_wp2
           repeat (go_quiet (fail); try go_wp2)
           go_roundw
           case rel => exact ⟨q + 1, by omega, by go_num, HV2, ⟨pw_below_drewN HW.out _⟩⟩
           case measure => simp [intOf]; omega
         ·rw [if_neg hs] at hv; rw [Bool.eq_false_iff.mpr hs] at hcS; have HV2 := Aside0.mk hv; clear hv hp hs HV; go_wp2
          repeat (go_quiet (fail); try go_wp2)
          go_roundw
          case rel => exact ⟨q + 1, by omega, by go_num, HV2, ⟨pw_below_drewN HW.out _⟩⟩
          case measure => simp [intOf]; omega
        ·obtain rfl : q = row.length := by omega
         have hv := HV.out; rw [List.drop_of_length_le (Nat.le_refl _), rdC] at hv; obtain rfl := Option.some.inj hv; have hd3 : decide (((row.length : Nat) : Int) < ((row.length : Nat) : Int)) = false := decide_eq_false (by omega)
         have hP3 := hP2.out; rw [if_pos rfl] at hP3; have HP3 := Aside0.mk hP3; clear hv HV hP3 hP2; go_wp2
         go_roundw
         case rel => exact ⟨j + 1, by omega, by go_num, HP3, HW⟩
         case measure => simp [intOf]; omega
      ·obtain rfl : j = ls.length := by omega
       have hv := HV.out; rw [Nat.sub_self, List.range'_zero, rdD] at hv; obtain rfl := Option.some.inj hv; have hd2 : decide (((ls.length : Nat) : Int) < ((ls.length : Nat) : Int)) = false := decide_eq_false (by omega)
       have HDQ := Aside0.mk ((HW.out.block D (blk_lt HDF.out)).trans HDF.out); clear hv HV; go_wp2
       exact ⟨by simp, .inl ⟨_, _, rfl, run_takeDeferred HDQ.out, _, results_tmp2 rfl _ _ _, rfl, (HBWF.out.trans (HW.out.mono HBWF.out.size)).trans (belowK_b (w := w) (Nat.le_refl _) _ D _ _ HDW.out HDQ.out rfl rfl)⟩⟩
end Go.Proofs.Ytjjedbcgkljdeaa.D
end
section
namespace Go.Proofs.Ytjjedbcgkljdeaa.A
open Go.RowKit Go.Proofs.YtjjedbcgkljdeaaW.PrintWords Go.Proofs.YtjjedbcgkljdeaaW.PrintLast Go.Proofs.YtjjedbcgkljdeaaW.PrintMore
set_option linter.unusedVariables false
set_option linter.unusedSimpArgs false
mutual
def r7_visit.l0 : Nat → List (List Int) → Int → List Bool → List Int → Int → Option (List Int × List Bool)
 | 0, _, _, _, _, _ => none
 | k + 1, x0, x1, x2, x3, x9 => if 0 ≤ x1 then (if x1 < (x0.length : Int) then (if x9 < ((rd_L1 x0 x1).length : Int) then (if 0 ≤ x9 then (if 0 ≤ (rd (rd_L1 x0 x1) x9) then (if (rd (rd_L1 x0 x1) x9) < (x2.length : Int) then (if (rdOf false x2 (rd (rd_L1 x0 x1) x9) = true) then (r7_visit.l0 k x0 x1 x2 x3 (wrap64 (x9 + 1))) else ((r7_visit.f k x0 (rd (rd_L1 x0 x1) x9) x2 x3).bind fun bt200 => (r7_visit.l0 k x0 x1 bt200.2 bt200.1 (wrap64 (x9 + 1))))) else (none)) else (none)) else (none)) else ((some (([x1] : List Int) : List Int)).bind fun y204 => (if y204.length + x3.length < 17592186044416 then (some ((y204 ++ x3), x2)) else (none)))) else (none)) else (none)
def r7_visit.f : Nat → List (List Int) → Int → List Bool → List Int → Option (List Int × List Bool)
 | 0, _, _, _, _ => none
 | k + 1, l0, a1, l2, l3 => if 0 ≤ a1 then (if a1 < (l2.length : Int) then (r7_visit.l0 k l0 a1 (l2.set (a1 : Int).toNat true) l3 0) else (none)) else (none)
end
def r7_Order.f (k : Nat) (l0 : List (List Int)) : Option (List Int) := if 0 ≤ (l0.length : Int) then (if ((l0.length : Int) : Int).toNat ≤ 281474976710656 then ((r7_visit.f k l0 0 (List.replicate ((l0.length : Int) : Int).toNat false) ([] : List Int)).bind fun bt213 => (some bt213.1)) else (none)) else (none)
mutual
def r7_Table.l0 : Nat → List (List Int) → List Bool → List (List Bool) → Int → Option ((List (List Bool)))
 | 0, _, _, _, _ => none
 | k + 1, x0, x3, x4, x5 => if x5 < (x0.length : Int) then (if 0 ≤ (x0.length : Int) then (if ((x0.length : Int) : Int).toNat ≤ 281474976710656 then ((some (List.replicate ((x0.length : Int) : Int).toNat false : List Bool)).bind fun y220 => (if 0 ≤ x5 then (if x5 < (x3.length : Int) then (if rdOf false x3 x5 = true then ((r7_From.f k x0 (([0] : List Int)) x5).bind fun t227 => (r7_Table.l1 k x0 x3 x4 x5 y220 t227 0)) else (if x4.length < 5864062014805 then (r7_Table.l0 k x0 x3 (x4 ++ [y220]) (wrap64 (x5 + 1))) else (none))) else (none)) else (none))) else (none)) else (none)) else (some x4)
def r7_Table.l1 : Nat → List (List Int) → List Bool → List (List Bool) → Int → List Bool → List Bool → Int → Option ((List (List Bool)))
 | 0, _, _, _, _, _, _, _ => none
 | k + 1, x0, x3, x4, x5, x6, x7, x8 => if x8 < (x0.length : Int) then (if 0 ≤ x8 then (if x8 < (x3.length : Int) then (if rdOf false x3 x8 = true then (if x8 < (x7.length : Int) then (if x8 < (x6.length : Int) then (r7_Table.l1 k x0 x3 x4 x5 (x6.set (x8 : Int).toNat (!(rdOf false x7 x8))) x7 (wrap64 (x8 + 1))) else (none)) else (none)) else (if x8 < (x6.length : Int) then (r7_Table.l1 k x0 x3 x4 x5 (x6.set (x8 : Int).toNat false) x7 (wrap64 (x8 + 1))) else (none))) else (none)) else (none)) else (if x4.length < 5864062014805 then (r7_Table.l0 k x0 x3 (x4 ++ [x6]) (wrap64 (x5 + 1))) else (none))
end
def r7_Table.f (k : Nat) (l0 : List (List Int)) : Option ((List (List Bool))) := (r7_Reached.f k l0).bind fun t217 => (r7_Table.l0 k l0 t217 ([] : List (List Bool)) 0)
set_option maxHeartbeats 8000000 in
set_option maxRecDepth 100000 in
theorem r7_Table.calls (k : Nat) (A0 : Option Addr) (c0 : Nat) (l0 : List (List Int)) (r : List (List Bool)) (w : World) (hr0 : Kd.C (Kd.slice 3 (Kd.int .i64)) w A0 l0.length l0) (hc0 : l0.length ≤ c0) (h : r7_Table.f k l0 = some r) :
  Calls Try.prog 43 #[.slice A0 l0.length c0] w fun e w' => ∃ v0_ : Value, e = .returned (v0_) ∧ Kd.S (Kd.slice 4 Kd.bool) 46 w' w.heap.size (fun _ => True) v0_ r ∧ Below w.heap.size w w' := by
 have HR0 := Aside0.mk hr0; have HC0 := Aside0.mk hc0; clear hr0 hc0; have HB := Aside0.mk (Below.refl w.heap.size w); have H : ((r7_Reached.f k l0).bind fun t217 => (r7_Table.l0 k l0 t217 ([] : List (List Bool)) 0)) = some r := h
 clear h; replace H := Option.bind_eq_some_iff.mp H; obtain ⟨t217, A20, H⟩ := H; replace H : (r7_Table.l0 k l0 t217 ([] : List (List Bool)) 0) = some r := H; have A2 := Aside0.mk A20; clear A20; have H' := Aside0.mk H
 clear H; go_enter Try.func43, Try.ntmps43
 go_wp2_with (first | ((with_reducible refine gate_callee (f := 33) rfl ?_); refine goesL_ (some 10) rfl rfl Try.func33 (by kernel_rfl) rfl #[.slice A0 l0.length c0] rfl (by (try simp only [List.map_toArray, List.map_cons, List.map_nil]); first | done | rfl | (simp only [List.length_drop, List.length_take]; rfl)) ?_; (with_reducible refine (r7_Reached.calls k _ _ l0 t217 _ ?side1 ?side2 A2.out).mono ?_); (case side1 => repeat (first | exact HR0.out | with_reducible first | refine Kd.C_alloc ?_ _ | refine Kd.C_drewN ?_ _ | refine Kd.C_drew ?_)); (case side2 => exact HC0.out); rintro e w3 ⟨v218, rfl, ho0, hb⟩; refine ⟨_, rfl, ?_⟩; have n0_ := Aside0.mk (Kd.R_lower ho0 (below_size (by repeat (first | (with_reducible first | exact HB.out | apply below_alloc | apply pw_below_drewN | apply below_drew1) | exact HB.out)))); have n1_ := Aside0.mk (below_step (by repeat (first | (with_reducible first | exact HB.out | apply below_alloc | apply pw_below_drewN | apply below_drew1) | exact HB.out)) hb); clear HB; have HO219 := n0_; have HB := n1_; clear n0_ n1_; (try clear hb); (try clear hb2); (try clear hk); (try clear hi); (try clear ho0)))
 go_loopg [4, 5] k (fun kq v4 v5 w' => ∃ (x3_1 : List Bool) (x4_1 : List (List Bool)) (x5_1 : Int), v5 = .int .i64 x5_1 ∧ Aside0 (r7_Table.l0 kq l0 x3_1 x4_1 x5_1 = some r) ∧ Aside0 (kq ≤ k) ∧ Aside0 (Kd.R Kd.bool 4 w' w.heap.size (fun _ => True) v218 x3_1) ∧ Aside0 (Kd.S (Kd.slice 4 Kd.bool) 46 w' w.heap.size (fun k_ => some k_ ≠ (v218 : Value).ownBlock) v4 x4_1) ∧ Aside0 (Below w.heap.size w w'))
 case atStart => exact ⟨(t217), (([] : List (List Bool))), (0), (by first | rfl | (simp; done) | (simp [*]; done)), H', ⟨Nat.le_refl _⟩, ⟨by (with_reducible repeat (first | apply Kd.R_alloc | apply Kd.R_drewN | apply Kd.R_drew)); exact HO219.out⟩, ⟨by first | exact Kd.S_nil _ _ _ _ _ | exact Kd.N_nil _ _ _ _ _ | exact Kd.V_nil _ _ _ _ _ | exact Kd.Q_nil _ _ _ _ _ | exact Kd.R_nil _ _ _ _ _⟩, ⟨by repeat (first | (with_reducible first | exact HB.out | apply below_alloc | apply pw_below_drewN | apply below_drew1) | exact HB.out)⟩⟩
 case round =>
  clear H'; try clear p2
  try clear c3
  obtain ⟨x3_1, x4_1, x5_1, rfl, HA, HK1, HO_3, HO_4, HB⟩ := hrel; cases gk with
  | zero => exact absurd HA.out (by simp [r7_Table.l0])
  | succ k1 =>
   have H := HA.out; clear HA; simp only [r7_Table.l0] at H
   by_cases c4 : x5_1 < (l0.length : Int)
   ·rw [if_pos c4] at H; have c4b0 : decide (x5_1 < (l0.length : Int)) = true := decide_eq_true c4
    clear c4; by_cases c5 : 0 ≤ (l0.length : Int)
    ·rw [if_pos c5] at H; have c5b0 := eq_true c5; have c5b1 : decide (0 ≤ (l0.length : Int)) = true := decide_eq_true c5
     clear c5; by_cases c6 : ((l0.length : Int) : Int).toNat ≤ 281474976710656
     ·rw [if_pos c6] at H; have c6b0 := eq_true c6; have c6b1 : decide (((l0.length : Int) : Int).toNat ≤ 281474976710656) = true := decide_eq_true c6
      clear c6; obtain ⟨y220, hy220⟩ : ∃ y_ : List Bool, y_ = (List.replicate ((l0.length : Int) : Int).toNat false) := ⟨_, rfl⟩; replace H : (if 0 ≤ x5_1 then (if x5_1 < (x3_1.length : Int) then (if rdOf false x3_1 x5_1 = true then ((r7_From.f k1 l0 (([0] : List Int)) x5_1).bind fun t227 => (r7_Table.l1 k1 l0 x3_1 x4_1 x5_1 y220 t227 0)) else (if x4_1.length < 5864062014805 then (r7_Table.l0 k1 l0 x3_1 (x4_1 ++ [y220]) (wrap64 (x5_1 + 1))) else (none))) else (none)) else (none)) = some r := by first | (with_reducible first | (rw [hy220]; exact H) | exact H) | (have H2_ := (Option.bind_some _ _).symm.trans H; first | with_reducible exact H2_ | (rw [hy220]; exact H2_)) | (rw [hy220]; exact H) | exact H
      have Ny220 := Aside0.mk hy220; clear hy220; by_cases c7 : 0 ≤ x5_1
      ·rw [if_pos c7] at H; have c7b0 : decide (0 ≤ x5_1) = true := decide_eq_true c7
       clear c7; by_cases c8 : x5_1 < (x3_1.length : Int)
       ·rw [if_pos c8] at H; have c8b0 : decide (x5_1 < (x3_1.length : Int)) = true := decide_eq_true c8
        clear c8; obtain ⟨bq9, hbq9⟩ : ∃ b_ : Bool, b_ = (rdOf false x3_1 x5_1) := ⟨_, rfl⟩; replace H : (if bq9 = true then ((r7_From.f k1 l0 (([0] : List Int)) x5_1).bind fun t227 => (r7_Table.l1 k1 l0 x3_1 x4_1 x5_1 y220 t227 0)) else (if x4_1.length < 5864062014805 then (r7_Table.l0 k1 l0 x3_1 (x4_1 ++ [y220]) (wrap64 (x5_1 + 1))) else (none))) = some r := by rw [← hbq9] at H; exact H
        have Nbq9 := Aside0.mk hbq9; clear hbq9; by_cases c10 : bq9 = true
        ·subst c10; have H1 : ((r7_From.f k1 l0 (([0] : List Int)) x5_1).bind fun t227 => (r7_Table.l1 k1 l0 x3_1 x4_1 x5_1 y220 t227 0)) = some r := by rw [if_pos rfl] at H; exact H
         clear H; have H := H1; clear H1; obtain ⟨y224, hy224⟩ : ∃ y_ : List Int, y_ = (([0] : List Int)) := ⟨_, rfl⟩; replace H : ((r7_From.f k1 l0 y224 x5_1).bind fun t227 => (r7_Table.l1 k1 l0 x3_1 x4_1 x5_1 y220 t227 0)) = some r := by first | (with_reducible first | (rw [hy224]; exact H) | exact H) | (have H2_ := (Option.bind_some _ _).symm.trans H; first | with_reducible exact H2_ | (rw [hy224]; exact H2_)) | (rw [hy224]; exact H) | exact H
         have Ny224 := Aside0.mk hy224; clear hy224; replace H := Option.bind_eq_some_iff.mp H; obtain ⟨t227, A110, H⟩ := H; replace H : (r7_Table.l1 k1 l0 x3_1 x4_1 x5_1 y220 t227 0) = some r := H; have A11 := Aside0.mk A110; clear A110; have H' := Aside0.mk H
         clear H; go_wp2_with (first | ((with_reducible refine gate_dst (N := 19) rfl ?_); refine Kd.R_make Kd.bool _ 4 rfl (N := 19) rfl 46 _ _ rfl (l0.length : Int) rfl rfl Try.underlying46 (.bool false) 1 info4 rfl (by decide) (by omega) false (ok := fun _ => True) (okp := fun _ => True) rfl (fun _ hk => hk) trivial (of_decide_eq_true (by with_reducible assumption)) (Nat.le_trans (Nat.mul_le_mul_right _ (of_decide_eq_true (by with_reducible assumption) : (l0.length : Int).toNat ≤ 281474976710656)) (by omega)) (Below.refl _ _) (Nat.le_refl _) ?_; intro v221 w12 ho13 hb hg_ hnew_; clear hg_ hnew_; (first | rw [← Ny220.out] at ho13 | (simp only [Int.reduceToNat] at ho13; rw [← Ny220.out] at ho13)); have n0_ := Aside0.mk (Kd.R_elder' (by (with_reducible repeat (first | apply Kd.R_alloc | apply Kd.R_drewN | apply Kd.R_drew)); exact HO_3.out) (Kd.R_base ho13) hb); have n1_ := Aside0.mk (Kd.S_elder' (by (with_reducible repeat (first | apply Kd.S_alloc | apply Kd.S_drewN | apply Kd.S_drew)); exact HO_4.out) (Kd.R_base ho13) hb); have n2_ := Aside0.mk (Kd.R_lower (Kd.R_new' ho13 (Kd.R_lt (by (with_reducible repeat (first | apply Kd.R_alloc | apply Kd.R_drewN | apply Kd.R_drew)); exact HO_3.out))) (below_size (by repeat (first | (with_reducible first | exact HB.out | apply below_alloc | apply pw_below_drewN | apply below_drew1) | exact HB.out)))); have n3_ := Aside0.mk (below_step (by repeat (first | (with_reducible first | exact HB.out | apply below_alloc | apply pw_below_drewN | apply below_drew1) | exact HB.out)) hb); clear HO_3; clear HO_4; clear HB; have HO_3 := n0_; have HO_4 := n1_; have HO222 := n2_; have HB := n3_; clear n0_ n1_ n2_ n3_; clear hb ho13; obtain ⟨Ao14, co14, eo14⟩ := Kd.R_slice HO_3.out; subst eo14; have p223 : 0 ≤ (x5_1 : Int) := of_decide_eq_true (by with_reducible assumption); have q223 : x5_1 < (x3_1.length : Int) := of_decide_eq_true (by with_reducible assumption); obtain ⟨ad223, e223, hx223_0⟩ := Kd.at_bool (Kd.R_reads' HO_3.out).2.2 x5_1 p223 q223; (try rw [← Nbq9.out] at hx223_0); cases e223; replace p223 := eq_true p223; replace q223 := eq_true q223) | ((with_reducible refine gate_dst (N := 25) rfl ?_); refine Kd.R_lit (Kd.int .i64) _ 3 ?hg (N := 25) ?hd (xs := ([0] : List Int)) (inner := [.int .i64 0]) (ok := fun _ => True) (okp := fun _ => True) ?hr ?hp (fun _ hk => hk) trivial (Below.refl _ _) (Nat.le_refl _) (by simp) ?_; (case hd => rfl); (case hg => rfl); (case hr => first | (go_simp; done) | (go_simp; rfl)); (case hp => exact (Reps.one (show Kd.M (Kd.int .i64) _ _ _ 0 [.int .i64 0] from rfl) (Reps.none _ _))); intro v225 w15 ho16 hb hg_ hnew_; clear hg_ hnew_; (first | rw [← Ny224.out] at ho16 | (simp only [Int.reduceToNat] at ho16; rw [← Ny224.out] at ho16)); have n0_ := Aside0.mk (Kd.R_below (by (with_reducible repeat (first | apply Kd.R_alloc | apply Kd.R_drewN | apply Kd.R_drew)); exact HO_3.out) hb); have n1_ := Aside0.mk (Kd.S_below (by (with_reducible repeat (first | apply Kd.S_alloc | apply Kd.S_drewN | apply Kd.S_drew)); exact HO_4.out) hb); have n2_ := Aside0.mk (Kd.R_below (by (with_reducible repeat (first | apply Kd.R_alloc | apply Kd.R_drewN | apply Kd.R_drew)); exact HO222.out) hb); have n3_ := Aside0.mk (Kd.R_lower ho16 (below_size (by repeat (first | (with_reducible first | exact HB.out | apply below_alloc | apply pw_below_drewN | apply below_drew1) | exact HB.out)))); have n4_ := Aside0.mk (below_step (by repeat (first | (with_reducible first | exact HB.out | apply below_alloc | apply pw_below_drewN | apply below_drew1) | exact HB.out)) hb); clear HO_3; clear HO_4; clear HO222; clear HB; have HO_3 := n0_; have HO_4 := n1_; have HO222 := n2_; have HO226 := n3_; have HB := n4_; clear n0_ n1_ n2_ n3_ n4_; clear hb ho16; obtain ⟨Ao17, co17, eo17⟩ := Kd.R_slice HO226.out; subst eo17) | ((with_reducible refine gate_callee (f := 36) rfl ?_); refine goesL_ (some 27) rfl rfl Try.func36 (by kernel_rfl) rfl #[.slice A0 l0.length c0, .slice Ao17 y224.length co17, .int .i64 x5_1] rfl (by (try simp only [List.map_toArray, List.map_cons, List.map_nil]); first | done | rfl | (simp only [List.length_drop, List.length_take]; rfl)) ?_; (with_reducible refine (r7_From.calls k1 _ _ l0 _ _ y224 x5_1 t227 _ ?side1 ?side2 ?side3 ?side4 A11.out).mono ?_); (case side1 => repeat (first | exact (Kd.C_below HR0.out HB.out) | with_reducible first | refine Kd.C_alloc ?_ _ | refine Kd.C_drewN ?_ _ | refine Kd.C_drew ?_)); (case side2 => exact HC0.out); (case side3 => repeat (first | exact (Kd.R_reads' HO226.out).2.2 | with_reducible first | refine Kd.C_alloc ?_ _ | refine Kd.C_drewN ?_ _ | refine Kd.C_drew ?_)); (case side4 => exact (Kd.R_reads' HO226.out).2.1); rintro e w18 ⟨v228, rfl, ho0, hb⟩; refine ⟨_, rfl, ?_⟩; have n0_ := Aside0.mk (Kd.R_elder' (by (with_reducible repeat (first | apply Kd.R_alloc | apply Kd.R_drewN | apply Kd.R_drew)); exact HO_3.out) (Kd.R_base ho0) hb); have n1_ := Aside0.mk (Kd.S_elder' (by (with_reducible repeat (first | apply Kd.S_alloc | apply Kd.S_drewN | apply Kd.S_drew)); exact HO_4.out) (Kd.R_base ho0) hb); have n2_ := Aside0.mk (Kd.R_elder' (by (with_reducible repeat (first | apply Kd.R_alloc | apply Kd.R_drewN | apply Kd.R_drew)); exact HO222.out) (Kd.R_base ho0) hb); have n3_ := Aside0.mk (Kd.R_below (by (with_reducible repeat (first | apply Kd.R_alloc | apply Kd.R_drewN | apply Kd.R_drew)); exact HO226.out) hb); have n4_ := Aside0.mk (Kd.R_lower (Kd.R_new' (Kd.R_new' ho0 (Kd.R_lt (by (with_reducible repeat (first | apply Kd.R_alloc | apply Kd.R_drewN | apply Kd.R_drew)); exact HO_3.out))) (Kd.R_lt (by (with_reducible repeat (first | apply Kd.R_alloc | apply Kd.R_drewN | apply Kd.R_drew)); exact HO222.out))) (below_size (by repeat (first | (with_reducible first | exact HB.out | apply below_alloc | apply pw_below_drewN | apply below_drew1) | exact HB.out)))); have n5_ := Aside0.mk (below_step (by repeat (first | (with_reducible first | exact HB.out | apply below_alloc | apply pw_below_drewN | apply below_drew1) | exact HB.out)) hb); clear HO_3; clear HO_4; clear HO222; clear HO226; clear HB; have HO_3 := n0_; have HO_4 := n1_; have HO222 := n2_; have HO226 := n3_; have HO229 := n4_; have HB := n5_; clear n0_ n1_ n2_ n3_ n4_ n5_; (try clear hb); (try clear hb2); (try clear hk); (try clear hi); (try clear ho0)))
         go_loopg [8] k1 (fun kq v8 w' => ∃ (x6_2 : List Bool) (x8_2 : Int), v8 = .int .i64 x8_2 ∧ Aside0 (r7_Table.l1 kq l0 x3_1 x4_1 x5_1 x6_2 t227 x8_2 = some r) ∧ Aside0 (kq ≤ k1) ∧ Aside0 (Kd.R Kd.bool 4 w' w.heap.size (fun k_ => some k_ ≠ (v221 : Value).ownBlock ∧ some k_ ≠ (v228 : Value).ownBlock) (.slice (some ad223) x3_1.length co14) x3_1) ∧ Aside0 (Kd.S (Kd.slice 4 Kd.bool) 46 w' w.heap.size (fun k_ => some k_ ≠ ((.slice (some ad223) x3_1.length co14) : Value).ownBlock ∧ some k_ ≠ (v221 : Value).ownBlock ∧ some k_ ≠ (v228 : Value).ownBlock) u4 x4_1) ∧ Aside0 (Kd.R Kd.bool 4 w' w.heap.size (fun k_ => some k_ ≠ ((.slice (some ad223) x3_1.length co14) : Value).ownBlock ∧ some k_ ≠ (v228 : Value).ownBlock) v221 x6_2) ∧ Aside0 (Kd.R Kd.bool 4 w' w.heap.size (fun k_ => some k_ ≠ ((.slice (some ad223) x3_1.length co14) : Value).ownBlock ∧ some k_ ≠ (v221 : Value).ownBlock) v228 t227) ∧ Aside0 (Below w.heap.size w w'))
         case atStart => exact ⟨(y220), (0), (by first | rfl | (simp; done) | (simp [*]; done)), H', ⟨Nat.le_refl _⟩, ⟨by (with_reducible repeat (first | apply Kd.R_alloc | apply Kd.R_drewN | apply Kd.R_drew)); exact Kd.R_mono HO_3.out (fun _ hk => ⟨hk.1.2, hk.2⟩)⟩, ⟨by (with_reducible repeat (first | apply Kd.S_alloc | apply Kd.S_drewN | apply Kd.S_drew)); exact Kd.S_mono HO_4.out (fun _ hk => ⟨hk.1.1, ⟨hk.1.2, hk.2⟩⟩)⟩, ⟨by (with_reducible repeat (first | apply Kd.R_alloc | apply Kd.R_drewN | apply Kd.R_drew)); exact Kd.R_mono HO222.out (fun _ hk => ⟨hk.1.2, hk.2⟩)⟩, ⟨by (with_reducible repeat (first | apply Kd.R_alloc | apply Kd.R_drewN | apply Kd.R_drew)); exact Kd.R_mono HO229.out (fun _ hk => ⟨hk.1.2, hk.2⟩)⟩, ⟨by repeat (first | (with_reducible first | exact HB.out | apply below_alloc | apply pw_below_drewN | apply below_drew1) | exact HB.out)⟩⟩
         case round =>
          clear H'; try clear c1
          try clear p2
          try clear q2
          try clear hx2
          try clear c3
          try clear c4
          try clear c4b0
          try clear c5
          try clear c5b0
          try clear c5b1
          try clear c6
          try clear c6b0
          try clear c6b1
          try clear p6
          try clear c7
          try clear c7b0
          try clear c8
          try clear c8b0
          try clear q9
          try clear c10
          try clear hx223_0
          try clear p2
          try clear p223
          try clear q223
          obtain ⟨x6_2, x8_2, rfl, HA, HK2, HO_3, HO_4, HO_6, HO_7, HB⟩ := hrel; cases gk with
          | zero => exact absurd HA.out (by simp [r7_Table.l1])
          | succ k2 =>
           have H := HA.out; clear HA; simp only [r7_Table.l1] at H
           by_cases c19 : x8_2 < (l0.length : Int)
           ·rw [if_pos c19] at H; have c19b0 : decide (x8_2 < (l0.length : Int)) = true := decide_eq_true c19
            clear c19; by_cases c20 : 0 ≤ x8_2
            ·rw [if_pos c20] at H; have c20b0 : decide (0 ≤ x8_2) = true := decide_eq_true c20
             clear c20; by_cases c21 : x8_2 < (x3_1.length : Int)
             ·rw [if_pos c21] at H; have c21b0 : decide (x8_2 < (x3_1.length : Int)) = true := decide_eq_true c21
              clear c21; obtain ⟨bq22, hbq22⟩ : ∃ b_ : Bool, b_ = (rdOf false x3_1 x8_2) := ⟨_, rfl⟩; replace H : (if bq22 = true then (if x8_2 < (t227.length : Int) then (if x8_2 < (x6_2.length : Int) then (r7_Table.l1 k2 l0 x3_1 x4_1 x5_1 (x6_2.set (x8_2 : Int).toNat (!(rdOf false t227 x8_2))) t227 (wrap64 (x8_2 + 1))) else (none)) else (none)) else (if x8_2 < (x6_2.length : Int) then (r7_Table.l1 k2 l0 x3_1 x4_1 x5_1 (x6_2.set (x8_2 : Int).toNat false) t227 (wrap64 (x8_2 + 1))) else (none))) = some r := by rw [← hbq22] at H; exact H
              have Nbq22 := Aside0.mk hbq22; clear hbq22; by_cases c23 : bq22 = true
              ·subst c23; have H1 : (if x8_2 < (t227.length : Int) then (if x8_2 < (x6_2.length : Int) then (r7_Table.l1 k2 l0 x3_1 x4_1 x5_1 (x6_2.set (x8_2 : Int).toNat (!(rdOf false t227 x8_2))) t227 (wrap64 (x8_2 + 1))) else (none)) else (none)) = some r := by rw [if_pos rfl] at H; exact H
               clear H; have H := H1; clear H1; by_cases c24 : x8_2 < (t227.length : Int)
               ·rw [if_pos c24] at H; have c24b0 : decide (x8_2 < (t227.length : Int)) = true := decide_eq_true c24
                clear c24; by_cases c25 : x8_2 < (x6_2.length : Int)
                ·rw [if_pos c25] at H; have c25b0 : decide (x8_2 < (x6_2.length : Int)) = true := decide_eq_true c25
                 clear c25; obtain ⟨y232, hy232⟩ : ∃ y_ : List Bool, y_ = (x6_2.set (x8_2 : Int).toNat (!(rdOf false t227 x8_2))) := ⟨_, rfl⟩; replace H : (r7_Table.l1 k2 l0 x3_1 x4_1 x5_1 y232 t227 (wrap64 (x8_2 + 1))) = some r := by first | (with_reducible first | (rw [hy232]; exact H) | exact H) | (have H2_ := (Option.bind_some _ _).symm.trans H; first | with_reducible exact H2_ | (rw [hy232]; exact H2_)) | (rw [hy232]; exact H) | exact H
                 have Ny232 := Aside0.mk hy232; clear hy232; have H' := Aside0.mk H
                 clear H; have p230 : 0 ≤ (x8_2 : Int) := of_decide_eq_true (by with_reducible assumption)
                 have q230 : x8_2 < (x3_1.length : Int) := of_decide_eq_true (by with_reducible assumption)
                 obtain ⟨ad230, e230, hx230_0⟩ := Kd.at_bool (Kd.R_reads' HO_3.out).2.2 x8_2 p230 q230; (try rw [← Nbq9.out] at hx230_0)
                 (try rw [← Nbq22.out] at hx230_0)
                 obtain rfl : ad223 = ad230 := (by injection e230)
                 replace p230 := eq_true p230; replace q230 := eq_true q230; obtain ⟨Ao27, co27, eo27⟩ := Kd.R_slice HO_7.out; subst eo27; have p231 : 0 ≤ (x8_2 : Int) := of_decide_eq_true (by with_reducible assumption)
                 have q231 : x8_2 < (t227.length : Int) := of_decide_eq_true (by with_reducible assumption)
                 obtain ⟨ad231, e231, hx231_0⟩ := Kd.at_bool (Kd.R_reads' HO_7.out).2.2 x8_2 p231 q231; (try rw [← Nbq9.out] at hx231_0)
                 (try rw [← Nbq22.out] at hx231_0)
                 cases e231; replace p231 := eq_true p231; replace q231 := eq_true q231; have p26 : 0 ≤ (x8_2 : Int) := of_decide_eq_true (by with_reducible assumption)
                 have q26 : (x8_2 : Int) < ((x6_2.length : Int) : Int) := of_decide_eq_true (by with_reducible assumption)
                 obtain ⟨go26, co26, eo26, gb26, gl26, cl26, HG26⟩ := Kd.R_form HO_6.out (by omega)
                 (first | cases eo26 | (injection eo26 with ea_ en_ ec_; (first | subst ea_ | (injection ea_ with ea_; subst ea_)); subst ec_; clear en_))
                 have GB26 := Aside0.mk gb26; have GG26 := Aside0.mk HG26; clear gb26 gl26 HG26; obtain ⟨hx26_0, hf26_0⟩ := Kd.R_celln false HO_6.out (x8_2 : Int) p26 q26; replace p26 := eq_true p26; replace q26 := eq_true q26; have HP28 := Kd.R_putg HO_6.out (x8_2 : Int) (!(rdOf false t227 x8_2)); go_wp2_with (first | ((with_reducible refine gate_store (t := 4) (p := 47) rfl ?_); refine store_event (t := 4) (p := 47) (v := ?vo_w29) (w1 := (wr.setCell ⟨go26, (x8_2 : Int).toNat, none⟩ (.bool (!(rdOf false t227 x8_2))))) ?hg ?ho ?hn ?hr ?_; (case ho => rfl); (case hg => rfl); (case hn => rfl); (case hr => first | (go_simp; done) | (go_simp; rfl)); intro w29 hw; have hg : wr.grownBy w29 (some go26) := (by rw [hw]; exact HP28.2); have hp_ : Kd.R Kd.bool 4 w29 w.heap.size (fun k_ => some k_ ≠ (.slice (some ad223) x3_1.length co14 : Value).ownBlock ∧ some k_ ≠ (.slice (some ad231) t227.length co27 : Value).ownBlock) (.slice (some ⟨go26, 0, none⟩) x6_2.length co26) y232 := (by rw [hw, Ny232.out]; exact HP28.1); clear HP28; have n0_ := Aside0.mk (Kd.R_after (v := (.slice (some ⟨go26, 0, none⟩) x6_2.length co26)) (v1 := (.slice (some ⟨go26, 0, none⟩) x6_2.length co26)) (ok := (fun k_ => some k_ ≠ (.slice (some ad231) t227.length co27 : Value).ownBlock)) (by (with_reducible repeat (first | apply Kd.R_alloc | apply Kd.R_drewN | apply Kd.R_drew)); exact Kd.R_mono HO_3.out (fun _ hk => ⟨hk.2, hk.1⟩)) hg (.inl rfl)); have n1_ := Aside0.mk (Kd.S_after (v := (.slice (some ⟨go26, 0, none⟩) x6_2.length co26)) (v1 := (.slice (some ⟨go26, 0, none⟩) x6_2.length co26)) (ok := (fun k_ => some k_ ≠ (.slice (some ad223) x3_1.length co14 : Value).ownBlock ∧ some k_ ≠ (.slice (some ad231) t227.length co27 : Value).ownBlock)) (by (with_reducible repeat (first | apply Kd.S_alloc | apply Kd.S_drewN | apply Kd.S_drew)); exact Kd.S_mono HO_4.out (fun _ hk => ⟨⟨hk.1, hk.2.2⟩, hk.2.1⟩)) hg (.inl rfl)); have n2_ := Aside0.mk (hp_); have n3_ := Aside0.mk (Kd.R_after (v := (.slice (some ⟨go26, 0, none⟩) x6_2.length co26)) (v1 := (.slice (some ⟨go26, 0, none⟩) x6_2.length co26)) (ok := (fun k_ => some k_ ≠ (.slice (some ad223) x3_1.length co14 : Value).ownBlock)) (by (with_reducible repeat (first | apply Kd.R_alloc | apply Kd.R_drewN | apply Kd.R_drew)); exact HO_7.out) hg (.inl rfl)); have n4_ := Aside0.mk ((by rw [hw]; exact below_set (HB.out) GB26.out : Below w.heap.size w w29)); clear HO_3; clear HO_4; clear HO_6; clear HO_7; clear HB; have HO_3 := n0_; have HO_4 := n1_; have HO_6 := n2_; have HO_7 := n3_; have HB := n4_; clear n0_ n1_ n2_ n3_ n4_; clear hg hw hp_))
                 go_roundg k2
                 case measure => have := HK1.out; have := HK2.out; omega
                 case rel => exact ⟨(y232), (wrap64 (x8_2 + 1)), (by first | rfl | (simp; done) | (simp [*]; done)), H', ⟨by have := HK1.out; have := HK2.out; omega⟩, ⟨by (with_reducible repeat (first | apply Kd.R_alloc | apply Kd.R_drewN | apply Kd.R_drew)); exact Kd.R_mono HO_3.out (fun _ hk => ⟨hk.2, hk.1⟩)⟩, ⟨by (with_reducible repeat (first | apply Kd.S_alloc | apply Kd.S_drewN | apply Kd.S_drew)); exact Kd.S_mono HO_4.out (fun _ hk => ⟨hk.1.1, ⟨hk.2, hk.1.2⟩⟩)⟩, ⟨by (with_reducible repeat (first | apply Kd.R_alloc | apply Kd.R_drewN | apply Kd.R_drew)); exact HO_6.out⟩, ⟨by (with_reducible repeat (first | apply Kd.R_alloc | apply Kd.R_drewN | apply Kd.R_drew)); exact HO_7.out⟩, ⟨by repeat (first | (with_reducible first | exact HB.out | apply below_alloc | apply pw_below_drewN | apply below_drew1) | exact HB.out)⟩⟩
                ·rw [if_neg c25] at H; exact absurd H (by simp)
               ·rw [if_neg c24] at H; exact absurd H (by simp)
              ·replace c23 := Bool.eq_false_iff.mpr c23; subst c23; have H1 : (if x8_2 < (x6_2.length : Int) then (r7_Table.l1 k2 l0 x3_1 x4_1 x5_1 (x6_2.set (x8_2 : Int).toNat false) t227 (wrap64 (x8_2 + 1))) else (none)) = some r := by rw [if_neg (show ¬ (false = true) by decide)] at H; exact H
               clear H; have H := H1; clear H1; by_cases c30 : x8_2 < (x6_2.length : Int)
               ·rw [if_pos c30] at H; have c30b0 : decide (x8_2 < (x6_2.length : Int)) = true := decide_eq_true c30
                clear c30; obtain ⟨y233, hy233⟩ : ∃ y_ : List Bool, y_ = (x6_2.set (x8_2 : Int).toNat false) := ⟨_, rfl⟩; replace H : (r7_Table.l1 k2 l0 x3_1 x4_1 x5_1 y233 t227 (wrap64 (x8_2 + 1))) = some r := by first | (with_reducible first | (rw [hy233]; exact H) | exact H) | (have H2_ := (Option.bind_some _ _).symm.trans H; first | with_reducible exact H2_ | (rw [hy233]; exact H2_)) | (rw [hy233]; exact H) | exact H
                have Ny233 := Aside0.mk hy233; clear hy233; have H' := Aside0.mk H
                clear H; have p230 : 0 ≤ (x8_2 : Int) := of_decide_eq_true (by with_reducible assumption)
                have q230 : x8_2 < (x3_1.length : Int) := of_decide_eq_true (by with_reducible assumption)
                obtain ⟨ad230, e230, hx230_0⟩ := Kd.at_bool (Kd.R_reads' HO_3.out).2.2 x8_2 p230 q230; (try rw [← Nbq9.out] at hx230_0)
                (try rw [← Nbq22.out] at hx230_0)
                obtain rfl : ad223 = ad230 := (by injection e230)
                replace p230 := eq_true p230; replace q230 := eq_true q230; have p31 : 0 ≤ (x8_2 : Int) := of_decide_eq_true (by with_reducible assumption)
                have q31 : (x8_2 : Int) < ((x6_2.length : Int) : Int) := of_decide_eq_true (by with_reducible assumption)
                obtain ⟨go31, co31, eo31, gb31, gl31, cl31, HG31⟩ := Kd.R_form HO_6.out (by omega)
                (first | cases eo31 | (injection eo31 with ea_ en_ ec_; (first | subst ea_ | (injection ea_ with ea_; subst ea_)); subst ec_; clear en_))
                have GB31 := Aside0.mk gb31; have GG31 := Aside0.mk HG31; clear gb31 gl31 HG31; obtain ⟨hx31_0, hf31_0⟩ := Kd.R_celln false HO_6.out (x8_2 : Int) p31 q31; replace p31 := eq_true p31; replace q31 := eq_true q31; have HP32 := Kd.R_putg HO_6.out (x8_2 : Int) false; go_wp2_with (first | ((with_reducible refine gate_store (t := 4) (p := 47) rfl ?_); refine store_event (t := 4) (p := 47) (v := ?vo_w33) (w1 := (wr.setCell ⟨go31, (x8_2 : Int).toNat, none⟩ (.bool false))) ?hg ?ho ?hn ?hr ?_; (case ho => rfl); (case hg => rfl); (case hn => rfl); (case hr => first | (go_simp; done) | (go_simp; rfl)); intro w33 hw; have hg : wr.grownBy w33 (some go31) := (by rw [hw]; exact HP32.2); have hp_ : Kd.R Kd.bool 4 w33 w.heap.size (fun k_ => some k_ ≠ (.slice (some ad223) x3_1.length co14 : Value).ownBlock ∧ some k_ ≠ (v228 : Value).ownBlock) (.slice (some ⟨go31, 0, none⟩) x6_2.length co31) y233 := (by rw [hw, Ny233.out]; exact HP32.1); clear HP32; have n0_ := Aside0.mk (Kd.R_after (v := (.slice (some ⟨go31, 0, none⟩) x6_2.length co31)) (v1 := (.slice (some ⟨go31, 0, none⟩) x6_2.length co31)) (ok := (fun k_ => some k_ ≠ (v228 : Value).ownBlock)) (by (with_reducible repeat (first | apply Kd.R_alloc | apply Kd.R_drewN | apply Kd.R_drew)); exact Kd.R_mono HO_3.out (fun _ hk => ⟨hk.2, hk.1⟩)) hg (.inl rfl)); have n1_ := Aside0.mk (Kd.S_after (v := (.slice (some ⟨go31, 0, none⟩) x6_2.length co31)) (v1 := (.slice (some ⟨go31, 0, none⟩) x6_2.length co31)) (ok := (fun k_ => some k_ ≠ (.slice (some ad223) x3_1.length co14 : Value).ownBlock ∧ some k_ ≠ (v228 : Value).ownBlock)) (by (with_reducible repeat (first | apply Kd.S_alloc | apply Kd.S_drewN | apply Kd.S_drew)); exact Kd.S_mono HO_4.out (fun _ hk => ⟨⟨hk.1, hk.2.2⟩, hk.2.1⟩)) hg (.inl rfl)); have n2_ := Aside0.mk (hp_); have n3_ := Aside0.mk (Kd.R_after (v := (.slice (some ⟨go31, 0, none⟩) x6_2.length co31)) (v1 := (.slice (some ⟨go31, 0, none⟩) x6_2.length co31)) (ok := (fun k_ => some k_ ≠ (.slice (some ad223) x3_1.length co14 : Value).ownBlock)) (by (with_reducible repeat (first | apply Kd.R_alloc | apply Kd.R_drewN | apply Kd.R_drew)); exact HO_7.out) hg (.inl rfl)); have n4_ := Aside0.mk ((by rw [hw]; exact below_set (HB.out) GB31.out : Below w.heap.size w w33)); clear HO_3; clear HO_4; clear HO_6; clear HO_7; clear HB; have HO_3 := n0_; have HO_4 := n1_; have HO_6 := n2_; have HO_7 := n3_; have HB := n4_; clear n0_ n1_ n2_ n3_ n4_; clear hg hw hp_))
                go_roundg k2
                case measure => have := HK1.out; have := HK2.out; omega
                case rel => exact ⟨(y233), (wrap64 (x8_2 + 1)), (by first | rfl | (simp; done) | (simp [*]; done)), H', ⟨by have := HK1.out; have := HK2.out; omega⟩, ⟨by (with_reducible repeat (first | apply Kd.R_alloc | apply Kd.R_drewN | apply Kd.R_drew)); exact Kd.R_mono HO_3.out (fun _ hk => ⟨hk.2, hk.1⟩)⟩, ⟨by (with_reducible repeat (first | apply Kd.S_alloc | apply Kd.S_drewN | apply Kd.S_drew)); exact Kd.S_mono HO_4.out (fun _ hk => ⟨hk.1.1, ⟨hk.2, hk.1.2⟩⟩)⟩, ⟨by (with_reducible repeat (first | apply Kd.R_alloc | apply Kd.R_drewN | apply Kd.R_drew)); exact HO_6.out⟩, ⟨by (with_reducible repeat (first | apply Kd.R_alloc | apply Kd.R_drewN | apply Kd.R_drew)); exact HO_7.out⟩, ⟨by repeat (first | (with_reducible first | exact HB.out | apply below_alloc | apply pw_below_drewN | apply below_drew1) | exact HB.out)⟩⟩
               ·rw [if_neg c30] at H; exact absurd H (by simp)
             ·rw [if_neg c21] at H; exact absurd H (by simp)
            ·rw [if_neg c20] at H; exact absurd H (by simp)
           ·rw [if_neg c19] at H; have c19b0 : decide (x8_2 < (l0.length : Int)) = false := decide_eq_false c19
            clear c19; by_cases c34 : x4_1.length < 5864062014805
            ·rw [if_pos c34] at H; have LMc34 := Aside0.mk c34; clear c34; obtain ⟨y234, hy234⟩ : ∃ y_ : List (List Bool), y_ = (x4_1 ++ [x6_2]) := ⟨_, rfl⟩; replace H : (r7_Table.l0 k2 l0 x3_1 y234 (wrap64 (x5_1 + 1))) = some r := by first | (with_reducible first | (rw [hy234]; exact H) | exact H) | (have H2_ := (Option.bind_some _ _).symm.trans H; first | with_reducible exact H2_ | (rw [hy234]; exact H2_)) | (rw [hy234]; exact H) | exact H
             have Ny234 := Aside0.mk hy234; clear hy234; have H' := Aside0.mk H
             clear H; obtain ⟨Ao36, co36, eo36⟩ := Kd.R_slice HO_6.out; subst eo36; go_wp2_with (first | ((with_reducible refine gate_builtin (b := .append) (xs := #[.tmp 48, .tmp 50]) rfl ?_); at_builtin; refine Kd.S_append (Kd.slice 4 Kd.bool) (w0 := w) w.heap.size rfl (.tmp 48) (.tmp 50) 54 46 (.slice none 0 0) 24 rfl Try.underlying54 info46 rfl (by decide) (by omega) u4 x4_1 x6_2 [.slice Ao36 x6_2.length co36] (fun k_ => some k_ ≠ (.slice (some ad223) x3_1.length co14 : Value).ownBlock ∧ some k_ ≠ (v228 : Value).ownBlock) (fun k_ => some k_ = (.slice Ao36 x6_2.length co36 : Value).ownBlock) rfl rfl ?aP (fun k_ hk_ => ((Kd.R_mono (ok' := fun k_ => ((fun k_ => some k_ ≠ (.slice (some ad223) x3_1.length co14 : Value).ownBlock ∧ some k_ ≠ (v228 : Value).ownBlock)) k_ ∧ some k_ ≠ (u4 : Value).ownBlock) (Kd.R_apart' (HO_6.out) (Kd.S_typed HO_4.out) (by decide)) (fun k_ hk => ⟨⟨hk.1.1, hk.1.2⟩, hk.2⟩))).1 k_ hk_.symm) ?aF ?aO ?aB ?aS ?aL ?_; (case aP => exact Kd.M_row (Kd.R_mono (Kd.R_tight rfl (Kd.R_mono (ok' := fun k_ => ((fun k_ => some k_ ≠ (.slice (some ad223) x3_1.length co14 : Value).ownBlock ∧ some k_ ≠ (v228 : Value).ownBlock)) k_ ∧ some k_ ≠ (u4 : Value).ownBlock) (Kd.R_apart' (HO_6.out) (Kd.S_typed HO_4.out) (by decide)) (fun k_ hk => ⟨⟨hk.1.1, hk.1.2⟩, hk.2⟩))) (fun _ h_ => h_))); (case aB => exact (by repeat (first | (with_reducible first | exact HB.out | apply below_alloc | apply pw_below_drewN | apply below_drew1) | exact HB.out))); (case aF => exact (fun k_ hk => ⟨Kd.fresh' (Kd.R_lt (by (with_reducible repeat (first | apply Kd.R_alloc | apply Kd.R_drewN | apply Kd.R_drew)); exact HO_3.out)) k_ hk, Kd.fresh' (Kd.R_lt (by (with_reducible repeat (first | apply Kd.R_alloc | apply Kd.R_drewN | apply Kd.R_drew)); exact HO_7.out)) k_ hk⟩)); (case aO => exact (by (with_reducible repeat (first | apply Kd.S_alloc | apply Kd.S_drewN | apply Kd.S_drew)); exact Kd.S_mono HO_4.out (fun k_ hk => ⟨⟨hk.1, hk.2.2⟩, fun e_ => hk.2.1 e_⟩))); (case aS => exact (below_size (by repeat (first | (with_reducible first | exact HB.out | apply below_alloc | apply pw_below_drewN | apply below_drew1) | exact HB.out)))); (case aL => have := LMc34.out; omega); intro v235 w35 ho hb hg hat; rw [← Ny234.out] at ho; have n0_ := Aside0.mk (Kd.R_over' (by (with_reducible repeat (first | apply Kd.R_alloc | apply Kd.R_drewN | apply Kd.R_drew)); exact HO_3.out) (Kd.S_typed (by (with_reducible repeat (first | apply Kd.S_alloc | apply Kd.S_drewN | apply Kd.S_drew)); exact HO_4.out)) (by decide) hg); have n1_ := Aside0.mk (Kd.R_over' (by (with_reducible repeat (first | apply Kd.R_alloc | apply Kd.R_drewN | apply Kd.R_drew)); exact HO_7.out) (Kd.S_typed (by (with_reducible repeat (first | apply Kd.S_alloc | apply Kd.S_drewN | apply Kd.S_drew)); exact HO_4.out)) (by decide) hg); have n2_ := Aside0.mk (hb); have n3_ := Aside0.mk (ho); clear HO_3; clear HO_7; clear HB; clear HO_4; clear HO_6; have HO_3 := n0_; have HO_7 := n1_; have HB := n2_; have HO236 := n3_; clear n0_ n1_ n2_ n3_; clear ho hb hg hat))
             go_roundg k2
             case measure => have := HK1.out; have := HK2.out; omega
             case rel => exact ⟨(x3_1), (y234), (wrap64 (x5_1 + 1)), (by first | rfl | (simp; done) | (simp [*]; done)), H', ⟨by have := HK1.out; have := HK2.out; omega⟩, ⟨by (with_reducible repeat (first | apply Kd.R_alloc | apply Kd.R_drewN | apply Kd.R_drew)); exact Kd.R_mono HO_3.out (fun _ hk => trivial)⟩, ⟨by (with_reducible repeat (first | apply Kd.S_alloc | apply Kd.S_drewN | apply Kd.S_drew)); exact Kd.S_mono HO236.out (fun _ hk => hk.1)⟩, ⟨by repeat (first | (with_reducible first | exact HB.out | apply below_alloc | apply pw_below_drewN | apply below_drew1) | exact HB.out)⟩⟩
            ·rw [if_neg c34] at H; exact absurd H (by simp)
        ·replace c10 := Bool.eq_false_iff.mpr c10; subst c10; have H1 : (if x4_1.length < 5864062014805 then (r7_Table.l0 k1 l0 x3_1 (x4_1 ++ [y220]) (wrap64 (x5_1 + 1))) else (none)) = some r := by rw [if_neg (show ¬ (false = true) by decide)] at H; exact H
         clear H; have H := H1; clear H1; by_cases c37 : x4_1.length < 5864062014805
         ·rw [if_pos c37] at H; have LMc37 := Aside0.mk c37; clear c37; obtain ⟨y237, hy237⟩ : ∃ y_ : List (List Bool), y_ = (x4_1 ++ [y220]) := ⟨_, rfl⟩; replace H : (r7_Table.l0 k1 l0 x3_1 y237 (wrap64 (x5_1 + 1))) = some r := by first | (with_reducible first | (rw [hy237]; exact H) | exact H) | (have H2_ := (Option.bind_some _ _).symm.trans H; first | with_reducible exact H2_ | (rw [hy237]; exact H2_)) | (rw [hy237]; exact H) | exact H
          have Ny237 := Aside0.mk hy237; clear hy237; have H' := Aside0.mk H
          clear H; go_wp2_with (first | ((with_reducible refine gate_dst (N := 19) rfl ?_); refine Kd.R_make Kd.bool _ 4 rfl (N := 19) rfl 46 _ _ rfl (l0.length : Int) rfl rfl Try.underlying46 (.bool false) 1 info4 rfl (by decide) (by omega) false (ok := fun _ => True) (okp := fun _ => True) rfl (fun _ hk => hk) trivial (of_decide_eq_true (by with_reducible assumption)) (Nat.le_trans (Nat.mul_le_mul_right _ (of_decide_eq_true (by with_reducible assumption) : (l0.length : Int).toNat ≤ 281474976710656)) (by omega)) (Below.refl _ _) (Nat.le_refl _) ?_; intro v221 w38 ho39 hb hg_ hnew_; clear hg_ hnew_; (first | rw [← Ny220.out] at ho39 | (simp only [Int.reduceToNat] at ho39; rw [← Ny220.out] at ho39)); have n0_ := Aside0.mk (Kd.R_elder' (by (with_reducible repeat (first | apply Kd.R_alloc | apply Kd.R_drewN | apply Kd.R_drew)); exact HO_3.out) (Kd.R_base ho39) hb); have n1_ := Aside0.mk (Kd.S_elder' (by (with_reducible repeat (first | apply Kd.S_alloc | apply Kd.S_drewN | apply Kd.S_drew)); exact HO_4.out) (Kd.R_base ho39) hb); have n2_ := Aside0.mk (Kd.R_lower (Kd.R_new' ho39 (Kd.R_lt (by (with_reducible repeat (first | apply Kd.R_alloc | apply Kd.R_drewN | apply Kd.R_drew)); exact HO_3.out))) (below_size (by repeat (first | (with_reducible first | exact HB.out | apply below_alloc | apply pw_below_drewN | apply below_drew1) | exact HB.out)))); have n3_ := Aside0.mk (below_step (by repeat (first | (with_reducible first | exact HB.out | apply below_alloc | apply pw_below_drewN | apply below_drew1) | exact HB.out)) hb); clear HO_3; clear HO_4; clear HB; have HO_3 := n0_; have HO_4 := n1_; have HO222 := n2_; have HB := n3_; clear n0_ n1_ n2_ n3_; clear hb ho39; obtain ⟨Ao40, co40, eo40⟩ := Kd.R_slice HO_3.out; subst eo40; have p223 : 0 ≤ (x5_1 : Int) := of_decide_eq_true (by with_reducible assumption); have q223 : x5_1 < (x3_1.length : Int) := of_decide_eq_true (by with_reducible assumption); obtain ⟨ad223, e223, hx223_0⟩ := Kd.at_bool (Kd.R_reads' HO_3.out).2.2 x5_1 p223 q223; (try rw [← Nbq9.out] at hx223_0); cases e223; replace p223 := eq_true p223; replace q223 := eq_true q223; obtain ⟨Ao42, co42, eo42⟩ := Kd.R_slice HO222.out; subst eo42) | ((with_reducible refine gate_builtin (b := .append) (xs := #[.tmp 48, .tmp 50]) rfl ?_); at_builtin; refine Kd.S_append (Kd.slice 4 Kd.bool) (w0 := w) w.heap.size rfl (.tmp 48) (.tmp 50) 54 46 (.slice none 0 0) 24 rfl Try.underlying54 info46 rfl (by decide) (by omega) u4 x4_1 y220 [.slice Ao42 y220.length co42] (fun k_ => some k_ ≠ (.slice (some ad223) x3_1.length co40 : Value).ownBlock) (fun k_ => some k_ = (.slice Ao42 y220.length co42 : Value).ownBlock) rfl rfl ?aP (fun k_ hk_ => ((Kd.R_mono (ok' := fun k_ => ((fun k_ => some k_ ≠ (.slice (some ad223) x3_1.length co40 : Value).ownBlock)) k_ ∧ some k_ ≠ (u4 : Value).ownBlock) (Kd.R_apart' (HO222.out) (Kd.S_typed HO_4.out) (by decide)) (fun k_ hk => ⟨hk.1.2, hk.2⟩))).1 k_ hk_.symm) ?aF ?aO ?aB ?aS ?aL ?_; (case aP => exact Kd.M_row (Kd.R_mono (Kd.R_tight rfl (Kd.R_mono (ok' := fun k_ => ((fun k_ => some k_ ≠ (.slice (some ad223) x3_1.length co40 : Value).ownBlock)) k_ ∧ some k_ ≠ (u4 : Value).ownBlock) (Kd.R_apart' (HO222.out) (Kd.S_typed HO_4.out) (by decide)) (fun k_ hk => ⟨hk.1.2, hk.2⟩))) (fun _ h_ => h_))); (case aB => exact (by repeat (first | (with_reducible first | exact HB.out | apply below_alloc | apply pw_below_drewN | apply below_drew1) | exact HB.out))); (case aF => exact (fun k_ hk => Kd.fresh' (Kd.R_lt (by (with_reducible repeat (first | apply Kd.R_alloc | apply Kd.R_drewN | apply Kd.R_drew)); exact HO_3.out)) k_ hk)); (case aO => exact (by (with_reducible repeat (first | apply Kd.S_alloc | apply Kd.S_drewN | apply Kd.S_drew)); exact Kd.S_mono HO_4.out (fun k_ hk => ⟨hk.1, fun e_ => hk.2 e_⟩))); (case aS => exact (below_size (by repeat (first | (with_reducible first | exact HB.out | apply below_alloc | apply pw_below_drewN | apply below_drew1) | exact HB.out)))); (case aL => have := LMc37.out; omega); intro v238 w41 ho hb hg hat; rw [← Ny237.out] at ho; have n0_ := Aside0.mk (Kd.R_over' (by (with_reducible repeat (first | apply Kd.R_alloc | apply Kd.R_drewN | apply Kd.R_drew)); exact HO_3.out) (Kd.S_typed (by (with_reducible repeat (first | apply Kd.S_alloc | apply Kd.S_drewN | apply Kd.S_drew)); exact HO_4.out)) (by decide) hg); have n1_ := Aside0.mk (hb); have n2_ := Aside0.mk (ho); clear HO_3; clear HB; clear HO_4; clear HO222; have HO_3 := n0_; have HB := n1_; have HO239 := n2_; clear n0_ n1_ n2_; clear ho hb hg hat))
          go_roundg k1
          case measure => have := HK1.out; omega
          case rel => exact ⟨(x3_1), (y237), (wrap64 (x5_1 + 1)), (by first | rfl | (simp; done) | (simp [*]; done)), H', ⟨by have := HK1.out; omega⟩, ⟨by (with_reducible repeat (first | apply Kd.R_alloc | apply Kd.R_drewN | apply Kd.R_drew)); exact Kd.R_mono HO_3.out (fun _ hk => trivial)⟩, ⟨by (with_reducible repeat (first | apply Kd.S_alloc | apply Kd.S_drewN | apply Kd.S_drew)); exact HO239.out⟩, ⟨by repeat (first | (with_reducible first | exact HB.out | apply below_alloc | apply pw_below_drewN | apply below_drew1) | exact HB.out)⟩⟩
         ·rw [if_neg c37] at H; exact absurd H (by simp)
       ·rw [if_neg c8] at H; exact absurd H (by simp)
      ·rw [if_neg c7] at H; exact absurd H (by simp)
     ·rw [if_neg c6] at H; exact absurd H (by simp)
    ·rw [if_neg c5] at H; exact absurd H (by simp)
   ·rw [if_neg c4] at H; have c4b0 : decide (x5_1 < (l0.length : Int)) = false := decide_eq_false c4
    clear c4; obtain rfl := Option.some.inj H; go_wp2
    go_ret
    exact ⟨_, by first | rfl | (simp [errW_none, errW_some] <;> rfl) | (simp [*, errW_none, errW_some] <;> rfl), by (with_reducible repeat (first | apply Kd.S_alloc | apply Kd.S_drewN | apply Kd.S_drew)); exact Kd.S_mono HO_4.out (fun _ hk => trivial), by repeat (first | (with_reducible first | exact HB.out | apply below_alloc | apply pw_below_drewN | apply below_drew1) | exact HB.out)⟩
end Go.Proofs.Ytjjedbcgkljdeaa.A
end
section
namespace Go.Proofs.Ytjjedbcgkljdeaa.A
open Go.RowKit Go.Proofs.YtjjedbcgkljdeaaW.PrintWords Go.Proofs.YtjjedbcgkljdeaaW.PrintLast Go.Proofs.YtjjedbcgkljdeaaW.PrintMore
set_option linter.unusedVariables false
set_option linter.unusedSimpArgs false
mutual
def r7_Frontier.l0 : Nat → List (List Int) → List (List Bool) → List Bool → List (List Int) → Int → Option ((List (List Int)))
 | 0, _, _, _, _, _ => none
 | k + 1, x0, x3, x4, x5, x6 => if x6 < (x0.length : Int) then (if 0 ≤ (x0.length : Int) then (if ((x0.length : Int) : Int).toNat ≤ 281474976710656 then (r7_Frontier.l1 k x0 x3 x4 x5 x6 (List.replicate ((x0.length : Int) : Int).toNat false) 0) else (none)) else (none)) else (some x5)
def r7_Frontier.l1 : Nat → List (List Int) → List (List Bool) → List Bool → List (List Int) → Int → List Bool → Int → Option ((List (List Int)))
 | 0, _, _, _, _, _, _, _ => none
 | k + 1, x0, x3, x4, x5, x6, x7, x8 => if x8 < (x0.length : Int) then (r7_Frontier.l2 k x0 x3 x4 x5 x6 x7 x8 0) else ((r7_rising.f k x7).bind fun t284 => (if x5.length < 5864062014805 then (r7_Frontier.l0 k x0 x3 x4 (x5 ++ [t284]) (wrap64 (x6 + 1))) else (none)))
def r7_Frontier.l2 : Nat → List (List Int) → List (List Bool) → List Bool → List (List Int) → Int → List Bool → Int → Int → Option ((List (List Int)))
 | 0, _, _, _, _, _, _, _, _ => none
 | k + 1, x0, x3, x4, x5, x6, x7, x8, x9 => if 0 ≤ x8 then (if x8 < (x0.length : Int) then (if x9 < ((rd_L1 x0 x8).length : Int) then (if x8 < (x4.length : Int) then (r7_Frontier.j3 k x0 x3 x4 x5 x6 x7 x8 x9 (rdOf false x4 x8)) else (none)) else (r7_Frontier.j3 k x0 x3 x4 x5 x6 x7 x8 x9 false)) else (none)) else (none)
def r7_Frontier.j3 : Nat → List (List Int) → List (List Bool) → List Bool → List (List Int) → Int → List Bool → Int → Int → Bool → Option ((List (List Int)))
 | 0, _, _, _, _, _, _, _, _, _ => none
 | k + 1, x0, x3, x4, x5, x6, x7, x8, x9, x42 => if x42 = true then (if 0 ≤ x8 then (if x8 < (x0.length : Int) then (if 0 ≤ x9 then (if x9 < ((rd_L1 x0 x8).length : Int) then (if 0 ≤ x6 then (if x6 < (x3.length : Int) then (if x8 < ((rd_L3 x3 x6).length : Int) then (if rdOf false (rd_L3 x3 x6) x8 = true then (if 0 ≤ (rd (rd_L1 x0 x8) x9) then (if (rd (rd_L1 x0 x8) x9) < ((rd_L3 x3 x6).length : Int) then (if (rdOf false (rd_L3 x3 x6) (rd (rd_L1 x0 x8) x9) = true) then (if x6 = (rd (rd_L1 x0 x8) x9) then (if (rd (rd_L1 x0 x8) x9) < (x7.length : Int) then (r7_Frontier.l2 k x0 x3 x4 x5 x6 (x7.set ((rd (rd_L1 x0 x8) x9) : Int).toNat true) x8 (wrap64 (x9 + 1))) else (none)) else (r7_Frontier.l2 k x0 x3 x4 x5 x6 x7 x8 (wrap64 (x9 + 1)))) else (if (rd (rd_L1 x0 x8) x9) < (x7.length : Int) then (r7_Frontier.l2 k x0 x3 x4 x5 x6 (x7.set ((rd (rd_L1 x0 x8) x9) : Int).toNat true) x8 (wrap64 (x9 + 1))) else (none))) else (none)) else (none)) else (r7_Frontier.l2 k x0 x3 x4 x5 x6 x7 x8 (wrap64 (x9 + 1)))) else (none)) else (none)) else (none)) else (none)) else (none)) else (none)) else (none)) else (r7_Frontier.l1 k x0 x3 x4 x5 x6 x7 (wrap64 (x8 + 1)))
end
def r7_Frontier.f (k : Nat) (l0 : List (List Int)) : Option ((List (List Int))) := (r7_Table.f k l0).bind fun t275 => ((r7_Reached.f k l0).bind fun t278 => (r7_Frontier.l0 k l0 t275 t278 ([] : List (List Int)) 0))
set_option maxHeartbeats 8000000 in
set_option maxRecDepth 100000 in
theorem r7_Frontier.calls (k : Nat) (A0 : Option Addr) (c0 : Nat) (l0 : List (List Int)) (r : List (List Int)) (w : World) (hr0 : Kd.C (Kd.slice 3 (Kd.int .i64)) w A0 l0.length l0) (hc0 : l0.length ≤ c0) (h : r7_Frontier.f k l0 = some r) :
  Calls Try.prog 20 #[.slice A0 l0.length c0] w fun e w' => ∃ v0_ : Value, e = .returned (v0_) ∧ Kd.S (Kd.slice 3 (Kd.int .i64)) 33 w' w.heap.size (fun _ => True) v0_ r ∧ Below w.heap.size w w' := by
 have HR0 := Aside0.mk hr0; have HC0 := Aside0.mk hc0; clear hr0 hc0; have HB := Aside0.mk (Below.refl w.heap.size w); have H : ((r7_Table.f k l0).bind fun t275 => ((r7_Reached.f k l0).bind fun t278 => (r7_Frontier.l0 k l0 t275 t278 ([] : List (List Int)) 0))) = some r := h
 clear h; replace H := Option.bind_eq_some_iff.mp H; obtain ⟨t275, A20, H⟩ := H; replace H : ((r7_Reached.f k l0).bind fun t278 => (r7_Frontier.l0 k l0 t275 t278 ([] : List (List Int)) 0)) = some r := H
 have A2 := Aside0.mk A20; clear A20; replace H := Option.bind_eq_some_iff.mp H; obtain ⟨t278, A30, H⟩ := H; replace H : (r7_Frontier.l0 k l0 t275 t278 ([] : List (List Int)) 0) = some r := H; have A3 := Aside0.mk A30; clear A30; have H' := Aside0.mk H
 clear H; go_enter Try.func20, Try.ntmps20
 go_wp2_with (first | ((with_reducible refine gate_callee (f := 43) rfl ?_); refine goesL_ (some 12) rfl rfl Try.func43 (by kernel_rfl) rfl #[.slice A0 l0.length c0] rfl (by (try simp only [List.map_toArray, List.map_cons, List.map_nil]); first | done | rfl | (simp only [List.length_drop, List.length_take]; rfl)) ?_; (with_reducible refine (r7_Table.calls k _ _ l0 t275 _ ?side1 ?side2 A2.out).mono ?_); (case side1 => repeat (first | exact HR0.out | with_reducible first | refine Kd.C_alloc ?_ _ | refine Kd.C_drewN ?_ _ | refine Kd.C_drew ?_)); (case side2 => exact HC0.out); rintro e w4 ⟨v276, rfl, ho0, hb⟩; refine ⟨_, rfl, ?_⟩; have n0_ := Aside0.mk (Kd.S_lower ho0 (below_size (by repeat (first | (with_reducible first | exact HB.out | apply below_alloc | apply pw_below_drewN | apply below_drew1) | exact HB.out)))); have n1_ := Aside0.mk (below_step (by repeat (first | (with_reducible first | exact HB.out | apply below_alloc | apply pw_below_drewN | apply below_drew1) | exact HB.out)) hb); clear HB; have HO277 := n0_; have HB := n1_; clear n0_ n1_; (try clear hb); (try clear hb2); (try clear hk); (try clear hi); (try clear ho0)) | ((with_reducible refine gate_callee (f := 33) rfl ?_); refine goesL_ (some 14) rfl rfl Try.func33 (by kernel_rfl) rfl #[.slice A0 l0.length c0] rfl (by (try simp only [List.map_toArray, List.map_cons, List.map_nil]); first | done | rfl | (simp only [List.length_drop, List.length_take]; rfl)) ?_; (with_reducible refine (r7_Reached.calls k _ _ l0 t278 _ ?side1 ?side2 A3.out).mono ?_); (case side1 => repeat (first | exact (Kd.C_below HR0.out HB.out) | with_reducible first | refine Kd.C_alloc ?_ _ | refine Kd.C_drewN ?_ _ | refine Kd.C_drew ?_)); (case side2 => exact HC0.out); rintro e w5 ⟨v279, rfl, ho0, hb⟩; refine ⟨_, rfl, ?_⟩; have n0_ := Aside0.mk (Kd.S_elder' (by (with_reducible repeat (first | apply Kd.S_alloc | apply Kd.S_drewN | apply Kd.S_drew)); exact HO277.out) (Kd.R_base ho0) hb); have n1_ := Aside0.mk (Kd.R_lower ho0 (below_size (by repeat (first | (with_reducible first | exact HB.out | apply below_alloc | apply pw_below_drewN | apply below_drew1) | exact HB.out)))); have n2_ := Aside0.mk (below_step (by repeat (first | (with_reducible first | exact HB.out | apply below_alloc | apply pw_below_drewN | apply below_drew1) | exact HB.out)) hb); clear HO277; clear HB; have HO277 := n0_; have HO280 := n1_; have HB := n2_; clear n0_ n1_ n2_; (try clear hb); (try clear hb2); (try clear hk); (try clear hi); (try clear ho0)))
 go_loopg [5, 6] k (fun kq v5 v6 w' => ∃ (x4_1 : List Bool) (x5_1 : List (List Int)) (x6_1 : Int), v6 = .int .i64 x6_1 ∧ Aside0 (r7_Frontier.l0 kq l0 t275 x4_1 x5_1 x6_1 = some r) ∧ Aside0 (kq ≤ k) ∧ Aside0 (Kd.S (Kd.slice 4 Kd.bool) 46 w' w.heap.size (fun k_ => some k_ ≠ (v279 : Value).ownBlock) v276 t275) ∧ Aside0 (Kd.R Kd.bool 4 w' w.heap.size (fun _ => True) v279 x4_1) ∧ Aside0 (Kd.S (Kd.slice 3 (Kd.int .i64)) 33 w' w.heap.size (fun _ => True) v5 x5_1) ∧ Aside0 (Below w.heap.size w w'))
 case atStart => exact ⟨(t278), (([] : List (List Int))), (0), (by first | rfl | (simp; done) | (simp [*]; done)), H', ⟨Nat.le_refl _⟩, ⟨by (with_reducible repeat (first | apply Kd.S_alloc | apply Kd.S_drewN | apply Kd.S_drew)); exact Kd.S_mono HO277.out (fun _ hk => hk.2)⟩, ⟨by (with_reducible repeat (first | apply Kd.R_alloc | apply Kd.R_drewN | apply Kd.R_drew)); exact HO280.out⟩, ⟨by first | exact Kd.S_nil _ _ _ _ _ | exact Kd.N_nil _ _ _ _ _ | exact Kd.V_nil _ _ _ _ _ | exact Kd.Q_nil _ _ _ _ _ | exact Kd.R_nil _ _ _ _ _⟩, ⟨by repeat (first | (with_reducible first | exact HB.out | apply below_alloc | apply pw_below_drewN | apply below_drew1) | exact HB.out)⟩⟩
 case round =>
  clear H'; try clear c2
  try clear p2
  try clear c3
  try clear c4
  obtain ⟨x4_1, x5_1, x6_1, rfl, HA, HK1, HO_3, HO_4, HO_5, HB⟩ := hrel; cases gk with
  | zero => exact absurd HA.out (by simp [r7_Frontier.l0])
  | succ k1 =>
   have H := HA.out; clear HA; simp only [r7_Frontier.l0] at H
   by_cases c6 : x6_1 < (l0.length : Int)
   ·rw [if_pos c6] at H; have c6b0 : decide (x6_1 < (l0.length : Int)) = true := decide_eq_true c6
    clear c6; by_cases c7 : 0 ≤ (l0.length : Int)
    ·rw [if_pos c7] at H; have c7b0 := eq_true c7; have c7b1 : decide (0 ≤ (l0.length : Int)) = true := decide_eq_true c7
     clear c7; by_cases c8 : ((l0.length : Int) : Int).toNat ≤ 281474976710656
     ·rw [if_pos c8] at H; have c8b0 := eq_true c8; have c8b1 : decide (((l0.length : Int) : Int).toNat ≤ 281474976710656) = true := decide_eq_true c8
      clear c8; obtain ⟨y281, hy281⟩ : ∃ y_ : List Bool, y_ = (List.replicate ((l0.length : Int) : Int).toNat false) := ⟨_, rfl⟩; replace H : (r7_Frontier.l1 k1 l0 t275 x4_1 x5_1 x6_1 y281 0) = some r := by first | (with_reducible first | (rw [hy281]; exact H) | exact H) | (have H2_ := (Option.bind_some _ _).symm.trans H; first | with_reducible exact H2_ | (rw [hy281]; exact H2_)) | (rw [hy281]; exact H) | exact H
      have Ny281 := Aside0.mk hy281; clear hy281; have H' := Aside0.mk H
      clear H; go_wp2_with (first | ((with_reducible refine gate_dst (N := 23) rfl ?_); refine Kd.R_make Kd.bool _ 4 rfl (N := 23) rfl 46 _ _ rfl (l0.length : Int) rfl rfl Try.underlying46 (.bool false) 1 info4 rfl (by decide) (by omega) false (ok := fun _ => True) (okp := fun _ => True) rfl (fun _ hk => hk) trivial (of_decide_eq_true (by with_reducible assumption)) (Nat.le_trans (Nat.mul_le_mul_right _ (of_decide_eq_true (by with_reducible assumption) : (l0.length : Int).toNat ≤ 281474976710656)) (by omega)) (Below.refl _ _) (Nat.le_refl _) ?_; intro v282 w9 ho10 hb hg_ hnew_; clear hg_ hnew_; (first | rw [← Ny281.out] at ho10 | (simp only [Int.reduceToNat] at ho10; rw [← Ny281.out] at ho10)); have n0_ := Aside0.mk (Kd.S_elder' (by (with_reducible repeat (first | apply Kd.S_alloc | apply Kd.S_drewN | apply Kd.S_drew)); exact HO_3.out) (Kd.R_base ho10) hb); have n1_ := Aside0.mk (Kd.R_elder' (by (with_reducible repeat (first | apply Kd.R_alloc | apply Kd.R_drewN | apply Kd.R_drew)); exact HO_4.out) (Kd.R_base ho10) hb); have n2_ := Aside0.mk (Kd.S_below (by (with_reducible repeat (first | apply Kd.S_alloc | apply Kd.S_drewN | apply Kd.S_drew)); exact HO_5.out) hb); have n3_ := Aside0.mk (Kd.R_lower (Kd.R_new' ho10 (Kd.R_lt (by (with_reducible repeat (first | apply Kd.R_alloc | apply Kd.R_drewN | apply Kd.R_drew)); exact HO_4.out))) (below_size (by repeat (first | (with_reducible first | exact HB.out | apply below_alloc | apply pw_below_drewN | apply below_drew1) | exact HB.out)))); have n4_ := Aside0.mk (below_step (by repeat (first | (with_reducible first | exact HB.out | apply below_alloc | apply pw_below_drewN | apply below_drew1) | exact HB.out)) hb); clear HO_3; clear HO_4; clear HO_5; clear HB; have HO_3 := n0_; have HO_4 := n1_; have HO_5 := n2_; have HO283 := n3_; have HB := n4_; clear n0_ n1_ n2_ n3_ n4_; clear hb ho10))
      go_loopg [8] k1 (fun kq v8 w' => ∃ (x7_2 : List Bool) (x8_2 : Int), v8 = .int .i64 x8_2 ∧ Aside0 (r7_Frontier.l1 kq l0 t275 x4_1 x5_1 x6_1 x7_2 x8_2 = some r) ∧ Aside0 (kq ≤ k1) ∧ Aside0 (Kd.S (Kd.slice 4 Kd.bool) 46 w' w.heap.size (fun k_ => some k_ ≠ (v279 : Value).ownBlock ∧ some k_ ≠ (v282 : Value).ownBlock) v276 t275) ∧ Aside0 (Kd.R Kd.bool 4 w' w.heap.size (fun k_ => some k_ ≠ (v282 : Value).ownBlock) v279 x4_1) ∧ Aside0 (Kd.S (Kd.slice 3 (Kd.int .i64)) 33 w' w.heap.size (fun _ => True) u5 x5_1) ∧ Aside0 (Kd.R Kd.bool 4 w' w.heap.size (fun k_ => some k_ ≠ (v279 : Value).ownBlock) v282 x7_2) ∧ Aside0 (Below w.heap.size w w'))
      case atStart => exact ⟨(y281), (0), (by first | rfl | (simp; done) | (simp [*]; done)), H', ⟨Nat.le_refl _⟩, ⟨by (with_reducible repeat (first | apply Kd.S_alloc | apply Kd.S_drewN | apply Kd.S_drew)); exact HO_3.out⟩, ⟨by (with_reducible repeat (first | apply Kd.R_alloc | apply Kd.R_drewN | apply Kd.R_drew)); exact Kd.R_mono HO_4.out (fun _ hk => hk.2)⟩, ⟨by (with_reducible repeat (first | apply Kd.S_alloc | apply Kd.S_drewN | apply Kd.S_drew)); exact HO_5.out⟩, ⟨by (with_reducible repeat (first | apply Kd.R_alloc | apply Kd.R_drewN | apply Kd.R_drew)); exact Kd.R_mono HO283.out (fun _ hk => hk.2)⟩, ⟨by repeat (first | (with_reducible first | exact HB.out | apply below_alloc | apply pw_below_drewN | apply below_drew1) | exact HB.out)⟩⟩
      case round =>
       clear H'; try clear c2
       try clear p2
       try clear c3
       try clear c4
       try clear c6
       try clear c6b0
       try clear c7
       try clear c7b0
       try clear c7b1
       try clear c8
       try clear c8b0
       try clear c8b1
       try clear p2
       obtain ⟨x7_2, x8_2, rfl, HA, HK2, HO_3, HO_4, HO_5, HO_7, HB⟩ := hrel; cases gk with
       | zero => exact absurd HA.out (by simp [r7_Frontier.l1])
       | succ k2 =>
        have H := HA.out; clear HA; simp only [r7_Frontier.l1] at H
        by_cases c11 : x8_2 < (l0.length : Int)
        ·rw [if_pos c11] at H; have c11b0 : decide (x8_2 < (l0.length : Int)) = true := decide_eq_true c11
         clear c11; have H' := Aside0.mk H
         clear H; go_wp2
         go_loopg [9] k2 (fun kq v9 w' => ∃ (x7_3 : List Bool) (x9_3 : Int), v9 = .int .i64 x9_3 ∧ Aside0 (r7_Frontier.l2 kq l0 t275 x4_1 x5_1 x6_1 x7_3 x8_2 x9_3 = some r) ∧ Aside0 (kq ≤ k2) ∧ Aside0 (Kd.S (Kd.slice 4 Kd.bool) 46 w' w.heap.size (fun k_ => some k_ ≠ (v279 : Value).ownBlock ∧ some k_ ≠ (v282 : Value).ownBlock) v276 t275) ∧ Aside0 (Kd.R Kd.bool 4 w' w.heap.size (fun k_ => some k_ ≠ (v282 : Value).ownBlock) v279 x4_1) ∧ Aside0 (Kd.S (Kd.slice 3 (Kd.int .i64)) 33 w' w.heap.size (fun _ => True) u5 x5_1) ∧ Aside0 (Kd.R Kd.bool 4 w' w.heap.size (fun k_ => some k_ ≠ (v279 : Value).ownBlock) v282 x7_3) ∧ Aside0 (Below w.heap.size w w'))
         case atStart => exact ⟨(x7_2), (0), (by first | rfl | (simp; done) | (simp [*]; done)), H', ⟨Nat.le_refl _⟩, ⟨by (with_reducible repeat (first | apply Kd.S_alloc | apply Kd.S_drewN | apply Kd.S_drew)); exact HO_3.out⟩, ⟨by (with_reducible repeat (first | apply Kd.R_alloc | apply Kd.R_drewN | apply Kd.R_drew)); exact HO_4.out⟩, ⟨by (with_reducible repeat (first | apply Kd.S_alloc | apply Kd.S_drewN | apply Kd.S_drew)); exact HO_5.out⟩, ⟨by (with_reducible repeat (first | apply Kd.R_alloc | apply Kd.R_drewN | apply Kd.R_drew)); exact HO_7.out⟩, ⟨by repeat (first | (with_reducible first | exact HB.out | apply below_alloc | apply pw_below_drewN | apply below_drew1) | exact HB.out)⟩⟩
         case round =>
          clear H'; try clear c1
          try clear c2
          try clear p2
          try clear c3
          try clear c4
          try clear c6
          try clear c6b0
          try clear c7
          try clear c7b0
          try clear c7b1
          try clear c8
          try clear c8b0
          try clear c8b1
          try clear c11
          try clear c11b0
          try clear p2
          obtain ⟨x7_3, x9_3, rfl, HA, HK3, HO_3, HO_4, HO_5, HO_7, HB⟩ := hrel; cases gk with
          | zero => exact absurd HA.out (by simp [r7_Frontier.l2])
          | succ k3 =>
           have H := HA.out; clear HA; simp only [r7_Frontier.l2] at H
           have HC12 := Aside0.mk H; clear H; go_upto_region 11 with (fail)
           go_cut [42] (fun v42 wc => ∃ (kq : Nat) (x42_11 : Bool), v42 = .bool x42_11 ∧ Aside0 (r7_Frontier.j3 kq l0 t275 x4_1 x5_1 x6_1 x7_3 x8_2 x9_3 x42_11 = some r) ∧ Aside0 (kq ≤ k3) ∧ Aside0 (Kd.S (Kd.slice 4 Kd.bool) 46 wc w.heap.size (fun k_ => some k_ ≠ (v279 : Value).ownBlock ∧ some k_ ≠ (v282 : Value).ownBlock) v276 t275) ∧ Aside0 (Kd.R Kd.bool 4 wc w.heap.size (fun k_ => some k_ ≠ (v282 : Value).ownBlock) v279 x4_1) ∧ Aside0 (Kd.S (Kd.slice 3 (Kd.int .i64)) 33 wc w.heap.size (fun _ => True) u5 x5_1) ∧ Aside0 (Kd.R Kd.bool 4 wc w.heap.size (fun k_ => some k_ ≠ (v279 : Value).ownBlock) v282 x7_3) ∧ Aside0 (Below w.heap.size w wc))
           case first =>
            have H := HC12.out; clear HC12; by_cases c13 : 0 ≤ x8_2
            ·rw [if_pos c13] at H; have c13b0 : decide (0 ≤ x8_2) = true := decide_eq_true c13
             clear c13; (first | rw [c13b0] | (simp only [i64_w, i32_w]; rw [c13b0]) | skip)
             by_cases c14 : x8_2 < (l0.length : Int)
             ·rw [if_pos c14] at H; have c14b0 : decide (x8_2 < (l0.length : Int)) = true := decide_eq_true c14
              clear c14; by_cases c15 : x9_3 < ((rd_L1 l0 x8_2).length : Int)
              ·rw [if_pos c15] at H; have c15b0 : decide (x9_3 < ((rd_L1 l0 x8_2).length : Int)) = true := decide_eq_true c15
               clear c15; by_cases c16 : x8_2 < (x4_1.length : Int)
               ·rw [if_pos c16] at H; have c16b0 : decide (x8_2 < (x4_1.length : Int)) = true := decide_eq_true c16
                clear c16; have H' := Aside0.mk H
                clear H; have p290 : 0 ≤ (x8_2 : Int) := of_decide_eq_true (by with_reducible assumption)
                have q290 : x8_2 < (l0.length : Int) := of_decide_eq_true (by with_reducible assumption)
                obtain ⟨ad290, A290_0, c290_0, e290, hx290_0, hl290_0, hi290_0⟩ := at_L1 HR0.out x8_2 p290 q290; cases e290; replace hx290_0 := (HB.out.cell (World.block_lt_of_cell? w _ hx290_0)).trans hx290_0; have HR290_0 := Aside0.mk hi290_0; have HC290_0 := Aside0.mk hl290_0; clear hi290_0 hl290_0; replace p290 := eq_true p290; replace q290 := eq_true q290; obtain ⟨Ao17, co17, eo17⟩ := Kd.R_slice HO_4.out; subst eo17; have p291 : 0 ≤ (x8_2 : Int) := of_decide_eq_true (by with_reducible assumption)
                have q291 : x8_2 < (x4_1.length : Int) := of_decide_eq_true (by with_reducible assumption)
                obtain ⟨ad291, e291, hx291_0⟩ := Kd.at_bool (Kd.R_reads' HO_4.out).2.2 x8_2 p291 q291; cases e291; replace p291 := eq_true p291; replace q291 := eq_true q291; go_wp2
                go_meet
                case rel => exact ⟨_, (rdOf false x4_1 x8_2), (by first | rfl | (simp; done) | (simp [*]; done)), H', ⟨by have := HK1.out; have := HK2.out; have := HK3.out; first | omega | exact Nat.le_refl _⟩, ⟨by (with_reducible repeat (first | apply Kd.S_alloc | apply Kd.S_drewN | apply Kd.S_drew)); exact HO_3.out⟩, ⟨by (with_reducible repeat (first | apply Kd.R_alloc | apply Kd.R_drewN | apply Kd.R_drew)); exact HO_4.out⟩, ⟨by (with_reducible repeat (first | apply Kd.S_alloc | apply Kd.S_drewN | apply Kd.S_drew)); exact HO_5.out⟩, ⟨by (with_reducible repeat (first | apply Kd.R_alloc | apply Kd.R_drewN | apply Kd.R_drew)); exact HO_7.out⟩, ⟨by repeat (first | (with_reducible first | exact HB.out | apply below_alloc | apply pw_below_drewN | apply below_drew1) | exact HB.out)⟩⟩
               ·rw [if_neg c16] at H; exact absurd H (by simp)
              ·rw [if_neg c15] at H; have c15b0 : decide (x9_3 < ((rd_L1 l0 x8_2).length : Int)) = false := decide_eq_false c15
               clear c15; have H' := Aside0.mk H
               clear H; have p290 : 0 ≤ (x8_2 : Int) := of_decide_eq_true (by with_reducible assumption)
               have q290 : x8_2 < (l0.length : Int) := of_decide_eq_true (by with_reducible assumption)
               obtain ⟨ad290, A290_0, c290_0, e290, hx290_0, hl290_0, hi290_0⟩ := at_L1 HR0.out x8_2 p290 q290; cases e290; replace hx290_0 := (HB.out.cell (World.block_lt_of_cell? w _ hx290_0)).trans hx290_0; have HR290_0 := Aside0.mk hi290_0; have HC290_0 := Aside0.mk hl290_0; clear hi290_0 hl290_0; replace p290 := eq_true p290; replace q290 := eq_true q290; go_wp2
               go_meet
               case rel => exact ⟨_, (false), (by first | rfl | (simp; done) | (simp [*]; done)), H', ⟨by have := HK1.out; have := HK2.out; have := HK3.out; first | omega | exact Nat.le_refl _⟩, ⟨by (with_reducible repeat (first | apply Kd.S_alloc | apply Kd.S_drewN | apply Kd.S_drew)); exact HO_3.out⟩, ⟨by (with_reducible repeat (first | apply Kd.R_alloc | apply Kd.R_drewN | apply Kd.R_drew)); exact HO_4.out⟩, ⟨by (with_reducible repeat (first | apply Kd.S_alloc | apply Kd.S_drewN | apply Kd.S_drew)); exact HO_5.out⟩, ⟨by (with_reducible repeat (first | apply Kd.R_alloc | apply Kd.R_drewN | apply Kd.R_drew)); exact HO_7.out⟩, ⟨by repeat (first | (with_reducible first | exact HB.out | apply below_alloc | apply pw_below_drewN | apply below_drew1) | exact HB.out)⟩⟩
             ·rw [if_neg c14] at H; exact absurd H (by simp)
            ·rw [if_neg c13] at H; exact absurd H (by simp)
           case rest =>
            clear HC12; try clear c1
            try clear c2
            try clear p2
            try clear q2
            try clear hx2
            try clear c3
            try clear c4
            try clear c6
            try clear c6b0
            try clear c7
            try clear c7b0
            try clear c7b1
            try clear c8
            try clear c8b0
            try clear c8b1
            try clear c11
            try clear c11b0
            try clear c13
            try clear c13b0
            try clear c14
            try clear c14b0
            try clear c15
            try clear c15b0
            try clear c16
            try clear c16b0
            try clear hx290_0
            try clear hx291_0
            try clear p2
            try clear p290
            try clear p291
            try clear q290
            try clear q291
            obtain ⟨kq, x42_11, rfl, HA, HJ11, HO_3, HO_4, HO_5, HO_7, HB⟩ := hcut; cases kq with
            | zero => exact absurd HA.out (by simp [r7_Frontier.j3])
            | succ kj11 =>
             have H := HA.out; clear HA; simp only [r7_Frontier.j3] at H
             by_cases c18 : x42_11 = true
             ·subst c18; have H1 : (if 0 ≤ x8_2 then (if x8_2 < (l0.length : Int) then (if 0 ≤ x9_3 then (if x9_3 < ((rd_L1 l0 x8_2).length : Int) then (if 0 ≤ x6_1 then (if x6_1 < (t275.length : Int) then (if x8_2 < ((rd_L3 t275 x6_1).length : Int) then (if rdOf false (rd_L3 t275 x6_1) x8_2 = true then (if 0 ≤ (rd (rd_L1 l0 x8_2) x9_3) then (if (rd (rd_L1 l0 x8_2) x9_3) < ((rd_L3 t275 x6_1).length : Int) then (if (rdOf false (rd_L3 t275 x6_1) (rd (rd_L1 l0 x8_2) x9_3) = true) then (if x6_1 = (rd (rd_L1 l0 x8_2) x9_3) then (if (rd (rd_L1 l0 x8_2) x9_3) < (x7_3.length : Int) then (r7_Frontier.l2 kj11 l0 t275 x4_1 x5_1 x6_1 (x7_3.set ((rd (rd_L1 l0 x8_2) x9_3) : Int).toNat true) x8_2 (wrap64 (x9_3 + 1))) else (none)) else (r7_Frontier.l2 kj11 l0 t275 x4_1 x5_1 x6_1 x7_3 x8_2 (wrap64 (x9_3 + 1)))) else (if (rd (rd_L1 l0 x8_2) x9_3) < (x7_3.length : Int) then (r7_Frontier.l2 kj11 l0 t275 x4_1 x5_1 x6_1 (x7_3.set ((rd (rd_L1 l0 x8_2) x9_3) : Int).toNat true) x8_2 (wrap64 (x9_3 + 1))) else (none))) else (none)) else (none)) else (r7_Frontier.l2 kj11 l0 t275 x4_1 x5_1 x6_1 x7_3 x8_2 (wrap64 (x9_3 + 1)))) else (none)) else (none)) else (none)) else (none)) else (none)) else (none)) else (none)) = some r := by rw [if_pos rfl] at H; exact H
              clear H; have H := H1; clear H1; by_cases c19 : 0 ≤ x8_2
              ·rw [if_pos c19] at H; have c19b0 : decide (0 ≤ x8_2) = true := decide_eq_true c19
               clear c19; by_cases c20 : x8_2 < (l0.length : Int)
               ·rw [if_pos c20] at H; have c20b0 : decide (x8_2 < (l0.length : Int)) = true := decide_eq_true c20
                clear c20; by_cases c21 : 0 ≤ x9_3
                ·rw [if_pos c21] at H; have c21b0 : decide (0 ≤ x9_3) = true := decide_eq_true c21
                 clear c21; by_cases c22 : x9_3 < ((rd_L1 l0 x8_2).length : Int)
                 ·rw [if_pos c22] at H; have c22b0 : decide (x9_3 < ((rd_L1 l0 x8_2).length : Int)) = true := decide_eq_true c22
                  clear c22; by_cases c23 : 0 ≤ x6_1
                  ·rw [if_pos c23] at H; have c23b0 : decide (0 ≤ x6_1) = true := decide_eq_true c23
                   clear c23; by_cases c24 : x6_1 < (t275.length : Int)
                   ·rw [if_pos c24] at H; have c24b0 : decide (x6_1 < (t275.length : Int)) = true := decide_eq_true c24
                    clear c24; by_cases c25 : x8_2 < ((rd_L3 t275 x6_1).length : Int)
                    ·rw [if_pos c25] at H; have c25b0 : decide (x8_2 < ((rd_L3 t275 x6_1).length : Int)) = true := decide_eq_true c25
                     clear c25; obtain ⟨bq26, hbq26⟩ : ∃ b_ : Bool, b_ = (rdOf false (rd_L3 t275 x6_1) x8_2) := ⟨_, rfl⟩; replace H : (if bq26 = true then (if 0 ≤ (rd (rd_L1 l0 x8_2) x9_3) then (if (rd (rd_L1 l0 x8_2) x9_3) < ((rd_L3 t275 x6_1).length : Int) then (if (rdOf false (rd_L3 t275 x6_1) (rd (rd_L1 l0 x8_2) x9_3) = true) then (if x6_1 = (rd (rd_L1 l0 x8_2) x9_3) then (if (rd (rd_L1 l0 x8_2) x9_3) < (x7_3.length : Int) then (r7_Frontier.l2 kj11 l0 t275 x4_1 x5_1 x6_1 (x7_3.set ((rd (rd_L1 l0 x8_2) x9_3) : Int).toNat true) x8_2 (wrap64 (x9_3 + 1))) else (none)) else (r7_Frontier.l2 kj11 l0 t275 x4_1 x5_1 x6_1 x7_3 x8_2 (wrap64 (x9_3 + 1)))) else (if (rd (rd_L1 l0 x8_2) x9_3) < (x7_3.length : Int) then (r7_Frontier.l2 kj11 l0 t275 x4_1 x5_1 x6_1 (x7_3.set ((rd (rd_L1 l0 x8_2) x9_3) : Int).toNat true) x8_2 (wrap64 (x9_3 + 1))) else (none))) else (none)) else (none)) else (r7_Frontier.l2 kj11 l0 t275 x4_1 x5_1 x6_1 x7_3 x8_2 (wrap64 (x9_3 + 1)))) = some r := by rw [← hbq26] at H; exact H
                     have Nbq26 := Aside0.mk hbq26; clear hbq26; by_cases c27 : bq26 = true
                     ·subst c27; have H1 : (if 0 ≤ (rd (rd_L1 l0 x8_2) x9_3) then (if (rd (rd_L1 l0 x8_2) x9_3) < ((rd_L3 t275 x6_1).length : Int) then (if (rdOf false (rd_L3 t275 x6_1) (rd (rd_L1 l0 x8_2) x9_3) = true) then (if x6_1 = (rd (rd_L1 l0 x8_2) x9_3) then (if (rd (rd_L1 l0 x8_2) x9_3) < (x7_3.length : Int) then (r7_Frontier.l2 kj11 l0 t275 x4_1 x5_1 x6_1 (x7_3.set ((rd (rd_L1 l0 x8_2) x9_3) : Int).toNat true) x8_2 (wrap64 (x9_3 + 1))) else (none)) else (r7_Frontier.l2 kj11 l0 t275 x4_1 x5_1 x6_1 x7_3 x8_2 (wrap64 (x9_3 + 1)))) else (if (rd (rd_L1 l0 x8_2) x9_3) < (x7_3.length : Int) then (r7_Frontier.l2 kj11 l0 t275 x4_1 x5_1 x6_1 (x7_3.set ((rd (rd_L1 l0 x8_2) x9_3) : Int).toNat true) x8_2 (wrap64 (x9_3 + 1))) else (none))) else (none)) else (none)) = some r := by rw [if_pos rfl] at H; exact H
                      clear H; have H := H1; clear H1; by_cases c28 : 0 ≤ (rd (rd_L1 l0 x8_2) x9_3)
                      ·rw [if_pos c28] at H; have c28b0 : decide (0 ≤ (rd (rd_L1 l0 x8_2) x9_3)) = true := decide_eq_true c28
                       clear c28; by_cases c29 : (rd (rd_L1 l0 x8_2) x9_3) < ((rd_L3 t275 x6_1).length : Int)
                       ·rw [if_pos c29] at H; have c29b0 : decide ((rd (rd_L1 l0 x8_2) x9_3) < ((rd_L3 t275 x6_1).length : Int)) = true := decide_eq_true c29
                        clear c29; obtain ⟨bq30, hbq30⟩ : ∃ b_ : Bool, b_ = (rdOf false (rd_L3 t275 x6_1) (rd (rd_L1 l0 x8_2) x9_3)) := ⟨_, rfl⟩; replace H : (if (bq30 = true) then (if x6_1 = (rd (rd_L1 l0 x8_2) x9_3) then (if (rd (rd_L1 l0 x8_2) x9_3) < (x7_3.length : Int) then (r7_Frontier.l2 kj11 l0 t275 x4_1 x5_1 x6_1 (x7_3.set ((rd (rd_L1 l0 x8_2) x9_3) : Int).toNat true) x8_2 (wrap64 (x9_3 + 1))) else (none)) else (r7_Frontier.l2 kj11 l0 t275 x4_1 x5_1 x6_1 x7_3 x8_2 (wrap64 (x9_3 + 1)))) else (if (rd (rd_L1 l0 x8_2) x9_3) < (x7_3.length : Int) then (r7_Frontier.l2 kj11 l0 t275 x4_1 x5_1 x6_1 (x7_3.set ((rd (rd_L1 l0 x8_2) x9_3) : Int).toNat true) x8_2 (wrap64 (x9_3 + 1))) else (none))) = some r := by rw [← hbq30] at H; exact H
                        have Nbq30 := Aside0.mk hbq30; clear hbq30; by_cases c31 : (bq30 = true)
                        ·subst c31; have H1 : (if x6_1 = (rd (rd_L1 l0 x8_2) x9_3) then (if (rd (rd_L1 l0 x8_2) x9_3) < (x7_3.length : Int) then (r7_Frontier.l2 kj11 l0 t275 x4_1 x5_1 x6_1 (x7_3.set ((rd (rd_L1 l0 x8_2) x9_3) : Int).toNat true) x8_2 (wrap64 (x9_3 + 1))) else (none)) else (r7_Frontier.l2 kj11 l0 t275 x4_1 x5_1 x6_1 x7_3 x8_2 (wrap64 (x9_3 + 1)))) = some r := by rw [if_pos rfl] at H; exact H
                         clear H; have H := H1; clear H1; by_cases c32 : x6_1 = (rd (rd_L1 l0 x8_2) x9_3)
                         ·rw [if_pos c32] at H; have c32b0 : (x6_1 == (rd (rd_L1 l0 x8_2) x9_3)) = true := beq_iff_eq.mpr c32
                          have c32b1 : (x6_1 != (rd (rd_L1 l0 x8_2) x9_3)) = false := bne_eq_false_iff_eq.mpr c32
                          clear c32; by_cases c33 : (rd (rd_L1 l0 x8_2) x9_3) < (x7_3.length : Int)
                          ·rw [if_pos c33] at H; have c33b0 : decide ((rd (rd_L1 l0 x8_2) x9_3) < (x7_3.length : Int)) = true := decide_eq_true c33
                           clear c33; obtain ⟨y298, hy298⟩ : ∃ y_ : List Bool, y_ = (x7_3.set ((rd (rd_L1 l0 x8_2) x9_3) : Int).toNat true) := ⟨_, rfl⟩; replace H : (r7_Frontier.l2 kj11 l0 t275 x4_1 x5_1 x6_1 y298 x8_2 (wrap64 (x9_3 + 1))) = some r := by first | (with_reducible first | (rw [hy298]; exact H) | exact H) | (have H2_ := (Option.bind_some _ _).symm.trans H; first | with_reducible exact H2_ | (rw [hy298]; exact H2_)) | (rw [hy298]; exact H) | exact H
                           have Ny298 := Aside0.mk hy298; clear hy298; have H' := Aside0.mk H
                           clear H; have p292 : 0 ≤ (x8_2 : Int) := of_decide_eq_true (by with_reducible assumption)
                           have q292 : x8_2 < (l0.length : Int) := of_decide_eq_true (by with_reducible assumption)
                           obtain ⟨ad292, A292_0, c292_0, e292, hx292_0, hl292_0, hi292_0⟩ := at_L1 HR0.out x8_2 p292 q292; cases e292; replace hx292_0 := (HB.out.cell (World.block_lt_of_cell? w _ hx292_0)).trans hx292_0; have HR292_0 := Aside0.mk hi292_0; have HC292_0 := Aside0.mk hl292_0; clear hi292_0 hl292_0; replace p292 := eq_true p292; replace q292 := eq_true q292; have p293 : 0 ≤ (x9_3 : Int) := of_decide_eq_true (by with_reducible assumption)
                           have q293 : x9_3 < ((rd_L1 l0 x8_2).length : Int) := of_decide_eq_true (by with_reducible assumption)
                           obtain ⟨ad293, e293, hx293_0⟩ := Kd.at_int HR292_0.out x9_3 p293 q293; cases e293; replace hx293_0 := (HB.out.cell (World.block_lt_of_cell? w _ hx293_0)).trans hx293_0; replace p293 := eq_true p293; replace q293 := eq_true q293; obtain ⟨Ao35, co35, eo35⟩ := Kd.S_slice HO_3.out; subst eo35; have p294 : 0 ≤ (x6_1 : Int) := of_decide_eq_true (by with_reducible assumption)
                           have q294 : x6_1 < (t275.length : Int) := of_decide_eq_true (by with_reducible assumption)
                           obtain ⟨ad294, A294_0, c294_0, e294, hx294_0, hl294_0, hi294_0⟩ := at_L3 (Kd.S_reads' HO_3.out).2.2 x6_1 p294 q294; cases e294; obtain ⟨ce294, hce294, hMe294, hcc294⟩ := Kd.S_get HO_3.out [] x6_1 p294 (by first | exact q294 | exact of_decide_eq_true (by with_reducible assumption) | (have e_ := (Kd.S_reads' HO_3.out).1; omega))
                           obtain ⟨ve294_0, rfl, ge294_0⟩ := hMe294; have hv294_0 := hcc294 0 _ rfl; rw [Nat.add_zero, show ((Kd.slice 4 Kd.bool)).sz = 1 from rfl, Nat.mul_one] at hv294_0; replace hv294_0 := Option.some.inj (hv294_0.symm.trans hx294_0); rw [hv294_0] at ge294_0; have HL294_0 := Aside0.mk (show Kd.R Kd.bool 4 _ _ _ _ (rd_L3 t275 x6_1) from ge294_0); clear hv294_0 ge294_0; clear hcc294 hce294; have HR294_0 := Aside0.mk hi294_0; have HC294_0 := Aside0.mk hl294_0; clear hi294_0 hl294_0; replace p294 := eq_true p294; replace q294 := eq_true q294; have p295 : 0 ≤ (x8_2 : Int) := of_decide_eq_true (by with_reducible assumption)
                           have q295 : x8_2 < ((rd_L3 t275 x6_1).length : Int) := of_decide_eq_true (by with_reducible assumption)
                           obtain ⟨ad295, e295, hx295_0⟩ := Kd.at_bool (by repeat (first | (with_reducible exact HR294_0.out) | with_reducible first | refine Kd.C_alloc ?_ _ | refine Kd.C_drewN ?_ _ | refine Kd.C_drew ?_ | exact HR294_0.out)) x8_2 p295 q295
                           (try rw [← Nbq26.out] at hx295_0)
                           (try rw [← Nbq30.out] at hx295_0)
                           cases e295; replace p295 := eq_true p295; replace q295 := eq_true q295; have p296 : 0 ≤ (x6_1 : Int) := of_decide_eq_true (by with_reducible assumption)
                           have q296 : x6_1 < (t275.length : Int) := of_decide_eq_true (by with_reducible assumption)
                           obtain ⟨ad296, A296_0, c296_0, e296, hx296_0, hl296_0, hi296_0⟩ := at_L3 (Kd.S_reads' HO_3.out).2.2 x6_1 p296 q296; obtain rfl : ad294 = ad296 := (by injection e296)
                           obtain ⟨ce296, hce296, hMe296, hcc296⟩ := Kd.S_get HO_3.out [] x6_1 p296 (by first | exact q296 | exact of_decide_eq_true (by with_reducible assumption) | (have e_ := (Kd.S_reads' HO_3.out).1; omega))
                           obtain ⟨ve296_0, rfl, ge296_0⟩ := hMe296; have hv296_0 := hcc296 0 _ rfl; rw [Nat.add_zero, show ((Kd.slice 4 Kd.bool)).sz = 1 from rfl, Nat.mul_one] at hv296_0; replace hv296_0 := Option.some.inj (hv296_0.symm.trans hx296_0); rw [hv296_0] at ge296_0; have HL296_0 := Aside0.mk (show Kd.R Kd.bool 4 _ _ _ _ (rd_L3 t275 x6_1) from ge296_0); clear hv296_0 ge296_0; clear hcc296 hce296; have HR296_0 := Aside0.mk hi296_0; have HC296_0 := Aside0.mk hl296_0; clear hi296_0 hl296_0; replace p296 := eq_true p296; replace q296 := eq_true q296; have ea_ := Option.some.inj (hx294_0.symm.trans hx296_0); injection ea_ with ea_ en_ ec_
                           subst ea_; subst ec_; clear en_; have p297 : 0 ≤ ((rd (rd_L1 l0 x8_2) x9_3) : Int) := of_decide_eq_true (by with_reducible assumption)
                           have q297 : (rd (rd_L1 l0 x8_2) x9_3) < ((rd_L3 t275 x6_1).length : Int) := of_decide_eq_true (by with_reducible assumption)
                           obtain ⟨ad297, e297, hx297_0⟩ := Kd.at_bool (by repeat (first | (with_reducible exact HR296_0.out) | with_reducible first | refine Kd.C_alloc ?_ _ | refine Kd.C_drewN ?_ _ | refine Kd.C_drew ?_ | exact HR296_0.out)) (rd (rd_L1 l0 x8_2) x9_3) p297 q297
                           (try rw [← Nbq26.out] at hx297_0)
                           (try rw [← Nbq30.out] at hx297_0)
                           cases e297; replace p297 := eq_true p297; replace q297 := eq_true q297; have p34 : 0 ≤ ((rd (rd_L1 l0 x8_2) x9_3) : Int) := of_decide_eq_true (by with_reducible assumption)
                           have q34 : ((rd (rd_L1 l0 x8_2) x9_3) : Int) < ((x7_3.length : Int) : Int) := of_decide_eq_true (by with_reducible assumption)
                           obtain ⟨go34, co34, eo34, gb34, gl34, cl34, HG34⟩ := Kd.R_form HO_7.out (by omega)
                           (first | cases eo34 | (injection eo34 with ea_ en_ ec_; (first | subst ea_ | (injection ea_ with ea_; subst ea_)); subst ec_; clear en_))
                           have GB34 := Aside0.mk gb34; have GG34 := Aside0.mk HG34; clear gb34 gl34 HG34; obtain ⟨hx34_0, hf34_0⟩ := Kd.R_celln false HO_7.out ((rd (rd_L1 l0 x8_2) x9_3) : Int) p34 q34; replace p34 := eq_true p34; replace q34 := eq_true q34; have HP36 := Kd.R_putg HO_7.out ((rd (rd_L1 l0 x8_2) x9_3) : Int) true; go_wp2_with (first | ((with_reducible refine gate_store (t := 4) (p := 76) rfl ?_); refine store_event (t := 4) (p := 76) (v := ?vo_w37) (w1 := (wc.setCell ⟨go34, ((rd (rd_L1 l0 x8_2) x9_3) : Int).toNat, none⟩ (.bool true))) ?hg ?ho ?hn ?hr ?_; (case ho => rfl); (case hg => rfl); (case hn => rfl); (case hr => first | (go_simp; done) | (go_simp; rfl)); intro w37 hw; have hg : wc.grownBy w37 (some go34) := (by rw [hw]; exact HP36.2); have hp_ : Kd.R Kd.bool 4 w37 w.heap.size (fun k_ => some k_ ≠ (v279 : Value).ownBlock) (.slice (some ⟨go34, 0, none⟩) x7_3.length co34) y298 := (by rw [hw, Ny298.out]; exact HP36.1); clear HP36; have n0_ := Aside0.mk (Kd.S_after (v := (.slice (some ⟨go34, 0, none⟩) x7_3.length co34)) (v1 := (.slice (some ⟨go34, 0, none⟩) x7_3.length co34)) (ok := (fun k_ => some k_ ≠ (v279 : Value).ownBlock)) (by (with_reducible repeat (first | apply Kd.S_alloc | apply Kd.S_drewN | apply Kd.S_drew)); exact HO_3.out) hg (.inl rfl)); have n1_ := Aside0.mk (Kd.R_after (v := (.slice (some ⟨go34, 0, none⟩) x7_3.length co34)) (v1 := (.slice (some ⟨go34, 0, none⟩) x7_3.length co34)) (ok := (fun _ => True)) (by (with_reducible repeat (first | apply Kd.R_alloc | apply Kd.R_drewN | apply Kd.R_drew)); exact Kd.R_mono HO_4.out (fun _ hk => ⟨trivial, hk⟩)) hg (.inl rfl)); have n2_ := Aside0.mk (Kd.S_over' (v := (.slice (some ⟨go34, 0, none⟩) x7_3.length co34)) (by (with_reducible repeat (first | apply Kd.S_alloc | apply Kd.S_drewN | apply Kd.S_drew)); exact HO_5.out) (Kd.R_typed HO_7.out) (by decide) hg); have n3_ := Aside0.mk (hp_); have n4_ := Aside0.mk (Kd.R_after (v := (.slice (some ⟨go34, 0, none⟩) x7_3.length co34)) (v1 := (.slice (some ⟨go34, 0, none⟩) x7_3.length co34)) (ok := (fun k_ => some k_ ≠ (.slice (some ad294) t275.length co35 : Value).ownBlock ∧ some k_ ≠ (v279 : Value).ownBlock)) (by (with_reducible repeat (first | apply Kd.R_alloc | apply Kd.R_drewN | apply Kd.R_drew)); exact Kd.R_mono HL294_0.out (fun _ hk => ⟨⟨hk.2, hk.1.1⟩, hk.1.2⟩)) hg (.inl rfl)); have n5_ := Aside0.mk (Kd.R_after (v := (.slice (some ⟨go34, 0, none⟩) x7_3.length co34)) (v1 := (.slice (some ⟨go34, 0, none⟩) x7_3.length co34)) (ok := (fun k_ => some k_ ≠ (.slice (some ad294) t275.length co35 : Value).ownBlock ∧ some k_ ≠ (v279 : Value).ownBlock)) (by (with_reducible repeat (first | apply Kd.R_alloc | apply Kd.R_drewN | apply Kd.R_drew)); exact Kd.R_mono HL296_0.out (fun _ hk => ⟨⟨hk.2, hk.1.1⟩, hk.1.2⟩)) hg (.inl rfl)); have n6_ := Aside0.mk ((by rw [hw]; exact below_set (HB.out) GB34.out : Below w.heap.size w w37)); clear HO_3; clear HO_4; clear HO_5; clear HO_7; clear HL294_0; clear HL296_0; clear HB; have HO_3 := n0_; have HO_4 := n1_; have HO_5 := n2_; have HO_7 := n3_; have HL294_0 := n4_; have HL296_0 := n5_; have HB := n6_; clear n0_ n1_ n2_ n3_ n4_ n5_ n6_; clear hg hw hp_))
                           go_roundg kj11
                           case measure => have := HK1.out; have := HK2.out; have := HK3.out; have := HJ11.out; omega
                           case rel => exact ⟨(y298), (wrap64 (x9_3 + 1)), (by first | rfl | (simp; done) | (simp [*]; done)), H', ⟨by have := HK1.out; have := HK2.out; have := HK3.out; have := HJ11.out; omega⟩, ⟨by (with_reducible repeat (first | apply Kd.S_alloc | apply Kd.S_drewN | apply Kd.S_drew)); exact HO_3.out⟩, ⟨by (with_reducible repeat (first | apply Kd.R_alloc | apply Kd.R_drewN | apply Kd.R_drew)); exact Kd.R_mono HO_4.out (fun _ hk => hk.2)⟩, ⟨by (with_reducible repeat (first | apply Kd.S_alloc | apply Kd.S_drewN | apply Kd.S_drew)); exact HO_5.out⟩, ⟨by (with_reducible repeat (first | apply Kd.R_alloc | apply Kd.R_drewN | apply Kd.R_drew)); exact HO_7.out⟩, ⟨by repeat (first | (with_reducible first | exact HB.out | apply below_alloc | apply pw_below_drewN | apply below_drew1) | exact HB.out)⟩⟩
                          ·rw [if_neg c33] at H; exact absurd H (by simp)
                         ·rw [if_neg c32] at H; have c32b0 : (x6_1 == (rd (rd_L1 l0 x8_2) x9_3)) = false := beq_eq_false_iff_ne.mpr c32
                          have c32b1 : (x6_1 != (rd (rd_L1 l0 x8_2) x9_3)) = true := bne_iff_ne.mpr c32
                          have H' := Aside0.mk H
                          clear H; have p292 : 0 ≤ (x8_2 : Int) := of_decide_eq_true (by with_reducible assumption)
                          have q292 : x8_2 < (l0.length : Int) := of_decide_eq_true (by with_reducible assumption)
                          obtain ⟨ad292, A292_0, c292_0, e292, hx292_0, hl292_0, hi292_0⟩ := at_L1 HR0.out x8_2 p292 q292; cases e292; replace hx292_0 := (HB.out.cell (World.block_lt_of_cell? w _ hx292_0)).trans hx292_0; have HR292_0 := Aside0.mk hi292_0; have HC292_0 := Aside0.mk hl292_0; clear hi292_0 hl292_0; replace p292 := eq_true p292; replace q292 := eq_true q292; have p293 : 0 ≤ (x9_3 : Int) := of_decide_eq_true (by with_reducible assumption)
                          have q293 : x9_3 < ((rd_L1 l0 x8_2).length : Int) := of_decide_eq_true (by with_reducible assumption)
                          obtain ⟨ad293, e293, hx293_0⟩ := Kd.at_int HR292_0.out x9_3 p293 q293; cases e293; replace hx293_0 := (HB.out.cell (World.block_lt_of_cell? w _ hx293_0)).trans hx293_0; replace p293 := eq_true p293; replace q293 := eq_true q293; obtain ⟨Ao38, co38, eo38⟩ := Kd.S_slice HO_3.out; subst eo38; have p294 : 0 ≤ (x6_1 : Int) := of_decide_eq_true (by with_reducible assumption)
                          have q294 : x6_1 < (t275.length : Int) := of_decide_eq_true (by with_reducible assumption)
                          obtain ⟨ad294, A294_0, c294_0, e294, hx294_0, hl294_0, hi294_0⟩ := at_L3 (Kd.S_reads' HO_3.out).2.2 x6_1 p294 q294; cases e294; obtain ⟨ce294, hce294, hMe294, hcc294⟩ := Kd.S_get HO_3.out [] x6_1 p294 (by first | exact q294 | exact of_decide_eq_true (by with_reducible assumption) | (have e_ := (Kd.S_reads' HO_3.out).1; omega))
                          obtain ⟨ve294_0, rfl, ge294_0⟩ := hMe294; have hv294_0 := hcc294 0 _ rfl; rw [Nat.add_zero, show ((Kd.slice 4 Kd.bool)).sz = 1 from rfl, Nat.mul_one] at hv294_0; replace hv294_0 := Option.some.inj (hv294_0.symm.trans hx294_0); rw [hv294_0] at ge294_0; have HL294_0 := Aside0.mk (show Kd.R Kd.bool 4 _ _ _ _ (rd_L3 t275 x6_1) from ge294_0); clear hv294_0 ge294_0; clear hcc294 hce294; have HR294_0 := Aside0.mk hi294_0; have HC294_0 := Aside0.mk hl294_0; clear hi294_0 hl294_0; replace p294 := eq_true p294; replace q294 := eq_true q294; have p295 : 0 ≤ (x8_2 : Int) := of_decide_eq_true (by with_reducible assumption)
                          have q295 : x8_2 < ((rd_L3 t275 x6_1).length : Int) := of_decide_eq_true (by with_reducible assumption)
                          obtain ⟨ad295, e295, hx295_0⟩ := Kd.at_bool (by repeat (first | (with_reducible exact HR294_0.out) | with_reducible first | refine Kd.C_alloc ?_ _ | refine Kd.C_drewN ?_ _ | refine Kd.C_drew ?_ | exact HR294_0.out)) x8_2 p295 q295
                          (try rw [← Nbq26.out] at hx295_0)
                          (try rw [← Nbq30.out] at hx295_0)
                          cases e295; replace p295 := eq_true p295; replace q295 := eq_true q295; have p296 : 0 ≤ (x6_1 : Int) := of_decide_eq_true (by with_reducible assumption)
                          have q296 : x6_1 < (t275.length : Int) := of_decide_eq_true (by with_reducible assumption)
                          obtain ⟨ad296, A296_0, c296_0, e296, hx296_0, hl296_0, hi296_0⟩ := at_L3 (Kd.S_reads' HO_3.out).2.2 x6_1 p296 q296; obtain rfl : ad294 = ad296 := (by injection e296)
                          obtain ⟨ce296, hce296, hMe296, hcc296⟩ := Kd.S_get HO_3.out [] x6_1 p296 (by first | exact q296 | exact of_decide_eq_true (by with_reducible assumption) | (have e_ := (Kd.S_reads' HO_3.out).1; omega))
                          obtain ⟨ve296_0, rfl, ge296_0⟩ := hMe296; have hv296_0 := hcc296 0 _ rfl; rw [Nat.add_zero, show ((Kd.slice 4 Kd.bool)).sz = 1 from rfl, Nat.mul_one] at hv296_0; replace hv296_0 := Option.some.inj (hv296_0.symm.trans hx296_0); rw [hv296_0] at ge296_0; have HL296_0 := Aside0.mk (show Kd.R Kd.bool 4 _ _ _ _ (rd_L3 t275 x6_1) from ge296_0); clear hv296_0 ge296_0; clear hcc296 hce296; have HR296_0 := Aside0.mk hi296_0; have HC296_0 := Aside0.mk hl296_0; clear hi296_0 hl296_0; replace p296 := eq_true p296; replace q296 := eq_true q296; have ea_ := Option.some.inj (hx294_0.symm.trans hx296_0); injection ea_ with ea_ en_ ec_
                          subst ea_; subst ec_; clear en_; have p297 : 0 ≤ ((rd (rd_L1 l0 x8_2) x9_3) : Int) := of_decide_eq_true (by with_reducible assumption)
                          have q297 : (rd (rd_L1 l0 x8_2) x9_3) < ((rd_L3 t275 x6_1).length : Int) := of_decide_eq_true (by with_reducible assumption)
                          obtain ⟨ad297, e297, hx297_0⟩ := Kd.at_bool (by repeat (first | (with_reducible exact HR296_0.out) | with_reducible first | refine Kd.C_alloc ?_ _ | refine Kd.C_drewN ?_ _ | refine Kd.C_drew ?_ | exact HR296_0.out)) (rd (rd_L1 l0 x8_2) x9_3) p297 q297
                          (try rw [← Nbq26.out] at hx297_0)
                          (try rw [← Nbq30.out] at hx297_0)
                          cases e297; replace p297 := eq_true p297; replace q297 := eq_true q297; go_wp2
                          go_roundg kj11
                          case measure => have := HK1.out; have := HK2.out; have := HK3.out; have := HJ11.out; omega
                          case rel => exact ⟨(x7_3), (wrap64 (x9_3 + 1)), (by first | rfl | (simp; done) | (simp [*]; done)), H', ⟨by have := HK1.out; have := HK2.out; have := HK3.out; have := HJ11.out; omega⟩, ⟨by (with_reducible repeat (first | apply Kd.S_alloc | apply Kd.S_drewN | apply Kd.S_drew)); exact HO_3.out⟩, ⟨by (with_reducible repeat (first | apply Kd.R_alloc | apply Kd.R_drewN | apply Kd.R_drew)); exact HO_4.out⟩, ⟨by (with_reducible repeat (first | apply Kd.S_alloc | apply Kd.S_drewN | apply Kd.S_drew)); exact HO_5.out⟩, ⟨by (with_reducible repeat (first | apply Kd.R_alloc | apply Kd.R_drewN | apply Kd.R_drew)); exact HO_7.out⟩, ⟨by repeat (first | (with_reducible first | exact HB.out | apply below_alloc | apply pw_below_drewN | apply below_drew1) | exact HB.out)⟩⟩
                        ·replace c31 := Bool.eq_false_iff.mpr c31; subst c31; have H1 : (if (rd (rd_L1 l0 x8_2) x9_3) < (x7_3.length : Int) then (r7_Frontier.l2 kj11 l0 t275 x4_1 x5_1 x6_1 (x7_3.set ((rd (rd_L1 l0 x8_2) x9_3) : Int).toNat true) x8_2 (wrap64 (x9_3 + 1))) else (none)) = some r := by rw [if_neg (show ¬ (false = true) by decide)] at H; exact H
                         clear H; have H := H1; clear H1; by_cases c39 : (rd (rd_L1 l0 x8_2) x9_3) < (x7_3.length : Int)
                         ·rw [if_pos c39] at H; have c39b0 : decide ((rd (rd_L1 l0 x8_2) x9_3) < (x7_3.length : Int)) = true := decide_eq_true c39
                          clear c39; obtain ⟨y299, hy299⟩ : ∃ y_ : List Bool, y_ = (x7_3.set ((rd (rd_L1 l0 x8_2) x9_3) : Int).toNat true) := ⟨_, rfl⟩; replace H : (r7_Frontier.l2 kj11 l0 t275 x4_1 x5_1 x6_1 y299 x8_2 (wrap64 (x9_3 + 1))) = some r := by first | (with_reducible first | (rw [hy299]; exact H) | exact H) | (have H2_ := (Option.bind_some _ _).symm.trans H; first | with_reducible exact H2_ | (rw [hy299]; exact H2_)) | (rw [hy299]; exact H) | exact H
                          have Ny299 := Aside0.mk hy299; clear hy299; have H' := Aside0.mk H
                          clear H; have p292 : 0 ≤ (x8_2 : Int) := of_decide_eq_true (by with_reducible assumption)
                          have q292 : x8_2 < (l0.length : Int) := of_decide_eq_true (by with_reducible assumption)
                          obtain ⟨ad292, A292_0, c292_0, e292, hx292_0, hl292_0, hi292_0⟩ := at_L1 HR0.out x8_2 p292 q292; cases e292; replace hx292_0 := (HB.out.cell (World.block_lt_of_cell? w _ hx292_0)).trans hx292_0; have HR292_0 := Aside0.mk hi292_0; have HC292_0 := Aside0.mk hl292_0; clear hi292_0 hl292_0; replace p292 := eq_true p292; replace q292 := eq_true q292; have p293 : 0 ≤ (x9_3 : Int) := of_decide_eq_true (by with_reducible assumption)
                          have q293 : x9_3 < ((rd_L1 l0 x8_2).length : Int) := of_decide_eq_true (by with_reducible assumption)
                          obtain ⟨ad293, e293, hx293_0⟩ := Kd.at_int HR292_0.out x9_3 p293 q293; cases e293; replace hx293_0 := (HB.out.cell (World.block_lt_of_cell? w _ hx293_0)).trans hx293_0; replace p293 := eq_true p293; replace q293 := eq_true q293; obtain ⟨Ao41, co41, eo41⟩ := Kd.S_slice HO_3.out; subst eo41; have p294 : 0 ≤ (x6_1 : Int) := of_decide_eq_true (by with_reducible assumption)
                          have q294 : x6_1 < (t275.length : Int) := of_decide_eq_true (by with_reducible assumption)
                          obtain ⟨ad294, A294_0, c294_0, e294, hx294_0, hl294_0, hi294_0⟩ := at_L3 (Kd.S_reads' HO_3.out).2.2 x6_1 p294 q294; cases e294; obtain ⟨ce294, hce294, hMe294, hcc294⟩ := Kd.S_get HO_3.out [] x6_1 p294 (by first | exact q294 | exact of_decide_eq_true (by with_reducible assumption) | (have e_ := (Kd.S_reads' HO_3.out).1; omega))
                          obtain ⟨ve294_0, rfl, ge294_0⟩ := hMe294; have hv294_0 := hcc294 0 _ rfl; rw [Nat.add_zero, show ((Kd.slice 4 Kd.bool)).sz = 1 from rfl, Nat.mul_one] at hv294_0; replace hv294_0 := Option.some.inj (hv294_0.symm.trans hx294_0); rw [hv294_0] at ge294_0; have HL294_0 := Aside0.mk (show Kd.R Kd.bool 4 _ _ _ _ (rd_L3 t275 x6_1) from ge294_0); clear hv294_0 ge294_0; clear hcc294 hce294; have HR294_0 := Aside0.mk hi294_0; have HC294_0 := Aside0.mk hl294_0; clear hi294_0 hl294_0; replace p294 := eq_true p294; replace q294 := eq_true q294; have p295 : 0 ≤ (x8_2 : Int) := of_decide_eq_true (by with_reducible assumption)
                          have q295 : x8_2 < ((rd_L3 t275 x6_1).length : Int) := of_decide_eq_true (by with_reducible assumption)
                          obtain ⟨ad295, e295, hx295_0⟩ := Kd.at_bool (by repeat (first | (with_reducible exact HR294_0.out) | with_reducible first | refine Kd.C_alloc ?_ _ | refine Kd.C_drewN ?_ _ | refine Kd.C_drew ?_ | exact HR294_0.out)) x8_2 p295 q295
                          (try rw [← Nbq26.out] at hx295_0)
                          (try rw [← Nbq30.out] at hx295_0)
                          cases e295; replace p295 := eq_true p295; replace q295 := eq_true q295; have p296 : 0 ≤ (x6_1 : Int) := of_decide_eq_true (by with_reducible assumption)
                          have q296 : x6_1 < (t275.length : Int) := of_decide_eq_true (by with_reducible assumption)
                          obtain ⟨ad296, A296_0, c296_0, e296, hx296_0, hl296_0, hi296_0⟩ := at_L3 (Kd.S_reads' HO_3.out).2.2 x6_1 p296 q296; obtain rfl : ad294 = ad296 := (by injection e296)
                          obtain ⟨ce296, hce296, hMe296, hcc296⟩ := Kd.S_get HO_3.out [] x6_1 p296 (by first | exact q296 | exact of_decide_eq_true (by with_reducible assumption) | (have e_ := (Kd.S_reads' HO_3.out).1; omega))
                          obtain ⟨ve296_0, rfl, ge296_0⟩ := hMe296; have hv296_0 := hcc296 0 _ rfl; rw [Nat.add_zero, show ((Kd.slice 4 Kd.bool)).sz = 1 from rfl, Nat.mul_one] at hv296_0; replace hv296_0 := Option.some.inj (hv296_0.symm.trans hx296_0); rw [hv296_0] at ge296_0; have HL296_0 := Aside0.mk (show Kd.R Kd.bool 4 _ _ _ _ (rd_L3 t275 x6_1) from ge296_0); clear hv296_0 ge296_0; clear hcc296 hce296; have HR296_0 := Aside0.mk hi296_0; have HC296_0 := Aside0.mk hl296_0; clear hi296_0 hl296_0; replace p296 := eq_true p296; replace q296 := eq_true q296; have ea_ := Option.some.inj (hx294_0.symm.trans hx296_0); injection ea_ with ea_ en_ ec_
                          subst ea_; subst ec_; clear en_; have p297 : 0 ≤ ((rd (rd_L1 l0 x8_2) x9_3) : Int) := of_decide_eq_true (by with_reducible assumption)
                          have q297 : (rd (rd_L1 l0 x8_2) x9_3) < ((rd_L3 t275 x6_1).length : Int) := of_decide_eq_true (by with_reducible assumption)
                          obtain ⟨ad297, e297, hx297_0⟩ := Kd.at_bool (by repeat (first | (with_reducible exact HR296_0.out) | with_reducible first | refine Kd.C_alloc ?_ _ | refine Kd.C_drewN ?_ _ | refine Kd.C_drew ?_ | exact HR296_0.out)) (rd (rd_L1 l0 x8_2) x9_3) p297 q297
                          (try rw [← Nbq26.out] at hx297_0)
                          (try rw [← Nbq30.out] at hx297_0)
                          cases e297; replace p297 := eq_true p297; replace q297 := eq_true q297; have p40 : 0 ≤ ((rd (rd_L1 l0 x8_2) x9_3) : Int) := of_decide_eq_true (by with_reducible assumption)
                          have q40 : ((rd (rd_L1 l0 x8_2) x9_3) : Int) < ((x7_3.length : Int) : Int) := of_decide_eq_true (by with_reducible assumption)
                          obtain ⟨go40, co40, eo40, gb40, gl40, cl40, HG40⟩ := Kd.R_form HO_7.out (by omega)
                          (first | cases eo40 | (injection eo40 with ea_ en_ ec_; (first | subst ea_ | (injection ea_ with ea_; subst ea_)); subst ec_; clear en_))
                          have GB40 := Aside0.mk gb40; have GG40 := Aside0.mk HG40; clear gb40 gl40 HG40; obtain ⟨hx40_0, hf40_0⟩ := Kd.R_celln false HO_7.out ((rd (rd_L1 l0 x8_2) x9_3) : Int) p40 q40; replace p40 := eq_true p40; replace q40 := eq_true q40; have HP42 := Kd.R_putg HO_7.out ((rd (rd_L1 l0 x8_2) x9_3) : Int) true; go_wp2_with (first | ((with_reducible refine gate_store (t := 4) (p := 76) rfl ?_); refine store_event (t := 4) (p := 76) (v := ?vo_w43) (w1 := (wc.setCell ⟨go40, ((rd (rd_L1 l0 x8_2) x9_3) : Int).toNat, none⟩ (.bool true))) ?hg ?ho ?hn ?hr ?_; (case ho => rfl); (case hg => rfl); (case hn => rfl); (case hr => first | (go_simp; done) | (go_simp; rfl)); intro w43 hw; have hg : wc.grownBy w43 (some go40) := (by rw [hw]; exact HP42.2); have hp_ : Kd.R Kd.bool 4 w43 w.heap.size (fun k_ => some k_ ≠ (v279 : Value).ownBlock) (.slice (some ⟨go40, 0, none⟩) x7_3.length co40) y299 := (by rw [hw, Ny299.out]; exact HP42.1); clear HP42; have n0_ := Aside0.mk (Kd.S_after (v := (.slice (some ⟨go40, 0, none⟩) x7_3.length co40)) (v1 := (.slice (some ⟨go40, 0, none⟩) x7_3.length co40)) (ok := (fun k_ => some k_ ≠ (v279 : Value).ownBlock)) (by (with_reducible repeat (first | apply Kd.S_alloc | apply Kd.S_drewN | apply Kd.S_drew)); exact HO_3.out) hg (.inl rfl)); have n1_ := Aside0.mk (Kd.R_after (v := (.slice (some ⟨go40, 0, none⟩) x7_3.length co40)) (v1 := (.slice (some ⟨go40, 0, none⟩) x7_3.length co40)) (ok := (fun _ => True)) (by (with_reducible repeat (first | apply Kd.R_alloc | apply Kd.R_drewN | apply Kd.R_drew)); exact Kd.R_mono HO_4.out (fun _ hk => ⟨trivial, hk⟩)) hg (.inl rfl)); have n2_ := Aside0.mk (Kd.S_over' (v := (.slice (some ⟨go40, 0, none⟩) x7_3.length co40)) (by (with_reducible repeat (first | apply Kd.S_alloc | apply Kd.S_drewN | apply Kd.S_drew)); exact HO_5.out) (Kd.R_typed HO_7.out) (by decide) hg); have n3_ := Aside0.mk (hp_); have n4_ := Aside0.mk (Kd.R_after (v := (.slice (some ⟨go40, 0, none⟩) x7_3.length co40)) (v1 := (.slice (some ⟨go40, 0, none⟩) x7_3.length co40)) (ok := (fun k_ => some k_ ≠ (.slice (some ad294) t275.length co41 : Value).ownBlock ∧ some k_ ≠ (v279 : Value).ownBlock)) (by (with_reducible repeat (first | apply Kd.R_alloc | apply Kd.R_drewN | apply Kd.R_drew)); exact Kd.R_mono HL294_0.out (fun _ hk => ⟨⟨hk.2, hk.1.1⟩, hk.1.2⟩)) hg (.inl rfl)); have n5_ := Aside0.mk (Kd.R_after (v := (.slice (some ⟨go40, 0, none⟩) x7_3.length co40)) (v1 := (.slice (some ⟨go40, 0, none⟩) x7_3.length co40)) (ok := (fun k_ => some k_ ≠ (.slice (some ad294) t275.length co41 : Value).ownBlock ∧ some k_ ≠ (v279 : Value).ownBlock)) (by (with_reducible repeat (first | apply Kd.R_alloc | apply Kd.R_drewN | apply Kd.R_drew)); exact Kd.R_mono HL296_0.out (fun _ hk => ⟨⟨hk.2, hk.1.1⟩, hk.1.2⟩)) hg (.inl rfl)); have n6_ := Aside0.mk ((by rw [hw]; exact below_set (HB.out) GB40.out : Below w.heap.size w w43)); clear HO_3; clear HO_4; clear HO_5; clear HO_7; clear HL294_0; clear HL296_0; clear HB; have HO_3 := n0_; have HO_4 := n1_; have HO_5 := n2_; have HO_7 := n3_; have HL294_0 := n4_; have HL296_0 := n5_; have HB := n6_; clear n0_ n1_ n2_ n3_ n4_ n5_ n6_; clear hg hw hp_))
                          go_roundg kj11
                          case measure => have := HK1.out; have := HK2.out; have := HK3.out; have := HJ11.out; omega
                          case rel => exact ⟨(y299), (wrap64 (x9_3 + 1)), (by first | rfl | (simp; done) | (simp [*]; done)), H', ⟨by have := HK1.out; have := HK2.out; have := HK3.out; have := HJ11.out; omega⟩, ⟨by (with_reducible repeat (first | apply Kd.S_alloc | apply Kd.S_drewN | apply Kd.S_drew)); exact HO_3.out⟩, ⟨by (with_reducible repeat (first | apply Kd.R_alloc | apply Kd.R_drewN | apply Kd.R_drew)); exact Kd.R_mono HO_4.out (fun _ hk => hk.2)⟩, ⟨by (with_reducible repeat (first | apply Kd.S_alloc | apply Kd.S_drewN | apply Kd.S_drew)); exact HO_5.out⟩, ⟨by (with_reducible repeat (first | apply Kd.R_alloc | apply Kd.R_drewN | apply Kd.R_drew)); exact HO_7.out⟩, ⟨by repeat (first | (with_reducible first | exact HB.out | apply below_alloc | apply pw_below_drewN | apply below_drew1) | exact HB.out)⟩⟩
                         ·rw [if_neg c39] at H; exact absurd H (by simp)
                       ·rw [if_neg c29] at H; exact absurd H (by simp)
                      ·rw [if_neg c28] at H; exact absurd H (by simp)
                     ·replace c27 := Bool.eq_false_iff.mpr c27; subst c27; have H1 : (r7_Frontier.l2 kj11 l0 t275 x4_1 x5_1 x6_1 x7_3 x8_2 (wrap64 (x9_3 + 1))) = some r := by rw [if_neg (show ¬ (false = true) by decide)] at H; exact H
                      clear H; have H := H1; clear H1; have H' := Aside0.mk H
                      clear H; have p292 : 0 ≤ (x8_2 : Int) := of_decide_eq_true (by with_reducible assumption)
                      have q292 : x8_2 < (l0.length : Int) := of_decide_eq_true (by with_reducible assumption)
                      obtain ⟨ad292, A292_0, c292_0, e292, hx292_0, hl292_0, hi292_0⟩ := at_L1 HR0.out x8_2 p292 q292; cases e292; replace hx292_0 := (HB.out.cell (World.block_lt_of_cell? w _ hx292_0)).trans hx292_0; have HR292_0 := Aside0.mk hi292_0; have HC292_0 := Aside0.mk hl292_0; clear hi292_0 hl292_0; replace p292 := eq_true p292; replace q292 := eq_true q292; have p293 : 0 ≤ (x9_3 : Int) := of_decide_eq_true (by with_reducible assumption)
                      have q293 : x9_3 < ((rd_L1 l0 x8_2).length : Int) := of_decide_eq_true (by with_reducible assumption)
                      obtain ⟨ad293, e293, hx293_0⟩ := Kd.at_int HR292_0.out x9_3 p293 q293; cases e293; replace hx293_0 := (HB.out.cell (World.block_lt_of_cell? w _ hx293_0)).trans hx293_0; replace p293 := eq_true p293; replace q293 := eq_true q293; obtain ⟨Ao44, co44, eo44⟩ := Kd.S_slice HO_3.out; subst eo44; have p294 : 0 ≤ (x6_1 : Int) := of_decide_eq_true (by with_reducible assumption)
                      have q294 : x6_1 < (t275.length : Int) := of_decide_eq_true (by with_reducible assumption)
                      obtain ⟨ad294, A294_0, c294_0, e294, hx294_0, hl294_0, hi294_0⟩ := at_L3 (Kd.S_reads' HO_3.out).2.2 x6_1 p294 q294; cases e294; obtain ⟨ce294, hce294, hMe294, hcc294⟩ := Kd.S_get HO_3.out [] x6_1 p294 (by first | exact q294 | exact of_decide_eq_true (by with_reducible assumption) | (have e_ := (Kd.S_reads' HO_3.out).1; omega))
                      obtain ⟨ve294_0, rfl, ge294_0⟩ := hMe294; have hv294_0 := hcc294 0 _ rfl; rw [Nat.add_zero, show ((Kd.slice 4 Kd.bool)).sz = 1 from rfl, Nat.mul_one] at hv294_0; replace hv294_0 := Option.some.inj (hv294_0.symm.trans hx294_0); rw [hv294_0] at ge294_0; have HL294_0 := Aside0.mk (show Kd.R Kd.bool 4 _ _ _ _ (rd_L3 t275 x6_1) from ge294_0); clear hv294_0 ge294_0; clear hcc294 hce294; have HR294_0 := Aside0.mk hi294_0; have HC294_0 := Aside0.mk hl294_0; clear hi294_0 hl294_0; replace p294 := eq_true p294; replace q294 := eq_true q294; have p295 : 0 ≤ (x8_2 : Int) := of_decide_eq_true (by with_reducible assumption)
                      have q295 : x8_2 < ((rd_L3 t275 x6_1).length : Int) := of_decide_eq_true (by with_reducible assumption)
                      obtain ⟨ad295, e295, hx295_0⟩ := Kd.at_bool (by repeat (first | (with_reducible exact HR294_0.out) | with_reducible first | refine Kd.C_alloc ?_ _ | refine Kd.C_drewN ?_ _ | refine Kd.C_drew ?_ | exact HR294_0.out)) x8_2 p295 q295
                      (try rw [← Nbq26.out] at hx295_0)
                      cases e295; replace p295 := eq_true p295; replace q295 := eq_true q295; go_wp2
                      go_roundg kj11
                      case measure => have := HK1.out; have := HK2.out; have := HK3.out; have := HJ11.out; omega
                      case rel => exact ⟨(x7_3), (wrap64 (x9_3 + 1)), (by first | rfl | (simp; done) | (simp [*]; done)), H', ⟨by have := HK1.out; have := HK2.out; have := HK3.out; have := HJ11.out; omega⟩, ⟨by (with_reducible repeat (first | apply Kd.S_alloc | apply Kd.S_drewN | apply Kd.S_drew)); exact HO_3.out⟩, ⟨by (with_reducible repeat (first | apply Kd.R_alloc | apply Kd.R_drewN | apply Kd.R_drew)); exact HO_4.out⟩, ⟨by (with_reducible repeat (first | apply Kd.S_alloc | apply Kd.S_drewN | apply Kd.S_drew)); exact HO_5.out⟩, ⟨by (with_reducible repeat (first | apply Kd.R_alloc | apply Kd.R_drewN | apply Kd.R_drew)); exact HO_7.out⟩, ⟨by repeat (first | (with_reducible first | exact HB.out | apply below_alloc | apply pw_below_drewN | apply below_drew1) | exact HB.out)⟩⟩
                    ·rw [if_neg c25] at H; exact absurd H (by simp)
                   ·rw [if_neg c24] at H; exact absurd H (by simp)
                  ·rw [if_neg c23] at H; exact absurd H (by simp)
                 ·rw [if_neg c22] at H; exact absurd H (by simp)
                ·rw [if_neg c21] at H; exact absurd H (by simp)
               ·rw [if_neg c20] at H; exact absurd H (by simp)
              ·rw [if_neg c19] at H; exact absurd H (by simp)
             ·replace c18 := Bool.eq_false_iff.mpr c18; subst c18; have H1 : (r7_Frontier.l1 kj11 l0 t275 x4_1 x5_1 x6_1 x7_3 (wrap64 (x8_2 + 1))) = some r := by rw [if_neg (show ¬ (false = true) by decide)] at H; exact H
              clear H; have H := H1; clear H1; have H' := Aside0.mk H
              clear H; go_wp2
              go_roundg kj11
              case measure => have := HK1.out; have := HK2.out; have := HK3.out; have := HJ11.out; omega
              case rel => exact ⟨(x7_3), (wrap64 (x8_2 + 1)), (by first | rfl | (simp; done) | (simp [*]; done)), H', ⟨by have := HK1.out; have := HK2.out; have := HK3.out; have := HJ11.out; omega⟩, ⟨by (with_reducible repeat (first | apply Kd.S_alloc | apply Kd.S_drewN | apply Kd.S_drew)); exact HO_3.out⟩, ⟨by (with_reducible repeat (first | apply Kd.R_alloc | apply Kd.R_drewN | apply Kd.R_drew)); exact HO_4.out⟩, ⟨by (with_reducible repeat (first | apply Kd.S_alloc | apply Kd.S_drewN | apply Kd.S_drew)); exact HO_5.out⟩, ⟨by (with_reducible repeat (first | apply Kd.R_alloc | apply Kd.R_drewN | apply Kd.R_drew)); exact HO_7.out⟩, ⟨by repeat (first | (with_reducible first | exact HB.out | apply below_alloc | apply pw_below_drewN | apply below_drew1) | exact HB.out)⟩⟩
        ·rw [if_neg c11] at H; have c11b0 : decide (x8_2 < (l0.length : Int)) = false := decide_eq_false c11
         clear c11; replace H := Option.bind_eq_some_iff.mp H; obtain ⟨t284, A450, H⟩ := H; replace H : (if x5_1.length < 5864062014805 then (r7_Frontier.l0 k2 l0 t275 x4_1 (x5_1 ++ [t284]) (wrap64 (x6_1 + 1))) else (none)) = some r := H
         have A45 := Aside0.mk A450; clear A450; by_cases c46 : x5_1.length < 5864062014805
         ·rw [if_pos c46] at H; have LMc46 := Aside0.mk c46; clear c46; obtain ⟨y287, hy287⟩ : ∃ y_ : List (List Int), y_ = (x5_1 ++ [t284]) := ⟨_, rfl⟩; replace H : (r7_Frontier.l0 k2 l0 t275 x4_1 y287 (wrap64 (x6_1 + 1))) = some r := by first | (with_reducible first | (rw [hy287]; exact H) | exact H) | (have H2_ := (Option.bind_some _ _).symm.trans H; first | with_reducible exact H2_ | (rw [hy287]; exact H2_)) | (rw [hy287]; exact H) | exact H
          have Ny287 := Aside0.mk hy287; clear hy287; have H' := Aside0.mk H
          clear H; obtain ⟨Ao47, co47, eo47⟩ := Kd.R_slice HO_7.out; subst eo47; go_wp2_with (first | ((with_reducible refine gate_callee (f := 58) rfl ?_); refine goesL_ (some 79) rfl rfl Try.func58 (by kernel_rfl) rfl #[.slice Ao47 x7_2.length co47] rfl (by (try simp only [List.map_toArray, List.map_cons, List.map_nil]); first | done | rfl | (simp only [List.length_drop, List.length_take]; rfl)) ?_; (with_reducible refine (r7_rising.calls k2 _ _ x7_2 t284 _ ?side1 ?side2 A45.out).mono ?_); (case side1 => repeat (first | exact (Kd.R_reads' HO_7.out).2.2 | with_reducible first | refine Kd.C_alloc ?_ _ | refine Kd.C_drewN ?_ _ | refine Kd.C_drew ?_)); (case side2 => exact (Kd.R_reads' HO_7.out).2.1); rintro e w48 ⟨v285, rfl, ho0, hb⟩; refine ⟨_, rfl, ?_⟩; have n0_ := Aside0.mk (Kd.S_below (by (with_reducible repeat (first | apply Kd.S_alloc | apply Kd.S_drewN | apply Kd.S_drew)); exact HO_3.out) hb); have n1_ := Aside0.mk (Kd.R_below (by (with_reducible repeat (first | apply Kd.R_alloc | apply Kd.R_drewN | apply Kd.R_drew)); exact HO_4.out) hb); have n2_ := Aside0.mk (Kd.S_elder' (by (with_reducible repeat (first | apply Kd.S_alloc | apply Kd.S_drewN | apply Kd.S_drew)); exact HO_5.out) (Kd.R_base ho0) hb); have n3_ := Aside0.mk (Kd.R_below (by (with_reducible repeat (first | apply Kd.R_alloc | apply Kd.R_drewN | apply Kd.R_drew)); exact HO_7.out) hb); have n4_ := Aside0.mk (Kd.R_lower ho0 (below_size (by repeat (first | (with_reducible first | exact HB.out | apply below_alloc | apply pw_below_drewN | apply below_drew1) | exact HB.out)))); have n5_ := Aside0.mk (below_step (by repeat (first | (with_reducible first | exact HB.out | apply below_alloc | apply pw_below_drewN | apply below_drew1) | exact HB.out)) hb); clear HO_3; clear HO_4; clear HO_5; clear HO_7; clear HB; have HO_3 := n0_; have HO_4 := n1_; have HO_5 := n2_; have HO_7 := n3_; have HO286 := n4_; have HB := n5_; clear n0_ n1_ n2_ n3_ n4_ n5_; (try clear hb); (try clear hb2); (try clear hk); (try clear hi); (try clear ho0); obtain ⟨Ao50, co50, eo50⟩ := Kd.R_slice HO286.out; subst eo50) | ((with_reducible refine gate_builtin (b := .append) (xs := #[.tmp 77, .tmp 80]) rfl ?_); at_builtin; refine Kd.S_append (Kd.slice 3 (Kd.int .i64)) (w0 := w) w.heap.size rfl (.tmp 77) (.tmp 80) 22 33 (.slice none 0 0) 24 rfl Try.underlying22 info33 rfl (by decide) (by omega) u5 x5_1 t284 [.slice Ao50 t284.length co50] (fun _ => True) (fun k_ => some k_ = (.slice Ao50 t284.length co50 : Value).ownBlock) rfl rfl ?aP (fun k_ hk_ => ((Kd.R_mono (ok' := fun k_ => ((fun _ => True)) k_ ∧ some k_ ≠ (u5 : Value).ownBlock) (Kd.R_apart' (HO286.out) (Kd.S_typed HO_5.out) (by decide)) (fun k_ hk => ⟨trivial, hk.2⟩))).1 k_ hk_.symm) ?aF ?aO ?aB ?aS ?aL ?_; (case aP => exact Kd.M_row (Kd.R_mono (Kd.R_tight rfl (Kd.R_mono (ok' := fun k_ => ((fun _ => True)) k_ ∧ some k_ ≠ (u5 : Value).ownBlock) (Kd.R_apart' (HO286.out) (Kd.S_typed HO_5.out) (by decide)) (fun k_ hk => ⟨trivial, hk.2⟩))) (fun _ h_ => h_))); (case aB => exact (by repeat (first | (with_reducible first | exact HB.out | apply below_alloc | apply pw_below_drewN | apply below_drew1) | exact HB.out))); (case aF => exact (fun _ _ => trivial)); (case aO => exact (by (with_reducible repeat (first | apply Kd.S_alloc | apply Kd.S_drewN | apply Kd.S_drew)); exact Kd.S_mono HO_5.out (fun k_ hk => ⟨trivial, fun e_ => hk.2 e_⟩))); (case aS => exact (below_size (by repeat (first | (with_reducible first | exact HB.out | apply below_alloc | apply pw_below_drewN | apply below_drew1) | exact HB.out)))); (case aL => have := LMc46.out; omega); intro v288 w49 ho hb hg hat; rw [← Ny287.out] at ho; have n0_ := Aside0.mk (Kd.S_over' (by (with_reducible repeat (first | apply Kd.S_alloc | apply Kd.S_drewN | apply Kd.S_drew)); exact HO_3.out) (Kd.S_typed (by (with_reducible repeat (first | apply Kd.S_alloc | apply Kd.S_drewN | apply Kd.S_drew)); exact HO_5.out)) (by decide) hg); have n1_ := Aside0.mk (Kd.R_over' (by (with_reducible repeat (first | apply Kd.R_alloc | apply Kd.R_drewN | apply Kd.R_drew)); exact HO_4.out) (Kd.S_typed (by (with_reducible repeat (first | apply Kd.S_alloc | apply Kd.S_drewN | apply Kd.S_drew)); exact HO_5.out)) (by decide) hg); have n2_ := Aside0.mk (Kd.R_over' (by (with_reducible repeat (first | apply Kd.R_alloc | apply Kd.R_drewN | apply Kd.R_drew)); exact HO_7.out) (Kd.S_typed (by (with_reducible repeat (first | apply Kd.S_alloc | apply Kd.S_drewN | apply Kd.S_drew)); exact HO_5.out)) (by decide) hg); have n3_ := Aside0.mk (hb); have n4_ := Aside0.mk (ho); clear HO_3; clear HO_4; clear HO_7; clear HB; clear HO_5; clear HO286; have HO_3 := n0_; have HO_4 := n1_; have HO_7 := n2_; have HB := n3_; have HO289 := n4_; clear n0_ n1_ n2_ n3_ n4_; clear ho hb hg hat))
          go_roundg k2
          case measure => have := HK1.out; have := HK2.out; omega
          case rel => exact ⟨(x4_1), (y287), (wrap64 (x6_1 + 1)), (by first | rfl | (simp; done) | (simp [*]; done)), H', ⟨by have := HK1.out; have := HK2.out; omega⟩, ⟨by (with_reducible repeat (first | apply Kd.S_alloc | apply Kd.S_drewN | apply Kd.S_drew)); exact Kd.S_mono HO_3.out (fun _ hk => hk.1)⟩, ⟨by (with_reducible repeat (first | apply Kd.R_alloc | apply Kd.R_drewN | apply Kd.R_drew)); exact Kd.R_mono HO_4.out (fun _ hk => trivial)⟩, ⟨by (with_reducible repeat (first | apply Kd.S_alloc | apply Kd.S_drewN | apply Kd.S_drew)); exact HO289.out⟩, ⟨by repeat (first | (with_reducible first | exact HB.out | apply below_alloc | apply pw_below_drewN | apply below_drew1) | exact HB.out)⟩⟩
         ·rw [if_neg c46] at H; exact absurd H (by simp)
     ·rw [if_neg c8] at H; exact absurd H (by simp)
    ·rw [if_neg c7] at H; exact absurd H (by simp)
   ·rw [if_neg c6] at H; have c6b0 : decide (x6_1 < (l0.length : Int)) = false := decide_eq_false c6
    clear c6; obtain rfl := Option.some.inj H; go_wp2
    go_ret
    exact ⟨_, by first | rfl | (simp [errW_none, errW_some] <;> rfl) | (simp [*, errW_none, errW_some] <;> rfl), by (with_reducible repeat (first | apply Kd.S_alloc | apply Kd.S_drewN | apply Kd.S_drew)); exact HO_5.out, by repeat (first | (with_reducible first | exact HB.out | apply below_alloc | apply pw_below_drewN | apply below_drew1) | exact HB.out)⟩
end Go.Proofs.Ytjjedbcgkljdeaa.A
end
section
namespace Go.Proofs.Ytjjedbcgkljdeaa.A
open Go.RowKit Go.Proofs.YtjjedbcgkljdeaaW.PrintWords Go.Proofs.YtjjedbcgkljdeaaW.PrintLast Go.Proofs.YtjjedbcgkljdeaaW.PrintMore
set_option linter.unusedVariables false
set_option linter.unusedSimpArgs false
mutual
def r7_Backs.l0 : Nat → List (List Int) → List (List Bool) → List (List Int) → Int → Option ((List (List Int)))
 | 0, _, _, _, _ => none
 | k + 1, x0, x3, x4, x5 => if x5 < (x0.length : Int) then (r7_Backs.l1 k x0 x3 x4 x5 0) else (some x4)
def r7_Backs.l1 : Nat → List (List Int) → List (List Bool) → List (List Int) → Int → Int → Option ((List (List Int)))
 | 0, _, _, _, _, _ => none
 | k + 1, x0, x3, x4, x5, x6 => if 0 ≤ x5 then (if x5 < (x0.length : Int) then (if x6 < ((rd_L1 x0 x5).length : Int) then (if 0 ≤ x6 then (if 0 ≤ (rd (rd_L1 x0 x5) x6) then (if (rd (rd_L1 x0 x5) x6) < (x3.length : Int) then (if x5 < ((rd_L3 x3 (rd (rd_L1 x0 x5) x6)).length : Int) then (if rdOf false (rd_L3 x3 (rd (rd_L1 x0 x5) x6)) x5 = true then (if (rd (rd_L1 x0 x5) x6) < (x4.length : Int) then (if (rd_L1 x4 (rd (rd_L1 x0 x5) x6)).length < 17592186044416 then (r7_Backs.l1 k x0 x3 (x4.set ((rd (rd_L1 x0 x5) x6) : Int).toNat ((rd_L1 x4 (rd (rd_L1 x0 x5) x6)) ++ [x5])) x5 (wrap64 (x6 + 1))) else (none)) else (none)) else (r7_Backs.l1 k x0 x3 x4 x5 (wrap64 (x6 + 1)))) else (none)) else (none)) else (none)) else (none)) else (r7_Backs.l0 k x0 x3 x4 (wrap64 (x5 + 1)))) else (none)) else (none)
end
def r7_Backs.f (k : Nat) (l0 : List (List Int)) : Option ((List (List Int))) := (r7_Table.f k l0).bind fun t300 => (if 0 ≤ (l0.length : Int) then (if ((l0.length : Int) : Int).toNat ≤ 11728124029610 then (r7_Backs.l0 k l0 t300 (List.replicate ((l0.length : Int) : Int).toNat []) 0) else (none)) else (none))
set_option maxHeartbeats 8000000 in
set_option maxRecDepth 100000 in
theorem r7_Backs.calls (k : Nat) (A0 : Option Addr) (c0 : Nat) (l0 : List (List Int)) (r : List (List Int)) (w : World) (hr0 : Kd.C (Kd.slice 3 (Kd.int .i64)) w A0 l0.length l0) (hc0 : l0.length ≤ c0) (h : r7_Backs.f k l0 = some r) :
  Calls Try.prog 59 #[.slice A0 l0.length c0] w fun e w' => ∃ v0_ : Value, e = .returned (v0_) ∧ Kd.S (Kd.slice 3 (Kd.int .i64)) 33 w' w.heap.size (fun _ => True) v0_ r ∧ Below w.heap.size w w' := by
 have HR0 := Aside0.mk hr0; have HC0 := Aside0.mk hc0; clear hr0 hc0; have HB := Aside0.mk (Below.refl w.heap.size w); have H : ((r7_Table.f k l0).bind fun t300 => (if 0 ≤ (l0.length : Int) then (if ((l0.length : Int) : Int).toNat ≤ 11728124029610 then (r7_Backs.l0 k l0 t300 (List.replicate ((l0.length : Int) : Int).toNat []) 0) else (none)) else (none))) = some r := h
 clear h; replace H := Option.bind_eq_some_iff.mp H; obtain ⟨t300, A20, H⟩ := H; replace H : (if 0 ≤ (l0.length : Int) then (if ((l0.length : Int) : Int).toNat ≤ 11728124029610 then (r7_Backs.l0 k l0 t300 (List.replicate ((l0.length : Int) : Int).toNat []) 0) else (none)) else (none)) = some r := H
 have A2 := Aside0.mk A20; clear A20; by_cases c3 : 0 ≤ (l0.length : Int)
 ·rw [if_pos c3] at H; have c3b0 := eq_true c3; have c3b1 : decide (0 ≤ (l0.length : Int)) = true := decide_eq_true c3
  clear c3; by_cases c4 : ((l0.length : Int) : Int).toNat ≤ 11728124029610
  ·rw [if_pos c4] at H; have c4b0 := eq_true c4; have c4b1 : decide (((l0.length : Int) : Int).toNat ≤ 11728124029610) = true := decide_eq_true c4
   clear c4; obtain ⟨y303, hy303⟩ : ∃ y_ : List (List Int), y_ = (List.replicate ((l0.length : Int) : Int).toNat []) := ⟨_, rfl⟩; replace H : (r7_Backs.l0 k l0 t300 y303 0) = some r := by first | (with_reducible first | (rw [hy303]; exact H) | exact H) | (have H2_ := (Option.bind_some _ _).symm.trans H; first | with_reducible exact H2_ | (rw [hy303]; exact H2_)) | (rw [hy303]; exact H) | exact H
   have Ny303 := Aside0.mk hy303; clear hy303; have H' := Aside0.mk H
   clear H; go_enter Try.func59, Try.ntmps59
   go_wp2_with (first | ((with_reducible refine gate_callee (f := 43) rfl ?_); refine goesL_ (some 9) rfl rfl Try.func43 (by kernel_rfl) rfl #[.slice A0 l0.length c0] rfl (by (try simp only [List.map_toArray, List.map_cons, List.map_nil]); first | done | rfl | (simp only [List.length_drop, List.length_take]; rfl)) ?_; (with_reducible refine (r7_Table.calls k _ _ l0 t300 _ ?side1 ?side2 A2.out).mono ?_); (case side1 => repeat (first | exact HR0.out | with_reducible first | refine Kd.C_alloc ?_ _ | refine Kd.C_drewN ?_ _ | refine Kd.C_drew ?_)); (case side2 => exact HC0.out); rintro e w5 ⟨v301, rfl, ho0, hb⟩; refine ⟨_, rfl, ?_⟩; have n0_ := Aside0.mk (Kd.S_lower ho0 (below_size (by repeat (first | (with_reducible first | exact HB.out | apply below_alloc | apply pw_below_drewN | apply below_drew1) | exact HB.out)))); have n1_ := Aside0.mk (below_step (by repeat (first | (with_reducible first | exact HB.out | apply below_alloc | apply pw_below_drewN | apply below_drew1) | exact HB.out)) hb); clear HB; have HO302 := n0_; have HB := n1_; clear n0_ n1_; (try clear hb); (try clear hb2); (try clear hk); (try clear hi); (try clear ho0)) | ((with_reducible refine gate_dst (N := 12) rfl ?_); refine Kd.S_make (Kd.slice 3 (Kd.int .i64)) _ 33 rfl (N := 12) rfl 22 _ _ rfl (l0.length : Int) rfl rfl Try.underlying22 (.slice none 0 0) 24 info33 rfl (by decide) (by omega) [] (ok := fun _ => True) (okp := fun _ => True) ⟨_, rfl, Kd.R_nil _ _ _ _ _⟩ (fun _ hk => hk) trivial (of_decide_eq_true (by with_reducible assumption)) (Nat.le_trans (Nat.mul_le_mul_right _ (of_decide_eq_true (by with_reducible assumption) : (l0.length : Int).toNat ≤ 11728124029610)) (by omega)) (Below.refl _ _) (Nat.le_refl _) ?_; intro v304 w6 ho7 hb hg_ hnew_; clear hg_ hnew_; (first | rw [← Ny303.out] at ho7 | (simp only [Int.reduceToNat] at ho7; rw [← Ny303.out] at ho7)); have n0_ := Aside0.mk (Kd.S_below (by (with_reducible repeat (first | apply Kd.S_alloc | apply Kd.S_drewN | apply Kd.S_drew)); exact HO302.out) hb); have n1_ := Aside0.mk (Kd.S_lower ho7 (below_size (by repeat (first | (with_reducible first | exact HB.out | apply below_alloc | apply pw_below_drewN | apply below_drew1) | exact HB.out)))); have n2_ := Aside0.mk (below_step (by repeat (first | (with_reducible first | exact HB.out | apply below_alloc | apply pw_below_drewN | apply below_drew1) | exact HB.out)) hb); clear HO302; clear HB; have HO302 := n0_; have HO305 := n1_; have HB := n2_; clear n0_ n1_ n2_; clear hb ho7))
   go_loopg [5] k (fun kq v5 w' => ∃ (x4_1 : List (List Int)) (x5_1 : Int), v5 = .int .i64 x5_1 ∧ Aside0 (r7_Backs.l0 kq l0 t300 x4_1 x5_1 = some r) ∧ Aside0 (kq ≤ k) ∧ Aside0 (Kd.S (Kd.slice 4 Kd.bool) 46 w' w.heap.size (fun _ => True) v301 t300) ∧ Aside0 (Kd.S (Kd.slice 3 (Kd.int .i64)) 33 w' w.heap.size (fun _ => True) v304 x4_1) ∧ Aside0 (Below w.heap.size w w'))
   case atStart => exact ⟨(y303), (0), (by first | rfl | (simp; done) | (simp [*]; done)), H', ⟨Nat.le_refl _⟩, ⟨by (with_reducible repeat (first | apply Kd.S_alloc | apply Kd.S_drewN | apply Kd.S_drew)); exact HO302.out⟩, ⟨by (with_reducible repeat (first | apply Kd.S_alloc | apply Kd.S_drewN | apply Kd.S_drew)); exact HO305.out⟩, ⟨by repeat (first | (with_reducible first | exact HB.out | apply below_alloc | apply pw_below_drewN | apply below_drew1) | exact HB.out)⟩⟩
   case round =>
    clear H'; try clear p2
    try clear c3
    try clear c3b0
    try clear c3b1
    try clear c4
    try clear c4b0
    try clear c4b1
    try clear c5
    obtain ⟨x4_1, x5_1, rfl, HA, HK1, HO_3, HO_4, HB⟩ := hrel; cases gk with
    | zero => exact absurd HA.out (by simp [r7_Backs.l0])
    | succ k1 =>
     have H := HA.out; clear HA; simp only [r7_Backs.l0] at H
     by_cases c8 : x5_1 < (l0.length : Int)
     ·rw [if_pos c8] at H; have c8b0 : decide (x5_1 < (l0.length : Int)) = true := decide_eq_true c8
      clear c8; have H' := Aside0.mk H
      clear H; go_wp2
      go_loopg [6] k1 (fun kq v6 w' => ∃ (x4_2 : List (List Int)) (x6_2 : Int), v6 = .int .i64 x6_2 ∧ Aside0 (r7_Backs.l1 kq l0 t300 x4_2 x5_1 x6_2 = some r) ∧ Aside0 (kq ≤ k1) ∧ Aside0 (Kd.S (Kd.slice 4 Kd.bool) 46 w' w.heap.size (fun _ => True) v301 t300) ∧ Aside0 (Kd.S (Kd.slice 3 (Kd.int .i64)) 33 w' w.heap.size (fun _ => True) v304 x4_2) ∧ Aside0 (Below w.heap.size w w'))
      case atStart => exact ⟨(x4_1), (0), (by first | rfl | (simp; done) | (simp [*]; done)), H', ⟨Nat.le_refl _⟩, ⟨by (with_reducible repeat (first | apply Kd.S_alloc | apply Kd.S_drewN | apply Kd.S_drew)); exact HO_3.out⟩, ⟨by (with_reducible repeat (first | apply Kd.S_alloc | apply Kd.S_drewN | apply Kd.S_drew)); exact HO_4.out⟩, ⟨by repeat (first | (with_reducible first | exact HB.out | apply below_alloc | apply pw_below_drewN | apply below_drew1) | exact HB.out)⟩⟩
      case round =>
       clear H'; try clear p2
       try clear c3
       try clear c3b0
       try clear c3b1
       try clear c4
       try clear c4b0
       try clear c4b1
       try clear c5
       try clear c8
       try clear c8b0
       try clear p2
       obtain ⟨x4_2, x6_2, rfl, HA, HK2, HO_3, HO_4, HB⟩ := hrel; cases gk with
       | zero => exact absurd HA.out (by simp [r7_Backs.l1])
       | succ k2 =>
        have H := HA.out; clear HA; simp only [r7_Backs.l1] at H
        by_cases c9 : 0 ≤ x5_1
        ·rw [if_pos c9] at H; have c9b0 : decide (0 ≤ x5_1) = true := decide_eq_true c9
         clear c9; by_cases c10 : x5_1 < (l0.length : Int)
         ·rw [if_pos c10] at H; have c10b0 : decide (x5_1 < (l0.length : Int)) = true := decide_eq_true c10
          clear c10; by_cases c11 : x6_2 < ((rd_L1 l0 x5_1).length : Int)
          ·rw [if_pos c11] at H; have c11b0 : decide (x6_2 < ((rd_L1 l0 x5_1).length : Int)) = true := decide_eq_true c11
           clear c11; by_cases c12 : 0 ≤ x6_2
           ·rw [if_pos c12] at H; have c12b0 : decide (0 ≤ x6_2) = true := decide_eq_true c12
            clear c12; by_cases c13 : 0 ≤ (rd (rd_L1 l0 x5_1) x6_2)
            ·rw [if_pos c13] at H; have c13b0 : decide (0 ≤ (rd (rd_L1 l0 x5_1) x6_2)) = true := decide_eq_true c13
             clear c13; by_cases c14 : (rd (rd_L1 l0 x5_1) x6_2) < (t300.length : Int)
             ·rw [if_pos c14] at H; have c14b0 : decide ((rd (rd_L1 l0 x5_1) x6_2) < (t300.length : Int)) = true := decide_eq_true c14
              clear c14; by_cases c15 : x5_1 < ((rd_L3 t300 (rd (rd_L1 l0 x5_1) x6_2)).length : Int)
              ·rw [if_pos c15] at H; have c15b0 : decide (x5_1 < ((rd_L3 t300 (rd (rd_L1 l0 x5_1) x6_2)).length : Int)) = true := decide_eq_true c15
               clear c15; obtain ⟨bq16, hbq16⟩ : ∃ b_ : Bool, b_ = (rdOf false (rd_L3 t300 (rd (rd_L1 l0 x5_1) x6_2)) x5_1) := ⟨_, rfl⟩; replace H : (if bq16 = true then (if (rd (rd_L1 l0 x5_1) x6_2) < (x4_2.length : Int) then (if (rd_L1 x4_2 (rd (rd_L1 l0 x5_1) x6_2)).length < 17592186044416 then (r7_Backs.l1 k2 l0 t300 (x4_2.set ((rd (rd_L1 l0 x5_1) x6_2) : Int).toNat ((rd_L1 x4_2 (rd (rd_L1 l0 x5_1) x6_2)) ++ [x5_1])) x5_1 (wrap64 (x6_2 + 1))) else (none)) else (none)) else (r7_Backs.l1 k2 l0 t300 x4_2 x5_1 (wrap64 (x6_2 + 1)))) = some r := by rw [← hbq16] at H; exact H
               have Nbq16 := Aside0.mk hbq16; clear hbq16; by_cases c17 : bq16 = true
               ·subst c17; have H1 : (if (rd (rd_L1 l0 x5_1) x6_2) < (x4_2.length : Int) then (if (rd_L1 x4_2 (rd (rd_L1 l0 x5_1) x6_2)).length < 17592186044416 then (r7_Backs.l1 k2 l0 t300 (x4_2.set ((rd (rd_L1 l0 x5_1) x6_2) : Int).toNat ((rd_L1 x4_2 (rd (rd_L1 l0 x5_1) x6_2)) ++ [x5_1])) x5_1 (wrap64 (x6_2 + 1))) else (none)) else (none)) = some r := by rw [if_pos rfl] at H; exact H
                clear H; have H := H1; clear H1; by_cases c18 : (rd (rd_L1 l0 x5_1) x6_2) < (x4_2.length : Int)
                ·rw [if_pos c18] at H; have c18b0 : decide ((rd (rd_L1 l0 x5_1) x6_2) < (x4_2.length : Int)) = true := decide_eq_true c18
                 clear c18; by_cases c19 : (rd_L1 x4_2 (rd (rd_L1 l0 x5_1) x6_2)).length < 17592186044416
                 ·rw [if_pos c19] at H; have LMc19 := Aside0.mk c19; clear c19; obtain ⟨y312, hy312⟩ : ∃ y_ : List Int, y_ = ((rd_L1 x4_2 (rd (rd_L1 l0 x5_1) x6_2)) ++ [x5_1]) := ⟨_, rfl⟩; replace H : (r7_Backs.l1 k2 l0 t300 (x4_2.set ((rd (rd_L1 l0 x5_1) x6_2) : Int).toNat y312) x5_1 (wrap64 (x6_2 + 1))) = some r := by first | (with_reducible first | (rw [hy312]; exact H) | exact H) | (have H2_ := (Option.bind_some _ _).symm.trans H; first | with_reducible exact H2_ | (rw [hy312]; exact H2_)) | (rw [hy312]; exact H) | exact H
                  have Ny312 := Aside0.mk hy312; clear hy312; obtain ⟨y315, hy315⟩ : ∃ y_ : List (List Int), y_ = (x4_2.set ((rd (rd_L1 l0 x5_1) x6_2) : Int).toNat y312) := ⟨_, rfl⟩; replace H : (r7_Backs.l1 k2 l0 t300 y315 x5_1 (wrap64 (x6_2 + 1))) = some r := by first | (with_reducible first | (rw [hy315]; exact H) | exact H) | (have H2_ := (Option.bind_some _ _).symm.trans H; first | with_reducible exact H2_ | (rw [hy315]; exact H2_)) | (rw [hy315]; exact H) | exact H
                  have Ny315 := Aside0.mk hy315; clear hy315; have H' := Aside0.mk H
                  clear H; have p306 : 0 ≤ (x5_1 : Int) := of_decide_eq_true (by with_reducible assumption)
                  have q306 : x5_1 < (l0.length : Int) := of_decide_eq_true (by with_reducible assumption)
                  obtain ⟨ad306, A306_0, c306_0, e306, hx306_0, hl306_0, hi306_0⟩ := at_L1 HR0.out x5_1 p306 q306; cases e306; replace hx306_0 := (HB.out.cell (World.block_lt_of_cell? w _ hx306_0)).trans hx306_0; have HR306_0 := Aside0.mk hi306_0; have HC306_0 := Aside0.mk hl306_0; clear hi306_0 hl306_0; replace p306 := eq_true p306; replace q306 := eq_true q306; have p307 : 0 ≤ (x5_1 : Int) := of_decide_eq_true (by with_reducible assumption)
                  have q307 : x5_1 < (l0.length : Int) := of_decide_eq_true (by with_reducible assumption)
                  obtain ⟨ad307, A307_0, c307_0, e307, hx307_0, hl307_0, hi307_0⟩ := at_L1 HR0.out x5_1 p307 q307; obtain rfl : ad306 = ad307 := (by injection e307)
                  replace hx307_0 := (HB.out.cell (World.block_lt_of_cell? w _ hx307_0)).trans hx307_0; have HR307_0 := Aside0.mk hi307_0; have HC307_0 := Aside0.mk hl307_0; clear hi307_0 hl307_0; replace p307 := eq_true p307; replace q307 := eq_true q307; have ea_ := Option.some.inj (hx306_0.symm.trans hx307_0); injection ea_ with ea_ en_ ec_
                  subst ea_; subst ec_; clear en_; have p308 : 0 ≤ (x6_2 : Int) := of_decide_eq_true (by with_reducible assumption)
                  have q308 : x6_2 < ((rd_L1 l0 x5_1).length : Int) := of_decide_eq_true (by with_reducible assumption)
                  obtain ⟨ad308, e308, hx308_0⟩ := Kd.at_int HR307_0.out x6_2 p308 q308; cases e308; replace hx308_0 := (HB.out.cell (World.block_lt_of_cell? w _ hx308_0)).trans hx308_0; replace p308 := eq_true p308; replace q308 := eq_true q308; obtain ⟨Ao21, co21, eo21⟩ := Kd.S_slice HO_3.out; subst eo21; have p309 : 0 ≤ ((rd (rd_L1 l0 x5_1) x6_2) : Int) := of_decide_eq_true (by with_reducible assumption)
                  have q309 : (rd (rd_L1 l0 x5_1) x6_2) < (t300.length : Int) := of_decide_eq_true (by with_reducible assumption)
                  obtain ⟨ad309, A309_0, c309_0, e309, hx309_0, hl309_0, hi309_0⟩ := at_L3 (Kd.S_reads' HO_3.out).2.2 (rd (rd_L1 l0 x5_1) x6_2) p309 q309; cases e309; obtain ⟨ce309, hce309, hMe309, hcc309⟩ := Kd.S_get HO_3.out [] (rd (rd_L1 l0 x5_1) x6_2) p309 (by first | exact q309 | exact of_decide_eq_true (by with_reducible assumption) | (have e_ := (Kd.S_reads' HO_3.out).1; omega))
                  obtain ⟨ve309_0, rfl, ge309_0⟩ := hMe309; have hv309_0 := hcc309 0 _ rfl; rw [Nat.add_zero, show ((Kd.slice 4 Kd.bool)).sz = 1 from rfl, Nat.mul_one] at hv309_0; replace hv309_0 := Option.some.inj (hv309_0.symm.trans hx309_0); rw [hv309_0] at ge309_0; have HL309_0 := Aside0.mk (show Kd.R Kd.bool 4 _ _ _ _ (rd_L3 t300 (rd (rd_L1 l0 x5_1) x6_2)) from ge309_0); clear hv309_0 ge309_0; have HX309_0 := Aside0.mk hx309_0; clear hcc309 hce309; have HR309_0 := Aside0.mk hi309_0; have HC309_0 := Aside0.mk hl309_0; clear hi309_0 hl309_0; replace p309 := eq_true p309; replace q309 := eq_true q309; have p310 : 0 ≤ (x5_1 : Int) := of_decide_eq_true (by with_reducible assumption)
                  have q310 : x5_1 < ((rd_L3 t300 (rd (rd_L1 l0 x5_1) x6_2)).length : Int) := of_decide_eq_true (by with_reducible assumption)
                  obtain ⟨ad310, e310, hx310_0⟩ := Kd.at_bool (by repeat (first | (with_reducible exact HR309_0.out) | with_reducible first | refine Kd.C_alloc ?_ _ | refine Kd.C_drewN ?_ _ | refine Kd.C_drew ?_ | exact HR309_0.out)) x5_1 p310 q310
                  (try rw [← Nbq16.out] at hx310_0)
                  cases e310; replace p310 := eq_true p310; replace q310 := eq_true q310; obtain ⟨Ao22, co22, eo22⟩ := Kd.S_slice HO_4.out; subst eo22; have p311 : 0 ≤ ((rd (rd_L1 l0 x5_1) x6_2) : Int) := of_decide_eq_true (by with_reducible assumption)
                  have q311 : (rd (rd_L1 l0 x5_1) x6_2) < (x4_2.length : Int) := of_decide_eq_true (by with_reducible assumption)
                  obtain ⟨ad311, A311_0, c311_0, e311, hx311_0, hl311_0, hi311_0⟩ := at_L1 (Kd.S_reads' HO_4.out).2.2 (rd (rd_L1 l0 x5_1) x6_2) p311 q311; cases e311; obtain ⟨ce311, hce311, hMe311, hcc311⟩ := Kd.S_get HO_4.out [] (rd (rd_L1 l0 x5_1) x6_2) p311 (by first | exact q311 | exact of_decide_eq_true (by with_reducible assumption) | (have e_ := (Kd.S_reads' HO_4.out).1; omega))
                  obtain ⟨ve311_0, rfl, ge311_0⟩ := hMe311; have hv311_0 := hcc311 0 _ rfl; rw [Nat.add_zero, show ((Kd.slice 3 (Kd.int .i64))).sz = 1 from rfl, Nat.mul_one] at hv311_0; replace hv311_0 := Option.some.inj (hv311_0.symm.trans hx311_0); rw [hv311_0] at ge311_0; have HL311_0 := Aside0.mk (show Kd.R (Kd.int .i64) 3 _ _ _ _ (rd_L1 x4_2 (rd (rd_L1 l0 x5_1) x6_2)) from ge311_0); clear hv311_0 ge311_0; have HX311_0 := Aside0.mk hx311_0; clear hcc311 hce311; have HR311_0 := Aside0.mk hi311_0; have HC311_0 := Aside0.mk hl311_0; clear hi311_0 hl311_0; replace p311 := eq_true p311; replace q311 := eq_true q311; obtain ⟨go23, co23, eo23, gb23, gl23, cl23, HG23⟩ := Kd.S_form HO_4.out (by have h_ : ((rd (rd_L1 l0 x5_1) x6_2) : Int) < ((x4_2.length : Int) : Int) := of_decide_eq_true (by with_reducible assumption); have h2_ : 0 ≤ ((rd (rd_L1 l0 x5_1) x6_2) : Int) := (of_decide_eq_true (by with_reducible assumption)); omega)
                  (first | cases eo23 | (injection eo23 with ea_ en_ ec_; (first | subst ea_ | (injection ea_ with ea_; subst ea_)); subst ec_; clear en_))
                  have GB23 := Aside0.mk gb23; have GG23 := Aside0.mk HG23; clear gb23 gl23 HG23; (first | simp only [add_plain] at hx311_0 | skip)
                  obtain ⟨oki23, ce23, hcl23, hM23, hcc23, _, _, hH23⟩ := Kd.S_elem HO_4.out [] ((rd (rd_L1 l0 x5_1) x6_2) : Int) (of_decide_eq_true (by with_reducible assumption)) (by have h_ : ((rd (rd_L1 l0 x5_1) x6_2) : Int) < ((x4_2.length : Int) : Int) := of_decide_eq_true (by with_reducible assumption); first | exact h_ | (have e_ := (Kd.S_reads' HO_4.out).1; omega) | simpa using h_)
                  obtain ⟨ve23_0, rfl, ge23_0⟩ := hM23; have hv23 := hcc23 0 _ rfl; have hX23 := HX311_0.out; (try simp only [add_plain] at hX23)
                  (try simp only [Nat.add_zero] at hv23)
                  (try rw [show ((Kd.slice 3 (Kd.int .i64))).sz = 1 from rfl, Nat.mul_one] at hv23)
                  replace hv23 := Option.some.inj (hv23.symm.trans hX23); subst hv23; clear hX23 hcc23 hcl23; have UU23 := Aside0.mk (show Kd.R (Kd.int .i64) 3 _ w.heap.size oki23 (.slice A311_0 (rd_L1 x4_2 (rd (rd_L1 l0 x5_1) x6_2)).length c311_0) (rd_L1 x4_2 (rd (rd_L1 l0 x5_1) x6_2)) from ge23_0); have HH23 := Aside0.mk hH23; have HN23 := Aside0.mk (Kd.S_reads' HO_4.out).1; clear hH23 ge23_0; go_wp2_with (first | ((with_reducible refine gate_builtin (b := .append) (xs := #[.tmp 47, .tmp 49]) rfl ?_); at_builtin; refine Kd.R_append (Kd.int .i64) (w0 := w) w.heap.size rfl (.tmp 47) (.tmp 49) 33 3 (.int .i64 0) 8 rfl Try.underlying33 info3 rfl (by decide) (by omega) (.slice A311_0 (rd_L1 x4_2 (rd (rd_L1 l0 x5_1) x6_2)).length c311_0) (rd_L1 x4_2 (rd (rd_L1 l0 x5_1) x6_2)) x5_1 [.int .i64 x5_1] (fun k_ => oki23 k_ ∨ ((fun _ => True)) k_ ∧ wr.heap.size ≤ k_) (fun _ => False) rfl rfl ?aP (fun _ hk => hk.elim) ?aF ?aO ?aB ?aS ?aL ?_; (case aP => exact rfl); (case aB => exact (by repeat (first | (with_reducible first | exact HB.out | apply below_alloc | apply pw_below_drewN | apply below_drew1) | exact HB.out))); (case aF => exact (fun k_ hk => .inr ⟨trivial, hk⟩)); (case aO => exact (by (with_reducible repeat (first | apply Kd.R_alloc | apply Kd.R_drewN | apply Kd.R_drew)); exact Kd.R_mono UU23.out (fun _ hk => .inl hk))); (case aS => exact (below_size (by repeat (first | (with_reducible first | exact HB.out | apply below_alloc | apply pw_below_drewN | apply below_drew1) | exact HB.out)))); (case aL => have := LMc19.out; omega); intro v313 w24 ho hb hg hat; rw [← Ny312.out] at ho; have n0_ := Aside0.mk (Kd.S_over' (v := (.slice A311_0 (rd_L1 x4_2 (rd (rd_L1 l0 x5_1) x6_2)).length c311_0)) (by (with_reducible repeat (first | apply Kd.S_alloc | apply Kd.S_drewN | apply Kd.S_drew)); exact HO_3.out) (Kd.R_typed HL311_0.out) (by decide) hg); have n1_ := Aside0.mk (hb); have n2_ := Aside0.mk (Kd.H_grown (Kd.H_widen (by repeat (first | exact HH23.out | refine Kd.H_alloc ?_ _ | refine Kd.H_drewN ?_ _ | refine Kd.H_drew ?_))) hg (fun k_ e_ => .inl (UU23.out.1 k_ e_))); have n3_ := Aside0.mk (ho); clear HO_3; clear HB; clear HH23; clear HO_4; clear UU23; clear HL309_0; clear HL311_0; have HO_3 := n0_; have HB := n1_; have HH23 := n2_; have HO314 := n3_; clear n0_ n1_ n2_ n3_; clear ho hb hg hat; have p20 : 0 ≤ ((rd (rd_L1 l0 x5_1) x6_2) : Int) := of_decide_eq_true (by with_reducible assumption); have q20 : ((rd (rd_L1 l0 x5_1) x6_2) : Int) < ((x4_2.length : Int) : Int) := of_decide_eq_true (by with_reducible assumption); replace p20 := eq_true p20; replace q20 := eq_true q20; obtain ⟨Ao27, co27, eo27⟩ := Kd.R_slice HO314.out; subst eo27; obtain ⟨_, _, hraw25, _, _, hcc25, _⟩ := Kd.H_raw HH23.out (of_decide_eq_true (by with_reducible assumption)) (by have h_ : ((rd (rd_L1 l0 x5_1) x6_2) : Int) < ((x4_2.length : Int) : Int) := of_decide_eq_true (by with_reducible assumption); first | exact h_ | (have e_ := (HN23.out); omega) | simpa using h_); obtain ⟨_, hfr25⟩ := Kd.H_at HH23.out (of_decide_eq_true (by with_reducible assumption)) (by have h_ : ((rd (rd_L1 l0 x5_1) x6_2) : Int) < ((x4_2.length : Int) : Int) := of_decide_eq_true (by with_reducible assumption); first | exact h_ | (have e_ := (HN23.out); omega) | simpa using h_); have hx25_0 := hcc25 0 _ rfl; have hf25_0 := hfr25 0; (try simp only [Nat.add_zero] at hx25_0 hf25_0); (try rw [show ((Kd.slice 3 (Kd.int .i64))).sz = 1 from rfl, Nat.mul_one] at hx25_0); (try rw [show ((Kd.slice 3 (Kd.int .i64))).sz = 1 from rfl, Nat.mul_one] at hf25_0); have HP25 := Kd.S_seg0 HH23.out (of_decide_eq_true (by with_reducible assumption)) (by have h_ : ((rd (rd_L1 l0 x5_1) x6_2) : Int) < ((x4_2.length : Int) : Int) := of_decide_eq_true (by with_reducible assumption); first | exact h_ | (have e_ := (HN23.out); omega) | simpa using h_) (seg := [.slice Ao27 y312.length co27]) (j := 0) (show 1 ≤ 1 from by decide) (x' := y312) (Kd.M_row HO314.out) (fun _ hk => hk); (try simp only [show ((Kd.slice 3 (Kd.int .i64))).sz = 1 from rfl, Nat.mul_one, Nat.add_zero] at HP25); clear hcc25 hfr25) | ((with_reducible refine gate_store (t := 33) (p := 51) rfl ?_); refine store_event (t := 33) (p := 51) (v := ?vo_w26) (w1 := (w24.setCell ⟨go23, ((rd (rd_L1 l0 x5_1) x6_2) : Int).toNat, none⟩ (.slice Ao27 y312.length co27))) ?hg ?ho ?hn ?hr ?_; (case ho => rfl); (case hg => rfl); (case hn => rfl); (case hr => first | (go_simp; done) | (go_simp; rfl)); intro w26 hw; have hg : w24.grownBy w26 (some go23) := (by rw [hw]; exact HP25.2); have hp_ : Kd.S (Kd.slice 3 (Kd.int .i64)) 33 w26 w.heap.size (fun _ => True) (.slice (some ⟨go23, 0, none⟩) x4_2.length co22) y315 := (by rw [hw, Ny315.out]; exact HP25.1); clear HP25; have n0_ := Aside0.mk (Kd.S_over' (v := (.slice (some ⟨go23, 0, none⟩) x4_2.length co22)) (by (with_reducible repeat (first | apply Kd.S_alloc | apply Kd.S_drewN | apply Kd.S_drew)); exact HO_3.out) (Kd.R_typed hraw25) (by decide) hg); have n1_ := Aside0.mk ((by rw [hw]; exact below_set HB.out GB23.out : Below w.heap.size w w26)); have n2_ := Aside0.mk (hp_); clear HO_3; clear HB; clear HO314; clear HH23; have HO_3 := n0_; have HB := n1_; have HO_4 := n2_; clear n0_ n1_ n2_; clear hg hw hp_ hraw25))
                  go_roundg k2
                  case measure => have := HK1.out; have := HK2.out; omega
                  case rel => exact ⟨(y315), (wrap64 (x6_2 + 1)), (by first | rfl | (simp; done) | (simp [*]; done)), H', ⟨by have := HK1.out; have := HK2.out; omega⟩, ⟨by (with_reducible repeat (first | apply Kd.S_alloc | apply Kd.S_drewN | apply Kd.S_drew)); exact HO_3.out⟩, ⟨by (with_reducible repeat (first | apply Kd.S_alloc | apply Kd.S_drewN | apply Kd.S_drew)); exact HO_4.out⟩, ⟨by repeat (first | (with_reducible first | exact HB.out | apply below_alloc | apply pw_below_drewN | apply below_drew1) | exact HB.out)⟩⟩
                 ·rw [if_neg c19] at H; exact absurd H (by simp)
                ·rw [if_neg c18] at H; exact absurd H (by simp)
               ·replace c17 := Bool.eq_false_iff.mpr c17; subst c17; have H1 : (r7_Backs.l1 k2 l0 t300 x4_2 x5_1 (wrap64 (x6_2 + 1))) = some r := by rw [if_neg (show ¬ (false = true) by decide)] at H; exact H
                clear H; have H := H1; clear H1; have H' := Aside0.mk H
                clear H; have p306 : 0 ≤ (x5_1 : Int) := of_decide_eq_true (by with_reducible assumption)
                have q306 : x5_1 < (l0.length : Int) := of_decide_eq_true (by with_reducible assumption)
                obtain ⟨ad306, A306_0, c306_0, e306, hx306_0, hl306_0, hi306_0⟩ := at_L1 HR0.out x5_1 p306 q306; cases e306; replace hx306_0 := (HB.out.cell (World.block_lt_of_cell? w _ hx306_0)).trans hx306_0; have HR306_0 := Aside0.mk hi306_0; have HC306_0 := Aside0.mk hl306_0; clear hi306_0 hl306_0; replace p306 := eq_true p306; replace q306 := eq_true q306; have p307 : 0 ≤ (x5_1 : Int) := of_decide_eq_true (by with_reducible assumption)
                have q307 : x5_1 < (l0.length : Int) := of_decide_eq_true (by with_reducible assumption)
                obtain ⟨ad307, A307_0, c307_0, e307, hx307_0, hl307_0, hi307_0⟩ := at_L1 HR0.out x5_1 p307 q307; obtain rfl : ad306 = ad307 := (by injection e307)
                replace hx307_0 := (HB.out.cell (World.block_lt_of_cell? w _ hx307_0)).trans hx307_0; have HR307_0 := Aside0.mk hi307_0; have HC307_0 := Aside0.mk hl307_0; clear hi307_0 hl307_0; replace p307 := eq_true p307; replace q307 := eq_true q307; have ea_ := Option.some.inj (hx306_0.symm.trans hx307_0); injection ea_ with ea_ en_ ec_
                subst ea_; subst ec_; clear en_; have p308 : 0 ≤ (x6_2 : Int) := of_decide_eq_true (by with_reducible assumption)
                have q308 : x6_2 < ((rd_L1 l0 x5_1).length : Int) := of_decide_eq_true (by with_reducible assumption)
                obtain ⟨ad308, e308, hx308_0⟩ := Kd.at_int HR307_0.out x6_2 p308 q308; cases e308; replace hx308_0 := (HB.out.cell (World.block_lt_of_cell? w _ hx308_0)).trans hx308_0; replace p308 := eq_true p308; replace q308 := eq_true q308; obtain ⟨Ao28, co28, eo28⟩ := Kd.S_slice HO_3.out; subst eo28; have p309 : 0 ≤ ((rd (rd_L1 l0 x5_1) x6_2) : Int) := of_decide_eq_true (by with_reducible assumption)
                have q309 : (rd (rd_L1 l0 x5_1) x6_2) < (t300.length : Int) := of_decide_eq_true (by with_reducible assumption)
                obtain ⟨ad309, A309_0, c309_0, e309, hx309_0, hl309_0, hi309_0⟩ := at_L3 (Kd.S_reads' HO_3.out).2.2 (rd (rd_L1 l0 x5_1) x6_2) p309 q309; cases e309; obtain ⟨ce309, hce309, hMe309, hcc309⟩ := Kd.S_get HO_3.out [] (rd (rd_L1 l0 x5_1) x6_2) p309 (by first | exact q309 | exact of_decide_eq_true (by with_reducible assumption) | (have e_ := (Kd.S_reads' HO_3.out).1; omega))
                obtain ⟨ve309_0, rfl, ge309_0⟩ := hMe309; have hv309_0 := hcc309 0 _ rfl; rw [Nat.add_zero, show ((Kd.slice 4 Kd.bool)).sz = 1 from rfl, Nat.mul_one] at hv309_0; replace hv309_0 := Option.some.inj (hv309_0.symm.trans hx309_0); rw [hv309_0] at ge309_0; have HL309_0 := Aside0.mk (show Kd.R Kd.bool 4 _ _ _ _ (rd_L3 t300 (rd (rd_L1 l0 x5_1) x6_2)) from ge309_0); clear hv309_0 ge309_0; have HX309_0 := Aside0.mk hx309_0; clear hcc309 hce309; have HR309_0 := Aside0.mk hi309_0; have HC309_0 := Aside0.mk hl309_0; clear hi309_0 hl309_0; replace p309 := eq_true p309; replace q309 := eq_true q309; have p310 : 0 ≤ (x5_1 : Int) := of_decide_eq_true (by with_reducible assumption)
                have q310 : x5_1 < ((rd_L3 t300 (rd (rd_L1 l0 x5_1) x6_2)).length : Int) := of_decide_eq_true (by with_reducible assumption)
                obtain ⟨ad310, e310, hx310_0⟩ := Kd.at_bool (by repeat (first | (with_reducible exact HR309_0.out) | with_reducible first | refine Kd.C_alloc ?_ _ | refine Kd.C_drewN ?_ _ | refine Kd.C_drew ?_ | exact HR309_0.out)) x5_1 p310 q310
                (try rw [← Nbq16.out] at hx310_0)
                cases e310; replace p310 := eq_true p310; replace q310 := eq_true q310; go_wp2
                go_roundg k2
                case measure => have := HK1.out; have := HK2.out; omega
                case rel => exact ⟨(x4_2), (wrap64 (x6_2 + 1)), (by first | rfl | (simp; done) | (simp [*]; done)), H', ⟨by have := HK1.out; have := HK2.out; omega⟩, ⟨by (with_reducible repeat (first | apply Kd.S_alloc | apply Kd.S_drewN | apply Kd.S_drew)); exact HO_3.out⟩, ⟨by (with_reducible repeat (first | apply Kd.S_alloc | apply Kd.S_drewN | apply Kd.S_drew)); exact HO_4.out⟩, ⟨by repeat (first | (with_reducible first | exact HB.out | apply below_alloc | apply pw_below_drewN | apply below_drew1) | exact HB.out)⟩⟩
              ·rw [if_neg c15] at H; exact absurd H (by simp)
             ·rw [if_neg c14] at H; exact absurd H (by simp)
            ·rw [if_neg c13] at H; exact absurd H (by simp)
           ·rw [if_neg c12] at H; exact absurd H (by simp)
          ·rw [if_neg c11] at H; have c11b0 : decide (x6_2 < ((rd_L1 l0 x5_1).length : Int)) = false := decide_eq_false c11
           clear c11; have H' := Aside0.mk H
           clear H; have p306 : 0 ≤ (x5_1 : Int) := of_decide_eq_true (by with_reducible assumption)
           have q306 : x5_1 < (l0.length : Int) := of_decide_eq_true (by with_reducible assumption)
           obtain ⟨ad306, A306_0, c306_0, e306, hx306_0, hl306_0, hi306_0⟩ := at_L1 HR0.out x5_1 p306 q306; cases e306; replace hx306_0 := (HB.out.cell (World.block_lt_of_cell? w _ hx306_0)).trans hx306_0; have HR306_0 := Aside0.mk hi306_0; have HC306_0 := Aside0.mk hl306_0; clear hi306_0 hl306_0; replace p306 := eq_true p306; replace q306 := eq_true q306; go_wp2
           go_roundg k2
           case measure => have := HK1.out; have := HK2.out; omega
           case rel => exact ⟨(x4_2), (wrap64 (x5_1 + 1)), (by first | rfl | (simp; done) | (simp [*]; done)), H', ⟨by have := HK1.out; have := HK2.out; omega⟩, ⟨by (with_reducible repeat (first | apply Kd.S_alloc | apply Kd.S_drewN | apply Kd.S_drew)); exact HO_3.out⟩, ⟨by (with_reducible repeat (first | apply Kd.S_alloc | apply Kd.S_drewN | apply Kd.S_drew)); exact HO_4.out⟩, ⟨by repeat (first | (with_reducible first | exact HB.out | apply below_alloc | apply pw_below_drewN | apply below_drew1) | exact HB.out)⟩⟩
         ·rw [if_neg c10] at H; exact absurd H (by simp)
        ·rw [if_neg c9] at H; exact absurd H (by simp)
     ·rw [if_neg c8] at H; have c8b0 : decide (x5_1 < (l0.length : Int)) = false := decide_eq_false c8
      clear c8; obtain rfl := Option.some.inj H; go_wp2
      go_ret
      exact ⟨_, by first | rfl | (simp [errW_none, errW_some] <;> rfl) | (simp [*, errW_none, errW_some] <;> rfl), by (with_reducible repeat (first | apply Kd.S_alloc | apply Kd.S_drewN | apply Kd.S_drew)); exact HO_4.out, by repeat (first | (with_reducible first | exact HB.out | apply below_alloc | apply pw_below_drewN | apply below_drew1) | exact HB.out)⟩
  ·rw [if_neg c4] at H; exact absurd H (by simp)
 ·rw [if_neg c3] at H; exact absurd H (by simp)
end Go.Proofs.Ytjjedbcgkljdeaa.A
end
section
namespace Go.Proofs.Ytjjedbcgkljdeaa.A
open Go.RowKit Go.Proofs.YtjjedbcgkljdeaaW.PrintWords Go.Proofs.YtjjedbcgkljdeaaW.PrintLast Go.Proofs.YtjjedbcgkljdeaaW.PrintMore
set_option linter.unusedVariables false
set_option linter.unusedSimpArgs false
mutual
def r7_Loops.l0 : Nat → List (List Int) → List (List Int) → List Bool → List (List Int) → List (List Int) → Int → Option ((List (List Int)))
 | 0, _, _, _, _, _, _ => none
 | k + 1, x0, x3, x4, x5, x6, x7 => if x7 < (x0.length : Int) then (if 0 ≤ x7 then (if x7 < (x3.length : Int) then (if ((rd_L1 x3 x7).length : Int) = 0 then (if x6.length < 5864062014805 then (r7_Loops.l0 k x0 x3 x4 x5 (x6 ++ [[]]) (wrap64 (x7 + 1))) else (none)) else ((r7_From.f k x5 (rd_L1 x3 x7) x7).bind fun t330 => (r7_Loops.l1 k x0 x3 x4 x5 x6 x7 t330 0))) else (none)) else (none)) else (some x6)
def r7_Loops.l1 : Nat → List (List Int) → List (List Int) → List Bool → List (List Int) → List (List Int) → Int → List Bool → Int → Option ((List (List Int)))
 | 0, _, _, _, _, _, _, _, _ => none
 | k + 1, x0, x3, x4, x5, x6, x7, x8, x9 => if x9 < (x0.length : Int) then (if 0 ≤ x9 then (if x9 < (x8.length : Int) then (if rdOf false x8 x9 = true then (if x9 < (x4.length : Int) then (if rdOf false x4 x9 = true then (r7_Loops.l1 k x0 x3 x4 x5 x6 x7 (x8.set (x9 : Int).toNat true) (wrap64 (x9 + 1))) else (r7_Loops.l1 k x0 x3 x4 x5 x6 x7 (x8.set (x9 : Int).toNat (x9 == x7)) (wrap64 (x9 + 1)))) else (none)) else (r7_Loops.l1 k x0 x3 x4 x5 x6 x7 (x8.set (x9 : Int).toNat (x9 == x7)) (wrap64 (x9 + 1)))) else (none)) else (none)) else ((r7_rising.f k x8).bind fun t338 => (if x6.length < 5864062014805 then (r7_Loops.l0 k x0 x3 x4 x5 (x6 ++ [t338]) (wrap64 (x7 + 1))) else (none)))
end
def r7_Loops.f (k : Nat) (l0 : List (List Int)) : Option ((List (List Int))) := (r7_Backs.f k l0).bind fun t316 => ((r7_Reached.f k l0).bind fun t319 => ((r7_Turned.f k l0).bind fun t322 => (r7_Loops.l0 k l0 t316 t319 t322 ([] : List (List Int)) 0)))
set_option maxHeartbeats 8000000 in
set_option maxRecDepth 100000 in
theorem r7_Loops.calls (k : Nat) (A0 : Option Addr) (c0 : Nat) (l0 : List (List Int)) (r : List (List Int)) (w : World) (hr0 : Kd.C (Kd.slice 3 (Kd.int .i64)) w A0 l0.length l0) (hc0 : l0.length ≤ c0) (h : r7_Loops.f k l0 = some r) :
  Calls Try.prog 21 #[.slice A0 l0.length c0] w fun e w' => ∃ v0_ : Value, e = .returned (v0_) ∧ Kd.S (Kd.slice 3 (Kd.int .i64)) 33 w' w.heap.size (fun _ => True) v0_ r ∧ Below w.heap.size w w' := by
 have HR0 := Aside0.mk hr0; have HC0 := Aside0.mk hc0; clear hr0 hc0; have HB := Aside0.mk (Below.refl w.heap.size w); have H : ((r7_Backs.f k l0).bind fun t316 => ((r7_Reached.f k l0).bind fun t319 => ((r7_Turned.f k l0).bind fun t322 => (r7_Loops.l0 k l0 t316 t319 t322 ([] : List (List Int)) 0)))) = some r := h
 clear h; replace H := Option.bind_eq_some_iff.mp H; obtain ⟨t316, A20, H⟩ := H; replace H : ((r7_Reached.f k l0).bind fun t319 => ((r7_Turned.f k l0).bind fun t322 => (r7_Loops.l0 k l0 t316 t319 t322 ([] : List (List Int)) 0))) = some r := H
 have A2 := Aside0.mk A20; clear A20; replace H := Option.bind_eq_some_iff.mp H; obtain ⟨t319, A30, H⟩ := H; replace H : ((r7_Turned.f k l0).bind fun t322 => (r7_Loops.l0 k l0 t316 t319 t322 ([] : List (List Int)) 0)) = some r := H
 have A3 := Aside0.mk A30; clear A30; replace H := Option.bind_eq_some_iff.mp H; obtain ⟨t322, A40, H⟩ := H; replace H : (r7_Loops.l0 k l0 t316 t319 t322 ([] : List (List Int)) 0) = some r := H; have A4 := Aside0.mk A40; clear A40; have H' := Aside0.mk H
 clear H; go_enter Try.func21, Try.ntmps21
 go_wp2_with (first | ((with_reducible refine gate_callee (f := 59) rfl ?_); refine goesL_ (some 11) rfl rfl Try.func59 (by kernel_rfl) rfl #[.slice A0 l0.length c0] rfl (by (try simp only [List.map_toArray, List.map_cons, List.map_nil]); first | done | rfl | (simp only [List.length_drop, List.length_take]; rfl)) ?_; (with_reducible refine (r7_Backs.calls k _ _ l0 t316 _ ?side1 ?side2 A2.out).mono ?_); (case side1 => repeat (first | exact HR0.out | with_reducible first | refine Kd.C_alloc ?_ _ | refine Kd.C_drewN ?_ _ | refine Kd.C_drew ?_)); (case side2 => exact HC0.out); rintro e w5 ⟨v317, rfl, ho0, hb⟩; refine ⟨_, rfl, ?_⟩; have n0_ := Aside0.mk (Kd.S_lower ho0 (below_size (by repeat (first | (with_reducible first | exact HB.out | apply below_alloc | apply pw_below_drewN | apply below_drew1) | exact HB.out)))); have n1_ := Aside0.mk (below_step (by repeat (first | (with_reducible first | exact HB.out | apply below_alloc | apply pw_below_drewN | apply below_drew1) | exact HB.out)) hb); clear HB; have HO318 := n0_; have HB := n1_; clear n0_ n1_; (try clear hb); (try clear hb2); (try clear hk); (try clear hi); (try clear ho0)) | ((with_reducible refine gate_callee (f := 33) rfl ?_); refine goesL_ (some 13) rfl rfl Try.func33 (by kernel_rfl) rfl #[.slice A0 l0.length c0] rfl (by (try simp only [List.map_toArray, List.map_cons, List.map_nil]); first | done | rfl | (simp only [List.length_drop, List.length_take]; rfl)) ?_; (with_reducible refine (r7_Reached.calls k _ _ l0 t319 _ ?side1 ?side2 A3.out).mono ?_); (case side1 => repeat (first | exact (Kd.C_below HR0.out HB.out) | with_reducible first | refine Kd.C_alloc ?_ _ | refine Kd.C_drewN ?_ _ | refine Kd.C_drew ?_)); (case side2 => exact HC0.out); rintro e w6 ⟨v320, rfl, ho0, hb⟩; refine ⟨_, rfl, ?_⟩; have n0_ := Aside0.mk (Kd.S_below (by (with_reducible repeat (first | apply Kd.S_alloc | apply Kd.S_drewN | apply Kd.S_drew)); exact HO318.out) hb); have n1_ := Aside0.mk (Kd.R_lower ho0 (below_size (by repeat (first | (with_reducible first | exact HB.out | apply below_alloc | apply pw_below_drewN | apply below_drew1) | exact HB.out)))); have n2_ := Aside0.mk (below_step (by repeat (first | (with_reducible first | exact HB.out | apply below_alloc | apply pw_below_drewN | apply below_drew1) | exact HB.out)) hb); clear HO318; clear HB; have HO318 := n0_; have HO321 := n1_; have HB := n2_; clear n0_ n1_ n2_; (try clear hb); (try clear hb2); (try clear hk); (try clear hi); (try clear ho0)) | ((with_reducible refine gate_callee (f := 35) rfl ?_); refine goesL_ (some 15) rfl rfl Try.func35 (by kernel_rfl) rfl #[.slice A0 l0.length c0] rfl (by (try simp only [List.map_toArray, List.map_cons, List.map_nil]); first | done | rfl | (simp only [List.length_drop, List.length_take]; rfl)) ?_; (with_reducible refine (r7_Turned.calls k _ _ l0 t322 _ ?side1 ?side2 A4.out).mono ?_); (case side1 => repeat (first | exact (Kd.C_below HR0.out HB.out) | with_reducible first | refine Kd.C_alloc ?_ _ | refine Kd.C_drewN ?_ _ | refine Kd.C_drew ?_)); (case side2 => exact HC0.out); rintro e w7 ⟨v323, rfl, ho0, hb⟩; refine ⟨_, rfl, ?_⟩; have n0_ := Aside0.mk (Kd.S_elder' (by (with_reducible repeat (first | apply Kd.S_alloc | apply Kd.S_drewN | apply Kd.S_drew)); exact HO318.out) (Kd.S_base ho0) hb); have n1_ := Aside0.mk (Kd.R_below (by (with_reducible repeat (first | apply Kd.R_alloc | apply Kd.R_drewN | apply Kd.R_drew)); exact HO321.out) hb); have n2_ := Aside0.mk (Kd.S_lower (Kd.S_new' ho0 (Kd.S_lt (by (with_reducible repeat (first | apply Kd.S_alloc | apply Kd.S_drewN | apply Kd.S_drew)); exact HO318.out))) (below_size (by repeat (first | (with_reducible first | exact HB.out | apply below_alloc | apply pw_below_drewN | apply below_drew1) | exact HB.out)))); have n3_ := Aside0.mk (below_step (by repeat (first | (with_reducible first | exact HB.out | apply below_alloc | apply pw_below_drewN | apply below_drew1) | exact HB.out)) hb); clear HO318; clear HO321; clear HB; have HO318 := n0_; have HO321 := n1_; have HO324 := n2_; have HB := n3_; clear n0_ n1_ n2_ n3_; (try clear hb); (try clear hb2); (try clear hk); (try clear hi); (try clear ho0)))
 go_loopg [6, 7] k (fun kq v6 v7 w' => ∃ (x4_1 : List Bool) (x6_1 : List (List Int)) (x7_1 : Int), v7 = .int .i64 x7_1 ∧ Aside0 (r7_Loops.l0 kq l0 t316 x4_1 t322 x6_1 x7_1 = some r) ∧ Aside0 (kq ≤ k) ∧ Aside0 (Kd.S (Kd.slice 3 (Kd.int .i64)) 33 w' w.heap.size (fun k_ => some k_ ≠ (v323 : Value).ownBlock ∧ some k_ ≠ (v6 : Value).ownBlock) v317 t316) ∧ Aside0 (Kd.R Kd.bool 4 w' w.heap.size (fun _ => True) v320 x4_1) ∧ Aside0 (Kd.S (Kd.slice 3 (Kd.int .i64)) 33 w' w.heap.size (fun k_ => some k_ ≠ (v317 : Value).ownBlock ∧ some k_ ≠ (v6 : Value).ownBlock) v323 t322) ∧ Aside0 (Kd.S (Kd.slice 3 (Kd.int .i64)) 33 w' w.heap.size (fun k_ => some k_ ≠ (v317 : Value).ownBlock ∧ some k_ ≠ (v323 : Value).ownBlock) v6 x6_1) ∧ Aside0 (Below w.heap.size w w'))
 case atStart => exact ⟨(t319), (([] : List (List Int))), (0), (by first | rfl | (simp; done) | (simp [*]; done)), H', ⟨Nat.le_refl _⟩, ⟨by (with_reducible repeat (first | apply Kd.S_alloc | apply Kd.S_drewN | apply Kd.S_drew)); exact Kd.S_mono HO318.out (fun _ hk => ⟨hk.2, (by simp [Value.ownBlock])⟩)⟩, ⟨by (with_reducible repeat (first | apply Kd.R_alloc | apply Kd.R_drewN | apply Kd.R_drew)); exact HO321.out⟩, ⟨by (with_reducible repeat (first | apply Kd.S_alloc | apply Kd.S_drewN | apply Kd.S_drew)); exact Kd.S_mono HO324.out (fun _ hk => ⟨hk.2, (by simp [Value.ownBlock])⟩)⟩, ⟨by first | exact Kd.S_nil _ _ _ _ _ | exact Kd.N_nil _ _ _ _ _ | exact Kd.V_nil _ _ _ _ _ | exact Kd.Q_nil _ _ _ _ _ | exact Kd.R_nil _ _ _ _ _⟩, ⟨by repeat (first | (with_reducible first | exact HB.out | apply below_alloc | apply pw_below_drewN | apply below_drew1) | exact HB.out)⟩⟩
 case round =>
  clear H'; try clear c2
  try clear p2
  try clear c3
  try clear c5
  obtain ⟨x4_1, x6_1, x7_1, rfl, HA, HK1, HO_3, HO_4, HO_5, HO_6, HB⟩ := hrel; cases gk with
  | zero => exact absurd HA.out (by simp [r7_Loops.l0])
  | succ k1 =>
   have H := HA.out; clear HA; simp only [r7_Loops.l0] at H
   by_cases c8 : x7_1 < (l0.length : Int)
   ·rw [if_pos c8] at H; have c8b0 : decide (x7_1 < (l0.length : Int)) = true := decide_eq_true c8
    clear c8; by_cases c9 : 0 ≤ x7_1
    ·rw [if_pos c9] at H; have c9b0 : decide (0 ≤ x7_1) = true := decide_eq_true c9
     clear c9; by_cases c10 : x7_1 < (t316.length : Int)
     ·rw [if_pos c10] at H; have c10b0 : decide (x7_1 < (t316.length : Int)) = true := decide_eq_true c10
      clear c10; by_cases c11 : ((rd_L1 t316 x7_1).length : Int) = 0
      ·rw [if_pos c11] at H; have c11b0 : (((rd_L1 t316 x7_1).length : Int) == 0) = true := beq_iff_eq.mpr c11
       have c11b1 : (((rd_L1 t316 x7_1).length : Int) != 0) = false := bne_eq_false_iff_eq.mpr c11
       clear c11; by_cases c12 : x6_1.length < 5864062014805
       ·rw [if_pos c12] at H; have LMc12 := Aside0.mk c12; clear c12; obtain ⟨y326, hy326⟩ : ∃ y_ : List (List Int), y_ = (x6_1 ++ [[]]) := ⟨_, rfl⟩; replace H : (r7_Loops.l0 k1 l0 t316 x4_1 t322 y326 (wrap64 (x7_1 + 1))) = some r := by first | (with_reducible first | (rw [hy326]; exact H) | exact H) | (have H2_ := (Option.bind_some _ _).symm.trans H; first | with_reducible exact H2_ | (rw [hy326]; exact H2_)) | (rw [hy326]; exact H) | exact H
        have Ny326 := Aside0.mk hy326; clear hy326; have H' := Aside0.mk H
        clear H; obtain ⟨Ao13, co13, eo13⟩ := Kd.S_slice HO_3.out; subst eo13; have p325 : 0 ≤ (x7_1 : Int) := of_decide_eq_true (by with_reducible assumption)
        have q325 : x7_1 < (t316.length : Int) := of_decide_eq_true (by with_reducible assumption)
        obtain ⟨ad325, A325_0, c325_0, e325, hx325_0, hl325_0, hi325_0⟩ := at_L1 (Kd.S_reads' HO_3.out).2.2 x7_1 p325 q325; cases e325; obtain ⟨ce325, hce325, hMe325, hcc325⟩ := Kd.S_get HO_3.out [] x7_1 p325 (by first | exact q325 | exact of_decide_eq_true (by with_reducible assumption) | (have e_ := (Kd.S_reads' HO_3.out).1; omega))
        obtain ⟨ve325_0, rfl, ge325_0⟩ := hMe325; have hv325_0 := hcc325 0 _ rfl; rw [Nat.add_zero, show ((Kd.slice 3 (Kd.int .i64))).sz = 1 from rfl, Nat.mul_one] at hv325_0; replace hv325_0 := Option.some.inj (hv325_0.symm.trans hx325_0); rw [hv325_0] at ge325_0; have HL325_0 := Aside0.mk (show Kd.R (Kd.int .i64) 3 _ _ _ _ (rd_L1 t316 x7_1) from ge325_0); clear hv325_0 ge325_0; clear hcc325 hce325; have HR325_0 := Aside0.mk hi325_0; have HC325_0 := Aside0.mk hl325_0; clear hi325_0 hl325_0; replace p325 := eq_true p325; replace q325 := eq_true q325; go_wp2_with (first | ((with_reducible refine gate_builtin (b := .append) (xs := #[.tmp 28, .tmp 29]) rfl ?_); at_builtin; refine Kd.S_append (Kd.slice 3 (Kd.int .i64)) (w0 := w) w.heap.size rfl (.tmp 28) (.tmp 29) 22 33 (.slice none 0 0) 24 rfl Try.underlying22 info33 rfl (by decide) (by omega) u6 x6_1 ([] : List Int) [.slice none 0 0] (fun k_ => some k_ ≠ (.slice (some ad325) t316.length co13 : Value).ownBlock ∧ some k_ ≠ (v323 : Value).ownBlock) (fun _ => False) rfl rfl ?aP (fun _ hk => hk.elim) ?aF ?aO ?aB ?aS ?aL ?_; (case aP => exact ⟨_, rfl, Kd.R_of_own (own_nil _ _ _ _) (fun _ h_ => by simp [Value.ownBlock] at h_)⟩); (case aB => exact (by repeat (first | (with_reducible first | exact HB.out | apply below_alloc | apply pw_below_drewN | apply below_drew1) | exact HB.out))); (case aF => exact (fun k_ hk => ⟨Kd.fresh' (Kd.S_lt (by (with_reducible repeat (first | apply Kd.S_alloc | apply Kd.S_drewN | apply Kd.S_drew)); exact HO_3.out)) k_ hk, Kd.fresh' (Kd.S_lt (by (with_reducible repeat (first | apply Kd.S_alloc | apply Kd.S_drewN | apply Kd.S_drew)); exact HO_5.out)) k_ hk⟩)); (case aO => exact (by (with_reducible repeat (first | apply Kd.S_alloc | apply Kd.S_drewN | apply Kd.S_drew)); exact Kd.S_mono HO_6.out (fun k_ hk => ⟨⟨hk.1, hk.2⟩, fun e_ => e_⟩))); (case aS => exact (below_size (by repeat (first | (with_reducible first | exact HB.out | apply below_alloc | apply pw_below_drewN | apply below_drew1) | exact HB.out)))); (case aL => have := LMc12.out; omega); intro v327 w14 ho hb hg hat; rw [← Ny326.out] at ho; have n0_ := Aside0.mk (Kd.S_after (ok := (fun k_ => some k_ ≠ (v323 : Value).ownBlock)) (by (with_reducible repeat (first | apply Kd.S_alloc | apply Kd.S_drewN | apply Kd.S_drew)); exact HO_3.out) hg hat); have n1_ := Aside0.mk (Kd.R_over' (by (with_reducible repeat (first | apply Kd.R_alloc | apply Kd.R_drewN | apply Kd.R_drew)); exact HO_4.out) (Kd.S_typed (by (with_reducible repeat (first | apply Kd.S_alloc | apply Kd.S_drewN | apply Kd.S_drew)); exact HO_6.out)) (by decide) hg); have n2_ := Aside0.mk (Kd.S_after (ok := (fun k_ => some k_ ≠ (.slice (some ad325) t316.length co13 : Value).ownBlock)) (by (with_reducible repeat (first | apply Kd.S_alloc | apply Kd.S_drewN | apply Kd.S_drew)); exact HO_5.out) hg hat); have n3_ := Aside0.mk (Kd.R_after (ok := (fun k_ => some k_ ≠ (.slice (some ad325) t316.length co13 : Value).ownBlock ∧ some k_ ≠ (v323 : Value).ownBlock)) (by (with_reducible repeat (first | apply Kd.R_alloc | apply Kd.R_drewN | apply Kd.R_drew)); exact Kd.R_mono HL325_0.out (fun _ hk => ⟨⟨hk.2, hk.1.1⟩, hk.1.2⟩)) hg hat); have n4_ := Aside0.mk (hb); have n5_ := Aside0.mk (ho); clear HO_3; clear HO_4; clear HO_5; clear HL325_0; clear HB; clear HO_6; have HO_3 := n0_; have HO_4 := n1_; have HO_5 := n2_; have HL325_0 := n3_; have HB := n4_; have HO328 := n5_; clear n0_ n1_ n2_ n3_ n4_ n5_; clear ho hb hg hat))
        go_roundg k1
        case measure => have := HK1.out; omega
        case rel => exact ⟨(x4_1), (y326), (wrap64 (x7_1 + 1)), (by first | rfl | (simp; done) | (simp [*]; done)), H', ⟨by have := HK1.out; omega⟩, ⟨by (with_reducible repeat (first | apply Kd.S_alloc | apply Kd.S_drewN | apply Kd.S_drew)); exact HO_3.out⟩, ⟨by (with_reducible repeat (first | apply Kd.R_alloc | apply Kd.R_drewN | apply Kd.R_drew)); exact HO_4.out⟩, ⟨by (with_reducible repeat (first | apply Kd.S_alloc | apply Kd.S_drewN | apply Kd.S_drew)); exact HO_5.out⟩, ⟨by (with_reducible repeat (first | apply Kd.S_alloc | apply Kd.S_drewN | apply Kd.S_drew)); exact HO328.out⟩, ⟨by repeat (first | (with_reducible first | exact HB.out | apply below_alloc | apply pw_below_drewN | apply below_drew1) | exact HB.out)⟩⟩
       ·rw [if_neg c12] at H; exact absurd H (by simp)
      ·rw [if_neg c11] at H; have c11b0 : (((rd_L1 t316 x7_1).length : Int) == 0) = false := beq_eq_false_iff_ne.mpr c11
       have c11b1 : (((rd_L1 t316 x7_1).length : Int) != 0) = true := bne_iff_ne.mpr c11
       have c11b2 : ¬ ((rd_L1 t316 x7_1) = []) := fun h_ => c11 (by rw [h_]; rfl)
       replace H := Option.bind_eq_some_iff.mp H; obtain ⟨t330, A150, H⟩ := H; replace H : (r7_Loops.l1 k1 l0 t316 x4_1 t322 x6_1 x7_1 t330 0) = some r := H; have A15 := Aside0.mk A150; clear A150; have H' := Aside0.mk H
       clear H; obtain ⟨Ao16, co16, eo16⟩ := Kd.S_slice HO_3.out; subst eo16; have p325 : 0 ≤ (x7_1 : Int) := of_decide_eq_true (by with_reducible assumption)
       have q325 : x7_1 < (t316.length : Int) := of_decide_eq_true (by with_reducible assumption)
       obtain ⟨ad325, A325_0, c325_0, e325, hx325_0, hl325_0, hi325_0⟩ := at_L1 (Kd.S_reads' HO_3.out).2.2 x7_1 p325 q325; cases e325; obtain ⟨ce325, hce325, hMe325, hcc325⟩ := Kd.S_get HO_3.out [] x7_1 p325 (by first | exact q325 | exact of_decide_eq_true (by with_reducible assumption) | (have e_ := (Kd.S_reads' HO_3.out).1; omega))
       obtain ⟨ve325_0, rfl, ge325_0⟩ := hMe325; have hv325_0 := hcc325 0 _ rfl; rw [Nat.add_zero, show ((Kd.slice 3 (Kd.int .i64))).sz = 1 from rfl, Nat.mul_one] at hv325_0; replace hv325_0 := Option.some.inj (hv325_0.symm.trans hx325_0); rw [hv325_0] at ge325_0; have HL325_0 := Aside0.mk (show Kd.R (Kd.int .i64) 3 _ _ _ _ (rd_L1 t316 x7_1) from ge325_0); clear hv325_0 ge325_0; clear hcc325 hce325; have HR325_0 := Aside0.mk hi325_0; have HC325_0 := Aside0.mk hl325_0; clear hi325_0 hl325_0; replace p325 := eq_true p325; replace q325 := eq_true q325; have p329 : 0 ≤ (x7_1 : Int) := of_decide_eq_true (by with_reducible assumption)
       have q329 : x7_1 < (t316.length : Int) := of_decide_eq_true (by with_reducible assumption)
       obtain ⟨ad329, A329_0, c329_0, e329, hx329_0, hl329_0, hi329_0⟩ := at_L1 (Kd.S_reads' HO_3.out).2.2 x7_1 p329 q329; obtain rfl : ad325 = ad329 := (by injection e329)
       obtain ⟨ce329, hce329, hMe329, hcc329⟩ := Kd.S_get HO_3.out [] x7_1 p329 (by first | exact q329 | exact of_decide_eq_true (by with_reducible assumption) | (have e_ := (Kd.S_reads' HO_3.out).1; omega))
       obtain ⟨ve329_0, rfl, ge329_0⟩ := hMe329; have hv329_0 := hcc329 0 _ rfl; rw [Nat.add_zero, show ((Kd.slice 3 (Kd.int .i64))).sz = 1 from rfl, Nat.mul_one] at hv329_0; replace hv329_0 := Option.some.inj (hv329_0.symm.trans hx329_0); rw [hv329_0] at ge329_0; have HL329_0 := Aside0.mk (show Kd.R (Kd.int .i64) 3 _ _ _ _ (rd_L1 t316 x7_1) from ge329_0); clear hv329_0 ge329_0; clear hcc329 hce329; have HR329_0 := Aside0.mk hi329_0; have HC329_0 := Aside0.mk hl329_0; clear hi329_0 hl329_0; replace p329 := eq_true p329; replace q329 := eq_true q329; have ea_ := Option.some.inj (hx325_0.symm.trans hx329_0); injection ea_ with ea_ en_ ec_
       subst ea_; subst ec_; clear en_; obtain ⟨Ao17, co17, eo17⟩ := Kd.S_slice HO_5.out; subst eo17; go_wp2_with (first | ((with_reducible refine gate_callee (f := 36) rfl ?_); refine goesL_ (some 37) rfl rfl Try.func36 (by kernel_rfl) rfl #[.slice Ao17 t322.length co17, .slice A325_0 (rd_L1 t316 x7_1).length c325_0, .int .i64 x7_1] rfl (by (try simp only [List.map_toArray, List.map_cons, List.map_nil]); first | done | rfl | (simp only [List.length_drop, List.length_take]; rfl)) ?_; (with_reducible refine (r7_From.calls k1 _ _ t322 _ _ (rd_L1 t316 x7_1) x7_1 t330 _ ?side1 ?side2 ?side3 ?side4 A15.out).mono ?_); (case side1 => repeat (first | exact (Kd.S_reads' HO_5.out).2.2 | with_reducible first | refine Kd.C_alloc ?_ _ | refine Kd.C_drewN ?_ _ | refine Kd.C_drew ?_)); (case side2 => exact (Kd.S_reads' HO_5.out).2.1); (case side3 => repeat (first | exact (by repeat (first | (with_reducible exact HR329_0.out) | with_reducible first | refine Kd.C_alloc ?_ _ | refine Kd.C_drewN ?_ _ | refine Kd.C_drew ?_ | exact HR329_0.out)) | with_reducible first | refine Kd.C_alloc ?_ _ | refine Kd.C_drewN ?_ _ | refine Kd.C_drew ?_)); (case side4 => exact HC329_0.out); rintro e w18 ⟨v331, rfl, ho0, hb⟩; refine ⟨_, rfl, ?_⟩; have n0_ := Aside0.mk (Kd.S_below (by (with_reducible repeat (first | apply Kd.S_alloc | apply Kd.S_drewN | apply Kd.S_drew)); exact HO_3.out) hb); have n1_ := Aside0.mk (Kd.R_elder' (by (with_reducible repeat (first | apply Kd.R_alloc | apply Kd.R_drewN | apply Kd.R_drew)); exact HO_4.out) (Kd.R_base ho0) hb); have n2_ := Aside0.mk (Kd.S_below (by (with_reducible repeat (first | apply Kd.S_alloc | apply Kd.S_drewN | apply Kd.S_drew)); exact HO_5.out) hb); have n3_ := Aside0.mk (Kd.S_below (by (with_reducible repeat (first | apply Kd.S_alloc | apply Kd.S_drewN | apply Kd.S_drew)); exact HO_6.out) hb); have n4_ := Aside0.mk (Kd.R_below (by (with_reducible repeat (first | apply Kd.R_alloc | apply Kd.R_drewN | apply Kd.R_drew)); exact HL325_0.out) hb); have n5_ := Aside0.mk (Kd.R_below (by (with_reducible repeat (first | apply Kd.R_alloc | apply Kd.R_drewN | apply Kd.R_drew)); exact HL329_0.out) hb); have n6_ := Aside0.mk (Kd.R_lower (Kd.R_new' ho0 (Kd.R_lt (by (with_reducible repeat (first | apply Kd.R_alloc | apply Kd.R_drewN | apply Kd.R_drew)); exact HO_4.out))) (below_size (by repeat (first | (with_reducible first | exact HB.out | apply below_alloc | apply pw_below_drewN | apply below_drew1) | exact HB.out)))); have n7_ := Aside0.mk (Kd.C_below (by repeat (first | (with_reducible exact HR325_0.out) | with_reducible first | refine Kd.C_alloc ?_ _ | refine Kd.C_drewN ?_ _ | refine Kd.C_drew ?_ | exact HR325_0.out)) hb); have n8_ := Aside0.mk (Kd.C_below (by repeat (first | (with_reducible exact HR329_0.out) | with_reducible first | refine Kd.C_alloc ?_ _ | refine Kd.C_drewN ?_ _ | refine Kd.C_drew ?_ | exact HR329_0.out)) hb); have n9_ := Aside0.mk (below_step (by repeat (first | (with_reducible first | exact HB.out | apply below_alloc | apply pw_below_drewN | apply below_drew1) | exact HB.out)) hb); clear HO_3; clear HO_4; clear HO_5; clear HO_6; clear HL325_0; clear HL329_0; clear HR325_0; clear HR329_0; clear HB; have HO_3 := n0_; have HO_4 := n1_; have HO_5 := n2_; have HO_6 := n3_; have HL325_0 := n4_; have HL329_0 := n5_; have HO332 := n6_; have HR325_0 := n7_; have HR329_0 := n8_; have HB := n9_; clear n0_ n1_ n2_ n3_ n4_ n5_ n6_ n7_ n8_ n9_; (try clear hb); (try clear hb2); (try clear hk); (try clear hi); (try clear ho0)))
       go_loopg [9] k1 (fun kq v9 w' => ∃ (x8_2 : List Bool) (x9_2 : Int), v9 = .int .i64 x9_2 ∧ Aside0 (r7_Loops.l1 kq l0 t316 x4_1 t322 x6_1 x7_1 x8_2 x9_2 = some r) ∧ Aside0 (kq ≤ k1) ∧ Aside0 (Kd.S (Kd.slice 3 (Kd.int .i64)) 33 w' w.heap.size (fun k_ => some k_ ≠ ((.slice Ao17 t322.length co17) : Value).ownBlock ∧ some k_ ≠ (u6 : Value).ownBlock) (.slice (some ad325) t316.length co16) t316) ∧ Aside0 (Kd.R Kd.bool 4 w' w.heap.size (fun k_ => some k_ ≠ (v331 : Value).ownBlock) v320 x4_1) ∧ Aside0 (Kd.S (Kd.slice 3 (Kd.int .i64)) 33 w' w.heap.size (fun k_ => some k_ ≠ ((.slice (some ad325) t316.length co16) : Value).ownBlock ∧ some k_ ≠ (u6 : Value).ownBlock) (.slice Ao17 t322.length co17) t322) ∧ Aside0 (Kd.S (Kd.slice 3 (Kd.int .i64)) 33 w' w.heap.size (fun k_ => some k_ ≠ ((.slice (some ad325) t316.length co16) : Value).ownBlock ∧ some k_ ≠ ((.slice Ao17 t322.length co17) : Value).ownBlock) u6 x6_1) ∧ Aside0 (Kd.R Kd.bool 4 w' w.heap.size (fun k_ => some k_ ≠ (v320 : Value).ownBlock) v331 x8_2) ∧ Aside0 (Below w.heap.size w w'))
       case atStart => exact ⟨(t330), (0), (by first | rfl | (simp; done) | (simp [*]; done)), H', ⟨Nat.le_refl _⟩, ⟨by (with_reducible repeat (first | apply Kd.S_alloc | apply Kd.S_drewN | apply Kd.S_drew)); exact HO_3.out⟩, ⟨by (with_reducible repeat (first | apply Kd.R_alloc | apply Kd.R_drewN | apply Kd.R_drew)); exact Kd.R_mono HO_4.out (fun _ hk => hk.2)⟩, ⟨by (with_reducible repeat (first | apply Kd.S_alloc | apply Kd.S_drewN | apply Kd.S_drew)); exact HO_5.out⟩, ⟨by (with_reducible repeat (first | apply Kd.S_alloc | apply Kd.S_drewN | apply Kd.S_drew)); exact HO_6.out⟩, ⟨by (with_reducible repeat (first | apply Kd.R_alloc | apply Kd.R_drewN | apply Kd.R_drew)); exact Kd.R_mono HO332.out (fun _ hk => hk.2)⟩, ⟨by repeat (first | (with_reducible first | exact HB.out | apply below_alloc | apply pw_below_drewN | apply below_drew1) | exact HB.out)⟩⟩
       case round =>
        clear H'; try clear c1
        try clear c2
        try clear p2
        try clear c3
        try clear p3
        try clear q3
        try clear hx3
        try clear c5
        try clear p6
        try clear c8
        try clear c8b0
        try clear c9
        try clear c9b0
        try clear c10
        try clear c10b0
        try clear c11
        try clear c11b0
        try clear c11b1
        try clear c11b2
        try clear c12
        try clear hx325_0
        try clear hx329_0
        try clear p2
        try clear p325
        try clear p329
        try clear q325
        try clear q329
        obtain ⟨x8_2, x9_2, rfl, HA, HK2, HO_3, HO_4, HO_5, HO_6, HO_8, HB⟩ := hrel; cases gk with
        | zero => exact absurd HA.out (by simp [r7_Loops.l1])
        | succ k2 =>
         have H := HA.out; clear HA; simp only [r7_Loops.l1] at H
         by_cases c19 : x9_2 < (l0.length : Int)
         ·rw [if_pos c19] at H; have c19b0 : decide (x9_2 < (l0.length : Int)) = true := decide_eq_true c19
          clear c19; by_cases c20 : 0 ≤ x9_2
          ·rw [if_pos c20] at H; have c20b0 : decide (0 ≤ x9_2) = true := decide_eq_true c20
           clear c20; by_cases c21 : x9_2 < (x8_2.length : Int)
           ·rw [if_pos c21] at H; have c21b0 : decide (x9_2 < (x8_2.length : Int)) = true := decide_eq_true c21
            clear c21; obtain ⟨bq22, hbq22⟩ : ∃ b_ : Bool, b_ = (rdOf false x8_2 x9_2) := ⟨_, rfl⟩; replace H : (if bq22 = true then (if x9_2 < (x4_1.length : Int) then (if rdOf false x4_1 x9_2 = true then (r7_Loops.l1 k2 l0 t316 x4_1 t322 x6_1 x7_1 (x8_2.set (x9_2 : Int).toNat true) (wrap64 (x9_2 + 1))) else (r7_Loops.l1 k2 l0 t316 x4_1 t322 x6_1 x7_1 (x8_2.set (x9_2 : Int).toNat (x9_2 == x7_1)) (wrap64 (x9_2 + 1)))) else (none)) else (r7_Loops.l1 k2 l0 t316 x4_1 t322 x6_1 x7_1 (x8_2.set (x9_2 : Int).toNat (x9_2 == x7_1)) (wrap64 (x9_2 + 1)))) = some r := by rw [← hbq22] at H; exact H
            have Nbq22 := Aside0.mk hbq22; clear hbq22; by_cases c23 : bq22 = true
            ·subst c23; have H1 : (if x9_2 < (x4_1.length : Int) then (if rdOf false x4_1 x9_2 = true then (r7_Loops.l1 k2 l0 t316 x4_1 t322 x6_1 x7_1 (x8_2.set (x9_2 : Int).toNat true) (wrap64 (x9_2 + 1))) else (r7_Loops.l1 k2 l0 t316 x4_1 t322 x6_1 x7_1 (x8_2.set (x9_2 : Int).toNat (x9_2 == x7_1)) (wrap64 (x9_2 + 1)))) else (none)) = some r := by rw [if_pos rfl] at H; exact H
             clear H; have H := H1; clear H1; by_cases c24 : x9_2 < (x4_1.length : Int)
             ·rw [if_pos c24] at H; have c24b0 : decide (x9_2 < (x4_1.length : Int)) = true := decide_eq_true c24
              clear c24; obtain ⟨bq25, hbq25⟩ : ∃ b_ : Bool, b_ = (rdOf false x4_1 x9_2) := ⟨_, rfl⟩; replace H : (if bq25 = true then (r7_Loops.l1 k2 l0 t316 x4_1 t322 x6_1 x7_1 (x8_2.set (x9_2 : Int).toNat true) (wrap64 (x9_2 + 1))) else (r7_Loops.l1 k2 l0 t316 x4_1 t322 x6_1 x7_1 (x8_2.set (x9_2 : Int).toNat (x9_2 == x7_1)) (wrap64 (x9_2 + 1)))) = some r := by rw [← hbq25] at H; exact H
              have Nbq25 := Aside0.mk hbq25; clear hbq25; by_cases c26 : bq25 = true
              ·subst c26; have H1 : (r7_Loops.l1 k2 l0 t316 x4_1 t322 x6_1 x7_1 (x8_2.set (x9_2 : Int).toNat true) (wrap64 (x9_2 + 1))) = some r := by rw [if_pos rfl] at H; exact H
               clear H; have H := H1; clear H1; obtain ⟨y335, hy335⟩ : ∃ y_ : List Bool, y_ = (x8_2.set (x9_2 : Int).toNat true) := ⟨_, rfl⟩; replace H : (r7_Loops.l1 k2 l0 t316 x4_1 t322 x6_1 x7_1 y335 (wrap64 (x9_2 + 1))) = some r := by first | (with_reducible first | (rw [hy335]; exact H) | exact H) | (have H2_ := (Option.bind_some _ _).symm.trans H; first | with_reducible exact H2_ | (rw [hy335]; exact H2_)) | (rw [hy335]; exact H) | exact H
               have Ny335 := Aside0.mk hy335; clear hy335; have H' := Aside0.mk H
               clear H; obtain ⟨Ao28, co28, eo28⟩ := Kd.R_slice HO_8.out; subst eo28; have p333 : 0 ≤ (x9_2 : Int) := of_decide_eq_true (by with_reducible assumption)
               have q333 : x9_2 < (x8_2.length : Int) := of_decide_eq_true (by with_reducible assumption)
               obtain ⟨ad333, e333, hx333_0⟩ := Kd.at_bool (Kd.R_reads' HO_8.out).2.2 x9_2 p333 q333; (try rw [← Nbq22.out] at hx333_0)
               (try rw [← Nbq25.out] at hx333_0)
               cases e333; replace p333 := eq_true p333; replace q333 := eq_true q333; obtain ⟨Ao29, co29, eo29⟩ := Kd.R_slice HO_4.out; subst eo29; have p334 : 0 ≤ (x9_2 : Int) := of_decide_eq_true (by with_reducible assumption)
               have q334 : x9_2 < (x4_1.length : Int) := of_decide_eq_true (by with_reducible assumption)
               obtain ⟨ad334, e334, hx334_0⟩ := Kd.at_bool (Kd.R_reads' HO_4.out).2.2 x9_2 p334 q334; (try rw [← Nbq22.out] at hx334_0)
               (try rw [← Nbq25.out] at hx334_0)
               cases e334; replace p334 := eq_true p334; replace q334 := eq_true q334; have p27 : 0 ≤ (x9_2 : Int) := of_decide_eq_true (by with_reducible assumption)
               have q27 : (x9_2 : Int) < ((x8_2.length : Int) : Int) := of_decide_eq_true (by with_reducible assumption)
               obtain ⟨go27, co27, eo27, gb27, gl27, cl27, HG27⟩ := Kd.R_form HO_8.out (by omega)
               (first | cases eo27 | (injection eo27 with ea_ en_ ec_; (first | subst ea_ | (injection ea_ with ea_; subst ea_)); subst ec_; clear en_))
               have GB27 := Aside0.mk gb27; have GG27 := Aside0.mk HG27; clear gb27 gl27 HG27; (first | simp only [add_plain] at hx333_0 | skip)
               obtain ⟨hx27_0, hf27_0⟩ := Kd.R_celln false HO_8.out (x9_2 : Int) p27 q27; replace p27 := eq_true p27; replace q27 := eq_true q27; have HP30 := Kd.R_putg HO_8.out (x9_2 : Int) true; go_wp2_with (first | ((with_reducible refine gate_store (t := 4) (p := 61) rfl ?_); refine store_event (t := 4) (p := 61) (v := ?vo_w31) (w1 := (wr.setCell ⟨go27, (x9_2 : Int).toNat, none⟩ (.bool true))) ?hg ?ho ?hn ?hr ?_; (case ho => rfl); (case hg => rfl); (case hn => rfl); (case hr => first | (go_simp; done) | (go_simp; rfl)); intro w31 hw; have hg : wr.grownBy w31 (some go27) := (by rw [hw]; exact HP30.2); have hp_ : Kd.R Kd.bool 4 w31 w.heap.size (fun k_ => some k_ ≠ (.slice (some ad334) x4_1.length co29 : Value).ownBlock) (.slice (some ⟨go27, 0, none⟩) x8_2.length co28) y335 := (by rw [hw, Ny335.out]; exact HP30.1); clear HP30; have n0_ := Aside0.mk (Kd.S_over' (v := (.slice (some ⟨go27, 0, none⟩) x8_2.length co28)) (by (with_reducible repeat (first | apply Kd.S_alloc | apply Kd.S_drewN | apply Kd.S_drew)); exact HO_3.out) (Kd.R_typed HO_8.out) (by decide) hg); have n1_ := Aside0.mk (Kd.R_after (v := (.slice (some ⟨go27, 0, none⟩) x8_2.length co28)) (v1 := (.slice (some ⟨go27, 0, none⟩) x8_2.length co28)) (ok := (fun _ => True)) (by (with_reducible repeat (first | apply Kd.R_alloc | apply Kd.R_drewN | apply Kd.R_drew)); exact Kd.R_mono HO_4.out (fun _ hk => ⟨trivial, hk⟩)) hg (.inl rfl)); have n2_ := Aside0.mk (Kd.S_over' (v := (.slice (some ⟨go27, 0, none⟩) x8_2.length co28)) (by (with_reducible repeat (first | apply Kd.S_alloc | apply Kd.S_drewN | apply Kd.S_drew)); exact HO_5.out) (Kd.R_typed HO_8.out) (by decide) hg); have n3_ := Aside0.mk (Kd.S_over' (v := (.slice (some ⟨go27, 0, none⟩) x8_2.length co28)) (by (with_reducible repeat (first | apply Kd.S_alloc | apply Kd.S_drewN | apply Kd.S_drew)); exact HO_6.out) (Kd.R_typed HO_8.out) (by decide) hg); have n4_ := Aside0.mk (hp_); have n5_ := Aside0.mk ((by rw [hw]; exact below_set (HB.out) GB27.out : Below w.heap.size w w31)); clear HO_3; clear HO_4; clear HO_5; clear HO_6; clear HO_8; clear HB; have HO_3 := n0_; have HO_4 := n1_; have HO_5 := n2_; have HO_6 := n3_; have HO_8 := n4_; have HB := n5_; clear n0_ n1_ n2_ n3_ n4_ n5_; clear hg hw hp_))
               go_roundg k2
               case measure => have := HK1.out; have := HK2.out; omega
               case rel => exact ⟨(y335), (wrap64 (x9_2 + 1)), (by first | rfl | (simp; done) | (simp [*]; done)), H', ⟨by have := HK1.out; have := HK2.out; omega⟩, ⟨by (with_reducible repeat (first | apply Kd.S_alloc | apply Kd.S_drewN | apply Kd.S_drew)); exact HO_3.out⟩, ⟨by (with_reducible repeat (first | apply Kd.R_alloc | apply Kd.R_drewN | apply Kd.R_drew)); exact Kd.R_mono HO_4.out (fun _ hk => hk.2)⟩, ⟨by (with_reducible repeat (first | apply Kd.S_alloc | apply Kd.S_drewN | apply Kd.S_drew)); exact HO_5.out⟩, ⟨by (with_reducible repeat (first | apply Kd.S_alloc | apply Kd.S_drewN | apply Kd.S_drew)); exact HO_6.out⟩, ⟨by (with_reducible repeat (first | apply Kd.R_alloc | apply Kd.R_drewN | apply Kd.R_drew)); exact HO_8.out⟩, ⟨by repeat (first | (with_reducible first | exact HB.out | apply below_alloc | apply pw_below_drewN | apply below_drew1) | exact HB.out)⟩⟩
              ·replace c26 := Bool.eq_false_iff.mpr c26; subst c26; have H1 : (r7_Loops.l1 k2 l0 t316 x4_1 t322 x6_1 x7_1 (x8_2.set (x9_2 : Int).toNat (x9_2 == x7_1)) (wrap64 (x9_2 + 1))) = some r := by rw [if_neg (show ¬ (false = true) by decide)] at H; exact H
               clear H; have H := H1; clear H1; obtain ⟨y336, hy336⟩ : ∃ y_ : List Bool, y_ = (x8_2.set (x9_2 : Int).toNat (x9_2 == x7_1)) := ⟨_, rfl⟩; replace H : (r7_Loops.l1 k2 l0 t316 x4_1 t322 x6_1 x7_1 y336 (wrap64 (x9_2 + 1))) = some r := by first | (with_reducible first | (rw [hy336]; exact H) | exact H) | (have H2_ := (Option.bind_some _ _).symm.trans H; first | with_reducible exact H2_ | (rw [hy336]; exact H2_)) | (rw [hy336]; exact H) | exact H
               have Ny336 := Aside0.mk hy336; clear hy336; have H' := Aside0.mk H
               clear H; obtain ⟨Ao33, co33, eo33⟩ := Kd.R_slice HO_8.out; subst eo33; have p333 : 0 ≤ (x9_2 : Int) := of_decide_eq_true (by with_reducible assumption)
               have q333 : x9_2 < (x8_2.length : Int) := of_decide_eq_true (by with_reducible assumption)
               obtain ⟨ad333, e333, hx333_0⟩ := Kd.at_bool (Kd.R_reads' HO_8.out).2.2 x9_2 p333 q333; (try rw [← Nbq22.out] at hx333_0)
               (try rw [← Nbq25.out] at hx333_0)
               cases e333; replace p333 := eq_true p333; replace q333 := eq_true q333; obtain ⟨Ao34, co34, eo34⟩ := Kd.R_slice HO_4.out; subst eo34; have p334 : 0 ≤ (x9_2 : Int) := of_decide_eq_true (by with_reducible assumption)
               have q334 : x9_2 < (x4_1.length : Int) := of_decide_eq_true (by with_reducible assumption)
               obtain ⟨ad334, e334, hx334_0⟩ := Kd.at_bool (Kd.R_reads' HO_4.out).2.2 x9_2 p334 q334; (try rw [← Nbq22.out] at hx334_0)
               (try rw [← Nbq25.out] at hx334_0)
               cases e334; replace p334 := eq_true p334; replace q334 := eq_true q334; have p32 : 0 ≤ (x9_2 : Int) := of_decide_eq_true (by with_reducible assumption)
               have q32 : (x9_2 : Int) < ((x8_2.length : Int) : Int) := of_decide_eq_true (by with_reducible assumption)
               obtain ⟨go32, co32, eo32, gb32, gl32, cl32, HG32⟩ := Kd.R_form HO_8.out (by omega)
               (first | cases eo32 | (injection eo32 with ea_ en_ ec_; (first | subst ea_ | (injection ea_ with ea_; subst ea_)); subst ec_; clear en_))
               have GB32 := Aside0.mk gb32; have GG32 := Aside0.mk HG32; clear gb32 gl32 HG32; (first | simp only [add_plain] at hx333_0 | skip)
               obtain ⟨hx32_0, hf32_0⟩ := Kd.R_celln false HO_8.out (x9_2 : Int) p32 q32; replace p32 := eq_true p32; replace q32 := eq_true q32; have HP35 := Kd.R_putg HO_8.out (x9_2 : Int) (x9_2 == x7_1); go_wp2_with (first | ((with_reducible refine gate_store (t := 4) (p := 61) rfl ?_); refine store_event (t := 4) (p := 61) (v := ?vo_w36) (w1 := (wr.setCell ⟨go32, (x9_2 : Int).toNat, none⟩ (.bool (x9_2 == x7_1)))) ?hg ?ho ?hn ?hr ?_; (case ho => rfl); (case hg => rfl); (case hn => rfl); (case hr => first | (go_simp; done) | (go_simp; rfl)); intro w36 hw; have hg : wr.grownBy w36 (some go32) := (by rw [hw]; exact HP35.2); have hp_ : Kd.R Kd.bool 4 w36 w.heap.size (fun k_ => some k_ ≠ (.slice (some ad334) x4_1.length co34 : Value).ownBlock) (.slice (some ⟨go32, 0, none⟩) x8_2.length co33) y336 := (by rw [hw, Ny336.out]; exact HP35.1); clear HP35; have n0_ := Aside0.mk (Kd.S_over' (v := (.slice (some ⟨go32, 0, none⟩) x8_2.length co33)) (by (with_reducible repeat (first | apply Kd.S_alloc | apply Kd.S_drewN | apply Kd.S_drew)); exact HO_3.out) (Kd.R_typed HO_8.out) (by decide) hg); have n1_ := Aside0.mk (Kd.R_after (v := (.slice (some ⟨go32, 0, none⟩) x8_2.length co33)) (v1 := (.slice (some ⟨go32, 0, none⟩) x8_2.length co33)) (ok := (fun _ => True)) (by (with_reducible repeat (first | apply Kd.R_alloc | apply Kd.R_drewN | apply Kd.R_drew)); exact Kd.R_mono HO_4.out (fun _ hk => ⟨trivial, hk⟩)) hg (.inl rfl)); have n2_ := Aside0.mk (Kd.S_over' (v := (.slice (some ⟨go32, 0, none⟩) x8_2.length co33)) (by (with_reducible repeat (first | apply Kd.S_alloc | apply Kd.S_drewN | apply Kd.S_drew)); exact HO_5.out) (Kd.R_typed HO_8.out) (by decide) hg); have n3_ := Aside0.mk (Kd.S_over' (v := (.slice (some ⟨go32, 0, none⟩) x8_2.length co33)) (by (with_reducible repeat (first | apply Kd.S_alloc | apply Kd.S_drewN | apply Kd.S_drew)); exact HO_6.out) (Kd.R_typed HO_8.out) (by decide) hg); have n4_ := Aside0.mk (hp_); have n5_ := Aside0.mk ((by rw [hw]; exact below_set (HB.out) GB32.out : Below w.heap.size w w36)); clear HO_3; clear HO_4; clear HO_5; clear HO_6; clear HO_8; clear HB; have HO_3 := n0_; have HO_4 := n1_; have HO_5 := n2_; have HO_6 := n3_; have HO_8 := n4_; have HB := n5_; clear n0_ n1_ n2_ n3_ n4_ n5_; clear hg hw hp_))
               go_roundg k2
               case measure => have := HK1.out; have := HK2.out; omega
               case rel => exact ⟨(y336), (wrap64 (x9_2 + 1)), (by first | rfl | (simp; done) | (simp [*]; done)), H', ⟨by have := HK1.out; have := HK2.out; omega⟩, ⟨by (with_reducible repeat (first | apply Kd.S_alloc | apply Kd.S_drewN | apply Kd.S_drew)); exact HO_3.out⟩, ⟨by (with_reducible repeat (first | apply Kd.R_alloc | apply Kd.R_drewN | apply Kd.R_drew)); exact Kd.R_mono HO_4.out (fun _ hk => hk.2)⟩, ⟨by (with_reducible repeat (first | apply Kd.S_alloc | apply Kd.S_drewN | apply Kd.S_drew)); exact HO_5.out⟩, ⟨by (with_reducible repeat (first | apply Kd.S_alloc | apply Kd.S_drewN | apply Kd.S_drew)); exact HO_6.out⟩, ⟨by (with_reducible repeat (first | apply Kd.R_alloc | apply Kd.R_drewN | apply Kd.R_drew)); exact HO_8.out⟩, ⟨by repeat (first | (with_reducible first | exact HB.out | apply below_alloc | apply pw_below_drewN | apply below_drew1) | exact HB.out)⟩⟩
             ·rw [if_neg c24] at H; exact absurd H (by simp)
            ·replace c23 := Bool.eq_false_iff.mpr c23; subst c23; have H1 : (r7_Loops.l1 k2 l0 t316 x4_1 t322 x6_1 x7_1 (x8_2.set (x9_2 : Int).toNat (x9_2 == x7_1)) (wrap64 (x9_2 + 1))) = some r := by rw [if_neg (show ¬ (false = true) by decide)] at H; exact H
             clear H; have H := H1; clear H1; obtain ⟨y337, hy337⟩ : ∃ y_ : List Bool, y_ = (x8_2.set (x9_2 : Int).toNat (x9_2 == x7_1)) := ⟨_, rfl⟩; replace H : (r7_Loops.l1 k2 l0 t316 x4_1 t322 x6_1 x7_1 y337 (wrap64 (x9_2 + 1))) = some r := by first | (with_reducible first | (rw [hy337]; exact H) | exact H) | (have H2_ := (Option.bind_some _ _).symm.trans H; first | with_reducible exact H2_ | (rw [hy337]; exact H2_)) | (rw [hy337]; exact H) | exact H
             have Ny337 := Aside0.mk hy337; clear hy337; have H' := Aside0.mk H
             clear H; obtain ⟨Ao38, co38, eo38⟩ := Kd.R_slice HO_8.out; subst eo38; have p333 : 0 ≤ (x9_2 : Int) := of_decide_eq_true (by with_reducible assumption)
             have q333 : x9_2 < (x8_2.length : Int) := of_decide_eq_true (by with_reducible assumption)
             obtain ⟨ad333, e333, hx333_0⟩ := Kd.at_bool (Kd.R_reads' HO_8.out).2.2 x9_2 p333 q333; (try rw [← Nbq22.out] at hx333_0)
             cases e333; replace p333 := eq_true p333; replace q333 := eq_true q333; have p37 : 0 ≤ (x9_2 : Int) := of_decide_eq_true (by with_reducible assumption)
             have q37 : (x9_2 : Int) < ((x8_2.length : Int) : Int) := of_decide_eq_true (by with_reducible assumption)
             obtain ⟨go37, co37, eo37, gb37, gl37, cl37, HG37⟩ := Kd.R_form HO_8.out (by omega)
             (first | cases eo37 | (injection eo37 with ea_ en_ ec_; (first | subst ea_ | (injection ea_ with ea_; subst ea_)); subst ec_; clear en_))
             have GB37 := Aside0.mk gb37; have GG37 := Aside0.mk HG37; clear gb37 gl37 HG37; (first | simp only [add_plain] at hx333_0 | skip)
             obtain ⟨hx37_0, hf37_0⟩ := Kd.R_celln false HO_8.out (x9_2 : Int) p37 q37; replace p37 := eq_true p37; replace q37 := eq_true q37; have HP39 := Kd.R_putg HO_8.out (x9_2 : Int) (x9_2 == x7_1); go_wp2_with (first | ((with_reducible refine gate_store (t := 4) (p := 61) rfl ?_); refine store_event (t := 4) (p := 61) (v := ?vo_w40) (w1 := (wr.setCell ⟨go37, (x9_2 : Int).toNat, none⟩ (.bool (x9_2 == x7_1)))) ?hg ?ho ?hn ?hr ?_; (case ho => rfl); (case hg => rfl); (case hn => rfl); (case hr => first | (go_simp; done) | (go_simp; rfl)); intro w40 hw; have hg : wr.grownBy w40 (some go37) := (by rw [hw]; exact HP39.2); have hp_ : Kd.R Kd.bool 4 w40 w.heap.size (fun k_ => some k_ ≠ (v320 : Value).ownBlock) (.slice (some ⟨go37, 0, none⟩) x8_2.length co38) y337 := (by rw [hw, Ny337.out]; exact HP39.1); clear HP39; have n0_ := Aside0.mk (Kd.S_over' (v := (.slice (some ⟨go37, 0, none⟩) x8_2.length co38)) (by (with_reducible repeat (first | apply Kd.S_alloc | apply Kd.S_drewN | apply Kd.S_drew)); exact HO_3.out) (Kd.R_typed HO_8.out) (by decide) hg); have n1_ := Aside0.mk (Kd.R_after (v := (.slice (some ⟨go37, 0, none⟩) x8_2.length co38)) (v1 := (.slice (some ⟨go37, 0, none⟩) x8_2.length co38)) (ok := (fun _ => True)) (by (with_reducible repeat (first | apply Kd.R_alloc | apply Kd.R_drewN | apply Kd.R_drew)); exact Kd.R_mono HO_4.out (fun _ hk => ⟨trivial, hk⟩)) hg (.inl rfl)); have n2_ := Aside0.mk (Kd.S_over' (v := (.slice (some ⟨go37, 0, none⟩) x8_2.length co38)) (by (with_reducible repeat (first | apply Kd.S_alloc | apply Kd.S_drewN | apply Kd.S_drew)); exact HO_5.out) (Kd.R_typed HO_8.out) (by decide) hg); have n3_ := Aside0.mk (Kd.S_over' (v := (.slice (some ⟨go37, 0, none⟩) x8_2.length co38)) (by (with_reducible repeat (first | apply Kd.S_alloc | apply Kd.S_drewN | apply Kd.S_drew)); exact HO_6.out) (Kd.R_typed HO_8.out) (by decide) hg); have n4_ := Aside0.mk (hp_); have n5_ := Aside0.mk ((by rw [hw]; exact below_set (HB.out) GB37.out : Below w.heap.size w w40)); clear HO_3; clear HO_4; clear HO_5; clear HO_6; clear HO_8; clear HB; have HO_3 := n0_; have HO_4 := n1_; have HO_5 := n2_; have HO_6 := n3_; have HO_8 := n4_; have HB := n5_; clear n0_ n1_ n2_ n3_ n4_ n5_; clear hg hw hp_))
             go_roundg k2
             case measure => have := HK1.out; have := HK2.out; omega
             case rel => exact ⟨(y337), (wrap64 (x9_2 + 1)), (by first | rfl | (simp; done) | (simp [*]; done)), H', ⟨by have := HK1.out; have := HK2.out; omega⟩, ⟨by (with_reducible repeat (first | apply Kd.S_alloc | apply Kd.S_drewN | apply Kd.S_drew)); exact HO_3.out⟩, ⟨by (with_reducible repeat (first | apply Kd.R_alloc | apply Kd.R_drewN | apply Kd.R_drew)); exact Kd.R_mono HO_4.out (fun _ hk => hk.2)⟩, ⟨by (with_reducible repeat (first | apply Kd.S_alloc | apply Kd.S_drewN | apply Kd.S_drew)); exact HO_5.out⟩, ⟨by (with_reducible repeat (first | apply Kd.S_alloc | apply Kd.S_drewN | apply Kd.S_drew)); exact HO_6.out⟩, ⟨by (with_reducible repeat (first | apply Kd.R_alloc | apply Kd.R_drewN | apply Kd.R_drew)); exact HO_8.out⟩, ⟨by repeat (first | (with_reducible first | exact HB.out | apply below_alloc | apply pw_below_drewN | apply below_drew1) | exact HB.out)⟩⟩
           ·rw [if_neg c21] at H; exact absurd H (by simp)
          ·rw [if_neg c20] at H; exact absurd H (by simp)
         ·rw [if_neg c19] at H; have c19b0 : decide (x9_2 < (l0.length : Int)) = false := decide_eq_false c19
          clear c19; replace H := Option.bind_eq_some_iff.mp H; obtain ⟨t338, A410, H⟩ := H; replace H : (if x6_1.length < 5864062014805 then (r7_Loops.l0 k2 l0 t316 x4_1 t322 (x6_1 ++ [t338]) (wrap64 (x7_1 + 1))) else (none)) = some r := H
          have A41 := Aside0.mk A410; clear A410; by_cases c42 : x6_1.length < 5864062014805
          ·rw [if_pos c42] at H; have LMc42 := Aside0.mk c42; clear c42; obtain ⟨y341, hy341⟩ : ∃ y_ : List (List Int), y_ = (x6_1 ++ [t338]) := ⟨_, rfl⟩; replace H : (r7_Loops.l0 k2 l0 t316 x4_1 t322 y341 (wrap64 (x7_1 + 1))) = some r := by first | (with_reducible first | (rw [hy341]; exact H) | exact H) | (have H2_ := (Option.bind_some _ _).symm.trans H; first | with_reducible exact H2_ | (rw [hy341]; exact H2_)) | (rw [hy341]; exact H) | exact H
           have Ny341 := Aside0.mk hy341; clear hy341; have H' := Aside0.mk H
           clear H; obtain ⟨Ao43, co43, eo43⟩ := Kd.R_slice HO_8.out; subst eo43; go_wp2_with (first | ((with_reducible refine gate_callee (f := 58) rfl ?_); refine goesL_ (some 64) rfl rfl Try.func58 (by kernel_rfl) rfl #[.slice Ao43 x8_2.length co43] rfl (by (try simp only [List.map_toArray, List.map_cons, List.map_nil]); first | done | rfl | (simp only [List.length_drop, List.length_take]; rfl)) ?_; (with_reducible refine (r7_rising.calls k2 _ _ x8_2 t338 _ ?side1 ?side2 A41.out).mono ?_); (case side1 => repeat (first | exact (Kd.R_reads' HO_8.out).2.2 | with_reducible first | refine Kd.C_alloc ?_ _ | refine Kd.C_drewN ?_ _ | refine Kd.C_drew ?_)); (case side2 => exact (Kd.R_reads' HO_8.out).2.1); rintro e w44 ⟨v339, rfl, ho0, hb⟩; refine ⟨_, rfl, ?_⟩; have n0_ := Aside0.mk (Kd.S_elder' (by (with_reducible repeat (first | apply Kd.S_alloc | apply Kd.S_drewN | apply Kd.S_drew)); exact HO_3.out) (Kd.R_base ho0) hb); have n1_ := Aside0.mk (Kd.R_below (by (with_reducible repeat (first | apply Kd.R_alloc | apply Kd.R_drewN | apply Kd.R_drew)); exact HO_4.out) hb); have n2_ := Aside0.mk (Kd.S_elder' (by (with_reducible repeat (first | apply Kd.S_alloc | apply Kd.S_drewN | apply Kd.S_drew)); exact HO_5.out) (Kd.R_base ho0) hb); have n3_ := Aside0.mk (Kd.S_elder' (by (with_reducible repeat (first | apply Kd.S_alloc | apply Kd.S_drewN | apply Kd.S_drew)); exact HO_6.out) (Kd.R_base ho0) hb); have n4_ := Aside0.mk (Kd.R_below (by (with_reducible repeat (first | apply Kd.R_alloc | apply Kd.R_drewN | apply Kd.R_drew)); exact HO_8.out) hb); have n5_ := Aside0.mk (Kd.R_lower ho0 (below_size (by repeat (first | (with_reducible first | exact HB.out | apply below_alloc | apply pw_below_drewN | apply below_drew1) | exact HB.out)))); have n6_ := Aside0.mk (below_step (by repeat (first | (with_reducible first | exact HB.out | apply below_alloc | apply pw_below_drewN | apply below_drew1) | exact HB.out)) hb); clear HO_3; clear HO_4; clear HO_5; clear HO_6; clear HO_8; clear HB; have HO_3 := n0_; have HO_4 := n1_; have HO_5 := n2_; have HO_6 := n3_; have HO_8 := n4_; have HO340 := n5_; have HB := n6_; clear n0_ n1_ n2_ n3_ n4_ n5_ n6_; (try clear hb); (try clear hb2); (try clear hk); (try clear hi); (try clear ho0); obtain ⟨Ao46, co46, eo46⟩ := Kd.R_slice HO340.out; subst eo46) | ((with_reducible refine gate_builtin (b := .append) (xs := #[.tmp 62, .tmp 65]) rfl ?_); at_builtin; refine Kd.S_append (Kd.slice 3 (Kd.int .i64)) (w0 := w) w.heap.size rfl (.tmp 62) (.tmp 65) 22 33 (.slice none 0 0) 24 rfl Try.underlying22 info33 rfl (by decide) (by omega) u6 x6_1 t338 [.slice Ao46 t338.length co46] (fun k_ => some k_ ≠ (.slice (some ad325) t316.length co16 : Value).ownBlock ∧ some k_ ≠ (.slice Ao17 t322.length co17 : Value).ownBlock) (fun k_ => some k_ = (.slice Ao46 t338.length co46 : Value).ownBlock) rfl rfl ?aP (fun k_ hk_ => ((Kd.R_mono (ok' := fun k_ => ((fun k_ => some k_ ≠ (.slice (some ad325) t316.length co16 : Value).ownBlock ∧ some k_ ≠ (.slice Ao17 t322.length co17 : Value).ownBlock)) k_ ∧ some k_ ≠ (u6 : Value).ownBlock) (Kd.R_apart' (Kd.R_apart' (Kd.R_apart' (HO340.out) (Kd.S_typed HO_3.out) (by decide)) (Kd.S_typed HO_5.out) (by decide)) (Kd.S_typed HO_6.out) (by decide)) (fun k_ hk => ⟨⟨hk.1.1.2, hk.1.2⟩, hk.2⟩))).1 k_ hk_.symm) ?aF ?aO ?aB ?aS ?aL ?_; (case aP => exact Kd.M_row (Kd.R_mono (Kd.R_tight rfl (Kd.R_mono (ok' := fun k_ => ((fun k_ => some k_ ≠ (.slice (some ad325) t316.length co16 : Value).ownBlock ∧ some k_ ≠ (.slice Ao17 t322.length co17 : Value).ownBlock)) k_ ∧ some k_ ≠ (u6 : Value).ownBlock) (Kd.R_apart' (Kd.R_apart' (Kd.R_apart' (HO340.out) (Kd.S_typed HO_3.out) (by decide)) (Kd.S_typed HO_5.out) (by decide)) (Kd.S_typed HO_6.out) (by decide)) (fun k_ hk => ⟨⟨hk.1.1.2, hk.1.2⟩, hk.2⟩))) (fun _ h_ => h_))); (case aB => exact (by repeat (first | (with_reducible first | exact HB.out | apply below_alloc | apply pw_below_drewN | apply below_drew1) | exact HB.out))); (case aF => exact (fun k_ hk => ⟨Kd.fresh' (Kd.S_lt (by (with_reducible repeat (first | apply Kd.S_alloc | apply Kd.S_drewN | apply Kd.S_drew)); exact HO_3.out)) k_ hk, Kd.fresh' (Kd.S_lt (by (with_reducible repeat (first | apply Kd.S_alloc | apply Kd.S_drewN | apply Kd.S_drew)); exact HO_5.out)) k_ hk⟩)); (case aO => exact (by (with_reducible repeat (first | apply Kd.S_alloc | apply Kd.S_drewN | apply Kd.S_drew)); exact Kd.S_mono HO_6.out (fun k_ hk => ⟨⟨hk.1.1, hk.1.2⟩, fun e_ => hk.2 e_⟩))); (case aS => exact (below_size (by repeat (first | (with_reducible first | exact HB.out | apply below_alloc | apply pw_below_drewN | apply below_drew1) | exact HB.out)))); (case aL => have := LMc42.out; omega); intro v342 w45 ho hb hg hat; rw [← Ny341.out] at ho; have n0_ := Aside0.mk (Kd.S_after (ok := (fun k_ => some k_ ≠ (.slice Ao17 t322.length co17 : Value).ownBlock ∧ some k_ ≠ (.slice Ao46 t338.length co46 : Value).ownBlock)) (by (with_reducible repeat (first | apply Kd.S_alloc | apply Kd.S_drewN | apply Kd.S_drew)); exact Kd.S_mono HO_3.out (fun _ hk => ⟨⟨hk.1.1, hk.2⟩, hk.1.2⟩)) hg hat); have n1_ := Aside0.mk (Kd.R_over' (by (with_reducible repeat (first | apply Kd.R_alloc | apply Kd.R_drewN | apply Kd.R_drew)); exact HO_4.out) (Kd.S_typed (by (with_reducible repeat (first | apply Kd.S_alloc | apply Kd.S_drewN | apply Kd.S_drew)); exact HO_6.out)) (by decide) hg); have n2_ := Aside0.mk (Kd.S_after (ok := (fun k_ => some k_ ≠ (.slice (some ad325) t316.length co16 : Value).ownBlock ∧ some k_ ≠ (.slice Ao46 t338.length co46 : Value).ownBlock)) (by (with_reducible repeat (first | apply Kd.S_alloc | apply Kd.S_drewN | apply Kd.S_drew)); exact Kd.S_mono HO_5.out (fun _ hk => ⟨⟨hk.1.1, hk.2⟩, hk.1.2⟩)) hg hat); have n3_ := Aside0.mk (Kd.R_over' (by (with_reducible repeat (first | apply Kd.R_alloc | apply Kd.R_drewN | apply Kd.R_drew)); exact HO_8.out) (Kd.S_typed (by (with_reducible repeat (first | apply Kd.S_alloc | apply Kd.S_drewN | apply Kd.S_drew)); exact HO_6.out)) (by decide) hg); have n4_ := Aside0.mk (hb); have n5_ := Aside0.mk (ho); clear HO_3; clear HO_4; clear HO_5; clear HO_8; clear HB; clear HO_6; clear HO340; have HO_3 := n0_; have HO_4 := n1_; have HO_5 := n2_; have HO_8 := n3_; have HB := n4_; have HO343 := n5_; clear n0_ n1_ n2_ n3_ n4_ n5_; clear ho hb hg hat))
           go_roundg k2
           case measure => have := HK1.out; have := HK2.out; omega
           case rel => exact ⟨(x4_1), (y341), (wrap64 (x7_1 + 1)), (by first | rfl | (simp; done) | (simp [*]; done)), H', ⟨by have := HK1.out; have := HK2.out; omega⟩, ⟨by (with_reducible repeat (first | apply Kd.S_alloc | apply Kd.S_drewN | apply Kd.S_drew)); exact Kd.S_mono HO_3.out (fun _ hk => ⟨hk.1.1, hk.2⟩)⟩, ⟨by (with_reducible repeat (first | apply Kd.R_alloc | apply Kd.R_drewN | apply Kd.R_drew)); exact Kd.R_mono HO_4.out (fun _ hk => trivial)⟩, ⟨by (with_reducible repeat (first | apply Kd.S_alloc | apply Kd.S_drewN | apply Kd.S_drew)); exact Kd.S_mono HO_5.out (fun _ hk => ⟨hk.1.1, hk.2⟩)⟩, ⟨by (with_reducible repeat (first | apply Kd.S_alloc | apply Kd.S_drewN | apply Kd.S_drew)); exact HO343.out⟩, ⟨by repeat (first | (with_reducible first | exact HB.out | apply below_alloc | apply pw_below_drewN | apply below_drew1) | exact HB.out)⟩⟩
          ·rw [if_neg c42] at H; exact absurd H (by simp)
     ·rw [if_neg c10] at H; exact absurd H (by simp)
    ·rw [if_neg c9] at H; exact absurd H (by simp)
   ·rw [if_neg c8] at H; have c8b0 : decide (x7_1 < (l0.length : Int)) = false := decide_eq_false c8
    clear c8; obtain rfl := Option.some.inj H; go_wp2
    go_ret
    exact ⟨_, by first | rfl | (simp [errW_none, errW_some] <;> rfl) | (simp [*, errW_none, errW_some] <;> rfl), by (with_reducible repeat (first | apply Kd.S_alloc | apply Kd.S_drewN | apply Kd.S_drew)); exact Kd.S_mono HO_6.out (fun _ hk => trivial), by repeat (first | (with_reducible first | exact HB.out | apply below_alloc | apply pw_below_drewN | apply below_drew1) | exact HB.out)⟩
end Go.Proofs.Ytjjedbcgkljdeaa.A
end
section
namespace Go.Proofs.Ytjjedbcgkljdeaa.A
open Go.RowKit Go.Proofs.YtjjedbcgkljdeaaW.PrintWords Go.Proofs.YtjjedbcgkljdeaaW.PrintLast Go.Proofs.YtjjedbcgkljdeaaW.PrintMore
set_option linter.unusedVariables false
set_option linter.unusedSimpArgs false
mutual
def r7_Reducible.l0 : Nat → List (List Int) → List (List Bool) → List Bool → List (List Int) → Int → Option (Bool)
 | 0, _, _, _, _, _ => none
 | k + 1, x0, x3, x4, x5, x6 => if x6 < (x0.length : Int) then (r7_Reducible.l1 k x0 x3 x4 x5 x6 0) else (r7_Reducible.l2 k x0 x4 x5 0)
def r7_Reducible.l1 : Nat → List (List Int) → List (List Bool) → List Bool → List (List Int) → Int → Int → Option (Bool)
 | 0, _, _, _, _, _, _ => none
 | k + 1, x0, x3, x4, x5, x6, x7 => if 0 ≤ x6 then (if x6 < (x0.length : Int) then (if x7 < ((rd_L1 x0 x6).length : Int) then (if 0 ≤ x7 then (if 0 ≤ (rd (rd_L1 x0 x6) x7) then (if (rd (rd_L1 x0 x6) x7) < (x3.length : Int) then (if x6 < ((rd_L3 x3 (rd (rd_L1 x0 x6) x7)).length : Int) then (if (rdOf false (rd_L3 x3 (rd (rd_L1 x0 x6) x7)) x6 = true) then (r7_Reducible.l1 k x0 x3 x4 x5 x6 (wrap64 (x7 + 1))) else (if x6 < (x5.length : Int) then (if (rd_L1 x5 x6).length < 17592186044416 then (r7_Reducible.l1 k x0 x3 x4 (x5.set (x6 : Int).toNat ((rd_L1 x5 x6) ++ [rd (rd_L1 x0 x6) x7])) x6 (wrap64 (x7 + 1))) else (none)) else (none))) else (none)) else (none)) else (none)) else (none)) else (r7_Reducible.l0 k x0 x3 x4 x5 (wrap64 (x6 + 1)))) else (none)) else (none)
def r7_Reducible.l2 : Nat → List (List Int) → List Bool → List (List Int) → Int → Option (Bool)
 | 0, _, _, _, _ => none
 | k + 1, x0, x4, x5, x9 => if x9 < (x0.length : Int) then (if 0 ≤ x9 then (if x9 < (x4.length : Int) then (if rdOf false x4 x9 = true then (if x9 < (x5.length : Int) then ((r7_From.f k x5 (rd_L1 x5 x9) (-1)).bind fun t365 => (if x9 < (t365.length : Int) then (if rdOf false t365 x9 = true then (some false) else (r7_Reducible.l2 k x0 x4 x5 (wrap64 (x9 + 1)))) else (none))) else (none)) else (r7_Reducible.l2 k x0 x4 x5 (wrap64 (x9 + 1)))) else (none)) else (none)) else (some true)
end
def r7_Reducible.f (k : Nat) (l0 : List (List Int)) : Option (Bool) := (r7_Table.f k l0).bind fun t344 => ((r7_Reached.f k l0).bind fun t347 => (if 0 ≤ (l0.length : Int) then (if ((l0.length : Int) : Int).toNat ≤ 11728124029610 then (r7_Reducible.l0 k l0 t344 t347 (List.replicate ((l0.length : Int) : Int).toNat []) 0) else (none)) else (none)))
set_option maxHeartbeats 8000000 in
set_option maxRecDepth 100000 in
theorem r7_Reducible.calls (k : Nat) (A0 : Option Addr) (c0 : Nat) (l0 : List (List Int)) (r : Bool) (w : World) (hr0 : Kd.C (Kd.slice 3 (Kd.int .i64)) w A0 l0.length l0) (hc0 : l0.length ≤ c0) (h : r7_Reducible.f k l0 = some r) :
  Calls Try.prog 22 #[.slice A0 l0.length c0] w fun e w' => e = .returned (.bool r) ∧ Below w.heap.size w w' := by
 have HR0 := Aside0.mk hr0; have HC0 := Aside0.mk hc0; clear hr0 hc0; have HB := Aside0.mk (Below.refl w.heap.size w); have H : ((r7_Table.f k l0).bind fun t344 => ((r7_Reached.f k l0).bind fun t347 => (if 0 ≤ (l0.length : Int) then (if ((l0.length : Int) : Int).toNat ≤ 11728124029610 then (r7_Reducible.l0 k l0 t344 t347 (List.replicate ((l0.length : Int) : Int).toNat []) 0) else (none)) else (none)))) = some r := h
 clear h; replace H := Option.bind_eq_some_iff.mp H; obtain ⟨t344, A20, H⟩ := H; replace H : ((r7_Reached.f k l0).bind fun t347 => (if 0 ≤ (l0.length : Int) then (if ((l0.length : Int) : Int).toNat ≤ 11728124029610 then (r7_Reducible.l0 k l0 t344 t347 (List.replicate ((l0.length : Int) : Int).toNat []) 0) else (none)) else (none))) = some r := H
 have A2 := Aside0.mk A20; clear A20; replace H := Option.bind_eq_some_iff.mp H; obtain ⟨t347, A30, H⟩ := H; replace H : (if 0 ≤ (l0.length : Int) then (if ((l0.length : Int) : Int).toNat ≤ 11728124029610 then (r7_Reducible.l0 k l0 t344 t347 (List.replicate ((l0.length : Int) : Int).toNat []) 0) else (none)) else (none)) = some r := H
 have A3 := Aside0.mk A30; clear A30; by_cases c4 : 0 ≤ (l0.length : Int)
 ·rw [if_pos c4] at H; have c4b0 := eq_true c4; have c4b1 : decide (0 ≤ (l0.length : Int)) = true := decide_eq_true c4
  clear c4; by_cases c5 : ((l0.length : Int) : Int).toNat ≤ 11728124029610
  ·rw [if_pos c5] at H; have c5b0 := eq_true c5; have c5b1 : decide (((l0.length : Int) : Int).toNat ≤ 11728124029610) = true := decide_eq_true c5
   clear c5; obtain ⟨y350, hy350⟩ : ∃ y_ : List (List Int), y_ = (List.replicate ((l0.length : Int) : Int).toNat []) := ⟨_, rfl⟩; replace H : (r7_Reducible.l0 k l0 t344 t347 y350 0) = some r := by first | (with_reducible first | (rw [hy350]; exact H) | exact H) | (have H2_ := (Option.bind_some _ _).symm.trans H; first | with_reducible exact H2_ | (rw [hy350]; exact H2_)) | (rw [hy350]; exact H) | exact H
   have Ny350 := Aside0.mk hy350; clear hy350; have H' := Aside0.mk H
   clear H; go_enter Try.func22, Try.ntmps22
   go_wp2_with (first | ((with_reducible refine gate_callee (f := 43) rfl ?_); refine goesL_ (some 11) rfl rfl Try.func43 (by kernel_rfl) rfl #[.slice A0 l0.length c0] rfl (by (try simp only [List.map_toArray, List.map_cons, List.map_nil]); first | done | rfl | (simp only [List.length_drop, List.length_take]; rfl)) ?_; (with_reducible refine (r7_Table.calls k _ _ l0 t344 _ ?side1 ?side2 A2.out).mono ?_); (case side1 => repeat (first | exact HR0.out | with_reducible first | refine Kd.C_alloc ?_ _ | refine Kd.C_drewN ?_ _ | refine Kd.C_drew ?_)); (case side2 => exact HC0.out); rintro e w6 ⟨v345, rfl, ho0, hb⟩; refine ⟨_, rfl, ?_⟩; have n0_ := Aside0.mk (Kd.S_lower ho0 (below_size (by repeat (first | (with_reducible first | exact HB.out | apply below_alloc | apply pw_below_drewN | apply below_drew1) | exact HB.out)))); have n1_ := Aside0.mk (below_step (by repeat (first | (with_reducible first | exact HB.out | apply below_alloc | apply pw_below_drewN | apply below_drew1) | exact HB.out)) hb); clear HB; have HO346 := n0_; have HB := n1_; clear n0_ n1_; (try clear hb); (try clear hb2); (try clear hk); (try clear hi); (try clear ho0)) | ((with_reducible refine gate_callee (f := 33) rfl ?_); refine goesL_ (some 13) rfl rfl Try.func33 (by kernel_rfl) rfl #[.slice A0 l0.length c0] rfl (by (try simp only [List.map_toArray, List.map_cons, List.map_nil]); first | done | rfl | (simp only [List.length_drop, List.length_take]; rfl)) ?_; (with_reducible refine (r7_Reached.calls k _ _ l0 t347 _ ?side1 ?side2 A3.out).mono ?_); (case side1 => repeat (first | exact (Kd.C_below HR0.out HB.out) | with_reducible first | refine Kd.C_alloc ?_ _ | refine Kd.C_drewN ?_ _ | refine Kd.C_drew ?_)); (case side2 => exact HC0.out); rintro e w7 ⟨v348, rfl, ho0, hb⟩; refine ⟨_, rfl, ?_⟩; have n0_ := Aside0.mk (Kd.S_elder' (by (with_reducible repeat (first | apply Kd.S_alloc | apply Kd.S_drewN | apply Kd.S_drew)); exact HO346.out) (Kd.R_base ho0) hb); have n1_ := Aside0.mk (Kd.R_lower ho0 (below_size (by repeat (first | (with_reducible first | exact HB.out | apply below_alloc | apply pw_below_drewN | apply below_drew1) | exact HB.out)))); have n2_ := Aside0.mk (below_step (by repeat (first | (with_reducible first | exact HB.out | apply below_alloc | apply pw_below_drewN | apply below_drew1) | exact HB.out)) hb); clear HO346; clear HB; have HO346 := n0_; have HO349 := n1_; have HB := n2_; clear n0_ n1_ n2_; (try clear hb); (try clear hb2); (try clear hk); (try clear hi); (try clear ho0)) | ((with_reducible refine gate_dst (N := 16) rfl ?_); refine Kd.S_make (Kd.slice 3 (Kd.int .i64)) _ 33 rfl (N := 16) rfl 22 _ _ rfl (l0.length : Int) rfl rfl Try.underlying22 (.slice none 0 0) 24 info33 rfl (by decide) (by omega) [] (ok := fun _ => True) (okp := fun _ => True) ⟨_, rfl, Kd.R_nil _ _ _ _ _⟩ (fun _ hk => hk) trivial (of_decide_eq_true (by with_reducible assumption)) (Nat.le_trans (Nat.mul_le_mul_right _ (of_decide_eq_true (by with_reducible assumption) : (l0.length : Int).toNat ≤ 11728124029610)) (by omega)) (Below.refl _ _) (Nat.le_refl _) ?_; intro v351 w8 ho9 hb hg_ hnew_; clear hg_ hnew_; (first | rw [← Ny350.out] at ho9 | (simp only [Int.reduceToNat] at ho9; rw [← Ny350.out] at ho9)); have n0_ := Aside0.mk (Kd.S_below (by (with_reducible repeat (first | apply Kd.S_alloc | apply Kd.S_drewN | apply Kd.S_drew)); exact HO346.out) hb); have n1_ := Aside0.mk (Kd.R_below (by (with_reducible repeat (first | apply Kd.R_alloc | apply Kd.R_drewN | apply Kd.R_drew)); exact HO349.out) hb); have n2_ := Aside0.mk (Kd.S_lower ho9 (below_size (by repeat (first | (with_reducible first | exact HB.out | apply below_alloc | apply pw_below_drewN | apply below_drew1) | exact HB.out)))); have n3_ := Aside0.mk (below_step (by repeat (first | (with_reducible first | exact HB.out | apply below_alloc | apply pw_below_drewN | apply below_drew1) | exact HB.out)) hb); clear HO346; clear HO349; clear HB; have HO346 := n0_; have HO349 := n1_; have HO352 := n2_; have HB := n3_; clear n0_ n1_ n2_ n3_; clear hb ho9))
   go_loopg [6] k (fun kq v6 w' => ∃ (x5_1 : List (List Int)) (x6_1 : Int), v6 = .int .i64 x6_1 ∧ Aside0 (r7_Reducible.l0 kq l0 t344 t347 x5_1 x6_1 = some r) ∧ Aside0 (kq ≤ k) ∧ Aside0 (Kd.S (Kd.slice 4 Kd.bool) 46 w' w.heap.size (fun k_ => some k_ ≠ (v348 : Value).ownBlock) v345 t344) ∧ Aside0 (Kd.R Kd.bool 4 w' w.heap.size (fun _ => True) v348 t347) ∧ Aside0 (Kd.S (Kd.slice 3 (Kd.int .i64)) 33 w' w.heap.size (fun _ => True) v351 x5_1) ∧ Aside0 (Below w.heap.size w w'))
   case atStart => exact ⟨(y350), (0), (by first | rfl | (simp; done) | (simp [*]; done)), H', ⟨Nat.le_refl _⟩, ⟨by (with_reducible repeat (first | apply Kd.S_alloc | apply Kd.S_drewN | apply Kd.S_drew)); exact Kd.S_mono HO346.out (fun _ hk => hk.2)⟩, ⟨by (with_reducible repeat (first | apply Kd.R_alloc | apply Kd.R_drewN | apply Kd.R_drew)); exact HO349.out⟩, ⟨by (with_reducible repeat (first | apply Kd.S_alloc | apply Kd.S_drewN | apply Kd.S_drew)); exact HO352.out⟩, ⟨by repeat (first | (with_reducible first | exact HB.out | apply below_alloc | apply pw_below_drewN | apply below_drew1) | exact HB.out)⟩⟩
   case round =>
    clear H'; try clear c2
    try clear p2
    try clear c3
    try clear c4
    try clear c4b0
    try clear c4b1
    try clear c5
    try clear c5b0
    try clear c5b1
    obtain ⟨x5_1, x6_1, rfl, HA, HK1, HO_3, HO_4, HO_5, HB⟩ := hrel; cases gk with
    | zero => exact absurd HA.out (by simp [r7_Reducible.l0])
    | succ k1 =>
     have H := HA.out; clear HA; simp only [r7_Reducible.l0] at H
     by_cases c10 : x6_1 < (l0.length : Int)
     ·rw [if_pos c10] at H; have c10b0 : decide (x6_1 < (l0.length : Int)) = true := decide_eq_true c10
      clear c10; have H' := Aside0.mk H
      clear H; go_wp2
      go_loopg [7] k1 (fun kq v7 w' => ∃ (x5_2 : List (List Int)) (x7_2 : Int), v7 = .int .i64 x7_2 ∧ Aside0 (r7_Reducible.l1 kq l0 t344 t347 x5_2 x6_1 x7_2 = some r) ∧ Aside0 (kq ≤ k1) ∧ Aside0 (Kd.S (Kd.slice 4 Kd.bool) 46 w' w.heap.size (fun k_ => some k_ ≠ (v348 : Value).ownBlock) v345 t344) ∧ Aside0 (Kd.R Kd.bool 4 w' w.heap.size (fun _ => True) v348 t347) ∧ Aside0 (Kd.S (Kd.slice 3 (Kd.int .i64)) 33 w' w.heap.size (fun _ => True) v351 x5_2) ∧ Aside0 (Below w.heap.size w w'))
      case atStart => exact ⟨(x5_1), (0), (by first | rfl | (simp; done) | (simp [*]; done)), H', ⟨Nat.le_refl _⟩, ⟨by (with_reducible repeat (first | apply Kd.S_alloc | apply Kd.S_drewN | apply Kd.S_drew)); exact HO_3.out⟩, ⟨by (with_reducible repeat (first | apply Kd.R_alloc | apply Kd.R_drewN | apply Kd.R_drew)); exact HO_4.out⟩, ⟨by (with_reducible repeat (first | apply Kd.S_alloc | apply Kd.S_drewN | apply Kd.S_drew)); exact HO_5.out⟩, ⟨by repeat (first | (with_reducible first | exact HB.out | apply below_alloc | apply pw_below_drewN | apply below_drew1) | exact HB.out)⟩⟩
      case round =>
       clear H'; try clear c1
       try clear c2
       try clear p2
       try clear c3
       try clear c4
       try clear c4b0
       try clear c4b1
       try clear c5
       try clear c5b0
       try clear c5b1
       try clear c10
       try clear c10b0
       try clear p2
       obtain ⟨x5_2, x7_2, rfl, HA, HK2, HO_3, HO_4, HO_5, HB⟩ := hrel; cases gk with
       | zero => exact absurd HA.out (by simp [r7_Reducible.l1])
       | succ k2 =>
        have H := HA.out; clear HA; simp only [r7_Reducible.l1] at H
        by_cases c11 : 0 ≤ x6_1
        ·rw [if_pos c11] at H; have c11b0 : decide (0 ≤ x6_1) = true := decide_eq_true c11
         clear c11; by_cases c12 : x6_1 < (l0.length : Int)
         ·rw [if_pos c12] at H; have c12b0 : decide (x6_1 < (l0.length : Int)) = true := decide_eq_true c12
          clear c12; by_cases c13 : x7_2 < ((rd_L1 l0 x6_1).length : Int)
          ·rw [if_pos c13] at H; have c13b0 : decide (x7_2 < ((rd_L1 l0 x6_1).length : Int)) = true := decide_eq_true c13
           clear c13; by_cases c14 : 0 ≤ x7_2
           ·rw [if_pos c14] at H; have c14b0 : decide (0 ≤ x7_2) = true := decide_eq_true c14
            clear c14; by_cases c15 : 0 ≤ (rd (rd_L1 l0 x6_1) x7_2)
            ·rw [if_pos c15] at H; have c15b0 : decide (0 ≤ (rd (rd_L1 l0 x6_1) x7_2)) = true := decide_eq_true c15
             clear c15; by_cases c16 : (rd (rd_L1 l0 x6_1) x7_2) < (t344.length : Int)
             ·rw [if_pos c16] at H; have c16b0 : decide ((rd (rd_L1 l0 x6_1) x7_2) < (t344.length : Int)) = true := decide_eq_true c16
              clear c16; by_cases c17 : x6_1 < ((rd_L3 t344 (rd (rd_L1 l0 x6_1) x7_2)).length : Int)
              ·rw [if_pos c17] at H; have c17b0 : decide (x6_1 < ((rd_L3 t344 (rd (rd_L1 l0 x6_1) x7_2)).length : Int)) = true := decide_eq_true c17
               clear c17; obtain ⟨bq18, hbq18⟩ : ∃ b_ : Bool, b_ = (rdOf false (rd_L3 t344 (rd (rd_L1 l0 x6_1) x7_2)) x6_1) := ⟨_, rfl⟩; replace H : (if (bq18 = true) then (r7_Reducible.l1 k2 l0 t344 t347 x5_2 x6_1 (wrap64 (x7_2 + 1))) else (if x6_1 < (x5_2.length : Int) then (if (rd_L1 x5_2 x6_1).length < 17592186044416 then (r7_Reducible.l1 k2 l0 t344 t347 (x5_2.set (x6_1 : Int).toNat ((rd_L1 x5_2 x6_1) ++ [rd (rd_L1 l0 x6_1) x7_2])) x6_1 (wrap64 (x7_2 + 1))) else (none)) else (none))) = some r := by rw [← hbq18] at H; exact H
               have Nbq18 := Aside0.mk hbq18; clear hbq18; by_cases c19 : (bq18 = true)
               ·subst c19; have H1 : (r7_Reducible.l1 k2 l0 t344 t347 x5_2 x6_1 (wrap64 (x7_2 + 1))) = some r := by rw [if_pos rfl] at H; exact H
                clear H; have H := H1; clear H1; have H' := Aside0.mk H
                clear H; have p353 : 0 ≤ (x6_1 : Int) := of_decide_eq_true (by with_reducible assumption)
                have q353 : x6_1 < (l0.length : Int) := of_decide_eq_true (by with_reducible assumption)
                obtain ⟨ad353, A353_0, c353_0, e353, hx353_0, hl353_0, hi353_0⟩ := at_L1 HR0.out x6_1 p353 q353; cases e353; replace hx353_0 := (HB.out.cell (World.block_lt_of_cell? w _ hx353_0)).trans hx353_0; have HR353_0 := Aside0.mk hi353_0; have HC353_0 := Aside0.mk hl353_0; clear hi353_0 hl353_0; replace p353 := eq_true p353; replace q353 := eq_true q353; have p354 : 0 ≤ (x6_1 : Int) := of_decide_eq_true (by with_reducible assumption)
                have q354 : x6_1 < (l0.length : Int) := of_decide_eq_true (by with_reducible assumption)
                obtain ⟨ad354, A354_0, c354_0, e354, hx354_0, hl354_0, hi354_0⟩ := at_L1 HR0.out x6_1 p354 q354; obtain rfl : ad353 = ad354 := (by injection e354)
                replace hx354_0 := (HB.out.cell (World.block_lt_of_cell? w _ hx354_0)).trans hx354_0; have HR354_0 := Aside0.mk hi354_0; have HC354_0 := Aside0.mk hl354_0; clear hi354_0 hl354_0; replace p354 := eq_true p354; replace q354 := eq_true q354; have ea_ := Option.some.inj (hx353_0.symm.trans hx354_0); injection ea_ with ea_ en_ ec_
                subst ea_; subst ec_; clear en_; have p355 : 0 ≤ (x7_2 : Int) := of_decide_eq_true (by with_reducible assumption)
                have q355 : x7_2 < ((rd_L1 l0 x6_1).length : Int) := of_decide_eq_true (by with_reducible assumption)
                obtain ⟨ad355, e355, hx355_0⟩ := Kd.at_int HR354_0.out x7_2 p355 q355; cases e355; replace hx355_0 := (HB.out.cell (World.block_lt_of_cell? w _ hx355_0)).trans hx355_0; replace p355 := eq_true p355; replace q355 := eq_true q355; obtain ⟨Ao20, co20, eo20⟩ := Kd.S_slice HO_3.out; subst eo20; have p356 : 0 ≤ ((rd (rd_L1 l0 x6_1) x7_2) : Int) := of_decide_eq_true (by with_reducible assumption)
                have q356 : (rd (rd_L1 l0 x6_1) x7_2) < (t344.length : Int) := of_decide_eq_true (by with_reducible assumption)
                obtain ⟨ad356, A356_0, c356_0, e356, hx356_0, hl356_0, hi356_0⟩ := at_L3 (Kd.S_reads' HO_3.out).2.2 (rd (rd_L1 l0 x6_1) x7_2) p356 q356; cases e356; obtain ⟨ce356, hce356, hMe356, hcc356⟩ := Kd.S_get HO_3.out [] (rd (rd_L1 l0 x6_1) x7_2) p356 (by first | exact q356 | exact of_decide_eq_true (by with_reducible assumption) | (have e_ := (Kd.S_reads' HO_3.out).1; omega))
                obtain ⟨ve356_0, rfl, ge356_0⟩ := hMe356; have hv356_0 := hcc356 0 _ rfl; rw [Nat.add_zero, show ((Kd.slice 4 Kd.bool)).sz = 1 from rfl, Nat.mul_one] at hv356_0; replace hv356_0 := Option.some.inj (hv356_0.symm.trans hx356_0); rw [hv356_0] at ge356_0; have HL356_0 := Aside0.mk (show Kd.R Kd.bool 4 _ _ _ _ (rd_L3 t344 (rd (rd_L1 l0 x6_1) x7_2)) from ge356_0); clear hv356_0 ge356_0; have HX356_0 := Aside0.mk hx356_0; clear hcc356 hce356; have HR356_0 := Aside0.mk hi356_0; have HC356_0 := Aside0.mk hl356_0; clear hi356_0 hl356_0; replace p356 := eq_true p356; replace q356 := eq_true q356; have p357 : 0 ≤ (x6_1 : Int) := of_decide_eq_true (by with_reducible assumption)
                have q357 : x6_1 < ((rd_L3 t344 (rd (rd_L1 l0 x6_1) x7_2)).length : Int) := of_decide_eq_true (by with_reducible assumption)
                obtain ⟨ad357, e357, hx357_0⟩ := Kd.at_bool (by repeat (first | (with_reducible exact HR356_0.out) | with_reducible first | refine Kd.C_alloc ?_ _ | refine Kd.C_drewN ?_ _ | refine Kd.C_drew ?_ | exact HR356_0.out)) x6_1 p357 q357
                (try rw [← Nbq18.out] at hx357_0)
                cases e357; replace p357 := eq_true p357; replace q357 := eq_true q357; go_wp2
                go_roundg k2
                case measure => have := HK1.out; have := HK2.out; omega
                case rel => exact ⟨(x5_2), (wrap64 (x7_2 + 1)), (by first | rfl | (simp; done) | (simp [*]; done)), H', ⟨by have := HK1.out; have := HK2.out; omega⟩, ⟨by (with_reducible repeat (first | apply Kd.S_alloc | apply Kd.S_drewN | apply Kd.S_drew)); exact HO_3.out⟩, ⟨by (with_reducible repeat (first | apply Kd.R_alloc | apply Kd.R_drewN | apply Kd.R_drew)); exact HO_4.out⟩, ⟨by (with_reducible repeat (first | apply Kd.S_alloc | apply Kd.S_drewN | apply Kd.S_drew)); exact HO_5.out⟩, ⟨by repeat (first | (with_reducible first | exact HB.out | apply below_alloc | apply pw_below_drewN | apply below_drew1) | exact HB.out)⟩⟩
               ·replace c19 := Bool.eq_false_iff.mpr c19; subst c19; have H1 : (if x6_1 < (x5_2.length : Int) then (if (rd_L1 x5_2 x6_1).length < 17592186044416 then (r7_Reducible.l1 k2 l0 t344 t347 (x5_2.set (x6_1 : Int).toNat ((rd_L1 x5_2 x6_1) ++ [rd (rd_L1 l0 x6_1) x7_2])) x6_1 (wrap64 (x7_2 + 1))) else (none)) else (none)) = some r := by rw [if_neg (show ¬ (false = true) by decide)] at H; exact H
                clear H; have H := H1; clear H1; by_cases c21 : x6_1 < (x5_2.length : Int)
                ·rw [if_pos c21] at H; have c21b0 : decide (x6_1 < (x5_2.length : Int)) = true := decide_eq_true c21
                 clear c21; by_cases c22 : (rd_L1 x5_2 x6_1).length < 17592186044416
                 ·rw [if_pos c22] at H; have LMc22 := Aside0.mk c22; clear c22; obtain ⟨y359, hy359⟩ : ∃ y_ : List Int, y_ = ((rd_L1 x5_2 x6_1) ++ [rd (rd_L1 l0 x6_1) x7_2]) := ⟨_, rfl⟩; replace H : (r7_Reducible.l1 k2 l0 t344 t347 (x5_2.set (x6_1 : Int).toNat y359) x6_1 (wrap64 (x7_2 + 1))) = some r := by first | (with_reducible first | (rw [hy359]; exact H) | exact H) | (have H2_ := (Option.bind_some _ _).symm.trans H; first | with_reducible exact H2_ | (rw [hy359]; exact H2_)) | (rw [hy359]; exact H) | exact H
                  have Ny359 := Aside0.mk hy359; clear hy359; obtain ⟨y362, hy362⟩ : ∃ y_ : List (List Int), y_ = (x5_2.set (x6_1 : Int).toNat y359) := ⟨_, rfl⟩; replace H : (r7_Reducible.l1 k2 l0 t344 t347 y362 x6_1 (wrap64 (x7_2 + 1))) = some r := by first | (with_reducible first | (rw [hy362]; exact H) | exact H) | (have H2_ := (Option.bind_some _ _).symm.trans H; first | with_reducible exact H2_ | (rw [hy362]; exact H2_)) | (rw [hy362]; exact H) | exact H
                  have Ny362 := Aside0.mk hy362; clear hy362; have H' := Aside0.mk H
                  clear H; have p353 : 0 ≤ (x6_1 : Int) := of_decide_eq_true (by with_reducible assumption)
                  have q353 : x6_1 < (l0.length : Int) := of_decide_eq_true (by with_reducible assumption)
                  obtain ⟨ad353, A353_0, c353_0, e353, hx353_0, hl353_0, hi353_0⟩ := at_L1 HR0.out x6_1 p353 q353; cases e353; replace hx353_0 := (HB.out.cell (World.block_lt_of_cell? w _ hx353_0)).trans hx353_0; have HR353_0 := Aside0.mk hi353_0; have HC353_0 := Aside0.mk hl353_0; clear hi353_0 hl353_0; replace p353 := eq_true p353; replace q353 := eq_true q353; have p354 : 0 ≤ (x6_1 : Int) := of_decide_eq_true (by with_reducible assumption)
                  have q354 : x6_1 < (l0.length : Int) := of_decide_eq_true (by with_reducible assumption)
                  obtain ⟨ad354, A354_0, c354_0, e354, hx354_0, hl354_0, hi354_0⟩ := at_L1 HR0.out x6_1 p354 q354; obtain rfl : ad353 = ad354 := (by injection e354)
                  replace hx354_0 := (HB.out.cell (World.block_lt_of_cell? w _ hx354_0)).trans hx354_0; have HR354_0 := Aside0.mk hi354_0; have HC354_0 := Aside0.mk hl354_0; clear hi354_0 hl354_0; replace p354 := eq_true p354; replace q354 := eq_true q354; have ea_ := Option.some.inj (hx353_0.symm.trans hx354_0); injection ea_ with ea_ en_ ec_
                  subst ea_; subst ec_; clear en_; have p355 : 0 ≤ (x7_2 : Int) := of_decide_eq_true (by with_reducible assumption)
                  have q355 : x7_2 < ((rd_L1 l0 x6_1).length : Int) := of_decide_eq_true (by with_reducible assumption)
                  obtain ⟨ad355, e355, hx355_0⟩ := Kd.at_int HR354_0.out x7_2 p355 q355; cases e355; replace hx355_0 := (HB.out.cell (World.block_lt_of_cell? w _ hx355_0)).trans hx355_0; replace p355 := eq_true p355; replace q355 := eq_true q355; obtain ⟨Ao24, co24, eo24⟩ := Kd.S_slice HO_3.out; subst eo24; have p356 : 0 ≤ ((rd (rd_L1 l0 x6_1) x7_2) : Int) := of_decide_eq_true (by with_reducible assumption)
                  have q356 : (rd (rd_L1 l0 x6_1) x7_2) < (t344.length : Int) := of_decide_eq_true (by with_reducible assumption)
                  obtain ⟨ad356, A356_0, c356_0, e356, hx356_0, hl356_0, hi356_0⟩ := at_L3 (Kd.S_reads' HO_3.out).2.2 (rd (rd_L1 l0 x6_1) x7_2) p356 q356; cases e356; obtain ⟨ce356, hce356, hMe356, hcc356⟩ := Kd.S_get HO_3.out [] (rd (rd_L1 l0 x6_1) x7_2) p356 (by first | exact q356 | exact of_decide_eq_true (by with_reducible assumption) | (have e_ := (Kd.S_reads' HO_3.out).1; omega))
                  obtain ⟨ve356_0, rfl, ge356_0⟩ := hMe356; have hv356_0 := hcc356 0 _ rfl; rw [Nat.add_zero, show ((Kd.slice 4 Kd.bool)).sz = 1 from rfl, Nat.mul_one] at hv356_0; replace hv356_0 := Option.some.inj (hv356_0.symm.trans hx356_0); rw [hv356_0] at ge356_0; have HL356_0 := Aside0.mk (show Kd.R Kd.bool 4 _ _ _ _ (rd_L3 t344 (rd (rd_L1 l0 x6_1) x7_2)) from ge356_0); clear hv356_0 ge356_0; have HX356_0 := Aside0.mk hx356_0; clear hcc356 hce356; have HR356_0 := Aside0.mk hi356_0; have HC356_0 := Aside0.mk hl356_0; clear hi356_0 hl356_0; replace p356 := eq_true p356; replace q356 := eq_true q356; have p357 : 0 ≤ (x6_1 : Int) := of_decide_eq_true (by with_reducible assumption)
                  have q357 : x6_1 < ((rd_L3 t344 (rd (rd_L1 l0 x6_1) x7_2)).length : Int) := of_decide_eq_true (by with_reducible assumption)
                  obtain ⟨ad357, e357, hx357_0⟩ := Kd.at_bool (by repeat (first | (with_reducible exact HR356_0.out) | with_reducible first | refine Kd.C_alloc ?_ _ | refine Kd.C_drewN ?_ _ | refine Kd.C_drew ?_ | exact HR356_0.out)) x6_1 p357 q357
                  (try rw [← Nbq18.out] at hx357_0)
                  cases e357; replace p357 := eq_true p357; replace q357 := eq_true q357; obtain ⟨Ao25, co25, eo25⟩ := Kd.S_slice HO_5.out; subst eo25; have p358 : 0 ≤ (x6_1 : Int) := of_decide_eq_true (by with_reducible assumption)
                  have q358 : x6_1 < (x5_2.length : Int) := of_decide_eq_true (by with_reducible assumption)
                  obtain ⟨ad358, A358_0, c358_0, e358, hx358_0, hl358_0, hi358_0⟩ := at_L1 (Kd.S_reads' HO_5.out).2.2 x6_1 p358 q358; cases e358; obtain ⟨ce358, hce358, hMe358, hcc358⟩ := Kd.S_get HO_5.out [] x6_1 p358 (by first | exact q358 | exact of_decide_eq_true (by with_reducible assumption) | (have e_ := (Kd.S_reads' HO_5.out).1; omega))
                  obtain ⟨ve358_0, rfl, ge358_0⟩ := hMe358; have hv358_0 := hcc358 0 _ rfl; rw [Nat.add_zero, show ((Kd.slice 3 (Kd.int .i64))).sz = 1 from rfl, Nat.mul_one] at hv358_0; replace hv358_0 := Option.some.inj (hv358_0.symm.trans hx358_0); rw [hv358_0] at ge358_0; have HL358_0 := Aside0.mk (show Kd.R (Kd.int .i64) 3 _ _ _ _ (rd_L1 x5_2 x6_1) from ge358_0); clear hv358_0 ge358_0; have HX358_0 := Aside0.mk hx358_0; clear hcc358 hce358; have HR358_0 := Aside0.mk hi358_0; have HC358_0 := Aside0.mk hl358_0; clear hi358_0 hl358_0; replace p358 := eq_true p358; replace q358 := eq_true q358; obtain ⟨go26, co26, eo26, gb26, gl26, cl26, HG26⟩ := Kd.S_form HO_5.out (by have h_ : (x6_1 : Int) < ((x5_2.length : Int) : Int) := of_decide_eq_true (by with_reducible assumption); have h2_ : 0 ≤ (x6_1 : Int) := (of_decide_eq_true (by with_reducible assumption)); omega)
                  (first | cases eo26 | (injection eo26 with ea_ en_ ec_; (first | subst ea_ | (injection ea_ with ea_; subst ea_)); subst ec_; clear en_))
                  have GB26 := Aside0.mk gb26; have GG26 := Aside0.mk HG26; clear gb26 gl26 HG26; (first | simp only [add_plain] at hx358_0 | skip)
                  obtain ⟨oki26, ce26, hcl26, hM26, hcc26, _, _, hH26⟩ := Kd.S_elem HO_5.out [] (x6_1 : Int) (of_decide_eq_true (by with_reducible assumption)) (by have h_ : (x6_1 : Int) < ((x5_2.length : Int) : Int) := of_decide_eq_true (by with_reducible assumption); first | exact h_ | (have e_ := (Kd.S_reads' HO_5.out).1; omega) | simpa using h_)
                  obtain ⟨ve26_0, rfl, ge26_0⟩ := hM26; have hv26 := hcc26 0 _ rfl; have hX26 := HX358_0.out; (try simp only [add_plain] at hX26)
                  (try simp only [Nat.add_zero] at hv26)
                  (try rw [show ((Kd.slice 3 (Kd.int .i64))).sz = 1 from rfl, Nat.mul_one] at hv26)
                  replace hv26 := Option.some.inj (hv26.symm.trans hX26); subst hv26; clear hX26 hcc26 hcl26; have UU26 := Aside0.mk (show Kd.R (Kd.int .i64) 3 _ w.heap.size oki26 (.slice A358_0 (rd_L1 x5_2 x6_1).length c358_0) (rd_L1 x5_2 x6_1) from ge26_0); have HH26 := Aside0.mk hH26; have HN26 := Aside0.mk (Kd.S_reads' HO_5.out).1; clear hH26 ge26_0; go_wp2_with (first | ((with_reducible refine gate_builtin (b := .append) (xs := #[.tmp 52, .tmp 54]) rfl ?_); at_builtin; refine Kd.R_append (Kd.int .i64) (w0 := w) w.heap.size rfl (.tmp 52) (.tmp 54) 33 3 (.int .i64 0) 8 rfl Try.underlying33 info3 rfl (by decide) (by omega) (.slice A358_0 (rd_L1 x5_2 x6_1).length c358_0) (rd_L1 x5_2 x6_1) (rd (rd_L1 l0 x6_1) x7_2) [.int .i64 (rd (rd_L1 l0 x6_1) x7_2)] (fun k_ => oki26 k_ ∨ ((fun _ => True)) k_ ∧ wr.heap.size ≤ k_) (fun _ => False) rfl rfl ?aP (fun _ hk => hk.elim) ?aF ?aO ?aB ?aS ?aL ?_; (case aP => exact rfl); (case aB => exact (by repeat (first | (with_reducible first | exact HB.out | apply below_alloc | apply pw_below_drewN | apply below_drew1) | exact HB.out))); (case aF => exact (fun k_ hk => .inr ⟨trivial, hk⟩)); (case aO => exact (by (with_reducible repeat (first | apply Kd.R_alloc | apply Kd.R_drewN | apply Kd.R_drew)); exact Kd.R_mono UU26.out (fun _ hk => .inl hk))); (case aS => exact (below_size (by repeat (first | (with_reducible first | exact HB.out | apply below_alloc | apply pw_below_drewN | apply below_drew1) | exact HB.out)))); (case aL => have := LMc22.out; omega); intro v360 w27 ho hb hg hat; rw [← Ny359.out] at ho; have n0_ := Aside0.mk (Kd.S_over' (v := (.slice A358_0 (rd_L1 x5_2 x6_1).length c358_0)) (by (with_reducible repeat (first | apply Kd.S_alloc | apply Kd.S_drewN | apply Kd.S_drew)); exact HO_3.out) (Kd.R_typed HL358_0.out) (by decide) hg); have n1_ := Aside0.mk (Kd.R_over' (v := (.slice A358_0 (rd_L1 x5_2 x6_1).length c358_0)) (by (with_reducible repeat (first | apply Kd.R_alloc | apply Kd.R_drewN | apply Kd.R_drew)); exact HO_4.out) (Kd.R_typed HL358_0.out) (by decide) hg); have n2_ := Aside0.mk (hb); have n3_ := Aside0.mk (Kd.H_grown (Kd.H_widen (by repeat (first | exact HH26.out | refine Kd.H_alloc ?_ _ | refine Kd.H_drewN ?_ _ | refine Kd.H_drew ?_))) hg (fun k_ e_ => .inl (UU26.out.1 k_ e_))); have n4_ := Aside0.mk (ho); clear HO_3; clear HO_4; clear HB; clear HH26; clear HO_5; clear UU26; clear HL356_0; clear HL358_0; have HO_3 := n0_; have HO_4 := n1_; have HB := n2_; have HH26 := n3_; have HO361 := n4_; clear n0_ n1_ n2_ n3_ n4_; clear ho hb hg hat; have p23 : 0 ≤ (x6_1 : Int) := of_decide_eq_true (by with_reducible assumption); have q23 : (x6_1 : Int) < ((x5_2.length : Int) : Int) := of_decide_eq_true (by with_reducible assumption); replace p23 := eq_true p23; replace q23 := eq_true q23; obtain ⟨Ao30, co30, eo30⟩ := Kd.R_slice HO361.out; subst eo30; obtain ⟨_, _, hraw28, _, _, hcc28, _⟩ := Kd.H_raw HH26.out (of_decide_eq_true (by with_reducible assumption)) (by have h_ : (x6_1 : Int) < ((x5_2.length : Int) : Int) := of_decide_eq_true (by with_reducible assumption); first | exact h_ | (have e_ := (HN26.out); omega) | simpa using h_); obtain ⟨_, hfr28⟩ := Kd.H_at HH26.out (of_decide_eq_true (by with_reducible assumption)) (by have h_ : (x6_1 : Int) < ((x5_2.length : Int) : Int) := of_decide_eq_true (by with_reducible assumption); first | exact h_ | (have e_ := (HN26.out); omega) | simpa using h_); have hx28_0 := hcc28 0 _ rfl; have hf28_0 := hfr28 0; (try simp only [Nat.add_zero] at hx28_0 hf28_0); (try rw [show ((Kd.slice 3 (Kd.int .i64))).sz = 1 from rfl, Nat.mul_one] at hx28_0); (try rw [show ((Kd.slice 3 (Kd.int .i64))).sz = 1 from rfl, Nat.mul_one] at hf28_0); have HP28 := Kd.S_seg0 HH26.out (of_decide_eq_true (by with_reducible assumption)) (by have h_ : (x6_1 : Int) < ((x5_2.length : Int) : Int) := of_decide_eq_true (by with_reducible assumption); first | exact h_ | (have e_ := (HN26.out); omega) | simpa using h_) (seg := [.slice Ao30 y359.length co30]) (j := 0) (show 1 ≤ 1 from by decide) (x' := y359) (Kd.M_row HO361.out) (fun _ hk => hk); (try simp only [show ((Kd.slice 3 (Kd.int .i64))).sz = 1 from rfl, Nat.mul_one, Nat.add_zero] at HP28); clear hcc28 hfr28) | ((with_reducible refine gate_store (t := 33) (p := 56) rfl ?_); refine store_event (t := 33) (p := 56) (v := ?vo_w29) (w1 := (w27.setCell ⟨go26, (x6_1 : Int).toNat, none⟩ (.slice Ao30 y359.length co30))) ?hg ?ho ?hn ?hr ?_; (case ho => rfl); (case hg => rfl); (case hn => rfl); (case hr => first | (go_simp; done) | (go_simp; rfl)); intro w29 hw; have hg : w27.grownBy w29 (some go26) := (by rw [hw]; exact HP28.2); have hp_ : Kd.S (Kd.slice 3 (Kd.int .i64)) 33 w29 w.heap.size (fun _ => True) (.slice (some ⟨go26, 0, none⟩) x5_2.length co25) y362 := (by rw [hw, Ny362.out]; exact HP28.1); clear HP28; have n0_ := Aside0.mk (Kd.S_over' (v := (.slice (some ⟨go26, 0, none⟩) x5_2.length co25)) (by (with_reducible repeat (first | apply Kd.S_alloc | apply Kd.S_drewN | apply Kd.S_drew)); exact HO_3.out) (Kd.R_typed hraw28) (by decide) hg); have n1_ := Aside0.mk (Kd.R_over' (v := (.slice (some ⟨go26, 0, none⟩) x5_2.length co25)) (by (with_reducible repeat (first | apply Kd.R_alloc | apply Kd.R_drewN | apply Kd.R_drew)); exact HO_4.out) (Kd.R_typed hraw28) (by decide) hg); have n2_ := Aside0.mk ((by rw [hw]; exact below_set HB.out GB26.out : Below w.heap.size w w29)); have n3_ := Aside0.mk (hp_); clear HO_3; clear HO_4; clear HB; clear HO361; clear HH26; have HO_3 := n0_; have HO_4 := n1_; have HB := n2_; have HO_5 := n3_; clear n0_ n1_ n2_ n3_; clear hg hw hp_ hraw28))
                  go_roundg k2
                  case measure => have := HK1.out; have := HK2.out; omega
                  case rel => exact ⟨(y362), (wrap64 (x7_2 + 1)), (by first | rfl | (simp; done) | (simp [*]; done)), H', ⟨by have := HK1.out; have := HK2.out; omega⟩, ⟨by (with_reducible repeat (first | apply Kd.S_alloc | apply Kd.S_drewN | apply Kd.S_drew)); exact HO_3.out⟩, ⟨by (with_reducible repeat (first | apply Kd.R_alloc | apply Kd.R_drewN | apply Kd.R_drew)); exact HO_4.out⟩, ⟨by (with_reducible repeat (first | apply Kd.S_alloc | apply Kd.S_drewN | apply Kd.S_drew)); exact HO_5.out⟩, ⟨by repeat (first | (with_reducible first | exact HB.out | apply below_alloc | apply pw_below_drewN | apply below_drew1) | exact HB.out)⟩⟩
                 ·rw [if_neg c22] at H; exact absurd H (by simp)
                ·rw [if_neg c21] at H; exact absurd H (by simp)
              ·rw [if_neg c17] at H; exact absurd H (by simp)
             ·rw [if_neg c16] at H; exact absurd H (by simp)
            ·rw [if_neg c15] at H; exact absurd H (by simp)
           ·rw [if_neg c14] at H; exact absurd H (by simp)
          ·rw [if_neg c13] at H; have c13b0 : decide (x7_2 < ((rd_L1 l0 x6_1).length : Int)) = false := decide_eq_false c13
           clear c13; have H' := Aside0.mk H
           clear H; have p353 : 0 ≤ (x6_1 : Int) := of_decide_eq_true (by with_reducible assumption)
           have q353 : x6_1 < (l0.length : Int) := of_decide_eq_true (by with_reducible assumption)
           obtain ⟨ad353, A353_0, c353_0, e353, hx353_0, hl353_0, hi353_0⟩ := at_L1 HR0.out x6_1 p353 q353; cases e353; replace hx353_0 := (HB.out.cell (World.block_lt_of_cell? w _ hx353_0)).trans hx353_0; have HR353_0 := Aside0.mk hi353_0; have HC353_0 := Aside0.mk hl353_0; clear hi353_0 hl353_0; replace p353 := eq_true p353; replace q353 := eq_true q353; go_wp2
           go_roundg k2
           case measure => have := HK1.out; have := HK2.out; omega
           case rel => exact ⟨(x5_2), (wrap64 (x6_1 + 1)), (by first | rfl | (simp; done) | (simp [*]; done)), H', ⟨by have := HK1.out; have := HK2.out; omega⟩, ⟨by (with_reducible repeat (first | apply Kd.S_alloc | apply Kd.S_drewN | apply Kd.S_drew)); exact HO_3.out⟩, ⟨by (with_reducible repeat (first | apply Kd.R_alloc | apply Kd.R_drewN | apply Kd.R_drew)); exact HO_4.out⟩, ⟨by (with_reducible repeat (first | apply Kd.S_alloc | apply Kd.S_drewN | apply Kd.S_drew)); exact HO_5.out⟩, ⟨by repeat (first | (with_reducible first | exact HB.out | apply below_alloc | apply pw_below_drewN | apply below_drew1) | exact HB.out)⟩⟩
         ·rw [if_neg c12] at H; exact absurd H (by simp)
        ·rw [if_neg c11] at H; exact absurd H (by simp)
     ·rw [if_neg c10] at H; have c10b0 : decide (x6_1 < (l0.length : Int)) = false := decide_eq_false c10
      clear c10; have H' := Aside0.mk H
      clear H; go_wp2
      go_loopg [9] k1 (fun kq v9 w' => ∃ (x9_2 : Int), v9 = .int .i64 x9_2 ∧ Aside0 (r7_Reducible.l2 kq l0 t347 x5_1 x9_2 = some r) ∧ Aside0 (kq ≤ k1) ∧ Aside0 (Kd.R Kd.bool 4 w' w.heap.size (fun _ => True) v348 t347) ∧ Aside0 (Kd.S (Kd.slice 3 (Kd.int .i64)) 33 w' w.heap.size (fun _ => True) v351 x5_1) ∧ Aside0 (Below w.heap.size w w'))
      case atStart => exact ⟨(0), (by first | rfl | (simp; done) | (simp [*]; done)), H', ⟨Nat.le_refl _⟩, ⟨by (with_reducible repeat (first | apply Kd.R_alloc | apply Kd.R_drewN | apply Kd.R_drew)); exact HO_4.out⟩, ⟨by (with_reducible repeat (first | apply Kd.S_alloc | apply Kd.S_drewN | apply Kd.S_drew)); exact HO_5.out⟩, ⟨by repeat (first | (with_reducible first | exact HB.out | apply below_alloc | apply pw_below_drewN | apply below_drew1) | exact HB.out)⟩⟩
      case round =>
       clear H'; try clear c1
       try clear q1
       try clear c2
       try clear p2
       try clear q2
       try clear hx2
       try clear hf2
       try clear c3
       try clear p3
       try clear q3
       try clear hx3
       try clear c4
       try clear c4b0
       try clear c4b1
       try clear c5
       try clear c5b0
       try clear c5b1
       try clear p6
       try clear c10
       try clear c10b0
       try clear c11
       try clear c11b0
       try clear c12
       try clear c12b0
       try clear c13
       try clear c13b0
       try clear c14
       try clear c14b0
       try clear c15
       try clear c15b0
       try clear c16
       try clear c16b0
       try clear c17
       try clear c17b0
       try clear q18
       try clear c19
       try clear c21
       try clear c21b0
       try clear c22
       try clear p23
       try clear q23
       try clear c26
       try clear c28
       try clear hx28
       try clear hf28
       try clear hx28_0
       try clear hx353_0
       try clear hx354_0
       try clear hx355_0
       try clear hx356_0
       try clear hx357_0
       try clear hx358_0
       try clear p2
       try clear p23
       try clear p353
       try clear p354
       try clear p355
       try clear p356
       try clear p357
       try clear p358
       try clear q23
       try clear q353
       try clear q354
       try clear q355
       try clear q356
       try clear q357
       try clear q358
       obtain ⟨x9_2, rfl, HA, HK2, HO_4, HO_5, HB⟩ := hrel; cases gk with
       | zero => exact absurd HA.out (by simp [r7_Reducible.l2])
       | succ k2 =>
        have H := HA.out; clear HA; simp only [r7_Reducible.l2] at H
        by_cases c31 : x9_2 < (l0.length : Int)
        ·rw [if_pos c31] at H; have c31b0 : decide (x9_2 < (l0.length : Int)) = true := decide_eq_true c31
         clear c31; by_cases c32 : 0 ≤ x9_2
         ·rw [if_pos c32] at H; have c32b0 : decide (0 ≤ x9_2) = true := decide_eq_true c32
          clear c32; by_cases c33 : x9_2 < (t347.length : Int)
          ·rw [if_pos c33] at H; have c33b0 : decide (x9_2 < (t347.length : Int)) = true := decide_eq_true c33
           clear c33; obtain ⟨bq34, hbq34⟩ : ∃ b_ : Bool, b_ = (rdOf false t347 x9_2) := ⟨_, rfl⟩; replace H : (if bq34 = true then (if x9_2 < (x5_1.length : Int) then ((r7_From.f k2 x5_1 (rd_L1 x5_1 x9_2) (-1)).bind fun t365 => (if x9_2 < (t365.length : Int) then (if rdOf false t365 x9_2 = true then (some false) else (r7_Reducible.l2 k2 l0 t347 x5_1 (wrap64 (x9_2 + 1)))) else (none))) else (none)) else (r7_Reducible.l2 k2 l0 t347 x5_1 (wrap64 (x9_2 + 1)))) = some r := by rw [← hbq34] at H; exact H
           have Nbq34 := Aside0.mk hbq34; clear hbq34; by_cases c35 : bq34 = true
           ·subst c35; have H1 : (if x9_2 < (x5_1.length : Int) then ((r7_From.f k2 x5_1 (rd_L1 x5_1 x9_2) (-1)).bind fun t365 => (if x9_2 < (t365.length : Int) then (if rdOf false t365 x9_2 = true then (some false) else (r7_Reducible.l2 k2 l0 t347 x5_1 (wrap64 (x9_2 + 1)))) else (none))) else (none)) = some r := by rw [if_pos rfl] at H; exact H
            clear H; have H := H1; clear H1; by_cases c36 : x9_2 < (x5_1.length : Int)
            ·rw [if_pos c36] at H; have c36b0 : decide (x9_2 < (x5_1.length : Int)) = true := decide_eq_true c36
             clear c36; replace H := Option.bind_eq_some_iff.mp H; obtain ⟨t365, A370, H⟩ := H; replace H : (if x9_2 < (t365.length : Int) then (if rdOf false t365 x9_2 = true then (some false) else (r7_Reducible.l2 k2 l0 t347 x5_1 (wrap64 (x9_2 + 1)))) else (none)) = some r := H
             have A37 := Aside0.mk A370; clear A370; by_cases c38 : x9_2 < (t365.length : Int)
             ·rw [if_pos c38] at H; have c38b0 : decide (x9_2 < (t365.length : Int)) = true := decide_eq_true c38
              clear c38; obtain ⟨bq39, hbq39⟩ : ∃ b_ : Bool, b_ = (rdOf false t365 x9_2) := ⟨_, rfl⟩; replace H : (if bq39 = true then (some false) else (r7_Reducible.l2 k2 l0 t347 x5_1 (wrap64 (x9_2 + 1)))) = some r := by rw [← hbq39] at H; exact H
              have Nbq39 := Aside0.mk hbq39; clear hbq39; by_cases c40 : bq39 = true
              ·subst c40; have H1 : (some false) = some r := by rw [if_pos rfl] at H; exact H
               clear H; have H := H1; clear H1; obtain rfl := Option.some.inj H; obtain ⟨Ao41, co41, eo41⟩ := Kd.R_slice HO_4.out; subst eo41; have p363 : 0 ≤ (x9_2 : Int) := of_decide_eq_true (by with_reducible assumption)
               have q363 : x9_2 < (t347.length : Int) := of_decide_eq_true (by with_reducible assumption)
               obtain ⟨ad363, e363, hx363_0⟩ := Kd.at_bool (Kd.R_reads' HO_4.out).2.2 x9_2 p363 q363; (try rw [← Nbq34.out] at hx363_0)
               (try rw [← Nbq39.out] at hx363_0)
               cases e363; replace p363 := eq_true p363; replace q363 := eq_true q363; obtain ⟨Ao42, co42, eo42⟩ := Kd.S_slice HO_5.out; subst eo42; have p364 : 0 ≤ (x9_2 : Int) := of_decide_eq_true (by with_reducible assumption)
               have q364 : x9_2 < (x5_1.length : Int) := of_decide_eq_true (by with_reducible assumption)
               obtain ⟨ad364, A364_0, c364_0, e364, hx364_0, hl364_0, hi364_0⟩ := at_L1 (Kd.S_reads' HO_5.out).2.2 x9_2 p364 q364; cases e364; obtain ⟨ce364, hce364, hMe364, hcc364⟩ := Kd.S_get HO_5.out [] x9_2 p364 (by first | exact q364 | exact of_decide_eq_true (by with_reducible assumption) | (have e_ := (Kd.S_reads' HO_5.out).1; omega))
               obtain ⟨ve364_0, rfl, ge364_0⟩ := hMe364; have hv364_0 := hcc364 0 _ rfl; rw [Nat.add_zero, show ((Kd.slice 3 (Kd.int .i64))).sz = 1 from rfl, Nat.mul_one] at hv364_0; replace hv364_0 := Option.some.inj (hv364_0.symm.trans hx364_0); rw [hv364_0] at ge364_0; have HL364_0 := Aside0.mk (show Kd.R (Kd.int .i64) 3 _ _ _ _ (rd_L1 x5_1 x9_2) from ge364_0); clear hv364_0 ge364_0; have HX364_0 := Aside0.mk hx364_0; clear hcc364 hce364; have HR364_0 := Aside0.mk hi364_0; have HC364_0 := Aside0.mk hl364_0; clear hi364_0 hl364_0; replace p364 := eq_true p364; replace q364 := eq_true q364; go_wp2_with (first | (go_at_call 36; (with_reducible refine (r7_From.calls k2 _ _ x5_1 _ _ (rd_L1 x5_1 x9_2) (-1) t365 _ ?side1 ?side2 ?side3 ?side4 A37.out).mono ?_); (case side1 => repeat (first | exact (Kd.S_reads' HO_5.out).2.2 | with_reducible first | refine Kd.C_alloc ?_ _ | refine Kd.C_drewN ?_ _ | refine Kd.C_drew ?_)); (case side2 => exact (Kd.S_reads' HO_5.out).2.1); (case side3 => repeat (first | exact (by repeat (first | (with_reducible exact HR364_0.out) | with_reducible first | refine Kd.C_alloc ?_ _ | refine Kd.C_drewN ?_ _ | refine Kd.C_drew ?_ | exact HR364_0.out)) | with_reducible first | refine Kd.C_alloc ?_ _ | refine Kd.C_drewN ?_ _ | refine Kd.C_drew ?_)); (case side4 => exact HC364_0.out); rintro e w43 ⟨v366, rfl, ho0, hb⟩; have n0_ := Aside0.mk (Kd.R_elder' (by (with_reducible repeat (first | apply Kd.R_alloc | apply Kd.R_drewN | apply Kd.R_drew)); exact HO_4.out) (Kd.R_base ho0) hb); have n1_ := Aside0.mk (Kd.S_below (by (with_reducible repeat (first | apply Kd.S_alloc | apply Kd.S_drewN | apply Kd.S_drew)); exact HO_5.out) hb); have n2_ := Aside0.mk (Kd.R_below (by (with_reducible repeat (first | apply Kd.R_alloc | apply Kd.R_drewN | apply Kd.R_drew)); exact HL364_0.out) hb); have n3_ := Aside0.mk (Kd.R_lower (Kd.R_new' ho0 (Kd.R_lt (by (with_reducible repeat (first | apply Kd.R_alloc | apply Kd.R_drewN | apply Kd.R_drew)); exact HO_4.out))) (below_size (by repeat (first | (with_reducible first | exact HB.out | apply below_alloc | apply pw_below_drewN | apply below_drew1) | exact HB.out)))); have n4_ := Aside0.mk (Kd.C_below (by repeat (first | (with_reducible exact HR364_0.out) | with_reducible first | refine Kd.C_alloc ?_ _ | refine Kd.C_drewN ?_ _ | refine Kd.C_drew ?_ | exact HR364_0.out)) hb); have n5_ := Aside0.mk (pw_cell_below hb HX364_0.out); have n6_ := Aside0.mk (below_step (by repeat (first | (with_reducible first | exact HB.out | apply below_alloc | apply pw_below_drewN | apply below_drew1) | exact HB.out)) hb); clear HO_4; clear HO_5; clear HL364_0; clear HR364_0; clear HX364_0; clear HB; have HO_4 := n0_; have HO_5 := n1_; have HL364_0 := n2_; have HO367 := n3_; have HR364_0 := n4_; have HX364_0 := n5_; have HB := n6_; clear n0_ n1_ n2_ n3_ n4_ n5_ n6_; (try clear hb); (try clear hb2); (try clear hk); (try clear hi); (try clear ho0); obtain ⟨Ao44, co44, eo44⟩ := Kd.R_slice HO367.out; subst eo44; have p368 : 0 ≤ (x9_2 : Int) := of_decide_eq_true (by with_reducible assumption); have q368 : x9_2 < (t365.length : Int) := of_decide_eq_true (by with_reducible assumption); obtain ⟨ad368, e368, hx368_0⟩ := Kd.at_bool (Kd.R_reads' HO367.out).2.2 x9_2 p368 q368; (try rw [← Nbq34.out] at hx368_0); (try rw [← Nbq39.out] at hx368_0); cases e368; replace p368 := eq_true p368; replace q368 := eq_true q368))
               go_ret
               exact ⟨by first | rfl | (simp [errW_none, errW_some] <;> rfl) | (simp [*, errW_none, errW_some] <;> rfl), by repeat (first | (with_reducible first | exact HB.out | apply below_alloc | apply pw_below_drewN | apply below_drew1) | exact HB.out)⟩
              ·replace c40 := Bool.eq_false_iff.mpr c40; subst c40; have H1 : (r7_Reducible.l2 k2 l0 t347 x5_1 (wrap64 (x9_2 + 1))) = some r := by rw [if_neg (show ¬ (false = true) by decide)] at H; exact H
               clear H; have H := H1; clear H1; have H' := Aside0.mk H
               clear H; obtain ⟨Ao45, co45, eo45⟩ := Kd.R_slice HO_4.out; subst eo45; have p363 : 0 ≤ (x9_2 : Int) := of_decide_eq_true (by with_reducible assumption)
               have q363 : x9_2 < (t347.length : Int) := of_decide_eq_true (by with_reducible assumption)
               obtain ⟨ad363, e363, hx363_0⟩ := Kd.at_bool (Kd.R_reads' HO_4.out).2.2 x9_2 p363 q363; (try rw [← Nbq34.out] at hx363_0)
               (try rw [← Nbq39.out] at hx363_0)
               cases e363; replace p363 := eq_true p363; replace q363 := eq_true q363; obtain ⟨Ao46, co46, eo46⟩ := Kd.S_slice HO_5.out; subst eo46; have p364 : 0 ≤ (x9_2 : Int) := of_decide_eq_true (by with_reducible assumption)
               have q364 : x9_2 < (x5_1.length : Int) := of_decide_eq_true (by with_reducible assumption)
               obtain ⟨ad364, A364_0, c364_0, e364, hx364_0, hl364_0, hi364_0⟩ := at_L1 (Kd.S_reads' HO_5.out).2.2 x9_2 p364 q364; cases e364; obtain ⟨ce364, hce364, hMe364, hcc364⟩ := Kd.S_get HO_5.out [] x9_2 p364 (by first | exact q364 | exact of_decide_eq_true (by with_reducible assumption) | (have e_ := (Kd.S_reads' HO_5.out).1; omega))
               obtain ⟨ve364_0, rfl, ge364_0⟩ := hMe364; have hv364_0 := hcc364 0 _ rfl; rw [Nat.add_zero, show ((Kd.slice 3 (Kd.int .i64))).sz = 1 from rfl, Nat.mul_one] at hv364_0; replace hv364_0 := Option.some.inj (hv364_0.symm.trans hx364_0); rw [hv364_0] at ge364_0; have HL364_0 := Aside0.mk (show Kd.R (Kd.int .i64) 3 _ _ _ _ (rd_L1 x5_1 x9_2) from ge364_0); clear hv364_0 ge364_0; have HX364_0 := Aside0.mk hx364_0; clear hcc364 hce364; have HR364_0 := Aside0.mk hi364_0; have HC364_0 := Aside0.mk hl364_0; clear hi364_0 hl364_0; replace p364 := eq_true p364; replace q364 := eq_true q364; go_wp2_with (first | (go_at_call 36; (with_reducible refine (r7_From.calls k2 _ _ x5_1 _ _ (rd_L1 x5_1 x9_2) (-1) t365 _ ?side1 ?side2 ?side3 ?side4 A37.out).mono ?_); (case side1 => repeat (first | exact (Kd.S_reads' HO_5.out).2.2 | with_reducible first | refine Kd.C_alloc ?_ _ | refine Kd.C_drewN ?_ _ | refine Kd.C_drew ?_)); (case side2 => exact (Kd.S_reads' HO_5.out).2.1); (case side3 => repeat (first | exact (by repeat (first | (with_reducible exact HR364_0.out) | with_reducible first | refine Kd.C_alloc ?_ _ | refine Kd.C_drewN ?_ _ | refine Kd.C_drew ?_ | exact HR364_0.out)) | with_reducible first | refine Kd.C_alloc ?_ _ | refine Kd.C_drewN ?_ _ | refine Kd.C_drew ?_)); (case side4 => exact HC364_0.out); rintro e w47 ⟨v366, rfl, ho0, hb⟩; have n0_ := Aside0.mk (Kd.R_elder' (by (with_reducible repeat (first | apply Kd.R_alloc | apply Kd.R_drewN | apply Kd.R_drew)); exact HO_4.out) (Kd.R_base ho0) hb); have n1_ := Aside0.mk (Kd.S_below (by (with_reducible repeat (first | apply Kd.S_alloc | apply Kd.S_drewN | apply Kd.S_drew)); exact HO_5.out) hb); have n2_ := Aside0.mk (Kd.R_below (by (with_reducible repeat (first | apply Kd.R_alloc | apply Kd.R_drewN | apply Kd.R_drew)); exact HL364_0.out) hb); have n3_ := Aside0.mk (Kd.R_lower (Kd.R_new' ho0 (Kd.R_lt (by (with_reducible repeat (first | apply Kd.R_alloc | apply Kd.R_drewN | apply Kd.R_drew)); exact HO_4.out))) (below_size (by repeat (first | (with_reducible first | exact HB.out | apply below_alloc | apply pw_below_drewN | apply below_drew1) | exact HB.out)))); have n4_ := Aside0.mk (Kd.C_below (by repeat (first | (with_reducible exact HR364_0.out) | with_reducible first | refine Kd.C_alloc ?_ _ | refine Kd.C_drewN ?_ _ | refine Kd.C_drew ?_ | exact HR364_0.out)) hb); have n5_ := Aside0.mk (pw_cell_below hb HX364_0.out); have n6_ := Aside0.mk (below_step (by repeat (first | (with_reducible first | exact HB.out | apply below_alloc | apply pw_below_drewN | apply below_drew1) | exact HB.out)) hb); clear HO_4; clear HO_5; clear HL364_0; clear HR364_0; clear HX364_0; clear HB; have HO_4 := n0_; have HO_5 := n1_; have HL364_0 := n2_; have HO367 := n3_; have HR364_0 := n4_; have HX364_0 := n5_; have HB := n6_; clear n0_ n1_ n2_ n3_ n4_ n5_ n6_; (try clear hb); (try clear hb2); (try clear hk); (try clear hi); (try clear ho0); obtain ⟨Ao48, co48, eo48⟩ := Kd.R_slice HO367.out; subst eo48; have p368 : 0 ≤ (x9_2 : Int) := of_decide_eq_true (by with_reducible assumption); have q368 : x9_2 < (t365.length : Int) := of_decide_eq_true (by with_reducible assumption); obtain ⟨ad368, e368, hx368_0⟩ := Kd.at_bool (Kd.R_reads' HO367.out).2.2 x9_2 p368 q368; (try rw [← Nbq34.out] at hx368_0); (try rw [← Nbq39.out] at hx368_0); cases e368; replace p368 := eq_true p368; replace q368 := eq_true q368))
               go_roundg k2
               case measure => have := HK1.out; have := HK2.out; omega
               case rel => exact ⟨(wrap64 (x9_2 + 1)), (by first | rfl | (simp; done) | (simp [*]; done)), H', ⟨by have := HK1.out; have := HK2.out; omega⟩, ⟨by (with_reducible repeat (first | apply Kd.R_alloc | apply Kd.R_drewN | apply Kd.R_drew)); exact Kd.R_mono HO_4.out (fun _ hk => trivial)⟩, ⟨by (with_reducible repeat (first | apply Kd.S_alloc | apply Kd.S_drewN | apply Kd.S_drew)); exact HO_5.out⟩, ⟨by repeat (first | (with_reducible first | exact HB.out | apply below_alloc | apply pw_below_drewN | apply below_drew1) | exact HB.out)⟩⟩
             ·rw [if_neg c38] at H; exact absurd H (by simp)
            ·rw [if_neg c36] at H; exact absurd H (by simp)
           ·replace c35 := Bool.eq_false_iff.mpr c35; subst c35; have H1 : (r7_Reducible.l2 k2 l0 t347 x5_1 (wrap64 (x9_2 + 1))) = some r := by rw [if_neg (show ¬ (false = true) by decide)] at H; exact H
            clear H; have H := H1; clear H1; have H' := Aside0.mk H
            clear H; obtain ⟨Ao49, co49, eo49⟩ := Kd.R_slice HO_4.out; subst eo49; have p363 : 0 ≤ (x9_2 : Int) := of_decide_eq_true (by with_reducible assumption)
            have q363 : x9_2 < (t347.length : Int) := of_decide_eq_true (by with_reducible assumption)
            obtain ⟨ad363, e363, hx363_0⟩ := Kd.at_bool (Kd.R_reads' HO_4.out).2.2 x9_2 p363 q363; (try rw [← Nbq34.out] at hx363_0)
            cases e363; replace p363 := eq_true p363; replace q363 := eq_true q363; go_wp2
            go_roundg k2
            case measure => have := HK1.out; have := HK2.out; omega
            case rel => exact ⟨(wrap64 (x9_2 + 1)), (by first | rfl | (simp; done) | (simp [*]; done)), H', ⟨by have := HK1.out; have := HK2.out; omega⟩, ⟨by (with_reducible repeat (first | apply Kd.R_alloc | apply Kd.R_drewN | apply Kd.R_drew)); exact HO_4.out⟩, ⟨by (with_reducible repeat (first | apply Kd.S_alloc | apply Kd.S_drewN | apply Kd.S_drew)); exact HO_5.out⟩, ⟨by repeat (first | (with_reducible first | exact HB.out | apply below_alloc | apply pw_below_drewN | apply below_drew1) | exact HB.out)⟩⟩
          ·rw [if_neg c33] at H; exact absurd H (by simp)
         ·rw [if_neg c32] at H; exact absurd H (by simp)
        ·rw [if_neg c31] at H; have c31b0 : decide (x9_2 < (l0.length : Int)) = false := decide_eq_false c31
         clear c31; obtain rfl := Option.some.inj H; go_wp2
         go_ret
         exact ⟨by first | rfl | (simp [errW_none, errW_some] <;> rfl) | (simp [*, errW_none, errW_some] <;> rfl), by repeat (first | (with_reducible first | exact HB.out | apply below_alloc | apply pw_below_drewN | apply below_drew1) | exact HB.out)⟩
  ·rw [if_neg c5] at H; exact absurd H (by simp)
 ·rw [if_neg c4] at H; exact absurd H (by simp)
end Go.Proofs.Ytjjedbcgkljdeaa.A
end
