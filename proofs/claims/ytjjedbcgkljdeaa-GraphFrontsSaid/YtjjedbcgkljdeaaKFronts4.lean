/- Texts of this claim, cut down to what its theorem uses and laid end to end (wip/shake.py). -/
import Derived.ArgAppend
import Derived.Below
import Derived.BigQuiet
import Derived.ChangeOld
import Derived.ChangeSlices
import Derived.Deep.AppendLies
import Derived.Deep.CutBlock
import Derived.Deep.DeepCutAuto
import Derived.Deep.Draws
import Derived.Deep.LoopGhost
import Derived.Deep.Matrix
import Derived.Deep.OwnRows
import Derived.Deep.QuietTactic
import Derived.Deep.RegionHeld3
import Derived.KernelRfl
import Derived.Laws.BitsLemmas
import Derived.Laws.BytesArg
import Derived.Laws.CopyOwn
import Derived.Laws.IdiomCopy
import Derived.Laws.MakeOwn
import Derived.Laws.OwnMore
import Derived.Laws.Rows
import Derived.Laws.Slices
import Derived.Laws.StructEq
import Derived.Lib.AppendStr
import Derived.Lib.ConvBytes
import Derived.LoopIn
import Derived.LoopNIn
import Derived.Maps.AppendAt
import Derived.OpenShut
import Derived.OrdersHeld
import Derived.OwnWalk
import Derived.OwnWalkIn
import Derived.ProofKit
import Derived.RangeFuncBound
import Derived.RangeFuncBox
import Derived.RangeFuncCalls
import Derived.RangeFuncFrom
import Derived.RangeFuncLeaves
import Derived.RangeFuncNested
import Derived.RowKit
import Derived.RowKit3
import Derived.Shelf.Abstract
import Derived.ShutString
import Derived.SizedLaws
import Derived.Tactics
import Derived.TacticsInMore
import Derived.Test.YtjjedbcgkljdeaaProg
import Derived.WalkKit
import Derived.WideLaws
import GoSem.ClaimData
import Derived.Test.YtjjedbcgkljdeaaKFronts3
section
namespace Go.Proofs.Ytjjedbcgkljdeaa.L
open Go.RowKit Go.Proofs.YtjjedbcgkljdeaaW.PrintWords Go.Proofs.YtjjedbcgkljdeaaW.PrintLast Go.Proofs.YtjjedbcgkljdeaaW.PrintMore Go.Proofs.Ytjjedbcgkljdeaa.D Go.Proofs.Ytjjedbcgkljdeaa.M
section
variable {g : List (List Int)}
theorem fronts_l3 (hg : Gr g) (hn : g.length ≤ 40) (a : Nat) (ha : a < g.length) (met : List Bool) (h : RI g (a : Int) met g.length 0) (r : Bool) (hr : Evt (fun k => l7_GraphFronts.l0 k g (rowsOf (FC g) g.length) ((a + 1 : Nat) : Int)) r) :
  ∀ (m i : Nat), i + m = (rd_L1 (rowsOf (FC g) g.length) (a : Int)).length → Evt (fun k => l7_GraphFronts.l3 k g (rowsOf (FC g) g.length) (a : Int) met (i : Int)) r
 | 0, i, hm => by
  have hl := rowsOf_len (FC g) g.length; refine Evt.succ ?_
  simp only [l7_GraphFronts.l3, wrap_succ a (by omega)]
  exact Evt.pos (by omega) (Evt.pos (by omega) (Evt.neg (show ¬ (i : Int) < ((rd_L1 (rowsOf (FC g) g.length) (a : Int)).length : Int) by omega) hr))
 | m + 1, i, hm => by
  have hl := rowsOf_len (FC g) g.length; have hi : i < (rd_L1 (rowsOf (FC g) g.length) (a : Int)).length := by omega
  have hrow : rd_L1 (rowsOf (FC g) g.length) (a : Int) = rowTo (FC g (a : Int)) g.length := by
   show Go.Proofs.Ytjjedbcgkljdeaa.A.rd_L1 (rowsOf (FC g) g.length) (a : Int) = _
   rw [rd_L1_nat _ a (by omega)]
   simp [rowsOf]
  have hmem := List.getElem_mem hi; have hrl : (rd_L1 (rowsOf (FC g) g.length) (a : Int)).length ≤ g.length := by rw [hrow]; exact rowTo_len _ _
  have hx := (rowTo_mem (FC g (a : Int)) g.length (rd_L1 (rowsOf (FC g) g.length) (a : Int))[i]).1 (by rw [← hrow]; exact hmem)
  have ih := fronts_l3 hg hn a ha met h r hr m (i + 1) (by omega)
  have hrd : rd (rd_L1 (rowsOf (FC g) g.length) (a : Int)) (i : Int) = (rd_L1 (rowsOf (FC g) g.length) (a : Int))[i] := rd_nat _ _ hi
  have hml := h.len; have hmet := (h.iff _ hx.1 hx.2.1).2 (.inl (by
   obtain ⟨p, p0, p1, hp, hf⟩ := hx.2.2; obtain ⟨q, rfl⟩ := Int.eq_ofNat_of_zero_le p0; exact ⟨q, by omega, hp, hf⟩))
  generalize (rd_L1 (rowsOf (FC g) g.length) (a : Int))[i] = x at *
  refine Evt.succ ?_
  simp only [l7_GraphFronts.l3, hrd, wrap_succ i (by omega)]
  exact Evt.pos (by omega) (Evt.pos (by omega) (Evt.pos (show (i : Int) < ((rd_L1 (rowsOf (FC g) g.length) (a : Int)).length : Int) by omega) (Evt.pos (by omega) (Evt.pos hx.1 (Evt.pos (by omega) (Evt.pos hmet ih))))))
theorem fronts_l2 (hv : validB g = true) (h1 : 1 ≤ g.length) (hg : Gr g) (hn : g.length ≤ 40) (hr : ∀ r ∈ g, r.length ≤ 4) (a p : Nat) (ha : a < g.length) (hp : p < g.length) (d : Bool) (hd : d = true ↔ TD g (a : Int) (p : Int)) (r : Bool) (next : ∀ met, RI g (a : Int) met (p + 1) 0 → Evt (fun k => l7_GraphFronts.l1 k g (rowsOf (FC g) g.length) (a : Int) met ((p + 1 : Nat) : Int)) r) :
  ∀ (m i : Nat) (met : List Bool), i + m = (rd_L1 g (p : Int)).length → RI g (a : Int) met p i → Evt (fun k => l7_GraphFronts.l2 k g (rowsOf (FC g) g.length) (a : Int) met (p : Int) d (i : Int)) r
 | 0, i, met, hm, h => by
  refine Evt.succ ?_
  simp only [l7_GraphFronts.l2]
  refine Evt.pos (by omega) (Evt.pos (by omega) (Evt.neg (show ¬ (i : Int) < ((rd_L1 g (p : Int)).length : Int) by omega) (Evt.succ ?_)))
  simp only [l7_GraphFronts.j4, wrap_succ p (by omega)]
  exact Evt.neg (by simp) (next met (h.next (.inl (show (rd_L1 g (p : Int)).length ≤ i by omega))))
 | m + 1, i, met, hm, h => by
  have hl := rowsOf_len (FC g) g.length; have hi : i < (rd_L1 g (p : Int)).length := by omega
  have hrl : (rd_L1 g (p : Int)).length ≤ 4 := rd_L1_len hr (p : Int)
  have hx := hg.row (p : Int) _ (List.getElem_mem hi); have hmem : (rd_L1 g (p : Int))[i] ∈ rd_L1 g (p : Int) := List.getElem_mem hi
  have hrd : rd (rd_L1 g (p : Int)) (i : Int) = (rd_L1 g (p : Int))[i] := rd_nat _ _ hi
  have hml := h.len; have hrow : rd_L1 (rowsOf (FC g) g.length) (a : Int) = rowTo (FC g (a : Int)) g.length := by
   show Go.Proofs.Ytjjedbcgkljdeaa.A.rd_L1 (rowsOf (FC g) g.length) (a : Int) = _
   rw [rd_L1_nat _ a (by omega)]
   simp [rowsOf]
  have hstep : ∀ met', met'.length = met.length → (∀ b : Int, 0 ≤ b → (rdOf false met' b = true ↔ rdOf false met b = true ∨ (b = (rd_L1 g (p : Int))[i] ∧ FCe g (a : Int) (p : Int) b))) → Evt (fun k => l7_GraphFronts.l2 k g (rowsOf (FC g) g.length) (a : Int) met' (p : Int) d ((i + 1 : Nat) : Int)) r := fun met' hl' hb =>
   fronts_l2 hv h1 hg hn hr a p ha hp d hd r next m (i + 1) met' (by omega) (h.step hi hl' hb)
  obtain ⟨_, dd⟩ := dominates_ev g hv h1 hg hn hr (a : Int) (rd_L1 g (p : Int))[i]; obtain ⟨v, hv1, hv2⟩ := dd ⟨by omega, by omega, hx.1, hx.2⟩
  generalize (rd_L1 g (p : Int))[i] = x at *
  refine Evt.succ ?_
  simp only [l7_GraphFronts.l2]
  refine Evt.pos (by omega) (Evt.pos (by omega) (Evt.pos (show (i : Int) < ((rd_L1 g (p : Int)).length : Int) by omega) (Evt.succ ?_)))
  simp only [l7_GraphFronts.j4, hrd, wrap_succ p (by omega)]
  by_cases hdt : d = true
  ·have hDp := hd.1 hdt; refine Evt.pos hdt (Evt.pos (by omega) (Evt.pos (by omega) (Evt.pos (by omega) (Evt.pos (show (i : Int) < ((rd_L1 g (p : Int)).length : Int) by omega) (Evt.bind hv2 ?_)))))
   have mark : (¬ TD g (a : Int) x ∨ (a : Int) = x) → ∀ f : Bool, f = false → Evt (fun k => l7_GraphFronts.j5 k g (rowsOf (FC g) g.length) (a : Int) met (p : Int) d (i : Int) f) r := by
    intro hor f hf
    have hFC : FC g (a : Int) x := ⟨(p : Int), by omega, by omega, hmem, hDp.2.1, hDp, hor⟩
    obtain ⟨w, hw1, hw2⟩ := in_ev x (rd_L1 (rowsOf (FC g) g.length) (a : Int)) (by rw [hrow]; exact Nat.le_trans (rowTo_len _ _) (by omega))
    have hwt : w = true := hw1.2 (by rw [hrow, rowTo_mem]; exact ⟨hx.1, hx.2, hFC⟩)
    refine Evt.succ ?_
    simp only [l7_GraphFronts.j5, hrd, wrap_succ i (by omega)]
    refine Evt.neg (by rw [hf]; simp) (Evt.pos (by omega) (Evt.pos (by omega) (Evt.pos (by omega) (Evt.pos (show (i : Int) < ((rd_L1 g (p : Int)).length : Int) by omega) (Evt.pos (by omega) (Evt.pos (by omega) (Evt.bind hw2 (Evt.pos hwt (Evt.pos hx.1 (Evt.pos (by omega) (hstep _ (by simp) ?_)))))))))))
    intro b hb
    rw [rdOf_set met x b true hx.1 (by omega) hb]
    by_cases e : b = x
    ·rw [if_pos e]; exact ⟨fun _ => .inr ⟨e, hDp.2.1, hDp, by rw [e]; exact hor⟩, fun _ => rfl⟩
    ·rw [if_neg e]; exact ⟨.inl, fun h => h.resolve_right (fun h => e h.1)⟩
   by_cases hvt : v = true
   ·refine Evt.pos hvt ?_
    by_cases e : (a : Int) = x
    ·exact mark (.inr e) _ (by rw [e]; simp)
    ·refine Evt.succ ?_
     simp only [l7_GraphFronts.j5, wrap_succ i (by omega)]
     refine Evt.pos (by simpa using e) (hstep met rfl fun b hb => ⟨.inl, fun h => h.resolve_right (fun hh => ?_)⟩)
     obtain ⟨e1, _, _, h5⟩ := hh; rw [e1] at h5; rcases h5 with h5 | h5
     ·exact h5 (hv1.1 hvt)
     ·exact e h5
   ·exact Evt.neg hvt (mark (.inl (fun hc => hvt (hv1.2 hc))) false rfl)
  ·refine Evt.neg hdt (next met ?_)
   refine ⟨h.len, fun b h0 hb1 => ?_⟩
   rw [h.iff b h0 hb1]; simp only [List.take_zero, List.not_mem_nil, false_and, or_false]
   constructor
   ·rintro (⟨q, hq, h2⟩ | ⟨_, h2⟩)
    ·exact ⟨q, by omega, h2⟩
    ·exact absurd (hd.2 h2.2.1) hdt
   ·rintro ⟨q, hq, h2, h3⟩
    by_cases e : q = p
    ·subst e; exact absurd (hd.2 h3.2.1) hdt
    ·exact .inl ⟨q, by omega, h2, h3⟩
theorem fronts_l1 (hv : validB g = true) (h1 : 1 ≤ g.length) (hg : Gr g) (hn : g.length ≤ 40) (hr : ∀ r ∈ g, r.length ≤ 4) (a : Nat) (ha : a < g.length) (r : Bool) (hr2 : Evt (fun k => l7_GraphFronts.l0 k g (rowsOf (FC g) g.length) ((a + 1 : Nat) : Int)) r) :
  ∀ (m p : Nat) (met : List Bool), p + m = g.length → RI g (a : Int) met p 0 → Evt (fun k => l7_GraphFronts.l1 k g (rowsOf (FC g) g.length) (a : Int) met (p : Int)) r
 | 0, p, met, hm, h => by
  obtain rfl : p = g.length := by omega
  refine Evt.succ ?_
  simp only [l7_GraphFronts.l1]
  exact Evt.neg (by omega) (fronts_l3 hg hn a ha met h r hr2 _ 0 (Nat.zero_add _))
 | m + 1, p, met, hm, h => by
  obtain ⟨_, dd⟩ := dominates_ev g hv h1 hg hn hr (a : Int) (p : Int); obtain ⟨d, hd1, hd2⟩ := dd ⟨by omega, by omega, by omega, by omega⟩
  refine Evt.succ ?_
  simp only [l7_GraphFronts.l1]
  exact Evt.pos (by omega) (Evt.bind hd2 (fronts_l2 hv h1 hg hn hr a p ha (by omega) d hd1 r (fun met' h' => fronts_l1 hv h1 hg hn hr a ha r hr2 m (p + 1) met' (by omega) h') _ 0 met (Nat.zero_add _) h))
theorem fronts_l0 (hv : validB g = true) (h1 : 1 ≤ g.length) (hg : Gr g) (hn : g.length ≤ 40) (hr : ∀ r ∈ g, r.length ≤ 4) :
  ∀ (m a : Nat), a + m = g.length → Evt (fun k => l7_GraphFronts.l0 k g (rowsOf (FC g) g.length) (a : Int)) true
 | 0, a, hm => by
  refine Evt.succ ?_
  simp only [l7_GraphFronts.l0]
  exact Evt.neg (by omega) (Evt.bind awake_ev (Evt.const true))
 | m + 1, a, hm => by
  have ih := fronts_l0 hv h1 hg hn hr m (a + 1) (by omega)
  refine Evt.succ ?_
  simp only [l7_GraphFronts.l0]
  refine Evt.pos (by omega) (Evt.pos (by omega) (Evt.pos (by omega) ?_))
  simp only [Int.toNat_natCast]
  refine fronts_l1 hv h1 hg hn hr a (by omega) true ih g.length 0 _ (by omega) ⟨by simp, fun b h0 hb => ?_⟩
  rw [rdOf_replicate]; simp
end
theorem Pure.GraphFronts (g : List (List Int)) (_hm : g.length ≤ maxLen) : ∃ k, l7_GraphFronts.f k g = some true := by
 refine Evt.get ?_
 unfold l7_GraphFronts.f
 refine Evt.bind (usable_ev g) ?_
 by_cases hu : usableB g = true
 ·obtain ⟨hv, h1, hg, hn, hr⟩ := usableB_true hu; refine Evt.pos hu (Evt.bind (front_ev g hv h1 hg hn hr) (Evt.pos rfl (Evt.succ ?_)))
  simp only [l7_GraphFronts.j0]
  refine Evt.neg (by rw [rowsOf_len]; simp) ?_
  exact fronts_l0 hv h1 hg hn hr g.length 0 (by omega)
 ·exact Evt.neg hu (Evt.bind awake_ev (Evt.const true))
end Go.Proofs.Ytjjedbcgkljdeaa.L
end
