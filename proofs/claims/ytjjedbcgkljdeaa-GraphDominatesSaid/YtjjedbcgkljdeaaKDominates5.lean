/- Texts of this claim, cut down to what its theorem uses and laid end to end (wip/shake.py). -/
import Derived.ArgAppend
import Derived.Below
import Derived.BigQuiet
import Derived.ChangeOld
import Derived.ChangeSlices
import Derived.Deep.AppendLies
import Derived.Deep.CutBlock
import Derived.Deep.DeepCutAuto
import Derived.Deep.Draws
import Derived.Deep.LoopGhost
import Derived.Deep.Matrix
import Derived.Deep.OwnRows
import Derived.Deep.QuietTactic
import Derived.Deep.RegionHeld3
import Derived.KernelRfl
import Derived.Laws.BitsLemmas
import Derived.Laws.BytesArg
import Derived.Laws.CopyOwn
import Derived.Laws.IdiomCopy
import Derived.Laws.MakeOwn
import Derived.Laws.OwnMore
import Derived.Laws.Rows
import Derived.Laws.Slices
import Derived.Laws.StructEq
import Derived.Lib.AppendStr
import Derived.Lib.ConvBytes
import Derived.LoopIn
import Derived.LoopNIn
import Derived.Maps.AppendAt
import Derived.OpenShut
import Derived.OrdersHeld
import Derived.OwnWalk
import Derived.OwnWalkIn
import Derived.ProofKit
import Derived.RangeFuncBound
import Derived.RangeFuncBox
import Derived.RangeFuncCalls
import Derived.RangeFuncFrom
import Derived.RangeFuncLeaves
import Derived.RangeFuncNested
import Derived.RowKit
import Derived.RowKit3
import Derived.Shelf.Abstract
import Derived.ShutString
import Derived.SizedLaws
import Derived.Tactics
import Derived.TacticsInMore
import Derived.Test.YtjjedbcgkljdeaaProg
import Derived.WalkKit
import Derived.WideLaws
import GoSem.ClaimData
import Derived.Test.YtjjedbcgkljdeaaKDominates4
section
namespace Go.Proofs.Ytjjedbcgkljdeaa.M
open Go.RowKit Go.Proofs.YtjjedbcgkljdeaaW.PrintWords Go.Proofs.YtjjedbcgkljdeaaW.PrintLast Go.Proofs.YtjjedbcgkljdeaaW.PrintMore Go.Proofs.Ytjjedbcgkljdeaa.A
theorem within_l0 (g : List (List Int)) (l : List Int) (hl : l.length ≤ 100000) : ∀ (d i : Nat), i + d = l.length → Evt (fun k => graph_within.l0 k g l (l.length : Int) (i : Int)) ((l.drop i).all (inB g.length))
 | 0, i, hd => by
  rw [List.drop_of_length_le (by omega)]
  refine Evt.succ ?_
  simp only [graph_within.l0]
  exact Evt.neg (by omega) (Evt.const true)
 | d + 1, i, hd => by
  have hi : i < l.length := by omega
  have ih := within_l0 g l hl d (i + 1) (by omega)
  rw [List.drop_eq_getElem_cons hi, all_c]; refine Evt.succ ?_
  simp only [graph_within.l0, rd_nat _ _ hi, wrap_succ i (by omega)]
  refine Evt.pos (by omega) (Evt.pos (by omega) (Evt.pos (by omega) ?_))
  by_cases h0 : l[i] < 0
  ·rw [inB_f (.inl h0), Bool.false_and]; exact Evt.pos h0 (Evt.const false)
  ·by_cases h1 : l[i] ≥ (g.length : Int)
   ·rw [inB_f (.inr h1), Bool.false_and]; exact Evt.neg h0 (Evt.pos h1 (Evt.const false))
   ·rw [inB_t (by omega) (by omega), Bool.true_and]
    exact Evt.neg h0 (Evt.neg h1 ih)
theorem within_ev (g : List (List Int)) (l : List Int) (hl : l.length ≤ 100000) : Evt (fun k => graph_within.f k g l) (l.all (inB g.length)) := by
 unfold graph_within.f
 simpa using within_l0 g l hl l.length 0 (by omega)
theorem inB_iff {n : Nat} {x : Int} : inB n x = true ↔ 0 ≤ x ∧ x < (n : Int) := by simp [inB]
theorem dominates_ev (g : List (List Int)) (hv : validB g = true) (h1 : 1 ≤ g.length) (hg : Gr g) (hn : g.length ≤ 40) (hr : ∀ r ∈ g, r.length ≤ 4) (a b : Int) :
  (¬ (0 ≤ a ∧ a < (g.length : Int) ∧ 0 ≤ b ∧ b < (g.length : Int)) → Evt (fun k => Go.Proofs.Ytjjedbcgkljdeaa.B.graph_Dominates.f k g a b) (false, 6)) ∧
  (0 ≤ a ∧ a < (g.length : Int) ∧ 0 ≤ b ∧ b < (g.length : Int) → ∃ v : Bool, (v = true ↔ TD g a b) ∧ Evt (fun k => Go.Proofs.Ytjjedbcgkljdeaa.B.graph_Dominates.f k g a b) (v, 0)) := by
 have hve := valid_ev g (by omega) (fun r h => Nat.le_trans (hr r h) (by omega))
 rw [hv] at hve; have hwi := within_ev g [a, b] (by simp)
 constructor
 ·intro hnot
  have hf : [a, b].all (inB g.length) = false := by
   rw [Bool.eq_false_iff]; intro h
   simp only [List.all_cons, List.all_nil, Bool.and_true, Bool.and_eq_true, inB_iff] at h
   exact hnot ⟨h.1.1, h.1.2, h.2.1, h.2.2⟩
  rw [hf] at hwi; unfold Go.Proofs.Ytjjedbcgkljdeaa.B.graph_Dominates.f
  exact Evt.bind hve (Evt.pos rfl (Evt.bind hwi (Evt.neg (by decide) (Evt.const _))))
 ·rintro ⟨ha0, ha1, hb0, hb1⟩
  have hf : [a, b].all (inB g.length) = true := by
   simp only [List.all_cons, List.all_nil, Bool.and_true, Bool.and_eq_true, inB_iff]
   exact ⟨⟨ha0, ha1⟩, ⟨hb0, hb1⟩⟩
  rw [hf] at hwi; obtain ⟨s, hs, _, hs1, hs2⟩ := reached_ev g h1 hg hn hr; obtain ⟨up, dl, t, hd, hw, _, _, _, hTD⟩ := dom_ev g hg h1 hn hr; by_cases hA : rdOf false s a = true
  ·by_cases hB : rdOf false s b = true
   ·obtain ⟨f, hfl⟩ := hw.tree.lvl; have hbR : Rg g 0 b := (hs2 b hb0).1 hB
    obtain ⟨v, hv1, hv2⟩ := hw.above (by omega) a ha0 ha1 hfl _ b (Nat.le_refl _) hb0 hb1 hbR
    refine ⟨v, by rw [hv1, hTD]; exact hw.tree.ch b a hbR, ?_⟩
    unfold Go.Proofs.Ytjjedbcgkljdeaa.B.graph_Dominates.f
    exact Evt.bind hve (Evt.pos rfl (Evt.bind hwi (Evt.pos rfl (Evt.bind hs (Evt.pos ha0 (Evt.pos (by omega) (Evt.pos hA (Evt.pos hb0 (Evt.pos (by omega) (Evt.pos hB (Evt.bind hd (Evt.bind hv2 (Evt.const _)))))))))))))
   ·refine ⟨false, ⟨fun h => (by cases h), fun h => absurd ((hs2 b hb0).2 h.2.1) hB⟩, ?_⟩
    unfold Go.Proofs.Ytjjedbcgkljdeaa.B.graph_Dominates.f
    exact Evt.bind hve (Evt.pos rfl (Evt.bind hwi (Evt.pos rfl (Evt.bind hs (Evt.pos ha0 (Evt.pos (by omega) (Evt.pos hA (Evt.pos hb0 (Evt.pos (by omega) (Evt.neg hB (Evt.const _)))))))))))
  ·refine ⟨false, ⟨fun h => (by cases h), fun h => absurd ((hs2 a ha0).2 h.1) hA⟩, ?_⟩
   unfold Go.Proofs.Ytjjedbcgkljdeaa.B.graph_Dominates.f
   exact Evt.bind hve (Evt.pos rfl (Evt.bind hwi (Evt.pos rfl (Evt.bind hs (Evt.pos ha0 (Evt.pos (by omega) (Evt.neg hA (Evt.const _))))))))
theorem postdominates_ev (g : List (List Int)) (hv : validB g = true) (hg : Gr g) (hn : g.length ≤ 40) (hr : ∀ r ∈ g, r.length ≤ 4) (a b : Int) :
  (¬ (0 ≤ a ∧ a < (g.length : Int) ∧ 0 ≤ b ∧ b < (g.length : Int)) → Evt (fun k => Go.Proofs.Ytjjedbcgkljdeaa.C.graph_Postdominates.f k g a b) (false, 6)) ∧
  (0 ≤ a ∧ a < (g.length : Int) ∧ 0 ≤ b ∧ b < (g.length : Int) → ∃ (v : Bool) (T : List (List Int)), TurnedOf 4 g T ∧ (v = true ↔ PD g T a b) ∧ Evt (fun k => Go.Proofs.Ytjjedbcgkljdeaa.C.graph_Postdominates.f k g a b) (v, 0)) := by
 have hve := valid_ev g (by omega) (fun r h => Nat.le_trans (hr r h) (by omega))
 rw [hv] at hve; have hwi := within_ev g [a, b] (by simp)
 constructor
 ·intro hnot
  have hf : [a, b].all (inB g.length) = false := by
   rw [Bool.eq_false_iff]; intro h
   simp only [List.all_cons, List.all_nil, Bool.and_true, Bool.and_eq_true, inB_iff] at h
   exact hnot ⟨h.1.1, h.1.2, h.2.1, h.2.2⟩
  rw [hf] at hwi; unfold Go.Proofs.Ytjjedbcgkljdeaa.C.graph_Postdominates.f
  exact Evt.bind hve (Evt.pos rfl (Evt.bind hwi (Evt.neg (by decide) (Evt.const _))))
 ·rintro ⟨ha0, ha1, hb0, hb1⟩
  have hf : [a, b].all (inB g.length) = true := by
   simp only [List.all_cons, List.all_nil, Bool.and_true, Bool.and_eq_true, inB_iff]
   exact ⟨⟨ha0, ha1⟩, ⟨hb0, hb1⟩⟩
  rw [hf] at hwi; obtain ⟨T0, s, hT0e, hs, _, hs1, hT0, hs2⟩ := ending_ev g hg hn hr; obtain ⟨T, up, pl, t, hT, hpe, hw, _, _, _, hDom, hRg⟩ := posts_ev g hg hn hr; have hends : Evt (fun k => Go.Proofs.Ytjjedbcgkljdeaa.B.graph_Ends.f k g) (s, 0) := by
   unfold Go.Proofs.Ytjjedbcgkljdeaa.B.graph_Ends.f
   exact Evt.bind hve (Evt.pos rfl (Evt.bind hT0e (Evt.bind (exits_ev g (by omega)) (Evt.bind hs (Evt.const _)))))
  have hs3 : ∀ x : Int, 0 ≤ x → (rdOf false s x = true ↔ Rch T (fun _ => false) (exitsL g 0) x) := fun x hx => by
   rw [hs2 x hx]; exact ⟨PD.turned hT0 hT, PD.turned hT hT0⟩
  have hal : a < (s.length : Int) := by omega
  have hbl : b < (s.length : Int) := by omega
  by_cases hA : rdOf false s a = true
  ·by_cases hB : rdOf false s b = true
   ·obtain ⟨f, hfl⟩ := hw.tree.lvl; have hbR := (hRg b hb0 hb1).2 ((hs3 b hb0).1 hB); obtain ⟨v, hv1, hv2⟩ := hw.above (by omega) a ha0 ha1 hfl _ b (Nat.le_refl _) hb0 hb1 hbR
    refine ⟨v, T, hT, by rw [hv1, hDom a b ha0 ha1 hb0 hb1]; exact hw.tree.ch b a hbR, ?_⟩
    unfold Go.Proofs.Ytjjedbcgkljdeaa.C.graph_Postdominates.f
    exact Evt.bind hve (Evt.pos rfl (Evt.bind hwi (Evt.pos rfl (Evt.bind hends (Evt.pos ha0 (Evt.pos hal (Evt.pos hA (Evt.pos hb0 (Evt.pos hbl (Evt.pos hB (Evt.bind hpe (Evt.bind hv2 (Evt.const _)))))))))))))
   ·refine ⟨false, T, hT, ⟨fun h => (by cases h), fun h => absurd ((hs3 b hb0).2 h.1) hB⟩, ?_⟩
    unfold Go.Proofs.Ytjjedbcgkljdeaa.C.graph_Postdominates.f
    exact Evt.bind hve (Evt.pos rfl (Evt.bind hwi (Evt.pos rfl (Evt.bind hends (Evt.pos ha0 (Evt.pos hal (Evt.pos hA (Evt.pos hb0 (Evt.pos hbl (Evt.neg hB (Evt.const _)))))))))))
  ·have hno : ¬ PD g T a b := by
    intro h
    have hbR := (hRg b hb0 hb1).2 h.1; have hch := (hw.tree.ch b a hbR).2 ((hDom a b ha0 ha1 hb0 hb1).1 h); exact hA ((hs3 a ha0).2 ((hRg a ha0 ha1).1 (hw.tree.ch_rg hw.rng hbR hch)))
   refine ⟨false, T, hT, ⟨fun h => (by cases h), fun h => absurd h hno⟩, ?_⟩
   unfold Go.Proofs.Ytjjedbcgkljdeaa.C.graph_Postdominates.f
   exact Evt.bind hve (Evt.pos rfl (Evt.bind hwi (Evt.pos rfl (Evt.bind hends (Evt.pos ha0 (Evt.pos hal (Evt.neg hA (Evt.const _))))))))
end Go.Proofs.Ytjjedbcgkljdeaa.M
end
section
namespace Go.Proofs.Ytjjedbcgkljdeaa.M
open Go.RowKit Go.Proofs.Ytjjedbcgkljdeaa.D
theorem awake_ev : Evt (fun k => l7_awake.f k) true := Evt.of_mono l7_awake.mono (k := 400) (by kernel_rfl)
end Go.Proofs.Ytjjedbcgkljdeaa.M
end
section
namespace Go.Proofs.Ytjjedbcgkljdeaa.L
open Go.RowKit Go.Proofs.YtjjedbcgkljdeaaW.PrintWords Go.Proofs.YtjjedbcgkljdeaaW.PrintLast Go.Proofs.YtjjedbcgkljdeaaW.PrintMore Go.Proofs.Ytjjedbcgkljdeaa.D Go.Proofs.Ytjjedbcgkljdeaa.M Go.Proofs.Ytjjedbcgkljdeaa.B Go.Proofs.Ytjjedbcgkljdeaa.C
open Go.Proofs.Ytjjedbcgkljdeaa.A (r5_SameInts.f)
theorem Pure.GraphDominates (g : List (List Int)) (_hm : g.length ≤ maxLen) (a : Int) (_ha : (Lit.int .i64 a).wf = true) (b : Int) (_hb : (Lit.int .i64 b).wf = true) : ∃ k, l7_GraphDominates.f k g a b = some true := by
 refine Evt.get ?_
 unfold l7_GraphDominates.f
 refine Evt.bind (wide_ev g) ?_
 by_cases hw : wideB g = true
 ·exact Evt.pos hw (Evt.bind awake_ev (Evt.const true))
 refine Evt.neg hw ?_
 obtain ⟨hn, hr⟩ := wideB_false (Bool.eq_false_iff.2 hw); have hr' : ∀ r ∈ g, r.length ≤ 100000 := fun r h => Nat.le_trans (hr r h) (by omega)
 have hc := code_ev g (by omega) hr'
 have hve := valid_ev g (by omega) hr'
 by_cases hv : validB g = true
 ·obtain ⟨h1, hg, _⟩ := validB_true hv; rw [if_pos hv] at hc; rw [hv] at hve; obtain ⟨up, dl, t, hd, hw1, ht, ht2, him, hTD⟩ := dom_ev g hg h1 hn hr; obtain ⟨T, up2, pl, u, hT, hp, hw2, hu, hu2, him2, _, _⟩ := posts_ev g hg hn hr; obtain ⟨d1, d2⟩ := dominates_ev g hv h1 hg hn hr a b; obtain ⟨p1, p2⟩ := postdominates_ev g hv hg hn hr a b; have hdl := hw1.len; have hpl := hw2.len; have e1 : Evt (fun k => graph_Dominators.f k g) (dl, 0) := by
   unfold graph_Dominators.f
   exact Evt.bind hve (Evt.pos rfl (Evt.bind hd (Evt.const _)))
  have e2 : Evt (fun k => graph_Postdominators.f k g) (pl, 0) := by
   unfold graph_Postdominators.f
   exact Evt.bind hve (Evt.pos rfl (Evt.bind hp (Evt.const _)))
  have mid : ∀ (x y : Bool) (ex ey : Int), Evt (fun k => l7_GraphDominates.j0 k g a b x ex y ey t u false) true → Evt (fun k => graph_Dominates.f k g a b) (x, ex) → Evt (fun k => graph_Postdominates.f k g a b) (y, ey) →
    Evt (fun k => (graph_Dominators.f k g).bind fun bt132 => ((graph_Postdominators.f k g).bind fun bt136 => ((graph_Dominates.f k g a b).bind fun bt140 => ((graph_Postdominates.f k g a b).bind fun bt142 => ((Go.Proofs.Ytjjedbcgkljdeaa.A.l7_code.f k g).bind fun t144 => (if t144 = 0 then ((Go.Proofs.Ytjjedbcgkljdeaa.A.r7_Table.f k g).bind fun t146 => ((Go.Proofs.Ytjjedbcgkljdeaa.A.r7_PostTable.f k g).bind fun t149 => (if bt132.2 = 0 then (if bt136.2 = 0 then ((Go.Proofs.Ytjjedbcgkljdeaa.A.r7_Immediate.f k t146).bind fun t152 => ((Go.Proofs.Ytjjedbcgkljdeaa.A.r5_SameInts.f k bt132.1 t152).bind fun t155 => (if t155 = true then ((Go.Proofs.Ytjjedbcgkljdeaa.A.r7_Immediate.f k t149).bind fun t156 => ((Go.Proofs.Ytjjedbcgkljdeaa.A.r5_SameInts.f k bt136.1 t156).bind fun t159 => (l7_GraphDominates.j0 k g a b bt140.1 bt140.2 bt142.1 bt142.2 t146 t149 (!t159)))) else (l7_GraphDominates.j0 k g a b bt140.1 bt140.2 bt142.1 bt142.2 t146 t149 true)))) else (l7_GraphDominates.j0 k g a b bt140.1 bt140.2 bt142.1 bt142.2 t146 t149 true)) else (l7_GraphDominates.j0 k g a b bt140.1 bt140.2 bt142.1 bt142.2 t146 t149 true)))) else (if bt132.2 = t144 then (if bt136.2 = t144 then (if bt140.2 = t144 then (if bt142.2 = t144 then (if (wrap64 ((bt132.1.length : Int) + (bt136.1.length : Int))) = 0 then (if bt140.1 = true then (some false) else (if bt142.1 = true then (some false) else ((l7_awake.f k).bind fun t145 => (some t145)))) else (some false)) else (some false)) else (some false)) else (some false)) else (some false))))))))
     true := by
   intro x y ex ey hj hx hy
   refine Evt.bind e1 (Evt.bind e2 (Evt.bind hx (Evt.bind hy (Evt.bind hc (Evt.pos rfl (Evt.bind ht (Evt.bind hu (Evt.pos rfl (Evt.pos rfl (Evt.bind him (Evt.bind (sameInts_ev dl (by omega)) (Evt.pos rfl (Evt.bind him2 (Evt.bind (sameInts_ev pl (by omega)) ?_))))))))))))))
   simpa using hj
  by_cases hab : 0 ≤ a ∧ a < (g.length : Int) ∧ 0 ≤ b ∧ b < (g.length : Int)
  ·obtain ⟨x, hx1, hx2⟩ := d2 hab; obtain ⟨y, T', hT', hy1, hy2⟩ := p2 hab; obtain ⟨ha0, ha1, hb0, hb1⟩ := hab; refine mid x y 0 0 ?_ hx2 hy2
   have ex : (x == rdOf false (Go.Proofs.Ytjjedbcgkljdeaa.A.rd_L3 t a) b) = true := by
    rw [beq_iff_eq, Bool.eq_iff_iff, hx1]; exact (ht2.iff a b ha0 ha1 hb0 hb1).symm
   have ey : (y == rdOf false (Go.Proofs.Ytjjedbcgkljdeaa.A.rd_L3 u a) b) = true := by
    rw [beq_iff_eq, Bool.eq_iff_iff, hy1]; have h3 := (hu2.iff a b ha0 ha1 hb0 hb1).symm; refine Iff.trans ?_ h3
    exact ⟨fun h => ⟨PD.turned hT' hT h.1, fun hcc => h.2 (PD.turned hT hT' hcc)⟩, fun h => ⟨PD.turned hT hT' h.1, fun hcc => h.2 (PD.turned hT' hT hcc)⟩⟩
   have htl := ht2.len; have htr := ht2.row a ha0 ha1; have hul := hu2.len; have hur := hu2.row a ha0 ha1; refine Evt.succ ?_
   simp only [l7_GraphDominates.j0]
   refine Evt.neg (by simp) (Evt.neg (by omega) (Evt.neg (by omega) (Evt.neg (by omega) (Evt.succ ?_))))
   simp only [l7_GraphDominates.j1]
   exact Evt.neg (by simp; omega) (Evt.pos (by first | rfl | trivial) (Evt.pos (by first | rfl | trivial) (Evt.pos ha0 (Evt.pos (by omega) (Evt.pos hb0 (Evt.pos (show b < ((Go.Proofs.Ytjjedbcgkljdeaa.A.rd_L3 t a).length : Int) by omega) (Evt.pos ex (Evt.pos (by omega) (Evt.pos (show b < ((Go.Proofs.Ytjjedbcgkljdeaa.A.rd_L3 u a).length : Int) by omega) (Evt.pos ey (Evt.bind awake_ev (Evt.const true))))))))))))
  ·refine mid false false 6 6 ?_ (d1 hab) (p1 hab)
   have fin : ∀ f : Bool, f = true → Evt (fun k => l7_GraphDominates.j1 k a b false 6 false 6 t u f) true := by
    intro f hf
    refine Evt.succ ?_
    simp only [l7_GraphDominates.j1]
    exact Evt.pos hf (Evt.pos (by first | rfl | trivial) (Evt.pos (by first | rfl | trivial) (Evt.neg (by simp) (Evt.neg (by simp) (Evt.bind awake_ev (Evt.const true))))))
   refine Evt.succ ?_
   simp only [l7_GraphDominates.j0]
   refine Evt.neg (by simp) ?_
   by_cases h0 : a < 0
   ·exact Evt.pos h0 (fin true rfl)
   refine Evt.neg h0 ?_
   by_cases h2 : a ≥ (g.length : Int)
   ·exact Evt.pos h2 (fin true rfl)
   refine Evt.neg h2 ?_
   by_cases h3 : b < 0
   ·exact Evt.pos h3 (fin true rfl)
   ·exact Evt.neg h3 (fin _ (by simp; omega))
 ·rw [if_neg hv] at hc; rw [Bool.eq_false_iff.2 hv] at hve; refine Evt.bind (a := ([], 1)) ?_ (Evt.bind (a := ([], 1)) ?_ (Evt.bind (a := (false, 1)) ?_ (Evt.bind (a := (false, 1)) ?_ (Evt.bind hc (Evt.neg (by decide) (Evt.pos rfl (Evt.pos rfl (Evt.pos rfl (Evt.pos rfl (Evt.pos (by simp [wrap64]) (Evt.neg (by simp) (Evt.neg (by simp) (Evt.bind awake_ev (Evt.const true))))))))))))))
  ·unfold graph_Dominators.f
   exact Evt.bind hve (Evt.neg (by decide) (Evt.const _))
  ·unfold graph_Postdominators.f
   exact Evt.bind hve (Evt.neg (by decide) (Evt.const _))
  ·unfold graph_Dominates.f
   exact Evt.bind hve (Evt.neg (by decide) (Evt.const _))
  ·unfold graph_Postdominates.f
   exact Evt.bind hve (Evt.neg (by decide) (Evt.const _))
end Go.Proofs.Ytjjedbcgkljdeaa.L
end
