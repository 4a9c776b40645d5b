/- Texts of this claim, cut down to what its theorem uses and laid end to end (wip/shake.py). -/
import Derived.ArgAppend
import Derived.Below
import Derived.BigQuiet
import Derived.ChangeOld
import Derived.ChangeSlices
import Derived.Deep.AppendLies
import Derived.Deep.CutBlock
import Derived.Deep.DeepCutAuto
import Derived.Deep.Draws
import Derived.Deep.LoopGhost
import Derived.Deep.Matrix
import Derived.Deep.OwnRows
import Derived.Deep.QuietTactic
import Derived.Deep.RegionHeld3
import Derived.KernelRfl
import Derived.Laws.BitsLemmas
import Derived.Laws.BytesArg
import Derived.Laws.CopyOwn
import Derived.Laws.IdiomCopy
import Derived.Laws.MakeOwn
import Derived.Laws.OwnMore
import Derived.Laws.Rows
import Derived.Laws.Slices
import Derived.Laws.StructEq
import Derived.Lib.AppendStr
import Derived.Lib.ConvBytes
import Derived.LoopIn
import Derived.LoopNIn
import Derived.Maps.AppendAt
import Derived.OpenShut
import Derived.OrdersHeld
import Derived.OwnWalk
import Derived.OwnWalkIn
import Derived.ProofKit
import Derived.RangeFuncBound
import Derived.RangeFuncBox
import Derived.RangeFuncCalls
import Derived.RangeFuncFrom
import Derived.RangeFuncLeaves
import Derived.RangeFuncNested
import Derived.RowKit
import Derived.RowKit3
import Derived.Shelf.Abstract
import Derived.ShutString
import Derived.SizedLaws
import Derived.Tactics
import Derived.TacticsInMore
import Derived.Test.YtjjedbcgkljdeaaProg
import Derived.WalkKit
import Derived.WideLaws
import GoSem.ClaimData
import Derived.Test.YtjjedbcgkljdeaaKRenamed2
section
namespace Go.Proofs.Ytjjedbcgkljdeaa.M
open Go.RowKit Go.Proofs.YtjjedbcgkljdeaaW.PrintWords Go.Proofs.YtjjedbcgkljdeaaW.PrintLast Go.Proofs.YtjjedbcgkljdeaaW.PrintMore Go.Proofs.Ytjjedbcgkljdeaa.A
def inB (n : Nat) (x : Int) : Bool := decide (0 ≤ x) && decide (x < (n : Int))
def rowB (n : Nat) (r : List Int) : Bool := decide (r.length ≤ 2) && r.all (inB n)
def validB (g : List (List Int)) : Bool := decide (1 ≤ g.length) && (decide (g.length ≤ 2000) && g.all (rowB g.length))
def wideB (g : List (List Int)) : Bool := (g.take 41).any (fun r => decide (4 < r.length)) || decide (40 < g.length)
theorem wideB_false {g : List (List Int)} (h : wideB g = false) : g.length ≤ 40 ∧ ∀ r ∈ g, r.length ≤ 4 := by
 unfold wideB at h
 simp only [Bool.or_eq_false_iff, decide_eq_false_iff_not, List.any_eq_false] at h
 refine ⟨by omega, fun r hr => ?_⟩
 have := h.1 r (by rw [List.take_of_length_le (by omega)]; exact hr)
 simpa using this
theorem rd_L1_nat (g : List (List Int)) (i : Nat) (h : i < g.length) : rd_L1 g (i : Int) = g[i] := by simp [rd_L1, h]
theorem rd_L1_mem {g : List (List Int)} {a : Int} (h0 : 0 ≤ a) (h1 : a < (g.length : Int)) : rd_L1 g a ∈ g := by
 obtain ⟨i, rfl⟩ := Int.eq_ofNat_of_zero_le h0; rw [rd_L1_nat g i (by omega)]; exact List.getElem_mem _
theorem rd_L1_len {g : List (List Int)} {N : Nat} (h : ∀ r ∈ g, r.length ≤ N) (a : Int) : (rd_L1 g a).length ≤ N := by
 unfold rd_L1
 rw [List.getD_eq_getElem?_getD]; rcases Nat.lt_or_ge a.toNat g.length with h1 | h1
 ·rw [List.getElem?_eq_getElem h1]; exact h _ (List.getElem_mem h1)
 ·rw [List.getElem?_eq_none h1]; exact Nat.zero_le _
theorem all_t {α : Type} {p : α → Bool} {x : α} {l : List α} (b : Bool) (h : p x = true) : ((x :: l).all p && b) = (l.all p && b) := by simp [h]
theorem all_f {α : Type} {p : α → Bool} {x : α} {l : List α} (b : Bool) (h : p x = false) : ((x :: l).all p && b) = false := by simp [h]
theorem all_c {α : Type} (p : α → Bool) (x : α) (l : List α) : (x :: l).all p = (p x && l.all p) := by simp
theorem any_c {α : Type} (p : α → Bool) (x : α) (l : List α) (b : Bool) : ((x :: l).any p || b) = (p x || (l.any p || b)) := by simp [Bool.or_assoc]
theorem inB_t {n : Nat} {x : Int} (h0 : 0 ≤ x) (h1 : x < (n : Int)) : inB n x = true := by simp [inB, h0, h1]
theorem inB_f {n : Nat} {x : Int} (h : x < 0 ∨ (n : Int) ≤ x) : inB n x = false := by
 unfold inB
 rcases h with h | h
 ·rw [decide_eq_false (by omega)]; rfl
 ·rw [decide_eq_false (p := x < (n : Int)) (by omega), Bool.and_false]
theorem rowB_f {n : Nat} {r : List Int} (h : 2 < r.length) : rowB n r = false := by
 unfold rowB; rw [decide_eq_false (by omega)]; rfl
theorem rowB_2 {n : Nat} {r : List Int} (h : r.length ≤ 2) : rowB n r = r.all (inB n) := by
 unfold rowB; rw [decide_eq_true h]; rfl
theorem valid_l1 (g : List (List Int)) (a : Int) (r : List Int) (hr : r.length ≤ 100000) (b : Bool) (hb : Evt (fun k => graph_valid.l0 k g g (g.length : Int) (wrap64 (a + 1))) b) :
  ∀ (d i : Nat), i + d = r.length → Evt (fun k => graph_valid.l1 k g g (g.length : Int) a r (r.length : Int) (i : Int)) ((r.drop i).all (inB g.length) && b)
 | 0, i, hd => by
  rw [List.drop_of_length_le (by omega)]
  refine Evt.succ ?_
  simp only [graph_valid.l1]
  exact Evt.neg (by omega) (by simpa using hb)
 | d + 1, i, hd => by
  have hi : i < r.length := by omega
  have ih := valid_l1 g a r hr b hb d (i + 1) (by omega)
  rw [List.drop_eq_getElem_cons hi]; refine Evt.succ ?_
  simp only [graph_valid.l1, rd_nat _ _ hi, wrap_succ i (by omega)]
  refine Evt.pos (by omega) (Evt.pos (by omega) (Evt.pos (by omega) ?_))
  by_cases h0 : r[i] < 0
  ·rw [all_f _ (inB_f (by omega))]
   exact Evt.pos h0 (Evt.const false)
  ·by_cases h1 : r[i] ≥ (g.length : Int)
   ·rw [all_f _ (inB_f (by omega))]
    exact Evt.neg h0 (Evt.pos h1 (Evt.const false))
   ·rw [all_t _ (inB_t (by omega) (by omega))]
    exact Evt.neg h0 (Evt.neg h1 ih)
theorem valid_l0 (g : List (List Int)) (hg : g.length ≤ 100000) (hr : ∀ r ∈ g, r.length ≤ 100000) :
  ∀ (d i : Nat), i + d = g.length → Evt (fun k => graph_valid.l0 k g g (g.length : Int) (i : Int)) ((g.drop i).all (rowB g.length))
 | 0, i, hd => by
  rw [List.drop_of_length_le (by omega)]
  refine Evt.succ ?_
  simp only [graph_valid.l0]
  exact Evt.neg (by omega) (Evt.const true)
 | d + 1, i, hd => by
  have hi : i < g.length := by omega
  have ih := valid_l0 g hg hr d (i + 1) (by omega)
  rw [List.drop_eq_getElem_cons hi]; refine Evt.succ ?_
  simp only [graph_valid.l0, rd_L1_nat g i hi]
  refine Evt.pos (by omega) (Evt.pos (by omega) (Evt.pos (by omega) ?_))
  by_cases h2 : ((g[i].length : Nat) : Int) > 2
  ·rw [all_c, rowB_f (by omega), Bool.false_and]
   exact Evt.pos h2 (Evt.const false)
  ·refine Evt.neg h2 ?_
   have h := valid_l1 g (i : Int) g[i] (hr _ (List.getElem_mem hi)) _ (by rw [wrap_succ i (by omega)]; exact ih) g[i].length 0 (by omega)
   rw [all_c, rowB_2 (by omega)]
   simpa using h
theorem valid_ev (g : List (List Int)) (hg : g.length ≤ 100000) (hr : ∀ r ∈ g, r.length ≤ 100000) : Evt (fun k => graph_valid.f k g) (validB g) := by
 unfold graph_valid.f validB
 by_cases h1 : (g.length : Int) < 1
 ·refine Evt.pos h1 (Evt.succ ?_)
  rw [decide_eq_false (p := 1 ≤ g.length) (by omega), Bool.false_and]
  simp only [graph_valid.j0]
  exact Evt.pos trivial (Evt.const false)
 ·refine Evt.neg h1 (Evt.succ ?_)
  rw [decide_eq_true (p := 1 ≤ g.length) (by omega), Bool.true_and]
  simp only [graph_valid.j0]
  by_cases h2 : (g.length : Int) > 2000
  ·rw [decide_eq_false (p := g.length ≤ 2000) (by omega), Bool.false_and]
   exact Evt.pos (by simpa using h2) (Evt.const false)
  ·rw [decide_eq_true (p := g.length ≤ 2000) (by omega), Bool.true_and]
   refine Evt.neg (by simpa using h2) ?_
   simpa using valid_l0 g hg hr g.length 0 (by omega)
theorem rvalid_l1 (g : List (List Int)) (a : Nat) (ha : a < g.length) (hr : g[a].length ≤ 100000) (b : Bool) (hb : Evt (fun k => r7_Valid.l0 k g (wrap64 ((a : Int) + 1))) b) :
  ∀ (d i : Nat), i + d = g[a].length → Evt (fun k => r7_Valid.l1 k g (a : Int) (i : Int)) ((g[a].drop i).all (inB g.length) && b)
 | 0, i, hd => by
  rw [List.drop_of_length_le (by omega)]
  refine Evt.succ ?_
  simp only [r7_Valid.l1, rd_L1_nat g a ha]
  exact Evt.pos (by omega) (Evt.pos (by omega) (Evt.neg (by omega) (by simpa using hb)))
 | d + 1, i, hd => by
  have hi : i < g[a].length := by omega
  have ih := rvalid_l1 g a ha hr b hb d (i + 1) (by omega)
  rw [List.drop_eq_getElem_cons hi]; refine Evt.succ ?_
  simp only [r7_Valid.l1, rd_L1_nat g a ha, rd_nat _ _ hi, wrap_succ i (by omega)]
  refine Evt.pos (by omega) (Evt.pos (by omega) (Evt.pos (by omega) (Evt.pos (by omega) ?_)))
  by_cases h0 : g[a][i] < 0
  ·rw [all_f _ (inB_f (by omega))]
   exact Evt.pos h0 (Evt.const false)
  ·by_cases h1 : g[a][i] ≥ (g.length : Int)
   ·rw [all_f _ (inB_f (by omega))]
    exact Evt.neg h0 (Evt.pos h1 (Evt.const false))
   ·rw [all_t _ (inB_t (by omega) (by omega))]
    exact Evt.neg h0 (Evt.neg h1 ih)
theorem rvalid_l0 (g : List (List Int)) (hg : g.length ≤ 100000) (hr : ∀ r ∈ g, r.length ≤ 100000) :
  ∀ (d i : Nat), i + d = g.length → Evt (fun k => r7_Valid.l0 k g (i : Int)) ((g.drop i).all (rowB g.length))
 | 0, i, hd => by
  rw [List.drop_of_length_le (by omega)]
  refine Evt.succ ?_
  simp only [r7_Valid.l0]
  exact Evt.neg (by omega) (Evt.const true)
 | d + 1, i, hd => by
  have hi : i < g.length := by omega
  have ih := rvalid_l0 g hg hr d (i + 1) (by omega)
  rw [List.drop_eq_getElem_cons hi]; refine Evt.succ ?_
  simp only [r7_Valid.l0, rd_L1_nat g i hi]
  refine Evt.pos (by omega) (Evt.pos (by omega) ?_)
  by_cases h2 : ((g[i].length : Nat) : Int) > 2
  ·rw [all_c, rowB_f (by omega), Bool.false_and]
   exact Evt.pos h2 (Evt.const false)
  ·refine Evt.neg h2 ?_
   have h := rvalid_l1 g i hi (hr _ (List.getElem_mem hi)) _ (by rw [wrap_succ i (by omega)]; exact ih) g[i].length 0 (by omega)
   rw [all_c, rowB_2 (by omega)]
   simpa using h
theorem rvalid_ev (g : List (List Int)) (hg : g.length ≤ 100000) (hr : ∀ r ∈ g, r.length ≤ 100000) : Evt (fun k => r7_Valid.f k g) (validB g) := by
 unfold r7_Valid.f validB
 by_cases h1 : (g.length : Int) < 1
 ·refine Evt.pos h1 (Evt.succ ?_)
  rw [decide_eq_false (p := 1 ≤ g.length) (by omega), Bool.false_and]
  simp only [r7_Valid.j0]
  exact Evt.pos trivial (Evt.const false)
 ·refine Evt.neg h1 (Evt.succ ?_)
  rw [decide_eq_true (p := 1 ≤ g.length) (by omega), Bool.true_and]
  simp only [r7_Valid.j0]
  by_cases h2 : (g.length : Int) > 2000
  ·rw [decide_eq_false (p := g.length ≤ 2000) (by omega), Bool.false_and]
   exact Evt.pos (by simpa using h2) (Evt.const false)
  ·rw [decide_eq_true (p := g.length ≤ 2000) (by omega), Bool.true_and]
   refine Evt.neg (by simpa using h2) ?_
   simpa using rvalid_l0 g hg hr g.length 0 (by omega)
theorem wide_l0 (g : List (List Int)) : ∀ (d i : Nat), i + d = 41 → i ≤ g.length → Evt (fun k => l7_wide.l0 k g (i : Int)) (((g.take 41).drop i).any (fun r => decide (4 < r.length)) || decide (40 < g.length))
 | 0, i, hd, hi => by
  rw [List.drop_of_length_le (by rw [List.length_take]; omega)]
  refine Evt.succ ?_
  simp only [l7_wide.l0]
  by_cases h : (i : Int) < (g.length : Int)
  ·refine Evt.pos h (Evt.succ ?_)
   simp only [l7_wide.j1]
   refine Evt.neg (by simp; omega) ?_
   rw [show decide ((g.length : Int) > 40) = decide (40 < g.length) from decide_eq_decide.2 (by omega)]
   simpa using Evt.const _
  ·refine Evt.neg h (Evt.succ ?_)
   simp only [l7_wide.j1]
   refine Evt.neg (by simp) ?_
   rw [show decide ((g.length : Int) > 40) = decide (40 < g.length) from decide_eq_decide.2 (by omega)]
   simpa using Evt.const _
 | d + 1, i, hd, hi => by
  refine Evt.succ ?_
  simp only [l7_wide.l0]
  by_cases h : (i : Int) < (g.length : Int)
  ·have hi2 : i < g.length := by omega
   have hi3 : i < (g.take 41).length := by rw [List.length_take]; omega
   have ih := wide_l0 g d (i + 1) (by omega) (by omega)
   rw [List.drop_eq_getElem_cons hi3, List.getElem_take]; refine Evt.pos h (Evt.succ ?_)
   simp only [l7_wide.j1, rd_L1_nat g i hi2, wrap_succ i (by omega)]
   refine Evt.pos (by simp; omega) (Evt.pos (by omega) (Evt.pos h ?_))
   by_cases h4 : ((g[i].length : Nat) : Int) > 4
   ·rw [any_c, decide_eq_true (p := 4 < g[i].length) (by omega), Bool.true_or]
    exact Evt.pos h4 (Evt.const true)
   ·rw [any_c, decide_eq_false (p := 4 < g[i].length) (by omega), Bool.false_or]
    exact Evt.neg h4 ih
  ·rw [List.drop_of_length_le (by rw [List.length_take]; omega)]
   refine Evt.neg h (Evt.succ ?_)
   simp only [l7_wide.j1]
   refine Evt.neg (by simp) ?_
   rw [show decide ((g.length : Int) > 40) = decide (40 < g.length) from decide_eq_decide.2 (by omega)]
   simpa using Evt.const _
theorem wide_ev (g : List (List Int)) : Evt (fun k => l7_wide.f k g) (wideB g) := by
 unfold l7_wide.f wideB
 simpa using wide_l0 g 41 0 (by omega) (by omega)
def exitsL (g : List (List Int)) (i : Nat) : List Int := ((List.range g.length).drop i).filterMap fun (a : Nat) => if (rd_L1 g (a : Int)).length = 0 then some (a : Int) else none
def risingL (s : List Bool) (i : Nat) : List Int := ((List.range s.length).drop i).filterMap fun (a : Nat) => if rdOf false s (a : Int) = true then some (a : Int) else none
theorem range_drop {n i : Nat} (h : i < n) : (List.range n).drop i = i :: (List.range n).drop (i + 1) := by
 rw [List.drop_eq_getElem_cons (by simpa using h)]; simp
theorem range_drop_nil {n i : Nat} (h : n ≤ i) : (List.range n).drop i = [] := List.drop_of_length_le (by simpa using h)
theorem exits_l0 (g : List (List Int)) (hg : g.length ≤ 100000) : ∀ (d i : Nat) (acc : List Int), i + d = g.length → acc.length ≤ i → Evt (fun k => graph_exits.l0 k acc g (g.length : Int) (i : Int)) (acc ++ exitsL g i)
 | 0, i, acc, hd, ha => by
  rw [exitsL, range_drop_nil (by omega)]
  refine Evt.succ ?_
  simp only [graph_exits.l0]
  exact Evt.neg (by omega) (by simpa using Evt.const acc)
 | d + 1, i, acc, hd, ha => by
  refine Evt.succ ?_
  simp only [graph_exits.l0, wrap_succ i (by omega)]
  refine Evt.pos (by omega) (Evt.pos (by omega) (Evt.pos (by omega) ?_))
  rw [exitsL, range_drop (by omega), List.filterMap_cons]
  by_cases h : (rd_L1 g (i : Int)).length = 0
  ·rw [if_pos h]; have ih := exits_l0 g hg d (i + 1) (acc ++ [(i : Int)]) (by omega) (by simp; omega)
   rw [List.append_assoc] at ih; exact Evt.pos (by omega) (Evt.pos (by omega) ih)
  ·rw [if_neg h]; exact Evt.neg (by omega) (exits_l0 g hg d (i + 1) acc (by omega) (by omega))
theorem exits_ev (g : List (List Int)) (hg : g.length ≤ 100000) : Evt (fun k => graph_exits.f k g) (exitsL g 0) := by
 unfold graph_exits.f
 simpa using exits_l0 g hg g.length 0 [] (by omega) (by simp)
theorem rexits_l0 (g : List (List Int)) (hg : g.length ≤ 100000) : ∀ (d i : Nat) (acc : List Int), i + d = g.length → acc.length ≤ i → Evt (fun k => r7_exits.l0 k g acc (i : Int)) (acc ++ exitsL g i)
 | 0, i, acc, hd, ha => by
  rw [exitsL, range_drop_nil (by omega)]
  refine Evt.succ ?_
  simp only [r7_exits.l0]
  exact Evt.neg (by omega) (by simpa using Evt.const acc)
 | d + 1, i, acc, hd, ha => by
  refine Evt.succ ?_
  simp only [r7_exits.l0, wrap_succ i (by omega)]
  refine Evt.pos (by omega) (Evt.pos (by omega) ?_)
  rw [exitsL, range_drop (by omega), List.filterMap_cons]
  by_cases h : (rd_L1 g (i : Int)).length = 0
  ·rw [if_pos h]; have ih := rexits_l0 g hg d (i + 1) (acc ++ [(i : Int)]) (by omega) (by simp; omega)
   rw [List.append_assoc] at ih; exact Evt.pos (by omega) (Evt.pos (by omega) ih)
  ·rw [if_neg h]; exact Evt.neg (by omega) (rexits_l0 g hg d (i + 1) acc (by omega) (by omega))
theorem rexits_ev (g : List (List Int)) (hg : g.length ≤ 100000) : Evt (fun k => r7_exits.f k g) (exitsL g 0) := by
 unfold r7_exits.f
 simpa using rexits_l0 g hg g.length 0 [] (by omega) (by simp)
theorem list_l0 (s : List Bool) (hs : s.length ≤ 100000) : ∀ (d i : Nat) (acc : List Int), i + d = s.length → acc.length ≤ i → Evt (fun k => graph_list.l0 k acc s (s.length : Int) (i : Int)) (acc ++ risingL s i)
 | 0, i, acc, hd, ha => by
  rw [risingL, range_drop_nil (by omega)]
  refine Evt.succ ?_
  simp only [graph_list.l0]
  exact Evt.neg (by omega) (by simpa using Evt.const acc)
 | d + 1, i, acc, hd, ha => by
  refine Evt.succ ?_
  simp only [graph_list.l0, wrap_succ i (by omega)]
  refine Evt.pos (by omega) (Evt.pos (by omega) (Evt.pos (by omega) ?_))
  rw [risingL, range_drop (by omega), List.filterMap_cons]
  by_cases h : rdOf false s (i : Int) = true
  ·rw [if_pos h]; have ih := list_l0 s hs d (i + 1) (acc ++ [(i : Int)]) (by omega) (by simp; omega)
   rw [List.append_assoc] at ih; exact Evt.pos h (Evt.pos (by omega) ih)
  ·rw [if_neg h]; exact Evt.neg h (list_l0 s hs d (i + 1) acc (by omega) (by omega))
theorem list_ev (s : List Bool) (hs : s.length ≤ 100000) : Evt (fun k => graph_list.f k s) (risingL s 0) := by
 unfold graph_list.f
 simpa using list_l0 s hs s.length 0 [] (by omega) (by simp)
theorem sameInts_l0 (s : List Int) (hs : s.length ≤ 100000) : ∀ (d i : Nat), i + d = s.length → Evt (fun k => r5_SameInts.l0 k s s (i : Int)) true
 | 0, i, hd => by
  refine Evt.succ ?_
  simp only [r5_SameInts.l0]
  exact Evt.neg (by omega) (Evt.const true)
 | d + 1, i, hd => by
  refine Evt.succ ?_
  simp only [r5_SameInts.l0, wrap_succ i (by omega)]
  exact Evt.pos (by omega) (Evt.pos (by omega) (Evt.pos (by omega) (Evt.pos (by first | rfl | trivial) (sameInts_l0 s hs d (i + 1) (by omega)))))
theorem sameInts_ev (s : List Int) (hs : s.length ≤ 100000) : Evt (fun k => r5_SameInts.f k s s) true := by
 unfold r5_SameInts.f
 exact Evt.pos rfl (by simpa using sameInts_l0 s hs s.length 0 (by omega))
end Go.Proofs.Ytjjedbcgkljdeaa.M
end
section
namespace Go.Proofs.Ytjjedbcgkljdeaa.M
open Go.RowKit Go.Proofs.YtjjedbcgkljdeaaW.PrintWords Go.Proofs.YtjjedbcgkljdeaaW.PrintLast Go.Proofs.YtjjedbcgkljdeaaW.PrintMore Go.Proofs.Ytjjedbcgkljdeaa.A
structure TI (B : Nat) (g t : List (List Int)) (a i : Nat) : Prop where
 len : t.length = g.length
 mem : ∀ b : Int, 0 ≤ b → b < (g.length : Int) → ∀ y : Int, y ∈ rd_L1 t b ↔ (∃ c : Nat, y = (c : Int) ∧ c < a ∧ b ∈ rd_L1 g (c : Int)) ∨ (y = (a : Int) ∧ b ∈ (rd_L1 g (a : Int)).take i)
 rows : ∀ b : Int, (rd_L1 t b).length ≤ B * a + i
theorem rd_L1_set (t : List (List Int)) (m x : Int) (r : List Int) (h0 : 0 ≤ m) (h1 : m < t.length) (hx : 0 ≤ x) : rd_L1 (t.set m.toNat r) x = if x = m then r else rd_L1 t x := by
 unfold rd_L1
 simp only [List.getD_eq_getElem?_getD, List.getElem?_set]
 by_cases h : x = m
 ·subst h; rw [if_pos rfl, if_pos rfl, if_pos (by omega)]; rfl
 ·rw [if_neg (by omega), if_neg h]
theorem rd_L1_set_len (t : List (List Int)) (m : Nat) (r : List Int) (N : Nat) (h : ∀ b : Int, (rd_L1 t b).length ≤ N) (hr : r.length ≤ N) (b : Int) : (rd_L1 (t.set m r) b).length ≤ N := by
 unfold rd_L1
 simp only [List.getD_eq_getElem?_getD, List.getElem?_set]
 have := h b
 unfold rd_L1 at this
 rw [List.getD_eq_getElem?_getD] at this; split
 ·split
  ·exact hr
  ·exact Nat.zero_le _
 ·exact this
theorem take_succ_mem {r : List Int} {i : Nat} (hi : i < r.length) (b : Int) : b ∈ r.take (i + 1) ↔ b ∈ r.take i ∨ b = r[i] := by
 rw [List.take_succ_eq_append_getElem hi, List.mem_append, List.mem_singleton]
theorem TI.zero (B : Nat) (g : List (List Int)) : TI B g (List.replicate g.length []) 0 0 := by
 have h : ∀ b : Int, rd_L1 (List.replicate g.length []) b = [] := fun b => by
  unfold rd_L1
  rw [List.getD_eq_getElem?_getD, List.getElem?_replicate]; split <;> rfl
 refine ⟨by simp, fun b _ _ y => ?_, fun b => by rw [h]; exact Nat.zero_le _⟩
 rw [h]; simp
theorem TI.next {B : Nat} {g t : List (List Int)} {a i : Nat} (h : TI B g t a i) (hi : (rd_L1 g (a : Int)).length = i) (h4 : i ≤ B) : TI B g t (a + 1) 0 := by
 refine ⟨h.len, fun b h0 h1 y => ?_, fun b => by have h1 := h.rows b; have h2 : B * (a + 1) = B * a + B := Nat.mul_succ B a; omega⟩
 rw [h.mem b h0 h1 y, List.take_of_length_le (by omega)]
 simp only [List.take_zero, List.not_mem_nil, and_false, or_false]
 constructor
 ·rintro (⟨c, rfl, hc, hb⟩ | ⟨rfl, hb⟩)
  ·exact ⟨c, rfl, by omega, hb⟩
  ·exact ⟨a, rfl, by omega, hb⟩
 ·rintro ⟨c, rfl, hc, hb⟩
  by_cases e : c = a
  ·subst e; exact .inr ⟨rfl, hb⟩
  ·exact .inl ⟨c, rfl, by omega, hb⟩
theorem TI.same {B : Nat} {g t : List (List Int)} {a i : Nat} (h : TI B g t a i) (hi : i < (rd_L1 g (a : Int)).length) (hm : (a : Int) ∈ rd_L1 t ((rd_L1 g (a : Int))[i])) (h0 : 0 ≤ (rd_L1 g (a : Int))[i]) (h1 : (rd_L1 g (a : Int))[i] < (g.length : Int)) : TI B g t a (i + 1) := by
 refine ⟨h.len, fun b hb0 hb1 y => ?_, fun b => by have := h.rows b; omega⟩
 rw [take_succ_mem hi, h.mem b hb0 hb1 y]; constructor
 ·rintro (hc | ⟨rfl, hb⟩)
  ·exact .inl hc
  ·exact .inr ⟨rfl, .inl hb⟩
 ·rintro (hc | ⟨rfl, hb | rfl⟩)
  ·exact .inl hc
  ·exact .inr ⟨rfl, hb⟩
  ·exact (h.mem _ h0 h1 _).1 hm
theorem TI.push {B : Nat} {g t : List (List Int)} {a i : Nat} (h : TI B g t a i) (hi : i < (rd_L1 g (a : Int)).length) (h0 : 0 ≤ (rd_L1 g (a : Int))[i]) (h1 : (rd_L1 g (a : Int))[i] < (g.length : Int)) :
  TI B g (t.set ((rd_L1 g (a : Int))[i]).toNat (rd_L1 t ((rd_L1 g (a : Int))[i]) ++ [(a : Int)])) a (i + 1) := by
 have hl := h.len; generalize hm : (rd_L1 g (a : Int))[i] = m at *
 refine ⟨by rw [List.length_set, hl], fun b hb0 hb1 y => ?_, fun b => ?_⟩
 ·rw [take_succ_mem hi, hm, rd_L1_set t m b _ h0 (by omega) hb0]
  by_cases e : b = m
  ·subst e; rw [if_pos rfl, List.mem_append, List.mem_singleton, h.mem _ hb0 hb1 y]; constructor
   ·rintro ((hc | ⟨rfl, hb⟩) | rfl)
    ·exact .inl hc
    ·exact .inr ⟨rfl, .inl hb⟩
    ·exact .inr ⟨rfl, .inr rfl⟩
   ·rintro (hc | ⟨rfl, hb | _⟩)
    ·exact .inl (.inl hc)
    ·exact .inl (.inr ⟨rfl, hb⟩)
    ·exact .inr rfl
  ·rw [if_neg e, h.mem b hb0 hb1 y]; constructor
   ·rintro (hc | ⟨rfl, hb⟩)
    ·exact .inl hc
    ·exact .inr ⟨rfl, .inl hb⟩
   ·rintro (hc | ⟨rfl, hb | hb⟩)
    ·exact .inl hc
    ·exact .inr ⟨rfl, hb⟩
    ·exact absurd hb e
 ·exact rd_L1_set_len t _ _ _ (fun b => by have := h.rows b; omega) (by rw [List.length_append, List.length_singleton]; have := h.rows m; omega) b
theorem turned_l (B : Nat) (hB : B ≤ 100000) (g : List (List Int)) (hg : Gr g) (hn : g.length ≤ 100000) (hBn : B * g.length ≤ 10000000000) (hr : ∀ r ∈ g, r.length ≤ B) : ∀ (d a : Nat), a + d = g.length →
  (∀ t, TI B g t a 0 → ∃ r, Evt (fun k => graph_turned.l0 k t g (g.length : Int) (a : Int)) r ∧ TI B g r g.length 0)
 | 0, a, hd => fun t ht => by
  obtain rfl : a = g.length := by omega
  refine ⟨t, Evt.succ ?_, ht⟩
  simp only [graph_turned.l0]
  exact Evt.neg (by omega) (Evt.const t)
 | d + 1, a, hd => fun t ht => by
  have ih := turned_l B hB g hg hn hBn hr d (a + 1) (by omega)
  have hrl : (rd_L1 g (a : Int)).length ≤ B := rd_L1_len hr _
  have hBa : B * a ≤ B * g.length := Nat.mul_le_mul_left B (by omega)
  have inner : ∀ (e i : Nat) (t : List (List Int)), i + e = (rd_L1 g (a : Int)).length → TI B g t a i → ∃ r, Evt (fun k => graph_turned.l1 k t (a : Int) g (g.length : Int) (a : Int) (rd_L1 g (a : Int)) ((rd_L1 g (a : Int)).length : Int) (i : Int)) r ∧ TI B g r g.length 0 := by
   intro e
   induction e with
   | zero =>
    intro i t he ht
    obtain ⟨r, h1, h2⟩ := ih t (ht.next (by omega) (by omega))
    refine ⟨r, Evt.succ ?_, h2⟩
    simp only [graph_turned.l1, wrap_succ a (by omega)]
    exact Evt.neg (by omega) h1
   | succ e ihe =>
    intro i t he ht
    have hi : i < (rd_L1 g (a : Int)).length := by omega
    have hx := hg.row (a : Int) ((rd_L1 g (a : Int))[i]) (List.getElem_mem hi); have hro := ht.rows ((rd_L1 g (a : Int))[i]); have hl := ht.len; have hpush := fun hh => ihe (i + 1) _ hh (ht.push hi hx.1 hx.2)
    have hsame := fun hm => ihe (i + 1) t (by omega) (ht.same hi hm hx.1 hx.2)
    have hm0 : rd (rd_L1 g (a : Int)) (i : Int) = (rd_L1 g (a : Int))[i] := rd_nat _ _ hi
    generalize (rd_L1 g (a : Int))[i] = m at *
    by_cases h0 : (rd_L1 t m).length = 0
    ·obtain ⟨r, h1, h2⟩ := hpush (by omega)
     refine ⟨r, Evt.succ ?_, h2⟩
     simp only [graph_turned.l1, hm0, wrap_succ i (by omega)]
     exact Evt.pos (by omega) (Evt.pos (by omega) (Evt.pos (by omega) (Evt.pos hx.1 (Evt.pos (by omega) (Evt.pos (by omega) (Evt.pos (by omega) h1))))))
    ·have hw : wrap64 (((rd_L1 t m).length : Int) - 1) = (((rd_L1 t m).length - 1 : Nat) : Int) := by rw [wrap64_id (by omega) (by omega)]; omega
     by_cases hlast : rd (rd_L1 t m) (((rd_L1 t m).length - 1 : Nat) : Int) = (a : Int)
     ·obtain ⟨r, h1, h2⟩ := hsame (by
       rw [rd_nat _ _ (by omega)] at hlast
       rw [← hlast]; exact List.getElem_mem _)
      refine ⟨r, Evt.succ ?_, h2⟩
      simp only [graph_turned.l1, hm0, wrap_succ i (by omega), hw]
      exact Evt.pos (by omega) (Evt.pos (by omega) (Evt.pos (by omega) (Evt.pos hx.1 (Evt.pos (by omega) (Evt.neg (by omega) (Evt.pos (by omega) (Evt.pos (by omega) (Evt.pos hlast h1))))))))
     ·obtain ⟨r, h1, h2⟩ := hpush (by omega)
      refine ⟨r, Evt.succ ?_, h2⟩
      simp only [graph_turned.l1, hm0, wrap_succ i (by omega), hw]
      exact Evt.pos (by omega) (Evt.pos (by omega) (Evt.pos (by omega) (Evt.pos hx.1 (Evt.pos (by omega) (Evt.neg (by omega) (Evt.pos (by omega) (Evt.pos (by omega) (Evt.neg hlast (Evt.pos (by omega) h1)))))))))
  obtain ⟨r, h1, h2⟩ := inner (rd_L1 g (a : Int)).length 0 t (by omega) ht
  refine ⟨r, Evt.succ ?_, h2⟩
  simp only [graph_turned.l0]
  exact Evt.pos (by omega) (Evt.pos (by omega) (Evt.pos (by omega) h1))
structure TurnedOf (B : Nat) (g t : List (List Int)) : Prop where
 len : t.length = g.length
 mem : ∀ b : Int, 0 ≤ b → b < (g.length : Int) → ∀ y : Int, y ∈ rd_L1 t b ↔ 0 ≤ y ∧ y < (g.length : Int) ∧ b ∈ rd_L1 g y
 rows : ∀ b : Int, (rd_L1 t b).length ≤ B * g.length
theorem TI.done {B : Nat} {g t : List (List Int)} (h : TI B g t g.length 0) : TurnedOf B g t := by
 refine ⟨h.len, fun b h0 h1 y => ?_, fun b => by simpa using h.rows b⟩
 rw [h.mem b h0 h1 y]; simp only [List.take_zero, List.not_mem_nil, and_false, or_false]
 constructor
 ·rintro ⟨c, rfl, hc, hb⟩
  exact ⟨by omega, by omega, hb⟩
 ·rintro ⟨hy0, hy1, hb⟩
  obtain ⟨c, rfl⟩ := Int.eq_ofNat_of_zero_le hy0; exact ⟨c, rfl, by omega, hb⟩
theorem TurnedOf.gr {B : Nat} {g t : List (List Int)} (h : TurnedOf B g t) : Gr t := by
 intro r hr y hy
 obtain ⟨i, hi, rfl⟩ := List.mem_iff_getElem.1 hr; have hl := h.len; have h2 := (h.mem (i : Int) (by omega) (by omega) y).1 (by rw [rd_L1_nat t i hi]; exact hy)
 rw [hl]; exact ⟨h2.1, h2.2.1⟩
theorem turned_ev (B : Nat) (hB : B ≤ 100000) (g : List (List Int)) (hg : Gr g) (hn : g.length ≤ 100000) (hBn : B * g.length ≤ 10000000000) (hr : ∀ r ∈ g, r.length ≤ B) : ∃ t, Evt (fun k => graph_turned.f k g) t ∧ TurnedOf B g t := by
 obtain ⟨r, h1, h2⟩ := turned_l B hB g hg hn hBn hr g.length 0 (by omega) _ (TI.zero B g)
 refine ⟨r, ?_, h2.done⟩
 unfold graph_turned.f
 exact Evt.pos (by omega) (Evt.pos (by omega) (by simpa using h1))
theorem rturned_l (B : Nat) (hB : B ≤ 100000) (g : List (List Int)) (hg : Gr g) (hn : g.length ≤ 100000) (hBn : B * g.length ≤ 10000000000) (hr : ∀ r ∈ g, r.length ≤ B) : ∀ (d a : Nat), a + d = g.length →
  (∀ t, TI B g t a 0 → ∃ r, Evt (fun k => r7_Turned.l0 k g t (a : Int)) r ∧ TI B g r g.length 0)
 | 0, a, hd => fun t ht => by
  obtain rfl : a = g.length := by omega
  refine ⟨t, Evt.succ ?_, ht⟩
  simp only [r7_Turned.l0]
  exact Evt.neg (by omega) (Evt.const t)
 | d + 1, a, hd => fun t ht => by
  have ih := rturned_l B hB g hg hn hBn hr d (a + 1) (by omega)
  have hrl : (rd_L1 g (a : Int)).length ≤ B := rd_L1_len hr _
  have hBa : B * a ≤ B * g.length := Nat.mul_le_mul_left B (by omega)
  have inner : ∀ (e i : Nat) (t : List (List Int)), i + e = (rd_L1 g (a : Int)).length → TI B g t a i → ∃ r, Evt (fun k => r7_Turned.l1 k g t (a : Int) (i : Int)) r ∧ TI B g r g.length 0 := by
   intro e
   induction e with
   | zero =>
    intro i t he ht
    obtain ⟨r, h1, h2⟩ := ih t (ht.next (by omega) (by omega))
    refine ⟨r, Evt.succ ?_, h2⟩
    simp only [r7_Turned.l1, wrap_succ a (by omega)]
    exact Evt.pos (by omega) (Evt.pos (by omega) (Evt.neg (by omega) h1))
   | succ e ihe =>
    intro i t he ht
    have hi : i < (rd_L1 g (a : Int)).length := by omega
    have hx := hg.row (a : Int) ((rd_L1 g (a : Int))[i]) (List.getElem_mem hi); have hro := ht.rows ((rd_L1 g (a : Int))[i]); have hl := ht.len; have hpush := fun hh => ihe (i + 1) _ hh (ht.push hi hx.1 hx.2)
    have hm0 : rd (rd_L1 g (a : Int)) (i : Int) = (rd_L1 g (a : Int))[i] := rd_nat _ _ hi
    generalize (rd_L1 g (a : Int))[i] = m at *
    obtain ⟨r, h1, h2⟩ := hpush (by omega)
    refine ⟨r, Evt.succ ?_, h2⟩
    simp only [r7_Turned.l1, hm0, wrap_succ i (by omega)]
    exact Evt.pos (by omega) (Evt.pos (by omega) (Evt.pos (by omega) (Evt.pos (by omega) (Evt.pos hx.1 (Evt.pos (by omega) (Evt.pos (by omega) h1))))))
  obtain ⟨r, h1, h2⟩ := inner (rd_L1 g (a : Int)).length 0 t (by omega) ht
  refine ⟨r, Evt.succ ?_, h2⟩
  simp only [r7_Turned.l0]
  exact Evt.pos (by omega) h1
theorem rturned_ev (B : Nat) (hB : B ≤ 100000) (g : List (List Int)) (hg : Gr g) (hn : g.length ≤ 100000) (hBn : B * g.length ≤ 10000000000) (hr : ∀ r ∈ g, r.length ≤ B) : ∃ t, Evt (fun k => r7_Turned.f k g) t ∧ TurnedOf B g t := by
 obtain ⟨r, h1, h2⟩ := rturned_l B hB g hg hn hBn hr g.length 0 (by omega) _ (TI.zero B g)
 refine ⟨r, ?_, h2.done⟩
 unfold r7_Turned.f
 exact Evt.pos (by omega) (Evt.pos (by omega) (by simpa using h1))
end Go.Proofs.Ytjjedbcgkljdeaa.M
end
section
namespace Go.Proofs.Ytjjedbcgkljdeaa.M
open Go.RowKit Go.Proofs.YtjjedbcgkljdeaaW.PrintWords Go.Proofs.YtjjedbcgkljdeaaW.PrintLast Go.Proofs.YtjjedbcgkljdeaaW.PrintMore Go.Proofs.Ytjjedbcgkljdeaa.A
structure VEnd (g : List (List Int)) (s : List Bool) (l : List Int) (m : Nat) (l' : List Int) (s' : List Bool) : Prop where
 len : s'.length = g.length
 sum : l'.length + s'.count false + m = l.length + s.count false + 1
 le : s'.count false ≤ s.count false
theorem visit_ex (g : List (List Int)) (hg : Gr g) (hn : g.length ≤ 100000) (hr : ∀ r ∈ g, r.length ≤ 100000) : ∀ (c : Nat) (n : Int) (s : List Bool) (l : List Int), s.length = g.length → s.count false ≤ c → 0 ≤ n → n < (g.length : Int) → rdOf false s n = false → l.length + s.count false ≤ g.length →
  ∃ l' s', Evt (fun k => r7_visit.f k g n s l) (l', s') ∧ VEnd g s l 1 l' s'
 | c, n, s, l, hs, hc, h0, h1, hf, hl => by
  have hlt : n.toNat < s.length := by omega
  have hf2 : s[n.toNat] = false := by
   have : rdOf false s n = s[n.toNat] := by simp [rdOf, hlt]
   rw [← this]; exact hf
  have hcs := count_set_true s n.toNat hlt hf2; have hrl : (rd_L1 g n).length ≤ 100000 := rd_L1_len hr _
  have inner : ∀ (d j : Nat) (s1 : List Bool) (l1 : List Int), j + d = (rd_L1 g n).length → s1.length = g.length → s1.count false + 1 ≤ s.count false → l1.length + 1 + s1.count false ≤ g.length →
    ∃ l' s', Evt (fun k => r7_visit.l0 k g n s1 l1 (j : Int)) (l', s') ∧ VEnd g s1 l1 0 l' s' := by
   intro d
   induction d with
   | zero =>
    intro j s1 l1 hd hs1 hc1 hl1
    refine ⟨[n] ++ l1, s1, Evt.succ ?_, hs1, by simp; omega, Nat.le_refl _⟩
    simp only [r7_visit.l0]
    refine Evt.pos h0 (Evt.pos h1 (Evt.neg (by omega) ?_))
    simp only [Option.bind_some]
    exact Evt.pos (by simp; omega) (Evt.const _)
   | succ d ih =>
    intro j s1 l1 hd hs1 hc1 hl1
    have hj : j < (rd_L1 g n).length := by omega
    have hx := hg.row n ((rd_L1 g n)[j]) (List.getElem_mem hj); have hm : rd (rd_L1 g n) (j : Int) = (rd_L1 g n)[j] := rd_nat _ _ hj
    generalize (rd_L1 g n)[j] = m at *
    by_cases hsm : rdOf false s1 m = true
    ·obtain ⟨l', s', h2, h3⟩ := ih (j + 1) s1 l1 (by omega) hs1 hc1 hl1
     refine ⟨l', s', Evt.succ ?_, h3⟩
     simp only [r7_visit.l0, hm, wrap_succ j (by omega)]
     exact Evt.pos h0 (Evt.pos h1 (Evt.pos (by omega) (Evt.pos (by omega) (Evt.pos hx.1 (Evt.pos (by omega) (Evt.pos hsm h2))))))
    ·obtain ⟨l2, s2, h2, h3⟩ := visit_ex g hg hn hr (c - 1) m s1 l1 hs1 (by omega) hx.1 hx.2 (Bool.eq_false_iff.2 hsm) (by omega)
     have e1 := h3.sum; have e2 := h3.le; obtain ⟨l', s', h4, h5⟩ := ih (j + 1) s2 l2 (by omega) h3.len (by omega) (by omega)
     have e3 := h5.sum; have e4 := h5.le; refine ⟨l', s', Evt.succ ?_, h5.len, by omega, by omega⟩
     simp only [r7_visit.l0, hm, wrap_succ j (by omega)]
     refine Evt.pos h0 (Evt.pos h1 (Evt.pos (by omega) (Evt.pos (by omega) (Evt.pos hx.1 (Evt.pos (by omega) (Evt.neg hsm ?_))))))
     exact Evt.bind h2 h4
  obtain ⟨l', s', h2, h3⟩ := inner (rd_L1 g n).length 0 (s.set n.toNat true) l (by omega) (by rw [List.length_set, hs]) (by omega) (by omega)
  have e1 := h3.sum; have e2 := h3.le; refine ⟨l', s', Evt.succ ?_, h3.len, by omega, by omega⟩
  simp only [r7_visit.f]
  exact Evt.pos h0 (Evt.pos (by omega) h2)
  termination_by _ _ s _ => s.count false
  decreasing_by omega
theorem getD_last (t : List (Int × Int)) (p : Int × Int) : (t ++ [p]).getD ((t ++ [p]).length - 1) (0, 0) = p := by
 rw [List.getD_eq_getElem?_getD]; simp
theorem take_last (t : List (Int × Int)) (p : Int × Int) : (t ++ [p]).take ((t ++ [p]).length - 1) = t := by simp
theorem sim (g : List (List Int)) (hr : ∀ r ∈ g, r.length ≤ 100000) (hn : g.length ≤ 100000) : ∀ k,
  (∀ n s l l' s', r7_visit.f k g n s l = some (l', s') → n < (g.length : Int) → s.length = g.length → rdOf false s n = false → ∃ P, l' = P.reverse ++ l ∧ s'.length = g.length ∧ s'.count false ≤ s.count false ∧ ∀ t rest, t.length + s.count false ≤ g.length → Evt (fun k => poF g k s' t) rest → Evt (fun k => poF g k (s.set n.toNat true) (t ++ [(n, 0)])) (P ++ rest)) ∧
  (∀ n s l (j : Nat) l' s', r7_visit.l0 k g n s l (j : Int) = some (l', s') → s.length = g.length → j ≤ (rd_L1 g n).length → ∃ P, l' = P.reverse ++ l ∧ s'.length = g.length ∧ s'.count false ≤ s.count false ∧ ∀ t rest, t.length + 1 + s.count false ≤ g.length → Evt (fun k => poF g k s' t) rest → Evt (fun k => poF g k s (t ++ [(n, (j : Int))])) (P ++ rest))
 | 0 => ⟨fun n s l l' s' h => by simp [r7_visit.f] at h, fun n s l j l' s' h => by simp [r7_visit.l0] at h⟩
 | k + 1 => by
  obtain ⟨ihA, ihB⟩ := sim g hr hn k; constructor
  ·intro n s l l' s' h hn1 hs hf
   rw [r7_visit.f] at h; split at h
   case isFalse => cases h
   split at h
   case isFalse => cases h
   next h0 h1 =>
   have hlt : n.toNat < s.length := by omega
   have hf2 : s[n.toNat] = false := by
    have : rdOf false s n = s[n.toNat] := by simp [rdOf, hlt]
    rw [← this]; exact hf
   have hcs := count_set_true s n.toNat hlt hf2; obtain ⟨P, e1, e2, e3, e4⟩ := ihB n (s.set n.toNat true) l 0 l' s' (by simpa using h) (by rw [List.length_set, hs]) (Nat.zero_le _)
   refine ⟨P, e1, e2, by omega, fun t rest ht hre => ?_⟩
   exact e4 t rest (by omega) hre
  ·intro n s l j l' s' h hs hj
   have hrl : (rd_L1 g n).length ≤ 100000 := rd_L1_len hr _
   rw [r7_visit.l0] at h; split at h
   case isFalse => cases h
   split at h
   case isFalse => cases h
   next h0 h1 =>
   split at h
   ·next hlt =>
    split at h
    case isFalse => cases h
    split at h
    case isFalse => cases h
    split at h
    case isFalse => cases h
    next hm0 hm1 =>
    rw [wrap_succ j (by omega)] at h
    have pop : ∀ (t : List (Int × Int)) (r2 : List Int), (rdOf false s (rd (rd_L1 g n) (j : Int)) = true → Evt (fun k => poF g k s (t ++ [(n, ((j + 1 : Nat) : Int))])) r2) →
      (rdOf false s (rd (rd_L1 g n) (j : Int)) ≠ true → t.length ≤ 200000 ∧ Evt (fun k => poF g k (s.set (rd (rd_L1 g n) (j : Int)).toNat true) ((t ++ [(n, ((j + 1 : Nat) : Int))]) ++ [(rd (rd_L1 g n) (j : Int), 0)])) r2) →
      Evt (fun k => poF g k s (t ++ [(n, (j : Int))])) r2 := by
     intro t r2 ha hb
     refine Evt.succ ?_
     simp only [poF, getD_last, take_last]
     refine Evt.neg (by simp) (Evt.pos h0 (Evt.pos h1 (Evt.neg (by omega) (Evt.pos (by omega) (Evt.pos hlt (Evt.pos hm0 (Evt.pos hm1 ?_)))))))
     by_cases hs2 : rdOf false s (rd (rd_L1 g n) (j : Int)) = true
     ·exact Evt.pos hs2 (by simpa using ha hs2)
     ·obtain ⟨h5, h6⟩ := hb hs2; exact Evt.neg hs2 (Evt.pos (by simp; omega) (by simpa using h6))
    split at h
    ·next hs2 =>
     obtain ⟨P, e1, e2, e3, e4⟩ := ihB n s l (j + 1) l' s' h hs (by omega)
     exact ⟨P, e1, e2, e3, fun t rest ht hre => pop t _ (fun _ => e4 t rest ht hre) (fun h => absurd hs2 h)⟩
    ·next hs2 =>
     obtain ⟨⟨l1, s1⟩, h5, h6⟩ := Option.bind_eq_some_iff.mp h; obtain ⟨P1, e1, e2, e3, e4⟩ := ihA _ s l l1 s1 h5 (by omega) hs (Bool.eq_false_iff.2 hs2)
     obtain ⟨P2, f1, f2, f3, f4⟩ := ihB n s1 l1 (j + 1) l' s' h6 e2 (by omega)
     refine ⟨P1 ++ P2, by rw [f1, e1]; simp, f2, by omega, fun t rest ht hre => pop t _ (fun h => absurd h hs2) (fun _ => ⟨by omega, ?_⟩)⟩
     rw [List.append_assoc P1 P2 rest]; exact e4 (t ++ [(n, ((j + 1 : Nat) : Int))]) (P2 ++ rest) (by simp; omega) (f4 t rest (by omega) hre)
   ·next hlt =>
    simp only [Option.bind_some] at h
    split at h
    case isFalse => cases h
    simp only [Option.some.injEq, Prod.mk.injEq] at h
    obtain ⟨rfl, rfl⟩ := h; refine ⟨[n], by simp, hs, Nat.le_refl _, fun t rest ht hre => Evt.succ ?_⟩
    simp only [poF, getD_last, take_last]
    refine Evt.neg (by simp) (Evt.pos h0 (Evt.pos h1 (Evt.pos (by omega) ?_)))
    exact Evt.bind hre (Evt.const _)
end Go.Proofs.Ytjjedbcgkljdeaa.M
end
section
namespace Go.Proofs.Ytjjedbcgkljdeaa.M
open Go.RowKit Go.Proofs.YtjjedbcgkljdeaaW.PrintWords Go.Proofs.YtjjedbcgkljdeaaW.PrintLast Go.Proofs.YtjjedbcgkljdeaaW.PrintMore Go.Proofs.Ytjjedbcgkljdeaa.A
inductive Par (g : List (List Int)) : List Int → List Int → Prop
 | nil (acc : List Int) : Par g acc []
 | cons {acc rest : List Int} {y : Int} : (∃ p ∈ acc, y ∈ rd_L1 g p) → Par g (acc ++ [y]) rest → Par g acc (y :: rest)
theorem Par.mono {g : List (List Int)} {acc l : List Int} (h : Par g acc l) : ∀ acc', (∀ x ∈ acc, x ∈ acc') → Par g acc' l := by
 induction h with
 | nil => exact fun acc' _ => Par.nil acc'
 | cons h1 _ ih =>
  intro acc' hs
  obtain ⟨p, hp, he⟩ := h1; refine Par.cons ⟨p, hs p hp, he⟩ (ih _ fun x hx => ?_)
  rcases List.mem_append.1 hx with h | h
  ·exact List.mem_append.2 (.inl (hs x h))
  ·exact List.mem_append.2 (.inr h)
theorem Par.append {g : List (List Int)} {acc l r : List Int} (h : Par g acc l) (k : Par g (acc ++ l) r) : Par g acc (l ++ r) := by
 induction h with
 | nil => simpa using k
 | cons h1 _ ih => exact Par.cons h1 (ih (by simpa [List.append_assoc] using k))
theorem Par.edge {g : List (List Int)} {acc l : List Int} (h : Par g acc l) : ∀ j (hj : j < l.length), ∃ i, ∃ hi : i < (acc ++ l).length, i < acc.length + j ∧ l[j] ∈ rd_L1 g ((acc ++ l)[i]) := by
 induction h with
 | nil => intro j hj; cases hj
 | @cons acc rest y h1 _ ih =>
  intro j hj
  cases j with
  | zero =>
   obtain ⟨p, hp, he⟩ := h1; obtain ⟨i, hi, rfl⟩ := List.mem_iff_getElem.1 hp; refine ⟨i, by rw [List.length_append]; omega, by omega, ?_⟩
   rw [List.getElem_append_left hi]; exact he
  | succ j =>
   obtain ⟨i, hi, h3, h4⟩ := ih j (by simpa using hj)
   have e : acc ++ [y] ++ rest = acc ++ y :: rest := by simp
   refine ⟨i, by rw [← e]; exact hi, by rw [List.length_append, List.length_singleton] at h3; omega, ?_⟩
   have e2 : (acc ++ y :: rest)[i]'(by rw [← e]; exact hi) = (acc ++ [y] ++ rest)[i] := by simp only [e]
   rw [e2]; exact h4
structure VisO (g : List (List Int)) (n : Int) (s : List Bool) (new : List Int) (s' : List Bool) : Prop where
 len : s'.length = g.length
 seen : ∀ x : Int, 0 ≤ x → (rdOf false s' x = true ↔ rdOf false s x = true ∨ x ∈ new)
 fresh : ∀ x ∈ new, 0 ≤ x ∧ x < (g.length : Int) ∧ rdOf false s x = false
 nodup : new.Nodup
 closed : ∀ p ∈ new, p ≠ n → ∀ y ∈ rd_L1 g p, rdOf false s' y = true
theorem visO (g : List (List Int)) (hg : Gr g) (hr : ∀ r ∈ g, r.length ≤ 100000) : ∀ k,
  (∀ n s l l' s', r7_visit.f k g n s l = some (l', s') → n < (g.length : Int) → s.length = g.length → rdOf false s n = false → ∃ Q, l' = n :: Q ++ l ∧ Par g [n] Q ∧ VisO g n s (n :: Q) s' ∧ ∀ y ∈ rd_L1 g n, rdOf false s' y = true) ∧
  (∀ n s l (j : Nat) l' s', r7_visit.l0 k g n s l (j : Int) = some (l', s') → s.length = g.length → rdOf false s n = true → j ≤ (rd_L1 g n).length → ∃ Q, l' = n :: Q ++ l ∧ Par g [n] Q ∧ VisO g n s Q s' ∧ ∀ y ∈ (rd_L1 g n).drop j, rdOf false s' y = true)
 | 0 => ⟨fun n s l l' s' h => by simp [r7_visit.f] at h, fun n s l j l' s' h => by simp [r7_visit.l0] at h⟩
 | k + 1 => by
  obtain ⟨ihA, ihB⟩ := visO g hg hr k; constructor
  ·intro n s l l' s' h hn1 hs hf
   rw [r7_visit.f] at h; split at h
   case isFalse => cases h
   split at h
   case isFalse => cases h
   next h0 h1 =>
   have hset : ∀ x : Int, 0 ≤ x → rdOf false (s.set n.toNat true) x = if x = n then true else rdOf false s x := fun x hx => rdOf_set s n x true h0 h1 hx
   obtain ⟨Q, e1, e2, e3, e4⟩ := ihB n (s.set n.toNat true) l 0 l' s' (by simpa using h) (by rw [List.length_set, hs]) (by rw [hset n h0, if_pos rfl]) (Nat.zero_le _)
   have hnQ : n ∉ Q := fun hq => by
    have := (e3.fresh n hq).2.2
    rw [hset n h0, if_pos rfl] at this; cases this
   refine ⟨Q, e1, e2, ⟨e3.len, fun x hx => ?_, fun x hx => ?_, List.nodup_cons.2 ⟨hnQ, e3.nodup⟩, fun p hp hpn => ?_⟩, by simpa using e4⟩
   ·rw [e3.seen x hx, hset x hx, List.mem_cons]; by_cases e : x = n
    ·simp [e]
    ·simp [e]
   ·rcases List.mem_cons.1 hx with rfl | hx
    ·exact ⟨h0, hn1, hf⟩
    ·obtain ⟨a, b, c⟩ := e3.fresh x hx; rw [hset x a, if_neg (fun e : x = n => hnQ (e ▸ hx))] at c
     exact ⟨a, b, c⟩
   ·rcases List.mem_cons.1 hp with rfl | hp
    ·exact absurd rfl hpn
    ·exact e3.closed p hp hpn
  ·intro n s l j l' s' h hs hsn hj
   have hrl : (rd_L1 g n).length ≤ 100000 := rd_L1_len hr _
   rw [r7_visit.l0] at h; split at h
   case isFalse => cases h
   split at h
   case isFalse => cases h
   next h0 h1 =>
   split at h
   ·next hlt =>
    split at h
    case isFalse => cases h
    split at h
    case isFalse => cases h
    split at h
    case isFalse => cases h
    next hm0 hm1 =>
    rw [wrap_succ j (by omega)] at h
    have hjl : j < (rd_L1 g n).length := by omega
    have hmem : rd (rd_L1 g n) (j : Int) ∈ rd_L1 g n := by rw [rd_nat _ _ hjl]; exact List.getElem_mem _
    have hdrop : (rd_L1 g n).drop j = rd (rd_L1 g n) (j : Int) :: (rd_L1 g n).drop (j + 1) := by rw [List.drop_eq_getElem_cons hjl, rd_nat _ _ hjl]
    rw [hdrop]; generalize rd (rd_L1 g n) (j : Int) = m at *
    split at h
    ·next hs2 =>
     obtain ⟨Q, e1, e2, e3, e4⟩ := ihB n s l (j + 1) l' s' h hs hsn (by omega)
     refine ⟨Q, e1, e2, e3, fun y hy => ?_⟩
     rcases List.mem_cons.1 hy with rfl | hy
     ·exact (e3.seen _ hm0).2 (.inl hs2)
     ·exact e4 y hy
    ·next hs2 =>
     obtain ⟨⟨l1, s1⟩, h5, h6⟩ := Option.bind_eq_some_iff.mp h; obtain ⟨Q1, e1, e2, e3, e4⟩ := ihA m s l l1 s1 h5 (by omega) hs (Bool.eq_false_iff.2 hs2)
     have hsn1 : rdOf false s1 n = true := (e3.seen n h0).2 (.inl hsn)
     obtain ⟨Q2, f1, f2, f3, f4⟩ := ihB n s1 l1 (j + 1) l' s' h6 e3.len hsn1 (by omega)
     have hkeep : ∀ x : Int, 0 ≤ x → rdOf false s1 x = true → rdOf false s' x = true := fun x hx h => (f3.seen x hx).2 (.inl h)
     refine ⟨Q2 ++ m :: Q1, by rw [f1, e1]; simp, f2.append (Par.cons ⟨n, by simp, hmem⟩ (e2.mono _ (fun x hx => by simp at hx; simp [hx]))), ⟨f3.len, fun x hx => ?_, fun x hx => ?_, ?_, fun p hp hpn y hy => ?_⟩, fun y hy => ?_⟩
     ·rw [f3.seen x hx, e3.seen x hx, List.mem_append]; constructor
      ·rintro ((h | h) | h)
       ·exact .inl h
       ·exact .inr (.inr h)
       ·exact .inr (.inl h)
      ·rintro (h | h | h)
       ·exact .inl (.inl h)
       ·exact .inr h
       ·exact .inl (.inr h)
     ·rcases List.mem_append.1 hx with h | h
      ·obtain ⟨a, b, c⟩ := f3.fresh x h; refine ⟨a, b, Bool.eq_false_iff.2 fun hc => ?_⟩
       rw [(e3.seen x a).2 (.inl hc)] at c; cases c
      ·exact e3.fresh x h
     ·refine List.nodup_append.2 ⟨f3.nodup, e3.nodup, fun a ha b hb hab => ?_⟩
      subst hab; obtain ⟨a1, b1, c1⟩ := f3.fresh a ha; rw [(e3.seen a a1).2 (.inr hb)] at c1; cases c1
     ·have hy0 := (hg.row p y hy).1; rcases List.mem_append.1 hp with h | h
      ·exact f3.closed p h hpn y hy
      ·by_cases e : p = m
       ·subst e; exact hkeep y hy0 (e4 y hy)
       ·exact hkeep y hy0 (e3.closed p h e y hy)
     ·rcases List.mem_cons.1 hy with rfl | hy
      ·exact hkeep _ hm0 ((e3.seen _ hm0).2 (.inr (by simp)))
      ·exact f4 y hy
   ·next hlt =>
    simp only [Option.bind_some] at h
    split at h
    case isFalse => cases h
    simp only [Option.some.injEq, Prod.mk.injEq] at h
    obtain ⟨rfl, rfl⟩ := h; refine ⟨[], by simp, Par.nil _, ⟨hs, fun x _ => (by simp), fun x hx => (by cases hx), List.nodup_nil, fun p hp => (by cases hp)⟩, fun y hy => ?_⟩
    rw [List.drop_of_length_le (by omega)] at hy
    cases hy
structure OrdOf (g : List (List Int)) (root : Int) (P : List Int) : Prop where
 nodup : P.Nodup
 mem : ∀ x : Int, x ∈ P ↔ Rch g (fun _ => false) [root] x
 last : ∃ P0, P = P0 ++ [root]
 fwd : ∀ j (hj : j < P.length), P[j] ≠ root → ∃ i, ∃ hi : i < P.length, j < i ∧ P[j] ∈ rd_L1 g P[i]
theorem order_spec (g : List (List Int)) (root : Int) (hg : Gr g) (h0 : 0 ≤ root) (h1 : root < (g.length : Int)) (hn : g.length ≤ 100000) (hr : ∀ r ∈ g, r.length ≤ 100000) :
  ∃ P, Evt (fun k => collectF k g root) P ∧ P.length ≤ g.length ∧ OrdOf g root P ∧ (root = 0 → Evt (fun k => r7_Order.f k g) P.reverse) := by
 have hlen : (List.replicate g.length false).length = g.length := by simp
 have hf : ∀ x : Int, rdOf false (List.replicate g.length false) x = false := fun x => by
  unfold rdOf
  rw [List.getD_eq_getElem?_getD, List.getElem?_replicate]; split <;> rfl
 obtain ⟨l', s', hv, he⟩ := visit_ex g hg hn hr _ root (List.replicate g.length false) [] hlen (Nat.le_refl _) h0 h1 (hf _) (by simp)
 obtain ⟨k, hk⟩ := hv.get; obtain ⟨P, e1, e2, e3, e4⟩ := (sim g hr hn k).1 root _ [] l' s' hk h1 hlen (hf _); obtain ⟨Q, q1, q2, q3, q4⟩ := (visO g hg hr k).1 root _ [] l' s' hk h1 hlen (hf _); have e5 := e4 [] [] (by simp) (Evt.succ (by simp only [poF]; exact Evt.pos rfl (Evt.const [])))
 rw [List.append_nil] at e1 e5 q1
 have hP : P.length ≤ g.length := by
  have := he.sum
  rw [e1] at this; simp at this
  omega
 have hPQ : P = (root :: Q).reverse := by rw [← q1, e1, List.reverse_reverse]
 have hin : InR g.length [root] := fun x hx => by obtain rfl := List.mem_singleton.1 hx; exact ⟨h0, h1⟩
 have hseen : ∀ x : Int, 0 ≤ x → (rdOf false s' x = true ↔ x ∈ root :: Q) := fun x hx => by rw [q3.seen x hx, hf]; simp
 refine ⟨P, ?_, hP, ⟨?_, fun x => ?_, ⟨Q.reverse, by rw [hPQ]; simp⟩, fun j hj hne => ?_⟩, fun hr0 => ?_⟩
 ·unfold collectF
  refine Evt.pos (by omega) (Evt.pos (by omega) (Evt.pos (by omega) ?_))
  refine Evt.bind e5 ?_
  exact Evt.pos (by omega) (Evt.const P)
 ·rw [hPQ]; exact List.pairwise_reverse.2 (q3.nodup.imp fun h => h.symm)
 ·rw [hPQ, List.mem_reverse]; constructor
  ·have hall : ∀ (acc l : List Int), Par g acc l → (∀ p ∈ acc, Rch g (fun _ => false) [root] p) → ∀ y ∈ l, Rch g (fun _ => false) [root] y := by
    intro acc l hp
    induction hp with
    | nil => intro _ y hy; cases hy
    | @cons acc rest y h1 _ ih =>
     intro hacc z hz
     obtain ⟨p, hp, hpe⟩ := h1; have hy : Rch g (fun _ => false) [root] y := Rch.step (hacc p hp) hpe rfl
     rcases List.mem_cons.1 hz with rfl | hz
     ·exact hy
     ·refine ih (fun p hp => ?_) z hz
      rcases List.mem_append.1 hp with h | h
      ·exact hacc p h
      ·obtain rfl := List.mem_singleton.1 h; exact hy
   intro hx
   have hroot : Rch g (fun _ => false) [root] root := Rch.base (by simp) rfl
   rcases List.mem_cons.1 hx with rfl | hx
   ·exact hroot
   ·exact hall [root] Q q2 (fun p hp => by obtain rfl := List.mem_singleton.1 hp; exact hroot) x hx
  ·intro hx
   induction hx with
   | base h _ => obtain rfl := List.mem_singleton.1 h; simp
   | @step a y ha hy _ ih =>
    have hy0 := (hg.row a y hy).1; refine (hseen y hy0).1 ?_
    by_cases e : a = root
    ·subst e; exact q4 y hy
    ·exact q3.closed a ih e y hy
 ·have hl : P.length = Q.length + 1 := by rw [hPQ]; simp
  have hge : ∀ i (hi : i < P.length), P[i] = (root :: Q)[P.length - 1 - i]'(by simp; omega) := by
   intro i hi
   have : P[i] = (root :: Q).reverse[i]'(by rw [← hPQ]; exact hi) := by simp only [hPQ]
   rw [this, List.getElem_reverse]; congr 1
   rw [hl]; simp
  have hj2 : P.length - 1 - j ≠ 0 := by
   intro e
   apply hne
   rw [hge j hj]; simp only [e, List.getElem_cons_zero]
  obtain ⟨m, hm⟩ : ∃ m, P.length - 1 - j = m + 1 := ⟨P.length - 1 - j - 1, by omega⟩
  obtain ⟨i, hi, h3, h4⟩ := q2.edge m (by omega)
  have hi2 : i < Q.length + 1 := by simpa using hi
  refine ⟨P.length - 1 - i, by omega, by simp at h3; omega, ?_⟩
  rw [hge j hj, hge (P.length - 1 - i) (by omega)]
  have e1 : (root :: Q)[P.length - 1 - j]'(by simp; omega) = Q[m] := by simp only [hm, List.getElem_cons_succ]
  have e2 : (root :: Q)[P.length - 1 - (P.length - 1 - i)]'(by simp; omega) = ([root] ++ Q)[i] := by
   have : P.length - 1 - (P.length - 1 - i) = i := by omega
   simp only [this, List.singleton_append]
  rw [e1, e2]; exact h4
 ·subst hr0; unfold r7_Order.f
  refine Evt.pos (by omega) (Evt.pos (by omega) ?_)
  simp only [Int.toNat_natCast]
  refine Evt.bind hv ?_
  rw [← e1]; exact Evt.const _
end Go.Proofs.Ytjjedbcgkljdeaa.M
end
section
namespace Go.Proofs.Ytjjedbcgkljdeaa.M
open Go.RowKit Go.Proofs.YtjjedbcgkljdeaaW.PrintWords Go.Proofs.YtjjedbcgkljdeaaW.PrintLast Go.Proofs.YtjjedbcgkljdeaaW.PrintMore Go.Proofs.Ytjjedbcgkljdeaa.A
def uf (l : List Int) : Int → Int := fun x => if 0 ≤ x then rd l x else -1
theorem uf_pos {l : List Int} {x : Int} (h : 0 ≤ x) : uf l x = rd l x := if_pos h
theorem rd_set (l : List Int) (q d x : Int) (h0 : 0 ≤ q) (h1 : q < l.length) (hx : 0 ≤ x) : rd (l.set q.toNat d) x = if x = q then d else rd l x := by
 unfold rd
 simp only [List.getD_eq_getElem?_getD, List.getElem?_set]
 by_cases h : x = q
 ·subst h; rw [if_pos rfl, if_pos rfl, if_pos (by omega)]; rfl
 ·rw [if_neg (by omega), if_neg h]
theorem uf_set (l : List Int) (q d : Int) (h0 : 0 ≤ q) (h1 : q < l.length) : uf (l.set q.toNat d) = put (uf l) q d := by
 funext x
 unfold put uf
 by_cases hx : 0 ≤ x
 ·rw [if_pos hx, rd_set l q d x h0 h1 hx, if_pos hx]
 ·rw [if_neg hx, if_neg hx]; rw [if_neg (by rintro rfl; exact hx h0)]
theorem put_id (up : Int → Int) (q : Int) : put up q (up q) = up := by
 funext x
 unfold put
 split
 next h => rw [h]
 next => rfl
structure Lst (R : Int → Prop) (atL upL : List Int) (n : Nat) : Prop where
 la : atL.length = n
 lu : upL.length = n
 rng : ∀ x, R x → 0 ≤ x ∧ x < (n : Int)
 neg : ∀ x, 0 ≤ x → x < (n : Int) → ¬ R x → rd atL x < 0
 nonneg : ∀ x, R x → 0 ≤ rd atL x
section
variable {R : Int → Prop} {root : Int} {E dom : Int → Int → Prop} {atL upL : List Int} {n : Nat}
theorem isect (hl : Lst R atL upL n) (s : Sta R (uf atL) root E dom) (t : Tre R (uf atL) root (uf upL)) (x1 : Int) (x5 : List Int) (x11 : List (List Int)) (x12 : Bool) (x13 x14 : Int) (x73 : List Int) (x74 : Int) (j : Nat) (hj : j < 1000000000000) :
  ∀ (N : Nat) (d p : Int), Df R (uf upL) d → Df R (uf upL) p → (uf atL root - uf atL d).toNat + (uf atL root - uf atL p).toNat ≤ N →
  ∃ c, (Df R (uf upL) c ∧ Ch (uf upL) root d c ∧ Ch (uf upL) root p c ∧ ∀ e, Ch (uf upL) root d e → Ch (uf upL) root p e → Ch (uf upL) root c e) ∧
   ∀ r, Evt (fun k => Go.Proofs.Ytjjedbcgkljdeaa.B.graph_tree.l4 k x1 x5 atL upL x11 x12 x13 x14 c x73 x74 ((j + 1 : Nat) : Int)) r →
    Evt (fun k => Go.Proofs.Ytjjedbcgkljdeaa.B.graph_tree.l5 k x1 x5 atL upL x11 x12 x13 x14 d p x73 x74 (j : Int)) r ∧
    Evt (fun k => Go.Proofs.Ytjjedbcgkljdeaa.B.graph_tree.l6 k x1 x5 atL upL x11 x12 x13 x14 d p x73 x74 (j : Int)) r ∧
    Evt (fun k => Go.Proofs.Ytjjedbcgkljdeaa.B.graph_tree.l7 k x1 x5 atL upL x11 x12 x13 x14 d p x73 x74 (j : Int)) r
 | N, d, p, hd, hp, hN => by
  obtain ⟨hd0, hd1⟩ := hl.rng d hd.1; obtain ⟨hp0, hp1⟩ := hl.rng p hp.1; have hla := hl.la; have hlu := hl.lu; have ed := uf_pos (l := atL) hd0; have ep := uf_pos (l := atL) hp0; have ud := uf_pos (l := upL) hd0; have up_ := uf_pos (l := upL) hp0; have hmd := s.max d hd.1; have hmp := s.max p hp.1; by_cases e : d = p
  ·subst e; refine ⟨d, ⟨hd, Ch.refl _, Ch.refl _, fun _ h _ => h⟩, fun r h4 => ?_⟩
   have h5 : Evt (fun k => Go.Proofs.Ytjjedbcgkljdeaa.B.graph_tree.l5 k x1 x5 atL upL x11 x12 x13 x14 d d x73 x74 (j : Int)) r := by
    refine Evt.succ ?_
    simp only [Go.Proofs.Ytjjedbcgkljdeaa.B.graph_tree.l5, wrap_succ j (by omega)]
    exact Evt.pos (by first | rfl | trivial) h4
   have h7 : Evt (fun k => Go.Proofs.Ytjjedbcgkljdeaa.B.graph_tree.l7 k x1 x5 atL upL x11 x12 x13 x14 d d x73 x74 (j : Int)) r := by
    refine Evt.succ ?_
    simp only [Go.Proofs.Ytjjedbcgkljdeaa.B.graph_tree.l7]
    exact Evt.pos hd0 (Evt.pos (by omega) (Evt.pos hd0 (Evt.pos (by omega) (Evt.neg (by omega) h5))))
   refine ⟨h5, Evt.succ ?_, h7⟩
   simp only [Go.Proofs.Ytjjedbcgkljdeaa.B.graph_tree.l6]
   exact Evt.pos hd0 (Evt.pos (by omega) (Evt.pos hd0 (Evt.pos (by omega) (Evt.neg (by omega) h7))))
  ·have hne : uf atL d ≠ uf atL p := fun h => e (s.inj d p hd.1 hp.1 h)
   by_cases hlt : uf atL p < uf atL d
   ·have hpr : p ≠ root := fun h => by subst h; omega
    obtain ⟨h1, h2⟩ := t.inc p hp hpr; have h3 := s.max _ h2.1; obtain ⟨c, ⟨c1, c2, c3, c4⟩, hc⟩ := isect hl s t x1 x5 x11 x12 x13 x14 x73 x74 j hj (N - 1) d (uf upL p) hd h2 (by omega)
    refine ⟨c, ⟨c1, c2, Ch.up hpr c3, fun x hx hy => c4 x hx ?_⟩, fun r h4 => ?_⟩
    ·cases hy with
     | refl => have := t.le hd hx; omega
     | up _ h => exact h
    ·obtain ⟨_, i6, _⟩ := hc r h4; rw [up_] at i6; have h6 : Evt (fun k => Go.Proofs.Ytjjedbcgkljdeaa.B.graph_tree.l6 k x1 x5 atL upL x11 x12 x13 x14 d p x73 x74 (j : Int)) r := by
      refine Evt.succ ?_
      simp only [Go.Proofs.Ytjjedbcgkljdeaa.B.graph_tree.l6]
      exact Evt.pos hp0 (Evt.pos (by omega) (Evt.pos hd0 (Evt.pos (by omega) (Evt.pos (by omega) (Evt.pos (by omega) i6)))))
     have h5 : Evt (fun k => Go.Proofs.Ytjjedbcgkljdeaa.B.graph_tree.l5 k x1 x5 atL upL x11 x12 x13 x14 d p x73 x74 (j : Int)) r := by
      refine Evt.succ ?_
      simp only [Go.Proofs.Ytjjedbcgkljdeaa.B.graph_tree.l5]
      exact Evt.neg e h6
     refine ⟨h5, h6, Evt.succ ?_⟩
     simp only [Go.Proofs.Ytjjedbcgkljdeaa.B.graph_tree.l7]
     exact Evt.pos hd0 (Evt.pos (by omega) (Evt.pos hp0 (Evt.pos (by omega) (Evt.neg (by omega) h5))))
   ·have hdr : d ≠ root := fun h => by subst h; omega
    obtain ⟨h1, h2⟩ := t.inc d hd hdr; have h3 := s.max _ h2.1; obtain ⟨c, ⟨c1, c2, c3, c4⟩, hc⟩ := isect hl s t x1 x5 x11 x12 x13 x14 x73 x74 j hj (N - 1) (uf upL d) p h2 hp (by omega)
    refine ⟨c, ⟨c1, Ch.up hdr c2, c3, fun x hx hy => c4 x ?_ hy⟩, fun r h4 => ?_⟩
    ·cases hx with
     | refl => have := t.le hp hy; omega
     | up _ h => exact h
    ·obtain ⟨_, _, i7⟩ := hc r h4; rw [ud] at i7; have h7 : Evt (fun k => Go.Proofs.Ytjjedbcgkljdeaa.B.graph_tree.l7 k x1 x5 atL upL x11 x12 x13 x14 d p x73 x74 (j : Int)) r := by
      refine Evt.succ ?_
      simp only [Go.Proofs.Ytjjedbcgkljdeaa.B.graph_tree.l7]
      exact Evt.pos hd0 (Evt.pos (by omega) (Evt.pos hp0 (Evt.pos (by omega) (Evt.pos (by omega) (Evt.pos (by omega) i7)))))
     have h6 : Evt (fun k => Go.Proofs.Ytjjedbcgkljdeaa.B.graph_tree.l6 k x1 x5 atL upL x11 x12 x13 x14 d p x73 x74 (j : Int)) r := by
      refine Evt.succ ?_
      simp only [Go.Proofs.Ytjjedbcgkljdeaa.B.graph_tree.l6]
      exact Evt.pos hp0 (Evt.pos (by omega) (Evt.pos hd0 (Evt.pos (by omega) (Evt.neg (by omega) h7))))
     refine ⟨Evt.succ ?_, h6, h7⟩
     simp only [Go.Proofs.Ytjjedbcgkljdeaa.B.graph_tree.l5]
     exact Evt.neg e h6
  termination_by _ d p => (uf atL root - uf atL d).toNat + (uf atL root - uf atL p).toNat
  decreasing_by all_goals omega
def LI (R : Int → Prop) (root : Int) (upL : List Int) (l : List Int) (d : Int) : Prop :=
 (d = -1 ∧ ∀ p ∈ l, ¬ Df R (uf upL) p) ∨ (Df R (uf upL) d ∧ (∀ p ∈ l, Df R (uf upL) p → Ch (uf upL) root p d) ∧ ∀ e, (∀ p ∈ l, Df R (uf upL) p → Ch (uf upL) root p e) → Ch (uf upL) root d e)
theorem l4_run (hl : Lst R atL upL n) (s : Sta R (uf atL) root E dom) (t : Tre R (uf atL) root (uf upL)) (x1 : Int) (x5 : List Int) (x11 : List (List Int)) (x12 : Bool) (x13 x14 : Int) (row : List Int) (hrow : InR n row) (hlen : row.length < 1000000000000) :
  ∀ (m j : Nat) (d : Int), j + m = row.length → LI R root upL (row.take j) d → ∃ c, LI R root upL row c ∧
   ∀ r, Evt (fun k => if 0 ≤ x14 then (if x14 < (upL.length : Int) then (if (rd upL x14) = c then (Go.Proofs.Ytjjedbcgkljdeaa.B.graph_tree.l3 k x1 x5 atL upL x11 x12 (wrap64 (x13 - 1))) else (Go.Proofs.Ytjjedbcgkljdeaa.B.graph_tree.l3 k x1 x5 atL (upL.set (x14 : Int).toNat c) x11 true (wrap64 (x13 - 1)))) else none) else none) r →
    Evt (fun k => Go.Proofs.Ytjjedbcgkljdeaa.B.graph_tree.l4 k x1 x5 atL upL x11 x12 x13 x14 d row (row.length : Int) (j : Int)) r
 | 0, j, d, hj, hd => by
  refine ⟨d, by rwa [List.take_of_length_le (by omega)] at hd, fun r hr => Evt.succ ?_⟩
  simp only [Go.Proofs.Ytjjedbcgkljdeaa.B.graph_tree.l4]
  exact Evt.neg (by omega) hr
 | m + 1, j, d, hj, hd => by
  have hjl : j < row.length := by omega
  have hmem := List.getElem_mem hjl; have htake : row.take (j + 1) = row.take j ++ [row[j]] := List.take_succ_eq_append_getElem hjl
  have hrdp : rd row (j : Int) = row[j] := rd_nat _ _ hjl
  obtain ⟨hp0, hp1⟩ := hrow _ hmem; generalize row[j] = p at *
  have hla := hl.la; have hlu := hl.lu; have ep := uf_pos (l := atL) hp0; have up_ := uf_pos (l := upL) hp0; by_cases hpD : Df R (uf upL) p
  ·have hR := hl.nonneg p hpD.1; have hU : 0 ≤ rd upL p := by have := hpD.2; rwa [up_] at this
   -- d, p or p, p
   have core : ∀ d0, Df R (uf upL) d0 → (∀ x ∈ row.take j, Df R (uf upL) x → Ch (uf upL) root x d0 ∨ d0 = p) → (∀ e, (∀ x ∈ row.take (j + 1), Df R (uf upL) x → Ch (uf upL) root x e) → Ch (uf upL) root d0 e) → (d0 = p → ∀ x ∈ row.take j, ¬ Df R (uf upL) x ∨ Ch (uf upL) root x d0) →
     ∃ c, LI R root upL row c ∧ ∀ r, Evt (fun k => if 0 ≤ x14 then (if x14 < (upL.length : Int) then (if (rd upL x14) = c then (Go.Proofs.Ytjjedbcgkljdeaa.B.graph_tree.l3 k x1 x5 atL upL x11 x12 (wrap64 (x13 - 1))) else (Go.Proofs.Ytjjedbcgkljdeaa.B.graph_tree.l3 k x1 x5 atL (upL.set (x14 : Int).toNat c) x11 true (wrap64 (x13 - 1)))) else none) else none) r →
      Evt (fun k => Go.Proofs.Ytjjedbcgkljdeaa.B.graph_tree.l5 k x1 x5 atL upL x11 x12 x13 x14 d0 p row (row.length : Int) (j : Int)) r := by
    intro d0 hd0 h1 h2 h3
    obtain ⟨c, ⟨c1, c2, c3, c4⟩, hc⟩ := isect hl s t x1 x5 x11 x12 x13 x14 row (row.length : Int) j (by omega) _ d0 p hd0 hpD (Nat.le_refl _)
    have hLI : LI R root upL (row.take (j + 1)) c := by
     refine .inr ⟨c1, fun x hx hxD => ?_, fun e he => c4 e (h2 e he) (he p (by rw [htake]; simp) hpD)⟩
     rw [htake] at hx; rcases List.mem_append.1 hx with h | h
     ·rcases h1 x h hxD with h4 | h4
      ·exact h4.trans c2
      ·rcases h3 h4 x h with h5 | h5
       ·exact absurd hxD h5
       ·exact h5.trans c2
     ·obtain rfl := List.mem_singleton.1 h; exact c3
    obtain ⟨c', i1, i2⟩ := l4_run hl s t x1 x5 x11 x12 x13 x14 row hrow hlen m (j + 1) c (by omega) hLI
    exact ⟨c', i1, fun r hr => (hc r (i2 r hr)).1⟩
   rcases hd with ⟨rfl, hno⟩ | ⟨hdD, ha, hb⟩
   ·obtain ⟨c, c1, c2⟩ := core p hpD (fun x hx hxD => absurd hxD (hno x hx)) (fun e he => he p (by rw [htake]; simp) hpD) (fun _ x hx => .inl (hno x hx))
    refine ⟨c, c1, fun r hr => Evt.succ ?_⟩
    simp only [Go.Proofs.Ytjjedbcgkljdeaa.B.graph_tree.l4, hrdp]
    refine Evt.pos (by omega) (Evt.pos (by omega) (Evt.pos (by omega) (Evt.pos hp0 (Evt.pos (by omega) (Evt.neg (by omega) (Evt.pos (by omega) (Evt.succ ?_)))))))
    simp only [Go.Proofs.Ytjjedbcgkljdeaa.B.graph_tree.j5]
    refine Evt.neg (by simp; omega) (Evt.pos (by omega) (Evt.succ ?_))
    simp only [Go.Proofs.Ytjjedbcgkljdeaa.B.graph_tree.j6]
    exact c2 r hr
   ·obtain ⟨c, c1, c2⟩ := core d hdD (fun x hx hxD => .inl (ha x hx hxD)) (fun e he => hb e (fun x hx hxD => he x (by rw [htake]; simp [hx]) hxD)) (fun _ x hx => by
     by_cases hxD : Df R (uf upL) x
     ·exact .inr (ha x hx hxD)
     ·exact .inl hxD)
    have hd0 := (hl.rng d hdD.1).1; refine ⟨c, c1, fun r hr => Evt.succ ?_⟩
    simp only [Go.Proofs.Ytjjedbcgkljdeaa.B.graph_tree.l4, hrdp]
    refine Evt.pos (by omega) (Evt.pos (by omega) (Evt.pos (by omega) (Evt.pos hp0 (Evt.pos (by omega) (Evt.neg (by omega) (Evt.pos (by omega) (Evt.succ ?_)))))))
    simp only [Go.Proofs.Ytjjedbcgkljdeaa.B.graph_tree.j5]
    refine Evt.neg (by simp; omega) (Evt.neg (by omega) (Evt.succ ?_))
    simp only [Go.Proofs.Ytjjedbcgkljdeaa.B.graph_tree.j6]
    exact c2 r hr
  ·have hLI : LI R root upL (row.take (j + 1)) d := by
    have hsplit : ∀ x, x ∈ row.take (j + 1) → Df R (uf upL) x → x ∈ row.take j := fun x hx hxD => by
     rw [htake] at hx; rcases List.mem_append.1 hx with h | h
     ·exact h
     ·obtain rfl := List.mem_singleton.1 h; exact absurd hxD hpD
    rcases hd with ⟨rfl, hno⟩ | ⟨hdD, ha, hb⟩
    ·exact .inl ⟨rfl, fun x hx hxD => hno x (hsplit x hx hxD) hxD⟩
    ·exact .inr ⟨hdD, fun x hx hxD => ha x (hsplit x hx hxD) hxD, fun e he => hb e (fun x hx hxD => he x (by rw [htake]; simp [hx]) hxD)⟩
   obtain ⟨c, c1, c2⟩ := l4_run hl s t x1 x5 x11 x12 x13 x14 row hrow hlen m (j + 1) d (by omega) hLI
   refine ⟨c, c1, fun r hr => Evt.succ ?_⟩
   simp only [Go.Proofs.Ytjjedbcgkljdeaa.B.graph_tree.l4, hrdp]
   refine Evt.pos (by omega) (Evt.pos (by omega) (Evt.pos (by omega) (Evt.pos hp0 (Evt.pos (by omega) ?_))))
   have fin : ∀ b, b = true → Evt (fun k => Go.Proofs.Ytjjedbcgkljdeaa.B.graph_tree.j5 k x1 x5 atL upL x11 x12 x13 x14 d p row (row.length : Int) (j : Int) b) r := by
    intro b hb
    refine Evt.succ ?_
    simp only [Go.Proofs.Ytjjedbcgkljdeaa.B.graph_tree.j5, wrap_succ j (by omega)]
    exact Evt.pos hb (c2 r hr)
   by_cases ha : rd atL p < 0
   ·exact Evt.pos ha (fin true rfl)
   ·refine Evt.neg ha (Evt.pos (by omega) (fin _ ?_))
    have hRp : R p := by
     by_cases h : R p
     ·exact h
     ·exact absurd (hl.neg p hp0 hp1 h) ha
    have : ¬ 0 ≤ uf upL p := fun h => hpD ⟨hRp, h⟩
    rw [up_] at this; simp; omega
end
end Go.Proofs.Ytjjedbcgkljdeaa.M
end
section
namespace Go.Proofs.Ytjjedbcgkljdeaa.M
open Go.RowKit Go.Proofs.YtjjedbcgkljdeaaW.PrintWords Go.Proofs.YtjjedbcgkljdeaaW.PrintLast Go.Proofs.YtjjedbcgkljdeaaW.PrintMore Go.Proofs.Ytjjedbcgkljdeaa.A
def val (L : Nat) (at_ : Int → Int) (u : Int) : Nat := if u < 0 then L + 1 else ((L : Int) - at_ u).toNat
def Phi (P : List Int) (at_ up : Int → Int) : Nat := (P.map fun x => val P.length at_ (up x)).sum
theorem sum_le {l : List Int} {f g : Int → Nat} (h : ∀ x ∈ l, f x ≤ g x) : (l.map f).sum ≤ (l.map g).sum := by
 induction l with
 | nil => exact Nat.le_refl _
 | cons a l ih =>
  have h1 := h a (by simp)
  have h2 := ih (fun x hx => h x (by simp [hx]))
  simp only [List.map_cons, List.sum_cons]
  omega
theorem sum_lt {l : List Int} {f g : Int → Nat} (h : ∀ x ∈ l, f x ≤ g x) {a : Int} (ha : a ∈ l) (hlt : f a < g a) : (l.map f).sum < (l.map g).sum := by
 induction l with
 | nil => cases ha
 | cons b l ih =>
  have h1 := h b (by simp)
  have h2 : ∀ x ∈ l, f x ≤ g x := fun x hx => h x (by simp [hx])
  simp only [List.map_cons, List.sum_cons]
  rcases List.mem_cons.1 ha with rfl | ha
  ·have := sum_le h2; omega
  ·have := ih h2 ha; omega
structure Swp (R : Int → Prop) (root : Int) (E dom : Int → Int → Prop) (atL P : List Int) (T : List (List Int)) (n : Nat) : Prop where
 s : Sta R (uf atL) root E dom
 at_ : ∀ i (hi : i < P.length), rd atL P[i] = (i : Int)
 mem : ∀ x, x ∈ P ↔ R x
 last : ∃ P0, P = P0 ++ [root]
 len : P.length ≤ n
 nb : n ≤ 100000
 tl : T.length = n
 row : ∀ q, R q → InR n (rd_L1 T q) ∧ (rd_L1 T q).length < 1000000000000 ∧ ∀ p, E p q ↔ R p ∧ p ∈ rd_L1 T q
section
variable {R : Int → Prop} {root : Int} {E dom : Int → Int → Prop} {atL : List Int} {P : List Int} {T : List (List Int)} {n : Nat}
theorem l3_run (w : Swp R root E dom atL P T n) : ∀ (m : Nat) (upL : List Int) (fl : Bool), m + 1 ≤ P.length → Lst R atL upL n → Inv R (uf atL) root E dom (m : Int) (uf upL) → (∀ x, 0 ≤ x → x < (n : Int) → ¬ R x → rd upL x = -1) →
  ∃ upL' fl', Lst R atL upL' n ∧ Inv R (uf atL) root E dom 0 (uf upL') ∧ (∀ x, 0 ≤ x → x < (n : Int) → ¬ R x → rd upL' x = -1) ∧ Phi P (uf atL) (uf upL') ≤ Phi P (uf atL) (uf upL) ∧
   (fl' = false → fl = false ∧ upL' = upL ∧ ∀ i (hi : i < P.length), i < m → Nca R E (uf upL) root P[i] (uf upL P[i])) ∧ (fl = false → fl' = true → Phi P (uf atL) (uf upL') < Phi P (uf atL) (uf upL)) ∧
   ∀ r, Evt (fun k => Go.Proofs.Ytjjedbcgkljdeaa.B.graph_tree.l2 k root P atL upL' T fl') r → Evt (fun k => Go.Proofs.Ytjjedbcgkljdeaa.B.graph_tree.l3 k root P atL upL T fl ((m : Int) - 1)) r
 | 0, upL, fl, hm, hl, hv, hs => by
  refine ⟨upL, fl, hl, hv, hs, Nat.le_refl _, fun h => ⟨h, rfl, fun i _ hi => absurd hi (by omega)⟩, fun h1 h2 => (by rw [h1] at h2; cases h2), fun r hr => Evt.succ ?_⟩
  simp only [Go.Proofs.Ytjjedbcgkljdeaa.B.graph_tree.l3]
  exact Evt.neg (by omega) hr
 | m + 1, upL, fl, hm, hl, hv, hs => by
  have hmP : m < P.length := by omega
  have hq := (w.mem P[m]).1 (List.getElem_mem hmP); have hatq := w.at_ m hmP; have hrdP : rd P (m : Int) = P[m] := rd_nat _ _ hmP
  have hqr : P[m] ≠ root := by
   intro e
   obtain ⟨P0, hP0⟩ := w.last; have h1 := w.at_ (P.length - 1) (by omega)
   have h2 : P[P.length - 1]'(by omega) = root := by
    have : P.length - 1 = P0.length := by rw [hP0]; simp
    simp only [this]
    simp only [hP0, List.getElem_append_right (Nat.le_refl _), Nat.sub_self, List.getElem_cons_zero]
   rw [h2, ← e, hatq] at h1; omega
  obtain ⟨hrow, hrl, hE⟩ := w.row _ hq; obtain ⟨hq0, hq1⟩ := hl.rng _ hq; have hlu := hl.lu; have htl := w.tl; have hlen := w.len; have hnb := w.nb; generalize hPm : P[m] = q at *
  obtain ⟨c, hc, hc2⟩ := l4_run hl w.s hv.tre root P T fl (m : Int) q (rd_L1 T q) hrow hrl (rd_L1 T q).length 0 (-1) (by omega) (.inl ⟨rfl, fun p hp => by simp at hp⟩)
  have hatu : uf atL q = (m : Int) := by rw [uf_pos hq0]; exact hatq
  obtain ⟨p0, hp0, hp0a⟩ := w.s.fwd q hq hqr; have hp0D := hv.dfi p0 (w.s.src _ _ hp0) (by omega)
  have hN : Nca R E (uf upL) root q c := by
   rcases hc with ⟨_, hno⟩ | ⟨_, ha, hb⟩
   ·exact absurd hp0D (hno p0 ((hE p0).1 hp0).2)
   ·exact ⟨fun p hp hpD => ha p ((hE p).1 hp).2 hpD, fun e he => hb e (fun p hp hpD => he p ((hE p).2 ⟨hpD.1, hp⟩) hpD)⟩
  obtain ⟨hv', hc0, hcat, hcR, hmon⟩ := hv.step w.s hq hqr (by omega) hN
  have hv'' : Inv R (uf atL) root E dom (m : Int) (put (uf upL) q c) := by
   have : ((m + 1 : Nat) : Int) - 1 = (m : Int) := by omega
   rwa [this] at hv'
  have hw1 : wrap64 ((m : Int) - 1) = (m : Int) - 1 := wrap64_id (by omega) (by omega)
  have enter : ∀ r, Evt (fun k => Go.Proofs.Ytjjedbcgkljdeaa.B.graph_tree.l4 k root P atL upL T fl (m : Int) q (-1) (rd_L1 T q) ((rd_L1 T q).length : Int) 0) r →
    Evt (fun k => Go.Proofs.Ytjjedbcgkljdeaa.B.graph_tree.l3 k root P atL upL T fl (((m + 1 : Nat) : Int) - 1)) r := by
   intro r h
   refine Evt.succ ?_
   rw [show ((m + 1 : Nat) : Int) - 1 = (m : Int) by omega]
   simp only [Go.Proofs.Ytjjedbcgkljdeaa.B.graph_tree.l3, hrdP]
   exact Evt.pos (by omega) (Evt.pos (by omega) (Evt.pos (by omega) (Evt.pos hq0 (Evt.pos (by omega) h))))
  by_cases heq : rd upL q = c
  ·have hid : put (uf upL) q c = uf upL := by
    have : c = uf upL q := by rw [uf_pos hq0]; exact heq.symm
    rw [this]; exact put_id _ _
   rw [hid] at hv''
   obtain ⟨upL', fl', a1, a2, a3, a4, a5, a6, a7⟩ := l3_run w m upL fl (by omega) hl hv'' hs
   refine ⟨upL', fl', a1, a2, a3, a4, fun h => ?_, a6, fun r hr => enter r (hc2 r ?_)⟩
   ·obtain ⟨b1, b2, b3⟩ := a5 h; refine ⟨b1, b2, fun i hi him => ?_⟩
    by_cases e : i = m
    ·subst e; rw [hPm, uf_pos hq0, heq]; exact hN
    ·exact b3 i hi (by omega)
   ·rw [hw1]; exact Evt.pos hq0 (Evt.pos (by omega) (Evt.pos heq (a7 r hr)))
  ·have hset : uf (upL.set q.toNat c) = put (uf upL) q c := uf_set upL q c hq0 (by omega)
   have hl' : Lst R atL (upL.set q.toNat c) n := ⟨hl.la, by rw [List.length_set, hlu], hl.rng, hl.neg, hl.nonneg⟩
   rw [← hset] at hv''
   have hs' : ∀ x, 0 ≤ x → x < (n : Int) → ¬ R x → rd (upL.set q.toNat c) x = -1 := fun x hx0 hx1 hx => by
    rw [rd_set upL q c x hq0 (by omega) hx0, if_neg (fun e : x = q => hx (e ▸ hq))]
    exact hs x hx0 hx1 hx
   have hphi : Phi P (uf atL) (uf (upL.set q.toNat c)) < Phi P (uf atL) (uf upL) := by
    unfold Phi
    have hcase : val P.length (uf atL) c < val P.length (uf atL) (uf upL q) := by
     unfold val
     rw [if_neg (by omega)]
     have hcn := hl.nonneg c hcR; rw [← uf_pos (l := atL) hc0] at hcn; by_cases hun : uf upL q < 0
     ·rw [if_pos hun]; omega
     ·rw [if_neg hun]; have hne : c ≠ uf upL q := by rw [uf_pos hq0]; exact fun e => heq e.symm
      have h1 := hmon ⟨hq, by omega⟩ hne
      have h2 : uf atL c < (P.length : Int) := by
       obtain ⟨i, hi, hic⟩ := List.mem_iff_getElem.1 ((w.mem c).2 hcR); rw [uf_pos hc0, ← hic, w.at_ i hi]; omega
      omega
    refine sum_lt (fun x _ => ?_) ((w.mem q).2 hq) ?_
    ·rw [hset]; unfold put
     split
     next e => subst e; exact Nat.le_of_lt hcase
     next => exact Nat.le_refl _
    ·rw [hset, put_same]; exact hcase
   obtain ⟨upL', fl', a1, a2, a3, a4, a5, a6, a7⟩ := l3_run w m (upL.set q.toNat c) true (by omega) hl' hv'' hs'
   refine ⟨upL', fl', a1, a2, a3, by omega, fun h => absurd (a5 h).1 (by simp), fun _ _ => by omega, fun r hr => enter r (hc2 r ?_)⟩
   rw [hw1]; exact Evt.pos hq0 (Evt.pos (by omega) (Evt.neg heq (a7 r hr)))
theorem Inv.again (_w : Swp R root E dom atL P T n) {upL : List Int} (hl : Lst R atL upL n) (v : Inv R (uf atL) root E dom 0 (uf upL)) (M : Int) (_hM : 0 ≤ M) : Inv R (uf atL) root E dom M (uf upL) := by
 have hp : ∀ x, R x → 0 ≤ uf atL x := fun x hx => by rw [uf_pos (hl.rng x hx).1]; exact hl.nonneg x hx
 exact ⟨v.tre, v.q1, v.N, v.K, fun a p ha har hpa hpD hlt _ => v.J a p ha har hpa hpD hlt (.inl (hp a ha.1)), fun a ha _ => v.dfi a ha (hp a ha), .inl fun a ha => v.dfi a ha (hp a ha)⟩
structure Fix (R : Int → Prop) (at_ : Int → Int) (root : Int) (E dom : Int → Int → Prop) (up : Int → Int) : Prop where
 inv : Inv R at_ root E dom 0 up
 all : ∀ x, R x → Df R up x
 nca : ∀ x, R x → x ≠ root → Nca R E up root x (up x)
theorem l2_run (w : Swp R root E dom atL P T n) : ∀ (F : Nat) (upL : List Int), Phi P (uf atL) (uf upL) ≤ F → Lst R atL upL n → Inv R (uf atL) root E dom ((P.length - 1 : Nat) : Int) (uf upL) → (∀ x, 0 ≤ x → x < (n : Int) → ¬ R x → rd upL x = -1) →
  ∃ upL', Lst R atL upL' n ∧ Fix R (uf atL) root E dom (uf upL') ∧ (∀ x, 0 ≤ x → x < (n : Int) → ¬ R x → rd upL' x = -1) ∧ Evt (fun k => Go.Proofs.Ytjjedbcgkljdeaa.B.graph_tree.l2 k root P atL upL T true) (upL'.set root.toNat (-1))
 | F, upL, hF, hl, hv, hs => by
  have hP1 : 1 ≤ P.length := by obtain ⟨P0, h⟩ := w.last; rw [h]; simp
  have hlen := w.len; have hnb := w.nb; obtain ⟨hr0, hr1⟩ := hl.rng root w.s.rootR; obtain ⟨upL', fl', a1, a2, a3, a4, a5, a6, a7⟩ := l3_run w (P.length - 1) upL false (by omega) hl hv hs
  have hp : ∀ x, R x → 0 ≤ uf atL x := fun x hx => by rw [uf_pos (hl.rng x hx).1]; exact hl.nonneg x hx
  have enter : ∀ r, Evt (fun k => Go.Proofs.Ytjjedbcgkljdeaa.B.graph_tree.l2 k root P atL upL' T fl') r → Evt (fun k => Go.Proofs.Ytjjedbcgkljdeaa.B.graph_tree.l2 k root P atL upL T true) r := by
   intro r hr
   refine Evt.succ ?_
   simp only [Go.Proofs.Ytjjedbcgkljdeaa.B.graph_tree.l2]
   refine Evt.pos (by first | rfl | trivial) ?_
   rw [wrap64_id (by omega) (by omega), show (P.length : Int) - 2 = ((P.length - 1 : Nat) : Int) - 1 by omega]
   exact a7 r hr
  cases fl' with
  | false =>
   obtain ⟨_, rfl, b3⟩ := a5 rfl; refine ⟨upL', a1, ⟨a2, fun x hx => a2.dfi x hx (hp x hx), fun x hx hxr => ?_⟩, a3, enter _ (Evt.succ ?_)⟩
   ·obtain ⟨i, hi, rfl⟩ := List.mem_iff_getElem.1 ((w.mem x).2 hx); refine b3 i hi ?_
    rcases Nat.lt_or_ge i (P.length - 1) with h | h
    ·exact h
    ·exfalso
     apply hxr
     obtain ⟨P0, hP0⟩ := w.last; have e : i = P0.length := by rw [hP0] at hi h; simp at hi h; omega
     simp only [e]
     simp only [hP0, List.getElem_append_right (Nat.le_refl _), Nat.sub_self, List.getElem_cons_zero]
   ·simp only [Go.Proofs.Ytjjedbcgkljdeaa.B.graph_tree.l2]
    have := a1.lu
    exact Evt.neg (by simp) (Evt.pos hr0 (Evt.pos (by omega) (Evt.const _)))
  | true =>
   have hlt := a6 rfl rfl; obtain ⟨u, b1, b2, b3, b4⟩ := l2_run w (F - 1) upL' (by omega) a1 (a2.again w a1 _ (by omega)) a3
   exact ⟨u, b1, b2, b3, enter _ b4⟩
  termination_by _ upL => Phi P (uf atL) (uf upL)
  decreasing_by omega
end
end Go.Proofs.Ytjjedbcgkljdeaa.M
end
section
namespace Go.Proofs.Ytjjedbcgkljdeaa.M
open Go.RowKit Go.Proofs.YtjjedbcgkljdeaaW.PrintWords Go.Proofs.YtjjedbcgkljdeaaW.PrintLast Go.Proofs.YtjjedbcgkljdeaaW.PrintMore Go.Proofs.Ytjjedbcgkljdeaa.A
def Rg (g : List (List Int)) (root : Int) (x : Int) : Prop := Rch g (fun _ => false) [root] x
def Ed (g : List (List Int)) (root : Int) (p q : Int) : Prop := Rg g root p ∧ q ∈ rd_L1 g p
def Dom (g : List (List Int)) (root : Int) (x y : Int) : Prop := Rg g root y ∧ ¬ Rch g (fun n => n == x) [root] y
theorem nodup_inj {l : List Int} (h : l.Nodup) {i j : Nat} (hi : i < l.length) (hj : j < l.length) (e : l[i] = l[j]) : i = j := by
 rcases Nat.lt_trichotomy i j with h1 | h1 | h1
 ·exact absurd e (List.pairwise_iff_getElem.1 h i j hi hj h1)
 ·exact h1
 ·exact absurd e.symm (List.pairwise_iff_getElem.1 h j i hj hi h1)
theorem rd_replicate (n : Nat) (v x : Int) (h0 : 0 ≤ x) (h1 : x < (n : Int)) : rd (List.replicate n v) x = v := by
 unfold rd
 rw [List.getD_eq_getElem?_getD, List.getElem?_replicate, if_pos (by omega)]
 rfl
theorem replicate_of {l : List Int} {v : Int} {n : Nat} (hl : l.length = n) (h : ∀ x : Int, 0 ≤ x → x < (n : Int) → rd l x = v) : l = List.replicate n v := by
 apply List.ext_getElem (by simp [hl])
 intro i h1 h2
 have := h (i : Int) (by omega) (by omega)
 rw [rd_nat l i h1] at this; rw [this, List.getElem_replicate]
theorem l0_run (g : List (List Int)) (root : Int) (P : List Int) (n : Nat) (hn : n ≤ 100000) (r : List Int) (hr : Evt (fun k => Go.Proofs.Ytjjedbcgkljdeaa.B.graph_tree.l1 k g root P (List.replicate n (-1)) (List.replicate n (-1)) P (P.length : Int) 0) r) :
  ∀ (d i : Nat) (a u : List Int), i + d = n → a.length = n → u.length = n → (∀ x : Int, 0 ≤ x → x < (i : Int) → rd a x = -1 ∧ rd u x = -1) → Evt (fun k => Go.Proofs.Ytjjedbcgkljdeaa.B.graph_tree.l0 k g root P a u (n : Int) (i : Int)) r
 | 0, i, a, u, hd, ha, hu, h => by
  obtain rfl : i = n := by omega
  refine Evt.succ ?_
  simp only [Go.Proofs.Ytjjedbcgkljdeaa.B.graph_tree.l0]
  refine Evt.neg (by omega) ?_
  rw [replicate_of ha (fun x h0 h1 => (h x h0 h1).1), replicate_of hu (fun x h0 h1 => (h x h0 h1).2)]
  exact hr
 | d + 1, i, a, u, hd, ha, hu, h => by
  refine Evt.succ ?_
  simp only [Go.Proofs.Ytjjedbcgkljdeaa.B.graph_tree.l0, wrap_succ i (by omega)]
  refine Evt.pos (by omega) (Evt.pos (by omega) (Evt.pos (by omega) (Evt.pos (by omega) ?_)))
  refine l0_run g root P n hn r hr d (i + 1) _ _ (by omega) (by simp [ha]) (by simp [hu]) fun x h0 h1 => ?_
  rw [rd_set a (i : Int) (-1) x (by omega) (by omega) h0, rd_set u (i : Int) (-1) x (by omega) (by omega) h0]
  by_cases e : x = (i : Int)
  ·rw [if_pos e, if_pos e]; exact ⟨rfl, rfl⟩
  ·rw [if_neg e, if_neg e]; exact h x h0 (by omega)
theorem l1_run (g : List (List Int)) (root : Int) (P u : List Int) (n : Nat) (hn : n ≤ 100000) (hP : InR n P) (hnd : P.Nodup) (hlen : P.length ≤ n) :
  ∀ (d j : Nat) (a : List Int), j + d = P.length → a.length = n → (∀ i (hi : i < P.length), i < j → rd a P[i] = (i : Int)) → (∀ x : Int, 0 ≤ x → x < (n : Int) → x ∉ P → rd a x = -1) →
   ∃ a', a'.length = n ∧ (∀ i (hi : i < P.length), rd a' P[i] = (i : Int)) ∧ (∀ x : Int, 0 ≤ x → x < (n : Int) → x ∉ P → rd a' x = -1) ∧
    ∀ r, Evt (fun k => if 0 ≤ root then (if root < (u.length : Int) then ((graph_turned.f k g).bind fun t => Go.Proofs.Ytjjedbcgkljdeaa.B.graph_tree.l2 k root P a' (u.set (root : Int).toNat root) t true) else none) else none) r → Evt (fun k => Go.Proofs.Ytjjedbcgkljdeaa.B.graph_tree.l1 k g root P a u P (P.length : Int) (j : Int)) r
 | 0, j, a, hd, ha, h1, h2 => by
  refine ⟨a, ha, fun i hi => h1 i hi (by omega), h2, fun r hr => Evt.succ ?_⟩
  simp only [Go.Proofs.Ytjjedbcgkljdeaa.B.graph_tree.l1]
  exact Evt.neg (by omega) hr
 | d + 1, j, a, hd, ha, h1, h2 => by
  have hj : j < P.length := by omega
  have hm := List.getElem_mem hj; obtain ⟨hq0, hq1⟩ := hP _ hm; obtain ⟨a', b1, b2, b3, b4⟩ := l1_run g root P u n hn hP hnd hlen d (j + 1) (a.set (P[j]).toNat (j : Int)) (by omega) (by simp [ha])
   (fun i hi hij => by
    rw [rd_set a P[j] (j : Int) P[i] hq0 (by omega) (hP _ (List.getElem_mem hi)).1]
    by_cases e : P[i] = P[j]
    ·rw [if_pos e]; have := nodup_inj hnd hi hj e
     omega
    ·rw [if_neg e]; refine h1 i hi ?_
     rcases Nat.lt_or_ge i j with h | h
     ·exact h
     ·exfalso
      apply e
      have : i = j := by omega
      subst this; rfl)
   (fun x h0 hx1 hx => by
    rw [rd_set a P[j] (j : Int) x hq0 (by omega) h0, if_neg (fun e : x = P[j] => hx (e ▸ hm))]
    exact h2 x h0 hx1 hx)
  refine ⟨a', b1, b2, b3, fun r hr => Evt.succ ?_⟩
  simp only [Go.Proofs.Ytjjedbcgkljdeaa.B.graph_tree.l1, rd_nat P j hj, wrap_succ j (by omega)]
  exact Evt.pos (by omega) (Evt.pos (by omega) (Evt.pos (by omega) (Evt.pos hq0 (Evt.pos (by omega) (b4 r hr)))))
structure TreeOf (g : List (List Int)) (root : Int) (up : List Int) : Prop where
 len : up.length = g.length
 ch : ∀ n x, Rg g root n → (Ch (uf up) root n x ↔ Dom g root x n)
 dfd : ∀ n, Rg g root n → 0 ≤ rd up n
 up_lt : ∀ n, Rg g root n → n ≠ root → Rg g root (rd up n) ∧ rd up n ≠ n
 no : ∀ x : Int, 0 ≤ x → x < (g.length : Int) → ¬ Rg g root x → rd up x = -1
 lvl : ∃ f : Int → Nat, ∀ n, Rg g root n → n ≠ root → f (rd up n) < f n
theorem tree_ev (B : Nat) (hB : B ≤ 100000) (g : List (List Int)) (root : Int) (hg : Gr g) (h0 : 0 ≤ root) (h1 : root < (g.length : Int)) (hn : g.length ≤ 100000) (hBn : B * g.length ≤ 10000000000) (hr : ∀ r ∈ g, r.length ≤ B) :
  ∃ up, Evt (fun k => Go.Proofs.Ytjjedbcgkljdeaa.B.graph_tree.f k g root) (up.set root.toNat (-1)) ∧ TreeOf g root up := by
 obtain ⟨P, hPe, hPl, hPo, _⟩ := order_spec g root hg h0 h1 hn (fun r h => Nat.le_trans (hr r h) hB)
 obtain ⟨T, hTe, hT⟩ := turned_ev B hB g hg hn hBn hr; have hin : InR g.length [root] := fun x hx => by obtain rfl := List.mem_singleton.1 hx; exact ⟨h0, h1⟩
 have hrng : ∀ x, Rg g root x → 0 ≤ x ∧ x < (g.length : Int) := fun x h => h.range hg hin
 have hPR : InR g.length P := fun x hx => hrng x ((hPo.mem x).1 hx)
 have hrootR : Rg g root root := Rch.base (by simp) rfl
 obtain ⟨a, ha, ha1, ha2, ha3⟩ := l1_run g root P (List.replicate g.length (-1)) g.length hn hPR hPo.nodup hPl P.length 0 (List.replicate g.length (-1)) (by omega) (by simp) (fun i _ hi => absurd hi (by omega)) (fun x hx0 hx1 _ => rd_replicate _ _ x hx0 hx1)
 have hP1 : 1 ≤ P.length := by obtain ⟨P0, h⟩ := hPo.last; rw [h]; simp
 have hlastP : P[P.length - 1]'(by omega) = root := by
  obtain ⟨P0, hP0⟩ := hPo.last; have : P.length - 1 = P0.length := by rw [hP0]; simp
  simp only [this]
  simp only [hP0, List.getElem_append_right (Nat.le_refl _), Nat.sub_self, List.getElem_cons_zero]
 have hat : ∀ i (hi : i < P.length), uf a P[i] = (i : Int) := fun i hi => by rw [uf_pos (hPR _ (List.getElem_mem hi)).1]; exact ha1 i hi
 have hatr : uf a root = ((P.length - 1 : Nat) : Int) := by
  have := hat (P.length - 1) (by omega)
  rwa [hlastP] at this
 have hS : Sta (Rg g root) (uf a) root (Ed g root) (Dom g root) := by
  refine ⟨fun x y hx hy e => ?_, hrootR, fun x hx => (hrng x hx).1, fun x hx => ?_, fun p q h => h.1, fun x hx hne => ?_, fun x p q hd hne he => ⟨he.1, fun hc => hd.2 (Rch.step hc he.2 (by simpa using (Ne.symm hne)))⟩, fun x hd => ?_⟩
  ·obtain ⟨i, hi, rfl⟩ := List.mem_iff_getElem.1 ((hPo.mem x).2 hx); obtain ⟨j, hj, rfl⟩ := List.mem_iff_getElem.1 ((hPo.mem y).2 hy); rw [hat i hi, hat j hj] at e; have : i = j := by omega
   subst this; rfl
  ·obtain ⟨i, hi, rfl⟩ := List.mem_iff_getElem.1 ((hPo.mem x).2 hx); rw [hat i hi, hatr]; omega
  ·obtain ⟨i, hi, rfl⟩ := List.mem_iff_getElem.1 ((hPo.mem x).2 hx); obtain ⟨j, hj, h2, h3⟩ := hPo.fwd i hi hne; exact ⟨P[j], ⟨(hPo.mem _).1 (List.getElem_mem hj), h3⟩, by rw [hat i hi, hat j hj]; omega⟩
  ·by_cases e : x = root
   ·exact e
   ·exact absurd (Rch.base (by simp) (by simpa using Ne.symm e)) hd.2
 have hW : Swp (Rg g root) root (Ed g root) (Dom g root) a P T g.length := by
  refine ⟨hS, ha1, hPo.mem, hPo.last, hPl, hn, hT.len, fun q hq => ⟨fun p hp => ?_, by have := hT.rows q; omega, fun p => ?_⟩⟩
  ·have := (hT.mem q (hrng q hq).1 (hrng q hq).2 p).1 hp
   exact ⟨this.1, this.2.1⟩
  ·rw [hT.mem q (hrng q hq).1 (hrng q hq).2 p]; exact ⟨fun h => ⟨h.1, (hrng p h.1).1, (hrng p h.1).2, h.2⟩, fun h => ⟨h.1, h.2.2.2⟩⟩
 have hlr : (List.replicate g.length (-1 : Int)).length = g.length := by simp
 have hu0 : uf ((List.replicate g.length (-1)).set root.toNat root) = put (uf (List.replicate g.length (-1))) root root := uf_set _ root root h0 (by rw [hlr]; exact h1)
 have hup : ∀ x, x ≠ root → uf ((List.replicate g.length (-1)).set root.toNat root) x < 0 ∨ ¬ Rg g root x := fun x hx => by
  rw [hu0, put_other hx]; by_cases hR : Rg g root x
  ·left
   rw [uf_pos (hrng x hR).1, rd_replicate _ _ x (hrng x hR).1 (hrng x hR).2]; omega
  ·exact .inr hR
 have hDf : ∀ x, Df (Rg g root) (uf ((List.replicate g.length (-1)).set root.toNat root)) x → x = root := fun x hx => by
  by_cases e : x = root
  ·exact e
  ·rcases hup x e with h | h
   ·have := hx.2; omega
   ·exact absurd hx.1 h
 have hrr : uf ((List.replicate g.length (-1)).set root.toNat root) root = root := by rw [hu0, put_same]
 have hL : Lst (Rg g root) a ((List.replicate g.length (-1)).set root.toNat root) g.length := by
  refine ⟨ha, by simp, hrng, fun x hx0 hx1 hx => ?_, fun x hx => ?_⟩
  ·rw [ha2 x hx0 hx1 (fun h => hx ((hPo.mem x).1 h))]; omega
  ·obtain ⟨i, hi, rfl⟩ := List.mem_iff_getElem.1 ((hPo.mem x).2 hx); rw [ha1 i hi]; omega
 have hI : Inv (Rg g root) (uf a) root (Ed g root) (Dom g root) ((P.length - 1 : Nat) : Int) (uf ((List.replicate g.length (-1)).set root.toNat root)) := by
  refine ⟨⟨hrr, fun x hx hne => absurd (hDf x hx) hne⟩, fun x hx hne => absurd (hDf x hx) hne, fun x hx hne => absurd (hDf x hx) hne, fun x _ hx hne => absurd (hDf x hx) hne, fun x _ hx hne => absurd (hDf x hx) hne, fun x hx hle => ?_, .inr fun x hx => ?_⟩
  ·have hm := hS.max x hx; have e : x = root := hS.inj x root hx hrootR (by omega)
   subst e; exact ⟨hrootR, by rw [hrr]; exact h0⟩
  ·rw [hDf x hx, hatr]; exact Int.le_refl _
 obtain ⟨up, b1, b2, b3, b4⟩ := l2_run hW _ _ (Nat.le_refl _) hL hI (fun x hx0 hx1 hx => by
  rw [rd_set _ root root x h0 (by rw [hlr]; exact h1) hx0, if_neg (fun e : x = root => hx (e ▸ hrootR)), rd_replicate _ _ x hx0 hx1])
 refine ⟨up, ?_, b1.lu, fun m x hm => ⟨fun hc => ⟨hm, fun hav => ?_⟩, fun hd => b2.inv.dom_ch hS _ m x (Nat.le_refl _) (b2.all m hm) hd⟩, fun m hm => ?_, fun m hm hne => ?_, b3, fun x => (uf a root - uf a x).toNat, fun m hm hne => ?_⟩
 ·unfold Go.Proofs.Ytjjedbcgkljdeaa.B.graph_tree.f
  refine Evt.bind hPe (Evt.pos (by omega) (Evt.pos (by omega) ?_))
  simp only [Option.bind_some, Int.toNat_natCast, List.length_replicate]
  refine l0_run g root P g.length hn _ ?_ g.length 0 _ _ (by omega) (by simp) (by simp) (fun x hx0 hx1 => absurd hx1 (by omega))
  refine ha3 _ ?_
  rw [hlr]; exact Evt.pos h0 (Evt.pos h1 (Evt.bind hTe b4))
 ·-- the way up avoids what a path avoids
  have key : ∀ y, Rch g (fun n => n == x) [root] y → Rg g root y ∧ ¬ Ch (uf up) root y x := by
   intro y hy
   induction hy with
   | base h h2 =>
    obtain rfl := List.mem_singleton.1 h; refine ⟨hrootR, fun hc => ?_⟩
    have := hc.root_eq
    simp [this] at h2
   | @step p y _ hpy h2 ih =>
    have hyR : Rg g root y := Rch.step ih.1 hpy rfl
    refine ⟨hyR, fun hc => ?_⟩
    cases hc with
    | refl => simp at h2
    | up hne hc2 =>
     have hnc := b2.nca y hyR hne; exact ih.2 ((hnc.above p ⟨ih.1, hpy⟩ (b2.all p ih.1)).trans hc2)
  exact (key m hav).2 hc
 ·have := (b2.all m hm).2
  rwa [uf_pos (hrng m hm).1] at this
 ·obtain ⟨c1, c2⟩ := b2.inv.tre.inc m (b2.all m hm) hne; rw [uf_pos (l := up) (hrng m hm).1] at c1 c2
  exact ⟨c2.1, fun e => by rw [e] at c1; omega⟩
 ·obtain ⟨c1, c2⟩ := b2.inv.tre.inc m (b2.all m hm) hne; have h3 := hS.max _ c2.1; rw [uf_pos (l := up) (hrng m hm).1] at c1 h3
  show (uf a root - uf a (rd up m)).toNat < (uf a root - uf a m).toNat
  omega
end Go.Proofs.Ytjjedbcgkljdeaa.M
end
section
namespace Go.Proofs.Ytjjedbcgkljdeaa.M
open Go.RowKit Go.Proofs.YtjjedbcgkljdeaaW.PrintWords Go.Proofs.YtjjedbcgkljdeaaW.PrintLast Go.Proofs.YtjjedbcgkljdeaaW.PrintMore Go.Proofs.Ytjjedbcgkljdeaa.A
theorem validB_true {g : List (List Int)} (h : validB g = true) : 1 ≤ g.length ∧ Gr g ∧ ∀ r ∈ g, r.length ≤ 2 := by
 unfold validB rowB inB at h
 simp only [Bool.and_eq_true, decide_eq_true_eq, List.all_eq_true] at h
 exact ⟨h.1, fun r hr x hx => (h.2.2 r hr).2 x hx, fun r hr => (h.2.2 r hr).1⟩
theorem reached_ev (g : List (List Int)) (h1 : 1 ≤ g.length) (hg : Gr g) (hn : g.length ≤ 40) (hr : ∀ r ∈ g, r.length ≤ 4) :
  ∃ r, Evt (fun k => graph_fromOpen.f k g [0]) r ∧ Evt (fun k => r7_Reached.f k g) r ∧ r.length = g.length ∧ ∀ x : Int, 0 ≤ x → (rdOf false r x = true ↔ Rch g (fun _ => false) [0] x) := by
 have hl : InR g.length [0] := fun x hx => by obtain rfl := List.mem_singleton.1 hx; omega
 obtain ⟨a, ha, ha1, ha2⟩ := fromF_ev (fun _ => false) g [0] hg hl (by omega)
 obtain ⟨b, hb, hb1, hb2⟩ := refFrom_ev g [0] (-1) hg hl (by omega) (fun x => by have := rd_L1_len hr x; omega) (by simp)
 have e : a = b := by
  refine ext_bool (by omega) fun x hx hxl => ?_
  rw [ha2 x hx, hb2 x hx]; have hne : ∀ y : Int, Rch g (fun _ => false) [0] y → Rch g (fun n => n == -1) [0] y := fun y h => by
   induction h with
   | base h _ => exact Rch.base h (by have := (hl _ h).1; simp; omega)
   | step _ h _ ih => exact Rch.step ih h (by have := (hg.row _ _ h).1; simp; omega)
  have hne2 : ∀ y : Int, Rch g (fun n => n == -1) [0] y → Rch g (fun _ => false) [0] y := fun y h => by
   induction h with
   | base h _ => exact Rch.base h rfl
   | step _ h _ ih => exact Rch.step ih h rfl
  exact ⟨hne x, hne2 x⟩
 refine ⟨a, ha, ?_, ha1, ha2⟩
 unfold r7_Reached.f
 rw [e]; exact Evt.bind hb (Evt.const b)
theorem Rch.congr {g g' : List (List Int)} {P P' : Int → Bool} {l : List Int} (hg : ∀ a x, 0 ≤ a → a < (g.length : Int) → x ∈ rd_L1 g a → x ∈ rd_L1 g' a) (hr : ∀ x, Rch g P l x → 0 ≤ x ∧ x < (g.length : Int)) (hP : ∀ x : Int, 0 ≤ x → P x = false → P' x = false) {x : Int} (h : Rch g P l x) : Rch g' P' l x := by
 induction h with
 | base h1 h2 => exact Rch.base h1 (hP _ (hr _ (Rch.base h1 h2)).1 h2)
 | step h1 h2 h3 ih => exact Rch.step ih (hg _ _ (hr _ h1).1 (hr _ h1).2 h2) (hP _ (hr _ (Rch.step h1 h2 h3)).1 h3)
theorem exits_inR (g : List (List Int)) : InR g.length (exitsL g 0) := by
 intro x hx
 unfold exitsL at hx
 rw [List.drop_zero, List.mem_filterMap] at hx; obtain ⟨a, ha, h2⟩ := hx; have := List.mem_range.1 ha
 split at h2
 ·obtain rfl := Option.some.inj h2; omega
 ·cases h2
theorem exits_len (g : List (List Int)) : (exitsL g 0).length ≤ g.length := by
 unfold exitsL
 refine Nat.le_trans (List.length_filterMap_le _ _) ?_
 simp
theorem ending_ev (g : List (List Int)) (hg : Gr g) (hn : g.length ≤ 40) (hr : ∀ r ∈ g, r.length ≤ 4) :
  ∃ t r, Evt (fun k => graph_turned.f k g) t ∧ Evt (fun k => graph_fromOpen.f k t (exitsL g 0)) r ∧ Evt (fun k => r7_Ending.f k g) r ∧ r.length = g.length ∧ TurnedOf 4 g t ∧ ∀ x : Int, 0 ≤ x → (rdOf false r x = true ↔ Rch t (fun _ => false) (exitsL g 0) x) := by
 obtain ⟨t, ht, ht1⟩ := turned_ev 4 (by omega) g hg (by omega) (by omega) hr
 obtain ⟨u, hu, hu1⟩ := rturned_ev 4 (by omega) g hg (by omega) (by omega) hr
 have hlt := ht1.len; have hlu := hu1.len; have hie := exits_inR g; obtain ⟨a, ha, ha1, ha2⟩ := fromF_ev (fun _ => false) t (exitsL g 0) ht1.gr (by rw [hlt]; exact hie) (by omega)
 obtain ⟨b, hb, hb1, hb2⟩ := refFrom_ev u (exitsL g 0) (-1) hu1.gr (by rw [hlu]; exact hie) (by omega) (fun x => by have := hu1.rows x; omega) (by have := exits_len g; omega)
 have e : a = b := by
  refine ext_bool (by omega) fun x hx hxl => ?_
  rw [ha2 x hx, hb2 x hx]; constructor
  ·refine Rch.congr (fun c y hc0 hc1 hy => ?_) (fun y hy => hy.range ht1.gr (by rw [hlt]; exact hie)) (fun y hy _ => by simp; omega)
   rw [hlt] at hc1; exact (hu1.mem c hc0 hc1 y).2 ((ht1.mem c hc0 hc1 y).1 hy)
  ·refine Rch.congr (fun c y hc0 hc1 hy => ?_) (fun y hy => hy.range hu1.gr (by rw [hlu]; exact hie)) (fun y hy _ => rfl)
   rw [hlu] at hc1; exact (ht1.mem c hc0 hc1 y).2 ((hu1.mem c hc0 hc1 y).1 hy)
 refine ⟨t, a, ht, ha, ?_, by omega, ht1, ha2⟩
 unfold r7_Ending.f
 rw [e]; exact Evt.bind hu (Evt.bind (rexits_ev g (by omega)) (Evt.bind hb (Evt.const b)))
end Go.Proofs.Ytjjedbcgkljdeaa.M
end
section
namespace Go.Proofs.Ytjjedbcgkljdeaa.M
open Go.RowKit Go.Proofs.YtjjedbcgkljdeaaW.PrintWords Go.Proofs.YtjjedbcgkljdeaaW.PrintLast Go.Proofs.YtjjedbcgkljdeaaW.PrintMore Go.Proofs.Ytjjedbcgkljdeaa.A
def Db (t : List (List Bool)) (a b : Int) : Bool := rdOf false (rd_L3 t a) b
structure TabOf (t : List (List Bool)) (n : Nat) (D : Int → Int → Prop) : Prop where
 len : t.length = n
 row : ∀ a : Int, 0 ≤ a → a < (n : Int) → (rd_L3 t a).length = n
 iff : ∀ a b : Int, 0 ≤ a → a < (n : Int) → 0 ≤ b → b < (n : Int) → (Db t a b = true ↔ D a b)
theorem rd_L3_append (t : List (List Bool)) (r : List Bool) (a : Int) (h0 : 0 ≤ a) : rd_L3 (t ++ [r]) a = if a < (t.length : Int) then rd_L3 t a else if a = (t.length : Int) then r else [] := by
 unfold rd_L3
 simp only [List.getD_eq_getElem?_getD]
 by_cases h : a < (t.length : Int)
 ·rw [if_pos h, List.getElem?_append_left (by omega)]
 ·rw [if_neg h, List.getElem?_append_right (by omega)]
  by_cases e : a = (t.length : Int)
  ·rw [if_pos e, show a.toNat - t.length = 0 by omega]; rfl
  ·rw [if_neg e, List.getElem?_eq_none (by simp; omega)]; rfl
structure TabTo (t : List (List Bool)) (n a : Nat) (D : Int → Int → Prop) : Prop where
 len : t.length = a
 row : ∀ x : Int, 0 ≤ x → x < (a : Int) → (rd_L3 t x).length = n
 iff : ∀ x b : Int, 0 ≤ x → x < (a : Int) → 0 ≤ b → b < (n : Int) → (Db t x b = true ↔ D x b)
theorem TabTo.nil (n : Nat) (D : Int → Int → Prop) : TabTo [] n 0 D := ⟨rfl, fun _ _ _ => by omega, fun _ _ _ _ => by omega⟩
theorem TabTo.push {t : List (List Bool)} {n a : Nat} {D : Int → Int → Prop} (h : TabTo t n a D) {r : List Bool} (hr : r.length = n) (hD : ∀ b : Int, 0 ≤ b → b < (n : Int) → (rdOf false r b = true ↔ D (a : Int) b)) : TabTo (t ++ [r]) n (a + 1) D := by
 have hl := h.len; refine ⟨by simp [hl], fun x h0 h1 => ?_, fun x b h0 h1 hb0 hb1 => ?_⟩
 ·rw [rd_L3_append _ _ _ h0]; by_cases e : x < (t.length : Int)
  ·rw [if_pos e]; exact h.row x h0 (by omega)
  ·rw [if_neg e, if_pos (by omega)]; exact hr
 ·unfold Db
  rw [rd_L3_append _ _ _ h0]; by_cases e : x < (t.length : Int)
  ·rw [if_pos e]; exact h.iff x b h0 (by omega) hb0 hb1
  ·have e2 : x = (a : Int) := by omega
   rw [if_neg e, if_pos (by omega), e2]
   exact hD b hb0 hb1
theorem TabTo.done {t : List (List Bool)} {n : Nat} {D : Int → Int → Prop} (h : TabTo t n n D) : TabOf t n D := ⟨h.len, h.row, h.iff⟩
theorem table_l1 (g : List (List Int)) (there can : List Bool) (acc : List (List Bool)) (a : Int) (hn : g.length ≤ 100000) (h1 : there.length = g.length) (h2 : can.length = g.length) (hacc : acc.length < 100001) :
  ∀ (d i : Nat) (row : List Bool), i + d = g.length → row.length = g.length → (∀ b : Int, 0 ≤ b → b < (i : Int) → rdOf false row b = (rdOf false there b && !rdOf false can b)) →
   ∃ r, r.length = g.length ∧ (∀ b : Int, 0 ≤ b → b < (g.length : Int) → rdOf false r b = (rdOf false there b && !rdOf false can b)) ∧ ∀ res, Evt (fun k => r7_Table.l0 k g there (acc ++ [r]) (wrap64 (a + 1))) res → Evt (fun k => r7_Table.l1 k g there acc a row can (i : Int)) res
 | 0, i, row, hd, hl, h => by
  refine ⟨row, hl, fun b h0 hb => h b h0 (by omega), fun res hr => Evt.succ ?_⟩
  simp only [r7_Table.l1]
  exact Evt.neg (by omega) (Evt.pos (by omega) hr)
 | d + 1, i, row, hd, hl, h => by
  have step : ∀ v : Bool, v = (rdOf false there (i : Int) && !rdOf false can (i : Int)) → ∀ b : Int, 0 ≤ b → b < ((i + 1 : Nat) : Int) → rdOf false (row.set (i : Int).toNat v) b = (rdOf false there b && !rdOf false can b) := by
   intro v hv b h0 hb
   rw [rdOf_set row (i : Int) b v (by omega) (by omega) h0]
   by_cases e : b = (i : Int)
   ·rw [if_pos e, hv, e]
   ·rw [if_neg e]; exact h b h0 (by omega)
  by_cases ht : rdOf false there (i : Int) = true
  ·obtain ⟨r, a1, a2, a3⟩ := table_l1 g there can acc a hn h1 h2 hacc d (i + 1) (row.set (i : Int).toNat (!rdOf false can (i : Int))) (by omega) (by simp [hl]) (step _ (by rw [ht, Bool.true_and]))
   refine ⟨r, a1, a2, fun res hr => Evt.succ ?_⟩
   simp only [r7_Table.l1, wrap_succ i (by omega)]
   exact Evt.pos (by omega) (Evt.pos (by omega) (Evt.pos (by omega) (Evt.pos ht (Evt.pos (by omega) (Evt.pos (by omega) (a3 res hr))))))
  ·obtain ⟨r, a1, a2, a3⟩ := table_l1 g there can acc a hn h1 h2 hacc d (i + 1) (row.set (i : Int).toNat false) (by omega) (by simp [hl]) (step _ (by rw [Bool.eq_false_iff.2 ht, Bool.false_and]))
   refine ⟨r, a1, a2, fun res hr => Evt.succ ?_⟩
   simp only [r7_Table.l1, wrap_succ i (by omega)]
   exact Evt.pos (by omega) (Evt.pos (by omega) (Evt.pos (by omega) (Evt.neg ht (Evt.pos (by omega) (a3 res hr)))))
theorem rdOf_replicate (n : Nat) (x : Int) : rdOf false (List.replicate n false) x = false := by
 unfold rdOf
 rw [List.getD_eq_getElem?_getD, List.getElem?_replicate]; split <;> rfl
def TD (g : List (List Int)) (a b : Int) : Prop := Rch g (fun _ => false) [0] a ∧ Rch g (fun _ => false) [0] b ∧ ¬ Rch g (fun n => n == a) [0] b
theorem table_l0 (g : List (List Int)) (there : List Bool) (hg : Gr g) (h1 : 1 ≤ g.length) (hn : g.length ≤ 40) (hr : ∀ r ∈ g, r.length ≤ 4) (ht : there.length = g.length) (hth : ∀ x : Int, 0 ≤ x → (rdOf false there x = true ↔ Rch g (fun _ => false) [0] x)) :
  ∀ (d a : Nat) (acc : List (List Bool)), a + d = g.length → TabTo acc g.length a (TD g) → ∃ t, TabOf t g.length (TD g) ∧ Evt (fun k => r7_Table.l0 k g there acc (a : Int)) t
 | 0, a, acc, hd, h => by
  obtain rfl : a = g.length := by omega
  refine ⟨acc, h.done, Evt.succ ?_⟩
  simp only [r7_Table.l0]
  exact Evt.neg (by omega) (Evt.const acc)
 | d + 1, a, acc, hd, h => by
  have hl : InR g.length [0] := fun x hx => by obtain rfl := List.mem_singleton.1 hx; omega
  have hal := h.len; by_cases hta : rdOf false there (a : Int) = true
  ·obtain ⟨can, hc, hc1, hc2⟩ := refFrom_ev g [0] (a : Int) hg hl (by omega) (fun x => by have := rd_L1_len hr x; omega) (by simp)
   obtain ⟨r, r1, r2, r3⟩ := table_l1 g there can acc (a : Int) (by omega) ht hc1 (by omega) g.length 0 (List.replicate g.length false) (by omega) (by simp) (fun b h0 hb => absurd hb (by omega))
   obtain ⟨t, t1, t2⟩ := table_l0 g there hg h1 hn hr ht hth d (a + 1) (acc ++ [r]) (by omega) (h.push r1 fun b hb0 hb1 => by
    rw [r2 b hb0 hb1, Bool.and_eq_true, hth b hb0, Bool.not_eq_true', Bool.eq_false_iff, Ne, hc2 b hb0]; exact ⟨fun h => ⟨(hth _ (by omega)).1 hta, h.1, h.2⟩, fun h => ⟨h.2.1, h.2.2⟩⟩)
   refine ⟨t, t1, Evt.succ ?_⟩
   simp only [r7_Table.l0, Option.bind_some]
   refine Evt.pos (by omega) (Evt.pos (by omega) (Evt.pos (by omega) (Evt.pos (by omega) (Evt.pos (by omega) (Evt.pos hta (Evt.bind hc ?_))))))
   simp only [Int.toNat_natCast]
   exact r3 t (by rw [wrap_succ a (by omega)]; exact t2)
  ·obtain ⟨t, t1, t2⟩ := table_l0 g there hg h1 hn hr ht hth d (a + 1) (acc ++ [List.replicate g.length false]) (by omega) (h.push (by simp) fun b hb0 hb1 => by
    rw [rdOf_replicate]; exact ⟨fun h => (by cases h), fun h => absurd ((hth _ (by omega)).2 h.1) hta⟩)
   refine ⟨t, t1, Evt.succ ?_⟩
   simp only [r7_Table.l0, Option.bind_some, wrap_succ a (by omega), Int.toNat_natCast]
   exact Evt.pos (by omega) (Evt.pos (by omega) (Evt.pos (by omega) (Evt.pos (by omega) (Evt.pos (by omega) (Evt.neg hta (Evt.pos (by omega) t2))))))
theorem table_ev (g : List (List Int)) (hg : Gr g) (h1 : 1 ≤ g.length) (hn : g.length ≤ 40) (hr : ∀ r ∈ g, r.length ≤ 4) : ∃ t, Evt (fun k => r7_Table.f k g) t ∧ TabOf t g.length (TD g) := by
 obtain ⟨there, _, ht, ht1, ht2⟩ := reached_ev g h1 hg hn hr; obtain ⟨t, t1, t2⟩ := table_l0 g there hg h1 hn hr ht1 ht2 g.length 0 [] (by omega) (TabTo.nil _ _)
 exact ⟨t, Evt.bind ht t2, t1⟩
theorem ptable_l1 (g x4 : List (List Int)) (there can : List Bool) (acc : List (List Bool)) (a : Int) (hn : g.length ≤ 100000) (h1 : there.length = g.length) (h2 : can.length = g.length) (hacc : acc.length < 100001) :
  ∀ (d i : Nat) (row : List Bool), i + d = g.length → row.length = g.length → (∀ b : Int, 0 ≤ b → b < (i : Int) → rdOf false row b = (rdOf false there b && !rdOf false can b)) →
   ∃ r, r.length = g.length ∧ (∀ b : Int, 0 ≤ b → b < (g.length : Int) → rdOf false r b = (rdOf false there b && !rdOf false can b)) ∧ ∀ res, Evt (fun k => r7_PostTable.l0 k g there x4 (acc ++ [r]) (wrap64 (a + 1))) res → Evt (fun k => r7_PostTable.l1 k g there x4 acc a row can (i : Int)) res
 | 0, i, row, hd, hl, h => by
  refine ⟨row, hl, fun b h0 hb => h b h0 (by omega), fun res hr => Evt.succ ?_⟩
  simp only [r7_PostTable.l1]
  exact Evt.neg (by omega) (Evt.pos (by omega) hr)
 | d + 1, i, row, hd, hl, h => by
  have step : ∀ v : Bool, v = (rdOf false there (i : Int) && !rdOf false can (i : Int)) → ∀ b : Int, 0 ≤ b → b < ((i + 1 : Nat) : Int) → rdOf false (row.set (i : Int).toNat v) b = (rdOf false there b && !rdOf false can b) := by
   intro v hv b h0 hb
   rw [rdOf_set row (i : Int) b v (by omega) (by omega) h0]
   by_cases e : b = (i : Int)
   ·rw [if_pos e, hv, e]
   ·rw [if_neg e]; exact h b h0 (by omega)
  by_cases ht : rdOf false there (i : Int) = true
  ·obtain ⟨r, a1, a2, a3⟩ := ptable_l1 g x4 there can acc a hn h1 h2 hacc d (i + 1) (row.set (i : Int).toNat (!rdOf false can (i : Int))) (by omega) (by simp [hl]) (step _ (by rw [ht, Bool.true_and]))
   refine ⟨r, a1, a2, fun res hr => Evt.succ ?_⟩
   simp only [r7_PostTable.l1, wrap_succ i (by omega)]
   exact Evt.pos (by omega) (Evt.pos (by omega) (Evt.pos (by omega) (Evt.pos ht (Evt.pos (by omega) (Evt.pos (by omega) (a3 res hr))))))
  ·obtain ⟨r, a1, a2, a3⟩ := ptable_l1 g x4 there can acc a hn h1 h2 hacc d (i + 1) (row.set (i : Int).toNat false) (by omega) (by simp [hl]) (step _ (by rw [Bool.eq_false_iff.2 ht, Bool.false_and]))
   refine ⟨r, a1, a2, fun res hr => Evt.succ ?_⟩
   simp only [r7_PostTable.l1, wrap_succ i (by omega)]
   exact Evt.pos (by omega) (Evt.pos (by omega) (Evt.pos (by omega) (Evt.neg ht (Evt.pos (by omega) (a3 res hr)))))
def PD (g t : List (List Int)) (a b : Int) : Prop := Rch t (fun _ => false) (exitsL g 0) b ∧ ¬ Rch t (fun n => n == a) (exitsL g 0) b
theorem ptable_l0 (g u : List (List Int)) (ends : List Bool) (hn : g.length ≤ 40) (hu : TurnedOf 4 g u) (he : ends.length = g.length) (hen : ∀ x : Int, 0 ≤ x → (rdOf false ends x = true ↔ Rch u (fun _ => false) (exitsL g 0) x)) :
  ∀ (d a : Nat) (acc : List (List Bool)), a + d = g.length → TabTo acc g.length a (PD g u) → ∃ t, TabOf t g.length (PD g u) ∧ Evt (fun k => r7_PostTable.l0 k g ends u acc (a : Int)) t
 | 0, a, acc, hd, h => by
  obtain rfl : a = g.length := by omega
  refine ⟨acc, h.done, Evt.succ ?_⟩
  simp only [r7_PostTable.l0]
  exact Evt.neg (by omega) (Evt.const acc)
 | d + 1, a, acc, hd, h => by
  have hlu := hu.len; have hal := h.len; obtain ⟨can, hc, hc1, hc2⟩ := refFrom_ev u (exitsL g 0) (a : Int) hu.gr (by rw [hlu]; exact exits_inR g) (by omega) (fun x => by have := hu.rows x; omega) (by have := exits_len g; omega)
  obtain ⟨r, r1, r2, r3⟩ := ptable_l1 g u ends can acc (a : Int) (by omega) he (by omega) (by omega) g.length 0 (List.replicate g.length false) (by omega) (by simp) (fun b h0 hb => absurd hb (by omega))
  obtain ⟨t, t1, t2⟩ := ptable_l0 g u ends hn hu he hen d (a + 1) (acc ++ [r]) (by omega) (h.push r1 fun b hb0 hb1 => by
   rw [r2 b hb0 hb1, Bool.and_eq_true, hen b hb0, Bool.not_eq_true', Bool.eq_false_iff, Ne, hc2 b hb0]; exact Iff.rfl)
  refine ⟨t, t1, Evt.succ ?_⟩
  simp only [r7_PostTable.l0]
  refine Evt.pos (by omega) (Evt.pos (by omega) (Evt.pos (by omega) (Evt.bind (rexits_ev g (by omega)) (Evt.bind hc ?_))))
  simp only [Int.toNat_natCast]
  exact r3 t (by rw [wrap_succ a (by omega)]; exact t2)
theorem PD.turned {B B' : Nat} {g t u : List (List Int)} (ht : TurnedOf B g t) (hu : TurnedOf B' g u) {P : Int → Bool} {x : Int} (h : Rch t P (exitsL g 0) x) : Rch u P (exitsL g 0) x := by
 have hlt := ht.len; refine Rch.congr (fun c y hc0 hc1 hy => ?_) (fun y hy => hy.range ht.gr (by rw [hlt]; exact exits_inR g)) (fun _ _ h => h) h
 rw [hlt] at hc1; exact (hu.mem c hc0 hc1 y).2 ((ht.mem c hc0 hc1 y).1 hy)
theorem ptable_ev (g : List (List Int)) (hg : Gr g) (hn : g.length ≤ 40) (hr : ∀ r ∈ g, r.length ≤ 4) : ∃ t u, TurnedOf 4 g u ∧ Evt (fun k => r7_PostTable.f k g) t ∧ TabOf t g.length (PD g u) := by
 obtain ⟨t0, ends, _, _, he, he1, ht0, he2⟩ := ending_ev g hg hn hr; obtain ⟨u, hu, hu1⟩ := rturned_ev 4 (by omega) g hg (by omega) (by omega) hr
 obtain ⟨t, t1, t2⟩ := ptable_l0 g u ends hn hu1 he1 (fun x hx => by rw [he2 x hx]; exact ⟨PD.turned ht0 hu1, PD.turned hu1 ht0⟩) g.length 0 [] (by omega) (TabTo.nil _ _)
 exact ⟨t, u, hu1, Evt.bind he (Evt.bind hu t2), t1⟩
def Near (t : List (List Bool)) (_n : Nat) (a b : Int) (c : Int) : Bool := decide (c = b) || !Db t c b || Db t c a
def Imm (t : List (List Bool)) (n : Nat) (a b : Int) : Prop := a ≠ b ∧ Db t a b = true ∧ ∀ c : Int, 0 ≤ c → c < (n : Int) → Near t n a b c = true
theorem imm_l2 (t : List (List Bool)) (n : Nat) (hn : n ≤ 100000) (ht : t.length = n) (hrow : ∀ a : Int, 0 ≤ a → a < (n : Int) → (rd_L3 t a).length = n) (acc : List Int) (a b best : Int) (ha0 : 0 ≤ a) (ha1 : a < (n : Int)) (hb0 : 0 ≤ b) (hb1 : b < (n : Int)) (r : List Int) (v : Bool)
  (hv : v = true ↔ ∀ c : Int, 0 ≤ c → c < (n : Int) → Near t n a b c = true) (hr : Evt (fun k => r7_Immediate.l1 k t acc b (if v = true then a else best) (wrap64 (a + 1))) r) :
  ∀ (d i : Nat) (f : Bool), i + d = n → (f = true ↔ ∀ c : Int, 0 ≤ c → c < (i : Int) → Near t n a b c = true) → Evt (fun k => r7_Immediate.l2 k t acc b best a f (i : Int)) r
 | 0, i, f, hd, hf => by
  obtain rfl : i = n := by omega
  have e : f = v := by rw [Bool.eq_iff_iff, hf, hv]
  subst e; refine Evt.succ ?_
  simp only [r7_Immediate.l2]
  refine Evt.neg (by omega) ?_
  by_cases h : f = true
  ·exact Evt.pos h (by simpa only [if_pos h] using hr)
  ·exact Evt.neg h (by simpa only [if_neg h] using hr)
 | d + 1, i, f, hd, hf => by
  have next : ∀ f' : Bool, (f' = true ↔ f = true ∧ Near t n a b (i : Int) = true) → Evt (fun k => r7_Immediate.l2 k t acc b best a f' ((i + 1 : Nat) : Int)) r := by
   intro f' hf'
   refine imm_l2 t n hn ht hrow acc a b best ha0 ha1 hb0 hb1 r v hv hr d (i + 1) f' (by omega) ?_
   rw [hf', hf]; constructor
   ·intro h c hc0 hc1
    by_cases e : c = (i : Int)
    ·rw [e]; exact h.2
    ·exact h.1 c hc0 (by omega)
   ·exact fun h => ⟨fun c hc0 hc1 => h c hc0 (by omega), h _ (by omega) (by omega)⟩
  have hri := hrow (i : Int) (by omega) (by omega)
  refine Evt.succ ?_
  simp only [r7_Immediate.l2, wrap_succ i (by omega)]
  refine Evt.pos (by omega) ?_
  by_cases h : f = true
  ·refine Evt.pos h ?_
   by_cases e : (i : Int) = b
   ·exact Evt.pos e (next true ⟨fun _ => ⟨h, by unfold Near; rw [decide_eq_true e]; rfl⟩, fun _ => rfl⟩)
   ·refine Evt.neg e (Evt.pos (by omega) (Evt.pos hb0 (Evt.pos (by omega) ?_)))
    by_cases e2 : rdOf false (rd_L3 t (i : Int)) b = true
    ·refine Evt.pos e2 (Evt.pos ha0 (Evt.pos (by omega) (next _ ?_)))
     have : Near t n a b (i : Int) = rdOf false (rd_L3 t (i : Int)) a := by unfold Near Db; rw [decide_eq_false e, e2]; rfl
     rw [this]; exact ⟨fun h2 => ⟨h, h2⟩, fun h2 => h2.2⟩
    ·refine Evt.neg e2 (next true ⟨fun _ => ⟨h, ?_⟩, fun _ => rfl⟩)
     unfold Near Db
     rw [Bool.eq_false_iff.2 e2]; simp
  ·exact Evt.neg h (next false ⟨fun h2 => (by cases h2), fun h2 => absurd h2.1 h⟩)
theorem imm_l1 (t : List (List Bool)) (n : Nat) (hn : n ≤ 100000) (ht : t.length = n) (hrow : ∀ a : Int, 0 ≤ a → a < (n : Int) → (rd_L3 t a).length = n) (acc : List Int) (hacc : acc.length ≤ 100000) (b : Int) (hb0 : 0 ≤ b) (hb1 : b < (n : Int)) (u : Int) (hu : u = -1 ∨ 0 ≤ u ∧ u < (n : Int)) (hI : ∀ a : Int, 0 ≤ a → a < (n : Int) → (Imm t n a b ↔ u = a)) (r : List Int)
  (hr : Evt (fun k => r7_Immediate.l0 k t (acc ++ [u]) (wrap64 (b + 1))) r) :
  ∀ (d i : Nat), i + d = n → Evt (fun k => r7_Immediate.l1 k t acc b (if u < (i : Int) then u else -1) (i : Int)) r
 | 0, i, hd => by
  obtain rfl : i = n := by omega
  refine Evt.succ ?_
  simp only [r7_Immediate.l1]
  rw [if_pos (by omega)]
  exact Evt.neg (by omega) (Evt.pos (by omega) hr)
 | d + 1, i, hd => by
  have ih := imm_l1 t n hn ht hrow acc hacc b hb0 hb1 u hu hI r hr d (i + 1) (by omega)
  have hri := hrow (i : Int) (by omega) (by omega)
  have hIi := hI (i : Int) (by omega) (by omega)
  have same : ¬ u = (i : Int) → (if u < ((i + 1 : Nat) : Int) then u else -1) = (if u < (i : Int) then u else -1) := by
   intro hne
   by_cases h : u < (i : Int)
   ·rw [if_pos h, if_pos (by omega)]
   ·rw [if_neg h, if_neg (by omega)]
  have skip : ¬ u = (i : Int) → ∀ f : Bool, f = true → Evt (fun k => r7_Immediate.j2 k t acc b (if u < (i : Int) then u else -1) (i : Int) f) r := by
   intro hne f hf
   refine Evt.succ ?_
   simp only [r7_Immediate.j2, wrap_succ i (by omega)]
   refine Evt.pos hf ?_
   rw [same hne] at ih; exact ih
  refine Evt.succ ?_
  simp only [r7_Immediate.l1]
  refine Evt.pos (by omega) ?_
  by_cases e : (i : Int) = b
  ·exact Evt.pos e (skip (fun hc => (hIi.2 hc).1 e) true rfl)
  ·refine Evt.neg e (Evt.pos (by omega) (Evt.pos hb0 (Evt.pos (by omega) ?_)))
   by_cases hD : rdOf false (rd_L3 t (i : Int)) b = true
   ·refine Evt.succ ?_
    simp only [r7_Immediate.j2]
    refine Evt.neg (by rw [hD]; simp) ?_
    have hnear : (∀ c : Int, 0 ≤ c → c < (n : Int) → Near t n (i : Int) b c = true) ↔ u = (i : Int) := by
     rw [← hIi]; exact ⟨fun h => ⟨e, hD, h⟩, fun h => h.2.2⟩
    refine imm_l2 t n hn ht hrow acc (i : Int) b _ (by omega) (by omega) hb0 hb1 r (decide (u = (i : Int))) (by rw [decide_eq_true_eq, hnear]) ?_ n 0 true (by omega) ⟨fun _ c hc0 hc1 => absurd hc1 (by omega), fun _ => rfl⟩
    rw [wrap_succ i (by omega)]
    by_cases hu2 : u = (i : Int)
    ·rw [if_pos (by simpa using hu2)]
     rw [if_pos (by omega), hu2] at ih
     exact ih
    ·rw [if_neg (by simpa using hu2)]
     rw [same hu2] at ih; exact ih
   ·exact skip (fun hc => hD (hIi.2 hc).2.1) _ (by rw [Bool.eq_false_iff.2 hD]; rfl)
theorem imm_l0 (t : List (List Bool)) (n : Nat) (hn : n ≤ 100000) (ht : t.length = n) (hrow : ∀ a : Int, 0 ≤ a → a < (n : Int) → (rd_L3 t a).length = n) (up : List Int) (hup : up.length = n) (hu : ∀ b : Int, 0 ≤ b → b < (n : Int) → rd up b = -1 ∨ 0 ≤ rd up b ∧ rd up b < (n : Int)) (hI : ∀ a b : Int, 0 ≤ a → a < (n : Int) → 0 ≤ b → b < (n : Int) → (Imm t n a b ↔ rd up b = a)) :
  ∀ (d b : Nat), b + d = n → Evt (fun k => r7_Immediate.l0 k t (up.take b) (b : Int)) up
 | 0, b, hd => by
  refine Evt.succ ?_
  simp only [r7_Immediate.l0]
  rw [List.take_of_length_le (by omega)]
  exact Evt.neg (by omega) (Evt.const up)
 | d + 1, b, hd => by
  have ih := imm_l0 t n hn ht hrow up hup hu hI d (b + 1) (by omega)
  have hbl : b < up.length := by omega
  refine Evt.succ ?_
  simp only [r7_Immediate.l0]
  refine Evt.pos (by omega) ?_
  have h := imm_l1 t n hn ht hrow (up.take b) (by rw [List.length_take]; omega) (b : Int) (by omega) (by omega) (rd up (b : Int)) (hu _ (by omega) (by omega)) (fun a h0 h1 => hI a _ h0 h1 (by omega) (by omega)) up
   (by rw [wrap_succ b (by omega), rd_nat up b hbl, ← List.take_succ_eq_append_getElem hbl]; exact ih) n 0 (by omega)
  have hu0 := hu (b : Int) (by omega) (by omega)
  have e : (if rd up (b : Int) < ((0 : Nat) : Int) then rd up (b : Int) else -1) = -1 := by
   by_cases hh : rd up (b : Int) < ((0 : Nat) : Int)
   ·rw [if_pos hh]; omega
   ·rw [if_neg hh]
  rw [e] at h; exact h
theorem imm_ev (t : List (List Bool)) (n : Nat) (hn : n ≤ 100000) (ht : t.length = n) (hrow : ∀ a : Int, 0 ≤ a → a < (n : Int) → (rd_L3 t a).length = n) (up : List Int) (hup : up.length = n) (hu : ∀ b : Int, 0 ≤ b → b < (n : Int) → rd up b = -1 ∨ 0 ≤ rd up b ∧ rd up b < (n : Int)) (hI : ∀ a b : Int, 0 ≤ a → a < (n : Int) → 0 ≤ b → b < (n : Int) → (Imm t n a b ↔ rd up b = a)) : Evt (fun k => r7_Immediate.f k t) up := by
 unfold r7_Immediate.f
 simpa using imm_l0 t n hn ht hrow up hup hu hI n 0 (by omega)
end Go.Proofs.Ytjjedbcgkljdeaa.M
end
section
namespace Go.Proofs.Ytjjedbcgkljdeaa.C
open Go.RowKit Go.Proofs.YtjjedbcgkljdeaaW.PrintWords Go.Proofs.YtjjedbcgkljdeaaW.PrintLast Go.Proofs.YtjjedbcgkljdeaaW.PrintMore Go.Proofs.Ytjjedbcgkljdeaa.A Go.Proofs.Ytjjedbcgkljdeaa.B
set_option linter.unusedVariables false
set_option linter.unusedSimpArgs false
theorem info33 : (Try.prog.info? 33).map (fun i => (i.zero, i.size, i.bytes)) = some (some (.slice none 0 0), 1, 24) := by kernel_rfl
-- the values' own types
end Go.Proofs.Ytjjedbcgkljdeaa.C
end
section
namespace Go.Proofs.Ytjjedbcgkljdeaa.C
open Go.RowKit Go.Proofs.YtjjedbcgkljdeaaW.PrintWords Go.Proofs.YtjjedbcgkljdeaaW.PrintLast Go.Proofs.YtjjedbcgkljdeaaW.PrintMore Go.Proofs.Ytjjedbcgkljdeaa.A Go.Proofs.Ytjjedbcgkljdeaa.B
set_option linter.unusedVariables false
set_option linter.unusedSimpArgs false
def graph_posts.l0 : Nat → List (List Int) → List Int → Int → Int → Option (List Int)
 | 0, _, _, _, _ => none
 | k + 1, x0, x4, x21, x22 => if x22 < x21 then (if 0 ≤ x22 then (if x22 < (x4.length : Int) then (if (rd x4 x22) = (x0.length : Int) then (graph_posts.l0 k x0 (x4.set (x22 : Int).toNat (-1)) x21 (wrap64 (x22 + 1))) else (graph_posts.l0 k x0 x4 x21 (wrap64 (x22 + 1)))) else (none)) else (none)) else (some x4)
def graph_posts.f (k : Nat) (l0 : List (List Int)) : Option (List Int) := (graph_turned.f k l0).bind fun t101 => ((graph_exits.f k l0).bind fun t104 => (if t101.length < 5864062014805 then ((graph_treeCut.f k (t101 ++ [t104]) (l0.length : Int) (l0.length : Int)).bind fun t110 => (graph_posts.l0 k l0 t110 (t110.length : Int) 0)) else (none)))
theorem graph_posts.mono_l : ∀ k, (∀ y0 y1 y2 y3, LeO (graph_posts.l0 k y0 y1 y2 y3) (graph_posts.l0 (k + 1) y0 y1 y2 y3))
 | 0 => fun _ _ _ _ r h => by simp [graph_posts.l0] at h
 | k + 1 => by
  have ih0 := graph_posts.mono_l k
  ·intro y0 y1 y2 y3
   unfold graph_posts.l0
   repeat' first
   | (with_reducible exact ih0 _ _ _ _)
   | (with_reducible exact graph_exits.mono _ _)
   | (with_reducible exact graph_treeCut.mono _ _ _ _)
   | (with_reducible exact graph_turned.mono _ _)
   | (with_reducible exact LeO.refl _)
   | (with_reducible exact LeO.none _)
   | (with_reducible refine LeO.ite ?_ ?_)
   | (with_reducible refine LeO.bind ?_ (fun _ => ?_))
theorem graph_posts.mono : ∀ a0 k, LeO (graph_posts.f k a0) (graph_posts.f (k + 1) a0) := by
 intro a0 k
 have ih0 := graph_posts.mono_l k; unfold graph_posts.f
 repeat' first
   | (with_reducible exact ih0 _ _ _ _)
   | (with_reducible exact graph_exits.mono _ _)
   | (with_reducible exact graph_treeCut.mono _ _ _ _)
   | (with_reducible exact graph_turned.mono _ _)
   | (with_reducible exact LeO.refl _)
   | (with_reducible exact LeO.none _)
   | (with_reducible refine LeO.ite ?_ ?_)
   | (with_reducible refine LeO.bind ?_ (fun _ => ?_))
set_option maxHeartbeats 8000000 in
set_option maxRecDepth 100000 in
theorem graph_posts.calls (k : Nat) (A0 : Option Addr) (c0 : Nat) (l0 : List (List Int)) (r : List Int) (w : World) (hr0 : Kd.C (Kd.slice 3 (Kd.int .i64)) w A0 l0.length l0) (hc0 : l0.length ≤ c0) (h : graph_posts.f k l0 = some r) :
  Calls Try.prog 61 #[.slice A0 l0.length c0] w fun e w' => ∃ v0_ : Value, e = .returned (v0_) ∧ Kd.R (Kd.int .i64) 3 w' w.heap.size (fun _ => True) v0_ r ∧ Below w.heap.size w w' := by
 have HR0 := Aside0.mk hr0; have HC0 := Aside0.mk hc0; clear hr0 hc0; have HB := Aside0.mk (Below.refl w.heap.size w); have H : ((graph_turned.f k l0).bind fun t101 => ((graph_exits.f k l0).bind fun t104 => (if t101.length < 5864062014805 then ((graph_treeCut.f k (t101 ++ [t104]) (l0.length : Int) (l0.length : Int)).bind fun t110 => (graph_posts.l0 k l0 t110 (t110.length : Int) 0)) else (none)))) = some r := h
 clear h; replace H := Option.bind_eq_some_iff.mp H; obtain ⟨t101, A20, H⟩ := H; replace H : ((graph_exits.f k l0).bind fun t104 => (if t101.length < 5864062014805 then ((graph_treeCut.f k (t101 ++ [t104]) (l0.length : Int) (l0.length : Int)).bind fun t110 => (graph_posts.l0 k l0 t110 (t110.length : Int) 0)) else (none))) = some r := H
 have A2 := Aside0.mk A20; clear A20; replace H := Option.bind_eq_some_iff.mp H; obtain ⟨t104, A30, H⟩ := H; replace H : (if t101.length < 5864062014805 then ((graph_treeCut.f k (t101 ++ [t104]) (l0.length : Int) (l0.length : Int)).bind fun t110 => (graph_posts.l0 k l0 t110 (t110.length : Int) 0)) else (none)) = some r := H
 have A3 := Aside0.mk A30; clear A30; by_cases c4 : t101.length < 5864062014805
 ·rw [if_pos c4] at H; have LMc4 := Aside0.mk c4; clear c4; obtain ⟨y107, hy107⟩ : ∃ y_ : List (List Int), y_ = (t101 ++ [t104]) := ⟨_, rfl⟩; replace H : ((graph_treeCut.f k y107 (l0.length : Int) (l0.length : Int)).bind fun t110 => (graph_posts.l0 k l0 t110 (t110.length : Int) 0)) = some r := by first | (with_reducible first | (rw [hy107]; exact H) | exact H) | (have H2_ := (Option.bind_some _ _).symm.trans H; first | with_reducible exact H2_ | (rw [hy107]; exact H2_)) | (rw [hy107]; exact H) | exact H
  have Ny107 := Aside0.mk hy107; clear hy107; replace H := Option.bind_eq_some_iff.mp H; obtain ⟨t110, A50, H⟩ := H; replace H : (graph_posts.l0 k l0 t110 (t110.length : Int) 0) = some r := H; have A5 := Aside0.mk A50; clear A50; have H' := Aside0.mk H
  clear H; go_enter Try.func61, Try.ntmps61
  go_wp2_with (first | ((with_reducible refine gate_callee (f := 51) rfl ?_); refine goesL_ (some 8) rfl rfl Try.func51 (by kernel_rfl) rfl #[.slice A0 l0.length c0] rfl (by (try simp only [List.map_toArray, List.map_cons, List.map_nil]); first | done | rfl | (simp only [List.length_drop, List.length_take]; rfl)) ?_; (with_reducible refine (graph_turned.calls k _ _ l0 t101 _ ?side1 ?side2 A2.out).mono ?_); (case side1 => repeat (first | exact HR0.out | with_reducible first | refine Kd.C_alloc ?_ _ | refine Kd.C_drewN ?_ _ | refine Kd.C_drew ?_)); (case side2 => exact HC0.out); rintro e w6 ⟨v102, rfl, ho0, hb⟩; refine ⟨_, rfl, ?_⟩; have n0_ := Aside0.mk (Kd.S_lower ho0 (below_size (by repeat (first | (with_reducible first | exact HB.out | apply below_alloc | apply pw_below_drewN | apply below_drew1) | exact HB.out)))); have n1_ := Aside0.mk (below_step (by repeat (first | (with_reducible first | exact HB.out | apply below_alloc | apply pw_below_drewN | apply below_drew1) | exact HB.out)) hb); clear HB; have HO103 := n0_; have HB := n1_; clear n0_ n1_; (try clear hb); (try clear hb2); (try clear hk); (try clear hi); (try clear ho0)) | ((with_reducible refine gate_callee (f := 65) rfl ?_); refine goesL_ (some 10) rfl rfl Try.func65 (by kernel_rfl) rfl #[.slice A0 l0.length c0] rfl (by (try simp only [List.map_toArray, List.map_cons, List.map_nil]); first | done | rfl | (simp only [List.length_drop, List.length_take]; rfl)) ?_; (with_reducible refine (graph_exits.calls k _ _ l0 t104 _ ?side1 ?side2 A3.out).mono ?_); (case side1 => repeat (first | exact (Kd.C_below HR0.out HB.out) | with_reducible first | refine Kd.C_alloc ?_ _ | refine Kd.C_drewN ?_ _ | refine Kd.C_drew ?_)); (case side2 => exact HC0.out); rintro e w7 ⟨v105, rfl, ho0, hb⟩; refine ⟨_, rfl, ?_⟩; have n0_ := Aside0.mk (Kd.S_elder' (by (with_reducible repeat (first | apply Kd.S_alloc | apply Kd.S_drewN | apply Kd.S_drew)); exact HO103.out) (Kd.R_base ho0) hb); have n1_ := Aside0.mk (Kd.R_lower ho0 (below_size (by repeat (first | (with_reducible first | exact HB.out | apply below_alloc | apply pw_below_drewN | apply below_drew1) | exact HB.out)))); have n2_ := Aside0.mk (below_step (by repeat (first | (with_reducible first | exact HB.out | apply below_alloc | apply pw_below_drewN | apply below_drew1) | exact HB.out)) hb); clear HO103; clear HB; have HO103 := n0_; have HO106 := n1_; have HB := n2_; clear n0_ n1_ n2_; (try clear hb); (try clear hb2); (try clear hk); (try clear hi); (try clear ho0); obtain ⟨Ao9, co9, eo9⟩ := Kd.R_slice HO106.out; subst eo9) | ((with_reducible refine gate_builtin (b := .append) (xs := #[.tmp 8, .tmp 11]) rfl ?_); at_builtin; refine Kd.S_append (Kd.slice 3 (Kd.int .i64)) (w0 := w) w.heap.size rfl (.tmp 8) (.tmp 11) 22 33 (.slice none 0 0) 24 rfl Try.underlying22 info33 rfl (by decide) (by omega) v102 t101 t104 [.slice Ao9 t104.length co9] (fun _ => True) (fun k_ => some k_ = (.slice Ao9 t104.length co9 : Value).ownBlock) rfl rfl ?aP (fun k_ hk_ => ((Kd.R_mono (ok' := fun k_ => ((fun _ => True)) k_ ∧ some k_ ≠ (v102 : Value).ownBlock) (Kd.R_apart' (HO106.out) (Kd.S_typed HO103.out) (by decide)) (fun k_ hk => ⟨trivial, hk.2⟩))).1 k_ hk_.symm) ?aF ?aO ?aB ?aS ?aL ?_; (case aP => exact Kd.M_row (Kd.R_mono (Kd.R_tight rfl (Kd.R_mono (ok' := fun k_ => ((fun _ => True)) k_ ∧ some k_ ≠ (v102 : Value).ownBlock) (Kd.R_apart' (HO106.out) (Kd.S_typed HO103.out) (by decide)) (fun k_ hk => ⟨trivial, hk.2⟩))) (fun _ h_ => h_))); (case aB => exact (by repeat (first | (with_reducible first | exact HB.out | apply below_alloc | apply pw_below_drewN | apply below_drew1) | exact HB.out))); (case aF => exact (fun _ _ => trivial)); (case aO => exact (by (with_reducible repeat (first | apply Kd.S_alloc | apply Kd.S_drewN | apply Kd.S_drew)); exact Kd.S_mono HO103.out (fun k_ hk => ⟨trivial, fun e_ => hk.2 e_⟩))); (case aS => exact (below_size (by repeat (first | (with_reducible first | exact HB.out | apply below_alloc | apply pw_below_drewN | apply below_drew1) | exact HB.out)))); (case aL => have := LMc4.out; omega); intro v108 w8 ho hb hg hat; rw [← Ny107.out] at ho; have n0_ := Aside0.mk (hb); have n1_ := Aside0.mk (ho); clear HB; clear HO103; clear HO106; have HB := n0_; have HO109 := n1_; clear n0_ n1_; clear ho hb hg hat; obtain ⟨Ao10, co10, eo10⟩ := Kd.S_slice HO109.out; subst eo10) | ((with_reducible refine gate_callee (f := 48) rfl ?_); refine goesL_ _ rfl rfl Try.func48 (by kernel_rfl) rfl #[.slice Ao10 y107.length co10, .int .i64 (l0.length : Int)] rfl (by (try simp only [List.map_toArray, List.map_cons, List.map_nil]); first | done | rfl | (simp only [List.length_drop, List.length_take]; rfl)) ?_; (with_reducible refine (graph_treeCut.calls k _ _ y107 (l0.length : Int) (l0.length : Int) t110 _ ?side1 ?side2 A5.out).mono ?_); (case side1 => repeat (first | exact (Kd.S_reads' HO109.out).2.2 | with_reducible first | refine Kd.C_alloc ?_ _ | refine Kd.C_drewN ?_ _ | refine Kd.C_drew ?_)); (case side2 => exact (Kd.S_reads' HO109.out).2.1); rintro e w11 ⟨Ao12, mt_, co12, rfl, ho0, hb, hcut1_, hcut2_, hcut3_⟩; refine ⟨_, rfl, ?_⟩; have n0_ := Aside0.mk (Kd.S_elder' (by (with_reducible repeat (first | apply Kd.S_alloc | apply Kd.S_drewN | apply Kd.S_drew)); exact HO109.out) (Kd.R_base ho0) hb); have n1_ := Aside0.mk (Kd.R_lower ho0 (below_size (by repeat (first | (with_reducible first | exact HB.out | apply below_alloc | apply pw_below_drewN | apply below_drew1) | exact HB.out)))); have n2_ := Aside0.mk (below_step (by repeat (first | (with_reducible first | exact HB.out | apply below_alloc | apply pw_below_drewN | apply below_drew1) | exact HB.out)) hb); clear HO109; clear HB; have HO109 := n0_; have HO112 := n1_; have HB := n2_; clear n0_ n1_ n2_; (try clear hb); (try clear hb2); (try clear hk); (try clear hi); (try clear ho0)) | ((with_reducible refine gate_dst (N := 19) rfl ?_); refine cut_op (j := t110.length) rfl rfl rfl rfl hcut1_ hcut2_ hcut3_ ?_))
  go_loopg [22] k (fun kq v22 w' => ∃ (x4_1 : List Int) (x22_1 : Int), v22 = .int .i64 x22_1 ∧ Aside0 (graph_posts.l0 kq l0 x4_1 (t110.length : Int) x22_1 = some r) ∧ Aside0 (kq ≤ k) ∧ Aside0 (Kd.R (Kd.int .i64) 3 w' w.heap.size (fun _ => True) (.slice Ao12 t110.length co12) x4_1) ∧ Aside0 (Below w.heap.size w w'))
  case atStart => exact ⟨(t110), (0), (by first | rfl | (simp; done) | (simp [*]; done)), H', ⟨Nat.le_refl _⟩, ⟨by (with_reducible repeat (first | apply Kd.R_alloc | apply Kd.R_drewN | apply Kd.R_drew)); exact HO112.out⟩, ⟨by repeat (first | (with_reducible first | exact HB.out | apply below_alloc | apply pw_below_drewN | apply below_drew1) | exact HB.out)⟩⟩
  case round =>
   clear H'; try clear p2
   try clear c4
   try clear c5
   try clear c6
   try clear c8
   obtain ⟨x4_1, x22_1, rfl, HA, HK1, HO_4, HB⟩ := hrel; have hl4_1 := (Kd.R_reads' HO_4.out).1; rw [hl4_1] at HO_4; (try simp only [hl4_1])
   cases gk with
   | zero => exact absurd HA.out (by simp [graph_posts.l0])
   | succ k1 =>
    have H := HA.out; clear HA; simp only [graph_posts.l0] at H
    by_cases c13 : x22_1 < (t110.length : Int)
    ·rw [if_pos c13] at H; have c13b0 : decide (x22_1 < (t110.length : Int)) = true := decide_eq_true c13
     have c13b7 := c13b0; (try simp only [hl4_1] at c13b7)
     clear c13; by_cases c14 : 0 ≤ x22_1
     ·rw [if_pos c14] at H; have c14b0 : decide (0 ≤ x22_1) = true := decide_eq_true c14
      clear c14; by_cases c15 : x22_1 < (x4_1.length : Int)
      ·rw [if_pos c15] at H; have c15b0 : decide (x22_1 < (x4_1.length : Int)) = true := decide_eq_true c15
       have c15b7 := c15b0; (try simp only [hl4_1] at c15b7)
       clear c15; by_cases c16 : (rd x4_1 x22_1) = (l0.length : Int)
       ·rw [if_pos c16] at H; have c16b0 : ((rd x4_1 x22_1) == (l0.length : Int)) = true := beq_iff_eq.mpr c16
        have c16b1 : ((rd x4_1 x22_1) != (l0.length : Int)) = false := bne_eq_false_iff_eq.mpr c16
        clear c16; obtain ⟨y114, hy114⟩ : ∃ y_ : List Int, y_ = (x4_1.set (x22_1 : Int).toNat (-1)) := ⟨_, rfl⟩; replace H : (graph_posts.l0 k1 l0 y114 (t110.length : Int) (wrap64 (x22_1 + 1))) = some r := by first | (with_reducible first | (rw [hy114]; exact H) | exact H) | (have H2_ := (Option.bind_some _ _).symm.trans H; first | with_reducible exact H2_ | (rw [hy114]; exact H2_)) | (rw [hy114]; exact H) | exact H
        have Ny114 := Aside0.mk hy114; clear hy114; have H' := Aside0.mk H
        clear H; have p113 : 0 ≤ (x22_1 : Int) := of_decide_eq_true (by with_reducible assumption)
        have q113 : x22_1 < (x4_1.length : Int) := of_decide_eq_true (by with_reducible assumption)
        obtain ⟨ad113, e113, hx113_0⟩ := Kd.at_int (Kd.R_reads' HO_4.out).2.2 x22_1 p113 q113; cases e113; replace p113 := eq_true p113; replace q113 := eq_true q113; have p17 : 0 ≤ (x22_1 : Int) := of_decide_eq_true (by with_reducible assumption)
        have q17 : (x22_1 : Int) < ((x4_1.length : Int) : Int) := of_decide_eq_true (by with_reducible assumption)
        obtain ⟨go17, co17, eo17, gb17, gl17, cl17, HG17⟩ := Kd.R_form HO_4.out (by omega)
        (first | cases eo17 | (injection eo17 with ea_ en_ ec_; (first | subst ea_ | (injection ea_ with ea_; subst ea_)); subst ec_; clear en_))
        have GB17 := Aside0.mk gb17; have GG17 := Aside0.mk HG17; clear gb17 gl17 HG17; (first | simp only [add_plain] at hx113_0 | skip)
        obtain ⟨hx17_0, hf17_0⟩ := Kd.R_celln 0 HO_4.out (x22_1 : Int) p17 q17; replace p17 := eq_true p17; replace q17 := eq_true q17; have HP18 := Kd.R_putg HO_4.out (x22_1 : Int) (-1); go_wp2_with (first | ((with_reducible refine gate_store (t := 3) (p := 33) rfl ?_); refine store_event (t := 3) (p := 33) (v := ?vo_w19) (w1 := (wr.setCell ⟨go17, (x22_1 : Int).toNat, none⟩ (.int .i64 (-1)))) ?hg ?ho ?hn ?hr ?_; (case ho => rfl); (case hg => rfl); (case hn => rfl); (case hr => first | (go_simp; done) | (go_simp; rfl)); intro w19 hw; have hg : wr.grownBy w19 (some go17) := (by rw [hw]; exact HP18.2); have hp_ : Kd.R (Kd.int .i64) 3 w19 w.heap.size (fun _ => True) (.slice (some ⟨go17, 0, none⟩) x4_1.length co12) y114 := (by rw [hw, Ny114.out]; exact HP18.1); clear HP18; have n0_ := Aside0.mk (hp_); have n1_ := Aside0.mk ((by rw [hw]; exact below_set (HB.out) GB17.out : Below w.heap.size w w19)); clear HO_4; clear HB; have HO_4 := n0_; have HB := n1_; clear n0_ n1_; clear hg hw hp_))
        (try simp only [← hl4_1])
        go_roundg k1
        case measure => have := HK1.out; omega
        case rel => exact ⟨(y114), (wrap64 (x22_1 + 1)), (by first | rfl | (simp; done) | (simp [*]; done)), H', ⟨by have := HK1.out; omega⟩, ⟨by (try simp only [hl4_1]); (with_reducible repeat (first | apply Kd.R_alloc | apply Kd.R_drewN | apply Kd.R_drew)); exact HO_4.out⟩, ⟨by repeat (first | (with_reducible first | exact HB.out | apply below_alloc | apply pw_below_drewN | apply below_drew1) | exact HB.out)⟩⟩
       ·rw [if_neg c16] at H; have c16b0 : ((rd x4_1 x22_1) == (l0.length : Int)) = false := beq_eq_false_iff_ne.mpr c16
        have c16b1 : ((rd x4_1 x22_1) != (l0.length : Int)) = true := bne_iff_ne.mpr c16
        have H' := Aside0.mk H
        clear H; have p113 : 0 ≤ (x22_1 : Int) := of_decide_eq_true (by with_reducible assumption)
        have q113 : x22_1 < (x4_1.length : Int) := of_decide_eq_true (by with_reducible assumption)
        obtain ⟨ad113, e113, hx113_0⟩ := Kd.at_int (Kd.R_reads' HO_4.out).2.2 x22_1 p113 q113; cases e113; replace p113 := eq_true p113; replace q113 := eq_true q113; go_wp2
        (try simp only [← hl4_1])
        go_roundg k1
        case measure => have := HK1.out; omega
        case rel => exact ⟨(x4_1), (wrap64 (x22_1 + 1)), (by first | rfl | (simp; done) | (simp [*]; done)), H', ⟨by have := HK1.out; omega⟩, ⟨by (try simp only [hl4_1]); (with_reducible repeat (first | apply Kd.R_alloc | apply Kd.R_drewN | apply Kd.R_drew)); exact HO_4.out⟩, ⟨by repeat (first | (with_reducible first | exact HB.out | apply below_alloc | apply pw_below_drewN | apply below_drew1) | exact HB.out)⟩⟩
      ·rw [if_neg c15] at H; exact absurd H (by simp)
     ·rw [if_neg c14] at H; exact absurd H (by simp)
    ·rw [if_neg c13] at H; have c13b0 : decide (x22_1 < (t110.length : Int)) = false := decide_eq_false c13
     have c13b7 := c13b0; (try simp only [hl4_1] at c13b7)
     clear c13; obtain rfl := Option.some.inj H; go_wp2
     go_ret
     exact ⟨_, by first | rfl | (simp [errW_none, errW_some] <;> rfl) | (simp [*, errW_none, errW_some] <;> rfl), by (with_reducible repeat (first | apply Kd.R_alloc | apply Kd.R_drewN | apply Kd.R_drew)); exact HO_4.out, by repeat (first | (with_reducible first | exact HB.out | apply below_alloc | apply pw_below_drewN | apply below_drew1) | exact HB.out)⟩
 ·rw [if_neg c4] at H; exact absurd H (by simp)
def graph_Postdominators.f (k : Nat) (l0 : List (List Int)) : Option (List Int × Int) := (graph_valid.f k l0).bind fun t115 => (if t115 = true then ((graph_posts.f k l0).bind fun t116 => (some (t116, 0))) else (some (([] : List Int), 1)))
theorem graph_Postdominators.mono : ∀ a0 k, LeO (graph_Postdominators.f k a0) (graph_Postdominators.f (k + 1) a0) := by
 intro a0 k
 unfold graph_Postdominators.f
 repeat' first
   | (with_reducible exact graph_posts.mono _ _)
   | (with_reducible exact graph_valid.mono _ _)
   | (with_reducible exact LeO.refl _)
   | (with_reducible exact LeO.none _)
   | (with_reducible refine LeO.ite ?_ ?_)
   | (with_reducible refine LeO.bind ?_ (fun _ => ?_))
set_option maxHeartbeats 8000000 in
set_option maxRecDepth 100000 in
theorem graph_Postdominators.calls (k : Nat) (A0 : Option Addr) (c0 : Nat) (l0 : List (List Int)) (r1 : List Int) (r2 : Int) (w : World) (hr0 : Kd.C (Kd.slice 3 (Kd.int .i64)) w A0 l0.length l0) (hc0 : l0.length ≤ c0) (h : graph_Postdominators.f k l0 = some (r1, r2)) :
  Calls Try.prog 27 #[.slice A0 l0.length c0] w fun e w' => ∃ v0_ : Value, e = .returned (.tuple #[v0_, .int .i64 r2]) ∧ Kd.R (Kd.int .i64) 3 w' w.heap.size (fun _ => True) v0_ r1 ∧ Below w.heap.size w w' := by
 have HR0 := Aside0.mk hr0; have HC0 := Aside0.mk hc0; clear hr0 hc0; have HB := Aside0.mk (Below.refl w.heap.size w); have H : ((graph_valid.f k l0).bind fun t115 => (if t115 = true then ((graph_posts.f k l0).bind fun t116 => (some (t116, 0))) else (some (([] : List Int), 1)))) = some (r1, r2) := h
 clear h; replace H := Option.bind_eq_some_iff.mp H; obtain ⟨t115, A20, H⟩ := H; replace H : (if t115 = true then ((graph_posts.f k l0).bind fun t116 => (some (t116, 0))) else (some (([] : List Int), 1))) = some (r1, r2) := H
 have A2 := Aside0.mk A20; clear A20; by_cases c3 : t115 = true
 ·subst c3; have H1 : ((graph_posts.f k l0).bind fun t116 => (some (t116, 0))) = some (r1, r2) := by rw [if_pos rfl] at H; exact H
  clear H; have H := H1; clear H1; replace H := Option.bind_eq_some_iff.mp H; obtain ⟨t116, A40, H⟩ := H; replace H : (some (t116, 0)) = some (r1, r2) := H; have A4 := Aside0.mk A40; clear A40; simp only [Option.some.injEq, Prod.mk.injEq] at H
  obtain ⟨rfl, rfl⟩ := H; go_enter Try.func27, Try.ntmps27
  go_wp2_with (first | ((with_reducible refine gate_callee (f := 47) rfl ?_); refine goesL_ (some 5) rfl rfl Try.func47 (by kernel_rfl) rfl #[.slice A0 l0.length c0] rfl (by (try simp only [List.map_toArray, List.map_cons, List.map_nil]); first | done | rfl | (simp only [List.length_drop, List.length_take]; rfl)) ?_; (with_reducible refine (graph_valid.calls k _ _ l0 true _ ?side1 ?side2 A2.out).mono ?_); (case side1 => repeat (first | exact HR0.out | with_reducible first | refine Kd.C_alloc ?_ _ | refine Kd.C_drewN ?_ _ | refine Kd.C_drew ?_)); (case side2 => exact HC0.out); rintro e w' ⟨rfl, ⟨nd, rfl⟩⟩; refine ⟨_, rfl, ?_⟩) | ((with_reducible refine gate_callee (f := 61) rfl ?_); refine goesL_ (some 8) rfl rfl Try.func61 (by kernel_rfl) rfl #[.slice A0 l0.length c0] rfl (by (try simp only [List.map_toArray, List.map_cons, List.map_nil]); first | done | rfl | (simp only [List.length_drop, List.length_take]; rfl)) ?_; (with_reducible refine (graph_posts.calls k _ _ l0 t116 _ ?side1 ?side2 A4.out).mono ?_); (case side1 => repeat (first | exact HR0.out | with_reducible first | refine Kd.C_alloc ?_ _ | refine Kd.C_drewN ?_ _ | refine Kd.C_drew ?_)); (case side2 => exact HC0.out); rintro e w5 ⟨v117, rfl, ho0, hb⟩; refine ⟨_, rfl, ?_⟩; have n0_ := Aside0.mk (Kd.R_lower ho0 (below_size (by repeat (first | (with_reducible first | exact HB.out | apply below_alloc | apply pw_below_drewN | apply below_drew1) | exact HB.out)))); have n1_ := Aside0.mk (below_step (by repeat (first | (with_reducible first | exact HB.out | apply below_alloc | apply pw_below_drewN | apply below_drew1) | exact HB.out)) hb); clear HB; have HO118 := n0_; have HB := n1_; clear n0_ n1_; (try clear hb); (try clear hb2); (try clear hk); (try clear hi); (try clear ho0)))
  go_ret2
  exact ⟨_, by first | rfl | (simp [errW_none, errW_some] <;> rfl) | (simp [*, errW_none, errW_some] <;> rfl), by (with_reducible repeat (first | apply Kd.R_alloc | apply Kd.R_drewN | apply Kd.R_drew)); exact HO118.out, by repeat (first | (with_reducible first | exact HB.out | apply below_alloc | apply pw_below_drewN | apply below_drew1) | exact HB.out)⟩
 ·replace c3 := Bool.eq_false_iff.mpr c3; subst c3; have H1 : (some (([] : List Int), 1)) = some (r1, r2) := by rw [if_neg (show ¬ (false = true) by decide)] at H; exact H
  clear H; have H := H1; clear H1; simp only [Option.some.injEq, Prod.mk.injEq] at H
  obtain ⟨rfl, rfl⟩ := H; go_enter Try.func27, Try.ntmps27
  go_wp2_with (first | ((with_reducible refine gate_callee (f := 47) rfl ?_); refine goesL_ (some 5) rfl rfl Try.func47 (by kernel_rfl) rfl #[.slice A0 l0.length c0] rfl (by (try simp only [List.map_toArray, List.map_cons, List.map_nil]); first | done | rfl | (simp only [List.length_drop, List.length_take]; rfl)) ?_; (with_reducible refine (graph_valid.calls k _ _ l0 false _ ?side1 ?side2 A2.out).mono ?_); (case side1 => repeat (first | exact HR0.out | with_reducible first | refine Kd.C_alloc ?_ _ | refine Kd.C_drewN ?_ _ | refine Kd.C_drew ?_)); (case side2 => exact HC0.out); rintro e w' ⟨rfl, ⟨nd, rfl⟩⟩; refine ⟨_, rfl, ?_⟩))
  go_ret2
  exact ⟨_, by first | rfl | (simp [errW_none, errW_some] <;> rfl) | (simp [*, errW_none, errW_some] <;> rfl), by first | exact Kd.R_nil _ _ _ _ _ | exact Kd.N_nil _ _ _ _ _ | exact Kd.V_nil _ _ _ _ _ | exact Kd.Q_nil _ _ _ _ _ | exact Kd.S_nil _ _ _ _ _, by repeat (first | (with_reducible first | exact HB.out | apply below_alloc | apply pw_below_drewN | apply below_drew1) | exact HB.out)⟩
end Go.Proofs.Ytjjedbcgkljdeaa.C
end
section
namespace Go.Proofs.Ytjjedbcgkljdeaa.C
open Go Go.RowKit Go.Shelf Go.Proofs.YtjjedbcgkljdeaaW.PrintWords Go.Proofs.YtjjedbcgkljdeaaW.PrintLast Go.Proofs.YtjjedbcgkljdeaaW.PrintMore Go.Proofs.Ytjjedbcgkljdeaa.A Go.Proofs.Ytjjedbcgkljdeaa
def graph_fromReg.f (k : Nat) (l0 : List (List Int)) (l1 : List Int) (a2 : Int) : Option (List Bool) := fromF (fun n => n == a2) k l0 l1
theorem graph_fromReg.mono : ∀ a0 a1 a2 k, LeO (graph_fromReg.f k a0 a1 a2) (graph_fromReg.f (k + 1) a0 a1 a2) := fun a0 a1 _ k => fromF_mono _ a0 a1 k
theorem reg_closed (w : World) (pe : Nat) (e : Int) (he : w.heap[pe]? = some (.cells #[.int .i64 e] 3 (0, 0))) (len : Nat) : Closed_reg w (fun n => n == e) len (pe := pe) := by
 intro W1 hb n _ _
 have c : W1.cell? ⟨pe, 0, none⟩ = some (.int .i64 e) := (blk_cell (blk_below he hb) 0).trans rfl
 go_enter Try.func62, Try.ntmps62
 go_wp2
 go_ret
 exact ⟨by simp, Drawn0.refl _⟩
theorem graph_fromReg.calls (k : Nat) (A0 : Option Addr) (c0 : Nat) (l0 : List (List Int)) (A1 : Option Addr) (c1 : Nat) (l1 : List Int) (a2 : Int) (r : List Bool) (w : World) (hr0 : Kd.C (Kd.slice 3 (Kd.int .i64)) w A0 l0.length l0) (_hc0 : l0.length ≤ c0) (hr1 : Kd.C (Kd.int .i64) w A1 l1.length l1) (_hc1 : l1.length ≤ c1) (h : graph_fromReg.f k l0 l1 a2 = some r) {pe : Nat} (he : w.heap[pe]? = some (.cells #[.int .i64 a2] 3 (0, 0))) :
  Calls Try.prog 49 #[.slice A0 l0.length c0, .slice A1 l1.length c1, .func (.func 62) #[] #[.pointer (some ⟨pe, 0, none⟩)]] w fun e w' => ∃ v0_ : Value, e = .returned v0_ ∧ Kd.R Kd.bool 4 w' w.heap.size (fun _ => True) v0_ r ∧ Below w.heap.size w w' :=
 from_reg (pe := pe) (fun n => n == a2) k A0 c0 l0 A1 c1 l1 r w hr0 hr1 (reg_closed w pe a2 he _) h
theorem box_op {ops : Array Oper} {Q : Exit → Act → World → Prop} {rest : List Oper} {a : Act} {W : World} {o : Oper} {p v : Operand} {x : Int} (hgd : o.guard = none) (ho : o.op = .store 3 p v)
  (hp : a.eval p = .pointer (some ⟨W.heap.size, 0, none⟩)) (hv : a.eval v = .int .i64 x)
  (h : ∀ W', Below W.heap.size W W' → W'.heap[W.heap.size]? = some (.cells #[.int .i64 x] 3 (0, 0)) → wpList Try.prog ops Q rest (a.put o.dst undef) W') : wpList Try.prog ops Q (o :: rest) a (W.alloc (.cells #[.int .i64 0] 3)) := by
 refine wpList_plain hgd fun K hK => ?_
 have hf : (W.alloc (.cells #[.int .i64 0] 3)).frozen? ⟨W.heap.size, 0, none⟩ = false := blk_frozen (new_at _ rfl) 0
 have h1 : Below W.heap.size W ((W.alloc (.cells #[.int .i64 0] 3)).setCell ⟨W.heap.size, 0, none⟩ (.int .i64 x)) := (below_alloc (Below.refl _ _) _).setCell (by simp) _
 have h2 : ((W.alloc (.cells #[.int .i64 0] 3)).setCell ⟨W.heap.size, 0, none⟩ (.int .i64 x)).heap[W.heap.size]? = some (.cells #[.int .i64 x] 3 (0, 0)) := by
  have h0 : (W.alloc (.cells #[.int .i64 0] 3)).heap[W.heap.size]? = some (.cells #[.int .i64 0] 3 (0, 0)) := new_at _ rfl
  rw [blk_set h0]; rfl
 have hn := hK _ _ (h _ h1 h2); unfold Oper.wp
 have hr : (execOp a.eval o).run Try.prog (W.alloc (.cells #[.int .i64 0] 3)) = .ok .skip ((W.alloc (.cells #[.int .i64 0] 3)).setCell ⟨W.heap.size, 0, none⟩ (.int .i64 x)) := by
  unfold execOp
  simp only [ho, hp, hv]
  simp [go_sem, hf]
 rw [hr]; exact hn
end Go.Proofs.Ytjjedbcgkljdeaa.C
end
section
namespace Go.Proofs.Ytjjedbcgkljdeaa.M
open Go.RowKit Go.Proofs.YtjjedbcgkljdeaaW.PrintWords Go.Proofs.YtjjedbcgkljdeaaW.PrintLast Go.Proofs.YtjjedbcgkljdeaaW.PrintMore Go.Proofs.Ytjjedbcgkljdeaa.A
structure Wk (G : List (List Int)) (root : Int) (up : List Int) (n : Nat) (dl : List Int) : Prop where
 tree : TreeOf G root up
 rng : ∀ x, Rg G root x → 0 ≤ x
 len : dl.length = n
 yes : ∀ b : Int, 0 ≤ b → b < (n : Int) → Rg G root b → (b ≠ root ∧ rd dl b = rd up b ∧ rd up b < (n : Int)) ∨ (rd dl b = -1 ∧ ∀ a : Int, 0 ≤ a → a < (n : Int) → Ch (uf up) root b a → a = b)
 no : ∀ b : Int, 0 ≤ b → b < (n : Int) → ¬ Rg G root b → rd dl b = -1
section
variable {G : List (List Int)} {root : Int} {up : List Int} {n : Nat} {dl : List Int}
theorem TreeOf.ch_rg (h : TreeOf G root up) (hr : ∀ x, Rg G root x → 0 ≤ x) {b a : Int} (hb : Rg G root b) (hc : Ch (uf up) root b a) : Rg G root a := by
 induction hc with
 | refl => exact hb
 | @up m x hn _ ih =>
  rw [uf_pos (hr m hb)] at ih; exact ih (h.up_lt m hb hn).1
theorem TreeOf.ch_step (_h : TreeOf G root up) (hr : ∀ x, Rg G root x → 0 ≤ x) {b a : Int} (hb : Rg G root b) (hne : a ≠ b) : Ch (uf up) root b a ↔ b ≠ root ∧ Ch (uf up) root (rd up b) a := by
 rw [← uf_pos (l := up) (hr b hb)]; constructor
 ·intro hc
  cases hc with
  | refl => exact absurd rfl hne
  | up hn h => exact ⟨hn, h⟩
 ·exact fun h => Ch.up h.1 h.2
theorem TreeOf.ch_lvl (h : TreeOf G root up) (hr : ∀ x, Rg G root x → 0 ≤ x) {f : Int → Nat} (hf : ∀ n, Rg G root n → n ≠ root → f (rd up n) < f n) {b a : Int} (hb : Rg G root b) (hc : Ch (uf up) root b a) : a = b ∨ f a < f b := by
 induction hc with
 | refl => exact .inl rfl
 | @up m x hn _ ih =>
  rw [uf_pos (hr m hb)] at ih; have h1 := hf m hb hn; rcases ih (h.up_lt m hb hn).1 with e | e
  ·rw [e]; exact .inr h1
  ·exact .inr (by omega)
theorem TreeOf.anti (h : TreeOf G root up) (hr : ∀ x, Rg G root x → 0 ≤ x) {b a : Int} (hb : Rg G root b) (h1 : Ch (uf up) root b a) (h2 : Ch (uf up) root a b) : a = b := by
 obtain ⟨f, hf⟩ := h.lvl; rcases h.ch_lvl hr hf hb h1 with e | e
 ·exact e
 ·rcases h.ch_lvl hr hf (h.ch_rg hr hb h1) h2 with e2 | e2
  ·exact e2.symm
  ·omega
theorem Wk.range (w : Wk G root up n dl) (b : Int) (h0 : 0 ≤ b) (h1 : b < (n : Int)) : rd dl b = -1 ∨ 0 ≤ rd dl b ∧ rd dl b < (n : Int) := by
 by_cases hb : Rg G root b
 ·rcases w.yes b h0 h1 hb with ⟨hn, e, hlt⟩ | ⟨e, _⟩
  ·rw [e]; exact .inr ⟨w.rng _ (w.tree.up_lt b hb hn).1, hlt⟩
  ·exact .inl e
 ·exact .inl (w.no b h0 h1 hb)
theorem Wk.imm (w : Wk G root up n dl) {t : List (List Bool)} {D : Int → Int → Prop} (ht : TabOf t n D) (hD : ∀ a b : Int, 0 ≤ a → a < (n : Int) → 0 ≤ b → b < (n : Int) → (D a b ↔ Dom G root a b)) (a b : Int) (ha0 : 0 ≤ a) (ha1 : a < (n : Int)) (hb0 : 0 ≤ b) (hb1 : b < (n : Int)) : Imm t n a b ↔ rd dl b = a := by
 have tr := w.tree; have hdb : ∀ x y : Int, 0 ≤ x → x < (n : Int) → 0 ≤ y → y < (n : Int) → (Db t x y = true ↔ Dom G root x y) := fun x y h1 h2 h3 h4 => (ht.iff x y h1 h2 h3 h4).trans (hD x y h1 h2 h3 h4)
 by_cases hb : Rg G root b
 ·have hch : ∀ x, Dom G root x b ↔ Ch (uf up) root b x := fun x => (tr.ch b x hb).symm
  rcases w.yes b hb0 hb1 hb with ⟨hn, e, hlt⟩ | ⟨e, hno⟩
  ·obtain ⟨hu, hub⟩ := tr.up_lt b hb hn; have hu0 := w.rng _ hu; have hbu : Ch (uf up) root b (rd up b) := (tr.ch_step w.rng hb hub).2 ⟨hn, Ch.refl _⟩
   rw [e]; constructor
   ·rintro ⟨h1, h2, h3⟩
    have hba : Ch (uf up) root b a := (hch a).1 ((hdb a b ha0 ha1 hb0 hb1).1 h2)
    have hua := ((tr.ch_step w.rng hb h1).1 hba).2; have haR := tr.ch_rg w.rng hb hba; have h4 := h3 (rd up b) hu0 hlt; unfold Near at h4
    rw [decide_eq_false hub, (hdb _ b hu0 hlt hb0 hb1).2 ((hch _).2 hbu)] at h4; have h5 : Dom G root (rd up b) a := (hdb _ a hu0 hlt ha0 ha1).1 (by simpa using h4)
    exact (tr.anti w.rng hu hua ((tr.ch a _ haR).2 h5)).symm
   ·rintro rfl
    refine ⟨hub, (hdb _ b hu0 hlt hb0 hb1).2 ((hch _).2 hbu), fun c hc0 hc1 => ?_⟩
    unfold Near
    by_cases hcb : c = b
    ·rw [decide_eq_true hcb]; rfl
    ·by_cases hcD : Db t c b = true
     ·have h1 := ((tr.ch_step w.rng hb hcb).1 ((hch c).1 ((hdb c b hc0 hc1 hb0 hb1).1 hcD))).2; rw [(hdb c _ hc0 hc1 hu0 hlt).2 ((tr.ch _ c hu).1 h1)]; simp
     ·rw [Bool.eq_false_iff.2 hcD]; simp
  ·rw [e]; constructor
   ·rintro ⟨h1, h2, _⟩
    exact absurd (hno a ha0 ha1 ((hch a).1 ((hdb a b ha0 ha1 hb0 hb1).1 h2))) h1
   ·intro h; omega
 ·rw [w.no b hb0 hb1 hb]; constructor
  ·rintro ⟨_, h2, _⟩
   exact absurd ((hdb a b ha0 ha1 hb0 hb1).1 h2).1 hb
  ·intro h; omega
theorem Wk.above (w : Wk G root up n dl) (hn : n ≤ 100000) (a : Int) (ha0 : 0 ≤ a) (ha1 : a < (n : Int)) {f : Int → Nat} (hf : ∀ n, Rg G root n → n ≠ root → f (rd up n) < f n) : ∀ (N : Nat) (b : Int), f b ≤ N → 0 ≤ b → b < (n : Int) → Rg G root b →
  ∃ v : Bool, (v = true ↔ Ch (uf up) root b a) ∧ Evt (fun k => graph_above.l0 k dl a b) v
 | N, b, hN, hb0, hb1, hb => by
  have hl := w.len; by_cases e : b = a
  ·subst e; refine ⟨true, ⟨fun _ => Ch.refl _, fun _ => rfl⟩, Evt.succ ?_⟩
   simp only [graph_above.l0]
   refine Evt.pos (by omega) (Evt.pos (by first | rfl | trivial) ?_)
   simpa using Evt.const true
  ·rcases w.yes b hb0 hb1 hb with ⟨hne, hd, hlt⟩ | ⟨hd, hno⟩
   ·have hu := (w.tree.up_lt b hb hne).1; have h1 := hf b hb hne; obtain ⟨v, hv, hv2⟩ := w.above hn a ha0 ha1 hf (N - 1) (rd up b) (by omega) (w.rng _ hu) hlt hu
    refine ⟨v, by rw [hv, w.tree.ch_step w.rng hb (Ne.symm e)]; exact ⟨fun h => ⟨hne, h⟩, fun h => h.2⟩, Evt.succ ?_⟩
    simp only [graph_above.l0]
    refine Evt.pos (by omega) (Evt.neg e (Evt.pos hb0 (Evt.pos (by omega) ?_)))
    rw [hd]; exact hv2
   ·refine ⟨false, ⟨fun h => (by cases h), fun h => absurd (hno a ha0 ha1 h).symm e⟩, Evt.succ ?_⟩
    simp only [graph_above.l0]
    refine Evt.pos (by omega) (Evt.neg e (Evt.pos hb0 (Evt.pos (by omega) (Evt.succ ?_))))
    rw [hd]; simp only [graph_above.l0]
    refine Evt.neg (by omega) ?_
    rw [show ((-1 : Int) == a) = false by simp; omega]
    exact Evt.const false
  termination_by _ b => f b
  decreasing_by omega
end
theorem dom_ev (g : List (List Int)) (hg : Gr g) (h1 : 1 ≤ g.length) (hn : g.length ≤ 40) (hr : ∀ r ∈ g, r.length ≤ 4) :
  ∃ up dl t, Evt (fun k => Go.Proofs.Ytjjedbcgkljdeaa.B.graph_tree.f k g 0) dl ∧ Wk g 0 up g.length dl ∧ Evt (fun k => r7_Table.f k g) t ∧ TabOf t g.length (TD g) ∧ Evt (fun k => r7_Immediate.f k t) dl ∧ ∀ a b, TD g a b ↔ Dom g 0 a b := by
 obtain ⟨up, he, hT⟩ := tree_ev 4 (by omega) g 0 hg (by omega) (by omega) (by omega) (by omega) hr
 obtain ⟨t, ht, ht2⟩ := table_ev g hg h1 hn hr; have hin : InR g.length [0] := fun x hx => by obtain rfl := List.mem_singleton.1 hx; omega
 have hrng : ∀ x, Rg g 0 x → 0 ≤ x ∧ x < (g.length : Int) := fun x h => h.range hg hin
 have hl := hT.len; have hw : Wk g 0 up g.length (up.set (0 : Int).toNat (-1)) := by
  refine ⟨hT, fun x h => (hrng x h).1, by simp [hl], fun b hb0 hb1 hb => ?_, fun b hb0 hb1 hb => ?_⟩
  ·rw [rd_set up 0 (-1) b (by omega) (by omega) hb0]
   by_cases e : b = 0
   ·rw [if_pos e]; refine .inr ⟨rfl, fun a _ _ hc => ?_⟩
    rw [e] at hc ⊢
    exact hc.root_eq
   ·rw [if_neg e]; exact .inl ⟨e, rfl, (hrng _ (hT.up_lt b hb e).1).2⟩
  ·rw [rd_set up 0 (-1) b (by omega) (by omega) hb0]
   by_cases e : b = 0
   ·rw [if_pos e]
   ·rw [if_neg e]; exact hT.no b hb0 hb1 hb
 have hD : ∀ a b, TD g a b ↔ Dom g 0 a b := fun a b => ⟨fun h => ⟨h.2.1, h.2.2⟩, fun h => ⟨hT.ch_rg (fun x h => (hrng x h).1) h.1 ((hT.ch b a h.1).2 h), h.1, h.2⟩⟩
 exact ⟨up, _, t, he, hw, ht, ht2, imm_ev t g.length (by omega) ht2.len ht2.row _ hw.len hw.range (fun a b ha0 ha1 hb0 hb1 => hw.imm ht2 (fun x y _ _ _ _ => hD x y) a b ha0 ha1 hb0 hb1), hD⟩
theorem posts_l0 (x0 : List (List Int)) (n : Nat) (hn : n ≤ 100000) (hx : x0.length = n) (u : List Int) (hu : u.length = n) : ∀ (d i : Nat) (a : List Int), i + d = n → a.length = n → (∀ x : Int, 0 ≤ x → x < (n : Int) → rd a x = if x < (i : Int) ∧ rd u x = (n : Int) then -1 else rd u x) →
  ∃ r, r.length = n ∧ (∀ x : Int, 0 ≤ x → x < (n : Int) → rd r x = if rd u x = (n : Int) then -1 else rd u x) ∧ Evt (fun k => Go.Proofs.Ytjjedbcgkljdeaa.C.graph_posts.l0 k x0 a (n : Int) (i : Int)) r
 | 0, i, a, hd, ha, h => by
  refine ⟨a, ha, fun x h0 h1 => ?_, Evt.succ ?_⟩
  ·rw [h x h0 h1]; by_cases e : rd u x = (n : Int)
   ·rw [if_pos e, if_pos ⟨by omega, e⟩]
   ·rw [if_neg e, if_neg (fun h => e h.2)]
  ·simp only [Go.Proofs.Ytjjedbcgkljdeaa.C.graph_posts.l0]
   exact Evt.neg (by omega) (Evt.const a)
 | d + 1, i, a, hd, ha, h => by
  have hi := h (i : Int) (by omega) (by omega)
  rw [if_neg (by omega)] at hi
  by_cases e : rd u (i : Int) = (n : Int)
  ·obtain ⟨r, r1, r2, r3⟩ := posts_l0 x0 n hn hx u hu d (i + 1) (a.set (i : Int).toNat (-1)) (by omega) (by simp [ha]) (fun x h0 h1 => by
    rw [rd_set a (i : Int) (-1) x (by omega) (by omega) h0]
    by_cases ex : x = (i : Int)
    ·subst ex; rw [if_pos rfl, if_pos ⟨by omega, e⟩]
    ·rw [if_neg ex, h x h0 h1]; by_cases e2 : rd u x = (n : Int)
     ·by_cases e3 : x < (i : Int)
      ·rw [if_pos ⟨e3, e2⟩, if_pos ⟨by omega, e2⟩]
      ·rw [if_neg (fun h => e3 h.1), if_neg (fun h => by omega)]
     ·rw [if_neg (fun h => e2 h.2), if_neg (fun h => e2 h.2)])
   refine ⟨r, r1, r2, Evt.succ ?_⟩
   simp only [Go.Proofs.Ytjjedbcgkljdeaa.C.graph_posts.l0, wrap_succ i (by omega)]
   exact Evt.pos (by omega) (Evt.pos (by omega) (Evt.pos (by omega) (Evt.pos (by rw [hi, hx]; exact e) r3)))
  ·obtain ⟨r, r1, r2, r3⟩ := posts_l0 x0 n hn hx u hu d (i + 1) a (by omega) ha (fun x h0 h1 => by
    rw [h x h0 h1]; by_cases e2 : rd u x = (n : Int)
    ·by_cases e3 : x < (i : Int)
     ·rw [if_pos ⟨e3, e2⟩, if_pos ⟨by omega, e2⟩]
     ·have : x ≠ (i : Int) := fun h => by subst h; exact e e2
      rw [if_neg (fun h => e3 h.1), if_neg (fun h => by omega)]
    ·rw [if_neg (fun h => e2 h.2), if_neg (fun h => e2 h.2)])
   refine ⟨r, r1, r2, Evt.succ ?_⟩
   simp only [Go.Proofs.Ytjjedbcgkljdeaa.C.graph_posts.l0, wrap_succ i (by omega)]
   exact Evt.pos (by omega) (Evt.pos (by omega) (Evt.pos (by omega) (Evt.neg (by rw [hi, hx]; exact e) r3)))
theorem rd_L1_snoc (T : List (List Int)) (r : List Int) (a : Int) (h0 : 0 ≤ a) : rd_L1 (T ++ [r]) a = if a < (T.length : Int) then rd_L1 T a else if a = (T.length : Int) then r else [] := by
 unfold rd_L1
 simp only [List.getD_eq_getElem?_getD]
 by_cases h : a < (T.length : Int)
 ·rw [if_pos h, List.getElem?_append_left (by omega)]
 ·rw [if_neg h, List.getElem?_append_right (by omega)]
  by_cases e : a = (T.length : Int)
  ·rw [if_pos e, show a.toNat - T.length = 0 by omega]; rfl
  ·rw [if_neg e, List.getElem?_eq_none (by simp; omega)]; rfl
theorem rch_snoc {T : List (List Int)} {X : List Int} (hT : Gr T) (hX : InR T.length X) {P : Int → Bool} (hP : P (T.length : Int) = false) (x : Int) :
  Rch (T ++ [X]) P [(T.length : Int)] x ↔ x = (T.length : Int) ∨ Rch T P X x := by
 constructor
 ·intro h
  induction h with
  | base h _ => exact .inl (List.mem_singleton.1 h)
  | @step a y _ hy hPy ih =>
   right
   rcases ih with rfl | ih
   ·rw [rd_L1_snoc _ _ _ (by omega), if_neg (by omega), if_pos rfl] at hy
    exact Rch.base hy hPy
   ·obtain ⟨a0, a1⟩ := ih.range hT hX; rw [rd_L1_snoc _ _ _ a0, if_pos a1] at hy; exact Rch.step ih hy hPy
 ·have hroot : Rch (T ++ [X]) P [(T.length : Int)] (T.length : Int) := Rch.base (by simp) hP
  rintro (rfl | h)
  ·exact hroot
  ·induction h with
   | base h hPx => exact Rch.step hroot (by rw [rd_L1_snoc _ _ _ (by omega), if_neg (by omega), if_pos rfl]; exact h) hPx
   | @step a y ha hy hPy ih =>
    obtain ⟨a0, a1⟩ := ha.range hT hX; exact Rch.step ih (by rw [rd_L1_snoc _ _ _ a0, if_pos a1]; exact hy) hPy
theorem posts_ev (g : List (List Int)) (hg : Gr g) (hn : g.length ≤ 40) (hr : ∀ r ∈ g, r.length ≤ 4) :
  ∃ T up pl t, TurnedOf 4 g T ∧ Evt (fun k => Go.Proofs.Ytjjedbcgkljdeaa.C.graph_posts.f k g) pl ∧ Wk (T ++ [exitsL g 0]) (g.length : Int) up g.length pl ∧ Evt (fun k => r7_PostTable.f k g) t ∧ TabOf t g.length (PD g T) ∧ Evt (fun k => r7_Immediate.f k t) pl ∧
   (∀ a b : Int, 0 ≤ a → a < (g.length : Int) → 0 ≤ b → b < (g.length : Int) → (PD g T a b ↔ Dom (T ++ [exitsL g 0]) (g.length : Int) a b)) ∧ (∀ b : Int, 0 ≤ b → b < (g.length : Int) → (Rg (T ++ [exitsL g 0]) (g.length : Int) b ↔ Rch T (fun _ => false) (exitsL g 0) b)) := by
 obtain ⟨T, hTe, hT⟩ := turned_ev 4 (by omega) g hg (by omega) (by omega) hr
 have hlT := hT.len; have hX : InR T.length (exitsL g 0) := by rw [hlT]; exact exits_inR g
 have hXl := exits_len g; have hGl : (T ++ [exitsL g 0]).length = g.length + 1 := by simp [hlT]
 have hG : Gr (T ++ [exitsL g 0]) := by
  intro r hr x hx
  rw [hGl]; rcases List.mem_append.1 hr with h | h
  ·have := hT.gr r h x hx; omega
  ·obtain rfl := List.mem_singleton.1 h; have := hX x hx; omega
 have hrows : ∀ r ∈ T ++ [exitsL g 0], r.length ≤ 1000 := by
  intro r hr
  rcases List.mem_append.1 hr with h | h
  ·obtain ⟨i, hi, rfl⟩ := List.mem_iff_getElem.1 h; have := hT.rows (i : Int)
   rw [rd_L1_nat T i hi] at this; omega
  ·obtain rfl := List.mem_singleton.1 h; omega
 obtain ⟨up, hue, hU⟩ := tree_ev 1000 (by omega) (T ++ [exitsL g 0]) (g.length : Int) hG (by omega) (by omega) (by omega) (by omega) hrows
 have hin : InR (T ++ [exitsL g 0]).length [(g.length : Int)] := fun x hx => by obtain rfl := List.mem_singleton.1 hx; omega
 have hrng : ∀ x, Rg (T ++ [exitsL g 0]) (g.length : Int) x → 0 ≤ x ∧ x < (g.length : Int) + 1 := fun x h => by have := h.range hG hin; omega
 have hul := hU.len; have hcl : ((up.set ((g.length : Int)).toNat (-1)).take g.length).length = g.length := by simp [List.length_take]; omega
 have hcut : ∀ x : Int, 0 ≤ x → x < (g.length : Int) → rd ((up.set ((g.length : Int)).toNat (-1)).take g.length) x = rd up x := fun x h0 h1 => by
  unfold rd
  simp only [List.getD_eq_getElem?_getD, List.getElem?_take, List.getElem?_set]
  rw [if_pos (by omega), if_neg (by omega)]
 obtain ⟨pl, p1, p2, p3⟩ := posts_l0 g g.length (by omega) rfl _ hcl g.length 0 _ (by omega) hcl (fun x h0 h1 => by rw [if_neg (fun h => by omega)])
 obtain ⟨t, u, hu, ht, ht2⟩ := ptable_ev g hg hn hr; have hPDeq : ∀ a b, PD g u a b ↔ PD g T a b := fun a b => ⟨fun h => ⟨PD.turned hu hT h.1, fun hc => h.2 (PD.turned hT hu hc)⟩, fun h => ⟨PD.turned hT hu h.1, fun hc => h.2 (PD.turned hu hT hc)⟩⟩
 have ht3 : TabOf t g.length (PD g T) := ⟨ht2.len, ht2.row, fun a b h0 h1 h2 h3 => (ht2.iff a b h0 h1 h2 h3).trans (hPDeq a b)⟩
 have hsn : ∀ P : Int → Bool, P (g.length : Int) = false → ∀ x, Rch (T ++ [exitsL g 0]) P [(g.length : Int)] x ↔ x = (g.length : Int) ∨ Rch T P (exitsL g 0) x := fun P hP x => by
  have := rch_snoc hT.gr hX (P := P) (by rw [hlT]; exact hP) x
  rwa [hlT] at this
 have hRg : ∀ b : Int, 0 ≤ b → b < (g.length : Int) → (Rg (T ++ [exitsL g 0]) (g.length : Int) b ↔ Rch T (fun _ => false) (exitsL g 0) b) := fun b h0 h1 => by
  unfold Rg
  rw [hsn _ rfl]; exact ⟨fun h => h.resolve_left (by omega), .inr⟩
 have hDom : ∀ a b : Int, 0 ≤ a → a < (g.length : Int) → 0 ≤ b → b < (g.length : Int) → (PD g T a b ↔ Dom (T ++ [exitsL g 0]) (g.length : Int) a b) := fun a b ha0 ha1 hb0 hb1 => by
  unfold PD Dom
  rw [hRg b hb0 hb1, hsn (fun n => n == a) (by simp; omega)]
  exact ⟨fun h => ⟨h.1, fun hc => hc.elim (fun e => by omega) h.2⟩, fun h => ⟨h.1, fun hc => h.2 (.inr hc)⟩⟩
 have hw : Wk (T ++ [exitsL g 0]) (g.length : Int) up g.length pl := by
  refine ⟨hU, fun x h => (hrng x h).1, p1, fun b hb0 hb1 hb => ?_, fun b hb0 hb1 hb => ?_⟩
  ·rw [p2 b hb0 hb1, hcut b hb0 hb1]; have hne : b ≠ (g.length : Int) := by omega
   have hu2 := (hU.up_lt b hb hne).1; by_cases e : rd up b = (g.length : Int)
   ·rw [if_pos e]; refine .inr ⟨rfl, fun a ha0 ha1 hc => ?_⟩
    by_cases ea : a = b
    ·exact ea
    ·have h1 := ((hU.ch_step (fun x h => (hrng x h).1) hb ea).1 hc).2
     rw [e] at h1; have := h1.root_eq
     omega
   ·rw [if_neg e]; exact .inl ⟨hne, rfl, by have := hrng _ hu2; omega⟩
  ·rw [p2 b hb0 hb1, hcut b hb0 hb1, hU.no b hb0 (by omega) hb, if_neg (by omega)]
 refine ⟨T, up, pl, t, hT, ?_, hw, ht, ht3, imm_ev t g.length (by omega) ht3.len ht3.row _ hw.len hw.range (fun a b ha0 ha1 hb0 hb1 => hw.imm ht3 hDom a b ha0 ha1 hb0 hb1), hDom, hRg⟩
 unfold Go.Proofs.Ytjjedbcgkljdeaa.C.graph_posts.f
 refine Evt.bind hTe (Evt.bind (exits_ev g (by omega)) (Evt.pos (by omega) (Evt.bind (a := (up.set ((g.length : Int)).toNat (-1)).take g.length) ?_ ?_)))
 ·unfold Go.Proofs.Ytjjedbcgkljdeaa.B.graph_treeCut.f
  refine Evt.bind hue (Evt.pos (by omega) (Evt.pos (by simp; omega) ?_))
  simp only [Int.toNat_natCast]
  exact Evt.const _
 ·rw [hcl]; exact p3
end Go.Proofs.Ytjjedbcgkljdeaa.M
end
section
namespace Go.Proofs.Ytjjedbcgkljdeaa.D
open Go.RowKit Go.Proofs.YtjjedbcgkljdeaaW.PrintWords Go.Proofs.YtjjedbcgkljdeaaW.PrintLast Go.Proofs.YtjjedbcgkljdeaaW.PrintMore Go.Proofs.Ytjjedbcgkljdeaa.A Go.Proofs.Ytjjedbcgkljdeaa.B Go.Proofs.Ytjjedbcgkljdeaa.C
set_option linter.unusedVariables false
set_option linter.unusedSimpArgs false
def rd_L1 (xs : List (List Int)) (i : Int) : (List Int) := xs.getD i.toNat ([] : List Int)
theorem at_L1 {w : World} {A : Option Addr} {n : Nat} {xs : List (List Int)} (h : Kd.C (Kd.slice 3 (Kd.int .i64)) w A n xs) (i : Int) (h0 : 0 ≤ i) (h1 : i < n) : ∃ ad A0 c0, A = some ad ∧ w.cell? (ad.add i.toNat) = some (.slice A0 (rd_L1 xs i).length c0) ∧ (rd_L1 xs i).length ≤ c0 ∧ (Kd.int .i64).C w A0 (rd_L1 xs i).length (rd_L1 xs i) := by
 obtain ⟨ad, c, e, _, hK, hc0⟩ := Kd.C_get h ([] : List Int) i h0 h1; have hc : ∀ j u, c[j]? = some u → w.cell? (ad.add (i.toNat * 1 + j)) = some u := hc0
 obtain ⟨A0, c0, rfl, l0, g0⟩ := hK; exact ⟨ad, A0, c0, e, by have hq := hc 0 _ rfl; rwa [Nat.mul_one, Nat.add_zero] at hq, l0, g0⟩
end Go.Proofs.Ytjjedbcgkljdeaa.D
end
section
namespace Go.Proofs.Ytjjedbcgkljdeaa.D
open Go.RowKit Go.Proofs.YtjjedbcgkljdeaaW.PrintWords Go.Proofs.YtjjedbcgkljdeaaW.PrintLast Go.Proofs.YtjjedbcgkljdeaaW.PrintMore Go.Proofs.Ytjjedbcgkljdeaa.A Go.Proofs.Ytjjedbcgkljdeaa.B Go.Proofs.Ytjjedbcgkljdeaa.C
set_option linter.unusedVariables false
set_option linter.unusedSimpArgs false
def graph_Region.f (k : Nat) (l0 : List (List Int)) (a1 : Int) : Option (List Int × Int) := (graph_valid.f k l0).bind fun t101 => (if t101 = true then ((graph_within.f k l0 (([a1] : List Int))).bind fun t105 => (if t105 = true then ((graph_posts.f k l0).bind fun t106 => (if 0 ≤ a1 then (if a1 < (t106.length : Int) then (if a1 < (l0.length : Int) then ((graph_fromReg.f k l0 (rd_L1 l0 a1) (rd t106 a1)).bind fun t111 => ((graph_list.f k t111).bind fun t114 => (some (t114, 0)))) else (none)) else (none)) else (none))) else (some (([] : List Int), 6)))) else (some (([] : List Int), 1)))
theorem graph_Region.mono : ∀ a0 a1 k, LeO (graph_Region.f k a0 a1) (graph_Region.f (k + 1) a0 a1) := by
 intro a0 a1 k
 unfold graph_Region.f
 repeat' first
   | (with_reducible exact graph_fromReg.mono _ _ _ _)
   | (with_reducible exact graph_list.mono _ _)
   | (with_reducible exact graph_posts.mono _ _)
   | (with_reducible exact graph_valid.mono _ _)
   | (with_reducible exact graph_within.mono _ _ _)
   | (with_reducible exact LeO.refl _)
   | (with_reducible exact LeO.none _)
   | (with_reducible refine LeO.ite ?_ ?_)
   | (with_reducible refine LeO.bind ?_ (fun _ => ?_))
set_option maxHeartbeats 8000000 in
set_option maxRecDepth 100000 in
theorem graph_Region.calls (k : Nat) (A0 : Option Addr) (c0 : Nat) (l0 : List (List Int)) (a1 : Int) (r1 : List Int) (r2 : Int) (w : World) (hr0 : Kd.C (Kd.slice 3 (Kd.int .i64)) w A0 l0.length l0) (hc0 : l0.length ≤ c0) (h : graph_Region.f k l0 a1 = some (r1, r2)) :
  Calls Try.prog 23 #[.slice A0 l0.length c0, .int .i64 a1] w fun e w' => ∃ v0_ : Value, e = .returned (.tuple #[v0_, .int .i64 r2]) ∧ Kd.R (Kd.int .i64) 3 w' w.heap.size (fun _ => True) v0_ r1 ∧ Below w.heap.size w w' := by
 have HR0 := Aside0.mk hr0; have HC0 := Aside0.mk hc0; clear hr0 hc0; have HB := Aside0.mk (Below.refl w.heap.size w); have H : ((graph_valid.f k l0).bind fun t101 => (if t101 = true then ((graph_within.f k l0 (([a1] : List Int))).bind fun t105 => (if t105 = true then ((graph_posts.f k l0).bind fun t106 => (if 0 ≤ a1 then (if a1 < (t106.length : Int) then (if a1 < (l0.length : Int) then ((graph_fromReg.f k l0 (rd_L1 l0 a1) (rd t106 a1)).bind fun t111 => ((graph_list.f k t111).bind fun t114 => (some (t114, 0)))) else (none)) else (none)) else (none))) else (some (([] : List Int), 6)))) else (some (([] : List Int), 1)))) = some (r1, r2) := h
 clear h; replace H := Option.bind_eq_some_iff.mp H; obtain ⟨t101, A30, H⟩ := H; replace H : (if t101 = true then ((graph_within.f k l0 (([a1] : List Int))).bind fun t105 => (if t105 = true then ((graph_posts.f k l0).bind fun t106 => (if 0 ≤ a1 then (if a1 < (t106.length : Int) then (if a1 < (l0.length : Int) then ((graph_fromReg.f k l0 (rd_L1 l0 a1) (rd t106 a1)).bind fun t111 => ((graph_list.f k t111).bind fun t114 => (some (t114, 0)))) else (none)) else (none)) else (none))) else (some (([] : List Int), 6)))) else (some (([] : List Int), 1))) = some (r1, r2) := H
 have A3 := Aside0.mk A30; clear A30; by_cases c4 : t101 = true
 ·subst c4; have H1 : ((graph_within.f k l0 (([a1] : List Int))).bind fun t105 => (if t105 = true then ((graph_posts.f k l0).bind fun t106 => (if 0 ≤ a1 then (if a1 < (t106.length : Int) then (if a1 < (l0.length : Int) then ((graph_fromReg.f k l0 (rd_L1 l0 a1) (rd t106 a1)).bind fun t111 => ((graph_list.f k t111).bind fun t114 => (some (t114, 0)))) else (none)) else (none)) else (none))) else (some (([] : List Int), 6)))) = some (r1, r2) := by rw [if_pos rfl] at H; exact H
  clear H; have H := H1; clear H1; obtain ⟨y102, hy102⟩ : ∃ y_ : List Int, y_ = (([a1] : List Int)) := ⟨_, rfl⟩; replace H : ((graph_within.f k l0 y102).bind fun t105 => (if t105 = true then ((graph_posts.f k l0).bind fun t106 => (if 0 ≤ a1 then (if a1 < (t106.length : Int) then (if a1 < (l0.length : Int) then ((graph_fromReg.f k l0 (rd_L1 l0 a1) (rd t106 a1)).bind fun t111 => ((graph_list.f k t111).bind fun t114 => (some (t114, 0)))) else (none)) else (none)) else (none))) else (some (([] : List Int), 6)))) = some (r1, r2) := by first | (with_reducible first | (rw [hy102]; exact H) | exact H) | (have H2_ := (Option.bind_some _ _).symm.trans H; first | with_reducible exact H2_ | (rw [hy102]; exact H2_)) | (rw [hy102]; exact H) | exact H
  have Ny102 := Aside0.mk hy102; clear hy102; replace H := Option.bind_eq_some_iff.mp H; obtain ⟨t105, A50, H⟩ := H; replace H : (if t105 = true then ((graph_posts.f k l0).bind fun t106 => (if 0 ≤ a1 then (if a1 < (t106.length : Int) then (if a1 < (l0.length : Int) then ((graph_fromReg.f k l0 (rd_L1 l0 a1) (rd t106 a1)).bind fun t111 => ((graph_list.f k t111).bind fun t114 => (some (t114, 0)))) else (none)) else (none)) else (none))) else (some (([] : List Int), 6))) = some (r1, r2) := H
  have A5 := Aside0.mk A50; clear A50; by_cases c6 : t105 = true
  ·subst c6; have H1 : ((graph_posts.f k l0).bind fun t106 => (if 0 ≤ a1 then (if a1 < (t106.length : Int) then (if a1 < (l0.length : Int) then ((graph_fromReg.f k l0 (rd_L1 l0 a1) (rd t106 a1)).bind fun t111 => ((graph_list.f k t111).bind fun t114 => (some (t114, 0)))) else (none)) else (none)) else (none))) = some (r1, r2) := by rw [if_pos rfl] at H; exact H
   clear H; have H := H1; clear H1; replace H := Option.bind_eq_some_iff.mp H; obtain ⟨t106, A70, H⟩ := H; replace H : (if 0 ≤ a1 then (if a1 < (t106.length : Int) then (if a1 < (l0.length : Int) then ((graph_fromReg.f k l0 (rd_L1 l0 a1) (rd t106 a1)).bind fun t111 => ((graph_list.f k t111).bind fun t114 => (some (t114, 0)))) else (none)) else (none)) else (none)) = some (r1, r2) := H
   have A7 := Aside0.mk A70; clear A70; by_cases c8 : 0 ≤ a1
   ·rw [if_pos c8] at H; have c8b0 : decide (0 ≤ a1) = true := decide_eq_true c8
    clear c8; by_cases c9 : a1 < (t106.length : Int)
    ·rw [if_pos c9] at H; have c9b0 : decide (a1 < (t106.length : Int)) = true := decide_eq_true c9
     clear c9; by_cases c10 : a1 < (l0.length : Int)
     ·rw [if_pos c10] at H; have c10b0 : decide (a1 < (l0.length : Int)) = true := decide_eq_true c10
      clear c10; replace H := Option.bind_eq_some_iff.mp H; obtain ⟨t111, A110, H⟩ := H; replace H : ((graph_list.f k t111).bind fun t114 => (some (t114, 0))) = some (r1, r2) := H
      have A11 := Aside0.mk A110; clear A110; replace H := Option.bind_eq_some_iff.mp H; obtain ⟨t114, A120, H⟩ := H; replace H : (some (t114, 0)) = some (r1, r2) := H; have A12 := Aside0.mk A120; clear A120; simp only [Option.some.injEq, Prod.mk.injEq] at H
      obtain ⟨rfl, rfl⟩ := H; go_enter Try.func23, Try.ntmps23
      go_wp2_with (first | ((with_reducible refine gate_store (t := 3) (p := 6) rfl ?_); refine box_op rfl rfl rfl rfl ?_; intro Wb_ hbb_ hbx_; have nb_ := Aside0.mk (below_step (by repeat (first | (with_reducible first | exact HB.out | apply below_alloc | apply pw_below_drewN | apply below_drew1) | exact HB.out)) hbb_); clear HB; have HB := nb_; have HBX_ := Aside0.mk hbx_; have hw110_ := (hbb_.cell (World.block_lt_of_cell? _ _ hx110_0)).trans hx110_0; have t_ := Aside0.mk (Kd.R_below HO104.out hbb_); clear HO104; have HO104 := t_; clear t_; have t_ := Aside0.mk (Kd.R_below HO108.out hbb_); clear HO108; have HO108 := t_; clear t_; clear hbb_ hbx_ nb_) | ((with_reducible refine gate_callee (f := 47) rfl ?_); refine goesL_ (some 8) rfl rfl Try.func47 (by kernel_rfl) rfl #[.slice A0 l0.length c0] rfl (by (try simp only [List.map_toArray, List.map_cons, List.map_nil]); first | done | rfl | (simp only [List.length_drop, List.length_take]; rfl)) ?_; (with_reducible refine (graph_valid.calls k _ _ l0 true _ ?side1 ?side2 A3.out).mono ?_); (case side1 => repeat (first | exact HR0.out | with_reducible first | refine Kd.C_alloc ?_ _ | refine Kd.C_drewN ?_ _ | refine Kd.C_drew ?_)); (case side2 => exact HC0.out); rintro e w' ⟨rfl, ⟨nd, rfl⟩⟩; refine ⟨_, rfl, ?_⟩) | ((with_reducible refine gate_dst (N := 12) rfl ?_); refine Kd.R_lit (Kd.int .i64) _ 3 ?hg (N := 12) ?hd (xs := ([a1] : List Int)) (inner := [.int .i64 a1]) (ok := fun _ => True) (okp := fun _ => True) ?hr ?hp (fun _ hk => hk) trivial (Below.refl _ _) (Nat.le_refl _) (by simp) ?_; (case hd => rfl); (case hg => rfl); (case hr => first | (go_simp; done) | (go_simp; rfl)); (case hp => exact (Reps.one (show Kd.M (Kd.int .i64) _ _ _ a1 [.int .i64 a1] from rfl) (Reps.none _ _))); intro v103 w13 ho14 hb hg_ hnew_; clear hg_ hnew_; (first | rw [← Ny102.out] at ho14 | (simp only [Int.reduceToNat] at ho14; rw [← Ny102.out] at ho14)); have n0_ := Aside0.mk (Kd.R_lower ho14 (below_size (by repeat (first | (with_reducible first | exact HB.out | apply below_alloc | apply pw_below_drewN | apply below_drew1) | exact HB.out)))); have n1_ := Aside0.mk (below_step (by repeat (first | (with_reducible first | exact HB.out | apply below_alloc | apply pw_below_drewN | apply below_drew1) | exact HB.out)) hb); clear HB; have HO104 := n0_; have HB := n1_; clear n0_ n1_; clear hb ho14; obtain ⟨Ao15, co15, eo15⟩ := Kd.R_slice HO104.out; subst eo15) | ((with_reducible refine gate_callee (f := 60) rfl ?_); refine goesL_ (some 13) rfl rfl Try.func60 (by kernel_rfl) rfl #[.slice A0 l0.length c0, .slice Ao15 y102.length co15] rfl (by (try simp only [List.map_toArray, List.map_cons, List.map_nil]); first | done | rfl | (simp only [List.length_drop, List.length_take]; rfl)) ?_; (with_reducible refine (graph_within.calls k _ _ l0 _ _ y102 true _ ?side1 ?side2 ?side3 ?side4 A5.out).mono ?_); (case side1 => repeat (first | exact (Kd.C_below HR0.out HB.out) | with_reducible first | refine Kd.C_alloc ?_ _ | refine Kd.C_drewN ?_ _ | refine Kd.C_drew ?_)); (case side2 => exact HC0.out); (case side3 => repeat (first | exact (Kd.R_reads' HO104.out).2.2 | with_reducible first | refine Kd.C_alloc ?_ _ | refine Kd.C_drewN ?_ _ | refine Kd.C_drew ?_)); (case side4 => exact (Kd.R_reads' HO104.out).2.1); rintro e w' ⟨rfl, ⟨nd, rfl⟩⟩; refine ⟨_, rfl, ?_⟩) | ((with_reducible refine gate_callee (f := 61) rfl ?_); refine goesL_ (some 16) rfl rfl Try.func61 (by kernel_rfl) rfl #[.slice A0 l0.length c0] rfl (by (try simp only [List.map_toArray, List.map_cons, List.map_nil]); first | done | rfl | (simp only [List.length_drop, List.length_take]; rfl)) ?_; (with_reducible refine (graph_posts.calls k _ _ l0 t106 _ ?side1 ?side2 A7.out).mono ?_); (case side1 => repeat (first | exact (Kd.C_below HR0.out (by repeat (first | (with_reducible first | exact HB.out | apply below_alloc | apply pw_below_drewN | apply below_drew1) | exact HB.out))) | with_reducible first | refine Kd.C_alloc ?_ _ | refine Kd.C_drewN ?_ _ | refine Kd.C_drew ?_)); (case side2 => exact HC0.out); rintro e w16 ⟨v107, rfl, ho0, hb⟩; refine ⟨_, rfl, ?_⟩; have n0_ := Aside0.mk (Kd.R_elder' (by (with_reducible repeat (first | apply Kd.R_alloc | apply Kd.R_drewN | apply Kd.R_drew)); exact HO104.out) (Kd.R_base ho0) hb); have n1_ := Aside0.mk (Kd.R_lower (Kd.R_new' ho0 (Kd.R_lt (by (with_reducible repeat (first | apply Kd.R_alloc | apply Kd.R_drewN | apply Kd.R_drew)); exact HO104.out))) (below_size (by repeat (first | (with_reducible first | exact HB.out | apply below_alloc | apply pw_below_drewN | apply below_drew1) | exact HB.out)))); have n2_ := Aside0.mk (below_step (by repeat (first | (with_reducible first | exact HB.out | apply below_alloc | apply pw_below_drewN | apply below_drew1) | exact HB.out)) hb); clear HO104; clear HB; have HO104 := n0_; have HO108 := n1_; have HB := n2_; clear n0_ n1_ n2_; (try clear hb); (try clear hb2); (try clear hk); (try clear hi); (try clear ho0); obtain ⟨Ao17, co17, eo17⟩ := Kd.R_slice HO108.out; subst eo17; have p109 : 0 ≤ (a1 : Int) := of_decide_eq_true (by with_reducible assumption); have q109 : a1 < (t106.length : Int) := of_decide_eq_true (by with_reducible assumption); obtain ⟨ad109, e109, hx109_0⟩ := Kd.at_int (Kd.R_reads' HO108.out).2.2 a1 p109 q109; cases e109; replace p109 := eq_true p109; replace q109 := eq_true q109; have p110 : 0 ≤ (a1 : Int) := of_decide_eq_true (by with_reducible assumption); have q110 : a1 < (l0.length : Int) := of_decide_eq_true (by with_reducible assumption); obtain ⟨ad110, A110_0, c110_0, e110, hx110_0, hl110_0, hi110_0⟩ := at_L1 HR0.out a1 p110 q110; cases e110; replace hx110_0 := (HB.out.cell (World.block_lt_of_cell? w _ hx110_0)).trans hx110_0; have HR110_0 := Aside0.mk hi110_0; have HC110_0 := Aside0.mk hl110_0; clear hi110_0 hl110_0; replace p110 := eq_true p110; replace q110 := eq_true q110) | ((go_at_call 49); (with_reducible refine (graph_fromReg.calls k _ _ l0 _ _ (rd_L1 l0 a1) (rd t106 a1) t111 _ ?side1 ?side2 ?side3 ?side4 A11.out HBX_.out).mono ?_); (case side1 => repeat (first | exact (Kd.C_below HR0.out HB.out) | with_reducible first | refine Kd.C_alloc ?_ _ | refine Kd.C_drewN ?_ _ | refine Kd.C_drew ?_)); (case side2 => exact HC0.out); (case side3 => repeat (first | exact (Kd.C_below HR110_0.out HB.out) | with_reducible first | refine Kd.C_alloc ?_ _ | refine Kd.C_drewN ?_ _ | refine Kd.C_drew ?_)); (case side4 => exact HC110_0.out); rintro e w18 ⟨v112, rfl, ho0, hb⟩; have n0_ := Aside0.mk (Kd.R_below (by (with_reducible repeat (first | apply Kd.R_alloc | apply Kd.R_drewN | apply Kd.R_drew)); exact HO104.out) hb); have n1_ := Aside0.mk (Kd.R_below (by (with_reducible repeat (first | apply Kd.R_alloc | apply Kd.R_drewN | apply Kd.R_drew)); exact HO108.out) hb); have n2_ := Aside0.mk (Kd.R_lower ho0 (below_size (by repeat (first | (with_reducible first | exact HB.out | apply below_alloc | apply pw_below_drewN | apply below_drew1) | exact HB.out)))); have n3_ := Aside0.mk (below_step (by repeat (first | (with_reducible first | exact HB.out | apply below_alloc | apply pw_below_drewN | apply below_drew1) | exact HB.out)) hb); clear HO104; clear HO108; clear HB; have HO104 := n0_; have HO108 := n1_; have HO113 := n2_; have HB := n3_; clear n0_ n1_ n2_ n3_; (try clear hb); (try clear hb2); (try clear hk); (try clear hi); (try clear ho0); obtain ⟨Ao19, co19, eo19⟩ := Kd.R_slice HO113.out; subst eo19) | ((with_reducible refine gate_callee (f := 54) rfl ?_); refine goesL_ (some 27) rfl rfl Try.func54 (by kernel_rfl) rfl #[.slice Ao19 t111.length co19] rfl (by (try simp only [List.map_toArray, List.map_cons, List.map_nil]); first | done | rfl | (simp only [List.length_drop, List.length_take]; rfl)) ?_; (with_reducible refine (graph_list.calls k _ _ t111 t114 _ ?side1 ?side2 A12.out).mono ?_); (case side1 => repeat (first | exact (Kd.R_reads' HO113.out).2.2 | with_reducible first | refine Kd.C_alloc ?_ _ | refine Kd.C_drewN ?_ _ | refine Kd.C_drew ?_)); (case side2 => exact (Kd.R_reads' HO113.out).2.1); rintro e w20 ⟨v115, rfl, ho0, hb⟩; refine ⟨_, rfl, ?_⟩; have n0_ := Aside0.mk (Kd.R_elder' (by (with_reducible repeat (first | apply Kd.R_alloc | apply Kd.R_drewN | apply Kd.R_drew)); exact HO104.out) (Kd.R_base ho0) hb); have n1_ := Aside0.mk (Kd.R_elder' (by (with_reducible repeat (first | apply Kd.R_alloc | apply Kd.R_drewN | apply Kd.R_drew)); exact HO108.out) (Kd.R_base ho0) hb); have n2_ := Aside0.mk (Kd.R_below (by (with_reducible repeat (first | apply Kd.R_alloc | apply Kd.R_drewN | apply Kd.R_drew)); exact HO113.out) hb); have n3_ := Aside0.mk (Kd.R_lower (Kd.R_new' (Kd.R_new' ho0 (Kd.R_lt (by (with_reducible repeat (first | apply Kd.R_alloc | apply Kd.R_drewN | apply Kd.R_drew)); exact HO104.out))) (Kd.R_lt (by (with_reducible repeat (first | apply Kd.R_alloc | apply Kd.R_drewN | apply Kd.R_drew)); exact HO108.out))) (below_size (by repeat (first | (with_reducible first | exact HB.out | apply below_alloc | apply pw_below_drewN | apply below_drew1) | exact HB.out)))); have n4_ := Aside0.mk (below_step (by repeat (first | (with_reducible first | exact HB.out | apply below_alloc | apply pw_below_drewN | apply below_drew1) | exact HB.out)) hb); clear HO104; clear HO108; clear HO113; clear HB; have HO104 := n0_; have HO108 := n1_; have HO113 := n2_; have HO116 := n3_; have HB := n4_; clear n0_ n1_ n2_ n3_ n4_; (try clear hb); (try clear hb2); (try clear hk); (try clear hi); (try clear ho0)))
      go_ret2
      exact ⟨_, by first | rfl | (simp [errW_none, errW_some] <;> rfl) | (simp [*, errW_none, errW_some] <;> rfl), by (with_reducible repeat (first | apply Kd.R_alloc | apply Kd.R_drewN | apply Kd.R_drew)); exact Kd.R_mono HO116.out (fun _ hk => trivial), by repeat (first | (with_reducible first | exact HB.out | apply below_alloc | apply pw_below_drewN | apply below_drew1) | exact HB.out)⟩
     ·rw [if_neg c10] at H; exact absurd H (by simp)
    ·rw [if_neg c9] at H; exact absurd H (by simp)
   ·rw [if_neg c8] at H; exact absurd H (by simp)
  ·replace c6 := Bool.eq_false_iff.mpr c6; subst c6; have H1 : (some (([] : List Int), 6)) = some (r1, r2) := by rw [if_neg (show ¬ (false = true) by decide)] at H; exact H
   clear H; have H := H1; clear H1; simp only [Option.some.injEq, Prod.mk.injEq] at H
   obtain ⟨rfl, rfl⟩ := H; go_enter Try.func23, Try.ntmps23
   go_wp2_with (first | ((with_reducible refine gate_callee (f := 47) rfl ?_); refine goesL_ (some 8) rfl rfl Try.func47 (by kernel_rfl) rfl #[.slice A0 l0.length c0] rfl (by (try simp only [List.map_toArray, List.map_cons, List.map_nil]); first | done | rfl | (simp only [List.length_drop, List.length_take]; rfl)) ?_; (with_reducible refine (graph_valid.calls k _ _ l0 true _ ?side1 ?side2 A3.out).mono ?_); (case side1 => repeat (first | exact HR0.out | with_reducible first | refine Kd.C_alloc ?_ _ | refine Kd.C_drewN ?_ _ | refine Kd.C_drew ?_)); (case side2 => exact HC0.out); rintro e w' ⟨rfl, ⟨nd, rfl⟩⟩; refine ⟨_, rfl, ?_⟩) | ((with_reducible refine gate_dst (N := 12) rfl ?_); refine Kd.R_lit (Kd.int .i64) _ 3 ?hg (N := 12) ?hd (xs := ([a1] : List Int)) (inner := [.int .i64 a1]) (ok := fun _ => True) (okp := fun _ => True) ?hr ?hp (fun _ hk => hk) trivial (Below.refl _ _) (Nat.le_refl _) (by simp) ?_; (case hd => rfl); (case hg => rfl); (case hr => first | (go_simp; done) | (go_simp; rfl)); (case hp => exact (Reps.one (show Kd.M (Kd.int .i64) _ _ _ a1 [.int .i64 a1] from rfl) (Reps.none _ _))); intro v103 w21 ho22 hb hg_ hnew_; clear hg_ hnew_; (first | rw [← Ny102.out] at ho22 | (simp only [Int.reduceToNat] at ho22; rw [← Ny102.out] at ho22)); have n0_ := Aside0.mk (Kd.R_lower ho22 (below_size (by repeat (first | (with_reducible first | exact HB.out | apply below_alloc | apply pw_below_drewN | apply below_drew1) | exact HB.out)))); have n1_ := Aside0.mk (below_step (by repeat (first | (with_reducible first | exact HB.out | apply below_alloc | apply pw_below_drewN | apply below_drew1) | exact HB.out)) hb); clear HB; have HO104 := n0_; have HB := n1_; clear n0_ n1_; clear hb ho22; obtain ⟨Ao23, co23, eo23⟩ := Kd.R_slice HO104.out; subst eo23) | ((with_reducible refine gate_callee (f := 60) rfl ?_); refine goesL_ (some 13) rfl rfl Try.func60 (by kernel_rfl) rfl #[.slice A0 l0.length c0, .slice Ao23 y102.length co23] rfl (by (try simp only [List.map_toArray, List.map_cons, List.map_nil]); first | done | rfl | (simp only [List.length_drop, List.length_take]; rfl)) ?_; (with_reducible refine (graph_within.calls k _ _ l0 _ _ y102 false _ ?side1 ?side2 ?side3 ?side4 A5.out).mono ?_); (case side1 => repeat (first | exact (Kd.C_below HR0.out HB.out) | with_reducible first | refine Kd.C_alloc ?_ _ | refine Kd.C_drewN ?_ _ | refine Kd.C_drew ?_)); (case side2 => exact HC0.out); (case side3 => repeat (first | exact (Kd.R_reads' HO104.out).2.2 | with_reducible first | refine Kd.C_alloc ?_ _ | refine Kd.C_drewN ?_ _ | refine Kd.C_drew ?_)); (case side4 => exact (Kd.R_reads' HO104.out).2.1); rintro e w' ⟨rfl, ⟨nd, rfl⟩⟩; refine ⟨_, rfl, ?_⟩))
   go_ret2
   exact ⟨_, by first | rfl | (simp [errW_none, errW_some] <;> rfl) | (simp [*, errW_none, errW_some] <;> rfl), by first | exact Kd.R_nil _ _ _ _ _ | exact Kd.N_nil _ _ _ _ _ | exact Kd.V_nil _ _ _ _ _ | exact Kd.Q_nil _ _ _ _ _ | exact Kd.S_nil _ _ _ _ _, by repeat (first | (with_reducible first | exact HB.out | apply below_alloc | apply pw_below_drewN | apply below_drew1) | exact HB.out)⟩
 ·replace c4 := Bool.eq_false_iff.mpr c4; subst c4; have H1 : (some (([] : List Int), 1)) = some (r1, r2) := by rw [if_neg (show ¬ (false = true) by decide)] at H; exact H
  clear H; have H := H1; clear H1; simp only [Option.some.injEq, Prod.mk.injEq] at H
  obtain ⟨rfl, rfl⟩ := H; go_enter Try.func23, Try.ntmps23
  go_wp2_with (first | ((with_reducible refine gate_callee (f := 47) rfl ?_); refine goesL_ (some 8) rfl rfl Try.func47 (by kernel_rfl) rfl #[.slice A0 l0.length c0] rfl (by (try simp only [List.map_toArray, List.map_cons, List.map_nil]); first | done | rfl | (simp only [List.length_drop, List.length_take]; rfl)) ?_; (with_reducible refine (graph_valid.calls k _ _ l0 false _ ?side1 ?side2 A3.out).mono ?_); (case side1 => repeat (first | exact HR0.out | with_reducible first | refine Kd.C_alloc ?_ _ | refine Kd.C_drewN ?_ _ | refine Kd.C_drew ?_)); (case side2 => exact HC0.out); rintro e w' ⟨rfl, ⟨nd, rfl⟩⟩; refine ⟨_, rfl, ?_⟩))
  go_ret2
  exact ⟨_, by first | rfl | (simp [errW_none, errW_some] <;> rfl) | (simp [*, errW_none, errW_some] <;> rfl), by first | exact Kd.R_nil _ _ _ _ _ | exact Kd.N_nil _ _ _ _ _ | exact Kd.V_nil _ _ _ _ _ | exact Kd.Q_nil _ _ _ _ _ | exact Kd.S_nil _ _ _ _ _, by repeat (first | (with_reducible first | exact HB.out | apply below_alloc | apply pw_below_drewN | apply below_drew1) | exact HB.out)⟩
end Go.Proofs.Ytjjedbcgkljdeaa.D
end
section
namespace Go.Proofs.Ytjjedbcgkljdeaa.D
open Go Go.RowKit Go.Shelf Go.Proofs.YtjjedbcgkljdeaaW.PrintWords Go.Proofs.YtjjedbcgkljdeaaW.PrintLast Go.Proofs.YtjjedbcgkljdeaaW.PrintMore Go.Proofs.Ytjjedbcgkljdeaa Go.Proofs.Ytjjedbcgkljdeaa.A Go.Proofs.Ytjjedbcgkljdeaa.B Go.Proofs.Ytjjedbcgkljdeaa.C
theorem C_ints {w : World} {A : Option Addr} {xs : List Int} (hm : xs.length ≤ 9223372036854775807) (h : 0 < xs.length → ∃ ad, A = some ad ∧ ∀ j (hj : j < xs.length), w.cell? (ad.add j) = some (.int .i64 xs[j])) : Kd.C (Kd.int .i64) w A xs.length xs := by
 refine ⟨rfl, hm, fun hn => ?_⟩
 obtain ⟨ad, e, hc⟩ := h hn; refine ⟨ad, e, fun j p hj => ⟨[.int .i64 p], rfl, rfl, fun i u hu => ?_⟩⟩
 obtain ⟨hj1, hj2⟩ := List.getElem?_eq_some_iff.1 hj; cases i with
 | zero =>
  simp only [List.getElem?_cons_zero, Option.some.injEq] at hu
  subst hu; rw [show j * (Kd.int .i64).sz + 0 = j by simp [Kd.int, Kd.scalar], hc j hj1, hj2]
 | succ i => simp at hu
theorem C_rows {w : World} {A : Option Addr} {xs : List (List Int)} (hm : xs.length ≤ 9223372036854775807) (h : 0 < xs.length → ∃ ad, A = some ad ∧ ∀ j (hj : j < xs.length), ∃ A1 c1, w.cell? (ad.add j) = some (.slice A1 xs[j].length c1) ∧ xs[j].length ≤ c1 ∧ Kd.C (Kd.int .i64) w A1 xs[j].length xs[j]) : Kd.C (Kd.slice 3 (Kd.int .i64)) w A xs.length xs := by
 refine ⟨rfl, hm, fun hn => ?_⟩
 obtain ⟨ad, e, hc⟩ := h hn; refine ⟨ad, e, fun j p hj => ?_⟩
 obtain ⟨hj1, rfl⟩ := List.getElem?_eq_some_iff.1 hj; obtain ⟨A1, c1, h1, h2, h3⟩ := hc j hj1; refine ⟨[.slice A1 xs[j].length c1], rfl, ⟨A1, c1, rfl, h2, h3⟩, fun i u hu => ?_⟩
 cases i with
 | zero =>
  simp only [List.getElem?_cons_zero, Option.some.injEq] at hu
  subst hu; rw [show j * (Kd.slice 3 (Kd.int .i64)).sz + 0 = j by simp [Kd.slice], h1]
 | succ i => simp at hu
theorem C_litI {w : World} {g : Nat} {xs : List Int} (hm : xs.length ≤ 9223372036854775807) (h : w.heap[g]? = some (.cells (nums .i64 xs).toArray 3 (0, 0))) : Kd.C (Kd.int .i64) w (some ⟨g, 0, none⟩) xs.length xs :=
 C_ints hm fun _ => ⟨_, rfl, fun j hj => by rw [add_plain, blk_cell h j]; simp [nums, hj]⟩
theorem C_litR {w : World} {g : Nat} {xs : List (List Int)} {cs : List Value} (hm : xs.length ≤ 9223372036854775807) (h : w.heap[g]? = some (.cells cs.toArray 33 (0, 0)))
  (hc : ∀ j (hj : j < xs.length), ∃ g1 : Nat, cs[j]? = some (.slice (some ⟨g1, 0, none⟩) xs[j].length xs[j].length) ∧ w.heap[g1]? = some (.cells (nums .i64 xs[j]).toArray 3 (0, 0)) ∧ xs[j].length ≤ 9223372036854775807) : Kd.C (Kd.slice 3 (Kd.int .i64)) w (some ⟨g, 0, none⟩) xs.length xs :=
 C_rows hm fun _ => ⟨_, rfl, fun j hj => by
  obtain ⟨g1, h1, h2, h3⟩ := hc j hj; refine ⟨_, _, ?_, Nat.le_refl _, C_litI h3 h2⟩
  rw [add_plain, blk_cell h j]; simpa using h1⟩
def dD : List (List Int) := [[1, 2], [3], [3], []]
def dL : List (List Int) := [[1], [2, 3], [1], []]
def dR : List (List Int) := [[1, 2], [2], [1]]
def wD (w : World) : World := (((((w.alloc (.cells #[.int .i64 1, .int .i64 2] 3)).alloc (.cells #[.int .i64 3] 3)).alloc (.cells #[.int .i64 3] 3)).alloc (.cells #[] 3)).alloc (.cells #[.slice (some ⟨w.heap.size, 0, none⟩) 2 2, .slice (some ⟨w.heap.size + 1, 0, none⟩) 1 1, .slice (some ⟨w.heap.size + 1 + 1, 0, none⟩) 1 1, .slice (some ⟨w.heap.size + 1 + 1 + 1, 0, none⟩) 0 0] 33))
theorem wD_below (w : World) : Below w.heap.size w (wD w) := below_alloc (below_alloc (below_alloc (below_alloc (below_alloc (Below.refl _ _) _) _) _) _) _
theorem wD_C (w : World) : Kd.C (Kd.slice 3 (Kd.int .i64)) (wD w) (some ⟨w.heap.size + 1 + 1 + 1 + 1, 0, none⟩) dD.length dD :=
 C_litR (cs := [.slice (some ⟨w.heap.size, 0, none⟩) 2 2, .slice (some ⟨w.heap.size + 1, 0, none⟩) 1 1, .slice (some ⟨w.heap.size + 1 + 1, 0, none⟩) 1 1, .slice (some ⟨w.heap.size + 1 + 1 + 1, 0, none⟩) 0 0]) (by decide) (new_at _ (by simp)) (by
  intro j hj
  match j, hj with
  | 0, _ => exact ⟨w.heap.size, rfl, blk_alloc (blk_alloc (blk_alloc (blk_alloc (new_at _ rfl) _) _) _) _, Nat.le_of_ble_eq_true rfl⟩
  | 1, _ => exact ⟨w.heap.size + 1, rfl, blk_alloc (blk_alloc (blk_alloc (new_at _ (by simp)) _) _) _, Nat.le_of_ble_eq_true rfl⟩
  | 2, _ => exact ⟨w.heap.size + 1 + 1, rfl, blk_alloc (blk_alloc (new_at _ (by simp)) _) _, Nat.le_of_ble_eq_true rfl⟩
  | 3, _ => exact ⟨w.heap.size + 1 + 1 + 1, rfl, blk_alloc (new_at _ (by simp)) _, Nat.le_of_ble_eq_true rfl⟩)
def wL (w : World) : World := (((((w.alloc (.cells #[.int .i64 1] 3)).alloc (.cells #[.int .i64 2, .int .i64 3] 3)).alloc (.cells #[.int .i64 1] 3)).alloc (.cells #[] 3)).alloc (.cells #[.slice (some ⟨w.heap.size, 0, none⟩) 1 1, .slice (some ⟨w.heap.size + 1, 0, none⟩) 2 2, .slice (some ⟨w.heap.size + 1 + 1, 0, none⟩) 1 1, .slice (some ⟨w.heap.size + 1 + 1 + 1, 0, none⟩) 0 0] 33))
theorem wL_below (w : World) : Below w.heap.size w (wL w) := below_alloc (below_alloc (below_alloc (below_alloc (below_alloc (Below.refl _ _) _) _) _) _) _
theorem wL_C (w : World) : Kd.C (Kd.slice 3 (Kd.int .i64)) (wL w) (some ⟨w.heap.size + 1 + 1 + 1 + 1, 0, none⟩) dL.length dL :=
 C_litR (cs := [.slice (some ⟨w.heap.size, 0, none⟩) 1 1, .slice (some ⟨w.heap.size + 1, 0, none⟩) 2 2, .slice (some ⟨w.heap.size + 1 + 1, 0, none⟩) 1 1, .slice (some ⟨w.heap.size + 1 + 1 + 1, 0, none⟩) 0 0]) (by decide) (new_at _ (by simp)) (by
  intro j hj
  match j, hj with
  | 0, _ => exact ⟨w.heap.size, rfl, blk_alloc (blk_alloc (blk_alloc (blk_alloc (new_at _ rfl) _) _) _) _, Nat.le_of_ble_eq_true rfl⟩
  | 1, _ => exact ⟨w.heap.size + 1, rfl, blk_alloc (blk_alloc (blk_alloc (new_at _ (by simp)) _) _) _, Nat.le_of_ble_eq_true rfl⟩
  | 2, _ => exact ⟨w.heap.size + 1 + 1, rfl, blk_alloc (blk_alloc (new_at _ (by simp)) _) _, Nat.le_of_ble_eq_true rfl⟩
  | 3, _ => exact ⟨w.heap.size + 1 + 1 + 1, rfl, blk_alloc (new_at _ (by simp)) _, Nat.le_of_ble_eq_true rfl⟩)
def wR (w : World) : World := ((((w.alloc (.cells #[.int .i64 1, .int .i64 2] 3)).alloc (.cells #[.int .i64 2] 3)).alloc (.cells #[.int .i64 1] 3)).alloc (.cells #[.slice (some ⟨w.heap.size, 0, none⟩) 2 2, .slice (some ⟨w.heap.size + 1, 0, none⟩) 1 1, .slice (some ⟨w.heap.size + 1 + 1, 0, none⟩) 1 1] 33))
theorem wR_below (w : World) : Below w.heap.size w (wR w) := below_alloc (below_alloc (below_alloc (below_alloc (Below.refl _ _) _) _) _) _
theorem wR_C (w : World) : Kd.C (Kd.slice 3 (Kd.int .i64)) (wR w) (some ⟨w.heap.size + 1 + 1 + 1, 0, none⟩) dR.length dR :=
 C_litR (cs := [.slice (some ⟨w.heap.size, 0, none⟩) 2 2, .slice (some ⟨w.heap.size + 1, 0, none⟩) 1 1, .slice (some ⟨w.heap.size + 1 + 1, 0, none⟩) 1 1]) (by decide) (new_at _ (by simp)) (by
  intro j hj
  match j, hj with
  | 0, _ => exact ⟨w.heap.size, rfl, blk_alloc (blk_alloc (blk_alloc (new_at _ rfl) _) _) _, Nat.le_of_ble_eq_true rfl⟩
  | 1, _ => exact ⟨w.heap.size + 1, rfl, blk_alloc (blk_alloc (new_at _ (by simp)) _) _, Nat.le_of_ble_eq_true rfl⟩
  | 2, _ => exact ⟨w.heap.size + 1 + 1, rfl, blk_alloc (new_at _ (by simp)) _, Nat.le_of_ble_eq_true rfl⟩)
def same4 (k : Nat) : Option Bool :=
 (r5_SameInts.f k [-1, 0, 0, 0] [-1, 0, 0, 0]).bind fun a => (r5_SameInts.f k [3, 3, 3, -1] [3, 3, 3, -1]).bind fun b => (r5_SameInts.f k [3] [3]).bind fun c => (r5_SameInts.f k [1, 2] [1, 2]).bind fun d =>
  if (a && b && c && d) = true then some true else none
def l7_awake.f (k : Nat) : Option Bool :=
 (graph_Dominators.f k dD).bind fun a => if a = ([-1, 0, 0, 0], 0) then (graph_Postdominators.f k dD).bind fun b => if b = ([3, 3, 3, -1], 0) then
 (graph_Frontier.f k dD).bind fun c => if c = ([[], [3], [3], []], 0) then (graph_Region.f k dD 0).bind fun r => if r = ([1, 2], 0) then
 (graph_Loops.f k dL).bind fun l => if l = ([[], [1, 2], [], []], 0) then (graph_Reducible.f k dR).bind fun d => if d = (false, 0) then same4 k
 else none else none else none else none else none else none
theorem l7_awake.mono : ∀ k, LeO (l7_awake.f k) (l7_awake.f (k + 1)) := fun k => by
 unfold l7_awake.f same4
 refine LeO.bind (graph_Dominators.mono _ k) fun _ => LeO.ite (LeO.bind (graph_Postdominators.mono _ k) fun _ => LeO.ite (LeO.bind (graph_Frontier.mono _ k) fun _ => LeO.ite (LeO.bind (graph_Region.mono _ _ k) fun _ => LeO.ite (LeO.bind (graph_Loops.mono _ k) fun _ => LeO.ite (LeO.bind (graph_Reducible.mono _ k) fun _ => LeO.ite ?_ (LeO.none _)) (LeO.none _)) (LeO.none _)) (LeO.none _)) (LeO.none _)) (LeO.none _)
 exact LeO.bind (r5_SameInts.mono _ _ k) fun _ => LeO.bind (r5_SameInts.mono _ _ k) fun _ => LeO.bind (r5_SameInts.mono _ _ k) fun _ => LeO.bind (r5_SameInts.mono _ _ k) fun _ => LeO.refl _
set_option maxHeartbeats 4000000 in
set_option maxRecDepth 100000 in
theorem l7_awake.calls (k : Nat) (r : Bool) (w : World) (h : l7_awake.f k = some r) :
  Calls Try.prog 14 #[] w fun e w' => e = .returned (.bool r) ∧ Below w.heap.size w w' := by
 unfold l7_awake.f same4 at h
 obtain ⟨v1, hv1, h⟩ := Option.bind_eq_some_iff.mp h; split at h
 case isFalse => cases h
 next e1 =>
 obtain ⟨v2, hv2, h⟩ := Option.bind_eq_some_iff.mp h; split at h
 case isFalse => cases h
 next e2 =>
 obtain ⟨v3, hv3, h⟩ := Option.bind_eq_some_iff.mp h; split at h
 case isFalse => cases h
 next e3 =>
 obtain ⟨v4, hv4, h⟩ := Option.bind_eq_some_iff.mp h; split at h
 case isFalse => cases h
 next e4 =>
 obtain ⟨v5, hv5, h⟩ := Option.bind_eq_some_iff.mp h; split at h
 case isFalse => cases h
 next e5 =>
 obtain ⟨v6, hv6, h⟩ := Option.bind_eq_some_iff.mp h; split at h
 case isFalse => cases h
 next e6 =>
 obtain ⟨s1, hs1, h⟩ := Option.bind_eq_some_iff.mp h; obtain ⟨s2, hs2, h⟩ := Option.bind_eq_some_iff.mp h; obtain ⟨s3, hs3, h⟩ := Option.bind_eq_some_iff.mp h; obtain ⟨s4, hs4, h⟩ := Option.bind_eq_some_iff.mp h; split at h
 case isFalse => cases h
 next e7 =>
 obtain rfl := Option.some.inj h; subst e1 e2 e3 e4 e5 e6; simp only [Bool.and_eq_true] at e7
 obtain ⟨⟨⟨rfl, rfl⟩, rfl⟩, rfl⟩ := e7; have H1 := Aside0.mk hv1; have H2 := Aside0.mk hv2; have H3 := Aside0.mk hv3; have H4 := Aside0.mk hv4; have H5 := Aside0.mk hv5; have H6 := Aside0.mk hv6; have S1 := Aside0.mk hs1; have S2 := Aside0.mk hs2; have S3 := Aside0.mk hs3; have S4 := Aside0.mk hs4; clear hv1 hv2 hv3 hv4 hv5 hv6 hs1 hs2 hs3 hs4 h; go_enter Try.func14, Try.ntmps14
 go_wp2_with fail
 have HB1 := Aside0.mk (wD_below w); have HC := Aside0.mk (wD_C w); refine (graph_Dominators.calls k _ 4 dD _ _ (wD w) HC.out (by decide) H1.out).mono ?_
 rintro e W2 ⟨vA, rfl, hrA, hbA⟩
 obtain ⟨AA, cA, rfl⟩ := Kd.R_slice hrA; have HA := Aside0.mk hrA; have HC2 := Aside0.mk (Kd.C_below HC.out hbA); have HB2 : Aside0 (Below w.heap.size w W2) := ⟨HB1.out.trans (hbA.mono HB1.out.size)⟩
 clear hrA hbA HC HB1; go_wp2_with fail
 refine (graph_Postdominators.calls k _ 4 dD _ _ _ HC2.out (by decide) H2.out).mono ?_
 rintro e W3 ⟨vP, rfl, hrP, hbP⟩
 obtain ⟨AP, cP, rfl⟩ := Kd.R_slice hrP; have HP := Aside0.mk hrP; have HA3 := Aside0.mk (Kd.R_below HA.out hbP); have HC3 := Aside0.mk (Kd.C_below HC2.out hbP); have HB3 : Aside0 (Below w.heap.size w W3) := ⟨HB2.out.trans (hbP.mono HB2.out.size)⟩
 clear hrP hbP HC2 HB2 HA; go_wp2_with fail
 refine (graph_Frontier.calls k _ 4 dD _ _ _ HC3.out (by decide) H3.out).mono ?_
 rintro e W4 ⟨vF, rfl, hrF, hbF⟩
 obtain ⟨AF, cF, rfl⟩ := Kd.R_slice (Kd.S_R hrF); have HF := Aside0.mk (Kd.S_R hrF); have HA4 := Aside0.mk (Kd.R_below HA3.out hbF); have HP4 := Aside0.mk (Kd.R_below HP.out hbF); have HC4 := Aside0.mk (Kd.C_below HC3.out hbF); have HB4 : Aside0 (Below w.heap.size w W4) := ⟨HB3.out.trans (hbF.mono HB3.out.size)⟩
 clear hrF hbF HC3 HB3 HA3 HP; go_wp2_with fail
 refine (graph_Region.calls k _ 4 dD 0 _ _ _ HC4.out (by decide) H4.out).mono ?_
 rintro e W5 ⟨vR, rfl, hrR, hbR⟩
 obtain ⟨AR, cR, rfl⟩ := Kd.R_slice hrR; have HR := Aside0.mk hrR; have HA5 := Aside0.mk (Kd.R_below HA4.out hbR); have HP5 := Aside0.mk (Kd.R_below HP4.out hbR); have HF5 := Aside0.mk (Kd.R_below HF.out hbR); have HB5 : Aside0 (Below w.heap.size w W5) := ⟨HB4.out.trans (hbR.mono HB4.out.size)⟩
 clear hrR hbR HC4 HB4 HA4 HP4 HF; go_wp2_with fail
 have HB6 : Aside0 (Below w.heap.size w (wL W5)) := ⟨HB5.out.trans ((wL_below W5).mono HB5.out.size)⟩
 refine (graph_Loops.calls k _ 4 dL _ _ (wL W5) (wL_C W5) (by decide) H5.out).mono ?_
 rintro e W6 ⟨vL, rfl, hrL, hbL⟩
 obtain ⟨AL, cL, rfl⟩ := Kd.R_slice (Kd.S_R hrL); have HL := Aside0.mk (Kd.S_R hrL); have hb56 : Below W5.heap.size W5 W6 := (wL_below W5).trans (hbL.mono (wL_below W5).size)
 have HA6 := Aside0.mk (Kd.R_below HA5.out hb56); have HP6 := Aside0.mk (Kd.R_below HP5.out hb56); have HF6 := Aside0.mk (Kd.R_below HF5.out hb56); have HR6 := Aside0.mk (Kd.R_below HR.out hb56); have HB7 : Aside0 (Below w.heap.size w W6) := ⟨HB6.out.trans (hbL.mono HB6.out.size)⟩
 clear hrL hbL HB5 HB6 HA5 HP5 HF5 HR hb56; go_wp2_with fail
 have HB8 : Aside0 (Below w.heap.size w (wR W6)) := ⟨HB7.out.trans ((wR_below W6).mono HB7.out.size)⟩
 refine (graph_Reducible.calls k _ 3 dR _ _ (wR W6) (wR_C W6) (by decide) H6.out).mono ?_
 rintro e W7 ⟨rfl, hbR⟩
 have hb67 : Below W6.heap.size W6 W7 := (wR_below W6).trans (hbR.mono (wR_below W6).size)
 have HA7 := Aside0.mk (Kd.R_below HA6.out hb67); have HP7 := Aside0.mk (Kd.R_below HP6.out hb67); have HF7 := Aside0.mk (Kd.R_below HF6.out hb67); have HR7 := Aside0.mk (Kd.R_below HR6.out hb67); have HL7 := Aside0.mk (Kd.R_below HL.out hb67); have HB9 : Aside0 (Below w.heap.size w W7) := ⟨HB8.out.trans (hbR.mono HB8.out.size)⟩
 clear hbR HB7 HB8 HA6 HP6 HF6 HR6 HL hb67; obtain ⟨gF, cF', eF', _⟩ := Kd.R_form HF7.out (by decide)
 cases eF'
 obtain ⟨gL, cL', eL', _⟩ := Kd.R_form HL7.out (by decide)
 cases eL'
 obtain ⟨adF, AF1, cF1, eF, hF1, hFc, hFr⟩ := at_L1 (Kd.R_reads' HF7.out).2.2 1 (by decide) (by decide)
 cases eF; obtain ⟨adL, AL1, cL1, eL, hL1, hLc, hLr⟩ := at_L1 (Kd.R_reads' HL7.out).2.2 1 (by decide) (by decide)
 cases eL; have HFC := Aside0.mk hFc; have HFR := Aside0.mk hFr; have HLC := Aside0.mk hLc; have HLR := Aside0.mk hLr; clear hFc hFr hLc hLr; have hF1' : W7.cell? ⟨gF, 1, none⟩ = some (.slice AF1 1 cF1) := hF1
 have hL1' : W7.cell? ⟨gL, 1, none⟩ = some (.slice AL1 2 cL1) := hL1
 clear hF1 hL1; go_wp2_with fail
 refine (r5_SameInts.calls k _ _ [-1, 0, 0, 0] _ 4 [-1, 0, 0, 0] true _ (Kd.C_alloc (Kd.R_reads' HA7.out).2.2 _) (Kd.R_reads' HA7.out).2.1 (C_litI (by decide) (new_at _ rfl)) (by decide) S1.out).mono ?_
 rintro e W8 ⟨rfl, ⟨n8, rfl⟩⟩
 obtain ⟨W8, hW8⟩ : ∃ W : World, W = (W7.alloc (.cells (nums .i64 [-1, 0, 0, 0]).toArray 3)).drewN n8 := ⟨_, rfl⟩; rw [← hW8]; have HX8 : Aside0 (Below W7.heap.size W7 W8) := ⟨by rw [hW8]; exact pw_below_drewN (below_alloc (Below.refl _ _) _) _⟩
 clear hW8; go_wp2_with fail
 have hP8 := Kd.R_reads' (Kd.R_below HP7.out HX8.out); refine (r5_SameInts.calls k _ _ [3, 3, 3, -1] _ 4 [3, 3, 3, -1] true _ (Kd.C_alloc hP8.2.2 _) hP8.2.1 (C_litI (by decide) (new_at _ rfl)) (by decide) S2.out).mono ?_
 clear hP8; rintro e W9 ⟨rfl, ⟨n9, rfl⟩⟩
 obtain ⟨W9, hW9⟩ : ∃ W : World, W = (W8.alloc (.cells (nums .i64 [3, 3, 3, -1]).toArray 3)).drewN n9 := ⟨_, rfl⟩; rw [← hW9]; have HX9 : Aside0 (Below W7.heap.size W7 W9) := ⟨by rw [hW9]; exact pw_below_drewN (below_alloc HX8.out _) _⟩
 clear hW9; have hF2 := (HX9.out.cell (World.block_lt_of_cell? _ _ hF1')).trans hF1'; go_wp2_with fail
 clear hF2; refine (r5_SameInts.calls k _ _ [3] _ 1 [3] true _ (Kd.C_alloc (Kd.C_below HFR.out HX9.out) _) HFC.out (C_litI (by decide) (new_at _ rfl)) (by decide) S3.out).mono ?_
 rintro e W10 ⟨rfl, ⟨n10, rfl⟩⟩
 obtain ⟨W10, hW10⟩ : ∃ W : World, W = (W9.alloc (.cells (nums .i64 [3]).toArray 3)).drewN n10 := ⟨_, rfl⟩; rw [← hW10]; have HX10 : Aside0 (Below W7.heap.size W7 W10) := ⟨by rw [hW10]; exact pw_below_drewN (below_alloc HX9.out _) _⟩
 clear hW10; go_wp2_with fail
 have hR8 := Kd.R_reads' (Kd.R_below HR7.out HX10.out); refine (r5_SameInts.calls k _ _ [1, 2] _ 2 [1, 2] true _ (Kd.C_alloc hR8.2.2 _) hR8.2.1 (C_litI (by decide) (new_at _ rfl)) (by decide) S4.out).mono ?_
 clear hR8; rintro e W11 ⟨rfl, ⟨n11, rfl⟩⟩
 obtain ⟨W11, hW11⟩ : ∃ W : World, W = (W10.alloc (.cells (nums .i64 [1, 2]).toArray 3)).drewN n11 := ⟨_, rfl⟩; rw [← hW11]; have HX11 : Aside0 (Below W7.heap.size W7 W11) := ⟨by rw [hW11]; exact pw_below_drewN (below_alloc HX10.out _) _⟩
 clear hW11; have hL2 := (HX11.out.cell (World.block_lt_of_cell? _ _ hL1')).trans hL1'; go_wp2_with fail
 clear hL2; refine (r5_SameInts.calls k _ _ [1, 2] _ 2 [1, 2] true _ (Kd.C_alloc (Kd.C_below HLR.out HX11.out) _) HLC.out (C_litI (by decide) (new_at _ rfl)) (by decide) S4.out).mono ?_
 rintro e W12 ⟨rfl, ⟨n12, rfl⟩⟩
 obtain ⟨W12, hW12⟩ : ∃ W : World, W = (W11.alloc (.cells (nums .i64 [1, 2]).toArray 3)).drewN n12 := ⟨_, rfl⟩; rw [← hW12]; have HX12 : Aside0 (Below W7.heap.size W7 W12) := ⟨by rw [hW12]; exact pw_below_drewN (below_alloc HX11.out _) _⟩
 clear hW12; go_wp2
 go_ret
 exact ⟨by simp, HB9.out.trans (HX12.out.mono HB9.out.size)⟩
end Go.Proofs.Ytjjedbcgkljdeaa.D
end
section
namespace Go.Proofs.Ytjjedbcgkljdeaa.D
open Go Go.RowKit Go.Shelf Go.Proofs.YtjjedbcgkljdeaaW.PrintWords Go.Proofs.YtjjedbcgkljdeaaW.PrintLast Go.Proofs.YtjjedbcgkljdeaaW.PrintMore Go.Proofs.Ytjjedbcgkljdeaa Go.Proofs.Ytjjedbcgkljdeaa.A
structure IsRows (w : World) (a : Option Addr) (len cap : Nat) (xs : List (List Int)) : Prop where
 len : len = xs.length
 cap : xs.length ≤ cap
 max : xs.length ≤ maxLen
 reads : Kd.C (Kd.slice 3 (Kd.int .i64)) w a xs.length xs
theorem isRows_nil (w : World) : IsRows w none 0 0 [] := ⟨rfl, Nat.le_refl _, Nat.zero_le _, rfl, Nat.zero_le _, fun h => absurd h (by simp)⟩
theorem isRows_of {w : World} {a : Addr} {len cap : Nat} {A : Nat → Option Addr} {L C : Nat → Nat} {Z : Nat → List Int} (hl : len ≤ cap) (hm : cap ≤ maxLen)
  (h : ∀ r, r < cap → w.cell? (a.add r) = some (.slice (A r) (L r) (C r)) ∧ L r ≤ C r ∧ C r ≤ maxLen ∧ (Z r).length = C r ∧ (∀ n ∈ Z r, (Lit.int .i64 n).wf = true) ∧ (A r = none → C r = 0) ∧
    ∀ a', A r = some a' → (0 : Nat) ≤ a'.block ∧ ∀ c, c < C r → w.cell? (a'.add c) = some (.int .i64 ((Z r).getD c 0))) : IsRows w (some a) len cap ((List.range len).map fun r => (Z r).take (L r)) := by
 have hlen : ((List.range len).map fun r => (Z r).take (L r)).length = len := by simp
 have hM : maxLen ≤ 9223372036854775807 := by unfold maxLen; omega
 refine ⟨hlen.symm, by omega, by omega, C_rows (by omega) fun _ => ⟨a, rfl, fun j hj => ?_⟩⟩
 rw [hlen] at hj; obtain ⟨h1, h2, h3, h4, h5, h6, h7⟩ := h j (by omega)
 have e : ((List.range len).map fun r => (Z r).take (L r))[j]'(by rw [hlen]; exact hj) = (Z j).take (L j) := by simp
 have e2 : ((Z j).take (L j)).length = L j := by rw [List.length_take]; omega
 rw [e]; refine ⟨A j, C j, by rw [e2]; exact h1, by omega, C_ints (by omega) fun hp => ?_⟩
 cases hA : A j with
 | none => have := h6 hA; omega
 | some a' =>
  refine ⟨a', rfl, fun i hi => ?_⟩
  have h8 := (h7 a' hA).2 i (by omega)
  rw [h8, List.getElem_take, List.getD_eq_getElem?_getD, List.getElem?_eq_getElem (by omega)]
  rfl
end Go.Proofs.Ytjjedbcgkljdeaa.D
end
section
namespace Go.Proofs.Ytjjedbcgkljdeaa.D
open Go Go.RowKit Go.Shelf Go.Proofs.YtjjedbcgkljdeaaW.PrintWords Go.Proofs.YtjjedbcgkljdeaaW.PrintLast Go.Proofs.YtjjedbcgkljdeaaW.PrintMore Go.Proofs.Ytjjedbcgkljdeaa Go.Proofs.Ytjjedbcgkljdeaa.A
structure IsBytes (w : World) (a : Option Addr) (len cap : Nat) (xs : List Int) : Prop where
 len : len = xs.length
 cap : xs.length ≤ cap
 reads : Kd.C (Kd.int .u8) w a xs.length xs
 rng : ∀ x ∈ xs, 0 ≤ x ∧ x ≤ 255
theorem isBytes_nil (w : World) : IsBytes w none 0 0 [] := ⟨rfl, Nat.le_refl _, ⟨rfl, Nat.zero_le _, fun h => absurd h (by simp)⟩, fun _ h => by cases h⟩
theorem isBytes_of {w : World} {a : Addr} {len cap : Nat} {zs : List Int} (hl : len ≤ cap) (hm : cap ≤ maxLen) (hz : zs.length = cap) (hcell : ∀ i, i < zs.length → w.cell? (a.add i) = some (.int .u8 (zs.getD i 0))) (hwf : ∀ n ∈ zs, (Lit.int .u8 n).wf = true) :
  IsBytes w (some a) len cap (zs.take len) := by
 have hM : maxLen ≤ 9223372036854775807 := by unfold maxLen; omega
 have hlen : (zs.take len).length = len := by rw [List.length_take]; omega
 refine ⟨hlen.symm, by omega, ⟨rfl, by omega, fun _ => ⟨a, rfl, fun j p hj => ⟨[.int .u8 p], rfl, rfl, fun i u hu => ?_⟩⟩⟩, fun x hx => ?_⟩
 ·obtain ⟨hj1, hj2⟩ := List.getElem?_eq_some_iff.1 hj; rw [List.getElem_take] at hj2; cases i with
  | zero =>
   simp only [List.getElem?_cons_zero, Option.some.injEq] at hu
   subst hu; rw [show j * (Kd.int .u8).sz + 0 = j by simp [Kd.int, Kd.scalar], hcell j (by omega), ← hj2, List.getD_eq_getElem?_getD, List.getElem?_eq_getElem (by omega)]
   rfl
  | succ i => simp at hu
 ·have := hwf x (List.mem_of_mem_take hx)
  simp only [Lit.wf, Bool.and_eq_true, decide_eq_true_eq] at this
  have e0 : IntKind.u8.min = 0 := by decide
  have e1 : IntKind.u8.max = 255 := by decide
  omega
end Go.Proofs.Ytjjedbcgkljdeaa.D
end
section
namespace Go.Proofs.Ytjjedbcgkljdeaa.M
open Go.RowKit Go.Proofs.YtjjedbcgkljdeaaW.PrintWords Go.Proofs.YtjjedbcgkljdeaaW.PrintLast Go.Proofs.YtjjedbcgkljdeaaW.PrintMore Go.Proofs.Ytjjedbcgkljdeaa.A
def usableB (g : List (List Int)) : Bool := !wideB g && validB g
theorem usableB_true {g : List (List Int)} (h : usableB g = true) : validB g = true ∧ 1 ≤ g.length ∧ Gr g ∧ g.length ≤ 40 ∧ ∀ r ∈ g, r.length ≤ 4 := by
 unfold usableB at h
 simp only [Bool.and_eq_true, Bool.not_eq_true'] at h
 obtain ⟨h1, h2, _⟩ := validB_true h.2; obtain ⟨h3, h4⟩ := wideB_false h.1; exact ⟨h.2, h1, h2, h3, h4⟩
theorem usable_ev (g : List (List Int)) : Evt (fun k => l7_usable.f k g) (usableB g) := by
 unfold l7_usable.f usableB
 refine Evt.bind (wide_ev g) ?_
 by_cases hw : wideB g = true
 ·rw [hw]; exact Evt.pos rfl (Evt.const false)
 ·obtain ⟨hn, hr⟩ := wideB_false (Bool.eq_false_iff.2 hw); rw [Bool.eq_false_iff.2 hw]; refine Evt.neg (by simp) (Evt.bind (rvalid_ev g (by omega) (fun r h => Nat.le_trans (hr r h) (by omega))) ?_)
  simpa using Evt.const _
end Go.Proofs.Ytjjedbcgkljdeaa.M
end
section
namespace Go.Proofs.Ytjjedbcgkljdeaa.M
open Go.RowKit Go.Proofs.YtjjedbcgkljdeaaW.PrintWords Go.Proofs.YtjjedbcgkljdeaaW.PrintLast Go.Proofs.YtjjedbcgkljdeaaW.PrintMore Go.Proofs.Ytjjedbcgkljdeaa.A
noncomputable def rowTo (C : Int → Prop) (i : Nat) : List Int := (List.range i).filterMap fun (b : Nat) => @ite _ (C (b : Int)) (Classical.propDecidable _) (some (b : Int)) none
theorem rowTo_succ (C : Int → Prop) (i : Nat) : rowTo C (i + 1) = rowTo C i ++ (@ite _ (C (i : Int)) (Classical.propDecidable _) [(i : Int)] []) := by
 unfold rowTo
 rw [List.range_succ, List.filterMap_append]; congr 1
 simp only [List.filterMap_cons, List.filterMap_nil]
 split
 next h => split at h <;> simp_all
 next h => split at h <;> simp_all
theorem rowTo_mem (C : Int → Prop) (i : Nat) (x : Int) : x ∈ rowTo C i ↔ 0 ≤ x ∧ x < (i : Int) ∧ C x := by
 unfold rowTo
 rw [List.mem_filterMap]; constructor
 ·rintro ⟨b, hb, h⟩
  have := List.mem_range.1 hb
  split at h
  next hC => obtain rfl := Option.some.inj h; exact ⟨by omega, by omega, hC⟩
  next => cases h
 ·rintro ⟨h0, h1, h2⟩
  obtain ⟨b, rfl⟩ := Int.eq_ofNat_of_zero_le h0; exact ⟨b, List.mem_range.2 (by omega), by rw [if_pos h2]⟩
theorem rowTo_len (C : Int → Prop) (i : Nat) : (rowTo C i).length ≤ i := by
 unfold rowTo
 refine Nat.le_trans (List.length_filterMap_le _ _) ?_
 simp
theorem fm_congr {l : List Nat} {f g : Nat → Option Int} (h : ∀ x ∈ l, f x = g x) : l.filterMap f = l.filterMap g := by
 induction l with
 | nil => rfl
 | cons a l ih =>
  rw [List.filterMap_cons, List.filterMap_cons, h a (by simp), ih (fun x hx => h x (by simp [hx]))]
theorem rising_row (s : List Bool) (C : Int → Prop) (n : Nat) (hs : s.length = n) (h : ∀ b : Int, 0 ≤ b → b < (n : Int) → (rdOf false s b = true ↔ C b)) : risingL s 0 = rowTo C n := by
 unfold risingL rowTo
 rw [hs, List.drop_zero]; refine fm_congr fun b hb => ?_
 have hb2 := List.mem_range.1 hb; have := h (b : Int) (by omega) (by omega)
 by_cases hC : C (b : Int)
 ·rw [if_pos hC, if_pos (this.2 hC)]
 ·rw [if_neg hC, if_neg (fun e => hC (this.1 e))]
noncomputable def rowsOf (F : Int → Int → Prop) (n : Nat) : List (List Int) := (List.range n).map fun (a : Nat) => rowTo (F (a : Int)) n
theorem rowsOf_len (F : Int → Int → Prop) (n : Nat) : (rowsOf F n).length = n := by simp [rowsOf]
theorem rowsOf_eq {F : Int → Int → Prop} {n : Nat} {l : List (List Int)} (hl : l.length = n) (h : ∀ a : Nat, a < n → rd_L1 l (a : Int) = rowTo (F (a : Int)) n) : l = rowsOf F n := by
 apply List.ext_getElem (by rw [hl, rowsOf_len])
 intro i h1 h2
 have := h i (by omega)
 rw [rd_L1_nat l i h1] at this; rw [this]; simp [rowsOf]
def FCe (g : List (List Int)) (a p b : Int) : Prop := Rg g 0 p ∧ TD g a p ∧ (¬ TD g a b ∨ a = b)
def FC (g : List (List Int)) (a b : Int) : Prop := ∃ p : Int, 0 ≤ p ∧ p < (g.length : Int) ∧ b ∈ rd_L1 g p ∧ FCe g a p b
structure FM (g out : List (List Int)) (b : Nat) (M : Int → Prop) : Prop where
 len : out.length = g.length
 row : ∀ a : Int, 0 ≤ a → a < (g.length : Int) → rd_L1 out a = rowTo (FC g a) b ++ (@ite _ (M a) (Classical.propDecidable _) [(b : Int)] [])
theorem FM.congr {g out : List (List Int)} {b : Nat} {M M' : Int → Prop} (h : FM g out b M) (hM : ∀ a : Int, 0 ≤ a → a < (g.length : Int) → (M a ↔ M' a)) : FM g out b M' := by
 refine ⟨h.len, fun a h0 h1 => ?_⟩
 rw [h.row a h0 h1]; by_cases hm : M a
 ·rw [if_pos hm, if_pos ((hM a h0 h1).1 hm)]
 ·rw [if_neg hm, if_neg (fun e => hm ((hM a h0 h1).2 e))]
theorem FM.len_row {g out : List (List Int)} {b : Nat} {M : Int → Prop} (h : FM g out b M) (a : Int) (h0 : 0 ≤ a) (h1 : a < (g.length : Int)) : (rd_L1 out a).length ≤ b + 1 := by
 rw [h.row a h0 h1, List.length_append]; have := rowTo_len (FC g a) b
 split <;> simp <;> omega
theorem FM.mark {g out : List (List Int)} {b : Nat} {M : Int → Prop} (h : FM g out b M) (a : Int) (h0 : 0 ≤ a) (h1 : a < (g.length : Int)) (_hb : b ≤ 1000) : FM g (Go.Proofs.Ytjjedbcgkljdeaa.D.frMark out a (b : Int)) b (fun x => M x ∨ x = a) := by
 have hrow := h.row a h0 h1; have hl := h.len; have put : FM g (out.set a.toNat (rowTo (FC g a) b ++ [(b : Int)])) b (fun x => M x ∨ x = a) := by
  refine ⟨by rw [List.length_set, hl], fun x hx0 hx1 => ?_⟩
  rw [rd_L1_set out a x _ h0 (by omega) hx0]
  by_cases e : x = a
  ·rw [if_pos e, if_pos (.inr e), e]
  ·rw [if_neg e, h.row x hx0 hx1]; by_cases hm : M x
   ·rw [if_pos hm, if_pos (.inl hm)]
   ·rw [if_neg hm, if_neg (fun hh => hh.elim hm e)]
 unfold Go.Proofs.Ytjjedbcgkljdeaa.D.frMark
 by_cases hm : M a
 ·have hrow2 : rd_L1 out a = rowTo (FC g a) b ++ [(b : Int)] := by rw [hrow, if_pos hm]
  rw [if_neg (by rw [hrow2]; simp), if_pos (by
   rw [hrow2, show (((rowTo (FC g a) b ++ [(b : Int)]).length : Int) - 1) = ((rowTo (FC g a) b).length : Int) by simp]
   unfold rd
   rw [List.getD_eq_getElem?_getD]; simp)]
  exact h.congr fun x hx0 hx1 => ⟨.inl, fun hh => hh.elim id (fun e => e ▸ hm)⟩
 ·have hrow2 : rd_L1 out a = rowTo (FC g a) b := by rw [hrow, if_neg hm, List.append_nil]
  by_cases hz : (rd_L1 out a).length = 0
  ·rw [if_pos hz, hrow2]; exact put
  ·rw [if_neg hz, if_neg (fun hlast => ?_), hrow2]
   ·exact put
   ·have hlt : (rd_L1 out a).length - 1 < (rd_L1 out a).length := by omega
    rw [show (((rd_L1 out a).length : Int) - 1) = (((rd_L1 out a).length - 1 : Nat) : Int) by omega, rd_nat _ _ hlt] at hlast
    have hmem := List.getElem_mem hlt; rw [hlast, hrow2, rowTo_mem] at hmem; omega
section
variable {g : List (List Int)} {up dl : List Int} {f : Int → Nat}
theorem frIn_stop (hw : Wk g 0 up g.length dl) (hf : ∀ n, Rg g 0 n → n ≠ 0 → f (rd up n) < f n) (hrng : ∀ x, Rg g 0 x → 0 ≤ x ∧ x < (g.length : Int)) (hn : g.length ≤ 40) (b : Nat) (hb : b < g.length) (s : Int) (hs : rd dl (b : Int) = s) (hsR : Rg g 0 s) (hd0 : ∀ x, Rg g 0 x → x ≠ 0 → rd dl x = rd up x) :
  ∀ (N : Nat) (a : Int) (out : List (List Int)) (M : Int → Prop), f a ≤ N → Rg g 0 a → Ch (uf up) 0 a s → FM g out b M →
   ∃ out', FM g out' b (fun x => M x ∨ (Ch (uf up) 0 a x ∧ ¬ Ch (uf up) 0 s x)) ∧ Evt (fun k => Go.Proofs.Ytjjedbcgkljdeaa.D.frIn dl (b : Int) k out a) out'
 | N, a, out, M, hN, ha, hc, h => by
  obtain ⟨ha0, ha1⟩ := hrng a ha; have hl := hw.len; have hol := h.len; have hrl := h.len_row a ha0 ha1; by_cases e : a = s
  ·refine ⟨out, h.congr fun x _ _ => ⟨.inl, fun hh => hh.elim id (fun h2 => absurd (e ▸ h2.1) h2.2)⟩, Evt.succ ?_⟩
   simp only [Go.Proofs.Ytjjedbcgkljdeaa.D.frIn]
   exact Evt.pos ha0 (Evt.pos (by omega) (Evt.pos (by omega) (Evt.pos (by rw [hs]; exact e) (Evt.const out))))
  ·have hne : a ≠ 0 := by
    rintro rfl
    exact e hc.root_eq.symm
   obtain ⟨huR, hua⟩ := hw.tree.up_lt a ha hne; have hcu := ((hw.tree.ch_step hw.rng ha (Ne.symm e)).1 hc).2; have hlt := hf a ha hne; obtain ⟨out', o1, o2⟩ := frIn_stop hw hf hrng hn b hb s hs hsR hd0 (N - 1) (rd up a) _ _ (by omega) huR hcu (h.mark a ha0 ha1 (by omega))
   refine ⟨out', o1.congr fun x hx0 hx1 => ?_, Evt.succ ?_⟩
   ·have hnsa : ¬ Ch (uf up) 0 s a := fun hh => e (hw.tree.anti hw.rng ha hc hh).symm
    constructor
    ·rintro ((h2 | h2) | ⟨h2, h3⟩)
     ·exact .inl h2
     ·exact .inr ⟨by rw [h2]; exact Ch.refl _, by rw [h2]; exact hnsa⟩
     ·refine .inr ⟨?_, h3⟩
      refine Ch.up hne ?_
      rw [uf_pos ha0]; exact h2
    ·rintro (h2 | ⟨h2, h3⟩)
     ·exact .inl (.inl h2)
     ·by_cases ex : x = a
      ·exact .inl (.inr ex)
      ·exact .inr ⟨((hw.tree.ch_step hw.rng ha ex).1 h2).2, h3⟩
   ·simp only [Go.Proofs.Ytjjedbcgkljdeaa.D.frIn]
    refine Evt.pos ha0 (Evt.pos (by omega) (Evt.pos (by omega) (Evt.neg (by rw [hs]; exact e) (Evt.pos (by omega) (Evt.pos (show (rd_L1 out a).length < 17592186044416 by omega) (Evt.pos (by omega) ?_))))))
    rw [hd0 a ha hne]; exact o2
theorem frIn_root (hw : Wk g 0 up g.length dl) (hf : ∀ n, Rg g 0 n → n ≠ 0 → f (rd up n) < f n) (hrng : ∀ x, Rg g 0 x → 0 ≤ x ∧ x < (g.length : Int)) (hn : g.length ≤ 40) (h1 : 1 ≤ g.length) (hz : rd dl 0 = -1) (hd0 : ∀ x, Rg g 0 x → x ≠ 0 → rd dl x = rd up x) :
  ∀ (N : Nat) (a : Int) (out : List (List Int)) (M : Int → Prop), f a ≤ N → Rg g 0 a → FM g out 0 M →
   ∃ out', FM g out' 0 (fun x => M x ∨ Ch (uf up) 0 a x) ∧ Evt (fun k => Go.Proofs.Ytjjedbcgkljdeaa.D.frIn dl 0 k out a) out'
 | N, a, out, M, hN, ha, h => by
  obtain ⟨ha0, ha1⟩ := hrng a ha; have hl := hw.len; have hol := h.len; have hrl := h.len_row a ha0 ha1; have hm := h.mark a ha0 ha1 (by omega)
  by_cases e : a = 0
  ·subst e; refine ⟨_, hm.congr fun x _ _ => ⟨fun hh => hh.imp id (fun e => by rw [e]; exact Ch.refl _), fun hh => hh.imp id (fun hc => hc.root_eq)⟩, Evt.succ ?_⟩
   simp only [Go.Proofs.Ytjjedbcgkljdeaa.D.frIn]
   refine Evt.pos ha0 (Evt.pos (by omega) (Evt.pos (by omega) (Evt.neg (by omega) (Evt.pos (by omega) (Evt.pos (show (rd_L1 out 0).length < 17592186044416 by omega) (Evt.pos (by omega) (Evt.succ ?_)))))))
   rw [hz]; simp only [Go.Proofs.Ytjjedbcgkljdeaa.D.frIn]
   exact Evt.neg (by omega) (Evt.const _)
  ·obtain ⟨huR, hua⟩ := hw.tree.up_lt a ha e; have hlt := hf a ha e; obtain ⟨out', o1, o2⟩ := frIn_root hw hf hrng hn h1 hz hd0 (N - 1) (rd up a) _ _ (by omega) huR hm
   refine ⟨out', o1.congr fun x hx0 hx1 => ?_, Evt.succ ?_⟩
   ·constructor
    ·rintro ((h2 | h2) | h2)
     ·exact .inl h2
     ·exact .inr (by rw [h2]; exact Ch.refl _)
     ·refine .inr (Ch.up e ?_)
      rw [uf_pos ha0]; exact h2
    ·rintro (h2 | h2)
     ·exact .inl (.inl h2)
     ·by_cases ex : x = a
      ·exact .inl (.inr ex)
      ·exact .inr ((hw.tree.ch_step hw.rng ha ex).1 h2).2
   ·simp only [Go.Proofs.Ytjjedbcgkljdeaa.D.frIn]
    refine Evt.pos ha0 (Evt.pos (by omega) (Evt.pos (by omega) (Evt.neg (by omega) (Evt.pos (by omega) (Evt.pos (show (rd_L1 out a).length < 17592186044416 by omega) (Evt.pos (by omega) ?_))))))
    rw [hd0 a ha e]; exact o2
end
end Go.Proofs.Ytjjedbcgkljdeaa.M
end
section
namespace Go.Proofs.Ytjjedbcgkljdeaa.M
open Go.RowKit Go.Proofs.YtjjedbcgkljdeaaW.PrintWords Go.Proofs.YtjjedbcgkljdeaaW.PrintLast Go.Proofs.YtjjedbcgkljdeaaW.PrintMore Go.Proofs.Ytjjedbcgkljdeaa.A
structure DomT (g : List (List Int)) (up dl : List Int) (f : Int → Nat) : Prop where
 w : Wk g 0 up g.length dl
 lvl : ∀ n, Rg g 0 n → n ≠ 0 → f (rd up n) < f n
 rng : ∀ x, Rg g 0 x → 0 ≤ x ∧ x < (g.length : Int)
 root : rd dl 0 = -1
 oth : ∀ x, Rg g 0 x → x ≠ 0 → rd dl x = rd up x
 td : ∀ a b, TD g a b ↔ Dom g 0 a b
theorem domT_ev (g : List (List Int)) (hg : Gr g) (h1 : 1 ≤ g.length) (hn : g.length ≤ 40) (hr : ∀ r ∈ g, r.length ≤ 4) : ∃ up dl f, Evt (fun k => Go.Proofs.Ytjjedbcgkljdeaa.B.graph_tree.f k g 0) dl ∧ DomT g up dl f := by
 obtain ⟨up, he, hT⟩ := tree_ev 4 (by omega) g 0 hg (by omega) (by omega) (by omega) (by omega) hr
 have hin : InR g.length [0] := fun x hx => by obtain rfl := List.mem_singleton.1 hx; omega
 have hrng : ∀ x, Rg g 0 x → 0 ≤ x ∧ x < (g.length : Int) := fun x h => h.range hg hin
 have hl := hT.len; obtain ⟨f, hf⟩ := hT.lvl; have hr0 : ∀ b : Int, 0 ≤ b → rd (up.set (0 : Int).toNat (-1)) b = if b = 0 then -1 else rd up b := fun b hb => rd_set up 0 (-1) b (by omega) (by omega) hb
 have hw : Wk g 0 up g.length (up.set (0 : Int).toNat (-1)) := by
  refine ⟨hT, fun x h => (hrng x h).1, by simp [hl], fun b hb0 hb1 hb => ?_, fun b hb0 hb1 hb => ?_⟩
  ·rw [hr0 b hb0]; by_cases e : b = 0
   ·rw [if_pos e]; refine .inr ⟨rfl, fun a _ _ hc => ?_⟩
    rw [e] at hc ⊢
    exact hc.root_eq
   ·rw [if_neg e]; exact .inl ⟨e, rfl, (hrng _ (hT.up_lt b hb e).1).2⟩
  ·rw [hr0 b hb0]; by_cases e : b = 0
   ·rw [if_pos e]
   ·rw [if_neg e]; exact hT.no b hb0 hb1 hb
 exact ⟨up, _, f, he, hw, hf, hrng, by rw [hr0 0 (by omega), if_pos rfl], fun x hx hne => by rw [hr0 x (hrng x hx).1, if_neg hne], fun a b => ⟨fun h => ⟨h.2.1, h.2.2⟩, fun h => ⟨hT.ch_rg (fun x h => (hrng x h).1) h.1 ((hT.ch b a h.1).2 h), h.1, h.2⟩⟩⟩
section
variable {g : List (List Int)} {up dl : List Int} {f : Int → Nat}
theorem DomT.ch (d : DomT g up dl f) {n : Int} (hn : Rg g 0 n) (x : Int) : Ch (uf up) 0 n x ↔ TD g x n := by rw [d.w.tree.ch n x hn, d.td]
theorem frIn_ev (d : DomT g up dl f) (hn : g.length ≤ 40) (h1 : 1 ≤ g.length) (b : Nat) (hb : b < g.length) (hbR : Rg g 0 (b : Int)) (p : Int) (hp : Rg g 0 p) (hpb : (b : Int) ∈ rd_L1 g p) (out : List (List Int)) (M : Int → Prop) (h : FM g out b M) :
  ∃ out', FM g out' b (fun x => M x ∨ FCe g x p (b : Int)) ∧ Evt (fun k => Go.Proofs.Ytjjedbcgkljdeaa.D.frIn dl (b : Int) k out p) out' := by
 by_cases e : (b : Int) = 0
 ·obtain rfl : b = 0 := by omega
  obtain ⟨out', o1, o2⟩ := frIn_root d.w d.lvl d.rng hn h1 d.root d.oth _ p out M (Nat.le_refl _) hp h; refine ⟨out', o1.congr fun x _ _ => ?_, o2⟩
  rw [d.ch hp]; unfold FCe
  refine ⟨fun hh => hh.imp id (fun ht => ⟨hp, ht, ?_⟩), fun hh => hh.imp id (fun ht => ht.2.1)⟩
  by_cases hx : TD g x ((0 : Nat) : Int)
  ·have hR0 : Rg g 0 0 := Rch.base (by simp) rfl
   exact .inr (((d.ch hR0 x).2 hx).root_eq)
  ·exact .inl hx
 ·obtain ⟨hsR, hsb⟩ := d.w.tree.up_lt (b : Int) hbR e; have hbs : Ch (uf up) 0 (b : Int) (rd up (b : Int)) := (d.w.tree.ch_step d.w.rng hbR hsb).2 ⟨e, Ch.refl _⟩
  have hdom : TD g (rd up (b : Int)) (b : Int) := (d.ch hbR _).1 hbs
  have hps : Ch (uf up) 0 p (rd up (b : Int)) := by
   rw [d.ch hp]; exact ⟨hdom.1, hp, fun hc => hdom.2.2 (Rch.step hc hpb (by simpa using Ne.symm hsb))⟩
  obtain ⟨out', o1, o2⟩ := frIn_stop d.w d.lvl d.rng hn b hb (rd up (b : Int)) (d.oth _ hbR e) hsR d.oth _ p out M (Nat.le_refl _) hp hps h; refine ⟨out', o1.congr fun x _ _ => ?_, o2⟩
  rw [d.ch hp]; unfold FCe
  refine ⟨fun hh => hh.imp id (fun ht => ⟨hp, ht.1, ?_⟩), fun hh => hh.imp id (fun ht => ⟨ht.2.1, fun hc => ?_⟩)⟩
  ·by_cases hx : TD g x (b : Int)
   ·right
    by_cases ex : x = (b : Int)
    ·exact ex
    ·exact absurd ((d.w.tree.ch_step d.w.rng hbR ex).1 ((d.ch hbR x).2 hx)).2 ht.2
   ·exact .inl hx
  ·have hbx : Ch (uf up) 0 (b : Int) x := hbs.trans hc
   rcases ht.2.2 with h5 | h5
   ·exact h5 ((d.ch hbR x).1 hbx)
   ·subst h5; exact hsb (d.w.tree.anti d.w.rng hbR hbs hc)
theorem frP_ev (d : DomT g up dl f) (hn : g.length ≤ 40) (h1 : 1 ≤ g.length) (seen : List Bool) (hs : seen.length = g.length) (hs2 : ∀ x : Int, 0 ≤ x → (rdOf false seen x = true ↔ Rg g 0 x)) (b : Nat) (hb : b < g.length) (hbR : Rg g 0 (b : Int)) :
  ∀ (ps : List Int), (∀ p ∈ ps, 0 ≤ p ∧ p < (g.length : Int) ∧ (b : Int) ∈ rd_L1 g p) → ∀ (out : List (List Int)) (M : Int → Prop), FM g out b M →
   ∃ out', FM g out' b (fun x => M x ∨ ∃ p ∈ ps, FCe g x p (b : Int)) ∧ Evt (fun k => Go.Proofs.Ytjjedbcgkljdeaa.D.frP k seen dl (b : Int) ps out) out'
 | [], _, out, M, h => ⟨out, h.congr fun x _ _ => ⟨.inl, fun hh => hh.elim id (fun ⟨_, hp, _⟩ => by cases hp)⟩, Evt.const out⟩
 | p :: ps, hps, out, M, h => by
  obtain ⟨hp0, hp1, hpb⟩ := hps p (by simp)
  by_cases hR : rdOf false seen p = true
  ·obtain ⟨o1, f1, e1⟩ := frIn_ev d hn h1 b hb hbR p ((hs2 p hp0).1 hR) hpb out M h; obtain ⟨o2, f2, e2⟩ := frP_ev d hn h1 seen hs hs2 b hb hbR ps (fun q hq => hps q (by simp [hq])) o1 _ f1
   refine ⟨o2, f2.congr fun x _ _ => ?_, ?_⟩
   ·constructor
    ·rintro ((h2 | h2) | ⟨q, hq, h2⟩)
     ·exact .inl h2
     ·exact .inr ⟨p, by simp, h2⟩
     ·exact .inr ⟨q, by simp [hq], h2⟩
    ·rintro (h2 | ⟨q, hq, h2⟩)
     ·exact .inl (.inl h2)
     ·rcases List.mem_cons.1 hq with rfl | hq
      ·exact .inl (.inr h2)
      ·exact .inr ⟨q, hq, h2⟩
   ·simp only [Go.Proofs.Ytjjedbcgkljdeaa.D.frP]
    exact Evt.pos hp0 (Evt.pos (by omega) (Evt.pos hR (Evt.bind e1 e2)))
  ·obtain ⟨o2, f2, e2⟩ := frP_ev d hn h1 seen hs hs2 b hb hbR ps (fun q hq => hps q (by simp [hq])) out M h
   refine ⟨o2, f2.congr fun x _ _ => ?_, ?_⟩
   ·constructor
    ·rintro (h2 | ⟨q, hq, h2⟩)
     ·exact .inl h2
     ·exact .inr ⟨q, by simp [hq], h2⟩
    ·rintro (h2 | ⟨q, hq, h2⟩)
     ·exact .inl h2
     ·rcases List.mem_cons.1 hq with rfl | hq
      ·exact absurd ((hs2 q hp0).2 h2.1) hR
      ·exact .inr ⟨q, hq, h2⟩
   ·simp only [Go.Proofs.Ytjjedbcgkljdeaa.D.frP]
    exact Evt.pos hp0 (Evt.pos (by omega) (Evt.neg hR e2))
theorem FM.next {out : List (List Int)} {b : Nat} {M : Int → Prop} (h : FM g out b M) (hM : ∀ x : Int, 0 ≤ x → x < (g.length : Int) → (M x ↔ FC g x (b : Int))) : FM g out (b + 1) (fun _ => False) := by
 refine ⟨h.len, fun x h0 h1 => ?_⟩
 rw [h.row x h0 h1, rowTo_succ]; by_cases hm : M x
 ·rw [if_pos hm, if_pos ((hM x h0 h1).1 hm), if_neg id, List.append_nil]
 ·rw [if_neg hm, if_neg (fun e => hm ((hM x h0 h1).2 e)), if_neg id]
  simp
theorem frB_ev (d : DomT g up dl f) (hg : Gr g) (hn : g.length ≤ 40) (h1 : 1 ≤ g.length) (seen : List Bool) (hs : seen.length = g.length) (hs2 : ∀ x : Int, 0 ≤ x → (rdOf false seen x = true ↔ Rg g 0 x)) (T : List (List Int)) (hT : TurnedOf 4 g T) :
  ∀ (m b : Nat), b + m = g.length → ∀ out, FM g out b (fun _ => False) → Evt (fun k => Go.Proofs.Ytjjedbcgkljdeaa.D.frB k seen dl T (List.range' b m) out) (rowsOf (FC g) g.length)
 | 0, b, hm, out, h => by
  obtain rfl : b = g.length := by omega
  have : out = rowsOf (FC g) g.length := rowsOf_eq h.len fun a ha => by rw [h.row (a : Int) (by omega) (by omega), if_neg id, List.append_nil]
  rw [this]; exact Evt.const _
 | m + 1, b, hm, out, h => by
  have hlT := hT.len; have hbl : b < g.length := by omega
  have hmemT := hT.mem (b : Int) (by omega) (by omega)
  simp only [List.range'_succ, Go.Proofs.Ytjjedbcgkljdeaa.D.frB]
  by_cases hR : rdOf false seen (b : Int) = true
  ·obtain ⟨o1, f1, e1⟩ := frP_ev d hn h1 seen hs hs2 b hbl ((hs2 _ (by omega)).1 hR) (rd_L1 T (b : Int)) (fun p hp => (hmemT p).1 hp) out _ h
   have ih := frB_ev d hg hn h1 seen hs hs2 T hT m (b + 1) (by omega) o1 (f1.next fun x _ _ => by
    constructor
    ·rintro (h2 | ⟨p, hp, h2⟩)
     ·exact h2.elim
     ·have := (hmemT p).1 hp
      exact ⟨p, this.1, this.2.1, this.2.2, h2⟩
    ·rintro ⟨p, hp0, hp1, hpb, h2⟩
     exact .inr ⟨p, (hmemT p).2 ⟨hp0, hp1, hpb⟩, h2⟩)
   exact Evt.pos (by omega) (Evt.pos hR (Evt.pos (by omega) (Evt.bind e1 ih)))
  ·have ih := frB_ev d hg hn h1 seen hs hs2 T hT m (b + 1) (by omega) out (h.next fun x _ _ => ⟨fun h => h.elim, fun ⟨p, _, _, hpb, h2⟩ => hR ((hs2 _ (by omega)).2 (Rch.step h2.1 hpb rfl))⟩)
   exact Evt.pos (by omega) (Evt.neg hR ih)
end
theorem front_ev (g : List (List Int)) (hv : validB g = true) (h1 : 1 ≤ g.length) (hg : Gr g) (hn : g.length ≤ 40) (hr : ∀ r ∈ g, r.length ≤ 4) : Evt (fun k => Go.Proofs.Ytjjedbcgkljdeaa.D.graph_Frontier.f k g) (rowsOf (FC g) g.length, 0) := by
 have hve := valid_ev g (by omega) (fun r h => Nat.le_trans (hr r h) (by omega))
 rw [hv] at hve; obtain ⟨up, dl, f, hd, d⟩ := domT_ev g hg h1 hn hr; obtain ⟨seen, hs, _, hs1, hs2⟩ := reached_ev g h1 hg hn hr; obtain ⟨T, hT, hT1⟩ := turned_ev 4 (by omega) g hg (by omega) (by omega) hr
 have h0 : FM g (List.replicate g.length []) 0 (fun _ => False) := by
  refine ⟨by simp, fun a h0 ha => ?_⟩
  rw [if_neg id]; obtain ⟨i, rfl⟩ := Int.eq_ofNat_of_zero_le h0; rw [rd_L1_nat _ i (by simp; omega)]
  simp [rowTo]
 have h := frB_ev d hg hn h1 seen hs1 hs2 T hT1 g.length 0 (by omega) _ h0
 rw [← List.range_eq_range'] at h; unfold Go.Proofs.Ytjjedbcgkljdeaa.D.graph_Frontier.f
 exact Evt.bind hve (Evt.pos rfl (Evt.pos (by omega) (Evt.bind hd (Evt.bind hs (Evt.bind hT (Evt.bind h (Evt.const _)))))))
end Go.Proofs.Ytjjedbcgkljdeaa.M
end
section
namespace Go.Proofs.Ytjjedbcgkljdeaa.M
open Go.RowKit Go.Proofs.YtjjedbcgkljdeaaW.PrintWords Go.Proofs.YtjjedbcgkljdeaaW.PrintLast Go.Proofs.YtjjedbcgkljdeaaW.PrintMore Go.Proofs.Ytjjedbcgkljdeaa.A
structure BI (g t : List (List Int)) (a i : Nat) : Prop where
 len : t.length = g.length
 mem : ∀ b : Int, 0 ≤ b → b < (g.length : Int) → ∀ y : Int, y ∈ rd_L1 t b ↔ (∃ c : Nat, y = (c : Int) ∧ c < a ∧ b ∈ rd_L1 g (c : Int) ∧ TD g b (c : Int)) ∨ (y = (a : Int) ∧ b ∈ (rd_L1 g (a : Int)).take i ∧ TD g b (a : Int))
 rows : ∀ b : Int, (rd_L1 t b).length ≤ 4 * a + i
theorem BI.zero (g : List (List Int)) : BI g (List.replicate g.length []) 0 0 := by
 have h : ∀ b : Int, rd_L1 (List.replicate g.length []) b = [] := fun b => by
  unfold rd_L1
  rw [List.getD_eq_getElem?_getD, List.getElem?_replicate]; split <;> rfl
 refine ⟨by simp, fun b _ _ y => ?_, fun b => by rw [h]; exact Nat.zero_le _⟩
 rw [h]; simp
theorem BI.next {g t : List (List Int)} {a i : Nat} (h : BI g t a i) (hi : (rd_L1 g (a : Int)).length = i) (h4 : i ≤ 4) : BI g t (a + 1) 0 := by
 refine ⟨h.len, fun b h0 h1 y => ?_, fun b => by have := h.rows b; omega⟩
 rw [h.mem b h0 h1 y, List.take_of_length_le (by omega)]
 simp only [List.take_zero, List.not_mem_nil, false_and, and_false, or_false]
 constructor
 ·rintro (⟨c, rfl, hc, hb⟩ | ⟨rfl, hb⟩)
  ·exact ⟨c, rfl, by omega, hb⟩
  ·exact ⟨a, rfl, by omega, hb⟩
 ·rintro ⟨c, rfl, hc, hb⟩
  by_cases e : c = a
  ·subst e; exact .inr ⟨rfl, hb⟩
  ·exact .inl ⟨c, rfl, by omega, hb⟩
theorem BI.skip {g t : List (List Int)} {a i : Nat} (h : BI g t a i) (hi : i < (rd_L1 g (a : Int)).length) (hn : ¬ TD g (rd_L1 g (a : Int))[i] (a : Int)) : BI g t a (i + 1) := by
 refine ⟨h.len, fun b hb0 hb1 y => ?_, fun b => by have := h.rows b; omega⟩
 rw [take_succ_mem hi, h.mem b hb0 hb1 y]; constructor
 ·rintro (hc | ⟨rfl, hb, hd⟩)
  ·exact .inl hc
  ·exact .inr ⟨rfl, .inl hb, hd⟩
 ·rintro (hc | ⟨rfl, hb | hb, hd⟩)
  ·exact .inl hc
  ·exact .inr ⟨rfl, hb, hd⟩
  ·rw [hb] at hd; exact absurd hd hn
theorem BI.push {g t : List (List Int)} {a i : Nat} (h : BI g t a i) (hi : i < (rd_L1 g (a : Int)).length) (h0 : 0 ≤ (rd_L1 g (a : Int))[i]) (h1 : (rd_L1 g (a : Int))[i] < (g.length : Int)) (hd : TD g (rd_L1 g (a : Int))[i] (a : Int)) :
  BI g (t.set ((rd_L1 g (a : Int))[i]).toNat (rd_L1 t ((rd_L1 g (a : Int))[i]) ++ [(a : Int)])) a (i + 1) := by
 have hl := h.len; generalize hm : (rd_L1 g (a : Int))[i] = m at *
 refine ⟨by rw [List.length_set, hl], fun b hb0 hb1 y => ?_, fun b => ?_⟩
 ·rw [take_succ_mem hi, hm, rd_L1_set t m b _ h0 (by omega) hb0]
  by_cases e : b = m
  ·subst e; rw [if_pos rfl, List.mem_append, List.mem_singleton, h.mem _ hb0 hb1 y]; constructor
   ·rintro ((hc | ⟨rfl, hb, hd⟩) | rfl)
    ·exact .inl hc
    ·exact .inr ⟨rfl, .inl hb, hd⟩
    ·exact .inr ⟨rfl, .inr rfl, hd⟩
   ·rintro (hc | ⟨rfl, hb | _, hd⟩)
    ·exact .inl (.inl hc)
    ·exact .inl (.inr ⟨rfl, hb, hd⟩)
    ·exact .inr rfl
  ·rw [if_neg e, h.mem b hb0 hb1 y]; constructor
   ·rintro (hc | ⟨rfl, hb, hd⟩)
    ·exact .inl hc
    ·exact .inr ⟨rfl, .inl hb, hd⟩
   ·rintro (hc | ⟨rfl, hb | hb, hd⟩)
    ·exact .inl hc
    ·exact .inr ⟨rfl, hb, hd⟩
    ·exact absurd hb e
 ·exact rd_L1_set_len t _ _ _ (fun b => by have := h.rows b; omega) (by rw [List.length_append, List.length_singleton]; have := h.rows m; omega) b
def Bk (g : List (List Int)) (b y : Int) : Prop := b ∈ rd_L1 g y ∧ TD g b y
structure BackOf (g t : List (List Int)) : Prop where
 len : t.length = g.length
 mem : ∀ b : Int, 0 ≤ b → b < (g.length : Int) → ∀ y : Int, y ∈ rd_L1 t b ↔ 0 ≤ y ∧ y < (g.length : Int) ∧ Bk g b y
 rows : ∀ b : Int, (rd_L1 t b).length ≤ 4 * g.length
theorem BI.done {g t : List (List Int)} (h : BI g t g.length 0) : BackOf g t := by
 refine ⟨h.len, fun b h0 h1 y => ?_, fun b => by simpa using h.rows b⟩
 rw [h.mem b h0 h1 y]; simp only [List.take_zero, List.not_mem_nil, false_and, and_false, or_false]
 constructor
 ·rintro ⟨c, rfl, hc, hb⟩
  exact ⟨by omega, by omega, hb⟩
 ·rintro ⟨hy0, hy1, hb⟩
  obtain ⟨c, rfl⟩ := Int.eq_ofNat_of_zero_le hy0; exact ⟨c, rfl, by omega, hb⟩
section
variable {g : List (List Int)} {up dl : List Int} {f : Int → Nat}
theorem backs_l (d : DomT g up dl f) (hg : Gr g) (hn : g.length ≤ 40) (hr : ∀ r ∈ g, r.length ≤ 4) (seen : List Bool) (hs : seen.length = g.length) (hs2 : ∀ x : Int, 0 ≤ x → (rdOf false seen x = true ↔ Rg g 0 x)) : ∀ (m a : Nat), a + m = g.length →
  (∀ t, BI g t a 0 → ∃ r, Evt (fun k => Go.Proofs.Ytjjedbcgkljdeaa.B.graph_backs.l0 k t dl seen g (g.length : Int) (a : Int)) r ∧ BI g r g.length 0)
 | 0, a, hd => fun t ht => by
  obtain rfl : a = g.length := by omega
  refine ⟨t, Evt.succ ?_, ht⟩
  simp only [Go.Proofs.Ytjjedbcgkljdeaa.B.graph_backs.l0]
  exact Evt.neg (by omega) (Evt.const t)
 | m + 1, a, hd => fun t ht => by
  have ih := backs_l d hg hn hr seen hs hs2 m (a + 1) (by omega)
  have hrl : (rd_L1 g (a : Int)).length ≤ 4 := rd_L1_len hr _
  have inner : ∀ (e i : Nat) (t : List (List Int)), i + e = (rd_L1 g (a : Int)).length → BI g t a i → ∃ r, Evt (fun k => Go.Proofs.Ytjjedbcgkljdeaa.B.graph_backs.l1 k t dl seen (a : Int) g (g.length : Int) (a : Int) (rd_L1 g (a : Int)) ((rd_L1 g (a : Int)).length : Int) (i : Int)) r ∧ BI g r g.length 0 := by
   intro e
   induction e with
   | zero =>
    intro i t he ht
    obtain ⟨r, h1, h2⟩ := ih t (ht.next (by omega) (by omega))
    refine ⟨r, Evt.succ ?_, h2⟩
    simp only [Go.Proofs.Ytjjedbcgkljdeaa.B.graph_backs.l1, wrap_succ a (by omega)]
    exact Evt.neg (by omega) h1
   | succ e ihe =>
    intro i t he ht
    have hi : i < (rd_L1 g (a : Int)).length := by omega
    have hx := hg.row (a : Int) ((rd_L1 g (a : Int))[i]) (List.getElem_mem hi); have hro := ht.rows ((rd_L1 g (a : Int))[i]); have hl := ht.len; have hpush := fun hdd hh => ihe (i + 1) _ hh (ht.push hi hx.1 hx.2 hdd)
    have hskip := fun hdd => ihe (i + 1) t (by omega) (ht.skip hi hdd)
    have hm0 : rd (rd_L1 g (a : Int)) (i : Int) = (rd_L1 g (a : Int))[i] := rd_nat _ _ hi
    generalize (rd_L1 g (a : Int))[i] = x at *
    by_cases hR : rdOf false seen (a : Int) = true
    ·have haR := (hs2 _ (by omega)).1 hR
     obtain ⟨v, hv1, hv2⟩ := d.w.above (by omega) x hx.1 hx.2 d.lvl _ (a : Int) (Nat.le_refl _) (by omega) (by omega) haR
     rw [d.ch haR] at hv1; by_cases hvt : v = true
     ·obtain ⟨r, h1, h2⟩ := hpush (hv1.1 hvt) (by omega)
      refine ⟨r, Evt.succ ?_, h2⟩
      simp only [Go.Proofs.Ytjjedbcgkljdeaa.B.graph_backs.l1, hm0, wrap_succ i (by omega)]
      exact Evt.pos (by omega) (Evt.pos (by omega) (Evt.pos (by omega) (Evt.pos (by omega) (Evt.pos (by omega) (Evt.pos hR (Evt.bind hv2 (Evt.pos hvt (Evt.pos hx.1 (Evt.pos (by omega) (Evt.pos (show (rd_L1 t x).length < 17592186044416 by omega) h1))))))))))
     ·obtain ⟨r, h1, h2⟩ := hskip (fun h => hvt (hv1.2 h))
      refine ⟨r, Evt.succ ?_, h2⟩
      simp only [Go.Proofs.Ytjjedbcgkljdeaa.B.graph_backs.l1, hm0, wrap_succ i (by omega)]
      exact Evt.pos (by omega) (Evt.pos (by omega) (Evt.pos (by omega) (Evt.pos (by omega) (Evt.pos (by omega) (Evt.pos hR (Evt.bind hv2 (Evt.neg hvt h1)))))))
    ·obtain ⟨r, h1, h2⟩ := hskip (fun h => hR ((hs2 _ (by omega)).2 h.2.1))
     refine ⟨r, Evt.succ ?_, h2⟩
     simp only [Go.Proofs.Ytjjedbcgkljdeaa.B.graph_backs.l1, hm0, wrap_succ i (by omega)]
     exact Evt.pos (by omega) (Evt.pos (by omega) (Evt.pos (by omega) (Evt.pos (by omega) (Evt.pos (by omega) (Evt.neg hR h1)))))
  obtain ⟨r, h1, h2⟩ := inner (rd_L1 g (a : Int)).length 0 t (by omega) ht
  refine ⟨r, Evt.succ ?_, h2⟩
  simp only [Go.Proofs.Ytjjedbcgkljdeaa.B.graph_backs.l0]
  exact Evt.pos (by omega) (Evt.pos (by omega) (Evt.pos (by omega) h1))
end
theorem backs_ev (g : List (List Int)) (hg : Gr g) (h1 : 1 ≤ g.length) (hn : g.length ≤ 40) (hr : ∀ r ∈ g, r.length ≤ 4) : ∃ t, Evt (fun k => Go.Proofs.Ytjjedbcgkljdeaa.B.graph_backs.f k g) t ∧ BackOf g t := by
 obtain ⟨up, dl, f, hd, d⟩ := domT_ev g hg h1 hn hr; obtain ⟨seen, hs, _, hs1, hs2⟩ := reached_ev g h1 hg hn hr; obtain ⟨t, e1, e2⟩ := backs_l d hg hn hr seen hs1 hs2 g.length 0 (by omega) _ (BI.zero g)
 refine ⟨t, ?_, e2.done⟩
 unfold Go.Proofs.Ytjjedbcgkljdeaa.B.graph_backs.f
 exact Evt.pos (by omega) (Evt.pos (by omega) (Evt.bind hd (Evt.bind hs (by simpa using e1))))
def LF (g T : List (List Int)) (b x : Int) : Prop := (∃ y : Int, 0 ≤ y ∧ y < (g.length : Int) ∧ Bk g b y) ∧ ((Rch T (fun n => n == b) (rowTo (Bk g b) g.length) x ∧ Rg g 0 x) ∨ x = b)
theorem Rch.list {T U : List (List Int)} {P : Int → Bool} {l l' : List Int} (hT : ∀ a x, Rch T P l a → x ∈ rd_L1 T a → x ∈ rd_L1 U a) (hl : ∀ x ∈ l, x ∈ l') {x : Int} (h : Rch T P l x) : Rch U P l' x := by
 induction h with
 | base h1 h2 => exact Rch.base (hl _ h1) h2
 | step h1 h2 h3 ih => exact Rch.step ih (hT _ _ h1 h2) h3
theorem rowTo_bk {g bk : List (List Int)} (h : BackOf g bk) {b : Int} (hb0 : 0 ≤ b) (hb1 : b < (g.length : Int)) (x : Int) : x ∈ rd_L1 bk b ↔ x ∈ rowTo (Bk g b) g.length := by
 rw [h.mem b hb0 hb1 x, rowTo_mem]
theorem bk_inR {g bk : List (List Int)} (h : BackOf g bk) {b : Int} (hb0 : 0 ≤ b) (hb1 : b < (g.length : Int)) : InR g.length (rd_L1 bk b) := fun x hx => by
 have := (h.mem b hb0 hb1 x).1 hx
 exact ⟨this.1, this.2.1⟩
theorem bk_empty {g bk : List (List Int)} (h : BackOf g bk) {b : Int} (hb0 : 0 ≤ b) (hb1 : b < (g.length : Int)) : (rd_L1 bk b).length = 0 ↔ ¬ ∃ y : Int, 0 ≤ y ∧ y < (g.length : Int) ∧ Bk g b y := by
 constructor
 ·rintro he ⟨y, h0, h1, h2⟩
  have := (h.mem b hb0 hb1 y).2 ⟨h0, h1, h2⟩
  rw [List.length_eq_zero_iff.1 he] at this; cases this
 ·intro hno
  rcases Nat.eq_zero_or_pos (rd_L1 bk b).length with h0 | h0
  ·exact h0
  ·exact absurd ⟨_, (h.mem b hb0 hb1 _).1 (List.getElem_mem h0)⟩ hno
theorem turned_sub {B B' : Nat} {g T U : List (List Int)} (hT : TurnedOf B g T) (hU : TurnedOf B' g U) {P : Int → Bool} {l l' : List Int} (hl : InR g.length l) (hll : ∀ x ∈ l, x ∈ l') {x : Int} (h : Rch T P l x) : Rch U P l' x := by
 have hlT := hT.len; refine Rch.list (fun a y ha hy => ?_) hll h
 obtain ⟨a0, a1⟩ := ha.range hT.gr (by rw [hlT]; exact hl)
 rw [hlT] at a1; exact (hU.mem a a0 a1 y).2 ((hT.mem a a0 a1 y).1 hy)
theorem loop_avoid {B : Nat} {g T : List (List Int)} (hT : TurnedOf B g T) (seen : List Bool) (hs2 : ∀ x : Int, 0 ≤ x → (rdOf false seen x = true ↔ Rg g 0 x)) (b : Int) {l : List Int} (hl : InR g.length l) (x : Int) (hx0 : 0 ≤ x) :
  Rch T (Go.Proofs.Ytjjedbcgkljdeaa.D.lpP seen b) l x ↔ Rch T (fun n => n == b) l x ∧ Rg g 0 x := by
 have hlT := hT.len; have hP : ∀ y, Go.Proofs.Ytjjedbcgkljdeaa.D.lpP seen b y = false ↔ (y == b) = false ∧ rdOf false seen y = true := by
  intro y
  unfold Go.Proofs.Ytjjedbcgkljdeaa.D.lpP
  by_cases e : y = b
  ·simp [e]
  ·simp [e]
 constructor
 ·intro h
  refine ⟨?_, (hs2 x hx0).1 ((hP x).1 h.ok).2⟩
  clear hx0; induction h with
  | base h1 h2 => exact Rch.base h1 ((hP _).1 h2).1
  | step _ h2 h3 ih => exact Rch.step ih h2 ((hP _).1 h3).1
 ·rintro ⟨h, hR⟩
  induction h with
  | base h1 h2 => exact Rch.base h1 ((hP _).2 ⟨h2, (hs2 _ hx0).2 hR⟩)
  | @step a y ha hy h3 ih =>
   obtain ⟨a0, a1⟩ := ha.range hT.gr (by rw [hlT]; exact hl)
   rw [hlT] at a1; have hay := (hT.mem a a0 a1 y).1 hy; exact Rch.step (ih a0 (Rch.step hR hay.2.2 rfl)) hy ((hP _).2 ⟨h3, (hs2 _ hx0).2 hR⟩)
theorem lpB_ev (g T bk : List (List Int)) (hn : g.length ≤ 40) (hT : TurnedOf 4 g T) (hbk : BackOf g bk) (seen : List Bool) (hs : seen.length = g.length) (hs2 : ∀ x : Int, 0 ≤ x → (rdOf false seen x = true ↔ Rg g 0 x)) :
  ∀ (m b : Nat), b + m = g.length → ∀ out : List (List Int), out.length = g.length → (∀ a : Nat, a < b → rd_L1 out (a : Int) = rowTo (LF g T (a : Int)) g.length) → (∀ a : Nat, b ≤ a → rd_L1 out (a : Int) = []) →
   Evt (fun k => Go.Proofs.Ytjjedbcgkljdeaa.D.lpB k seen T bk (List.range' b m) out) (rowsOf (LF g T) g.length)
 | 0, b, hm, out, ho, h1, h2 => by
  obtain rfl : b = g.length := by omega
  rw [rowsOf_eq ho (F := LF g T) (fun a ha => h1 a ha)]
  exact Evt.const _
 | m + 1, b, hm, out, ho, h1, h2 => by
  have hlT := hT.len; have hbl : b < g.length := by omega
  have hb0 : (0 : Int) ≤ (b : Int) := by omega
  have hb1 : (b : Int) < (g.length : Int) := by omega
  simp only [List.range'_succ, Go.Proofs.Ytjjedbcgkljdeaa.D.lpB]
  by_cases he : (rd_L1 bk (b : Int)).length = 0
  ·refine Evt.pos he (lpB_ev g T bk hn hT hbk seen hs hs2 m (b + 1) (by omega) out ho (fun a ha => ?_) (fun a ha => h2 a (by omega)))
   by_cases e : a = b
   ·subst e; rw [h2 a (Nat.le_refl _)]; have hno := (bk_empty hbk hb0 hb1).1 he; symm
    rw [← List.length_eq_zero_iff]; rcases Nat.eq_zero_or_pos (rowTo (LF g T (a : Int)) g.length).length with h0 | h0
    ·exact h0
    ·have := (rowTo_mem _ _ _).1 (List.getElem_mem h0)
     exact absurd this.2.2.1 hno
   ·exact h1 a (by omega)
  ·have hlr := bk_inR hbk hb0 hb1; obtain ⟨inn, i1, i2, i3⟩ := fromF_ev (Go.Proofs.Ytjjedbcgkljdeaa.D.lpP seen (b : Int)) T (rd_L1 bk (b : Int)) hT.gr (by rw [hlT]; exact hlr) (by omega)
   have hsl : (inn.set b true).length = g.length := by rw [List.length_set]; omega
   have hrow : risingL (inn.set b true) 0 = rowTo (LF g T (b : Int)) g.length := by
    refine rising_row _ _ _ hsl fun x hx0 hx1 => ?_
    have hset := rdOf_set inn (b : Int) x true hb0 (by omega) hx0
    rw [Int.toNat_natCast] at hset; rw [hset]; have hex := fun hno => he ((bk_empty hbk hb0 hb1).2 hno)
    have hex2 : ∃ y : Int, 0 ≤ y ∧ y < (g.length : Int) ∧ Bk g (b : Int) y := Classical.byContradiction hex
    unfold LF
    by_cases e : x = (b : Int)
    ·rw [if_pos e]; exact ⟨fun _ => ⟨hex2, .inr e⟩, fun _ => rfl⟩
    ·rw [if_neg e, i3 x hx0, loop_avoid hT seen hs2 (b : Int) hlr x hx0]; constructor
     ·exact fun h => ⟨hex2, .inl ⟨turned_sub hT hT hlr (fun y hy => (rowTo_bk hbk hb0 hb1 y).1 hy) h.1, h.2⟩⟩
     ·rintro ⟨_, h | h⟩
      ·exact ⟨turned_sub hT hT (fun y hy => hlr y ((rowTo_bk hbk hb0 hb1 y).2 hy)) (fun y hy => (rowTo_bk hbk hb0 hb1 y).2 hy) h.1, h.2⟩
      ·exact absurd h e
   refine Evt.neg he (Evt.bind i1 (Evt.pos (by omega) (Evt.bind (list_ev _ (by omega)) (Evt.pos (by omega) ?_))))
   rw [hrow]; have hsetL : ∀ a : Nat, rd_L1 (out.set b (rowTo (LF g T (b : Int)) g.length)) (a : Int) = if a = b then rowTo (LF g T (b : Int)) g.length else rd_L1 out (a : Int) := fun a => by
    have := rd_L1_set out (b : Int) (a : Int) (rowTo (LF g T (b : Int)) g.length) hb0 (by omega) (by omega)
    rw [Int.toNat_natCast] at this; rw [this]; by_cases e : a = b
    ·rw [if_pos (by omega), if_pos e]
    ·rw [if_neg (by omega), if_neg e]
   refine lpB_ev g T bk hn hT hbk seen hs hs2 m (b + 1) (by omega) _ (by rw [List.length_set, ho]) (fun a ha => ?_) (fun a ha => ?_)
   ·rw [hsetL]; by_cases e : a = b
    ·rw [if_pos e, e]
    ·rw [if_neg e]; exact h1 a (by omega)
   ·rw [hsetL, if_neg (by omega)]
    exact h2 a (by omega)
theorem loops_ev (g : List (List Int)) (hv : validB g = true) (h1 : 1 ≤ g.length) (hg : Gr g) (hn : g.length ≤ 40) (hr : ∀ r ∈ g, r.length ≤ 4) (T : List (List Int)) (hTe : Evt (fun k => graph_turned.f k g) T) (hT : TurnedOf 4 g T) : Evt (fun k => Go.Proofs.Ytjjedbcgkljdeaa.D.graph_Loops.f k g) (rowsOf (LF g T) g.length, 0) := by
 have hve := valid_ev g (by omega) (fun r h => Nat.le_trans (hr r h) (by omega))
 rw [hv] at hve; obtain ⟨seen, hs, _, hs1, hs2⟩ := reached_ev g h1 hg hn hr; obtain ⟨bk, hb, hb1⟩ := backs_ev g hg h1 hn hr; have hbl := hb1.len; have hTl := hT.len; have hrep : ∀ a : Nat, rd_L1 (List.replicate g.length []) (a : Int) = [] := fun a => by
  unfold rd_L1
  rw [List.getD_eq_getElem?_getD, List.getElem?_replicate]; split <;> rfl
 have h := lpB_ev g T bk hn hT hb1 seen hs1 hs2 g.length 0 (by omega) (List.replicate g.length []) (by simp) (fun a ha => absurd ha (by omega)) (fun a _ => hrep a)
 rw [← List.range_eq_range'] at h; unfold Go.Proofs.Ytjjedbcgkljdeaa.D.graph_Loops.f
 refine Evt.bind hve (Evt.pos rfl (Evt.pos (by omega) (Evt.bind hs (Evt.bind hTe (Evt.bind hb (Evt.pos (by omega) (Evt.bind (a := rowsOf (LF g T) g.length) ?_ (Evt.const _))))))))
 rw [hbl]; exact h
end Go.Proofs.Ytjjedbcgkljdeaa.M
end
section
namespace Go.Proofs.Ytjjedbcgkljdeaa.M
open Go.RowKit Go.Proofs.YtjjedbcgkljdeaaW.PrintWords Go.Proofs.YtjjedbcgkljdeaaW.PrintLast Go.Proofs.YtjjedbcgkljdeaaW.PrintMore Go.Proofs.Ytjjedbcgkljdeaa.A
theorem Rch.from_ {g : List (List Int)} {m n p : Int} (h : Rch g (fun _ => false) [m] p) (k : Rch g (fun _ => false) [n] m) : Rch g (fun _ => false) [n] p := by
 induction h with
 | base h _ => obtain rfl := List.mem_singleton.1 h; exact k
 | step _ h2 h3 ih => exact Rch.step ih h2 h3
def DP (g : List (List Int)) (L l : List Int) (G : Int → Prop) : Prop := ∀ (A : List Int) (p : Int) (C : List Int) (y : Int), L = A ++ p :: C → y ∈ rd_L1 g p → y ∈ C ∨ y ∈ l ∨ G y ∨ Rch g (fun _ => false) [y] p
theorem split_mid {Q M A C : List Int} {p : Int} (h : Q ++ M = A ++ p :: C) : (∃ C2, Q = A ++ p :: C2 ∧ C = C2 ++ M) ∨ (∃ A2, M = A2 ++ p :: C) := by
 rcases List.append_eq_append_iff.1 h with ⟨a', _, h2⟩ | ⟨c', h1, h2⟩
 ·exact .inr ⟨a', h2⟩
 ·cases c' with
  | nil => exact .inr ⟨[], by simpa using h2.symm⟩
  | cons x c' =>
   rw [List.cons_append, List.cons.injEq] at h2; obtain ⟨rfl, h3⟩ := h2; exact .inl ⟨c', h1, h3⟩
theorem visD (g : List (List Int)) (hg : Gr g) (hr : ∀ r ∈ g, r.length ≤ 100000) : ∀ k,
  (∀ n s l l' s' (G : Int → Prop), r7_visit.f k g n s l = some (l', s') → n < (g.length : Int) → s.length = g.length → rdOf false s n = false → (∀ x : Int, 0 ≤ x → (rdOf false s x = true ↔ x ∈ l ∨ G x)) →
   ∃ Q, l' = n :: Q ++ l ∧ s'.length = g.length ∧ (∀ x : Int, 0 ≤ x → (rdOf false s' x = true ↔ x ∈ n :: Q ++ l ∨ G x)) ∧ (∀ p ∈ n :: Q, Rch g (fun _ => false) [n] p) ∧ DP g (n :: Q) l G) ∧
  (∀ n s l (j : Nat) l' s' (G : Int → Prop), r7_visit.l0 k g n s l (j : Int) = some (l', s') → s.length = g.length → j ≤ (rd_L1 g n).length → (∀ x : Int, 0 ≤ x → (rdOf false s x = true ↔ x ∈ l ∨ G x)) →
   ∃ Q, l' = n :: Q ++ l ∧ s'.length = g.length ∧ (∀ x : Int, 0 ≤ x → (rdOf false s' x = true ↔ x ∈ Q ++ l ∨ G x)) ∧ (∀ p ∈ Q, Rch g (fun _ => false) [n] p) ∧ DP g Q l G ∧ ∀ y ∈ (rd_L1 g n).drop j, rdOf false s' y = true)
 | 0 => ⟨fun n s l l' s' G h => by simp [r7_visit.f] at h, fun n s l j l' s' G h => by simp [r7_visit.l0] at h⟩
 | k + 1 => by
  obtain ⟨ihA, ihB⟩ := visD g hg hr k; constructor
  ·intro n s l l' s' G h hn1 hs hf hG
   rw [r7_visit.f] at h; split at h
   case isFalse => cases h
   split at h
   case isFalse => cases h
   next h0 h1 =>
   have hset : ∀ x : Int, 0 ≤ x → rdOf false (s.set n.toNat true) x = if x = n then true else rdOf false s x := fun x hx => rdOf_set s n x true h0 h1 hx
   obtain ⟨Q, e1, e2, e3, e4, e5, e6⟩ := ihB n (s.set n.toNat true) l 0 l' s' (fun x => G x ∨ x = n) (by simpa using h) (by rw [List.length_set, hs]) (Nat.zero_le _) (fun x hx => by
    rw [hset x hx]; by_cases e : x = n
    ·rw [if_pos e]; exact ⟨fun _ => .inr (.inr e), fun _ => rfl⟩
    ·rw [if_neg e, hG x hx]; exact ⟨fun h => h.imp id .inl, fun h => h.imp id (fun h => h.resolve_right e)⟩)
   have e3' : ∀ x : Int, 0 ≤ x → (rdOf false s' x = true ↔ x ∈ n :: Q ++ l ∨ G x) := fun x hx => by
    rw [e3 x hx, List.cons_append, List.mem_cons]; constructor
    ·rintro (h | h | h)
     ·exact .inl (.inr h)
     ·exact .inr h
     ·exact .inl (.inl h)
    ·rintro ((h | h) | h)
     ·exact .inr (.inr h)
     ·exact .inl h
     ·exact .inr (.inl h)
   refine ⟨Q, e1, e2, e3', fun p hp => ?_, fun A p C y hL hy => ?_⟩
   ·rcases List.mem_cons.1 hp with rfl | hp
    ·exact Rch.base (by simp) rfl
    ·exact e4 p hp
   ·cases A with
    | nil =>
     rw [List.nil_append, List.cons.injEq] at hL; obtain ⟨rfl, rfl⟩ := hL; have hy0 := (hg.row n y hy).1; rcases (e3 y hy0).1 (e6 y (by simpa using hy)) with h | h | h
     ·rcases List.mem_append.1 h with h | h
      ·exact .inl h
      ·exact .inr (.inl h)
     ·exact .inr (.inr (.inl h))
     ·exact .inr (.inr (.inr (by rw [h]; exact Rch.base (by simp) rfl)))
    | cons a A =>
     rw [List.cons_append, List.cons.injEq] at hL; rcases e5 A p C y hL.2 hy with h | h | (h | h) | h
     ·exact .inl h
     ·exact .inr (.inl h)
     ·exact .inr (.inr (.inl h))
     ·refine .inr (.inr (.inr ?_))
      rw [h]; exact e4 p (by rw [hL.2]; simp)
     ·exact .inr (.inr (.inr h))
  ·intro n s l j l' s' G h hs hj hG
   have hrl : (rd_L1 g n).length ≤ 100000 := rd_L1_len hr _
   rw [r7_visit.l0] at h; split at h
   case isFalse => cases h
   split at h
   case isFalse => cases h
   next h0 h1 =>
   split at h
   ·next hlt =>
    split at h
    case isFalse => cases h
    split at h
    case isFalse => cases h
    split at h
    case isFalse => cases h
    next hm0 hm1 =>
    rw [wrap_succ j (by omega)] at h
    have hjl : j < (rd_L1 g n).length := by omega
    have hmem : rd (rd_L1 g n) (j : Int) ∈ rd_L1 g n := by rw [rd_nat _ _ hjl]; exact List.getElem_mem _
    have hdrop : (rd_L1 g n).drop j = rd (rd_L1 g n) (j : Int) :: (rd_L1 g n).drop (j + 1) := by rw [List.drop_eq_getElem_cons hjl, rd_nat _ _ hjl]
    rw [hdrop]; generalize rd (rd_L1 g n) (j : Int) = m at *
    split at h
    ·next hs2 =>
     obtain ⟨Q, e1, e2, e3, e4, e5, e6⟩ := ihB n s l (j + 1) l' s' G h hs (by omega) hG
     refine ⟨Q, e1, e2, e3, e4, e5, fun y hy => ?_⟩
     rcases List.mem_cons.1 hy with rfl | hy
     ·refine (e3 _ hm0).2 ?_
      rcases (hG _ hm0).1 hs2 with h | h
      ·exact .inl (List.mem_append.2 (.inr h))
      ·exact .inr h
     ·exact e6 y hy
    ·next hs2 =>
     obtain ⟨⟨l1, s1⟩, h5, h6⟩ := Option.bind_eq_some_iff.mp h; obtain ⟨Q1, e1, e2, e3, e4, e5⟩ := ihA m s l l1 s1 G h5 (by omega) hs (Bool.eq_false_iff.2 hs2) hG
     obtain ⟨Q2, f1, f2, f3, f4, f5, f6⟩ := ihB n s1 l1 (j + 1) l' s' G h6 e2 (by omega) (by rw [e1]; exact e3)
     have hnm : Rch g (fun _ => false) [n] m := Rch.step (Rch.base (by simp) rfl) hmem rfl
     refine ⟨Q2 ++ m :: Q1, by rw [f1, e1]; simp, f2, fun x hx => ?_, fun p hp => ?_, fun A p C y hL hy => ?_, fun y hy => ?_⟩
     ·rw [f3 x hx, e1]; simp only [List.append_assoc, List.cons_append]
     ·rcases List.mem_append.1 hp with h | h
      ·exact f4 p h
      ·exact (e4 p h).from_ hnm
     ·rcases split_mid hL with ⟨C2, g1, g2⟩ | ⟨A2, g1⟩
      ·rcases f5 A p C2 y g1 hy with h | h | h | h
       ·exact .inl (by rw [g2]; exact List.mem_append.2 (.inl h))
       ·rw [e1] at h; rcases List.mem_append.1 h with h | h
        ·exact .inl (by rw [g2]; exact List.mem_append.2 (.inr h))
        ·exact .inr (.inl h)
       ·exact .inr (.inr (.inl h))
       ·exact .inr (.inr (.inr h))
      ·exact e5 A2 p C y g1 hy
     ·rcases List.mem_cons.1 hy with rfl | hy
      ·refine (f3 _ hm0).2 (.inl ?_)
       rw [e1]; simp
      ·exact f6 y hy
   ·next hlt =>
    simp only [Option.bind_some] at h
    split at h
    case isFalse => cases h
    simp only [Option.some.injEq, Prod.mk.injEq] at h
    obtain ⟨rfl, rfl⟩ := h; refine ⟨[], by simp, hs, by simpa using hG, fun p hp => (by cases hp), fun A p C y hL _ => ?_, fun y hy => ?_⟩
    ·cases A <;> cases hL
    ·rw [List.drop_of_length_le (by omega)] at hy
     cases hy
theorem order_dfs (g : List (List Int)) (root : Int) (hg : Gr g) (h0 : 0 ≤ root) (h1 : root < (g.length : Int)) (hn : g.length ≤ 100000) (hr : ∀ r ∈ g, r.length ≤ 100000) :
  ∃ P, Evt (fun k => collectF k g root) P ∧ P.length ≤ g.length ∧ OrdOf g root P ∧ ∀ i (hi : i < P.length), ∀ y ∈ rd_L1 g P[i], (∃ j, ∃ hj : j < P.length, j < i ∧ P[j] = y) ∨ Rch g (fun _ => false) [y] P[i] := by
 obtain ⟨P, hP1, hP2, hP3, _⟩ := order_spec g root hg h0 h1 hn hr; refine ⟨P, hP1, hP2, hP3, ?_⟩
 have hlen : (List.replicate g.length false).length = g.length := by simp
 have hf : ∀ x : Int, rdOf false (List.replicate g.length false) x = false := rdOf_replicate _
 obtain ⟨l', s', hv, he⟩ := visit_ex g hg hn hr _ root (List.replicate g.length false) [] hlen (Nat.le_refl _) h0 h1 (hf _) (by simp)
 obtain ⟨k, hk⟩ := hv.get; obtain ⟨P', e1, e2, e3, e4⟩ := (sim g hr hn k).1 root _ [] l' s' hk h1 hlen (hf _); obtain ⟨Q, q1, _, _, q4, q5⟩ := (visD g hg hr k).1 root _ [] l' s' (fun _ => False) hk h1 hlen (hf _) (fun x _ => by rw [hf]; simp)
 have e5 := e4 [] [] (by simp) (Evt.succ (by simp only [poF]; exact Evt.pos rfl (Evt.const [])))
 rw [List.append_nil] at e1 e5 q1
 have hPl' : P'.length ≤ g.length := by
  have := he.sum
  rw [e1] at this; simp at this
  omega
 have hPe : Evt (fun k => collectF k g root) P' := by
  unfold collectF
  refine Evt.pos (by omega) (Evt.pos (by omega) (Evt.pos (by omega) ?_))
  refine Evt.bind e5 ?_
  exact Evt.pos (by omega) (Evt.const P')
 obtain rfl := hP1.uniq hPe; have hPQ : P = (root :: Q).reverse := by rw [← q1, e1, List.reverse_reverse]
 have hl : P.length = Q.length + 1 := by rw [hPQ]; simp
 intro i hi y hy
 have hge : ∀ i (hi : i < P.length), P[i] = (root :: Q)[P.length - 1 - i]'(by simp; omega) := by
  intro i hi
  have : P[i] = (root :: Q).reverse[i]'(by rw [← hPQ]; exact hi) := by simp only [hPQ]
  rw [this, List.getElem_reverse]; congr 1
  rw [hl]; simp
 have hsplit : root :: Q = (root :: Q).take (P.length - 1 - i) ++ P[i] :: (root :: Q).drop (P.length - 1 - i + 1) := by
  rw [hge i hi, List.getElem_cons_drop, List.take_append_drop]
 rcases q5 _ _ _ y hsplit hy with h | h | h | h
 ·left
  obtain ⟨m, hm, hm2⟩ := List.mem_iff_getElem.1 h; rw [List.length_drop] at hm; have hml : m + (P.length - 1 - i + 1) < (root :: Q).length := by omega
  have hcl : (root :: Q).length = P.length := by rw [hl]; simp
  refine ⟨P.length - 1 - (m + (P.length - 1 - i + 1)), by omega, by omega, ?_⟩
  rw [hge _ (by omega), ← hm2, List.getElem_drop]
  congr 1
  omega
 ·cases h
 ·exact h.elim
 ·exact .inr h
noncomputable def restRow (g : List (List Int)) (a : Int) (l : List Int) : List Int := l.filter fun b => @decide (¬ TD g b a) (Classical.propDecidable _)
theorem restRow_mem {g : List (List Int)} {a : Int} {l : List Int} {b : Int} : b ∈ restRow g a l ↔ b ∈ l ∧ ¬ TD g b a := by
 unfold restRow
 rw [List.mem_filter]; exact and_congr_right fun _ => @decide_eq_true_iff _ (Classical.propDecidable _)
theorem restRow_take (g : List (List Int)) (a : Int) (l : List Int) (i : Nat) (hi : i < l.length) : restRow g a (l.take (i + 1)) = restRow g a (l.take i) ++ (@ite _ (TD g l[i] a) (Classical.propDecidable _) [] [l[i]]) := by
 unfold restRow
 rw [List.take_succ_eq_append_getElem hi, List.filter_append]; congr 1
 by_cases h : TD g l[i] a
 ·rw [if_pos h, List.filter_cons_of_neg (by simpa using h), List.filter_nil]
 ·rw [if_neg h, List.filter_cons_of_pos (by simpa using h), List.filter_nil]
noncomputable def restL (g : List (List Int)) : List (List Int) := (List.range g.length).map fun (a : Nat) => restRow g (a : Int) (rd_L1 g (a : Int))
theorem restL_len (g : List (List Int)) : (restL g).length = g.length := by simp [restL]
theorem restL_row {g : List (List Int)} {a : Int} (h0 : 0 ≤ a) (h1 : a < (g.length : Int)) : rd_L1 (restL g) a = restRow g a (rd_L1 g a) := by
 obtain ⟨i, rfl⟩ := Int.eq_ofNat_of_zero_le h0; rw [rd_L1_nat _ i (by rw [restL_len]; omega)]
 simp [restL]
theorem restL_gr {g : List (List Int)} (hg : Gr g) : Gr (restL g) := by
 intro r hr x hx
 obtain ⟨i, hi, rfl⟩ := List.mem_iff_getElem.1 hr; rw [restL_len] at hi ⊢
 have e : (restL g)[i]'(by rw [restL_len]; exact hi) = rd_L1 (restL g) (i : Int) := (rd_L1_nat _ i (by rw [restL_len]; exact hi)).symm
 rw [e, restL_row (by omega) (by omega)] at hx
 exact hg.row _ x (restRow_mem.1 hx).1
theorem restL_rows {g : List (List Int)} (hr : ∀ r ∈ g, r.length ≤ 4) : ∀ r ∈ restL g, r.length ≤ 4 := by
 intro r hrr
 obtain ⟨i, hi, rfl⟩ := List.mem_iff_getElem.1 hrr; have hi2 : i < g.length := by rw [restL_len] at hi; exact hi
 have e : (restL g)[i] = rd_L1 (restL g) (i : Int) := (rd_L1_nat _ i hi).symm
 rw [e, restL_row (by omega) (by omega)]
 exact Nat.le_trans (List.length_filter_le _ _) (rd_L1_len hr _)
inductive RN (g : List (List Int)) : Nat → Int → Prop
 | zero : RN g 0 0
 | succ {k : Nat} {a x : Int} : RN g k a → x ∈ rd_L1 g a → RN g (k + 1) x
theorem RN.of {g : List (List Int)} {x : Int} (h : Rg g 0 x) : ∃ k, RN g k x := by
 induction h with
 | base h _ => obtain rfl := List.mem_singleton.1 h; exact ⟨0, RN.zero⟩
 | step _ h2 _ ih => obtain ⟨k, hk⟩ := ih; exact ⟨k + 1, RN.succ hk h2⟩
theorem RN.pass {g : List (List Int)} (x : Int) {k : Nat} {a : Int} (h : RN g k a) : (∃ j, j ≤ k ∧ RN g j x) ∨ Rch g (fun n => n == x) [0] a := by
 induction h with
 | zero =>
  by_cases e : x = 0
  ·subst e; exact .inl ⟨0, Nat.le_refl _, RN.zero⟩
  ·exact .inr (Rch.base (by simp) (by simpa using Ne.symm e))
 | @succ k a y h1 h2 ih =>
  rcases ih with ⟨j, hj, hj2⟩ | ih
  ·exact .inl ⟨j, by omega, hj2⟩
  ·by_cases e : y = x
   ·subst e; exact .inl ⟨k + 1, Nat.le_refl _, RN.succ h1 h2⟩
   ·exact .inr (Rch.step ih h2 (by simpa using e))
theorem rest_reach {g : List (List Int)} (hrng : ∀ x, Rg g 0 x → 0 ≤ x ∧ x < (g.length : Int)) : ∀ (k : Nat) (x : Int), RN g k x → Rg g 0 x → Rg (restL g) 0 x
 | k, x, h, hx => by
  cases h with
  | zero => exact Rch.base (by simp) rfl
  | @succ k' a _ h1 h2 =>
   have ha : Rg g 0 a := by
    clear h2 hx; induction h1 with
    | zero => exact Rch.base (by simp) rfl
    | succ _ h4 ih => exact Rch.step ih h4 rfl
   by_cases hd : TD g x a
   ·rcases h1.pass x with ⟨j, hj, hj2⟩ | hc
    ·exact rest_reach hrng j x hj2 hx
    ·exact absurd hc hd.2.2
   ·have := rest_reach hrng k' a h1 ha
    obtain ⟨a0, a1⟩ := hrng a ha; exact Rch.step this (by rw [restL_row a0 a1, restRow_mem]; exact ⟨h2, hd⟩) rfl
theorem rest_rg {g : List (List Int)} (hrng : ∀ x, Rg g 0 x → 0 ≤ x ∧ x < (g.length : Int)) (hg : Gr g) (h1 : 1 ≤ g.length) (x : Int) : Rg (restL g) 0 x ↔ Rg g 0 x := by
 have hin : InR (restL g).length [0] := fun x hx => by obtain rfl := List.mem_singleton.1 hx; rw [restL_len]; omega
 constructor
 ·intro h
  refine Rch.list (fun a y ha hy => ?_) (fun _ h => h) h
  obtain ⟨a0, a1⟩ := ha.range (restL_gr hg) hin; rw [restL_len] at a1; rw [restL_row a0 a1] at hy; exact (restRow_mem.1 hy).1
 ·intro h
  obtain ⟨k, hk⟩ := RN.of h; exact rest_reach hrng k x hk h
def RedP (g : List (List Int)) : Prop := ∀ a : Int, Rg g 0 a → ¬ Rch (restL g) (fun _ => false) (rd_L1 (restL g) a) a
end Go.Proofs.Ytjjedbcgkljdeaa.M
end
section
namespace Go.Proofs.Ytjjedbcgkljdeaa.M
open Go.RowKit Go.Proofs.YtjjedbcgkljdeaaW.PrintWords Go.Proofs.YtjjedbcgkljdeaaW.PrintLast Go.Proofs.YtjjedbcgkljdeaaW.PrintMore Go.Proofs.Ytjjedbcgkljdeaa.A
structure Prm (σ τ : Int → Int) (n : Nat) : Prop where
 rs : ∀ x : Int, 0 ≤ x → x < (n : Int) → 0 ≤ σ x ∧ σ x < (n : Int)
 rt : ∀ x : Int, 0 ≤ x → x < (n : Int) → 0 ≤ τ x ∧ τ x < (n : Int)
 ts : ∀ x : Int, 0 ≤ x → x < (n : Int) → τ (σ x) = x
 st : ∀ x : Int, 0 ≤ x → x < (n : Int) → σ (τ x) = x
theorem Prm.symm {σ τ : Int → Int} {n : Nat} (h : Prm σ τ n) : Prm τ σ n := ⟨h.rt, h.rs, h.st, h.ts⟩
theorem Prm.inj {σ τ : Int → Int} {n : Nat} (h : Prm σ τ n) {x y : Int} (hx0 : 0 ≤ x) (hx1 : x < (n : Int)) (hy0 : 0 ≤ y) (hy1 : y < (n : Int)) (e : σ x = σ y) : x = y := by
 rw [← h.ts x hx0 hx1, e, h.ts y hy0 hy1]
structure Iso (σ τ : Int → Int) (n : Nat) (g h : List (List Int)) : Prop where
 p : Prm σ τ n
 gl : g.length = n
 hl : h.length = n
 gg : Gr g
 gh : Gr h
 row : ∀ a y : Int, 0 ≤ a → a < (n : Int) → 0 ≤ y → y < (n : Int) → (y ∈ rd_L1 g a ↔ σ y ∈ rd_L1 h (σ a))
section
variable {σ τ : Int → Int} {n : Nat} {g h G H : List (List Int)}
theorem Iso.symm (i : Iso σ τ n g h) : Iso τ σ n h g := ⟨i.p.symm, i.hl, i.gl, i.gh, i.gg, fun a y a0 a1 y0 y1 => by
 have h1 := i.row (τ a) (τ y) (i.p.rt a a0 a1).1 (i.p.rt a a0 a1).2 (i.p.rt y y0 y1).1 (i.p.rt y y0 y1).2; rw [i.p.st a a0 a1, i.p.st y y0 y1] at h1; exact h1.symm⟩
theorem rch_map (i : Iso σ τ n G H) {P P' : Int → Bool} {l l' : List Int} (hin : InR n l) (hl : ∀ x ∈ l, σ x ∈ l') (hP : ∀ x : Int, 0 ≤ x → x < (n : Int) → P x = false → P' (σ x) = false) {x : Int} (h : Rch G P l x) : Rch H P' l' (σ x) := by
 have hin' : InR G.length l := by rw [i.gl]; exact hin
 have hr : ∀ y, Rch G P l y → 0 ≤ y ∧ y < (n : Int) := fun y hy => by have := hy.range i.gg hin'; rw [i.gl] at this; exact this
 induction h with
 | base h1 h2 => exact Rch.base (hl _ h1) (hP _ (hin _ h1).1 (hin _ h1).2 h2)
 | @step a y ha hy hPy ih =>
  obtain ⟨a0, a1⟩ := hr a ha; obtain ⟨y0, y1⟩ := hr y (Rch.step ha hy hPy); exact Rch.step ih ((i.row a y a0 a1 y0 y1).1 hy) (hP y y0 y1 hPy)
theorem Iso.rch (i : Iso σ τ n G H) {P P' : Int → Bool} {l l' : List Int} (hin : InR n l) (hin' : InR n l') (hl : ∀ x : Int, 0 ≤ x → x < (n : Int) → (x ∈ l ↔ σ x ∈ l')) (hP : ∀ x : Int, 0 ≤ x → x < (n : Int) → P x = P' (σ x)) (x : Int) (x0 : 0 ≤ x) (x1 : x < (n : Int)) : Rch G P l x ↔ Rch H P' l' (σ x) := by
 constructor
 ·exact rch_map i hin (fun y hy => (hl y (hin y hy).1 (hin y hy).2).1 hy) (fun y y0 y1 h => by rw [← hP y y0 y1]; exact h)
 ·intro h
  have := rch_map i.symm (P' := P) (l' := l) hin' (fun z hz => by
   obtain ⟨z0, z1⟩ := hin' z hz; refine (hl _ (i.p.rt z z0 z1).1 (i.p.rt z z0 z1).2).2 ?_
   rw [i.p.st z z0 z1]; exact hz) (fun z z0 z1 h => by
   rw [hP _ (i.p.rt z z0 z1).1 (i.p.rt z z0 z1).2, i.p.st z z0 z1]; exact h) h
  rw [i.p.ts x x0 x1] at this; exact this
theorem Iso.zero (i : Iso σ τ n g h) (_s0 : σ 0 = 0) (n0 : 0 < n) : τ 0 = 0 := by
 have := i.p.ts 0 (by omega) (by omega)
 rwa [_s0] at this
theorem Iso.beq (i : Iso σ τ n g h) (a : Int) (a0 : 0 ≤ a) (a1 : a < (n : Int)) (x : Int) (x0 : 0 ≤ x) (x1 : x < (n : Int)) : (x == a) = (σ x == σ a) := by
 rw [Bool.eq_iff_iff]; simp only [beq_iff_eq]
 exact ⟨fun e => by rw [e], fun e => i.p.inj x0 x1 a0 a1 e⟩
theorem one_in (n0 : 0 < n) : InR n [0] := fun x hx => by obtain rfl := List.mem_singleton.1 hx; omega
theorem Iso.root (i : Iso σ τ n g h) (s0 : σ 0 = 0) (n0 : 0 < n) (x : Int) (x0 : 0 ≤ x) (x1 : x < (n : Int)) : x ∈ [(0 : Int)] ↔ σ x ∈ [(0 : Int)] := by
 simp only [List.mem_singleton]
 exact ⟨fun e => by rw [e, s0], fun e => i.p.inj x0 x1 (by omega) (by omega) (by rw [e, s0])⟩
theorem Iso.rg (i : Iso σ τ n g h) (s0 : σ 0 = 0) (n0 : 0 < n) (x : Int) (x0 : 0 ≤ x) (x1 : x < (n : Int)) : Rg g 0 x ↔ Rg h 0 (σ x) :=
 i.rch (P := fun _ => false) (P' := fun _ => false) (one_in n0) (one_in n0) (i.root s0 n0) (fun _ _ _ => rfl) x x0 x1
theorem Iso.td (i : Iso σ τ n g h) (s0 : σ 0 = 0) (n0 : 0 < n) (a b : Int) (a0 : 0 ≤ a) (a1 : a < (n : Int)) (b0 : 0 ≤ b) (b1 : b < (n : Int)) : TD g a b ↔ TD h (σ a) (σ b) := by
 unfold TD
 rw [show Rch g (fun _ => false) [0] a ↔ Rch h (fun _ => false) [0] (σ a) from i.rg s0 n0 a a0 a1, show Rch g (fun _ => false) [0] b ↔ Rch h (fun _ => false) [0] (σ b) from i.rg s0 n0 b b0 b1,
  i.rch (P := fun n => n == a) (P' := fun n => n == σ a) (one_in n0) (one_in n0) (i.root s0 n0) (fun x x0 x1 => i.beq a a0 a1 x x0 x1) b b0 b1]
theorem exits_mem (g : List (List Int)) (x : Int) : x ∈ exitsL g 0 ↔ 0 ≤ x ∧ x < (g.length : Int) ∧ (rd_L1 g x).length = 0 := by
 unfold exitsL
 rw [List.drop_zero, List.mem_filterMap]; constructor
 ·rintro ⟨b, hb, h⟩
  have := List.mem_range.1 hb
  by_cases e : (rd_L1 g (b : Int)).length = 0
  ·rw [if_pos e] at h; obtain rfl := Option.some.inj h; exact ⟨by omega, by omega, e⟩
  ·rw [if_neg e] at h; cases h
 ·rintro ⟨x0, x1, e⟩
  obtain ⟨k, rfl⟩ := Int.eq_ofNat_of_zero_le x0; exact ⟨k, List.mem_range.2 (by omega), by rw [if_pos e]⟩
theorem row_empty (hg : Gr g) (a : Int) : (rd_L1 g a).length = 0 ↔ ∀ y : Int, 0 ≤ y → y < (g.length : Int) → y ∉ rd_L1 g a := by
 constructor
 ·intro e y _ _ hy
  rw [List.eq_nil_of_length_eq_zero e] at hy; cases hy
 ·intro h
  cases e : rd_L1 g a with
  | nil => rfl
  | cons y ys =>
   have hy : y ∈ rd_L1 g a := by rw [e]; exact List.mem_cons_self
   obtain ⟨y0, y1⟩ := hg.row a y hy; exact absurd hy (h y y0 y1)
theorem Iso.exits (i : Iso σ τ n g h) (x : Int) (x0 : 0 ≤ x) (x1 : x < (n : Int)) : x ∈ exitsL g 0 ↔ σ x ∈ exitsL h 0 := by
 rw [exits_mem, exits_mem, row_empty i.gg, row_empty i.gh, i.gl, i.hl]; have hs := i.p.rs x x0 x1; constructor
 ·rintro ⟨_, _, h⟩
  refine ⟨hs.1, hs.2, fun y y0 y1 hy => ?_⟩
  have ht := i.p.rt y y0 y1; refine h (τ y) ht.1 ht.2 ((i.row x (τ y) x0 x1 ht.1 ht.2).2 ?_)
  rw [i.p.st y y0 y1]; exact hy
 ·rintro ⟨_, _, h⟩
  exact ⟨x0, x1, fun y y0 y1 hy => h (σ y) (i.p.rs y y0 y1).1 (i.p.rs y y0 y1).2 ((i.row x y x0 x1 y0 y1).1 hy)⟩
theorem Iso.turned (i : Iso σ τ n g h) {B B' : Nat} {T T' : List (List Int)} (hT : TurnedOf B g T) (hT' : TurnedOf B' h T') : Iso σ τ n T T' :=
 ⟨i.p, by rw [hT.len, i.gl], by rw [hT'.len, i.hl], hT.gr, hT'.gr, fun a y a0 a1 y0 y1 => by
  have hs := i.p.rs a a0 a1; have hy := i.p.rs y y0 y1; rw [hT.mem a a0 (by rw [i.gl]; exact a1), hT'.mem (σ a) hs.1 (by rw [i.hl]; exact hs.2), i.row y a y0 y1 a0 a1, i.gl, i.hl]
  exact ⟨fun h => ⟨hy.1, hy.2, h.2.2⟩, fun h => ⟨y0, y1, h.2.2⟩⟩⟩
theorem Iso.pd (i : Iso σ τ n g h) {B B' : Nat} {T T' : List (List Int)} (hT : TurnedOf B g T) (hT' : TurnedOf B' h T') (a b : Int) (a0 : 0 ≤ a) (a1 : a < (n : Int)) (b0 : 0 ≤ b) (b1 : b < (n : Int)) : PD g T a b ↔ PD h T' (σ a) (σ b) := by
 have it := i.turned hT hT'; have hx : InR n (exitsL g 0) := by have := exits_inR g; rwa [i.gl] at this
 have hx' : InR n (exitsL h 0) := by have := exits_inR h; rwa [i.hl] at this
 unfold PD
 rw [it.rch (P := fun _ => false) (P' := fun _ => false) hx hx' i.exits (fun _ _ _ => rfl) b b0 b1, it.rch (P := fun n => n == a) (P' := fun n => n == σ a) hx hx' i.exits (fun x x0 x1 => i.beq a a0 a1 x x0 x1) b b0 b1]
theorem imm_iso (p : Prm σ τ n) {t t' : List (List Bool)} {D D' : Int → Int → Prop} (ht : TabOf t n D) (ht' : TabOf t' n D') (hD : ∀ a b : Int, 0 ≤ a → a < (n : Int) → 0 ≤ b → b < (n : Int) → (D a b ↔ D' (σ a) (σ b))) (a b : Int) (a0 : 0 ≤ a) (a1 : a < (n : Int)) (b0 : 0 ≤ b) (b1 : b < (n : Int)) : Imm t n a b ↔ Imm t' n (σ a) (σ b) := by
 have hDb : ∀ x y : Int, 0 ≤ x → x < (n : Int) → 0 ≤ y → y < (n : Int) → Db t x y = Db t' (σ x) (σ y) := fun x y x0 x1 y0 y1 => by
  rw [Bool.eq_iff_iff, ht.iff x y x0 x1 y0 y1, hD x y x0 x1 y0 y1]; exact (ht'.iff _ _ (p.rs x x0 x1).1 (p.rs x x0 x1).2 (p.rs y y0 y1).1 (p.rs y y0 y1).2).symm
 have hN : ∀ c : Int, 0 ≤ c → c < (n : Int) → Near t n a b c = Near t' n (σ a) (σ b) (σ c) := fun c c0 c1 => by
  unfold Near
  rw [hDb c b c0 c1 b0 b1, hDb c a c0 c1 a0 a1]; congr 2
  exact decide_eq_decide.2 ⟨fun e => by rw [e], fun e => p.inj c0 c1 b0 b1 e⟩
 unfold Imm
 rw [hDb a b a0 a1 b0 b1]; constructor
 ·rintro ⟨h1, h2, h3⟩
  refine ⟨fun e => h1 (p.inj a0 a1 b0 b1 e), h2, fun c c0 c1 => ?_⟩
  have hc := p.rt c c0 c1; have := h3 (τ c) hc.1 hc.2
  rw [hN _ hc.1 hc.2, p.st c c0 c1] at this; exact this
 ·rintro ⟨h1, h2, h3⟩
  refine ⟨fun e => h1 (by rw [e]), h2, fun c c0 c1 => ?_⟩
  rw [hN c c0 c1]; exact h3 _ (p.rs c c0 c1).1 (p.rs c c0 c1).2
theorem imm_list (p : Prm σ τ n) {I I' : Int → Int → Prop} {dl dl' : List Int} (hI : ∀ a b : Int, 0 ≤ a → a < (n : Int) → 0 ≤ b → b < (n : Int) → (I a b ↔ rd dl b = a)) (hI' : ∀ a b : Int, 0 ≤ a → a < (n : Int) → 0 ≤ b → b < (n : Int) → (I' a b ↔ rd dl' b = a))
  (hr : ∀ b : Int, 0 ≤ b → b < (n : Int) → rd dl b = -1 ∨ 0 ≤ rd dl b ∧ rd dl b < (n : Int)) (hr' : ∀ b : Int, 0 ≤ b → b < (n : Int) → rd dl' b = -1 ∨ 0 ≤ rd dl' b ∧ rd dl' b < (n : Int))
  (hii : ∀ a b : Int, 0 ≤ a → a < (n : Int) → 0 ≤ b → b < (n : Int) → (I a b ↔ I' (σ a) (σ b))) (b : Int) (b0 : 0 ≤ b) (b1 : b < (n : Int)) : rd dl' (σ b) = if rd dl b < 0 then -1 else σ (rd dl b) := by
 have hb := p.rs b b0 b1; rcases hr b b0 b1 with e | ⟨h0, h1⟩
 ·rw [if_pos (by omega)]
  rcases hr' (σ b) hb.1 hb.2 with e' | ⟨h0', h1'⟩
  ·exact e'
  ·exfalso
   have hz := p.rt _ h0' h1'; have h2 := (hI' _ _ h0' h1' hb.1 hb.2).2 rfl; rw [← p.st _ h0' h1'] at h2; have h3 := (hI _ _ hz.1 hz.2 b0 b1).1 ((hii _ _ hz.1 hz.2 b0 b1).2 (by rw [p.st _ h0' h1'] at h2 ⊢; exact h2))
   omega
 ·rw [if_neg (by omega)]
  have hs := p.rs _ h0 h1; exact (hI' _ _ hs.1 hs.2 hb.1 hb.2).1 ((hii _ _ h0 h1 b0 b1).1 ((hI _ _ h0 h1 b0 b1).2 rfl))
theorem Iso.fc (i : Iso σ τ n g h) (s0 : σ 0 = 0) (n0 : 0 < n) (a b : Int) (a0 : 0 ≤ a) (a1 : a < (n : Int)) (b0 : 0 ≤ b) (b1 : b < (n : Int)) : FC g a b ↔ FC h (σ a) (σ b) := by
 have key : ∀ p : Int, 0 ≤ p → p < (n : Int) → (b ∈ rd_L1 g p ∧ FCe g a p b ↔ σ b ∈ rd_L1 h (σ p) ∧ FCe h (σ a) (σ p) (σ b)) := fun p p0 p1 => by
  unfold FCe
  rw [i.row p b p0 p1 b0 b1, i.rg s0 n0 p p0 p1, i.td s0 n0 a p a0 a1 p0 p1, i.td s0 n0 a b a0 a1 b0 b1]; have : a = b ↔ σ a = σ b := ⟨fun e => by rw [e], fun e => i.p.inj a0 a1 b0 b1 e⟩
  rw [this]
 unfold FC
 rw [i.gl, i.hl]; constructor
 ·rintro ⟨p, p0, p1, h1⟩
  exact ⟨σ p, (i.p.rs p p0 p1).1, (i.p.rs p p0 p1).2, (key p p0 p1).1 h1⟩
 ·rintro ⟨q, q0, q1, h1⟩
  have hq := i.p.rt q q0 q1; refine ⟨τ q, hq.1, hq.2, (key _ hq.1 hq.2).2 ?_⟩
  rw [i.p.st q q0 q1]; exact h1
theorem Iso.bk (i : Iso σ τ n g h) (s0 : σ 0 = 0) (n0 : 0 < n) (b y : Int) (b0 : 0 ≤ b) (b1 : b < (n : Int)) (y0 : 0 ≤ y) (y1 : y < (n : Int)) : Bk g b y ↔ Bk h (σ b) (σ y) := by
 unfold Bk
 rw [i.row y b y0 y1 b0 b1, i.td s0 n0 b y b0 b1 y0 y1]
theorem Iso.lf (i : Iso σ τ n g h) (s0 : σ 0 = 0) (n0 : 0 < n) {B B' : Nat} {T T' : List (List Int)} (hT : TurnedOf B g T) (hT' : TurnedOf B' h T') (b x : Int) (b0 : 0 ≤ b) (b1 : b < (n : Int)) (x0 : 0 ≤ x) (x1 : x < (n : Int)) : LF g T b x ↔ LF h T' (σ b) (σ x) := by
 have hb := i.p.rs b b0 b1; have it := i.turned hT hT'; have e1 : (∃ y : Int, 0 ≤ y ∧ y < (g.length : Int) ∧ Bk g b y) ↔ (∃ y : Int, 0 ≤ y ∧ y < (h.length : Int) ∧ Bk h (σ b) y) := by
  rw [i.gl, i.hl]; constructor
  ·rintro ⟨y, y0, y1, h1⟩
   exact ⟨σ y, (i.p.rs y y0 y1).1, (i.p.rs y y0 y1).2, (i.bk s0 n0 b y b0 b1 y0 y1).1 h1⟩
  ·rintro ⟨y, y0, y1, h1⟩
   have hy := i.p.rt y y0 y1; refine ⟨τ y, hy.1, hy.2, (i.bk s0 n0 b _ b0 b1 hy.1 hy.2).2 ?_⟩
   rw [i.p.st y y0 y1]; exact h1
 have e2 : Rch T (fun m => m == b) (rowTo (Bk g b) g.length) x ↔ Rch T' (fun m => m == σ b) (rowTo (Bk h (σ b)) h.length) (σ x) := by
  refine it.rch (fun y hy => ?_) (fun y hy => ?_) (fun y y0 y1 => ?_) (fun y y0 y1 => i.beq b b0 b1 y y0 y1) x x0 x1
  ·have := (rowTo_mem _ _ _).1 hy; rw [i.gl] at this; exact ⟨this.1, this.2.1⟩
  ·have := (rowTo_mem _ _ _).1 hy; rw [i.hl] at this; exact ⟨this.1, this.2.1⟩
  ·have hy := i.p.rs y y0 y1; rw [rowTo_mem, rowTo_mem, i.bk s0 n0 b y b0 b1 y0 y1, i.gl, i.hl]; exact ⟨fun h => ⟨hy.1, hy.2, h.2.2⟩, fun h => ⟨y0, y1, h.2.2⟩⟩
 have e3 : x = b ↔ σ x = σ b := ⟨fun e => by rw [e], fun e => i.p.inj x0 x1 b0 b1 e⟩
 unfold LF
 rw [e1, e2, i.rg s0 n0 x x0 x1, e3]
theorem Iso.rest (i : Iso σ τ n g h) (s0 : σ 0 = 0) (n0 : 0 < n) : Iso σ τ n (restL g) (restL h) :=
 ⟨i.p, by rw [restL_len, i.gl], by rw [restL_len, i.hl], restL_gr i.gg, restL_gr i.gh, fun a y a0 a1 y0 y1 => by
  have ha := i.p.rs a a0 a1; rw [restL_row a0 (by rw [i.gl]; exact a1), restL_row ha.1 (by rw [i.hl]; exact ha.2), restRow_mem, restRow_mem, i.row a y a0 a1 y0 y1, i.td s0 n0 y a y0 y1 a0 a1]⟩
theorem redP_map (i : Iso σ τ n g h) (s0 : σ 0 = 0) (n0 : 0 < n) (hr : RedP g) : RedP h := by
 intro z hz hc
 have hrz := hz.range i.gh (by rw [i.hl]; exact one_in n0)
 rw [i.hl] at hrz; obtain ⟨z0, z1⟩ := hrz; have ht := i.p.rt z z0 z1; have ir := i.rest s0 n0; refine hr (τ z) ((i.rg s0 n0 _ ht.1 ht.2).2 (by rw [i.p.st z z0 z1]; exact hz)) ?_
 have hin : InR n (rd_L1 (restL g) (τ z)) := by have := ir.gg.row (τ z); rwa [ir.gl] at this
 have hin' : InR n (rd_L1 (restL h) z) := by have := ir.gh.row z; rwa [ir.hl] at this
 refine (ir.rch hin hin' (fun x x0 x1 => ?_) (fun _ _ _ => rfl) (τ z) ht.1 ht.2).2 (by rw [i.p.st z z0 z1]; exact hc)
 have := ir.row (τ z) x ht.1 ht.2 x0 x1
 rw [i.p.st z z0 z1] at this; exact this
theorem Iso.redP (i : Iso σ τ n g h) (s0 : σ 0 = 0) (n0 : 0 < n) : RedP g ↔ RedP h := ⟨redP_map i s0 n0, redP_map i.symm (i.zero s0 n0) n0⟩
end
end Go.Proofs.Ytjjedbcgkljdeaa.M
end
section
namespace Go.Proofs.Ytjjedbcgkljdeaa.M
open Go.RowKit Go.Proofs.YtjjedbcgkljdeaaW.PrintWords Go.Proofs.YtjjedbcgkljdeaaW.PrintLast Go.Proofs.YtjjedbcgkljdeaaW.PrintMore Go.Proofs.Ytjjedbcgkljdeaa.A
theorem index_l0 (l : List Int) (x : Int) (hl : l.length ≤ 100000) : ∀ (d i : Nat), i + d = l.length → ∃ v : Int, (0 ≤ v ↔ x ∈ l.drop i) ∧ Evt (fun k => slices_Index_int_int.l0 k l x (l.length : Int) (i : Int)) v
 | 0, i, hd => by
  refine ⟨-1, ⟨fun h => by omega, fun h => ?_⟩, Evt.succ ?_⟩
  ·rw [List.drop_of_length_le (by omega)] at h; cases h
  ·simp only [slices_Index_int_int.l0]
   exact Evt.neg (by omega) (Evt.const _)
 | d + 1, i, hd => by
  have hi : i < l.length := by omega
  obtain ⟨v, hv, he⟩ := index_l0 l x hl d (i + 1) (by omega)
  rw [List.drop_eq_getElem_cons hi]; by_cases e : x = l[i]
  ·refine ⟨(i : Int), ⟨fun _ => by rw [e]; exact List.mem_cons_self, fun _ => by omega⟩, Evt.succ ?_⟩
   simp only [slices_Index_int_int.l0, rd_nat _ _ hi]
   exact Evt.pos (by omega) (Evt.pos (by omega) (Evt.pos (by omega) (Evt.pos e (Evt.const _))))
  ·refine ⟨v, by rw [hv, List.mem_cons]; exact ⟨.inr, fun h => h.resolve_left e⟩, Evt.succ ?_⟩
   simp only [slices_Index_int_int.l0, rd_nat _ _ hi, wrap_succ i (by omega)]
   exact Evt.pos (by omega) (Evt.pos (by omega) (Evt.pos (by omega) (Evt.neg e he)))
theorem contains_ev (l : List Int) (x : Int) (hl : l.length ≤ 100000) : ∃ v : Bool, (v = true ↔ x ∈ l) ∧ Evt (fun k => slices_Contains_int_int.f k l x) v := by
 obtain ⟨v, hv, he⟩ := index_l0 l x hl l.length 0 (by omega)
 rw [List.drop_zero] at hv; refine ⟨decide (v ≥ 0), by rw [decide_eq_true_eq]; exact hv, ?_⟩
 unfold slices_Contains_int_int.f slices_Index_int_int.f
 exact Evt.bind he (Evt.const _)
structure LfI (g left : List (List Int)) (a i : Nat) : Prop where
 len : left.length = g.length
 done : ∀ c : Nat, c < a → rd_L1 left (c : Int) = restRow g (c : Int) (rd_L1 g (c : Int))
 now : rd_L1 left (a : Int) = restRow g (a : Int) ((rd_L1 g (a : Int)).take i)
 rest : ∀ c : Nat, a < c → rd_L1 left (c : Int) = []
theorem LfI.zero (g : List (List Int)) : LfI g (List.replicate g.length []) 0 0 := by
 have hrep : ∀ a : Nat, rd_L1 (List.replicate g.length []) (a : Int) = [] := fun a => by
  unfold rd_L1
  rw [List.getD_eq_getElem?_getD, List.getElem?_replicate]; split <;> rfl
 exact ⟨by simp, fun c hc => absurd hc (by omega), by rw [hrep]; rfl, fun c _ => hrep c⟩
theorem LfI.next {g left : List (List Int)} {a i : Nat} (h : LfI g left a i) (hi : (rd_L1 g (a : Int)).length ≤ i) : LfI g left (a + 1) 0 := by
 refine ⟨h.len, fun c hc => ?_, ?_, fun c hc => h.rest c (by omega)⟩
 ·by_cases e : c = a
  ·subst e; rw [h.now, List.take_of_length_le hi]
  ·exact h.done c (by omega)
 ·rw [h.rest (a + 1) (by omega)]; rfl
theorem LfI.skip {g left : List (List Int)} {a i : Nat} (h : LfI g left a i) (hi : i < (rd_L1 g (a : Int)).length) (hd : TD g (rd_L1 g (a : Int))[i] (a : Int)) : LfI g left a (i + 1) := by
 refine ⟨h.len, h.done, ?_, h.rest⟩
 rw [h.now, restRow_take g _ _ i hi, if_pos hd, List.append_nil]
theorem LfI.push {g left : List (List Int)} {a i : Nat} (h : LfI g left a i) (ha : a < g.length) (hi : i < (rd_L1 g (a : Int)).length) (hd : ¬ TD g (rd_L1 g (a : Int))[i] (a : Int)) :
  LfI g (left.set a (rd_L1 left (a : Int) ++ [(rd_L1 g (a : Int))[i]])) a (i + 1) := by
 have hl := h.len; have hset : ∀ c : Nat, rd_L1 (left.set a (rd_L1 left (a : Int) ++ [(rd_L1 g (a : Int))[i]])) (c : Int) = if c = a then rd_L1 left (a : Int) ++ [(rd_L1 g (a : Int))[i]] else rd_L1 left (c : Int) := fun c => by
  have := rd_L1_set left (a : Int) (c : Int) (rd_L1 left (a : Int) ++ [(rd_L1 g (a : Int))[i]]) (by omega) (by omega) (by omega)
  rw [Int.toNat_natCast] at this; rw [this]; by_cases e : c = a
  ·rw [if_pos (by omega), if_pos e]
  ·rw [if_neg (by omega), if_neg e]
 refine ⟨by rw [List.length_set, hl], fun c hc => ?_, ?_, fun c hc => ?_⟩
 ·rw [hset, if_neg (by omega)]; exact h.done c hc
 ·rw [hset, if_pos rfl, h.now, restRow_take g _ _ i hi, if_neg hd]
 ·rw [hset, if_neg (by omega)]; exact h.rest c hc
theorem LfI.all {g left : List (List Int)} (h : LfI g left g.length 0) : left = restL g := by
 apply List.ext_getElem (by rw [h.len, restL_len])
 intro i h1 h2
 have hi : i < g.length := by rw [← h.len]; exact h1
 have := h.done i hi
 rw [rd_L1_nat left i h1] at this; rw [this, ← restL_row (by omega) (by omega), rd_L1_nat _ i h2]
theorem LfI.row_len {g left : List (List Int)} {a i : Nat} (h : LfI g left a i) (hr : ∀ r ∈ g, r.length ≤ 4) : (rd_L1 left (a : Int)).length ≤ 4 := by
 rw [h.now]; refine Nat.le_trans (List.length_filter_le _ _) ?_
 rw [List.length_take]; have := rd_L1_len hr (a : Int)
 omega
theorem rdB_ev (g bk : List (List Int)) (hg : Gr g) (hn : g.length ≤ 40) (hr : ∀ r ∈ g, r.length ≤ 4) (hbk : BackOf g bk) (a : Nat) (ha : a < g.length) :
  ∀ (m i : Nat) (left : List (List Int)), i + m = (rd_L1 g (a : Int)).length → LfI g left a i → ∃ r, LfI g r (a + 1) 0 ∧ Evt (fun k => Go.Proofs.Ytjjedbcgkljdeaa.D.rdB k bk a ((rd_L1 g (a : Int)).drop i) left) r
 | 0, i, left, hm, h => by
  rw [List.drop_of_length_le (by omega)]
  exact ⟨left, h.next (by omega), Evt.const _⟩
 | m + 1, i, left, hm, h => by
  have hi : i < (rd_L1 g (a : Int)).length := by omega
  have hx := hg.row (a : Int) _ (List.getElem_mem hi); have hmem := List.getElem_mem hi; have hbl := hbk.len; have hll := h.len; have hrowl := h.row_len hr; obtain ⟨v, hv1, hv2⟩ := contains_ev (rd_L1 bk (rd_L1 g (a : Int))[i]) (a : Int) (by have := hbk.rows (rd_L1 g (a : Int))[i]; omega)
  rw [hbk.mem _ hx.1 hx.2] at hv1; rw [List.drop_eq_getElem_cons hi]; simp only [Go.Proofs.Ytjjedbcgkljdeaa.D.rdB]
  by_cases hvt : v = true
  ·obtain ⟨r, r1, r2⟩ := rdB_ev g bk hg hn hr hbk a ha m (i + 1) left (by omega) (h.skip hi (hv1.1 hvt).2.2.2)
   exact ⟨r, r1, Evt.pos hx.1 (Evt.pos (by omega) (Evt.bind hv2 (Evt.pos hvt r2)))⟩
  ·obtain ⟨r, r1, r2⟩ := rdB_ev g bk hg hn hr hbk a ha m (i + 1) _ (by omega) (h.push ha hi (fun hd => hvt (hv1.2 ⟨by omega, by omega, hmem, hd⟩)))
   exact ⟨r, r1, Evt.pos hx.1 (Evt.pos (by omega) (Evt.bind hv2 (Evt.neg hvt (Evt.pos (by omega) (Evt.pos (by omega) r2)))))⟩
theorem rdA_ev (g bk : List (List Int)) (hg : Gr g) (hn : g.length ≤ 40) (hr : ∀ r ∈ g, r.length ≤ 4) (hbk : BackOf g bk) :
  ∀ (m a : Nat) (left : List (List Int)), a + m = g.length → LfI g left a 0 → Evt (fun k => Go.Proofs.Ytjjedbcgkljdeaa.D.rdA k bk g (List.range' a m) left) (restL g)
 | 0, a, left, hm, h => by
  obtain rfl : a = g.length := by omega
  rw [h.all]; exact Evt.const _
 | m + 1, a, left, hm, h => by
  obtain ⟨r, r1, r2⟩ := rdB_ev g bk hg hn hr hbk a (by omega) (rd_L1 g (a : Int)).length 0 left (by omega) h
  have ih := rdA_ev g bk hg hn hr hbk m (a + 1) r (by omega) r1
  rw [List.drop_zero] at r2; simp only [List.range'_succ, Go.Proofs.Ytjjedbcgkljdeaa.D.rdA]
  exact Evt.bind r2 ih
theorem plF_ev (P : List Int) (n : Nat) (hP : InR n P) (hnd : P.Nodup) : ∀ (d j : Nat) (pl : List Int), j + d = P.length → pl.length = n → (∀ i (hi : i < P.length), i < j → rd pl P[i] = (i : Int)) →
  ∃ r, Go.Proofs.Ytjjedbcgkljdeaa.D.plF (P.drop j) j pl = some r ∧ r.length = n ∧ ∀ i (hi : i < P.length), rd r P[i] = (i : Int)
 | 0, j, pl, hd, hl, h => by
  rw [List.drop_of_length_le (by omega)]
  exact ⟨pl, rfl, hl, fun i hi => h i hi (by omega)⟩
 | d + 1, j, pl, hd, hl, h => by
  have hj : j < P.length := by omega
  obtain ⟨hq0, hq1⟩ := hP _ (List.getElem_mem hj); obtain ⟨r, r1, r2, r3⟩ := plF_ev P n hP hnd d (j + 1) (pl.set (P[j]).toNat (j : Int)) (by omega) (by simp [hl]) (fun i hi hij => by
   rw [rd_set pl P[j] (j : Int) P[i] hq0 (by omega) (hP _ (List.getElem_mem hi)).1]
   by_cases e : P[i] = P[j]
   ·rw [if_pos e]; have := nodup_inj hnd hi hj e
    omega
   ·rw [if_neg e]; refine h i hi ?_
    rcases Nat.lt_or_ge i j with h | h
    ·exact h
    ·exfalso
     apply e
     have : i = j := by omega
     subst this; rfl)
  refine ⟨r, ?_, r2, r3⟩
  rw [List.drop_eq_getElem_cons hj, Go.Proofs.Ytjjedbcgkljdeaa.D.plF, if_pos hq0, if_pos (by omega)]
  exact r1
theorem rdC_ev (seen : List Bool) (place : List Int) (n : Nat) (a : Nat) (ha : a < n) (hs : seen.length = n) (hp : place.length = n) : ∀ (l : List Int), InR n l → ∃ v : Bool, Go.Proofs.Ytjjedbcgkljdeaa.D.rdC seen place a l = some v ∧ (v = true ↔ (rdOf false seen (a : Int) = true → ∀ b ∈ l, rd place b < rd place (a : Int)))
 | [], _ => ⟨true, rfl, ⟨fun _ _ b hb => (by cases hb), fun _ => rfl⟩⟩
 | b :: bs, hl => by
  obtain ⟨hb0, hb1⟩ := hl b (by simp)
  obtain ⟨v, v1, v2⟩ := rdC_ev seen place n a ha hs hp bs (fun x hx => hl x (by simp [hx]))
  rw [Go.Proofs.Ytjjedbcgkljdeaa.D.rdC, if_pos (by omega)]
  by_cases hR : rdOf false seen (a : Int) = true
  ·rw [if_pos hR, if_pos hb0, if_pos (by omega), if_pos (by omega)]
   by_cases hge : rd place b ≥ rd place (a : Int)
   ·rw [if_pos hge]; exact ⟨false, rfl, ⟨fun h => (by cases h), fun h => absurd (h hR b (by simp)) (by omega)⟩⟩
   ·rw [if_neg hge]; refine ⟨v, v1, ?_⟩
    rw [v2]; constructor
    ·intro h _ x hx
     rcases List.mem_cons.1 hx with rfl | hx
     ·omega
     ·exact h hR x hx
    ·exact fun h _ x hx => h hR x (by simp [hx])
  ·rw [if_neg hR]; exact ⟨v, v1, by rw [v2]; exact ⟨fun _ h => absurd h hR, fun _ h => absurd h hR⟩⟩
theorem rdD_ev (seen : List Bool) (place : List Int) (left : List (List Int)) (n : Nat) (hs : seen.length = n) (hp : place.length = n) (hleft : ∀ a : Int, InR n (rd_L1 left a)) :
  ∀ (m a : Nat), a + m = n → ∃ v : Bool, Go.Proofs.Ytjjedbcgkljdeaa.D.rdD seen place left (List.range' a m) = some v ∧ (v = true ↔ ∀ c : Nat, a ≤ c → c < n → rdOf false seen (c : Int) = true → ∀ b ∈ rd_L1 left (c : Int), rd place b < rd place (c : Int))
 | 0, a, hm => ⟨true, rfl, ⟨fun _ c h0 h1 => by omega, fun _ => rfl⟩⟩
 | m + 1, a, hm => by
  obtain ⟨v, v1, v2⟩ := rdC_ev seen place n a (by omega) hs hp (rd_L1 left (a : Int)) (hleft _)
  obtain ⟨u, u1, u2⟩ := rdD_ev seen place left n hs hp hleft m (a + 1) (by omega)
  rw [List.range'_succ, Go.Proofs.Ytjjedbcgkljdeaa.D.rdD, v1, Option.bind_some]; cases v with
  | true =>
   rw [if_pos rfl]; refine ⟨u, u1, ?_⟩
   rw [u2]; constructor
   ·intro h c h0 h1 hR b hb
    by_cases e : c = a
    ·subst e; exact v2.1 rfl hR b hb
    ·exact h c (by omega) h1 hR b hb
   ·exact fun h c h0 h1 => h c (by omega) h1
  | false =>
   rw [if_neg (by simp)]
   refine ⟨false, rfl, ⟨fun h => (by cases h), fun h => ?_⟩⟩
   exact v2.2 (h a (Nat.le_refl _) (by omega))
theorem red_ev (g : List (List Int)) (hv : validB g = true) (h1 : 1 ≤ g.length) (hg : Gr g) (hn : g.length ≤ 40) (hr : ∀ r ∈ g, r.length ≤ 4) : ∃ v : Bool, (v = true ↔ RedP g) ∧ Evt (fun k => Go.Proofs.Ytjjedbcgkljdeaa.D.graph_Reducible.f k g) (v, 0) := by
 have hve := valid_ev g (by omega) (fun r h => Nat.le_trans (hr r h) (by omega))
 rw [hv] at hve; obtain ⟨bk, hb, hb1⟩ := backs_ev g hg h1 hn hr; have hl := restL_len g; have hG := restL_gr hg; have hrr := restL_rows hr; have hin0 : InR g.length [0] := fun x hx => by obtain rfl := List.mem_singleton.1 hx; omega
 have hrng : ∀ x, Rg g 0 x → 0 ≤ x ∧ x < (g.length : Int) := fun x h => h.range hg hin0
 have hA := rdA_ev g bk hg hn hr hb1 g.length 0 _ (by omega) (LfI.zero g)
 rw [← List.range_eq_range'] at hA; obtain ⟨P, hP, hPl, hPo, hPd⟩ := order_dfs (restL g) 0 hG (by omega) (by omega) (by omega) (fun r h => Nat.le_trans (hrr r h) (by omega))
 have hPR : ∀ x, x ∈ P ↔ Rg g 0 x := fun x => (hPo.mem x).trans (rest_rg hrng hg h1 x)
 obtain ⟨place, p1, p2, p3⟩ := plF_ev P g.length (fun x hx => hrng x ((hPR x).1 hx)) hPo.nodup P.length 0 (List.replicate g.length 0) (by omega) (by simp) (fun i _ hi => absurd hi (by omega))
 rw [List.drop_zero] at p1; obtain ⟨seen, s1, s2, s3⟩ := fromF_ev (fun _ => false) (restL g) [0] hG (by rw [hl]; exact hin0) (by omega)
 have hs3 : ∀ x : Int, 0 ≤ x → (rdOf false seen x = true ↔ Rg g 0 x) := fun x hx => (s3 x hx).trans (rest_rg hrng hg h1 x)
 obtain ⟨v, v1, v2⟩ := rdD_ev seen place (restL g) g.length (by omega) p2 (fun a => by have := hG.row a; rwa [hl] at this) g.length 0 (by omega)
 rw [← List.range_eq_range'] at v1; refine ⟨v, ?_, ?_⟩
 ·rw [v2]; constructor
  ·intro h a ha hc
   -- places fall along every path
   have hfall : ∀ x, Rch (restL g) (fun _ => false) (rd_L1 (restL g) a) x → Rg g 0 x ∧ rd place x < rd place a := by
    have edge : ∀ p x, Rg g 0 p → x ∈ rd_L1 (restL g) p → Rg g 0 x ∧ rd place x < rd place p := by
     intro p x hp hx
     obtain ⟨p0, p1'⟩ := hrng p hp; obtain ⟨c, rfl⟩ := Int.eq_ofNat_of_zero_le p0; refine ⟨?_, h c (Nat.zero_le _) (by omega) ((hs3 _ p0).2 hp) x hx⟩
     rw [restL_row p0 p1'] at hx; exact Rch.step hp (restRow_mem.1 hx).1 rfl
    intro x hx
    induction hx with
    | base h2 _ => exact edge a _ ha h2
    | step _ h2 _ ih =>
     obtain ⟨e1, e2⟩ := edge _ _ ih.1 h2; exact ⟨e1, by omega⟩
   have := (hfall a hc).2
   omega
  ·intro h c _ hc hR b hb
   have hcR := (hs3 _ (by omega)).1 hR
   obtain ⟨i, hi, hic⟩ := List.mem_iff_getElem.1 ((hPR _).2 hcR); rw [← hic] at hb ⊢
   rcases hPd i hi b hb with ⟨j, hj, hji, rfl⟩ | hcyc
   ·rw [p3 j hj, p3 i hi]; omega
   ·exfalso
    refine h P[i] (by rw [hic]; exact hcR) ?_
    have : ∀ x, Rch (restL g) (fun _ => false) [b] x → Rch (restL g) (fun _ => false) (rd_L1 (restL g) P[i]) x := by
     intro x hx
     induction hx with
     | base h2 _ => obtain rfl := List.mem_singleton.1 h2; exact Rch.base hb rfl
     | step _ h2 _ ih => exact Rch.step ih h2 rfl
    exact this _ hcyc
 ·unfold Go.Proofs.Ytjjedbcgkljdeaa.D.graph_Reducible.f
  refine Evt.bind hve (Evt.pos rfl (Evt.pos (by omega) (Evt.bind hb (Evt.bind hA (Evt.pos hl (Evt.bind (a := P) hP (Evt.bind (a := place) ?_ (Evt.bind (a := seen) s1 (Evt.bind (a := v) ?_ (Evt.const _)))))))))) 
  ·rw [p1]; exact Evt.const _
  ·rw [hl, v1]; exact Evt.const _
end Go.Proofs.Ytjjedbcgkljdeaa.M
end
