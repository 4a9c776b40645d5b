/- Texts of this claim, cut down to what its theorem uses and laid end to end (wip/shake.py). -/
import Derived.ArgAppend
import Derived.Below
import Derived.BigQuiet
import Derived.ChangeOld
import Derived.ChangeSlices
import Derived.Deep.AppendLies
import Derived.Deep.CutBlock
import Derived.Deep.DeepCutAuto
import Derived.Deep.Draws
import Derived.Deep.LoopGhost
import Derived.Deep.Matrix
import Derived.Deep.OwnRows
import Derived.Deep.QuietTactic
import Derived.Deep.RegionHeld3
import Derived.KernelRfl
import Derived.Laws.BitsLemmas
import Derived.Laws.BytesArg
import Derived.Laws.CopyOwn
import Derived.Laws.IdiomCopy
import Derived.Laws.MakeOwn
import Derived.Laws.OwnMore
import Derived.Laws.Rows
import Derived.Laws.Slices
import Derived.Laws.StructEq
import Derived.Lib.AppendStr
import Derived.Lib.ConvBytes
import Derived.LoopIn
import Derived.LoopNIn
import Derived.Maps.AppendAt
import Derived.OpenShut
import Derived.OrdersHeld
import Derived.OwnWalk
import Derived.OwnWalkIn
import Derived.ProofKit
import Derived.RangeFuncBound
import Derived.RangeFuncBox
import Derived.RangeFuncCalls
import Derived.RangeFuncFrom
import Derived.RangeFuncLeaves
import Derived.RangeFuncNested
import Derived.RowKit
import Derived.RowKit3
import Derived.Shelf.Abstract
import Derived.ShutString
import Derived.SizedLaws
import Derived.Tactics
import Derived.TacticsInMore
import Derived.Test.YtjjedbcgkljdeaaProg
import Derived.WalkKit
import Derived.WideLaws
import GoSem.ClaimData
import Derived.Test.YtjjedbcgkljdeaaKRenamed3
section
namespace Go.Proofs.Ytjjedbcgkljdeaa.M
open Go.RowKit Go.Proofs.YtjjedbcgkljdeaaW.PrintWords Go.Proofs.YtjjedbcgkljdeaaW.PrintLast Go.Proofs.YtjjedbcgkljdeaaW.PrintMore Go.Proofs.Ytjjedbcgkljdeaa.A Go.Proofs.Ytjjedbcgkljdeaa.R
theorem rd_lt (l : List Int) (i : Nat) (h : i < l.length) : rd l (i : Int) ∈ l := by rw [rd_nat l i h]; exact List.getElem_mem h
section
variable {tn : List Int} {τ : Int → Int} {n : Nat} {g : List (List Int)}
def swp (tn : List Int) (a b : Int) : List Int := (tn.set a.toNat (rd tn b)).set b.toNat (rd tn a)
theorem swp_rd (tn : List Int) (a b x : Int) (a0 : 0 ≤ a) (a1 : a < (tn.length : Int)) (b0 : 0 ≤ b) (b1 : b < (tn.length : Int)) (x0 : 0 ≤ x) : rd (swp tn a b) x = if x = b then rd tn a else if x = a then rd tn b else rd tn x := by
 unfold swp
 rw [rd_set _ b _ x b0 (by simpa using b1) x0, rd_set _ a _ x a0 a1 x0]
theorem swp_len (tn : List Int) (a b : Int) : (swp tn a b).length = tn.length := by simp [swp]
theorem Prm.swap (p : Prm (rd tn) τ n) (hl : tn.length = n) (a b : Int) (a0 : 0 ≤ a) (a1 : a < (n : Int)) (b0 : 0 ≤ b) (b1 : b < (n : Int)) : Prm (rd (swp tn a b)) (fun z => if τ z = a then b else if τ z = b then a else τ z) n := by
 have hrd : ∀ x : Int, 0 ≤ x → rd (swp tn a b) x = if x = b then rd tn a else if x = a then rd tn b else rd tn x := fun x x0 => swp_rd tn a b x a0 (by omega) b0 (by omega) x0
 refine ⟨fun x x0 x1 => ?_, fun x x0 x1 => ?_, fun x x0 x1 => ?_, fun x x0 x1 => ?_⟩
 ·rw [hrd x x0]; split
  ·exact p.rs a a0 a1
  ·split
   ·exact p.rs b b0 b1
   ·exact p.rs x x0 x1
 ·have := p.rt x x0 x1
  show 0 ≤ (if τ x = a then b else if τ x = b then a else τ x) ∧ (if τ x = a then b else if τ x = b then a else τ x) < (n : Int)
  split
  ·exact ⟨b0, b1⟩
  ·split
   ·exact ⟨a0, a1⟩
   ·exact this
 ·simp only [hrd x x0]
  by_cases e : x = b
  ·rw [if_pos e, p.ts a a0 a1, if_pos rfl, e]
  ·rw [if_neg e]; by_cases e2 : x = a
   ·rw [if_pos e2, p.ts b b0 b1]; by_cases e3 : b = a
    ·rw [if_pos e3, e2, e3]
    ·rw [if_neg e3, if_pos rfl, e2]
   ·rw [if_neg e2, p.ts x x0 x1, if_neg e2, if_neg e]
 ·have hx := p.rt x x0 x1; show rd (swp tn a b) (if τ x = a then b else if τ x = b then a else τ x) = x
  by_cases e : τ x = a
  ·rw [if_pos e, hrd b b0, if_pos rfl, ← e, p.st x x0 x1]
  ·rw [if_neg e]; by_cases e2 : τ x = b
   ·rw [if_pos e2, hrd a a0]; by_cases e3 : a = b
    ·exact absurd (e2.trans e3.symm) e
    ·rw [if_neg e3, if_pos rfl, ← e2, p.st x x0 x1]
   ·rw [if_neg e2, hrd _ hx.1, if_neg e2, if_neg e, p.st x x0 x1]
theorem rgIn_spec (tn : List Int) (t : Nat) : ∀ (xs : List Int) (h : List (List Int)), t < h.length → InR tn.length xs → (rd_L1 h (t : Int)).length + xs.length < 17592186044416 → rgIn tn (t : Int) xs h = some (h.set t (rd_L1 h (t : Int) ++ xs.map (rd tn)))
 | [], h, ht, _, _ => by
  unfold rgIn
  rw [List.map_nil, List.append_nil, rd_L1_nat h t ht, List.set_getElem_self]
 | x :: xs, h, ht, hx, hb => by
  obtain ⟨x0, x1⟩ := hx x List.mem_cons_self; have e : rd_L1 (h.set t (rd_L1 h (t : Int) ++ [rd tn x])) (t : Int) = rd_L1 h (t : Int) ++ [rd tn x] := by
   rw [rd_L1_nat _ t (by simpa using ht), List.getElem_set_self]
  unfold rgIn
  simp only [List.length_cons] at hb
  rw [if_pos x0, if_pos x1, if_pos (by omega), Int.toNat_natCast, rgIn_spec tn t xs _ (by simpa using ht) (fun y hy => hx y (List.mem_cons_of_mem _ hy)) (by rw [e, List.length_append, List.length_singleton]; omega), e, List.set_set, List.append_assoc]
  rfl
theorem rgOut_spec (p : Prm (rd tn) τ n) (hl : tn.length = n) (hgl : g.length = n) (hg : Gr g) (hr : ∀ r ∈ g, r.length ≤ 4) : ∀ (m j : Nat) (h : List (List Int)), j + m = n → h.length = n → (∀ a : Nat, a < n → rd_L1 h (rd tn (a : Int)) = if a < j then (rd_L1 g (a : Int)).map (rd tn) else []) →
  ∃ h', rgOut tn g (List.range' j m) h = some h' ∧ h'.length = n ∧ ∀ a : Nat, a < n → rd_L1 h' (rd tn (a : Int)) = (rd_L1 g (a : Int)).map (rd tn)
 | 0, j, h, hm, hh, hI => ⟨h, rfl, hh, fun a ha => by rw [hI a ha, if_pos (by omega)]⟩
 | m + 1, j, h, hm, hh, hI => by
  have hj : j < n := by omega
  obtain ⟨s0, s1⟩ := p.rs (j : Int) (by omega) (by omega)
  obtain ⟨t, ht⟩ := Int.eq_ofNat_of_zero_le s0; have htn : t < n := by omega
  have hrow : rd_L1 h (t : Int) = [] := by rw [← ht, hI j hj, if_neg (by omega)]
  have hrl : (rd_L1 g (j : Int)).length ≤ 4 := rd_L1_len hr _
  have hin : InR tn.length (rd_L1 g (j : Int)) := by have := hg.row (j : Int); rw [hgl] at this; rw [hl]; exact this
  have e1 := rgIn_spec tn t (rd_L1 g (j : Int)) h (by omega) hin (by rw [hrow]; simp only [List.length_nil]; omega)
  rw [hrow, List.nil_append] at e1; obtain ⟨h', r1, r2, r3⟩ := rgOut_spec p hl hgl hg hr m (j + 1) (h.set t ((rd_L1 g (j : Int)).map (rd tn))) (by omega) (by simp [hh]) (fun a ha => by
   have ha2 := p.rs (a : Int) (by omega) (by omega)
   have e2 := rd_L1_set h (t : Int) (rd tn (a : Int)) ((rd_L1 g (j : Int)).map (rd tn)) (by omega) (by omega) ha2.1
   rw [Int.toNat_natCast] at e2; rw [e2]; by_cases e : rd tn (a : Int) = (t : Int)
   ·have haj : (a : Int) = (j : Int) := p.inj (by omega) (by omega) (by omega) (by omega) (by rw [e, ht])
    obtain rfl : a = j := by omega
    rw [if_pos e, if_pos (by omega)]
   ·rw [if_neg e, hI a ha]; have haj : a ≠ j := fun q => e (by rw [q, ht])
    by_cases e3 : a < j
    ·rw [if_pos e3, if_pos (by omega)]
    ·rw [if_neg e3, if_neg (by omega)])
  refine ⟨h', ?_, r2, r3⟩
  rw [List.range'_succ, rgOut, if_pos (by omega), if_pos s0, if_pos (by omega), ht, e1]
  exact r1
theorem graph_built (p : Prm (rd tn) τ n) (hl : tn.length = n) (hgl : g.length = n) (hv : validB g = true) (hn : n ≤ 40) : ∃ h, (∀ k, renamed_graph.f k g tn = some h) ∧ Iso (rd tn) τ n g h ∧ validB h = true ∧ (∀ r ∈ h, r.length ≤ 4) := by
 obtain ⟨h1, hg, hr⟩ := validB_true hv; have e0 : ∀ x : Int, rd_L1 (List.replicate n ([] : List Int)) x = [] := fun x => by
  unfold rd_L1
  rw [List.getD_eq_getElem?_getD, List.getElem?_replicate]; split <;> rfl
 obtain ⟨h, r1, r2, r3⟩ := rgOut_spec p hl hgl hg (fun r hr' => Nat.le_trans (hr r hr') (by omega)) n 0 (List.replicate n []) (Nat.zero_add _) (by simp) (fun a ha => by rw [e0, if_neg (by omega)])
 have hrow : ∀ z : Int, 0 ≤ z → z < (n : Int) → rd_L1 h z = (rd_L1 g (τ z)).map (rd tn) := fun z z0 z1 => by
  obtain ⟨q0, q1⟩ := p.rt z z0 z1; obtain ⟨a, ha⟩ := Int.eq_ofNat_of_zero_le q0; have := r3 a (by omega)
  rw [← ha, p.st z z0 z1] at this; exact this
 have hrows : ∀ r ∈ h, ∃ z : Int, 0 ≤ z ∧ z < (n : Int) ∧ r = (rd_L1 g (τ z)).map (rd tn) := fun r hr' => by
  obtain ⟨i, hi, rfl⟩ := List.mem_iff_getElem.1 hr'; exact ⟨(i : Int), by omega, by omega, by rw [← hrow _ (by omega) (by omega), rd_L1_nat h i hi]⟩
 have hgr : ∀ a : Int, InR n (rd_L1 g a) := fun a => by have := hg.row a; rwa [hgl] at this
 have hgh : Gr h := fun r hr' x hx => by
  obtain ⟨z, z0, z1, rfl⟩ := hrows r hr'; obtain ⟨y, hy, rfl⟩ := List.mem_map.1 hx; obtain ⟨y0, y1⟩ := hgr _ y hy; rw [r2]; exact p.rs y y0 y1
 have hlen2 : ∀ r ∈ h, r.length ≤ 2 := fun r hr' => by
  obtain ⟨z, z0, z1, rfl⟩ := hrows r hr'; obtain ⟨q0, q1⟩ := p.rt z z0 z1; rw [List.length_map]; exact hr _ (rd_L1_mem q0 (by omega))
 refine ⟨h, fun k => ?_, ⟨p, hgl, r2, hg, hgh, fun a y a0 a1 y0 y1 => ?_⟩, ?_, fun r hr' => Nat.le_trans (hlen2 r hr') (by omega)⟩
 ·unfold renamed_graph.f
  rw [if_pos (by omega), List.range_eq_range', hgl]
  exact r1
 ·have hs := p.rs a a0 a1; rw [hrow _ hs.1 hs.2, p.ts a a0 a1, List.mem_map]; constructor
  ·exact fun hy => ⟨y, hy, rfl⟩
  ·rintro ⟨y', hy', e⟩
   obtain ⟨q0, q1⟩ := hgr a y' hy'; rw [← p.inj q0 q1 y0 y1 e]; exact hy'
 ·unfold validB rowB inB
  simp only [Bool.and_eq_true, decide_eq_true_eq, List.all_eq_true]
  exact ⟨by omega, by omega, fun r hr' => ⟨hlen2 r hr', fun x hx => hgh r hr' x hx⟩⟩
theorem rowTo_congr {C D : Int → Prop} : ∀ {n : Nat}, (∀ x : Int, 0 ≤ x → x < (n : Int) → (C x ↔ D x)) → rowTo C n = rowTo D n
 | 0, _ => rfl
 | n + 1, h => by
  rw [rowTo_succ, rowTo_succ, rowTo_congr (n := n) fun x x0 x1 => h x x0 (by omega)]
  congr 1
  have := h (n : Int) (by omega) (by omega)
  by_cases c : C (n : Int)
  ·rw [if_pos c, if_pos (this.1 c)]
  ·rw [if_neg c, if_neg (fun d => c (this.2 d))]
theorem all_l1 (n : Nat) (hn : n ≤ 100000) (C : Int → Prop) (s : List Bool) (hs : s.length = n) (hC : ∀ z : Int, 0 ≤ z → z < (n : Int) → (rdOf false s z = true ↔ C z)) : ∀ (m i : Nat), i + m = n → Evt (fun k => l7_all.l1 k s (rowTo C i) (i : Int)) (rowTo C n)
 | 0, i, hm => by
  obtain rfl : i = n := by omega
  refine Evt.succ ?_
  simp only [l7_all.l1]
  exact Evt.neg (by omega) (Evt.const _)
 | m + 1, i, hm => by
  have ih := all_l1 n hn C s hs hC m (i + 1) (by omega)
  have hle := rowTo_len C i; rw [rowTo_succ] at ih; refine Evt.succ ?_
  simp only [l7_all.l1, wrap_succ i (by omega)]
  refine Evt.pos (by omega) (Evt.pos (by omega) ?_)
  by_cases c : rdOf false s (i : Int) = true
  ·refine Evt.pos c (Evt.pos (by omega) ?_)
   rw [if_pos ((hC _ (by omega) (by omega)).1 c)] at ih
   exact ih
  ·refine Evt.neg c ?_
   rw [if_neg (fun d => c ((hC _ (by omega) (by omega)).2 d)), List.append_nil] at ih
   exact ih
theorem all_l0 (p : Prm (rd tn) τ n) (hl : tn.length = n) (hn : n ≤ 100000) (l : List Int) (hin : InR n l) (hll : l.length ≤ n) : ∀ (m i : Nat) (s : List Bool), i + m = l.length → s.length = n → (∀ z : Int, 0 ≤ z → z < (n : Int) → (rdOf false s z = true ↔ ∃ q, ∃ hq : q < l.length, q < i ∧ rd tn l[q] = z)) →
  Evt (fun k => l7_all.l0 k tn l s (i : Int)) (rowTo (fun z => ∃ x ∈ l, rd tn x = z) n)
 | 0, i, s, hm, hs, hI => by
  refine Evt.succ ?_
  simp only [l7_all.l0]
  refine Evt.neg (by omega) ?_
  have := all_l1 n hn (fun z => ∃ x ∈ l, rd tn x = z) s hs (fun z z0 z1 => by
   rw [hI z z0 z1]; constructor
   ·rintro ⟨q, hq, _, e⟩
    exact ⟨l[q], List.getElem_mem hq, e⟩
   ·rintro ⟨x, hx, e⟩
    obtain ⟨q, hq, rfl⟩ := List.mem_iff_getElem.1 hx; exact ⟨q, hq, by omega, e⟩) n 0 (Nat.zero_add _)
  exact this
 | m + 1, i, s, hm, hs, hI => by
  have hi : i < l.length := by omega
  have hrd : rd l (i : Int) = l[i] := rd_nat _ _ hi
  obtain ⟨x0, x1⟩ := hin l[i] (List.getElem_mem hi); obtain ⟨y0, y1⟩ := p.rs l[i] x0 x1; have ih := all_l0 p hl hn l hin hll m (i + 1) (s.set (rd tn l[i]).toNat true) (by omega) (by simp [hs]) (fun z z0 z1 => by
   rw [rdOf_set s (rd tn l[i]) z true y0 (by omega) z0]
   by_cases e : z = rd tn l[i]
   ·rw [if_pos e]; exact ⟨fun _ => ⟨i, hi, by omega, e.symm⟩, fun _ => rfl⟩
   ·rw [if_neg e, hI z z0 z1]; constructor
    ·rintro ⟨q, hq, h1, h2⟩
     exact ⟨q, hq, by omega, h2⟩
    ·rintro ⟨q, hq, h1, h2⟩
     refine ⟨q, hq, ?_, h2⟩
     rcases Nat.lt_or_ge q i with h3 | h3
     ·exact h3
     ·obtain rfl : q = i := by omega
      exact absurd h2.symm e)
  refine Evt.succ ?_
  simp only [l7_all.l0, hrd, wrap_succ i (by omega)]
  exact Evt.pos (by omega) (Evt.pos (by omega) (Evt.pos x0 (Evt.pos (by omega) (Evt.pos x0 (Evt.pos y0 (Evt.pos (by omega) ih))))))
theorem all_ev (p : Prm (rd tn) τ n) (hl : tn.length = n) (hn : n ≤ 100000) (l : List Int) (hin : InR n l) (hll : l.length ≤ n) : Evt (fun k => l7_all.f k tn l) (rowTo (fun z => ∃ x ∈ l, rd tn x = z) n) := by
 unfold l7_all.f
 refine Evt.pos (by omega) (Evt.pos (by omega) ?_)
 have h0 : ∀ z : Int, rdOf false (List.replicate n false) z = false := fun z => by
  unfold rdOf
  rw [List.getD_eq_getElem?_getD, List.getElem?_replicate]; split <;> rfl
 have := all_l0 p hl hn l hin hll l.length 0 (List.replicate n false) (Nat.zero_add _) (by simp) (fun z _ _ => by
  rw [h0]; exact ⟨fun h => (by cases h), fun ⟨q, hq, h1, _⟩ => (by omega)⟩)
 rw [← hl] at this ⊢
 simpa using this
end
end Go.Proofs.Ytjjedbcgkljdeaa.M
end
section
namespace Go.Proofs.Ytjjedbcgkljdeaa.M
open Go.RowKit Go.Proofs.YtjjedbcgkljdeaaW.PrintWords Go.Proofs.YtjjedbcgkljdeaaW.PrintLast Go.Proofs.YtjjedbcgkljdeaaW.PrintMore Go.Proofs.Ytjjedbcgkljdeaa.A Go.Proofs.Ytjjedbcgkljdeaa.R
theorem rows_row (F : Int → Int → Prop) (n : Nat) (a : Int) (a0 : 0 ≤ a) (a1 : a < (n : Int)) : rd_L1 (rowsOf F n) a = rowTo (F a) n := by
 obtain ⟨k, rfl⟩ := Int.eq_ofNat_of_zero_le a0; rw [rd_L1_nat _ k (by rw [rowsOf_len]; omega)]
 simp [rowsOf]
theorem moved_eq {tn : List Int} {n : Nat} (hl : tn.length = n) {v w : Int} (hv : v < (n : Int)) (hw : w = if v < 0 then -1 else rd tn v) : l7_moved.f tn v = some w := by
 unfold l7_moved.f
 by_cases e : v < 0
 ·rw [if_pos e] at hw ⊢
  rw [hw]
 ·rw [if_neg e] at hw ⊢
  rw [if_neg (by omega), if_pos (by omega), if_pos (by omega), hw]
section
variable {tn : List Int} {τ : Int → Int} {n : Nat} {g h T T' : List (List Int)} {dl dl' pl pl' : List Int}
theorem row_all (p : Prm (rd tn) τ n) {C D : Int → Prop} (hCD : ∀ x : Int, 0 ≤ x → x < (n : Int) → (C x ↔ D (rd tn x))) : rowTo D n = rowTo (fun z => ∃ x ∈ rowTo C n, rd tn x = z) n := by
 refine rowTo_congr fun z z0 z1 => ?_
 have hz := p.rt z z0 z1; constructor
 ·intro hd
  refine ⟨τ z, (rowTo_mem _ _ _).2 ⟨hz.1, hz.2, (hCD _ hz.1 hz.2).2 (by rw [p.st z z0 z1]; exact hd)⟩, p.st z z0 z1⟩
 ·rintro ⟨x, hx, rfl⟩
  obtain ⟨x0, x1, hc⟩ := (rowTo_mem _ _ _).1 hx; exact (hCD x x0 x1).1 hc
theorem ren_round (i : Iso (rd tn) τ n g h) (s0 : rd tn 0 = 0) (n0 : 0 < n) (hn : n ≤ 40) (hl : tn.length = n) (hT : TurnedOf 4 g T) (hT' : TurnedOf 4 h T') (l1 : dl.length = n) (l2 : dl'.length = n) (l3 : pl.length = n) (l4 : pl'.length = n)
  (hd : ∀ b : Int, 0 ≤ b → b < (n : Int) → rd dl' (rd tn b) = if rd dl b < 0 then -1 else rd tn (rd dl b)) (hdr : ∀ b : Int, 0 ≤ b → b < (n : Int) → rd dl b < (n : Int))
  (hp : ∀ b : Int, 0 ≤ b → b < (n : Int) → rd pl' (rd tn b) = if rd pl b < 0 then -1 else rd tn (rd pl b)) (hpr : ∀ b : Int, 0 ≤ b → b < (n : Int) → rd pl b < (n : Int)) (j : Int) (j0 : 0 ≤ j) (j1 : j < (n : Int)) :
  Evt (fun k => renamed_round.f k tn dl dl' pl pl' (rowsOf (FC g) n) (rowsOf (FC h) n) (rowsOf (LF g T) n) (rowsOf (LF h T') n) j) false := by
 obtain ⟨t0, t1⟩ := i.p.rs j j0 j1; have e1 := moved_eq hl (hdr j j0 j1) (hd j j0 j1); have e2 := moved_eq hl (hpr j j0 j1) (hp j j0 j1); have r1 := rows_row (FC g) n j j0 j1; have r2 := rows_row (FC h) n (rd tn j) t0 t1; have r3 := rows_row (LF g T) n j j0 j1; have r4 := rows_row (LF h T') n (rd tn j) t0 t1; have inr : ∀ C : Int → Prop, InR n (rowTo C n) := fun C x hx => by have := (rowTo_mem _ _ _).1 hx; exact ⟨this.1, this.2.1⟩
 have q1 := row_all i.p (C := FC g j) (D := FC h (rd tn j)) (fun x x0 x1 => i.fc s0 n0 j x j0 j1 x0 x1)
 have q2 := row_all i.p (C := LF g T j) (D := LF h T' (rd tn j)) (fun x x0 x1 => i.lf s0 n0 hT hT' j x j0 j1 x0 x1)
 have a1 := all_ev i.p hl (by omega) _ (inr (FC g j)) (rowTo_len _ _)
 have a2 := all_ev i.p hl (by omega) _ (inr (LF g T j)) (rowTo_len _ _)
 rw [← q1] at a1; rw [← q2] at a2; have b1 := sameInts_ev (rowTo (FC h (rd tn j)) n) (Nat.le_trans (rowTo_len _ _) (by omega))
 have b2 := sameInts_ev (rowTo (LF h T' (rd tn j)) n) (Nat.le_trans (rowTo_len _ _) (by omega))
 unfold renamed_round.f
 simp only [e1, e2, r1, r2, r3, r4, Option.bind_some, rowsOf_len]
 refine Evt.pos j0 (Evt.pos (by omega) (Evt.pos t0 (Evt.pos (by omega) (Evt.pos (by omega) (Evt.pos (by omega) (Evt.pos (by omega) (Evt.pos j1 (Evt.pos t1 (Evt.pos j1 (Evt.pos t1 ?_))))))))))
 refine Evt.pos (by first | rfl | trivial) (Evt.pos (by first | rfl | trivial) (Evt.bind a1 (Evt.bind b1 (Evt.pos rfl (Evt.bind a2 (Evt.bind b2 (Evt.pos rfl (Evt.const false))))))))
theorem ren_dom (i : Iso (rd tn) τ n g h) (s0 : rd tn 0 = 0) (n0 : 0 < n) (hn : n ≤ 40) (hg4 : ∀ r ∈ g, r.length ≤ 4) (hh4 : ∀ r ∈ h, r.length ≤ 4) : ∃ dl dl', Evt (fun k => Go.Proofs.Ytjjedbcgkljdeaa.B.graph_tree.f k g 0) dl ∧ Evt (fun k => Go.Proofs.Ytjjedbcgkljdeaa.B.graph_tree.f k h 0) dl' ∧ dl.length = n ∧ dl'.length = n ∧
  (∀ b : Int, 0 ≤ b → b < (n : Int) → rd dl' (rd tn b) = if rd dl b < 0 then -1 else rd tn (rd dl b)) ∧ ∀ b : Int, 0 ≤ b → b < (n : Int) → rd dl b < (n : Int) := by
 have gl := i.gl; have hl := i.hl; obtain ⟨up, dl, t, d1, w, _, tt, _, hD⟩ := dom_ev g i.gg (by omega) (by omega) hg4
 obtain ⟨up', dl', t', d1', w', _, tt', _, hD'⟩ := dom_ev h i.gh (by omega) (by omega) hh4
 rw [gl] at w tt
 rw [hl] at w' tt'
 have hr : ∀ b : Int, 0 ≤ b → b < (n : Int) → rd dl b = -1 ∨ 0 ≤ rd dl b ∧ rd dl b < (n : Int) := w.range
 refine ⟨dl, dl', d1, d1', w.len, w'.len, imm_list i.p (fun a b a0 a1 b0 b1 => w.imm tt (fun x y _ _ _ _ => hD x y) a b a0 a1 b0 b1) (fun a b a0 a1 b0 b1 => w'.imm tt' (fun x y _ _ _ _ => hD' x y) a b a0 a1 b0 b1) hr w'.range (fun a b a0 a1 b0 b1 => imm_iso i.p tt tt' (fun x y x0 x1 y0 y1 => i.td s0 n0 x y x0 x1 y0 y1) a b a0 a1 b0 b1), fun b b0 b1 => ?_⟩
 rcases hr b b0 b1 with e | e <;> omega
theorem ren_post (i : Iso (rd tn) τ n g h) (n0 : 0 < n) (hn : n ≤ 40) (hg4 : ∀ r ∈ g, r.length ≤ 4) (hh4 : ∀ r ∈ h, r.length ≤ 4) : ∃ pl pl', Evt (fun k => Go.Proofs.Ytjjedbcgkljdeaa.C.graph_posts.f k g) pl ∧ Evt (fun k => Go.Proofs.Ytjjedbcgkljdeaa.C.graph_posts.f k h) pl' ∧ pl.length = n ∧ pl'.length = n ∧
  (∀ b : Int, 0 ≤ b → b < (n : Int) → rd pl' (rd tn b) = if rd pl b < 0 then -1 else rd tn (rd pl b)) ∧ ∀ b : Int, 0 ≤ b → b < (n : Int) → rd pl b < (n : Int) := by
 have gl := i.gl; have hl := i.hl; obtain ⟨T, up, pl, t, hT, d1, w, _, tt, _, hD, _⟩ := posts_ev g i.gg (by omega) hg4
 obtain ⟨T', up', pl', t', hT', d1', w', _, tt', _, hD', _⟩ := posts_ev h i.gh (by omega) hh4
 rw [gl] at w tt hD
 rw [hl] at w' tt' hD'
 have hr : ∀ b : Int, 0 ≤ b → b < (n : Int) → rd pl b = -1 ∨ 0 ≤ rd pl b ∧ rd pl b < (n : Int) := w.range
 refine ⟨pl, pl', d1, d1', w.len, w'.len, imm_list i.p (fun a b a0 a1 b0 b1 => w.imm tt hD a b a0 a1 b0 b1) (fun a b a0 a1 b0 b1 => w'.imm tt' hD' a b a0 a1 b0 b1) hr w'.range (fun a b a0 a1 b0 b1 => imm_iso i.p tt tt' (fun x y x0 x1 y0 y1 => i.pd hT hT' x y x0 x1 y0 y1) a b a0 a1 b0 b1), fun b b0 b1 => ?_⟩
 rcases hr b b0 b1 with e | e <;> omega
end
end Go.Proofs.Ytjjedbcgkljdeaa.M
end
section
namespace Go.Proofs.Ytjjedbcgkljdeaa.M
open Go.RowKit Go.Proofs.Ytjjedbcgkljdeaa.D
theorem awake_ev : Evt (fun k => l7_awake.f k) true := Evt.of_mono l7_awake.mono (k := 400) (by kernel_rfl)
end Go.Proofs.Ytjjedbcgkljdeaa.M
end
section
namespace Go.Proofs.Ytjjedbcgkljdeaa.R
open Go.RowKit Go.Proofs.YtjjedbcgkljdeaaW.PrintWords Go.Proofs.YtjjedbcgkljdeaaW.PrintLast Go.Proofs.YtjjedbcgkljdeaaW.PrintMore Go.Proofs.Ytjjedbcgkljdeaa.A Go.Proofs.Ytjjedbcgkljdeaa.B Go.Proofs.Ytjjedbcgkljdeaa.C Go.Proofs.Ytjjedbcgkljdeaa.D
set_option linter.unusedVariables false
set_option linter.unusedSimpArgs false
theorem info3 : (Try.prog.info? 3).map (fun i => (i.zero, i.size, i.bytes)) = some (some (.int .i64 0), 1, 8) := by kernel_rfl
-- the values' own types
end Go.Proofs.Ytjjedbcgkljdeaa.R
end
section
namespace Go.Proofs.Ytjjedbcgkljdeaa.R
open Go.RowKit Go.Proofs.YtjjedbcgkljdeaaW.PrintWords Go.Proofs.YtjjedbcgkljdeaaW.PrintLast Go.Proofs.YtjjedbcgkljdeaaW.PrintMore Go.Proofs.Ytjjedbcgkljdeaa.A Go.Proofs.Ytjjedbcgkljdeaa.B Go.Proofs.Ytjjedbcgkljdeaa.C Go.Proofs.Ytjjedbcgkljdeaa.D
set_option linter.unusedVariables false
set_option linter.unusedSimpArgs false
mutual
def l7_GraphRenamed.j0 : Nat → List (List Int) → List Int → Bool → Option (Bool)
 | 0, _, _, _ => none
 | k + 1, x0, x1, x40 => if x40 = true then ((l7_awake.f k).bind fun t102 => (some t102)) else (if 0 ≤ (x0.length : Int) then (if ((x0.length : Int) : Int).toNat ≤ 35184372088832 then (l7_GraphRenamed.l0 k x0 x1 (List.replicate ((x0.length : Int) : Int).toNat 0) 0) else (none)) else (none))
def l7_GraphRenamed.l0 : Nat → List (List Int) → List Int → List Int → Int → Option (Bool)
 | 0, _, _, _, _ => none
 | k + 1, x0, x1, x5, x6 => if x6 < (x0.length : Int) then (if 0 ≤ x6 then (if x6 < (x5.length : Int) then (l7_GraphRenamed.l0 k x0 x1 (x5.set (x6 : Int).toNat x6) (wrap64 (x6 + 1))) else (none)) else (none)) else (l7_GraphRenamed.l1 k x0 x1 x5 (wrap64 ((x0.length : Int) - 1)))
def l7_GraphRenamed.l1 : Nat → List (List Int) → List Int → List Int → Int → Option (Bool)
 | 0, _, _, _, _ => none
 | k + 1, x0, x1, x5, x7 => if x7 > 1 then (if x7 < (x1.length : Int) then (if 0 ≤ x7 then (if x7 = 0 then (none) else (if 0 ≤ (wrap64 (1 + (Int.tmod (wrap64 (rd x1 x7)) x7))) then (if (wrap64 (1 + (Int.tmod (wrap64 (rd x1 x7)) x7))) < (x5.length : Int) then (if x7 < (x5.length : Int) then (l7_GraphRenamed.l1 k x0 x1 ((x5.set (x7 : Int).toNat (rd x5 (wrap64 (1 + (Int.tmod (wrap64 (rd x1 x7)) x7))))).set ((wrap64 (1 + (Int.tmod (wrap64 (rd x1 x7)) x7))) : Int).toNat (rd x5 x7)) (wrap64 (x7 - 1))) else (none)) else (none)) else (none))) else (none)) else (if 1 < (x5.length : Int) then (if 0 ≤ x7 then (if x7 < (x5.length : Int) then (l7_GraphRenamed.l1 k x0 x1 ((x5.set (x7 : Int).toNat (rd x5 1)).set (1 : Int).toNat (rd x5 x7)) (wrap64 (x7 - 1))) else (none)) else (none)) else (none))) else ((renamed_graph.f k x0 x5).bind fun t116 => ((graph_Dominators.f k x0).bind fun bt119 => ((graph_Dominators.f k t116).bind fun bt123 => ((graph_Postdominators.f k x0).bind fun bt127 => ((graph_Postdominators.f k t116).bind fun bt131 => ((graph_Frontier.f k x0).bind fun bt135 => ((graph_Frontier.f k t116).bind fun bt139 => ((graph_Loops.f k x0).bind fun bt143 => ((graph_Loops.f k t116).bind fun bt147 => ((graph_Reducible.f k x0).bind fun bt151 => ((graph_Reducible.f k t116).bind fun bt153 => (if bt151.2 = 0 then (if bt153.2 = 0 then (if (bt151.1 != bt153.1) = true then (none) else (if (bt119.1.length : Int) = (x0.length : Int) then (if (bt123.1.length : Int) = (x0.length : Int) then (if (bt127.1.length : Int) = (x0.length : Int) then (if (bt131.1.length : Int) = (x0.length : Int) then (if (bt135.1.length : Int) = (x0.length : Int) then (if (bt139.1.length : Int) = (x0.length : Int) then (if (bt143.1.length : Int) = (x0.length : Int) then (l7_GraphRenamed.j3 k x0 x5 bt119.1 bt123.1 bt127.1 bt131.1 bt135.1 bt139.1 bt143.1 bt147.1 ((bt147.1.length : Int) != (x0.length : Int))) else (none)) else (none)) else (none)) else (none)) else (none)) else (none)) else (none))) else (none)) else (none)))))))))))))
def l7_GraphRenamed.j3 : Nat → List (List Int) → List Int → List Int → List Int → List Int → List Int → List (List Int) → List (List Int) → List (List Int) → List (List Int) → Bool → Option (Bool)
 | 0, _, _, _, _, _, _, _, _, _, _, _ => none
 | k + 1, x0, x5, x12, x14, x16, x18, x20, x22, x24, x26, x247 => if x247 = true then (some false) else (l7_GraphRenamed.l2 k x0 x5 x12 x14 x16 x18 x20 x22 x24 x26 0)
def l7_GraphRenamed.l2 : Nat → List (List Int) → List Int → List Int → List Int → List Int → List Int → List (List Int) → List (List Int) → List (List Int) → List (List Int) → Int → Option (Bool)
 | 0, _, _, _, _, _, _, _, _, _, _, _ => none
 | k + 1, x0, x5, x12, x14, x16, x18, x20, x22, x24, x26, x32 => if x32 < (x0.length : Int) then ((renamed_round.f k x5 x12 x14 x16 x18 x20 x22 x24 x26 x32).bind fun t155 => (if t155 = true then (some false) else (l7_GraphRenamed.l2 k x0 x5 x12 x14 x16 x18 x20 x22 x24 x26 (wrap64 (x32 + 1))))) else ((l7_awake.f k).bind fun t156 => (some t156))
end
def l7_GraphRenamed.f (k : Nat) (l0 : List (List Int)) (l1 : List Int) : Option (Bool) := (l7_usable.f k l0).bind fun t101 => (if t101 = true then (l7_GraphRenamed.j0 k l0 l1 (decide ((l1.length : Int) > 200))) else (l7_GraphRenamed.j0 k l0 l1 true))
def l7_GraphRenamed.T14 : Bool × List (List Nat × List Nat) := (true, [([], []), ([], []), ([], []), ([], []), ([], []), ([], []), ([4, 5], [4, 5]), ([6], [6]), ([], []), ([], []), ([8, 9], [8, 9]), ([10], [10]), ([0, 1, 0, 1, 4, 5, 6, 7, 11], [0, 1]), ([12, 7, 0, 1, 4, 5, 6, 7, 11], [7, 12]), ([2, 3, 0, 1, 2, 3, 4, 5, 6, 7, 8, 9, 10, 11, 12, 13], [2, 3]), ([14, 11, 13, 0, 1, 2, 3, 4, 5, 6, 7, 8, 9, 10, 11, 12, 13], [11, 14])])
def l7_GraphRenamed.B14 : List Nat := [0, 0, 0, 0, 0, 0, 48, 112, 0, 0, 768, 1792, 4083, 8179, 16383, 32767]
theorem l7_GraphRenamed.tab14 : rtab .any (opsOf Try.f6 14) = l7_GraphRenamed.T14 := by kernel_rfl
theorem l7_GraphRenamed.bits14 : waitsOk l7_GraphRenamed.T14.2 l7_GraphRenamed.B14 = true := by kernel_rfl
set_option maxHeartbeats 8000000 in
set_option maxRecDepth 100000 in
theorem l7_GraphRenamed.calls (k : Nat) (A0 : Option Addr) (c0 : Nat) (l0 : List (List Int)) (A1 : Option Addr) (c1 : Nat) (l1 : List Int) (r : Bool) (w : World) (hr0 : Kd.C (Kd.slice 3 (Kd.int .i64)) w A0 l0.length l0) (hc0 : l0.length ≤ c0) (hr1 : Kd.C (Kd.int .u8) w A1 l1.length l1) (hc1 : l1.length ≤ c1) (h : l7_GraphRenamed.f k l0 l1 = some r) :
  Calls Try.prog 6 #[.slice A0 l0.length c0, .slice A1 l1.length c1] w fun e w' => e = .returned (.bool r) ∧ Below w.heap.size w w' := by
 have HR0 := Aside0.mk hr0; have HC0 := Aside0.mk hc0; clear hr0 hc0; have HR1 := Aside0.mk hr1; have HC1 := Aside0.mk hc1; clear hr1 hc1; have HB := Aside0.mk (Below.refl w.heap.size w); have H : ((l7_usable.f k l0).bind fun t101 => (if t101 = true then (l7_GraphRenamed.j0 k l0 l1 (decide ((l1.length : Int) > 200))) else (l7_GraphRenamed.j0 k l0 l1 true))) = some r := h
 clear h; have HC3 := Aside0.mk H; clear H; go_enter Try.func6, Try.ntmps6
 go_upto_region 1 with (fail)
 go_cut [40] (fun v40 wc => ∃ (kq : Nat) (x40_2 : Bool), v40 = .bool x40_2 ∧ Aside0 (l7_GraphRenamed.j0 kq l0 l1 x40_2 = some r) ∧ Aside0 (kq ≤ k) ∧ Aside0 (Below w.heap.size w wc))
 case first =>
  have H := HC3.out; clear HC3; replace H := Option.bind_eq_some_iff.mp H; obtain ⟨t101, A40, H⟩ := H; replace H : (if t101 = true then (l7_GraphRenamed.j0 k l0 l1 (decide ((l1.length : Int) > 200))) else (l7_GraphRenamed.j0 k l0 l1 true)) = some r := H
  have A4 := Aside0.mk A40; clear A40; by_cases c5 : t101 = true
  ·subst c5; have H1 : (l7_GraphRenamed.j0 k l0 l1 (decide ((l1.length : Int) > 200))) = some r := by rw [if_pos rfl] at H; exact H
   clear H; have H := H1; clear H1; have H' := Aside0.mk H
   clear H; go_wp2_with (first | ((with_reducible refine gate_callee (f := 26) rfl ?_); refine goesL_ (some 34) rfl rfl Try.func26 (by kernel_rfl) rfl #[.slice A0 l0.length c0] rfl (by (try simp only [List.map_toArray, List.map_cons, List.map_nil]); first | done | rfl | (simp only [List.length_drop, List.length_take]; rfl)) ?_; (with_reducible refine (l7_usable.calls k _ _ l0 true _ ?side1 ?side2 A4.out).mono ?_); (case side1 => repeat (first | exact (Kd.C_below HR0.out HB.out) | with_reducible first | refine Kd.C_alloc ?_ _ | refine Kd.C_drewN ?_ _ | refine Kd.C_drew ?_)); (case side2 => exact HC0.out); rintro e w' ⟨rfl, ⟨nd, rfl⟩⟩; refine ⟨_, rfl, ?_⟩))
   go_meet
   case rel => exact ⟨_, (decide ((l1.length : Int) > 200)), (by first | rfl | (simp; done) | (simp [*]; done)), H', ⟨by first | omega | exact Nat.le_refl _⟩, ⟨by repeat (first | (with_reducible first | exact HB.out | apply below_alloc | apply pw_below_drewN | apply below_drew1) | exact HB.out)⟩⟩
  ·replace c5 := Bool.eq_false_iff.mpr c5; subst c5; have H1 : (l7_GraphRenamed.j0 k l0 l1 true) = some r := by rw [if_neg (show ¬ (false = true) by decide)] at H; exact H
   clear H; have H := H1; clear H1; have H' := Aside0.mk H
   clear H; go_wp2_with (first | ((with_reducible refine gate_callee (f := 26) rfl ?_); refine goesL_ (some 34) rfl rfl Try.func26 (by kernel_rfl) rfl #[.slice A0 l0.length c0] rfl (by (try simp only [List.map_toArray, List.map_cons, List.map_nil]); first | done | rfl | (simp only [List.length_drop, List.length_take]; rfl)) ?_; (with_reducible refine (l7_usable.calls k _ _ l0 false _ ?side1 ?side2 A4.out).mono ?_); (case side1 => repeat (first | exact (Kd.C_below HR0.out HB.out) | with_reducible first | refine Kd.C_alloc ?_ _ | refine Kd.C_drewN ?_ _ | refine Kd.C_drew ?_)); (case side2 => exact HC0.out); rintro e w' ⟨rfl, ⟨nd, rfl⟩⟩; refine ⟨_, rfl, ?_⟩))
   go_meet
   case rel => exact ⟨_, (true), (by first | rfl | (simp; done) | (simp [*]; done)), H', ⟨by first | omega | exact Nat.le_refl _⟩, ⟨by repeat (first | (with_reducible first | exact HB.out | apply below_alloc | apply pw_below_drewN | apply below_drew1) | exact HB.out)⟩⟩
 case rest =>
  clear HC3; try clear c1
  try clear c2
  try clear p2
  try clear c5
  obtain ⟨kq, x40_2, rfl, HA, HJ2, HB⟩ := hcut; cases kq with
  | zero => exact absurd HA.out (by simp [l7_GraphRenamed.j0])
  | succ kj2 =>
   have H := HA.out; clear HA; simp only [l7_GraphRenamed.j0] at H
   by_cases c6 : x40_2 = true
   ·subst c6; have H1 : ((l7_awake.f kj2).bind fun t102 => (some t102)) = some r := by rw [if_pos rfl] at H; exact H
    clear H; have H := H1; clear H1; replace H := Option.bind_eq_some_iff.mp H; obtain ⟨t102, A70, H⟩ := H; replace H : (some t102) = some r := H; have A7 := Aside0.mk A70; clear A70; obtain rfl := Option.some.inj H; go_wp2_with (first | ((with_reducible refine gate_callee (f := 14) rfl ?_); refine goesL_ (some 41) rfl rfl Try.func14 (by kernel_rfl) rfl #[] rfl (by (try simp only [List.map_toArray, List.map_cons, List.map_nil]); first | done | rfl | (simp only [List.length_drop, List.length_take]; rfl)) ?_; (with_reducible refine (l7_awake.calls kj2  t102 _ A7.out).mono ?_); rintro e w8 ⟨rfl, hb⟩; refine ⟨_, rfl, ?_⟩; have n0_ := Aside0.mk (below_step (by repeat (first | (with_reducible first | exact HB.out | apply below_alloc | apply pw_below_drewN | apply below_drew1) | exact HB.out)) hb); clear HB; have HB := n0_; clear n0_; (try clear hb); (try clear hb2); (try clear hk); (try clear hi)))
    go_ret
    exact ⟨by first | rfl | (simp [errW_none, errW_some] <;> rfl) | (simp [*, errW_none, errW_some] <;> rfl), by repeat (first | (with_reducible first | exact HB.out | apply below_alloc | apply pw_below_drewN | apply below_drew1) | exact HB.out)⟩
   ·replace c6 := Bool.eq_false_iff.mpr c6; subst c6; have H1 : (if 0 ≤ (l0.length : Int) then (if ((l0.length : Int) : Int).toNat ≤ 35184372088832 then (l7_GraphRenamed.l0 kj2 l0 l1 (List.replicate ((l0.length : Int) : Int).toNat 0) 0) else (none)) else (none)) = some r := by rw [if_neg (show ¬ (false = true) by decide)] at H; exact H
    clear H; have H := H1; clear H1; by_cases c9 : 0 ≤ (l0.length : Int)
    ·rw [if_pos c9] at H; have c9b0 := eq_true c9; have c9b1 : decide (0 ≤ (l0.length : Int)) = true := decide_eq_true c9
     clear c9; by_cases c10 : ((l0.length : Int) : Int).toNat ≤ 35184372088832
     ·rw [if_pos c10] at H; have c10b0 := eq_true c10; have c10b1 : decide (((l0.length : Int) : Int).toNat ≤ 35184372088832) = true := decide_eq_true c10
      clear c10; obtain ⟨y103, hy103⟩ : ∃ y_ : List Int, y_ = (List.replicate ((l0.length : Int) : Int).toNat 0) := ⟨_, rfl⟩; replace H : (l7_GraphRenamed.l0 kj2 l0 l1 y103 0) = some r := by first | (with_reducible first | (rw [hy103]; exact H) | exact H) | (have H2_ := (Option.bind_some _ _).symm.trans H; first | with_reducible exact H2_ | (rw [hy103]; exact H2_)) | (rw [hy103]; exact H) | exact H
      have Ny103 := Aside0.mk hy103; clear hy103; have H' := Aside0.mk H
      clear H; go_wp2_with (first | ((with_reducible refine gate_dst (N := 44) rfl ?_); (try (refine gate_guard (by rfl) ?_; dsimp only)); refine Kd.R_make (Kd.int .i64) _ 3 rfl (N := 44) rfl 33 _ _ rfl (l0.length : Int) rfl rfl Try.underlying33 (.int .i64 0) 8 info3 rfl (by decide) (by omega) 0 (ok := fun _ => True) (okp := fun _ => True) rfl (fun _ hk => hk) trivial (of_decide_eq_true (by with_reducible assumption)) (Nat.le_trans (Nat.mul_le_mul_right _ (of_decide_eq_true (by with_reducible assumption) : (l0.length : Int).toNat ≤ 35184372088832)) (by omega)) (Below.refl _ _) (Nat.le_refl _) ?_; intro v104 w11 ho12 hb hg_ hnew_; clear hg_ hnew_; (first | rw [← Ny103.out] at ho12 | (simp only [Int.reduceToNat] at ho12; rw [← Ny103.out] at ho12)); have n0_ := Aside0.mk (Kd.R_lower ho12 (below_size (by repeat (first | (with_reducible first | exact HB.out | apply below_alloc | apply pw_below_drewN | apply below_drew1) | exact HB.out)))); have n1_ := Aside0.mk (below_step (by repeat (first | (with_reducible first | exact HB.out | apply below_alloc | apply pw_below_drewN | apply below_drew1) | exact HB.out)) hb); clear HB; have HO105 := n0_; have HB := n1_; clear n0_ n1_; clear hb ho12))
      go_loopg [6] kj2 (fun kq v6 w' => ∃ (x5_2 : List Int) (x6_2 : Int), v6 = .int .i64 x6_2 ∧ Aside0 (l7_GraphRenamed.l0 kq l0 l1 x5_2 x6_2 = some r) ∧ Aside0 (kq ≤ kj2) ∧ Aside0 (Kd.R (Kd.int .i64) 3 w' w.heap.size (fun _ => True) v104 x5_2) ∧ Aside0 (Below w.heap.size w w'))
      case atStart => exact ⟨(y103), (0), (by first | rfl | (simp; done) | (simp [*]; done)), H', ⟨Nat.le_refl _⟩, ⟨by (with_reducible repeat (first | apply Kd.R_alloc | apply Kd.R_drewN | apply Kd.R_drew)); exact HO105.out⟩, ⟨by repeat (first | (with_reducible first | exact HB.out | apply below_alloc | apply pw_below_drewN | apply below_drew1) | exact HB.out)⟩⟩
      case round =>
       clear H'; try clear c1
       try clear c2
       try clear p2
       try clear c5
       try clear c6
       try clear c9
       try clear c9b0
       try clear c9b1
       try clear c10
       try clear c10b0
       try clear c10b1
       try clear p2
       obtain ⟨x5_2, x6_2, rfl, HA, HK2, HO_5, HB⟩ := hrel; cases gk with
       | zero => exact absurd HA.out (by simp [l7_GraphRenamed.l0])
       | succ k2 =>
        have H := HA.out; clear HA; simp only [l7_GraphRenamed.l0] at H
        by_cases c13 : x6_2 < (l0.length : Int)
        ·rw [if_pos c13] at H; as_aux_lemma =>
          have c13b0 : decide (x6_2 < (l0.length : Int)) = true := decide_eq_true c13
          clear c13; by_cases c14 : 0 ≤ x6_2
          ·rw [if_pos c14] at H; have c14b0 : decide (0 ≤ x6_2) = true := decide_eq_true c14
           clear c14; by_cases c15 : x6_2 < (x5_2.length : Int)
           ·rw [if_pos c15] at H; have c15b0 : decide (x6_2 < (x5_2.length : Int)) = true := decide_eq_true c15
            clear c15; obtain ⟨y106, hy106⟩ : ∃ y_ : List Int, y_ = (x5_2.set (x6_2 : Int).toNat x6_2) := ⟨_, rfl⟩; replace H : (l7_GraphRenamed.l0 k2 l0 l1 y106 (wrap64 (x6_2 + 1))) = some r := by first | (with_reducible first | (rw [hy106]; exact H) | exact H) | (have H2_ := (Option.bind_some _ _).symm.trans H; first | with_reducible exact H2_ | (rw [hy106]; exact H2_)) | (rw [hy106]; exact H) | exact H
            have Ny106 := Aside0.mk hy106; clear hy106; have H' := Aside0.mk H
            clear H; have p16 : 0 ≤ (x6_2 : Int) := of_decide_eq_true (by with_reducible assumption)
            have q16 : (x6_2 : Int) < ((x5_2.length : Int) : Int) := of_decide_eq_true (by with_reducible assumption)
            obtain ⟨go16, co16, eo16, gb16, gl16, cl16, HG16⟩ := Kd.R_form HO_5.out (by omega)
            (first | cases eo16 | (injection eo16 with ea_ en_ ec_; (first | subst ea_ | (injection ea_ with ea_; subst ea_)); subst ec_; clear en_))
            have GB16 := Aside0.mk gb16; have GG16 := Aside0.mk HG16; clear gb16 gl16 HG16; obtain ⟨hx16_0, hf16_0⟩ := Kd.R_celln 0 HO_5.out (x6_2 : Int) p16 q16; replace p16 := eq_true p16; replace q16 := eq_true q16; have HP17 := Kd.R_putg HO_5.out (x6_2 : Int) x6_2; go_wp2_with (first | ((with_reducible refine gate_store (t := 3) (p := 54) rfl ?_); refine store_event (t := 3) (p := 54) (v := ?vo_w18) (w1 := (wr.setCell ⟨go16, (x6_2 : Int).toNat, none⟩ (.int .i64 x6_2))) ?hg ?ho ?hn ?hr ?_; (case ho => rfl); (case hg => rfl); (case hn => rfl); (case hr => first | (go_simp; done) | (go_simp; rfl)); intro w18 hw; have hg : wr.grownBy w18 (some go16) := (by rw [hw]; exact HP17.2); have hp_ : Kd.R (Kd.int .i64) 3 w18 w.heap.size (fun _ => True) (.slice (some ⟨go16, 0, none⟩) x5_2.length co16) y106 := (by rw [hw, Ny106.out]; exact HP17.1); clear HP17; have n0_ := Aside0.mk (hp_); have n1_ := Aside0.mk ((by rw [hw]; exact below_set (HB.out) GB16.out : Below w.heap.size w w18)); clear HO_5; clear HB; have HO_5 := n0_; have HB := n1_; clear n0_ n1_; clear hg hw hp_))
            go_roundg k2
            case measure => have := HJ2.out; have := HK2.out; omega
            case rel => exact ⟨(y106), (wrap64 (x6_2 + 1)), (by first | rfl | (simp; done) | (simp [*]; done)), H', ⟨by have := HJ2.out; have := HK2.out; omega⟩, ⟨by (with_reducible repeat (first | apply Kd.R_alloc | apply Kd.R_drewN | apply Kd.R_drew)); exact HO_5.out⟩, ⟨by repeat (first | (with_reducible first | exact HB.out | apply below_alloc | apply pw_below_drewN | apply below_drew1) | exact HB.out)⟩⟩
           ·rw [if_neg c15] at H; exact absurd H (by simp)
          ·rw [if_neg c14] at H; exact absurd H (by simp)
        ·rw [if_neg c13] at H; have c13b0 : decide (x6_2 < (l0.length : Int)) = false := decide_eq_false c13
         clear c13; have H' := Aside0.mk H
         clear H; go_wp2
         go_loopg [7] k2 (fun kq v7 w' => ∃ (x5_3 : List Int) (x7_3 : Int), v7 = .int .i64 x7_3 ∧ Aside0 (l7_GraphRenamed.l1 kq l0 l1 x5_3 x7_3 = some r) ∧ Aside0 (kq ≤ k2) ∧ Aside0 (Kd.R (Kd.int .i64) 3 w' w.heap.size (fun _ => True) v104 x5_3) ∧ Aside0 (Below w.heap.size w w'))
         case atStart => exact ⟨(x5_2), (wrap64 ((l0.length : Int) - 1)), (by first | rfl | (simp; done) | (simp [*]; done)), H', ⟨Nat.le_refl _⟩, ⟨by (with_reducible repeat (first | apply Kd.R_alloc | apply Kd.R_drewN | apply Kd.R_drew)); exact HO_5.out⟩, ⟨by repeat (first | (with_reducible first | exact HB.out | apply below_alloc | apply pw_below_drewN | apply below_drew1) | exact HB.out)⟩⟩
         case round =>
          clear H'; try clear c1
          try clear p1
          try clear q1
          try clear hx1
          try clear c2
          try clear p2
          try clear c5
          try clear c6
          try clear p6
          try clear c9
          try clear c9b0
          try clear c9b1
          try clear c10
          try clear c10b0
          try clear c10b1
          try clear c13
          try clear c13b0
          try clear c14
          try clear c14b0
          try clear c15
          try clear c15b0
          try clear p16
          try clear q16
          try clear hx16
          try clear hf16
          try clear hx16_0
          try clear p16
          try clear p2
          try clear q16
          obtain ⟨x5_3, x7_3, rfl, HA, HK3, HO_5, HB⟩ := hrel; cases gk with
          | zero => exact absurd HA.out (by simp [l7_GraphRenamed.l1])
          | succ k3 =>
           have H := HA.out; clear HA; simp only [l7_GraphRenamed.l1] at H
           by_cases c19 : x7_3 > 1
           ·rw [if_pos c19] at H; as_aux_lemma =>
             have c19b0 : decide (1 < x7_3) = true := decide_eq_true c19
             clear c19; by_cases c20 : x7_3 < (l1.length : Int)
             ·rw [if_pos c20] at H; have c20b0 : decide (x7_3 < (l1.length : Int)) = true := decide_eq_true c20
              clear c20; by_cases c21 : 0 ≤ x7_3
              ·rw [if_pos c21] at H; have c21b0 : decide (0 ≤ x7_3) = true := decide_eq_true c21
               clear c21; by_cases c22 : x7_3 = 0
               ·rw [if_pos c22] at H; exact absurd H (by simp)
               ·rw [if_neg c22] at H; have c22b0 : (x7_3 == 0) = false := beq_eq_false_iff_ne.mpr c22
                have c22b1 : (x7_3 != 0) = true := bne_iff_ne.mpr c22
                obtain ⟨ji23, hji23⟩ : ∃ j_ : Int, (wrap64 (1 + (Int.tmod (wrap64 (rd l1 x7_3)) x7_3))) = j_ := ⟨_, rfl⟩; replace H : (if 0 ≤ (ji23) then (if (ji23) < (x5_3.length : Int) then (if x7_3 < (x5_3.length : Int) then (l7_GraphRenamed.l1 k3 l0 l1 ((x5_3.set (x7_3 : Int).toNat (rd x5_3 (ji23))).set ((ji23) : Int).toNat (rd x5_3 x7_3)) (wrap64 (x7_3 - 1))) else (none)) else (none)) else (none)) = some r := by first | (rw [hji23] at H; exact H) | (simp only [hji23] at H ⊢; exact H)
                have hji23w : (IntKind.i64.wrap (1 + (Int.tmod (wrap64 (rd l1 x7_3)) x7_3))) = ji23 := (i64_w _).trans hji23
                by_cases c24 : 0 ≤ (ji23)
                ·rw [if_pos c24] at H; have c24b0 : decide (0 ≤ (ji23)) = true := decide_eq_true c24
                 clear c24; by_cases c25 : (ji23) < (x5_3.length : Int)
                 ·rw [if_pos c25] at H; have c25b0 : decide ((ji23) < (x5_3.length : Int)) = true := decide_eq_true c25
                  clear c25; by_cases c26 : x7_3 < (x5_3.length : Int)
                  ·rw [if_pos c26] at H; have c26b0 : decide (x7_3 < (x5_3.length : Int)) = true := decide_eq_true c26
                   clear c26; obtain ⟨y110, hy110⟩ : ∃ y_ : List Int, y_ = (x5_3.set (x7_3 : Int).toNat (rd x5_3 (ji23))) := ⟨_, rfl⟩; replace H : (l7_GraphRenamed.l1 k3 l0 l1 (y110.set ((ji23) : Int).toNat (rd x5_3 x7_3)) (wrap64 (x7_3 - 1))) = some r := by first | (with_reducible first | (rw [hy110]; exact H) | exact H) | (have H2_ := (Option.bind_some _ _).symm.trans H; first | with_reducible exact H2_ | (rw [hy110]; exact H2_)) | (rw [hy110]; exact H) | exact H
                   have Ny110 := Aside0.mk hy110; clear hy110; obtain ⟨y111, hy111⟩ : ∃ y_ : List Int, y_ = (y110.set ((ji23) : Int).toNat (rd x5_3 x7_3)) := ⟨_, rfl⟩; replace H : (l7_GraphRenamed.l1 k3 l0 l1 y111 (wrap64 (x7_3 - 1))) = some r := by first | (with_reducible first | (rw [hy111]; exact H) | exact H) | (have H2_ := (Option.bind_some _ _).symm.trans H; first | with_reducible exact H2_ | (rw [hy111]; exact H2_)) | (rw [hy111]; exact H) | exact H
                   have Ny111 := Aside0.mk hy111; clear hy111; have H' := Aside0.mk H
                   clear H; have p107 : 0 ≤ (x7_3 : Int) := of_decide_eq_true (by with_reducible assumption)
                   have q107 : x7_3 < (l1.length : Int) := of_decide_eq_true (by with_reducible assumption)
                   obtain ⟨ad107, e107, hx107_0⟩ := Kd.at_int HR1.out x7_3 p107 q107; cases e107; replace hx107_0 := (HB.out.cell (World.block_lt_of_cell? w _ hx107_0)).trans hx107_0; replace p107 := eq_true p107; replace q107 := eq_true q107; try go_wp2
                   have n0_ := Aside0.mk (Kd.R_drew HO_5.out); have n1_ := Aside0.mk (below_drew1 HB.out); clear HO_5; clear HB; have HO_5 := n0_; have HB := n1_; clear n0_ n1_; obtain ⟨Ao30, co30, eo30⟩ := Kd.R_slice HO_5.out; (first | subst eo30 | (injection eo30 with f1_ f2_ f3_; have f4_ := f1_.symm; have f5_ := f3_.symm; clear f1_ f2_ f3_; subst f4_; subst f5_))
                   have p108 : 0 ≤ ((ji23) : Int) := of_decide_eq_true (by with_reducible assumption)
                   have q108 : (ji23) < (x5_3.length : Int) := of_decide_eq_true (by with_reducible assumption)
                   obtain ⟨ad108, e108, hx108_0⟩ := Kd.at_int (Kd.R_reads' HO_5.out).2.2 (ji23) p108 q108; cases e108; replace p108 := eq_true p108; replace q108 := eq_true q108; have p109 : 0 ≤ (x7_3 : Int) := of_decide_eq_true (by with_reducible assumption)
                   have q109 : x7_3 < (x5_3.length : Int) := of_decide_eq_true (by with_reducible assumption)
                   obtain ⟨ad109, e109, hx109_0⟩ := Kd.at_int (Kd.R_reads' HO_5.out).2.2 x7_3 p109 q109; obtain rfl : ad108 = ad109 := (by injection e109)
                   replace p109 := eq_true p109; replace q109 := eq_true q109; have p27 : 0 ≤ (x7_3 : Int) := of_decide_eq_true (by with_reducible assumption)
                   have q27 : (x7_3 : Int) < ((x5_3.length : Int) : Int) := of_decide_eq_true (by with_reducible assumption)
                   obtain ⟨go27, co27, eo27, gb27, gl27, cl27, HG27⟩ := Kd.R_form HO_5.out (by omega)
                   (first | cases eo27 | (injection eo27 with ea_ en_ ec_; (first | subst ea_ | (injection ea_ with ea_; subst ea_)); subst ec_; clear en_))
                   have GB27 := Aside0.mk gb27; have GG27 := Aside0.mk HG27; clear gb27 gl27 HG27; (first | simp only [add_plain] at hx108_0 | skip)
                   (first | simp only [add_plain] at hx109_0 | skip)
                   obtain ⟨hx27_0, hf27_0⟩ := Kd.R_celln 0 HO_5.out (x7_3 : Int) p27 q27; replace p27 := eq_true p27; replace q27 := eq_true q27; have HP31 := Kd.R_putn HO_5.out (x7_3 : Int) (rd x5_3 (ji23)); rw [← Ny110.out] at HP31; have HQ31 := Aside0.mk HP31; clear HP31; have p28 : 0 ≤ ((ji23) : Int) := of_decide_eq_true (by with_reducible assumption)
                   have q28 : ((ji23) : Int) < ((x5_3.length : Int) : Int) := of_decide_eq_true (by with_reducible assumption)
                   obtain ⟨hx28_0, hf28_0⟩ := Kd.R_celln 0 HQ31.out ((ji23) : Int) p28 q28; replace p28 := eq_true p28; replace q28 := eq_true q28; have HP32 := Kd.R_putn HQ31.out ((ji23) : Int) (rd x5_3 x7_3); rw [← Ny111.out] at HP32; have HQ32 := Aside0.mk HP32; clear HP32; as_aux_lemma =>
                    refine start_ (n := 16) (S := fun w' => w'.cell? ⟨go27, ((ji23)).toNat, none⟩ = some (.int .i64 (rd x5_3 (ji23))) ∧ w'.cell? ⟨go27, (x7_3).toNat, none⟩ = some (.int .i64 (rd x5_3 x7_3))) (ds := [13, 15]) #[false, false, false, false, false, false, false, false, false, false, false, false, false, false, false, false] (by kernel_rfl) rfl rfl ⟨hx108_0, hx109_0⟩ (fun hHeld => ?_); refine with_tabW l7_GraphRenamed.tab14 l7_GraphRenamed.bits14 (fun HT_ HW_ => ?_)
                    generalize wr.drew = w29 at HO_5 HB GG27 HQ31 HQ32 hf27_0 hf28_0 hx108_0 hx109_0 hx27_0 hx28_0 hHeld ⊢
                    refine pure_ (i := 0) (N := some 74) (v := ?_) (a' := ?_) #[true, false, false, false, false, false, false, false, false, false, false, false, false, false, false, false] rfl rfl (any_of HT_.out (by kernel_rfl)) (fun _ _ _ h => h) (Or.inl ⟨by rfl, ?_⟩) ?_ ?_
                    rotate_left
                    ·intro w'
                     go_simp
                     with_reducible rfl
                    rotate_left
                    ·simp only [Act.put, List.setIfInBounds_toArray, List.set_cons_zero, List.set_cons_succ, i64_w, i32_w]
                     rfl
                    refine pure_ (i := 1) (N := some 75) (v := ?_) (a' := ?_) #[true, true, false, false, false, false, false, false, false, false, false, false, false, false, false, false] rfl rfl (any_of HT_.out (by kernel_rfl)) (fun _ _ _ h => h) (Or.inl ⟨by rfl, ?_⟩) ?_ ?_
                    rotate_left
                    ·intro w'
                     go_simp
                     with_reducible rfl
                    rotate_left
                    ·simp only [Act.put, List.setIfInBounds_toArray, List.set_cons_zero, List.set_cons_succ, i64_w, i32_w]
                     rfl
                    refine pure_ (i := 2) (N := some 76) (v := ?_) (a' := ?_) #[true, true, true, false, false, false, false, false, false, false, false, false, false, false, false, false] rfl rfl (any_of HT_.out (by kernel_rfl)) (fun _ _ _ h => h) (Or.inl ⟨by rfl, ?_⟩) ?_ ?_
                    rotate_left
                    ·intro w'
                     go_simp
                     with_reducible rfl
                    rotate_left
                    ·simp only [Act.put, List.setIfInBounds_toArray, List.set_cons_zero, List.set_cons_succ, i64_w, i32_w]
                     rfl
                    refine pure_ (i := 3) (N := some 77) (v := ?_) (a' := ?_) #[true, true, true, true, false, false, false, false, false, false, false, false, false, false, false, false] rfl rfl (any_of HT_.out (by kernel_rfl)) (fun _ _ _ h => h) (Or.inl ⟨by rfl, ?_⟩) ?_ ?_
                    rotate_left
                    ·intro w'
                     go_simp
                     with_reducible rfl
                    rotate_left
                    ·simp only [Act.put, List.setIfInBounds_toArray, List.set_cons_zero, List.set_cons_succ, i64_w, i32_w]
                     rfl
                    refine pure_ (i := 4) (N := some 78) (v := ?_) (a' := ?_) #[true, true, true, true, true, false, false, false, false, false, false, false, false, false, false, false] rfl rfl (any_of HT_.out (by kernel_rfl)) (fun _ _ _ h => h) (Or.inl ⟨by rfl, ?_⟩) ?_ ?_
                    rotate_left
                    ·intro w'
                     go_simp
                     with_reducible rfl
                    rotate_left
                    ·simp only [Act.put, List.setIfInBounds_toArray, List.set_cons_zero, List.set_cons_succ, i64_w, i32_w]
                     rfl
                    refine pure_ (i := 5) (N := some 79) (v := ?_) (a' := ?_) #[true, true, true, true, true, true, false, false, false, false, false, false, false, false, false, false] rfl rfl (any_of HT_.out (by kernel_rfl)) (fun _ _ _ h => h) (Or.inl ⟨by rfl, ?_⟩) ?_ ?_
                    rotate_left
                    ·intro w'
                     go_simp
                     with_reducible rfl
                    rotate_left
                    ·simp only [Act.put, List.setIfInBounds_toArray, List.set_cons_zero, List.set_cons_succ, i64_w, i32_w]
                     rfl
                    refine pure_ (i := 6) (N := some 80) (v := ?_) (a' := ?_) #[true, true, true, true, true, true, true, false, false, false, false, false, false, false, false, false] rfl rfl (any_of HT_.out (by kernel_rfl)) (fun _ _ _ h => h) (Or.inl ⟨by rfl, ?_⟩) ?_ ?_
                    rotate_left
                    ·intro w'
                     go_simp
                     with_reducible rfl
                    rotate_left
                    ·simp only [Act.put, List.setIfInBounds_toArray, List.set_cons_zero, List.set_cons_succ, i64_w, i32_w]
                     rfl
                    refine pure_ (i := 8) (N := some 82) (v := ?_) (a' := ?_) #[true, true, true, true, true, true, true, false, true, false, false, false, false, false, false, false] rfl rfl (any_of HT_.out (by kernel_rfl)) (fun _ _ _ h => h) (Or.inl ⟨by rfl, ?_⟩) ?_ ?_
                    rotate_left
                    ·intro w'
                     go_simp
                     with_reducible rfl
                    rotate_left
                    ·simp only [Act.put, List.setIfInBounds_toArray, List.set_cons_zero, List.set_cons_succ, i64_w, i32_w]
                     rfl
                    refine pure_ (i := 9) (N := some 83) (v := ?_) (a' := ?_) #[true, true, true, true, true, true, true, false, true, true, false, false, false, false, false, false] rfl rfl (any_of HT_.out (by kernel_rfl)) (fun _ _ _ h => h) (Or.inl ⟨by rfl, ?_⟩) ?_ ?_
                    rotate_left
                    ·intro w'
                     go_simp
                     with_reducible rfl
                    rotate_left
                    ·simp only [Act.put, List.setIfInBounds_toArray, List.set_cons_zero, List.set_cons_succ, i64_w, i32_w]
                     rfl
                    refine pure_ (i := 10) (N := some 84) (v := ?_) (a' := ?_) #[true, true, true, true, true, true, true, false, true, true, true, false, false, false, false, false] rfl rfl (any_of HT_.out (by kernel_rfl)) (fun _ _ _ h => h) (Or.inl ⟨by rfl, ?_⟩) ?_ ?_
                    rotate_left
                    ·intro w'
                     go_simp
                     with_reducible rfl
                    rotate_left
                    ·simp only [Act.put, List.setIfInBounds_toArray, List.set_cons_zero, List.set_cons_succ, i64_w, i32_w]
                     rfl
                    refine take_ (i := 7) (N := some 81) (v := ?_) (a' := ?_) #[true, true, true, true, true, true, true, true, true, true, true, false, false, false, false, false] rfl rfl (take_ofW HT_.out HW_.out (by kernel_rfl)) (fun _ _ _ h => h) (Or.inl ⟨by rfl, ?_⟩) hHeld ?_ ?_
                    rotate_left
                    ·rintro w' ⟨s0, s1⟩
                     go_simp
                     with_reducible rfl
                    rotate_left
                    ·simp only [Act.put, List.setIfInBounds_toArray, List.set_cons_zero, List.set_cons_succ, i64_w, i32_w]
                     rfl
                    refine take_ (i := 11) (N := some 85) (v := ?_) (a' := ?_) #[true, true, true, true, true, true, true, true, true, true, true, true, false, false, false, false] rfl rfl (take_ofW HT_.out HW_.out (by kernel_rfl)) (fun _ _ _ h => h) (Or.inl ⟨by rfl, ?_⟩) hHeld ?_ ?_
                    rotate_left
                    ·rintro w' ⟨s0, s1⟩
                     go_simp
                     with_reducible rfl
                    rotate_left
                    ·simp only [Act.put, List.setIfInBounds_toArray, List.set_cons_zero, List.set_cons_succ, i64_w, i32_w]
                     rfl
                    refine pure_ (i := 12) (N := some 86) (v := ?_) (a' := ?_) #[true, true, true, true, true, true, true, true, true, true, true, true, true, false, false, false] rfl rfl (any_of HT_.out (by kernel_rfl)) (fun _ _ _ h => h) (Or.inl ⟨by rfl, ?_⟩) ?_ ?_
                    rotate_left
                    ·intro w'
                     go_simp
                     with_reducible rfl
                    rotate_left
                    ·simp only [Act.put, List.setIfInBounds_toArray, List.set_cons_zero, List.set_cons_succ, i64_w, i32_w]
                     rfl
                    refine last_ (i := 13) (N := none) #[true, true, true, true, true, true, true, true, true, true, true, true, true, true, false, false] rfl rfl (one_of HT_.out (by kernel_rfl)) (by decide) (fun K hK => ?_)
                    refine skip_ (w1 := ?_) (by rfl) rfl ?_ ?_
                    rotate_left
                    ·go_simp
                     rfl
                    refine hK.out _ _ ?_
                    clear hK K; refine pure_ (i := 14) (N := some 87) (v := ?_) (a' := ?_) #[true, true, true, true, true, true, true, true, true, true, true, true, true, true, true, false] rfl rfl (any_of HT_.out (by kernel_rfl)) (fun _ _ _ h => h) (Or.inl ⟨by rfl, ?_⟩) ?_ ?_
                    rotate_left
                    ·intro w'
                     go_simp
                     with_reducible rfl
                    rotate_left
                    ·simp only [Act.put, List.setIfInBounds_toArray, List.set_cons_zero, List.set_cons_succ, i64_w, i32_w]
                     rfl
                    refine last_ (i := 15) (N := none) #[true, true, true, true, true, true, true, true, true, true, true, true, true, true, true, true] rfl rfl (one_of HT_.out (by kernel_rfl)) (by decide) (fun K hK => ?_)
                    refine skip_ (w1 := ?_) (by rfl) rfl ?_ ?_
                    rotate_left
                    ·go_simp
                     rfl
                    refine hK.out _ _ ?_
                    clear hK K; refine done_ (done_of HT_.out (by kernel_rfl)) ?_
                    try go_wp2
                    go_roundg k3
                    case measure => have := HJ2.out; have := HK2.out; have := HK3.out; omega
                    case rel => exact ⟨(y111), (wrap64 (x7_3 - 1)), (by first | rfl | (simp; done) | (simp [*]; done)), H', ⟨by have := HJ2.out; have := HK2.out; have := HK3.out; omega⟩, ⟨by (with_reducible repeat (first | apply Kd.R_alloc | apply Kd.R_drewN | apply Kd.R_drew)); exact HQ32.out⟩, ⟨by repeat (first | (with_reducible first | exact HB.out | apply below_alloc | apply pw_below_drewN | apply below_drew1 | refine below_set ?_ GB27.out | refine below_set ?_ GB27.out) | exact HB.out)⟩⟩
                  ·rw [if_neg c26] at H; exact absurd H (by simp)
                 ·rw [if_neg c25] at H; exact absurd H (by simp)
                ·rw [if_neg c24] at H; exact absurd H (by simp)
              ·rw [if_neg c21] at H; exact absurd H (by simp)
             ·rw [if_neg c20] at H; have c20b0 : decide (x7_3 < (l1.length : Int)) = false := decide_eq_false c20
              clear c20; by_cases c33 : 1 < (x5_3.length : Int)
              ·rw [if_pos c33] at H; have c33b0 : decide (1 < (x5_3.length : Int)) = true := decide_eq_true c33
               have c33b1 : decide (1 < x5_3.length) = true := decide_eq_true (by omega)
               clear c33; by_cases c34 : 0 ≤ x7_3
               ·rw [if_pos c34] at H; have c34b0 : decide (0 ≤ x7_3) = true := decide_eq_true c34
                clear c34; by_cases c35 : x7_3 < (x5_3.length : Int)
                ·rw [if_pos c35] at H; have c35b0 : decide (x7_3 < (x5_3.length : Int)) = true := decide_eq_true c35
                 clear c35; obtain ⟨y114, hy114⟩ : ∃ y_ : List Int, y_ = (x5_3.set (x7_3 : Int).toNat (rd x5_3 1)) := ⟨_, rfl⟩; replace H : (l7_GraphRenamed.l1 k3 l0 l1 (y114.set (1 : Int).toNat (rd x5_3 x7_3)) (wrap64 (x7_3 - 1))) = some r := by first | (with_reducible first | (rw [hy114]; exact H) | exact H) | (have H2_ := (Option.bind_some _ _).symm.trans H; first | with_reducible exact H2_ | (rw [hy114]; exact H2_)) | (rw [hy114]; exact H) | exact H
                 have Ny114 := Aside0.mk hy114; clear hy114; obtain ⟨y115, hy115⟩ : ∃ y_ : List Int, y_ = (y114.set (1 : Int).toNat (rd x5_3 x7_3)) := ⟨_, rfl⟩; replace H : (l7_GraphRenamed.l1 k3 l0 l1 y115 (wrap64 (x7_3 - 1))) = some r := by first | (with_reducible first | (rw [hy115]; exact H) | exact H) | (have H2_ := (Option.bind_some _ _).symm.trans H; first | with_reducible exact H2_ | (rw [hy115]; exact H2_)) | (rw [hy115]; exact H) | exact H
                 have Ny115 := Aside0.mk hy115; clear hy115; have H' := Aside0.mk H
                 clear H; try go_wp2
                 have n0_ := Aside0.mk (Kd.R_drew HO_5.out); have n1_ := Aside0.mk (below_drew1 HB.out); clear HO_5; clear HB; have HO_5 := n0_; have HB := n1_; clear n0_ n1_; obtain ⟨Ao39, co39, eo39⟩ := Kd.R_slice HO_5.out; (first | subst eo39 | (injection eo39 with f1_ f2_ f3_; have f4_ := f1_.symm; have f5_ := f3_.symm; clear f1_ f2_ f3_; subst f4_; subst f5_))
                 have p112 : 0 ≤ (1 : Int) := (by omega)
                 have q112 : 1 < (x5_3.length : Int) := of_decide_eq_true (by with_reducible assumption)
                 obtain ⟨ad112, e112, hx112_0⟩ := Kd.at_int (Kd.R_reads' HO_5.out).2.2 1 p112 q112; cases e112; (try simp only [show (1 : Int).toNat = 1 from rfl, Nat.reduceMul, Nat.reduceEqDiff, Go.Addr.add, ↓reduceIte] at hx112_0)
                 have qi112 : (1 < x5_3.length) = True := eq_true (by omega)
                 (try rw [show ((1 : Int)).toNat = 1 from rfl] at hx112_0)
                 replace p112 := eq_true p112; replace q112 := eq_true q112; have p113 : 0 ≤ (x7_3 : Int) := of_decide_eq_true (by with_reducible assumption)
                 have q113 : x7_3 < (x5_3.length : Int) := of_decide_eq_true (by with_reducible assumption)
                 obtain ⟨ad113, e113, hx113_0⟩ := Kd.at_int (Kd.R_reads' HO_5.out).2.2 x7_3 p113 q113; obtain rfl : ad112 = ad113 := (by injection e113)
                 replace p113 := eq_true p113; replace q113 := eq_true q113; have p36 : 0 ≤ (x7_3 : Int) := of_decide_eq_true (by with_reducible assumption)
                 have q36 : (x7_3 : Int) < ((x5_3.length : Int) : Int) := of_decide_eq_true (by with_reducible assumption)
                 obtain ⟨go36, co36, eo36, gb36, gl36, cl36, HG36⟩ := Kd.R_form HO_5.out (by omega)
                 (first | cases eo36 | (injection eo36 with ea_ en_ ec_; (first | subst ea_ | (injection ea_ with ea_; subst ea_)); subst ec_; clear en_))
                 have GB36 := Aside0.mk gb36; have GG36 := Aside0.mk HG36; clear gb36 gl36 HG36; (first | simp only [add_plain] at hx112_0 | skip)
                 (first | simp only [add_plain] at hx113_0 | skip)
                 obtain ⟨hx36_0, hf36_0⟩ := Kd.R_celln 0 HO_5.out (x7_3 : Int) p36 q36; replace p36 := eq_true p36; replace q36 := eq_true q36; have HP40 := Kd.R_putn HO_5.out (x7_3 : Int) (rd x5_3 1); rw [← Ny114.out] at HP40; have HQ40 := Aside0.mk HP40; clear HP40; have p37 : 0 ≤ (1 : Int) := (by omega)
                 have q37 : (1 : Int) < ((x5_3.length : Int) : Int) := of_decide_eq_true (by with_reducible assumption)
                 have qi37 : (1 < x5_3.length) = True := eq_true (by omega)
                 obtain ⟨hx37_0, hf37_0⟩ := Kd.R_celln 0 HQ40.out (1 : Int) p37 q37; (try rw [show ((1 : Int)).toNat = 1 from rfl] at hx37_0)
                 (try simp only [Nat.reduceMul, Nat.zero_mul, Nat.zero_add, Nat.reduceAdd] at hx37_0)
                 (try rw [show ((1 : Int)).toNat = 1 from rfl] at hf37_0)
                 (try simp only [Nat.reduceMul, Nat.zero_mul, Nat.zero_add, Nat.reduceAdd] at hf37_0)
                 replace p37 := eq_true p37; replace q37 := eq_true q37; have HP41 := Kd.R_putn HQ40.out (1 : Int) (rd x5_3 x7_3); rw [← Ny115.out] at HP41; have HQ41 := Aside0.mk HP41; clear HP41; as_aux_lemma =>
                  refine start_ (n := 16) (S := fun w' => w'.cell? ⟨go36, 1, none⟩ = some (.int .i64 (rd x5_3 1)) ∧ w'.cell? ⟨go36, (x7_3).toNat, none⟩ = some (.int .i64 (rd x5_3 x7_3))) (ds := [13, 15]) #[false, false, false, false, false, false, false, false, false, false, false, false, false, false, false, false] (by kernel_rfl) rfl rfl ⟨hx112_0, hx113_0⟩ (fun hHeld => ?_); refine with_tabW l7_GraphRenamed.tab14 l7_GraphRenamed.bits14 (fun HT_ HW_ => ?_)
                  generalize wr.drew = w38 at HO_5 HB GG36 HQ40 HQ41 hf36_0 hf37_0 hx112_0 hx113_0 hx36_0 hx37_0 hHeld ⊢
                  refine pure_ (i := 0) (N := some 74) (v := ?_) (a' := ?_) #[true, false, false, false, false, false, false, false, false, false, false, false, false, false, false, false] rfl rfl (any_of HT_.out (by kernel_rfl)) (fun _ _ _ h => h) (Or.inl ⟨by rfl, ?_⟩) ?_ ?_
                  rotate_left
                  ·intro w'
                   go_simp
                   with_reducible rfl
                  rotate_left
                  ·simp only [Act.put, List.setIfInBounds_toArray, List.set_cons_zero, List.set_cons_succ, i64_w, i32_w]
                   rfl
                  refine pure_ (i := 1) (N := some 75) (v := ?_) (a' := ?_) #[true, true, false, false, false, false, false, false, false, false, false, false, false, false, false, false] rfl rfl (any_of HT_.out (by kernel_rfl)) (fun _ _ _ h => h) (Or.inl ⟨by rfl, ?_⟩) ?_ ?_
                  rotate_left
                  ·intro w'
                   go_simp
                   with_reducible rfl
                  rotate_left
                  ·simp only [Act.put, List.setIfInBounds_toArray, List.set_cons_zero, List.set_cons_succ, i64_w, i32_w]
                   rfl
                  refine pure_ (i := 2) (N := some 76) (v := ?_) (a' := ?_) #[true, true, true, false, false, false, false, false, false, false, false, false, false, false, false, false] rfl rfl (any_of HT_.out (by kernel_rfl)) (fun _ _ _ h => h) (Or.inl ⟨by rfl, ?_⟩) ?_ ?_
                  rotate_left
                  ·intro w'
                   go_simp
                   with_reducible rfl
                  rotate_left
                  ·simp only [Act.put, List.setIfInBounds_toArray, List.set_cons_zero, List.set_cons_succ, i64_w, i32_w]
                   rfl
                  refine pure_ (i := 3) (N := some 77) (v := ?_) (a' := ?_) #[true, true, true, true, false, false, false, false, false, false, false, false, false, false, false, false] rfl rfl (any_of HT_.out (by kernel_rfl)) (fun _ _ _ h => h) (Or.inl ⟨by rfl, ?_⟩) ?_ ?_
                  rotate_left
                  ·intro w'
                   go_simp
                   with_reducible rfl
                  rotate_left
                  ·simp only [Act.put, List.setIfInBounds_toArray, List.set_cons_zero, List.set_cons_succ, i64_w, i32_w]
                   rfl
                  refine pure_ (i := 4) (N := some 78) (v := ?_) (a' := ?_) #[true, true, true, true, true, false, false, false, false, false, false, false, false, false, false, false] rfl rfl (any_of HT_.out (by kernel_rfl)) (fun _ _ _ h => h) (Or.inl ⟨by rfl, ?_⟩) ?_ ?_
                  rotate_left
                  ·intro w'
                   go_simp
                   with_reducible rfl
                  rotate_left
                  ·simp only [Act.put, List.setIfInBounds_toArray, List.set_cons_zero, List.set_cons_succ, i64_w, i32_w]
                   rfl
                  refine pure_ (i := 5) (N := some 79) (v := ?_) (a' := ?_) #[true, true, true, true, true, true, false, false, false, false, false, false, false, false, false, false] rfl rfl (any_of HT_.out (by kernel_rfl)) (fun _ _ _ h => h) (Or.inl ⟨by rfl, ?_⟩) ?_ ?_
                  rotate_left
                  ·intro w'
                   go_simp
                   with_reducible rfl
                  rotate_left
                  ·simp only [Act.put, List.setIfInBounds_toArray, List.set_cons_zero, List.set_cons_succ, i64_w, i32_w]
                   rfl
                  refine pure_ (i := 6) (N := some 80) (v := ?_) (a' := ?_) #[true, true, true, true, true, true, true, false, false, false, false, false, false, false, false, false] rfl rfl (any_of HT_.out (by kernel_rfl)) (fun _ _ _ h => h) (Or.inl ⟨by rfl, ?_⟩) ?_ ?_
                  rotate_left
                  ·intro w'
                   go_simp
                   with_reducible rfl
                  rotate_left
                  ·simp only [Act.put, List.setIfInBounds_toArray, List.set_cons_zero, List.set_cons_succ, i64_w, i32_w]
                   rfl
                  refine pure_ (i := 8) (N := some 82) (v := ?_) (a' := ?_) #[true, true, true, true, true, true, true, false, true, false, false, false, false, false, false, false] rfl rfl (any_of HT_.out (by kernel_rfl)) (fun _ _ _ h => h) (Or.inl ⟨by rfl, ?_⟩) ?_ ?_
                  rotate_left
                  ·intro w'
                   go_simp
                   with_reducible rfl
                  rotate_left
                  ·simp only [Act.put, List.setIfInBounds_toArray, List.set_cons_zero, List.set_cons_succ, i64_w, i32_w]
                   rfl
                  refine pure_ (i := 9) (N := some 83) (v := ?_) (a' := ?_) #[true, true, true, true, true, true, true, false, true, true, false, false, false, false, false, false] rfl rfl (any_of HT_.out (by kernel_rfl)) (fun _ _ _ h => h) (Or.inl ⟨by rfl, ?_⟩) ?_ ?_
                  rotate_left
                  ·intro w'
                   go_simp
                   with_reducible rfl
                  rotate_left
                  ·simp only [Act.put, List.setIfInBounds_toArray, List.set_cons_zero, List.set_cons_succ, i64_w, i32_w]
                   rfl
                  refine pure_ (i := 10) (N := some 84) (v := ?_) (a' := ?_) #[true, true, true, true, true, true, true, false, true, true, true, false, false, false, false, false] rfl rfl (any_of HT_.out (by kernel_rfl)) (fun _ _ _ h => h) (Or.inl ⟨by rfl, ?_⟩) ?_ ?_
                  rotate_left
                  ·intro w'
                   go_simp
                   with_reducible rfl
                  rotate_left
                  ·simp only [Act.put, List.setIfInBounds_toArray, List.set_cons_zero, List.set_cons_succ, i64_w, i32_w]
                   rfl
                  refine take_ (i := 7) (N := some 81) (v := ?_) (a' := ?_) #[true, true, true, true, true, true, true, true, true, true, true, false, false, false, false, false] rfl rfl (take_ofW HT_.out HW_.out (by kernel_rfl)) (fun _ _ _ h => h) (Or.inl ⟨by rfl, ?_⟩) hHeld ?_ ?_
                  rotate_left
                  ·rintro w' ⟨s0, s1⟩
                   go_simp
                   with_reducible rfl
                  rotate_left
                  ·simp only [Act.put, List.setIfInBounds_toArray, List.set_cons_zero, List.set_cons_succ, i64_w, i32_w]
                   rfl
                  refine take_ (i := 11) (N := some 85) (v := ?_) (a' := ?_) #[true, true, true, true, true, true, true, true, true, true, true, true, false, false, false, false] rfl rfl (take_ofW HT_.out HW_.out (by kernel_rfl)) (fun _ _ _ h => h) (Or.inl ⟨by rfl, ?_⟩) hHeld ?_ ?_
                  rotate_left
                  ·rintro w' ⟨s0, s1⟩
                   go_simp
                   with_reducible rfl
                  rotate_left
                  ·simp only [Act.put, List.setIfInBounds_toArray, List.set_cons_zero, List.set_cons_succ, i64_w, i32_w]
                   rfl
                  refine pure_ (i := 12) (N := some 86) (v := ?_) (a' := ?_) #[true, true, true, true, true, true, true, true, true, true, true, true, true, false, false, false] rfl rfl (any_of HT_.out (by kernel_rfl)) (fun _ _ _ h => h) (Or.inl ⟨by rfl, ?_⟩) ?_ ?_
                  rotate_left
                  ·intro w'
                   go_simp
                   with_reducible rfl
                  rotate_left
                  ·simp only [Act.put, List.setIfInBounds_toArray, List.set_cons_zero, List.set_cons_succ, i64_w, i32_w]
                   rfl
                  refine last_ (i := 13) (N := none) #[true, true, true, true, true, true, true, true, true, true, true, true, true, true, false, false] rfl rfl (one_of HT_.out (by kernel_rfl)) (by decide) (fun K hK => ?_)
                  refine skip_ (w1 := ?_) (by rfl) rfl ?_ ?_
                  rotate_left
                  ·go_simp
                   rfl
                  refine hK.out _ _ ?_
                  clear hK K; refine pure_ (i := 14) (N := some 87) (v := ?_) (a' := ?_) #[true, true, true, true, true, true, true, true, true, true, true, true, true, true, true, false] rfl rfl (any_of HT_.out (by kernel_rfl)) (fun _ _ _ h => h) (Or.inl ⟨by rfl, ?_⟩) ?_ ?_
                  rotate_left
                  ·intro w'
                   go_simp
                   with_reducible rfl
                  rotate_left
                  ·simp only [Act.put, List.setIfInBounds_toArray, List.set_cons_zero, List.set_cons_succ, i64_w, i32_w]
                   rfl
                  refine last_ (i := 15) (N := none) #[true, true, true, true, true, true, true, true, true, true, true, true, true, true, true, true] rfl rfl (one_of HT_.out (by kernel_rfl)) (by decide) (fun K hK => ?_)
                  refine skip_ (w1 := ?_) (by rfl) rfl ?_ ?_
                  rotate_left
                  ·go_simp
                   rfl
                  refine hK.out _ _ ?_
                  clear hK K; refine done_ (done_of HT_.out (by kernel_rfl)) ?_
                  try go_wp2
                  go_roundg k3
                  case measure => have := HJ2.out; have := HK2.out; have := HK3.out; omega
                  case rel => exact ⟨(y115), (wrap64 (x7_3 - 1)), (by first | rfl | (simp; done) | (simp [*]; done)), H', ⟨by have := HJ2.out; have := HK2.out; have := HK3.out; omega⟩, ⟨by (with_reducible repeat (first | apply Kd.R_alloc | apply Kd.R_drewN | apply Kd.R_drew)); exact HQ41.out⟩, ⟨by repeat (first | (with_reducible first | exact HB.out | apply below_alloc | apply pw_below_drewN | apply below_drew1 | refine below_set ?_ GB36.out | refine below_set ?_ GB36.out) | exact HB.out)⟩⟩
                ·rw [if_neg c35] at H; exact absurd H (by simp)
               ·rw [if_neg c34] at H; exact absurd H (by simp)
              ·rw [if_neg c33] at H; exact absurd H (by simp)
           ·rw [if_neg c19] at H; have c19b0 : decide (1 < x7_3) = false := decide_eq_false c19
            clear c19; replace H := Option.bind_eq_some_iff.mp H; obtain ⟨t116, A420, H⟩ := H; replace H : ((graph_Dominators.f k3 l0).bind fun bt119 => ((graph_Dominators.f k3 t116).bind fun bt123 => ((graph_Postdominators.f k3 l0).bind fun bt127 => ((graph_Postdominators.f k3 t116).bind fun bt131 => ((graph_Frontier.f k3 l0).bind fun bt135 => ((graph_Frontier.f k3 t116).bind fun bt139 => ((graph_Loops.f k3 l0).bind fun bt143 => ((graph_Loops.f k3 t116).bind fun bt147 => ((graph_Reducible.f k3 l0).bind fun bt151 => ((graph_Reducible.f k3 t116).bind fun bt153 => (if bt151.2 = 0 then (if bt153.2 = 0 then (if (bt151.1 != bt153.1) = true then (none) else (if (bt119.1.length : Int) = (l0.length : Int) then (if (bt123.1.length : Int) = (l0.length : Int) then (if (bt127.1.length : Int) = (l0.length : Int) then (if (bt131.1.length : Int) = (l0.length : Int) then (if (bt135.1.length : Int) = (l0.length : Int) then (if (bt139.1.length : Int) = (l0.length : Int) then (if (bt143.1.length : Int) = (l0.length : Int) then (l7_GraphRenamed.j3 k3 l0 x5_3 bt119.1 bt123.1 bt127.1 bt131.1 bt135.1 bt139.1 bt143.1 bt147.1 ((bt147.1.length : Int) != (l0.length : Int))) else (none)) else (none)) else (none)) else (none)) else (none)) else (none)) else (none))) else (none)) else (none)))))))))))) = some r := H
            have A42 := Aside0.mk A420; clear A420; replace H := Option.bind_eq_some_iff.mp H; obtain ⟨⟨t119, t120⟩, A430, H⟩ := H; replace H : ((graph_Dominators.f k3 t116).bind fun bt123 => ((graph_Postdominators.f k3 l0).bind fun bt127 => ((graph_Postdominators.f k3 t116).bind fun bt131 => ((graph_Frontier.f k3 l0).bind fun bt135 => ((graph_Frontier.f k3 t116).bind fun bt139 => ((graph_Loops.f k3 l0).bind fun bt143 => ((graph_Loops.f k3 t116).bind fun bt147 => ((graph_Reducible.f k3 l0).bind fun bt151 => ((graph_Reducible.f k3 t116).bind fun bt153 => (if bt151.2 = 0 then (if bt153.2 = 0 then (if (bt151.1 != bt153.1) = true then (none) else (if (t119.length : Int) = (l0.length : Int) then (if (bt123.1.length : Int) = (l0.length : Int) then (if (bt127.1.length : Int) = (l0.length : Int) then (if (bt131.1.length : Int) = (l0.length : Int) then (if (bt135.1.length : Int) = (l0.length : Int) then (if (bt139.1.length : Int) = (l0.length : Int) then (if (bt143.1.length : Int) = (l0.length : Int) then (l7_GraphRenamed.j3 k3 l0 x5_3 t119 bt123.1 bt127.1 bt131.1 bt135.1 bt139.1 bt143.1 bt147.1 ((bt147.1.length : Int) != (l0.length : Int))) else (none)) else (none)) else (none)) else (none)) else (none)) else (none)) else (none))) else (none)) else (none))))))))))) = some r := H
            have A43 := Aside0.mk A430; clear A430; replace H := Option.bind_eq_some_iff.mp H; obtain ⟨⟨t123, t124⟩, A440, H⟩ := H; replace H : ((graph_Postdominators.f k3 l0).bind fun bt127 => ((graph_Postdominators.f k3 t116).bind fun bt131 => ((graph_Frontier.f k3 l0).bind fun bt135 => ((graph_Frontier.f k3 t116).bind fun bt139 => ((graph_Loops.f k3 l0).bind fun bt143 => ((graph_Loops.f k3 t116).bind fun bt147 => ((graph_Reducible.f k3 l0).bind fun bt151 => ((graph_Reducible.f k3 t116).bind fun bt153 => (if bt151.2 = 0 then (if bt153.2 = 0 then (if (bt151.1 != bt153.1) = true then (none) else (if (t119.length : Int) = (l0.length : Int) then (if (t123.length : Int) = (l0.length : Int) then (if (bt127.1.length : Int) = (l0.length : Int) then (if (bt131.1.length : Int) = (l0.length : Int) then (if (bt135.1.length : Int) = (l0.length : Int) then (if (bt139.1.length : Int) = (l0.length : Int) then (if (bt143.1.length : Int) = (l0.length : Int) then (l7_GraphRenamed.j3 k3 l0 x5_3 t119 t123 bt127.1 bt131.1 bt135.1 bt139.1 bt143.1 bt147.1 ((bt147.1.length : Int) != (l0.length : Int))) else (none)) else (none)) else (none)) else (none)) else (none)) else (none)) else (none))) else (none)) else (none)))))))))) = some r := H
            have A44 := Aside0.mk A440; clear A440; replace H := Option.bind_eq_some_iff.mp H; obtain ⟨⟨t127, t128⟩, A450, H⟩ := H; replace H : ((graph_Postdominators.f k3 t116).bind fun bt131 => ((graph_Frontier.f k3 l0).bind fun bt135 => ((graph_Frontier.f k3 t116).bind fun bt139 => ((graph_Loops.f k3 l0).bind fun bt143 => ((graph_Loops.f k3 t116).bind fun bt147 => ((graph_Reducible.f k3 l0).bind fun bt151 => ((graph_Reducible.f k3 t116).bind fun bt153 => (if bt151.2 = 0 then (if bt153.2 = 0 then (if (bt151.1 != bt153.1) = true then (none) else (if (t119.length : Int) = (l0.length : Int) then (if (t123.length : Int) = (l0.length : Int) then (if (t127.length : Int) = (l0.length : Int) then (if (bt131.1.length : Int) = (l0.length : Int) then (if (bt135.1.length : Int) = (l0.length : Int) then (if (bt139.1.length : Int) = (l0.length : Int) then (if (bt143.1.length : Int) = (l0.length : Int) then (l7_GraphRenamed.j3 k3 l0 x5_3 t119 t123 t127 bt131.1 bt135.1 bt139.1 bt143.1 bt147.1 ((bt147.1.length : Int) != (l0.length : Int))) else (none)) else (none)) else (none)) else (none)) else (none)) else (none)) else (none))) else (none)) else (none))))))))) = some r := H
            have A45 := Aside0.mk A450; clear A450; replace H := Option.bind_eq_some_iff.mp H; obtain ⟨⟨t131, t132⟩, A460, H⟩ := H; replace H : ((graph_Frontier.f k3 l0).bind fun bt135 => ((graph_Frontier.f k3 t116).bind fun bt139 => ((graph_Loops.f k3 l0).bind fun bt143 => ((graph_Loops.f k3 t116).bind fun bt147 => ((graph_Reducible.f k3 l0).bind fun bt151 => ((graph_Reducible.f k3 t116).bind fun bt153 => (if bt151.2 = 0 then (if bt153.2 = 0 then (if (bt151.1 != bt153.1) = true then (none) else (if (t119.length : Int) = (l0.length : Int) then (if (t123.length : Int) = (l0.length : Int) then (if (t127.length : Int) = (l0.length : Int) then (if (t131.length : Int) = (l0.length : Int) then (if (bt135.1.length : Int) = (l0.length : Int) then (if (bt139.1.length : Int) = (l0.length : Int) then (if (bt143.1.length : Int) = (l0.length : Int) then (l7_GraphRenamed.j3 k3 l0 x5_3 t119 t123 t127 t131 bt135.1 bt139.1 bt143.1 bt147.1 ((bt147.1.length : Int) != (l0.length : Int))) else (none)) else (none)) else (none)) else (none)) else (none)) else (none)) else (none))) else (none)) else (none)))))))) = some r := H
            have A46 := Aside0.mk A460; clear A460; replace H := Option.bind_eq_some_iff.mp H; obtain ⟨⟨t135, t136⟩, A470, H⟩ := H; replace H : ((graph_Frontier.f k3 t116).bind fun bt139 => ((graph_Loops.f k3 l0).bind fun bt143 => ((graph_Loops.f k3 t116).bind fun bt147 => ((graph_Reducible.f k3 l0).bind fun bt151 => ((graph_Reducible.f k3 t116).bind fun bt153 => (if bt151.2 = 0 then (if bt153.2 = 0 then (if (bt151.1 != bt153.1) = true then (none) else (if (t119.length : Int) = (l0.length : Int) then (if (t123.length : Int) = (l0.length : Int) then (if (t127.length : Int) = (l0.length : Int) then (if (t131.length : Int) = (l0.length : Int) then (if (t135.length : Int) = (l0.length : Int) then (if (bt139.1.length : Int) = (l0.length : Int) then (if (bt143.1.length : Int) = (l0.length : Int) then (l7_GraphRenamed.j3 k3 l0 x5_3 t119 t123 t127 t131 t135 bt139.1 bt143.1 bt147.1 ((bt147.1.length : Int) != (l0.length : Int))) else (none)) else (none)) else (none)) else (none)) else (none)) else (none)) else (none))) else (none)) else (none))))))) = some r := H
            have A47 := Aside0.mk A470; clear A470; replace H := Option.bind_eq_some_iff.mp H; obtain ⟨⟨t139, t140⟩, A480, H⟩ := H; replace H : ((graph_Loops.f k3 l0).bind fun bt143 => ((graph_Loops.f k3 t116).bind fun bt147 => ((graph_Reducible.f k3 l0).bind fun bt151 => ((graph_Reducible.f k3 t116).bind fun bt153 => (if bt151.2 = 0 then (if bt153.2 = 0 then (if (bt151.1 != bt153.1) = true then (none) else (if (t119.length : Int) = (l0.length : Int) then (if (t123.length : Int) = (l0.length : Int) then (if (t127.length : Int) = (l0.length : Int) then (if (t131.length : Int) = (l0.length : Int) then (if (t135.length : Int) = (l0.length : Int) then (if (t139.length : Int) = (l0.length : Int) then (if (bt143.1.length : Int) = (l0.length : Int) then (l7_GraphRenamed.j3 k3 l0 x5_3 t119 t123 t127 t131 t135 t139 bt143.1 bt147.1 ((bt147.1.length : Int) != (l0.length : Int))) else (none)) else (none)) else (none)) else (none)) else (none)) else (none)) else (none))) else (none)) else (none)))))) = some r := H
            have A48 := Aside0.mk A480; clear A480; replace H := Option.bind_eq_some_iff.mp H; obtain ⟨⟨t143, t144⟩, A490, H⟩ := H; replace H : ((graph_Loops.f k3 t116).bind fun bt147 => ((graph_Reducible.f k3 l0).bind fun bt151 => ((graph_Reducible.f k3 t116).bind fun bt153 => (if bt151.2 = 0 then (if bt153.2 = 0 then (if (bt151.1 != bt153.1) = true then (none) else (if (t119.length : Int) = (l0.length : Int) then (if (t123.length : Int) = (l0.length : Int) then (if (t127.length : Int) = (l0.length : Int) then (if (t131.length : Int) = (l0.length : Int) then (if (t135.length : Int) = (l0.length : Int) then (if (t139.length : Int) = (l0.length : Int) then (if (t143.length : Int) = (l0.length : Int) then (l7_GraphRenamed.j3 k3 l0 x5_3 t119 t123 t127 t131 t135 t139 t143 bt147.1 ((bt147.1.length : Int) != (l0.length : Int))) else (none)) else (none)) else (none)) else (none)) else (none)) else (none)) else (none))) else (none)) else (none))))) = some r := H
            have A49 := Aside0.mk A490; clear A490; replace H := Option.bind_eq_some_iff.mp H; obtain ⟨⟨t147, t148⟩, A500, H⟩ := H; replace H : ((graph_Reducible.f k3 l0).bind fun bt151 => ((graph_Reducible.f k3 t116).bind fun bt153 => (if bt151.2 = 0 then (if bt153.2 = 0 then (if (bt151.1 != bt153.1) = true then (none) else (if (t119.length : Int) = (l0.length : Int) then (if (t123.length : Int) = (l0.length : Int) then (if (t127.length : Int) = (l0.length : Int) then (if (t131.length : Int) = (l0.length : Int) then (if (t135.length : Int) = (l0.length : Int) then (if (t139.length : Int) = (l0.length : Int) then (if (t143.length : Int) = (l0.length : Int) then (l7_GraphRenamed.j3 k3 l0 x5_3 t119 t123 t127 t131 t135 t139 t143 t147 ((t147.length : Int) != (l0.length : Int))) else (none)) else (none)) else (none)) else (none)) else (none)) else (none)) else (none))) else (none)) else (none)))) = some r := H
            have A50 := Aside0.mk A500; clear A500; replace H := Option.bind_eq_some_iff.mp H; obtain ⟨⟨t151, t152⟩, A510, H⟩ := H; replace H : ((graph_Reducible.f k3 t116).bind fun bt153 => (if t152 = 0 then (if bt153.2 = 0 then (if (t151 != bt153.1) = true then (none) else (if (t119.length : Int) = (l0.length : Int) then (if (t123.length : Int) = (l0.length : Int) then (if (t127.length : Int) = (l0.length : Int) then (if (t131.length : Int) = (l0.length : Int) then (if (t135.length : Int) = (l0.length : Int) then (if (t139.length : Int) = (l0.length : Int) then (if (t143.length : Int) = (l0.length : Int) then (l7_GraphRenamed.j3 k3 l0 x5_3 t119 t123 t127 t131 t135 t139 t143 t147 ((t147.length : Int) != (l0.length : Int))) else (none)) else (none)) else (none)) else (none)) else (none)) else (none)) else (none))) else (none)) else (none))) = some r := H
            have A51 := Aside0.mk A510; clear A510; replace H := Option.bind_eq_some_iff.mp H; obtain ⟨⟨t153, t154⟩, A520, H⟩ := H; replace H : (if t152 = 0 then (if t154 = 0 then (if (t151 != t153) = true then (none) else (if (t119.length : Int) = (l0.length : Int) then (if (t123.length : Int) = (l0.length : Int) then (if (t127.length : Int) = (l0.length : Int) then (if (t131.length : Int) = (l0.length : Int) then (if (t135.length : Int) = (l0.length : Int) then (if (t139.length : Int) = (l0.length : Int) then (if (t143.length : Int) = (l0.length : Int) then (l7_GraphRenamed.j3 k3 l0 x5_3 t119 t123 t127 t131 t135 t139 t143 t147 ((t147.length : Int) != (l0.length : Int))) else (none)) else (none)) else (none)) else (none)) else (none)) else (none)) else (none))) else (none)) else (none)) = some r := H
            have A52 := Aside0.mk A520; clear A520; have HC53 := Aside0.mk H; clear H; obtain ⟨Ao54, co54, eo54⟩ := Kd.R_slice HO_5.out; subst eo54; have hlen : l0.length ≤ 5864062014805 ∧ rgOut x5_3 l0 (List.range l0.length) (List.replicate l0.length []) = some t116 := by
             have h := A42.out; unfold renamed_graph.f at h
             by_cases hl : l0.length ≤ 5864062014805
             ·rw [if_pos hl] at h; exact ⟨hl, h⟩
             ·rw [if_neg hl] at h; cases h
            obtain ⟨hlen, hro⟩ := hlen; have HRO : Aside0 (rgOut x5_3 l0 (List.range' 0 l0.length) (List.replicate l0.length []) = some t116) := ⟨by rw [← List.range_eq_range']; exact hro⟩
            have HLen := Aside0.mk hlen; have hmk := print_make_of (P := Try.prog) 22 33 (.slice none 0 0) 24 Try.underlying22 A.info33 rfl (by decide) l0.length (by omega)
            clear hlen hro; go_upto_region 16 with (fail)
            clear hmk; obtain ⟨go, hgo⟩ : ∃ go, go = wr.heap.size := ⟨_, rfl⟩; rw [← hgo]; refine gen_world (P := fun W => W.heap[go]? = some (.cells (List.replicate l0.length (.slice none 0 0)).toArray 33 (0, 0)) ∧ Below wr.heap.size wr W) ?_ ?_
            ·refine ⟨?_, by first | exact below_alloc (Below.refl _ _) _ | exact below_alloc (pw_below_drewN (Below.refl _ _) _) _⟩
             have e0 : (madeCells #[(.slice none 0 0 : Value)] l0.length) = (List.replicate l0.length (.slice none 0 0)).toArray := by
              apply Array.ext_getElem?
              intro i
              simp only [madeCells, Array.getElem?_map, List.getElem?_toArray]
              by_cases hi : i < l0.length
              ·rw [Array.getElem?_eq_getElem (by simpa using hi), List.getElem?_eq_getElem (by simpa using hi)]; simp [Nat.mod_one]
              ·rw [Array.getElem?_eq_none (by simpa using hi), List.getElem?_eq_none (by simpa using hi)]; rfl
             rw [e0]; exact new_at _ hgo
            rintro w2 ⟨ht2, hb2⟩
            have HF : Aside0 (RnSt w w2 w2 go (List.replicate l0.length (.slice none 0 0)) (List.replicate l0.length []) (.slice Ao54 x5_3.length co54) x5_3) := ⟨RnSt.start hgo ht2 hb2 HB.out HO_5.out⟩
            have HB2 := Aside0.mk hb2; have HGo := Aside0.mk hgo; clear ht2 hb2 hgo; go_wp2
            go_loopw [10] (fun i w' => ∃ (j : Nat) (vs : List Value) (ls : List (List Int)), j ≤ l0.length ∧ i = .int .i64 j ∧ Aside0 (rgOut x5_3 l0 (List.range' j (l0.length - j)) ls = some t116) ∧ Aside0 (RnSt w w2 w' go vs ls (.slice Ao54 x5_3.length co54) x5_3) ∧ Aside0 (ls.length = l0.length)) (fun i _ => l0.length - (intOf i).toNat)
            case atStart => exact ⟨0, _, _, by omega, rfl, HRO, HF, ⟨by simp⟩⟩
            case round =>
             obtain ⟨j, vs, ls, hj, rfl, HV, HF, HS⟩ := hrel; clear HRO; by_cases hlt : j < l0.length
             ·have hv := HV.out; rw [show l0.length - j = (l0.length - (j + 1)) + 1 by omega, List.range'_succ, rgOut] at hv
              by_cases hjt : j < x5_3.length
              case neg => rw [if_neg hjt] at hv; cases hv
              rw [if_pos hjt] at hv; by_cases ht0 : 0 ≤ rd x5_3 (j : Int)
              case neg => rw [if_neg ht0] at hv; cases hv
              rw [if_pos ht0] at hv; by_cases ht1 : rd x5_3 (j : Int) < (ls.length : Int)
              case neg => rw [if_neg ht1] at hv; cases hv
              rw [if_pos ht1] at hv; obtain ⟨ls1, hp1, hp2⟩ := Option.bind_eq_some_iff.mp hv; obtain ⟨adG, Ar, cr, eG, hcG, hlr, hir⟩ := Go.Proofs.Ytjjedbcgkljdeaa.A.at_L1 HR0.out (j : Int) (by omega) (by omega)
              cases eG; rw [Int.toNat_natCast] at hcG; have HcG := Aside0.mk hcG; have Hir := Aside0.mk hir; have hmR := Kd.C_max hir; have HP1 := Aside0.mk hp1; have HP2 := Aside0.mk hp2; clear hv HV hp1 hp2 hcG hir hlr; have hcW := (HF.out.cellG HcG.out).1; generalize hrow : Go.Proofs.Ytjjedbcgkljdeaa.A.rd_L1 l0 (j : Int) = row at *
              go_wp2
              have ht2 : rd x5_3 (j : Int) < (l0.length : Int) := by have := HS.out; omega
              as_aux_lemma =>
               go_loopw [11] (fun i w' => ∃ (q : Nat) (vs : List Value) (ls : List (List Int)), q ≤ row.length ∧ i = .int .i64 q ∧ Aside0 (rgIn x5_3 (rd x5_3 (j : Int)) (row.drop q) ls = some ls1) ∧ Aside0 (RnSt w w2 w' go vs ls (.slice Ao54 x5_3.length co54) x5_3) ∧ Aside0 (ls.length = l0.length)) (fun i _ => row.length - (intOf i).toNat)
               case atStart => exact ⟨0, _, _, by omega, rfl, HP1, HF, HS⟩
               case round =>
                clear HP1 HF HS hcW ht1; obtain ⟨q, vs, ls, hq, rfl, HV, HF, HS⟩ := hrel; have hcW := (HF.out.cellG HcG.out).1; by_cases hlq : q < row.length
                ·have hv := HV.out; rw [List.drop_eq_getElem_cons hlq, rgIn] at hv; obtain ⟨x, hx⟩ : ∃ x, x = row[q] := ⟨_, rfl⟩; rw [← hx] at hv; by_cases h0 : 0 ≤ x
                 case neg => rw [if_neg h0] at hv; cases hv
                 rw [if_pos h0] at hv; by_cases h1 : x < (x5_3.length : Int)
                 case neg => rw [if_neg h1] at hv; cases hv
                 rw [if_pos h1] at hv; obtain ⟨tj, htj⟩ := Int.eq_ofNat_of_zero_le ht0; rw [htj] at hv ht2
                 by_cases hbd : (Go.Proofs.Ytjjedbcgkljdeaa.A.rd_L1 ls (tj : Int)).length < 17592186044416
                 case neg => rw [if_neg hbd] at hv; cases hv
                 rw [if_pos hbd] at hv; obtain ⟨row2, hrow2⟩ : ∃ row2, row2 = ls.getD tj [] := ⟨_, rfl⟩; have hrw : Go.Proofs.Ytjjedbcgkljdeaa.A.rd_L1 ls (tj : Int) = row2 := by rw [hrow2]; rfl
                 rw [hrw] at hv hbd
                 obtain ⟨xn, rfl⟩ := Int.eq_ofNat_of_zero_le h0; have hF := HF.out.grown (below_drew (Below.refl _ _)); have htv : tj < vs.length := by have := hF.o.len; have := HS.out; omega
                 have htl : tj < l0.length := by omega
                 have hxl : xn < x5_3.length := by omega
                 obtain ⟨adT, eT, hT1, hT2⟩ := hF.cellT (j : Int) (by omega) (by omega)
                 cases eT; obtain ⟨adT2, eT, hX1, hX2⟩ := hF.cellT (xn : Int) (by omega) h1
                 cases eT; obtain ⟨adR, eR, hcR⟩ := Kd.at_int Hir.out (q : Int) (by omega) (by omega)
                 cases eR; obtain ⟨yv, hyv⟩ : ∃ yv, yv = rd x5_3 (xn : Int) := ⟨_, rfl⟩; rw [htj, Int.toNat_natCast] at hT1; rw [Int.toNat_natCast] at hT2; rw [← hyv, Int.toNat_natCast] at hX1; rw [Int.toNat_natCast] at hX2; rw [← hyv, Int.toNat_natCast] at hv; rw [Int.toNat_natCast, show rd row (q : Int) = (xn : Int) by unfold rd; rw [Int.toNat_natCast, List.getD_eq_getElem?_getD, List.getElem?_eq_getElem hlq, hx]; rfl] at hcR
                 obtain ⟨Ah, ch, evs, hch, hfh⟩ := hF.o.cell tj htv; have hown := hF.o.own tj htv; rw [evs] at hown; rw [← hrow2] at hown hch evs
                 have hS : ∀ W', Below w2.heap.size wr.drew W' → (W'.cell? (adT.add j) = some (.int .i64 (tj : Int)) ∧ W'.cell? (adG.add j) = some (.slice (some adR) row.length cr) ∧ W'.cell? (adR.add q) = some (.int .i64 (xn : Int)) ∧ W'.cell? (adT.add xn) = some (.int .i64 yv) ∧ W'.cell? ⟨go, tj, none⟩ = some (.slice Ah row2.length ch)) := fun W' hb =>
                  ⟨keep_cell ⟨hT1, hT2⟩ hb, keep_cell (hF.cellG HcG.out) hb, keep_cell (hF.cellG hcR) hb, keep_cell ⟨hX1, hX2⟩ hb, keep_cell ⟨hch, hF.o.lt⟩ hb⟩
                 have HFd := Aside0.mk hF; have HOWN := Aside0.mk hown; have HSS := Aside0.mk hS; have HEV := Aside0.mk evs; have HV2 := Aside0.mk hv; have HTJ := Aside0.mk htj; have HRW := Aside0.mk hrw; have HBD := Aside0.mk hbd; clear hF hown hS evs hv HV HF htj ht0 hT1 hT2 hX1 hX2 hcR hch hfh hx hyv hrow2 hrw hbd h0 h1; go_upto_region 22 with (fail)
                 as_aux_lemma =>
                  refine start_ (n := 26) (S := fun W' => W'.cell? (adT.add j) = some (.int .i64 (tj : Int)) ∧ W'.cell? (adG.add j) = some (.slice (some adR) row.length cr) ∧ W'.cell? (adR.add q) = some (.int .i64 (xn : Int)) ∧ W'.cell? (adT.add xn) = some (.int .i64 yv) ∧ W'.cell? ⟨go, tj, none⟩ = some (.slice Ah row2.length ch)) (ds := [25]) rn.b22_0 (by kernel_rfl) rfl rfl (HSS.out _ (Below.refl _ _)) (fun hHeld => ?_); refine with_tabW rn.tab22 rn.bits22 (fun HT_ HW_ => ?_)
                  generalize wr.drew = wd at HFd HOWN HSS hHeld ⊢
                  refine pv_ 0 106 rn.b22_1 rfl rfl HT_ ?_
                  refine pv_ 1 107 rn.b22_2 rfl rfl HT_ ?_
                  refine pv_ 2 108 rn.b22_3 rfl rfl HT_ ?_
                  refine pv_ 3 109 rn.b22_4 rfl rfl HT_ ?_
                  refine pv_ 5 111 rn.b22_5 rfl rfl HT_ ?_
                  refine pv_ 6 112 rn.b22_6 rfl rfl HT_ ?_
                  refine pv_ 7 113 rn.b22_7 rfl rfl HT_ ?_
                  refine pv_ 8 114 rn.b22_8 rfl rfl HT_ ?_
                  refine pv_ 12 118 rn.b22_9 rfl rfl HT_ ?_
                  refine pv_ 13 119 rn.b22_10 rfl rfl HT_ ?_
                  refine pv_ 14 120 rn.b22_11 rfl rfl HT_ ?_
                  refine pv_ 15 121 rn.b22_12 rfl rfl HT_ ?_
                  refine pv_ 17 123 rn.b22_13 rfl rfl HT_ ?_
                  refine tk_ 4 110 rn.b22_14 rfl rfl HT_ HW_ hHeld ?_
                  refine tk_ 9 115 rn.b22_15 rfl rfl HT_ HW_ hHeld ?_
                  refine pv_ 10 116 rn.b22_16 rfl rfl HT_ ?_
                  refine tk_ 11 117 rn.b22_17 rfl rfl HT_ HW_ hHeld ?_
                  refine tk_ 16 122 rn.b22_18 rfl rfl HT_ HW_ hHeld ?_
                  refine pv_ 18 124 rn.b22_19 rfl rfl HT_ ?_
                  refine tk_ 19 125 rn.b22_20 rfl rfl HT_ HW_ hHeld ?_
                  refine pv_ 20 126 rn.b22_21 rfl rfl HT_ ?_
                  refine tk_ 21 127 rn.b22_22 rfl rfl HT_ HW_ hHeld ?_
                  refine one_ (i := 22) (N := some 128) rn.b22_23 rfl rfl (one_of HT_.out (by kernel_rfl)) (by decide) (fun K hK => ?_)
                  refine value_ (w1 := ?_) (v := ?_) (by rfl) rfl ?_ ?_
                  rotate_left 2
                  ·go_simp
                   constructor
                   ·rfl
                   ·rfl
                  refine hK.out _ _ (HSS.out _ ((Below.refl _ _).alloc HFd.out.o.size _)) (fun hHeld => ?_)
                  clear hK K; refine norm_ (a' := ?_) ?_ ?_
                  rotate_left
                  ·show Act.put _ (some 128) _ = _
                   simp only [Act.put, List.setIfInBounds_toArray, List.set_cons_zero, List.set_cons_succ, i64_w, i32_w]
                   rfl
                  refine one_ (i := 23) (N := some 129) rn.b22_24 rfl rfl (one_of HT_.out (by kernel_rfl)) (by decide) (fun K hK => ?_)
                  refine Kd.R_append_step (Kd.int .i64) (w0 := wd) w2.heap.size (by rfl) (.tmp 117) (.tmp 128) 33 3 (.int .i64 0) 8 rfl Try.underlying33 A.info3 rfl (by decide) (by omega) (.slice Ah row2.length ch) row2 yv [.int .i64 yv] (fun _ => True) (fun _ => False) rfl rfl ?aP (fun _ hk => hk.elim) ?aF ?aO ?aB ?aS ?aL ?_
                  (case aP => exact rfl)
                  (case aF => exact fun _ _ => trivial)
                  (case aO => exact Kd.R_of_own HOWN.out (fun _ _ => trivial))
                  (case aB => exact Below.refl _ _)
                  (case aS => exact HFd.out.o.size)
                  (case aL => have := HBD.out; omega)
                  intro v1 w1 ho hb hg hat
                  obtain ⟨rn2, hrn2⟩ : ∃ rn2, rn2 = row2 ++ [yv] := ⟨_, rfl⟩; rw [← hrn2] at ho; obtain ⟨At1, ct1, rfl⟩ := Kd.R_slice ho; have hb3 := blk_grown HFd.out.o.top hg (fun e => by have := HFd.out.o.ge tj htv go (by rw [HEV.out]; exact e.symm); have := HFd.out.o.lt; omega)
                  have g3 : w1.cell? ⟨go, tj, none⟩ = some (.slice Ah row2.length ch) := (blk_cell hb3 tj).trans (by rw [← HEV.out]; simp [htv])
                  have gf := blk_frozen hb3 tj; have HF2 : Aside0 (RnSt w w2 (w1.setCell ⟨go, tj, none⟩ (.slice At1 rn2.length ct1)) go (vs.set tj (.slice At1 rn2.length ct1)) (ls.set tj rn2) (.slice (some adT) x5_3.length co54) x5_3) :=
                   ⟨HFd.out.put tj htv (by rw [HEV.out]; exact hg) (Kd.own_of_R ho) (by rw [HEV.out]; exact hat.imp id .inr)⟩
                  have HV3 : Aside0 (rgIn x5_3 (rd x5_3 (j : Int)) (row.drop (q + 1)) (ls.set tj rn2) = some ls1) := ⟨by rw [HTJ.out, hrn2]; exact HV2.out⟩
                  have HS3 : Aside0 ((ls.set tj rn2).length = l0.length) := ⟨by rw [List.length_set]; exact HS.out⟩
                  clear hrn2; refine hK.out _ _ (HSS.out _ hb) (fun hHeld => ?_)
                  clear hK K; refine norm_ (a' := ?_) ?_ ?_
                  rotate_left
                  ·show Act.put _ (some 129) _ = _
                   simp only [Act.put, List.setIfInBounds_toArray, List.set_cons_zero, List.set_cons_succ, i64_w, i32_w]
                   rfl
                  refine pv_ 24 130 rn.b22_25 rfl rfl HT_ ?_
                  refine last_ (i := 25) (N := none) rn.b22_26 rfl rfl (one_of HT_.out (by kernel_rfl)) (by decide) (fun K hK => ?_)
                  refine skip_ (w1 := ?_) (by rfl) rfl ?_ ?_
                  rotate_left
                  ·go_simp
                   rfl
                  refine hK.out _ _ ?_
                  clear hK K; refine done_ (done_of HT_.out (by kernel_rfl)) ?_
                  clear HSS hHeld HOWN HEV HFd HV2 hb3 hb hg hat ho g3 gf; refine gen_world (P := fun W => RnSt w w2 W go (vs.set tj (.slice At1 rn2.length ct1)) (ls.set tj rn2) (.slice (some adT) x5_3.length co54) x5_3) HF2.out ?_
                  rintro W3 hf3
                  have HF3 := Aside0.mk hf3; clear hf3 HF2 hcW; go_wp2
                  go_roundw
                  case rel => exact ⟨q + 1, _, _, by omega, by go_num, HV3, HF3, HS3⟩
                  case measure => simp [intOf]; omega
                ·obtain rfl : q = row.length := by omega
                 have hv := HV.out; rw [List.drop_of_length_le (Nat.le_refl _), rgIn] at hv; obtain rfl := Option.some.inj hv; have hd : decide (((row.length : Nat) : Int) < ((row.length : Nat) : Int)) = false := decide_eq_false (by omega)
                 have hlen2 := HLen.out; clear hv HV; go_wp2
                 go_roundw
                 case rel => exact ⟨j + 1, vs, ls, by omega, by go_num, HP2, HF, HS⟩
                 case measure => simp [intOf]; omega
             ·obtain rfl : j = l0.length := by omega
              have hv := HV.out; rw [Nat.sub_self, List.range'_zero, rgOut] at hv; have hls : ls = t116 := Option.some.inj hv
              subst ls; have hd : decide (((l0.length : Nat) : Int) < ((l0.length : Nat) : Int)) = false := decide_eq_false (by omega)
              clear hv HV; have hb := HF.out.o.below HB2.out (by rw [HGo.out]; exact Nat.le_refl _)
              have ho0 := HF.out.o.row (base := _) (show _ ≤ go from Nat.le_of_eq HGo.out.symm) (by rw [HF.out.o.len, HS.out]; have := HLen.out; unfold maxLen; omega)
              rw [show vs.length = l0.length by rw [HF.out.o.len, HS.out]] at ho0
              obtain ⟨v117, hv117⟩ : ∃ v : Value, v = .slice (some ⟨go, 0, none⟩) l0.length l0.length := ⟨_, rfl⟩; rw [← hv117] at ho0 ⊢
              clear HF HS HB2 HGo HLen hv117; as_aux_lemma =>
               have n0_ := Aside0.mk (Kd.R_below (by (with_reducible repeat (first | apply Kd.R_alloc | apply Kd.R_drewN | apply Kd.R_drew)); exact HO_5.out) hb); have n1_ := Aside0.mk (Kd.S_lower (Kd.S_new' ho0 (Kd.R_lt (by (with_reducible repeat (first | apply Kd.R_alloc | apply Kd.R_drewN | apply Kd.R_drew)); exact HO_5.out))) (below_size (by repeat (first | (with_reducible first | exact HB.out | apply below_alloc | apply pw_below_drewN | apply below_drew1) | exact HB.out)))); have n2_ := Aside0.mk (below_step (by repeat (first | (with_reducible first | exact HB.out | apply below_alloc | apply pw_below_drewN | apply below_drew1) | exact HB.out)) hb); clear HO_5; clear HB; have HO_5 := n0_; have HO118 := n1_; have HB := n2_; clear n0_ n1_ n2_; (try clear hb); (try clear hb2); (try clear hk); (try clear hi); (try clear ho0)
               go_upto_region 24 with ((with_reducible refine gate_callee (f := 29) rfl ?_); refine goesL_ (some 133) rfl rfl Try.func29 (by kernel_rfl) rfl #[.slice A0 l0.length c0] rfl (by (try simp only [List.map_toArray, List.map_cons, List.map_nil]); first | done | rfl | (simp only [List.length_drop, List.length_take]; rfl)) ?_; (with_reducible refine (graph_Dominators.calls k3 _ _ l0 t119 t120 _ ?side1 ?side2 A43.out).mono ?_); (case side1 => repeat (first | exact (Kd.C_below HR0.out HB.out) | with_reducible first | refine Kd.C_alloc ?_ _ | refine Kd.C_drewN ?_ _ | refine Kd.C_drew ?_)); (case side2 => exact HC0.out); rintro e w56 ⟨v121, rfl, ho0, hb⟩; refine ⟨_, rfl, ?_⟩; have n0_ := Aside0.mk (Kd.R_elder' (by (with_reducible repeat (first | apply Kd.R_alloc | apply Kd.R_drewN | apply Kd.R_drew)); exact HO_5.out) (Kd.R_base ho0) hb); have n1_ := Aside0.mk (Kd.S_elder' (by (with_reducible repeat (first | apply Kd.S_alloc | apply Kd.S_drewN | apply Kd.S_drew)); exact HO118.out) (Kd.R_base ho0) hb); have n2_ := Aside0.mk (Kd.R_lower (Kd.R_new' ho0 (Kd.R_lt (by (with_reducible repeat (first | apply Kd.R_alloc | apply Kd.R_drewN | apply Kd.R_drew)); exact HO_5.out))) (below_size (by repeat (first | (with_reducible first | exact HB.out | apply below_alloc | apply pw_below_drewN | apply below_drew1) | exact HB.out)))); have n3_ := Aside0.mk (below_step (by repeat (first | (with_reducible first | exact HB.out | apply below_alloc | apply pw_below_drewN | apply below_drew1) | exact HB.out)) hb); clear HO_5; clear HO118; clear HB; have HO_5 := n0_; have HO118 := n1_; have HO122 := n2_; have HB := n3_; clear n0_ n1_ n2_ n3_; (try clear hb); (try clear hb2); (try clear hk); (try clear hi); (try clear ho0); obtain ⟨Ao57, co57, eo57⟩ := Kd.S_slice HO118.out; subst eo57)
               as_aux_lemma =>
                go_upto_region 25 with ((with_reducible refine gate_callee (f := 29) rfl ?_); refine goesL_ (some 138) rfl rfl Try.func29 (by kernel_rfl) rfl #[.slice Ao57 t116.length co57] rfl (by (try simp only [List.map_toArray, List.map_cons, List.map_nil]); first | done | rfl | (simp only [List.length_drop, List.length_take]; rfl)) ?_; (with_reducible refine (graph_Dominators.calls k3 _ _ t116 t123 t124 _ ?side1 ?side2 A44.out).mono ?_); (case side1 => repeat (first | exact (Kd.S_reads' HO118.out).2.2 | with_reducible first | refine Kd.C_alloc ?_ _ | refine Kd.C_drewN ?_ _ | refine Kd.C_drew ?_)); (case side2 => exact (Kd.S_reads' HO118.out).2.1); rintro e w58 ⟨v125, rfl, ho0, hb⟩; refine ⟨_, rfl, ?_⟩; have n0_ := Aside0.mk (Kd.R_elder' (by (with_reducible repeat (first | apply Kd.R_alloc | apply Kd.R_drewN | apply Kd.R_drew)); exact HO_5.out) (Kd.R_base ho0) hb); have n1_ := Aside0.mk (Kd.S_elder' (by (with_reducible repeat (first | apply Kd.S_alloc | apply Kd.S_drewN | apply Kd.S_drew)); exact HO118.out) (Kd.R_base ho0) hb); have n2_ := Aside0.mk (Kd.R_elder' (by (with_reducible repeat (first | apply Kd.R_alloc | apply Kd.R_drewN | apply Kd.R_drew)); exact HO122.out) (Kd.R_base ho0) hb); have n3_ := Aside0.mk (Kd.R_lower (Kd.R_new' (Kd.R_new' ho0 (Kd.R_lt (by (with_reducible repeat (first | apply Kd.R_alloc | apply Kd.R_drewN | apply Kd.R_drew)); exact HO_5.out))) (Kd.R_lt (by (with_reducible repeat (first | apply Kd.R_alloc | apply Kd.R_drewN | apply Kd.R_drew)); exact HO122.out))) (below_size (by repeat (first | (with_reducible first | exact HB.out | apply below_alloc | apply pw_below_drewN | apply below_drew1) | exact HB.out)))); have n4_ := Aside0.mk (below_step (by repeat (first | (with_reducible first | exact HB.out | apply below_alloc | apply pw_below_drewN | apply below_drew1) | exact HB.out)) hb); clear HO_5; clear HO118; clear HO122; clear HB; have HO_5 := n0_; have HO118 := n1_; have HO122 := n2_; have HO126 := n3_; have HB := n4_; clear n0_ n1_ n2_ n3_ n4_; (try clear hb); (try clear hb2); (try clear hk); (try clear hi); (try clear ho0))
                as_aux_lemma =>
                 go_upto_region 26 with ((with_reducible refine gate_callee (f := 27) rfl ?_); refine goesL_ (some 143) rfl rfl Try.func27 (by kernel_rfl) rfl #[.slice A0 l0.length c0] rfl (by (try simp only [List.map_toArray, List.map_cons, List.map_nil]); first | done | rfl | (simp only [List.length_drop, List.length_take]; rfl)) ?_; (with_reducible refine (graph_Postdominators.calls k3 _ _ l0 t127 t128 _ ?side1 ?side2 A45.out).mono ?_); (case side1 => repeat (first | exact (Kd.C_below HR0.out HB.out) | with_reducible first | refine Kd.C_alloc ?_ _ | refine Kd.C_drewN ?_ _ | refine Kd.C_drew ?_)); (case side2 => exact HC0.out); rintro e w59 ⟨v129, rfl, ho0, hb⟩; refine ⟨_, rfl, ?_⟩; have n0_ := Aside0.mk (Kd.R_elder' (by (with_reducible repeat (first | apply Kd.R_alloc | apply Kd.R_drewN | apply Kd.R_drew)); exact HO_5.out) (Kd.R_base ho0) hb); have n1_ := Aside0.mk (Kd.S_elder' (by (with_reducible repeat (first | apply Kd.S_alloc | apply Kd.S_drewN | apply Kd.S_drew)); exact HO118.out) (Kd.R_base ho0) hb); have n2_ := Aside0.mk (Kd.R_elder' (by (with_reducible repeat (first | apply Kd.R_alloc | apply Kd.R_drewN | apply Kd.R_drew)); exact HO122.out) (Kd.R_base ho0) hb); have n3_ := Aside0.mk (Kd.R_elder' (by (with_reducible repeat (first | apply Kd.R_alloc | apply Kd.R_drewN | apply Kd.R_drew)); exact HO126.out) (Kd.R_base ho0) hb); have n4_ := Aside0.mk (Kd.R_lower (Kd.R_new' (Kd.R_new' (Kd.R_new' ho0 (Kd.R_lt (by (with_reducible repeat (first | apply Kd.R_alloc | apply Kd.R_drewN | apply Kd.R_drew)); exact HO_5.out))) (Kd.R_lt (by (with_reducible repeat (first | apply Kd.R_alloc | apply Kd.R_drewN | apply Kd.R_drew)); exact HO122.out))) (Kd.R_lt (by (with_reducible repeat (first | apply Kd.R_alloc | apply Kd.R_drewN | apply Kd.R_drew)); exact HO126.out))) (below_size (by repeat (first | (with_reducible first | exact HB.out | apply below_alloc | apply pw_below_drewN | apply below_drew1) | exact HB.out)))); have n5_ := Aside0.mk (below_step (by repeat (first | (with_reducible first | exact HB.out | apply below_alloc | apply pw_below_drewN | apply below_drew1) | exact HB.out)) hb); clear HO_5; clear HO118; clear HO122; clear HO126; clear HB; have HO_5 := n0_; have HO118 := n1_; have HO122 := n2_; have HO126 := n3_; have HO130 := n4_; have HB := n5_; clear n0_ n1_ n2_ n3_ n4_ n5_; (try clear hb); (try clear hb2); (try clear hk); (try clear hi); (try clear ho0))
                 as_aux_lemma =>
                  go_upto_region 27 with ((with_reducible refine gate_callee (f := 27) rfl ?_); refine goesL_ (some 148) rfl rfl Try.func27 (by kernel_rfl) rfl #[.slice Ao57 t116.length co57] rfl (by (try simp only [List.map_toArray, List.map_cons, List.map_nil]); first | done | rfl | (simp only [List.length_drop, List.length_take]; rfl)) ?_; (with_reducible refine (graph_Postdominators.calls k3 _ _ t116 t131 t132 _ ?side1 ?side2 A46.out).mono ?_); (case side1 => repeat (first | exact (Kd.S_reads' HO118.out).2.2 | with_reducible first | refine Kd.C_alloc ?_ _ | refine Kd.C_drewN ?_ _ | refine Kd.C_drew ?_)); (case side2 => exact (Kd.S_reads' HO118.out).2.1); rintro e w60 ⟨v133, rfl, ho0, hb⟩; refine ⟨_, rfl, ?_⟩; have n0_ := Aside0.mk (Kd.R_elder' (by (with_reducible repeat (first | apply Kd.R_alloc | apply Kd.R_drewN | apply Kd.R_drew)); exact HO_5.out) (Kd.R_base ho0) hb); have n1_ := Aside0.mk (Kd.S_elder' (by (with_reducible repeat (first | apply Kd.S_alloc | apply Kd.S_drewN | apply Kd.S_drew)); exact HO118.out) (Kd.R_base ho0) hb); have n2_ := Aside0.mk (Kd.R_elder' (by (with_reducible repeat (first | apply Kd.R_alloc | apply Kd.R_drewN | apply Kd.R_drew)); exact HO122.out) (Kd.R_base ho0) hb); have n3_ := Aside0.mk (Kd.R_elder' (by (with_reducible repeat (first | apply Kd.R_alloc | apply Kd.R_drewN | apply Kd.R_drew)); exact HO126.out) (Kd.R_base ho0) hb); have n4_ := Aside0.mk (Kd.R_elder' (by (with_reducible repeat (first | apply Kd.R_alloc | apply Kd.R_drewN | apply Kd.R_drew)); exact HO130.out) (Kd.R_base ho0) hb); have n5_ := Aside0.mk (Kd.R_lower (Kd.R_new' (Kd.R_new' (Kd.R_new' (Kd.R_new' ho0 (Kd.R_lt (by (with_reducible repeat (first | apply Kd.R_alloc | apply Kd.R_drewN | apply Kd.R_drew)); exact HO_5.out))) (Kd.R_lt (by (with_reducible repeat (first | apply Kd.R_alloc | apply Kd.R_drewN | apply Kd.R_drew)); exact HO122.out))) (Kd.R_lt (by (with_reducible repeat (first | apply Kd.R_alloc | apply Kd.R_drewN | apply Kd.R_drew)); exact HO126.out))) (Kd.R_lt (by (with_reducible repeat (first | apply Kd.R_alloc | apply Kd.R_drewN | apply Kd.R_drew)); exact HO130.out))) (below_size (by repeat (first | (with_reducible first | exact HB.out | apply below_alloc | apply pw_below_drewN | apply below_drew1) | exact HB.out)))); have n6_ := Aside0.mk (below_step (by repeat (first | (with_reducible first | exact HB.out | apply below_alloc | apply pw_below_drewN | apply below_drew1) | exact HB.out)) hb); clear HO_5; clear HO118; clear HO122; clear HO126; clear HO130; clear HB; have HO_5 := n0_; have HO118 := n1_; have HO122 := n2_; have HO126 := n3_; have HO130 := n4_; have HO134 := n5_; have HB := n6_; clear n0_ n1_ n2_ n3_ n4_ n5_ n6_; (try clear hb); (try clear hb2); (try clear hk); (try clear hi); (try clear ho0))
                  as_aux_lemma =>
                   go_upto_region 28 with ((with_reducible refine gate_callee (f := 15) rfl ?_); refine goesL_ (some 153) rfl rfl Try.func15 (by kernel_rfl) rfl #[.slice A0 l0.length c0] rfl (by (try simp only [List.map_toArray, List.map_cons, List.map_nil]); first | done | rfl | (simp only [List.length_drop, List.length_take]; rfl)) ?_; (with_reducible refine (graph_Frontier.calls k3 _ _ l0 t135 t136 _ ?side1 ?side2 A47.out).mono ?_); (case side1 => repeat (first | exact (Kd.C_below HR0.out HB.out) | with_reducible first | refine Kd.C_alloc ?_ _ | refine Kd.C_drewN ?_ _ | refine Kd.C_drew ?_)); (case side2 => exact HC0.out); rintro e w61 ⟨v137, rfl, ho0, hb⟩; refine ⟨_, rfl, ?_⟩; have n0_ := Aside0.mk (Kd.R_below (by (with_reducible repeat (first | apply Kd.R_alloc | apply Kd.R_drewN | apply Kd.R_drew)); exact HO_5.out) hb); have n1_ := Aside0.mk (Kd.S_elder' (by (with_reducible repeat (first | apply Kd.S_alloc | apply Kd.S_drewN | apply Kd.S_drew)); exact HO118.out) (Kd.S_base ho0) hb); have n2_ := Aside0.mk (Kd.R_below (by (with_reducible repeat (first | apply Kd.R_alloc | apply Kd.R_drewN | apply Kd.R_drew)); exact HO122.out) hb); have n3_ := Aside0.mk (Kd.R_below (by (with_reducible repeat (first | apply Kd.R_alloc | apply Kd.R_drewN | apply Kd.R_drew)); exact HO126.out) hb); have n4_ := Aside0.mk (Kd.R_below (by (with_reducible repeat (first | apply Kd.R_alloc | apply Kd.R_drewN | apply Kd.R_drew)); exact HO130.out) hb); have n5_ := Aside0.mk (Kd.R_below (by (with_reducible repeat (first | apply Kd.R_alloc | apply Kd.R_drewN | apply Kd.R_drew)); exact HO134.out) hb); have n6_ := Aside0.mk (Kd.S_lower (Kd.S_new' (Kd.S_new' (Kd.S_new' (Kd.S_new' (Kd.S_new' (Kd.S_new' ho0 (Kd.R_lt (by (with_reducible repeat (first | apply Kd.R_alloc | apply Kd.R_drewN | apply Kd.R_drew)); exact HO_5.out))) (Kd.S_lt (by (with_reducible repeat (first | apply Kd.S_alloc | apply Kd.S_drewN | apply Kd.S_drew)); exact HO118.out))) (Kd.R_lt (by (with_reducible repeat (first | apply Kd.R_alloc | apply Kd.R_drewN | apply Kd.R_drew)); exact HO122.out))) (Kd.R_lt (by (with_reducible repeat (first | apply Kd.R_alloc | apply Kd.R_drewN | apply Kd.R_drew)); exact HO126.out))) (Kd.R_lt (by (with_reducible repeat (first | apply Kd.R_alloc | apply Kd.R_drewN | apply Kd.R_drew)); exact HO130.out))) (Kd.R_lt (by (with_reducible repeat (first | apply Kd.R_alloc | apply Kd.R_drewN | apply Kd.R_drew)); exact HO134.out))) (below_size (by repeat (first | (with_reducible first | exact HB.out | apply below_alloc | apply pw_below_drewN | apply below_drew1) | exact HB.out)))); have n7_ := Aside0.mk (below_step (by repeat (first | (with_reducible first | exact HB.out | apply below_alloc | apply pw_below_drewN | apply below_drew1) | exact HB.out)) hb); clear HO_5; clear HO118; clear HO122; clear HO126; clear HO130; clear HO134; clear HB; have HO_5 := n0_; have HO118 := n1_; have HO122 := n2_; have HO126 := n3_; have HO130 := n4_; have HO134 := n5_; have HO138 := n6_; have HB := n7_; clear n0_ n1_ n2_ n3_ n4_ n5_ n6_ n7_; (try clear hb); (try clear hb2); (try clear hk); (try clear hi); (try clear ho0))
                   as_aux_lemma =>
                    go_upto_region 29 with ((with_reducible refine gate_callee (f := 15) rfl ?_); refine goesL_ (some 158) rfl rfl Try.func15 (by kernel_rfl) rfl #[.slice Ao57 t116.length co57] rfl (by (try simp only [List.map_toArray, List.map_cons, List.map_nil]); first | done | rfl | (simp only [List.length_drop, List.length_take]; rfl)) ?_; (with_reducible refine (graph_Frontier.calls k3 _ _ t116 t139 t140 _ ?side1 ?side2 A48.out).mono ?_); (case side1 => repeat (first | exact (Kd.S_reads' HO118.out).2.2 | with_reducible first | refine Kd.C_alloc ?_ _ | refine Kd.C_drewN ?_ _ | refine Kd.C_drew ?_)); (case side2 => exact (Kd.S_reads' HO118.out).2.1); rintro e w62 ⟨v141, rfl, ho0, hb⟩; refine ⟨_, rfl, ?_⟩; have n0_ := Aside0.mk (Kd.R_below (by (with_reducible repeat (first | apply Kd.R_alloc | apply Kd.R_drewN | apply Kd.R_drew)); exact HO_5.out) hb); have n1_ := Aside0.mk (Kd.S_elder' (by (with_reducible repeat (first | apply Kd.S_alloc | apply Kd.S_drewN | apply Kd.S_drew)); exact HO118.out) (Kd.S_base ho0) hb); have n2_ := Aside0.mk (Kd.R_below (by (with_reducible repeat (first | apply Kd.R_alloc | apply Kd.R_drewN | apply Kd.R_drew)); exact HO122.out) hb); have n3_ := Aside0.mk (Kd.R_below (by (with_reducible repeat (first | apply Kd.R_alloc | apply Kd.R_drewN | apply Kd.R_drew)); exact HO126.out) hb); have n4_ := Aside0.mk (Kd.R_below (by (with_reducible repeat (first | apply Kd.R_alloc | apply Kd.R_drewN | apply Kd.R_drew)); exact HO130.out) hb); have n5_ := Aside0.mk (Kd.R_below (by (with_reducible repeat (first | apply Kd.R_alloc | apply Kd.R_drewN | apply Kd.R_drew)); exact HO134.out) hb); have n6_ := Aside0.mk (Kd.S_elder' (by (with_reducible repeat (first | apply Kd.S_alloc | apply Kd.S_drewN | apply Kd.S_drew)); exact HO138.out) (Kd.S_base ho0) hb); have n7_ := Aside0.mk (Kd.S_lower (Kd.S_new' (Kd.S_new' (Kd.S_new' (Kd.S_new' (Kd.S_new' (Kd.S_new' (Kd.S_new' ho0 (Kd.R_lt (by (with_reducible repeat (first | apply Kd.R_alloc | apply Kd.R_drewN | apply Kd.R_drew)); exact HO_5.out))) (Kd.S_lt (by (with_reducible repeat (first | apply Kd.S_alloc | apply Kd.S_drewN | apply Kd.S_drew)); exact HO118.out))) (Kd.R_lt (by (with_reducible repeat (first | apply Kd.R_alloc | apply Kd.R_drewN | apply Kd.R_drew)); exact HO122.out))) (Kd.R_lt (by (with_reducible repeat (first | apply Kd.R_alloc | apply Kd.R_drewN | apply Kd.R_drew)); exact HO126.out))) (Kd.R_lt (by (with_reducible repeat (first | apply Kd.R_alloc | apply Kd.R_drewN | apply Kd.R_drew)); exact HO130.out))) (Kd.R_lt (by (with_reducible repeat (first | apply Kd.R_alloc | apply Kd.R_drewN | apply Kd.R_drew)); exact HO134.out))) (Kd.S_lt (by (with_reducible repeat (first | apply Kd.S_alloc | apply Kd.S_drewN | apply Kd.S_drew)); exact HO138.out))) (below_size (by repeat (first | (with_reducible first | exact HB.out | apply below_alloc | apply pw_below_drewN | apply below_drew1) | exact HB.out)))); have n8_ := Aside0.mk (below_step (by repeat (first | (with_reducible first | exact HB.out | apply below_alloc | apply pw_below_drewN | apply below_drew1) | exact HB.out)) hb); clear HO_5; clear HO118; clear HO122; clear HO126; clear HO130; clear HO134; clear HO138; clear HB; have HO_5 := n0_; have HO118 := n1_; have HO122 := n2_; have HO126 := n3_; have HO130 := n4_; have HO134 := n5_; have HO138 := n6_; have HO142 := n7_; have HB := n8_; clear n0_ n1_ n2_ n3_ n4_ n5_ n6_ n7_ n8_; (try clear hb); (try clear hb2); (try clear hk); (try clear hi); (try clear ho0))
                    as_aux_lemma =>
                     go_upto_region 30 with ((with_reducible refine gate_callee (f := 16) rfl ?_); refine goesL_ (some 163) rfl rfl Try.func16 (by kernel_rfl) rfl #[.slice A0 l0.length c0] rfl (by (try simp only [List.map_toArray, List.map_cons, List.map_nil]); first | done | rfl | (simp only [List.length_drop, List.length_take]; rfl)) ?_; (with_reducible refine (graph_Loops.calls k3 _ _ l0 t143 t144 _ ?side1 ?side2 A49.out).mono ?_); (case side1 => repeat (first | exact (Kd.C_below HR0.out HB.out) | with_reducible first | refine Kd.C_alloc ?_ _ | refine Kd.C_drewN ?_ _ | refine Kd.C_drew ?_)); (case side2 => exact HC0.out); rintro e w63 ⟨v145, rfl, ho0, hb⟩; refine ⟨_, rfl, ?_⟩; have n0_ := Aside0.mk (Kd.R_below (by (with_reducible repeat (first | apply Kd.R_alloc | apply Kd.R_drewN | apply Kd.R_drew)); exact HO_5.out) hb); have n1_ := Aside0.mk (Kd.S_elder' (by (with_reducible repeat (first | apply Kd.S_alloc | apply Kd.S_drewN | apply Kd.S_drew)); exact HO118.out) (Kd.S_base ho0) hb); have n2_ := Aside0.mk (Kd.R_below (by (with_reducible repeat (first | apply Kd.R_alloc | apply Kd.R_drewN | apply Kd.R_drew)); exact HO122.out) hb); have n3_ := Aside0.mk (Kd.R_below (by (with_reducible repeat (first | apply Kd.R_alloc | apply Kd.R_drewN | apply Kd.R_drew)); exact HO126.out) hb); have n4_ := Aside0.mk (Kd.R_below (by (with_reducible repeat (first | apply Kd.R_alloc | apply Kd.R_drewN | apply Kd.R_drew)); exact HO130.out) hb); have n5_ := Aside0.mk (Kd.R_below (by (with_reducible repeat (first | apply Kd.R_alloc | apply Kd.R_drewN | apply Kd.R_drew)); exact HO134.out) hb); have n6_ := Aside0.mk (Kd.S_elder' (by (with_reducible repeat (first | apply Kd.S_alloc | apply Kd.S_drewN | apply Kd.S_drew)); exact HO138.out) (Kd.S_base ho0) hb); have n7_ := Aside0.mk (Kd.S_elder' (by (with_reducible repeat (first | apply Kd.S_alloc | apply Kd.S_drewN | apply Kd.S_drew)); exact HO142.out) (Kd.S_base ho0) hb); have n8_ := Aside0.mk (Kd.S_lower (Kd.S_new' (Kd.S_new' (Kd.S_new' (Kd.S_new' (Kd.S_new' (Kd.S_new' (Kd.S_new' (Kd.S_new' ho0 (Kd.R_lt (by (with_reducible repeat (first | apply Kd.R_alloc | apply Kd.R_drewN | apply Kd.R_drew)); exact HO_5.out))) (Kd.S_lt (by (with_reducible repeat (first | apply Kd.S_alloc | apply Kd.S_drewN | apply Kd.S_drew)); exact HO118.out))) (Kd.R_lt (by (with_reducible repeat (first | apply Kd.R_alloc | apply Kd.R_drewN | apply Kd.R_drew)); exact HO122.out))) (Kd.R_lt (by (with_reducible repeat (first | apply Kd.R_alloc | apply Kd.R_drewN | apply Kd.R_drew)); exact HO126.out))) (Kd.R_lt (by (with_reducible repeat (first | apply Kd.R_alloc | apply Kd.R_drewN | apply Kd.R_drew)); exact HO130.out))) (Kd.R_lt (by (with_reducible repeat (first | apply Kd.R_alloc | apply Kd.R_drewN | apply Kd.R_drew)); exact HO134.out))) (Kd.S_lt (by (with_reducible repeat (first | apply Kd.S_alloc | apply Kd.S_drewN | apply Kd.S_drew)); exact HO138.out))) (Kd.S_lt (by (with_reducible repeat (first | apply Kd.S_alloc | apply Kd.S_drewN | apply Kd.S_drew)); exact HO142.out))) (below_size (by repeat (first | (with_reducible first | exact HB.out | apply below_alloc | apply pw_below_drewN | apply below_drew1) | exact HB.out)))); have n9_ := Aside0.mk (below_step (by repeat (first | (with_reducible first | exact HB.out | apply below_alloc | apply pw_below_drewN | apply below_drew1) | exact HB.out)) hb); clear HO_5; clear HO118; clear HO122; clear HO126; clear HO130; clear HO134; clear HO138; clear HO142; clear HB; have HO_5 := n0_; have HO118 := n1_; have HO122 := n2_; have HO126 := n3_; have HO130 := n4_; have HO134 := n5_; have HO138 := n6_; have HO142 := n7_; have HO146 := n8_; have HB := n9_; clear n0_ n1_ n2_ n3_ n4_ n5_ n6_ n7_ n8_ n9_; (try clear hb); (try clear hb2); (try clear hk); (try clear hi); (try clear ho0))
                     as_aux_lemma =>
                      go_upto_region 31 with ((with_reducible refine gate_callee (f := 16) rfl ?_); refine goesL_ (some 168) rfl rfl Try.func16 (by kernel_rfl) rfl #[.slice Ao57 t116.length co57] rfl (by (try simp only [List.map_toArray, List.map_cons, List.map_nil]); first | done | rfl | (simp only [List.length_drop, List.length_take]; rfl)) ?_; (with_reducible refine (graph_Loops.calls k3 _ _ t116 t147 t148 _ ?side1 ?side2 A50.out).mono ?_); (case side1 => repeat (first | exact (Kd.S_reads' HO118.out).2.2 | with_reducible first | refine Kd.C_alloc ?_ _ | refine Kd.C_drewN ?_ _ | refine Kd.C_drew ?_)); (case side2 => exact (Kd.S_reads' HO118.out).2.1); rintro e w64 ⟨v149, rfl, ho0, hb⟩; refine ⟨_, rfl, ?_⟩; have n0_ := Aside0.mk (Kd.R_below (by (with_reducible repeat (first | apply Kd.R_alloc | apply Kd.R_drewN | apply Kd.R_drew)); exact HO_5.out) hb); have n1_ := Aside0.mk (Kd.S_elder' (by (with_reducible repeat (first | apply Kd.S_alloc | apply Kd.S_drewN | apply Kd.S_drew)); exact HO118.out) (Kd.S_base ho0) hb); have n2_ := Aside0.mk (Kd.R_below (by (with_reducible repeat (first | apply Kd.R_alloc | apply Kd.R_drewN | apply Kd.R_drew)); exact HO122.out) hb); have n3_ := Aside0.mk (Kd.R_below (by (with_reducible repeat (first | apply Kd.R_alloc | apply Kd.R_drewN | apply Kd.R_drew)); exact HO126.out) hb); have n4_ := Aside0.mk (Kd.R_below (by (with_reducible repeat (first | apply Kd.R_alloc | apply Kd.R_drewN | apply Kd.R_drew)); exact HO130.out) hb); have n5_ := Aside0.mk (Kd.R_below (by (with_reducible repeat (first | apply Kd.R_alloc | apply Kd.R_drewN | apply Kd.R_drew)); exact HO134.out) hb); have n6_ := Aside0.mk (Kd.S_elder' (by (with_reducible repeat (first | apply Kd.S_alloc | apply Kd.S_drewN | apply Kd.S_drew)); exact HO138.out) (Kd.S_base ho0) hb); have n7_ := Aside0.mk (Kd.S_elder' (by (with_reducible repeat (first | apply Kd.S_alloc | apply Kd.S_drewN | apply Kd.S_drew)); exact HO142.out) (Kd.S_base ho0) hb); have n8_ := Aside0.mk (Kd.S_elder' (by (with_reducible repeat (first | apply Kd.S_alloc | apply Kd.S_drewN | apply Kd.S_drew)); exact HO146.out) (Kd.S_base ho0) hb); have n9_ := Aside0.mk (Kd.S_lower (Kd.S_new' (Kd.S_new' (Kd.S_new' (Kd.S_new' (Kd.S_new' (Kd.S_new' (Kd.S_new' (Kd.S_new' (Kd.S_new' ho0 (Kd.R_lt (by (with_reducible repeat (first | apply Kd.R_alloc | apply Kd.R_drewN | apply Kd.R_drew)); exact HO_5.out))) (Kd.S_lt (by (with_reducible repeat (first | apply Kd.S_alloc | apply Kd.S_drewN | apply Kd.S_drew)); exact HO118.out))) (Kd.R_lt (by (with_reducible repeat (first | apply Kd.R_alloc | apply Kd.R_drewN | apply Kd.R_drew)); exact HO122.out))) (Kd.R_lt (by (with_reducible repeat (first | apply Kd.R_alloc | apply Kd.R_drewN | apply Kd.R_drew)); exact HO126.out))) (Kd.R_lt (by (with_reducible repeat (first | apply Kd.R_alloc | apply Kd.R_drewN | apply Kd.R_drew)); exact HO130.out))) (Kd.R_lt (by (with_reducible repeat (first | apply Kd.R_alloc | apply Kd.R_drewN | apply Kd.R_drew)); exact HO134.out))) (Kd.S_lt (by (with_reducible repeat (first | apply Kd.S_alloc | apply Kd.S_drewN | apply Kd.S_drew)); exact HO138.out))) (Kd.S_lt (by (with_reducible repeat (first | apply Kd.S_alloc | apply Kd.S_drewN | apply Kd.S_drew)); exact HO142.out))) (Kd.S_lt (by (with_reducible repeat (first | apply Kd.S_alloc | apply Kd.S_drewN | apply Kd.S_drew)); exact HO146.out))) (below_size (by repeat (first | (with_reducible first | exact HB.out | apply below_alloc | apply pw_below_drewN | apply below_drew1) | exact HB.out)))); have n10_ := Aside0.mk (below_step (by repeat (first | (with_reducible first | exact HB.out | apply below_alloc | apply pw_below_drewN | apply below_drew1) | exact HB.out)) hb); clear HO_5; clear HO118; clear HO122; clear HO126; clear HO130; clear HO134; clear HO138; clear HO142; clear HO146; clear HB; have HO_5 := n0_; have HO118 := n1_; have HO122 := n2_; have HO126 := n3_; have HO130 := n4_; have HO134 := n5_; have HO138 := n6_; have HO142 := n7_; have HO146 := n8_; have HO150 := n9_; have HB := n10_; clear n0_ n1_ n2_ n3_ n4_ n5_ n6_ n7_ n8_ n9_ n10_; (try clear hb); (try clear hb2); (try clear hk); (try clear hi); (try clear ho0))
                      as_aux_lemma =>
                       go_upto_region 32 with ((with_reducible refine gate_callee (f := 17) rfl ?_); refine goesL_ (some 173) rfl rfl Try.func17 (by kernel_rfl) rfl #[.slice A0 l0.length c0] rfl (by (try simp only [List.map_toArray, List.map_cons, List.map_nil]); first | done | rfl | (simp only [List.length_drop, List.length_take]; rfl)) ?_; (with_reducible refine (graph_Reducible.calls k3 _ _ l0 t151 t152 _ ?side1 ?side2 A51.out).mono ?_); (case side1 => repeat (first | exact (Kd.C_below HR0.out HB.out) | with_reducible first | refine Kd.C_alloc ?_ _ | refine Kd.C_drewN ?_ _ | refine Kd.C_drew ?_)); (case side2 => exact HC0.out); rintro e w65 ⟨rfl, hb⟩; refine ⟨_, rfl, ?_⟩; have n0_ := Aside0.mk (Kd.R_below (by (with_reducible repeat (first | apply Kd.R_alloc | apply Kd.R_drewN | apply Kd.R_drew)); exact HO_5.out) hb); have n1_ := Aside0.mk (Kd.S_below (by (with_reducible repeat (first | apply Kd.S_alloc | apply Kd.S_drewN | apply Kd.S_drew)); exact HO118.out) hb); have n2_ := Aside0.mk (Kd.R_below (by (with_reducible repeat (first | apply Kd.R_alloc | apply Kd.R_drewN | apply Kd.R_drew)); exact HO122.out) hb); have n3_ := Aside0.mk (Kd.R_below (by (with_reducible repeat (first | apply Kd.R_alloc | apply Kd.R_drewN | apply Kd.R_drew)); exact HO126.out) hb); have n4_ := Aside0.mk (Kd.R_below (by (with_reducible repeat (first | apply Kd.R_alloc | apply Kd.R_drewN | apply Kd.R_drew)); exact HO130.out) hb); have n5_ := Aside0.mk (Kd.R_below (by (with_reducible repeat (first | apply Kd.R_alloc | apply Kd.R_drewN | apply Kd.R_drew)); exact HO134.out) hb); have n6_ := Aside0.mk (Kd.S_below (by (with_reducible repeat (first | apply Kd.S_alloc | apply Kd.S_drewN | apply Kd.S_drew)); exact HO138.out) hb); have n7_ := Aside0.mk (Kd.S_below (by (with_reducible repeat (first | apply Kd.S_alloc | apply Kd.S_drewN | apply Kd.S_drew)); exact HO142.out) hb); have n8_ := Aside0.mk (Kd.S_below (by (with_reducible repeat (first | apply Kd.S_alloc | apply Kd.S_drewN | apply Kd.S_drew)); exact HO146.out) hb); have n9_ := Aside0.mk (Kd.S_below (by (with_reducible repeat (first | apply Kd.S_alloc | apply Kd.S_drewN | apply Kd.S_drew)); exact HO150.out) hb); have n10_ := Aside0.mk (below_step (by repeat (first | (with_reducible first | exact HB.out | apply below_alloc | apply pw_below_drewN | apply below_drew1) | exact HB.out)) hb); clear HO_5; clear HO118; clear HO122; clear HO126; clear HO130; clear HO134; clear HO138; clear HO142; clear HO146; clear HO150; clear HB; have HO_5 := n0_; have HO118 := n1_; have HO122 := n2_; have HO126 := n3_; have HO130 := n4_; have HO134 := n5_; have HO138 := n6_; have HO142 := n7_; have HO146 := n8_; have HO150 := n9_; have HB := n10_; clear n0_ n1_ n2_ n3_ n4_ n5_ n6_ n7_ n8_ n9_ n10_; (try clear hb); (try clear hb2); (try clear hk); (try clear hi))
                       as_aux_lemma =>
                        go_upto_region 33 with ((with_reducible refine gate_callee (f := 17) rfl ?_); refine goesL_ (some 178) rfl rfl Try.func17 (by kernel_rfl) rfl #[.slice Ao57 t116.length co57] rfl (by (try simp only [List.map_toArray, List.map_cons, List.map_nil]); first | done | rfl | (simp only [List.length_drop, List.length_take]; rfl)) ?_; (with_reducible refine (graph_Reducible.calls k3 _ _ t116 t153 t154 _ ?side1 ?side2 A52.out).mono ?_); (case side1 => repeat (first | exact (Kd.S_reads' HO118.out).2.2 | with_reducible first | refine Kd.C_alloc ?_ _ | refine Kd.C_drewN ?_ _ | refine Kd.C_drew ?_)); (case side2 => exact (Kd.S_reads' HO118.out).2.1); rintro e w66 ⟨rfl, hb⟩; refine ⟨_, rfl, ?_⟩; have n0_ := Aside0.mk (Kd.R_below (by (with_reducible repeat (first | apply Kd.R_alloc | apply Kd.R_drewN | apply Kd.R_drew)); exact HO_5.out) hb); have n1_ := Aside0.mk (Kd.S_below (by (with_reducible repeat (first | apply Kd.S_alloc | apply Kd.S_drewN | apply Kd.S_drew)); exact HO118.out) hb); have n2_ := Aside0.mk (Kd.R_below (by (with_reducible repeat (first | apply Kd.R_alloc | apply Kd.R_drewN | apply Kd.R_drew)); exact HO122.out) hb); have n3_ := Aside0.mk (Kd.R_below (by (with_reducible repeat (first | apply Kd.R_alloc | apply Kd.R_drewN | apply Kd.R_drew)); exact HO126.out) hb); have n4_ := Aside0.mk (Kd.R_below (by (with_reducible repeat (first | apply Kd.R_alloc | apply Kd.R_drewN | apply Kd.R_drew)); exact HO130.out) hb); have n5_ := Aside0.mk (Kd.R_below (by (with_reducible repeat (first | apply Kd.R_alloc | apply Kd.R_drewN | apply Kd.R_drew)); exact HO134.out) hb); have n6_ := Aside0.mk (Kd.S_below (by (with_reducible repeat (first | apply Kd.S_alloc | apply Kd.S_drewN | apply Kd.S_drew)); exact HO138.out) hb); have n7_ := Aside0.mk (Kd.S_below (by (with_reducible repeat (first | apply Kd.S_alloc | apply Kd.S_drewN | apply Kd.S_drew)); exact HO142.out) hb); have n8_ := Aside0.mk (Kd.S_below (by (with_reducible repeat (first | apply Kd.S_alloc | apply Kd.S_drewN | apply Kd.S_drew)); exact HO146.out) hb); have n9_ := Aside0.mk (Kd.S_below (by (with_reducible repeat (first | apply Kd.S_alloc | apply Kd.S_drewN | apply Kd.S_drew)); exact HO150.out) hb); have n10_ := Aside0.mk (below_step (by repeat (first | (with_reducible first | exact HB.out | apply below_alloc | apply pw_below_drewN | apply below_drew1) | exact HB.out)) hb); clear HO_5; clear HO118; clear HO122; clear HO126; clear HO130; clear HO134; clear HO138; clear HO142; clear HO146; clear HO150; clear HB; have HO_5 := n0_; have HO118 := n1_; have HO122 := n2_; have HO126 := n3_; have HO130 := n4_; have HO134 := n5_; have HO138 := n6_; have HO142 := n7_; have HO146 := n8_; have HO150 := n9_; have HB := n10_; clear n0_ n1_ n2_ n3_ n4_ n5_ n6_ n7_ n8_ n9_ n10_; (try clear hb); (try clear hb2); (try clear hk); (try clear hi))
                        (try simp only [Act.put, List.setIfInBounds_toArray, List.set_cons_zero, List.set_cons_succ])
                        go_cut [247] (fun v247 wc => ∃ (kq : Nat) (x247_52 : Bool), v247 = .bool x247_52 ∧ Aside0 (l7_GraphRenamed.j3 kq l0 x5_3 t119 t123 t127 t131 t135 t139 t143 t147 x247_52 = some r) ∧ Aside0 (kq ≤ k3) ∧ Aside0 (Kd.R (Kd.int .i64) 3 wc w.heap.size (fun k_ => some k_ ≠ (v121 : Value).ownBlock ∧ some k_ ≠ (v125 : Value).ownBlock ∧ some k_ ≠ (v129 : Value).ownBlock ∧ some k_ ≠ (v133 : Value).ownBlock) (.slice Ao54 x5_3.length co54) x5_3) ∧ Aside0 (Kd.R (Kd.int .i64) 3 wc w.heap.size (fun k_ => some k_ ≠ ((.slice Ao54 x5_3.length co54) : Value).ownBlock ∧ some k_ ≠ (v125 : Value).ownBlock ∧ some k_ ≠ (v129 : Value).ownBlock ∧ some k_ ≠ (v133 : Value).ownBlock) v121 t119) ∧ Aside0 (Kd.R (Kd.int .i64) 3 wc w.heap.size (fun k_ => some k_ ≠ ((.slice Ao54 x5_3.length co54) : Value).ownBlock ∧ some k_ ≠ (v121 : Value).ownBlock ∧ some k_ ≠ (v129 : Value).ownBlock ∧ some k_ ≠ (v133 : Value).ownBlock) v125 t123) ∧ Aside0 (Kd.R (Kd.int .i64) 3 wc w.heap.size (fun k_ => some k_ ≠ ((.slice Ao54 x5_3.length co54) : Value).ownBlock ∧ some k_ ≠ (v121 : Value).ownBlock ∧ some k_ ≠ (v125 : Value).ownBlock ∧ some k_ ≠ (v133 : Value).ownBlock) v129 t127) ∧ Aside0 (Kd.R (Kd.int .i64) 3 wc w.heap.size (fun k_ => some k_ ≠ ((.slice Ao54 x5_3.length co54) : Value).ownBlock ∧ some k_ ≠ (v121 : Value).ownBlock ∧ some k_ ≠ (v125 : Value).ownBlock ∧ some k_ ≠ (v129 : Value).ownBlock) v133 t131) ∧ Aside0 (Kd.S (Kd.slice 3 (Kd.int .i64)) 33 wc w.heap.size (fun k_ => some k_ ≠ ((.slice Ao54 x5_3.length co54) : Value).ownBlock ∧ some k_ ≠ (v121 : Value).ownBlock ∧ some k_ ≠ (v125 : Value).ownBlock ∧ some k_ ≠ (v129 : Value).ownBlock ∧ some k_ ≠ (v133 : Value).ownBlock ∧ some k_ ≠ (v141 : Value).ownBlock ∧ some k_ ≠ (v145 : Value).ownBlock ∧ some k_ ≠ (v149 : Value).ownBlock) v137 t135) ∧ Aside0 (Kd.S (Kd.slice 3 (Kd.int .i64)) 33 wc w.heap.size (fun k_ => some k_ ≠ ((.slice Ao54 x5_3.length co54) : Value).ownBlock ∧ some k_ ≠ (v121 : Value).ownBlock ∧ some k_ ≠ (v125 : Value).ownBlock ∧ some k_ ≠ (v129 : Value).ownBlock ∧ some k_ ≠ (v133 : Value).ownBlock ∧ some k_ ≠ (v137 : Value).ownBlock ∧ some k_ ≠ (v145 : Value).ownBlock ∧ some k_ ≠ (v149 : Value).ownBlock) v141 t139) ∧ Aside0 (Kd.S (Kd.slice 3 (Kd.int .i64)) 33 wc w.heap.size (fun k_ => some k_ ≠ ((.slice Ao54 x5_3.length co54) : Value).ownBlock ∧ some k_ ≠ (v121 : Value).ownBlock ∧ some k_ ≠ (v125 : Value).ownBlock ∧ some k_ ≠ (v129 : Value).ownBlock ∧ some k_ ≠ (v133 : Value).ownBlock ∧ some k_ ≠ (v137 : Value).ownBlock ∧ some k_ ≠ (v141 : Value).ownBlock ∧ some k_ ≠ (v149 : Value).ownBlock) v145 t143) ∧ Aside0 (Kd.S (Kd.slice 3 (Kd.int .i64)) 33 wc w.heap.size (fun k_ => some k_ ≠ ((.slice Ao54 x5_3.length co54) : Value).ownBlock ∧ some k_ ≠ (v121 : Value).ownBlock ∧ some k_ ≠ (v125 : Value).ownBlock ∧ some k_ ≠ (v129 : Value).ownBlock ∧ some k_ ≠ (v133 : Value).ownBlock ∧ some k_ ≠ (v137 : Value).ownBlock ∧ some k_ ≠ (v141 : Value).ownBlock ∧ some k_ ≠ (v145 : Value).ownBlock) v149 t147) ∧ Aside0 (Below w.heap.size w wc))
                        case first =>
                         as_aux_lemma =>
                          have H := HC53.out; clear HC53; by_cases c67 : t152 = 0
                          ·rw [if_pos c67] at H; have c67b0 : (t152 == 0) = true := beq_iff_eq.mpr c67
                           have c67b1 : (t152 != 0) = false := bne_eq_false_iff_eq.mpr c67
                           clear c67; (first | rw [c67b0] | (simp only [i64_w, i32_w]; rw [c67b0]) | skip)
                           by_cases c68 : t154 = 0
                           ·rw [if_pos c68] at H; have c68b0 : (t154 == 0) = true := beq_iff_eq.mpr c68
                            have c68b1 : (t154 != 0) = false := bne_eq_false_iff_eq.mpr c68
                            clear c68; by_cases c69 : (t151 != t153) = true
                            ·rw [if_pos c69] at H; exact absurd H (by simp)
                            ·rw [if_neg c69] at H; have c69b0 : (t151 != t153) = false := by simpa using c69
                             (try (have c69b1 : decide (t151 = t153) = true := by simpa using c69))
                             (try (have c69b2 : (t151 == t153) = true := by simpa using c69))
                             clear c69; by_cases c70 : (t119.length : Int) = (l0.length : Int)
                             ·rw [if_pos c70] at H; have c70b0 : ((t119.length : Int) == (l0.length : Int)) = true := beq_iff_eq.mpr c70
                              have c70b1 : ((t119.length : Int) != (l0.length : Int)) = false := bne_eq_false_iff_eq.mpr c70
                              have c70b2 : (t119.length == l0.length) = true := by first | simpa using c70 | (simp at c70 ⊢; omega)
                              clear c70; by_cases c71 : (t123.length : Int) = (l0.length : Int)
                              ·rw [if_pos c71] at H; have c71b0 : ((t123.length : Int) == (l0.length : Int)) = true := beq_iff_eq.mpr c71
                               have c71b1 : ((t123.length : Int) != (l0.length : Int)) = false := bne_eq_false_iff_eq.mpr c71
                               have c71b2 : (t123.length == l0.length) = true := by first | simpa using c71 | (simp at c71 ⊢; omega)
                               clear c71; by_cases c72 : (t127.length : Int) = (l0.length : Int)
                               ·rw [if_pos c72] at H; have c72b0 : ((t127.length : Int) == (l0.length : Int)) = true := beq_iff_eq.mpr c72
                                have c72b1 : ((t127.length : Int) != (l0.length : Int)) = false := bne_eq_false_iff_eq.mpr c72
                                have c72b2 : (t127.length == l0.length) = true := by first | simpa using c72 | (simp at c72 ⊢; omega)
                                clear c72; by_cases c73 : (t131.length : Int) = (l0.length : Int)
                                ·rw [if_pos c73] at H; have c73b0 : ((t131.length : Int) == (l0.length : Int)) = true := beq_iff_eq.mpr c73
                                 have c73b1 : ((t131.length : Int) != (l0.length : Int)) = false := bne_eq_false_iff_eq.mpr c73
                                 have c73b2 : (t131.length == l0.length) = true := by first | simpa using c73 | (simp at c73 ⊢; omega)
                                 clear c73; by_cases c74 : (t135.length : Int) = (l0.length : Int)
                                 ·rw [if_pos c74] at H; have c74b0 : ((t135.length : Int) == (l0.length : Int)) = true := beq_iff_eq.mpr c74
                                  have c74b1 : ((t135.length : Int) != (l0.length : Int)) = false := bne_eq_false_iff_eq.mpr c74
                                  have c74b2 : (t135.length == l0.length) = true := by first | simpa using c74 | (simp at c74 ⊢; omega)
                                  clear c74; by_cases c75 : (t139.length : Int) = (l0.length : Int)
                                  ·rw [if_pos c75] at H; have c75b0 : ((t139.length : Int) == (l0.length : Int)) = true := beq_iff_eq.mpr c75
                                   have c75b1 : ((t139.length : Int) != (l0.length : Int)) = false := bne_eq_false_iff_eq.mpr c75
                                   have c75b2 : (t139.length == l0.length) = true := by first | simpa using c75 | (simp at c75 ⊢; omega)
                                   clear c75; by_cases c76 : (t143.length : Int) = (l0.length : Int)
                                   ·rw [if_pos c76] at H; have c76b0 : ((t143.length : Int) == (l0.length : Int)) = true := beq_iff_eq.mpr c76
                                    have c76b1 : ((t143.length : Int) != (l0.length : Int)) = false := bne_eq_false_iff_eq.mpr c76
                                    have c76b2 : (t143.length == l0.length) = true := by first | simpa using c76 | (simp at c76 ⊢; omega)
                                    clear c76; have H' := Aside0.mk H
                                    clear H; obtain ⟨Ao77, co77, eo77⟩ := Kd.R_slice HO122.out; subst eo77; obtain ⟨Ao78, co78, eo78⟩ := Kd.R_slice HO126.out; subst eo78; obtain ⟨Ao79, co79, eo79⟩ := Kd.R_slice HO130.out; subst eo79; obtain ⟨Ao80, co80, eo80⟩ := Kd.R_slice HO134.out; subst eo80; obtain ⟨Ao81, co81, eo81⟩ := Kd.S_slice HO138.out; subst eo81; obtain ⟨Ao82, co82, eo82⟩ := Kd.S_slice HO142.out; subst eo82; obtain ⟨Ao83, co83, eo83⟩ := Kd.S_slice HO146.out; subst eo83; obtain ⟨Ao84, co84, eo84⟩ := Kd.S_slice HO150.out; subst eo84; go_wp2
                                    go_meet
                                    case rel => exact ⟨_, (((t147.length : Int) != (l0.length : Int))), (by first | rfl | (simp; done) | (simp [*]; done)), H', ⟨by have := HJ2.out; have := HK2.out; have := HK3.out; first | omega | exact Nat.le_refl _⟩, ⟨by (with_reducible repeat (first | apply Kd.R_alloc | apply Kd.R_drewN | apply Kd.R_drew)); exact Kd.R_mono HO_5.out (fun _ hk => ⟨hk.1.1.1.2, ⟨hk.1.1.2, ⟨hk.1.2, hk.2⟩⟩⟩)⟩, ⟨by (with_reducible repeat (first | apply Kd.R_alloc | apply Kd.R_drewN | apply Kd.R_drew)); exact Kd.R_mono HO122.out (fun _ hk => ⟨hk.1.1.1.2, ⟨hk.1.1.2, ⟨hk.1.2, hk.2⟩⟩⟩)⟩, ⟨by (with_reducible repeat (first | apply Kd.R_alloc | apply Kd.R_drewN | apply Kd.R_drew)); exact Kd.R_mono HO126.out (fun _ hk => ⟨hk.1.1.1.2, ⟨hk.1.1.2, ⟨hk.1.2, hk.2⟩⟩⟩)⟩, ⟨by (with_reducible repeat (first | apply Kd.R_alloc | apply Kd.R_drewN | apply Kd.R_drew)); exact Kd.R_mono HO130.out (fun _ hk => ⟨hk.1.1.1.2, ⟨hk.1.1.2, ⟨hk.1.2, hk.2⟩⟩⟩)⟩, ⟨by (with_reducible repeat (first | apply Kd.R_alloc | apply Kd.R_drewN | apply Kd.R_drew)); exact Kd.R_mono HO134.out (fun _ hk => ⟨hk.1.1.1.2, ⟨hk.1.1.2, ⟨hk.1.2, hk.2⟩⟩⟩)⟩, ⟨by (with_reducible repeat (first | apply Kd.S_alloc | apply Kd.S_drewN | apply Kd.S_drew)); exact Kd.S_mono HO138.out (fun _ hk => ⟨hk.1.1.1.1.1.1.1.1.2, ⟨hk.1.1.1.1.1.1.2, ⟨hk.1.1.1.1.1.2, ⟨hk.1.1.1.1.2, ⟨hk.1.1.1.2, ⟨hk.1.1.2, ⟨hk.1.2, hk.2⟩⟩⟩⟩⟩⟩⟩)⟩, ⟨by (with_reducible repeat (first | apply Kd.S_alloc | apply Kd.S_drewN | apply Kd.S_drew)); exact Kd.S_mono HO142.out (fun _ hk => ⟨hk.1.1.1.1.1.1.1.1.2, ⟨hk.1.1.1.1.1.1.2, ⟨hk.1.1.1.1.1.2, ⟨hk.1.1.1.1.2, ⟨hk.1.1.1.2, ⟨hk.1.1.2, ⟨hk.1.2, hk.2⟩⟩⟩⟩⟩⟩⟩)⟩, ⟨by (with_reducible repeat (first | apply Kd.S_alloc | apply Kd.S_drewN | apply Kd.S_drew)); exact Kd.S_mono HO146.out (fun _ hk => ⟨hk.1.1.1.1.1.1.1.1.2, ⟨hk.1.1.1.1.1.1.2, ⟨hk.1.1.1.1.1.2, ⟨hk.1.1.1.1.2, ⟨hk.1.1.1.2, ⟨hk.1.1.2, ⟨hk.1.2, hk.2⟩⟩⟩⟩⟩⟩⟩)⟩, ⟨by (with_reducible repeat (first | apply Kd.S_alloc | apply Kd.S_drewN | apply Kd.S_drew)); exact Kd.S_mono HO150.out (fun _ hk => ⟨hk.1.1.1.1.1.1.1.1.2, ⟨hk.1.1.1.1.1.1.2, ⟨hk.1.1.1.1.1.2, ⟨hk.1.1.1.1.2, ⟨hk.1.1.1.2, ⟨hk.1.1.2, ⟨hk.1.2, hk.2⟩⟩⟩⟩⟩⟩⟩)⟩, ⟨by repeat (first | (with_reducible first | exact HB.out | apply below_alloc | apply pw_below_drewN | apply below_drew1) | exact HB.out)⟩⟩
                                   ·rw [if_neg c76] at H; exact absurd H (by simp)
                                  ·rw [if_neg c75] at H; exact absurd H (by simp)
                                 ·rw [if_neg c74] at H; exact absurd H (by simp)
                                ·rw [if_neg c73] at H; exact absurd H (by simp)
                               ·rw [if_neg c72] at H; exact absurd H (by simp)
                              ·rw [if_neg c71] at H; exact absurd H (by simp)
                             ·rw [if_neg c70] at H; exact absurd H (by simp)
                           ·rw [if_neg c68] at H; exact absurd H (by simp)
                          ·rw [if_neg c67] at H; exact absurd H (by simp)
                        case rest =>
                         as_aux_lemma =>
                          clear HC53; try clear c1
                          try clear p1
                          try clear q1
                          try clear hx1
                          try clear qi1
                          try clear c2
                          try clear p2
                          try clear c3
                          try clear p3
                          try clear q3
                          try clear hx3
                          try clear qi3
                          try clear hf3
                          try clear c6
                          try clear p6
                          try clear c7
                          try clear c8
                          try clear p11
                          try clear q11
                          try clear hx11
                          try clear qi11
                          try clear c15
                          try clear c16
                          try clear c17
                          try clear c19
                          try clear c19b0
                          try clear c20
                          try clear c20b0
                          try clear c21
                          try clear c24
                          try clear c25
                          try clear c26
                          try clear c27
                          try clear c29
                          try clear c33
                          try clear c33b0
                          try clear c33b1
                          try clear c34
                          try clear c34b0
                          try clear c35
                          try clear c35b0
                          try clear p36
                          try clear q36
                          try clear hx36
                          try clear hf36
                          try clear p37
                          try clear q37
                          try clear hx37
                          try clear qi37
                          try clear hf37
                          try clear p64
                          try clear c67
                          try clear c67b0
                          try clear c67b1
                          try clear c68
                          try clear c68b0
                          try clear c68b1
                          try clear c69
                          try clear c69b0
                          try clear c69b1
                          try clear c69b2
                          try clear c70
                          try clear c70b0
                          try clear c70b1
                          try clear c70b2
                          try clear c71
                          try clear c71b0
                          try clear c71b1
                          try clear c71b2
                          try clear c72
                          try clear c72b0
                          try clear c72b1
                          try clear c72b2
                          try clear c73
                          try clear c73b0
                          try clear c73b1
                          try clear c73b2
                          try clear c74
                          try clear c74b0
                          try clear c74b1
                          try clear c74b2
                          try clear c75
                          try clear c75b0
                          try clear c75b1
                          try clear c75b2
                          try clear c76
                          try clear c76b0
                          try clear c76b1
                          try clear c76b2
                          try clear c89
                          try clear p112
                          try clear q112
                          try clear hx112
                          try clear qi112
                          try clear hx112_0
                          try clear hx113_0
                          try clear hx36_0
                          try clear hx37_0
                          try clear p112
                          try clear p113
                          try clear p36
                          try clear p37
                          try clear q112
                          try clear q113
                          try clear q36
                          try clear q37
                          obtain ⟨kq, x247_52, rfl, HA, HJ52, HO_5, HO_12, HO_14, HO_16, HO_18, HO_20, HO_22, HO_24, HO_26, HB⟩ := hcut; cases kq with
                          | zero => exact absurd HA.out (by simp [l7_GraphRenamed.j3])
                          | succ kj52 =>
                           have H := HA.out; clear HA; simp only [l7_GraphRenamed.j3] at H
                           by_cases c113 : x247_52 = true
                           ·subst c113; have H1 : (some false) = some r := by rw [if_pos rfl] at H; exact H
                            clear H; have H := H1; clear H1; obtain rfl := Option.some.inj H; go_wp2
                            go_ret
                            exact ⟨by first | rfl | (simp [errW_none, errW_some] <;> rfl) | (simp [*, errW_none, errW_some] <;> rfl), by repeat (first | (with_reducible first | exact HB.out | apply below_alloc | apply pw_below_drewN | apply below_drew1) | exact HB.out)⟩
                           ·replace c113 := Bool.eq_false_iff.mpr c113; subst c113; have H1 : (l7_GraphRenamed.l2 kj52 l0 x5_3 t119 t123 t127 t131 t135 t139 t143 t147 0) = some r := by rw [if_neg (show ¬ (false = true) by decide)] at H; exact H
                            clear H; have H := H1; clear H1; have H' := Aside0.mk H
                            clear H; go_wp2
                            go_loopg [32] kj52 (fun kq v32 w' => ∃ (x32_5 : Int), v32 = .int .i64 x32_5 ∧ Aside0 (l7_GraphRenamed.l2 kq l0 x5_3 t119 t123 t127 t131 t135 t139 t143 t147 x32_5 = some r) ∧ Aside0 (kq ≤ kj52) ∧ Aside0 (Kd.R (Kd.int .i64) 3 w' w.heap.size (fun k_ => some k_ ≠ (v121 : Value).ownBlock ∧ some k_ ≠ (v125 : Value).ownBlock ∧ some k_ ≠ (v129 : Value).ownBlock ∧ some k_ ≠ (v133 : Value).ownBlock) (.slice Ao54 x5_3.length co54) x5_3) ∧ Aside0 (Kd.R (Kd.int .i64) 3 w' w.heap.size (fun k_ => some k_ ≠ ((.slice Ao54 x5_3.length co54) : Value).ownBlock ∧ some k_ ≠ (v125 : Value).ownBlock ∧ some k_ ≠ (v129 : Value).ownBlock ∧ some k_ ≠ (v133 : Value).ownBlock) v121 t119) ∧ Aside0 (Kd.R (Kd.int .i64) 3 w' w.heap.size (fun k_ => some k_ ≠ ((.slice Ao54 x5_3.length co54) : Value).ownBlock ∧ some k_ ≠ (v121 : Value).ownBlock ∧ some k_ ≠ (v129 : Value).ownBlock ∧ some k_ ≠ (v133 : Value).ownBlock) v125 t123) ∧ Aside0 (Kd.R (Kd.int .i64) 3 w' w.heap.size (fun k_ => some k_ ≠ ((.slice Ao54 x5_3.length co54) : Value).ownBlock ∧ some k_ ≠ (v121 : Value).ownBlock ∧ some k_ ≠ (v125 : Value).ownBlock ∧ some k_ ≠ (v133 : Value).ownBlock) v129 t127) ∧ Aside0 (Kd.R (Kd.int .i64) 3 w' w.heap.size (fun k_ => some k_ ≠ ((.slice Ao54 x5_3.length co54) : Value).ownBlock ∧ some k_ ≠ (v121 : Value).ownBlock ∧ some k_ ≠ (v125 : Value).ownBlock ∧ some k_ ≠ (v129 : Value).ownBlock) v133 t131) ∧ Aside0 (Kd.S (Kd.slice 3 (Kd.int .i64)) 33 w' w.heap.size (fun k_ => some k_ ≠ ((.slice Ao54 x5_3.length co54) : Value).ownBlock ∧ some k_ ≠ (v121 : Value).ownBlock ∧ some k_ ≠ (v125 : Value).ownBlock ∧ some k_ ≠ (v129 : Value).ownBlock ∧ some k_ ≠ (v133 : Value).ownBlock ∧ some k_ ≠ (v141 : Value).ownBlock ∧ some k_ ≠ (v145 : Value).ownBlock ∧ some k_ ≠ (v149 : Value).ownBlock) v137 t135) ∧ Aside0 (Kd.S (Kd.slice 3 (Kd.int .i64)) 33 w' w.heap.size (fun k_ => some k_ ≠ ((.slice Ao54 x5_3.length co54) : Value).ownBlock ∧ some k_ ≠ (v121 : Value).ownBlock ∧ some k_ ≠ (v125 : Value).ownBlock ∧ some k_ ≠ (v129 : Value).ownBlock ∧ some k_ ≠ (v133 : Value).ownBlock ∧ some k_ ≠ (v137 : Value).ownBlock ∧ some k_ ≠ (v145 : Value).ownBlock ∧ some k_ ≠ (v149 : Value).ownBlock) v141 t139) ∧ Aside0 (Kd.S (Kd.slice 3 (Kd.int .i64)) 33 w' w.heap.size (fun k_ => some k_ ≠ ((.slice Ao54 x5_3.length co54) : Value).ownBlock ∧ some k_ ≠ (v121 : Value).ownBlock ∧ some k_ ≠ (v125 : Value).ownBlock ∧ some k_ ≠ (v129 : Value).ownBlock ∧ some k_ ≠ (v133 : Value).ownBlock ∧ some k_ ≠ (v137 : Value).ownBlock ∧ some k_ ≠ (v141 : Value).ownBlock ∧ some k_ ≠ (v149 : Value).ownBlock) v145 t143) ∧ Aside0 (Kd.S (Kd.slice 3 (Kd.int .i64)) 33 w' w.heap.size (fun k_ => some k_ ≠ ((.slice Ao54 x5_3.length co54) : Value).ownBlock ∧ some k_ ≠ (v121 : Value).ownBlock ∧ some k_ ≠ (v125 : Value).ownBlock ∧ some k_ ≠ (v129 : Value).ownBlock ∧ some k_ ≠ (v133 : Value).ownBlock ∧ some k_ ≠ (v137 : Value).ownBlock ∧ some k_ ≠ (v141 : Value).ownBlock ∧ some k_ ≠ (v145 : Value).ownBlock) v149 t147) ∧ Aside0 (Below w.heap.size w w'))
                            case atStart => exact ⟨(0), (by first | rfl | (simp; done) | (simp [*]; done)), H', ⟨Nat.le_refl _⟩, ⟨by (with_reducible repeat (first | apply Kd.R_alloc | apply Kd.R_drewN | apply Kd.R_drew)); exact HO_5.out⟩, ⟨by (with_reducible repeat (first | apply Kd.R_alloc | apply Kd.R_drewN | apply Kd.R_drew)); exact HO_12.out⟩, ⟨by (with_reducible repeat (first | apply Kd.R_alloc | apply Kd.R_drewN | apply Kd.R_drew)); exact HO_14.out⟩, ⟨by (with_reducible repeat (first | apply Kd.R_alloc | apply Kd.R_drewN | apply Kd.R_drew)); exact HO_16.out⟩, ⟨by (with_reducible repeat (first | apply Kd.R_alloc | apply Kd.R_drewN | apply Kd.R_drew)); exact HO_18.out⟩, ⟨by (with_reducible repeat (first | apply Kd.S_alloc | apply Kd.S_drewN | apply Kd.S_drew)); exact HO_20.out⟩, ⟨by (with_reducible repeat (first | apply Kd.S_alloc | apply Kd.S_drewN | apply Kd.S_drew)); exact HO_22.out⟩, ⟨by (with_reducible repeat (first | apply Kd.S_alloc | apply Kd.S_drewN | apply Kd.S_drew)); exact HO_24.out⟩, ⟨by (with_reducible repeat (first | apply Kd.S_alloc | apply Kd.S_drewN | apply Kd.S_drew)); exact HO_26.out⟩, ⟨by repeat (first | (with_reducible first | exact HB.out | apply below_alloc | apply pw_below_drewN | apply below_drew1) | exact HB.out)⟩⟩
                            case round =>
                             clear H'; try clear c1
                             try clear p1
                             try clear q1
                             try clear hx1
                             try clear qi1
                             try clear c2
                             try clear p2
                             try clear c3
                             try clear p3
                             try clear q3
                             try clear hx3
                             try clear qi3
                             try clear hf3
                             try clear c6
                             try clear p6
                             try clear c7
                             try clear c8
                             try clear c11
                             try clear p11
                             try clear q11
                             try clear hx11
                             try clear qi11
                             try clear c15
                             try clear c16
                             try clear c17
                             try clear c19
                             try clear c19b0
                             try clear c20
                             try clear c20b0
                             try clear c21
                             try clear c24
                             try clear c25
                             try clear c26
                             try clear c27
                             try clear c29
                             try clear c33
                             try clear c33b0
                             try clear c33b1
                             try clear c34
                             try clear c34b0
                             try clear c35
                             try clear c35b0
                             try clear p36
                             try clear q36
                             try clear hx36
                             try clear hf36
                             try clear p37
                             try clear q37
                             try clear hx37
                             try clear qi37
                             try clear hf37
                             try clear p64
                             try clear c67
                             try clear c67b0
                             try clear c67b1
                             try clear c68
                             try clear c68b0
                             try clear c68b1
                             try clear c69
                             try clear c69b0
                             try clear c69b1
                             try clear c69b2
                             try clear c70
                             try clear c70b0
                             try clear c70b1
                             try clear c70b2
                             try clear c71
                             try clear c71b0
                             try clear c71b1
                             try clear c71b2
                             try clear c72
                             try clear c72b0
                             try clear c72b1
                             try clear c72b2
                             try clear c73
                             try clear c73b0
                             try clear c73b1
                             try clear c73b2
                             try clear c74
                             try clear c74b0
                             try clear c74b1
                             try clear c74b2
                             try clear c75
                             try clear c75b0
                             try clear c75b1
                             try clear c75b2
                             try clear c76
                             try clear c76b0
                             try clear c76b1
                             try clear c76b2
                             try clear c89
                             try clear p112
                             try clear q112
                             try clear hx112
                             try clear qi112
                             try clear c113
                             try clear p113
                             try clear q113
                             try clear hx113
                             try clear hx112_0
                             try clear hx113_0
                             try clear hx36_0
                             try clear hx37_0
                             try clear p1
                             try clear p11
                             try clear p112
                             try clear p113
                             try clear p2
                             try clear p3
                             try clear p36
                             try clear p37
                             try clear p6
                             try clear p64
                             try clear q1
                             try clear q11
                             try clear q112
                             try clear q113
                             try clear q3
                             try clear q36
                             try clear q37
                             obtain ⟨x32_5, rfl, HA, HK5, HO_5, HO_12, HO_14, HO_16, HO_18, HO_20, HO_22, HO_24, HO_26, HB⟩ := hrel; cases gk with
                             | zero => exact absurd HA.out (by simp [l7_GraphRenamed.l2])
                             | succ k5 =>
                              have H := HA.out; clear HA; simp only [l7_GraphRenamed.l2] at H
                              by_cases c114 : x32_5 < (l0.length : Int)
                              ·rw [if_pos c114] at H; have c114b0 : decide (x32_5 < (l0.length : Int)) = true := decide_eq_true c114
                               clear c114; replace H := Option.bind_eq_some_iff.mp H; obtain ⟨t155, A1150, H⟩ := H; replace H : (if t155 = true then (some false) else (l7_GraphRenamed.l2 k5 l0 x5_3 t119 t123 t127 t131 t135 t139 t143 t147 (wrap64 (x32_5 + 1)))) = some r := H
                               have A115 := Aside0.mk A1150; clear A1150; by_cases c116 : t155 = true
                               ·subst c116; exact absurd A115.out round_false
                               ·replace c116 := Bool.eq_false_iff.mpr c116; subst c116; have H1 : (l7_GraphRenamed.l2 k5 l0 x5_3 t119 t123 t127 t131 t135 t139 t143 t147 (wrap64 (x32_5 + 1))) = some r := by rw [if_neg (show ¬ (false = true) by decide)] at H; exact H
                                clear H; have H := H1; clear H1; have H' := Aside0.mk H
                                clear H; obtain ⟨Ao126, co126, eo126⟩ := Kd.R_slice HO_12.out; subst eo126; obtain ⟨Ao127, co127, eo127⟩ := Kd.R_slice HO_14.out; subst eo127; obtain ⟨Ao128, co128, eo128⟩ := Kd.R_slice HO_16.out; subst eo128; obtain ⟨Ao129, co129, eo129⟩ := Kd.R_slice HO_18.out; subst eo129; obtain ⟨Ao130, co130, eo130⟩ := Kd.S_slice HO_20.out; subst eo130; obtain ⟨Ao131, co131, eo131⟩ := Kd.S_slice HO_22.out; subst eo131; obtain ⟨Ao132, co132, eo132⟩ := Kd.S_slice HO_24.out; subst eo132; obtain ⟨Ao133, co133, eo133⟩ := Kd.S_slice HO_26.out; subst eo133; obtain ⟨_, k0, k1, k2_, ka, kb, kc, kd, kx, ky, kl, km, kh1, kh2, t3, kh3, kh4, t4, kh5, kh6⟩ := round_facts A115.out; obtain ⟨ni, hni⟩ := Int.eq_ofNat_of_zero_le k0; subst hni; obtain ⟨nt, hnt⟩ := Int.eq_ofNat_of_zero_le k2_; rw [hnt] at kb kd ky km kh1 kh2 kh4 kh6
                                obtain ⟨adT, eT, hcT⟩ := Kd.at_int (Kd.R_reads' (Kd.R_drew HO_5.out)).2.2 (ni : Int) k0 k1; cases eT; obtain ⟨adA, eT, hcA⟩ := Kd.at_int (Kd.R_reads' (Kd.R_drew HO_12.out)).2.2 (ni : Int) k0 ka; cases eT; obtain ⟨adB, eT, hcB⟩ := Kd.at_int (Kd.R_reads' (Kd.R_drew HO_14.out)).2.2 (nt : Int) (by omega) kb
                                cases eT; obtain ⟨adC, eT, hcC⟩ := Kd.at_int (Kd.R_reads' (Kd.R_drew HO_16.out)).2.2 (ni : Int) k0 kc; cases eT; obtain ⟨adD, eT, hcD⟩ := Kd.at_int (Kd.R_reads' (Kd.R_drew HO_18.out)).2.2 (nt : Int) (by omega) kd
                                cases eT; obtain ⟨adX, Ax, cx, eT, hcX, hlX, hiX⟩ := Go.Proofs.Ytjjedbcgkljdeaa.A.at_L1 (Kd.S_reads' (Kd.S_drew HO_20.out)).2.2 (ni : Int) k0 kx; cases eT; obtain ⟨adY, Ay, cy, eT, hcY, hlY, hiY⟩ := Go.Proofs.Ytjjedbcgkljdeaa.A.at_L1 (Kd.S_reads' (Kd.S_drew HO_22.out)).2.2 (nt : Int) (by omega) ky
                                cases eT; obtain ⟨adL, Al, cl, eT, hcL, hlL, hiL⟩ := Go.Proofs.Ytjjedbcgkljdeaa.A.at_L1 (Kd.S_reads' (Kd.S_drew HO_24.out)).2.2 (ni : Int) k0 kl; cases eT; obtain ⟨adM, Am, cm, eT, hcM, hlM, hiM⟩ := Go.Proofs.Ytjjedbcgkljdeaa.A.at_L1 (Kd.S_reads' (Kd.S_drew HO_26.out)).2.2 (nt : Int) (by omega) km
                                cases eT; rw [Int.toNat_natCast] at hcT hcA hcB hcC hcD hcX hcY hcL hcM
                                rw [hnt] at hcT; have hCT := (Kd.R_reads' (Kd.R_drew HO_5.out)).2.2; have hKT := (Kd.R_reads' HO_5.out).2.1; obtain ⟨va, hva⟩ : ∃ v, v = rd t119 (ni : Int) := ⟨_, rfl⟩; obtain ⟨vb, hvb⟩ : ∃ v, v = rd t123 (nt : Int) := ⟨_, rfl⟩; obtain ⟨vc, hvc⟩ : ∃ v, v = rd t127 (ni : Int) := ⟨_, rfl⟩; obtain ⟨vd, hvd⟩ : ∃ v, v = rd t131 (nt : Int) := ⟨_, rfl⟩; obtain ⟨rx, hrx⟩ : ∃ v, v = Go.Proofs.Ytjjedbcgkljdeaa.A.rd_L1 t135 (ni : Int) := ⟨_, rfl⟩; obtain ⟨ry, hry⟩ : ∃ v, v = Go.Proofs.Ytjjedbcgkljdeaa.A.rd_L1 t139 (nt : Int) := ⟨_, rfl⟩; obtain ⟨rl, hrl⟩ : ∃ v, v = Go.Proofs.Ytjjedbcgkljdeaa.A.rd_L1 t143 (ni : Int) := ⟨_, rfl⟩; obtain ⟨rm, hrm⟩ : ∃ v, v = Go.Proofs.Ytjjedbcgkljdeaa.A.rd_L1 t147 (nt : Int) := ⟨_, rfl⟩; rw [← hva] at hcA kh1
                                rw [← hvb] at hcB kh1
                                rw [← hvc] at hcC kh2
                                rw [← hvd] at hcD kh2
                                rw [← hrx] at hcX hlX hiX kh3
                                rw [← hry] at hcY hlY hiY kh4
                                rw [← hrl] at hcL hlL hiL kh5
                                rw [← hrm] at hcM hlM hiM kh6
                                have hS : ∀ W', Below wr.drew.heap.size wr.drew W' → (W'.cell? (adT.add ni) = some (.int .i64 (nt : Int)) ∧ W'.cell? (adA.add ni) = some (.int .i64 va) ∧ W'.cell? (adB.add nt) = some (.int .i64 vb) ∧ W'.cell? (adC.add ni) = some (.int .i64 vc) ∧ W'.cell? (adD.add nt) = some (.int .i64 vd) ∧ W'.cell? (adX.add ni) = some (.slice Ax rx.length cx) ∧ W'.cell? (adY.add nt) = some (.slice Ay ry.length cy) ∧ W'.cell? (adL.add ni) = some (.slice Al rl.length cl) ∧ W'.cell? (adM.add nt) = some (.slice Am rm.length cm)) := fun W' hb => ⟨keep_cell ⟨hcT, World.block_lt_of_cell? _ _ hcT⟩ hb, keep_cell ⟨hcA, World.block_lt_of_cell? _ _ hcA⟩ hb, keep_cell ⟨hcB, World.block_lt_of_cell? _ _ hcB⟩ hb, keep_cell ⟨hcC, World.block_lt_of_cell? _ _ hcC⟩ hb, keep_cell ⟨hcD, World.block_lt_of_cell? _ _ hcD⟩ hb, keep_cell ⟨hcX, World.block_lt_of_cell? _ _ hcX⟩ hb, keep_cell ⟨hcY, World.block_lt_of_cell? _ _ hcY⟩ hb, keep_cell ⟨hcL, World.block_lt_of_cell? _ _ hcL⟩ hb, keep_cell ⟨hcM, World.block_lt_of_cell? _ _ hcM⟩ hb⟩
                                have HSS := Aside0.mk hS; have HCT := Aside0.mk hCT; have HIX := Aside0.mk hiX; have HIY := Aside0.mk hiY; have HIL := Aside0.mk hiL; have HIM := Aside0.mk hiM; have HLX := Aside0.mk hlX; have HLY := Aside0.mk hlY; have HLL := Aside0.mk hlL; have HLM := Aside0.mk hlM; have HKT := Aside0.mk hKT; have HK1_ := Aside0.mk kh1; have HK2_ := Aside0.mk kh2; have HK3_ := Aside0.mk kh3; have HK4_ := Aside0.mk kh4; have HK5_ := Aside0.mk kh5; have HK6_ := Aside0.mk kh6; have p0_ : ni < l0.length := by have := of_decide_eq_true c114b0; omega
                                have p1_ : ni < x5_3.length := by omega
                                have p2_ : ni < t119.length := by omega
                                have p3_ : nt < t123.length := by omega
                                have p4_ : ni < t127.length := by omega
                                have p5_ : nt < t131.length := by omega
                                have p6_ : ni < t135.length := by omega
                                have p7_ : nt < t139.length := by omega
                                have p8_ : ni < t143.length := by omega
                                have p9_ : nt < t147.length := by omega
                                clear hS hCT hiX hiY hiL hiM hlX hlY hlL hlM hKT kh1 kh2 kh3 kh4 kh5 kh6 hcT hcA hcB hcC hcD hcX hcY hcL hcM hva hvb hvc hvd hrx hry hrl hrm hnt k0 k1 k2_ ka kb kc kd kx ky kl km; go_upto_region 38 with (fail)
                                as_aux_lemma =>
                                 refine start_ (n := 64) (S := fun W' => W'.cell? (adT.add ni) = some (.int .i64 (nt : Int)) ∧ W'.cell? (adA.add ni) = some (.int .i64 va) ∧ W'.cell? (adB.add nt) = some (.int .i64 vb) ∧ W'.cell? (adC.add ni) = some (.int .i64 vc) ∧ W'.cell? (adD.add nt) = some (.int .i64 vd) ∧ W'.cell? (adX.add ni) = some (.slice Ax rx.length cx) ∧ W'.cell? (adY.add nt) = some (.slice Ay ry.length cy) ∧ W'.cell? (adL.add ni) = some (.slice Al rl.length cl) ∧ W'.cell? (adM.add nt) = some (.slice Am rm.length cm)) (ds := []) rn.b38_0 (by kernel_rfl) rfl rfl (HSS.out _ (Below.refl _ _)) (fun hHeld => ?_); refine with_tabW rn.tab38 rn.bits38 (fun HT_ HW_ => ?_)
                                 have HWd : Aside0 (Below wr.heap.size wr wr.drew) := ⟨below_drew (Below.refl _ _)⟩
                                 generalize wr.drew = wd at HSS HCT HIX HIY HIL HIM HWd hHeld ⊢
                                 refine pv_ 0 254 rn.b38_1 rfl rfl HT_ ?_
                                 refine pv_ 1 255 rn.b38_2 rfl rfl HT_ ?_
                                 refine pv_ 2 256 rn.b38_3 rfl rfl HT_ ?_
                                 refine pv_ 3 257 rn.b38_4 rfl rfl HT_ ?_
                                 refine pv_ 7 261 rn.b38_5 rfl rfl HT_ ?_
                                 refine pv_ 8 262 rn.b38_6 rfl rfl HT_ ?_
                                 refine pv_ 9 263 rn.b38_7 rfl rfl HT_ ?_
                                 refine pv_ 10 264 rn.b38_8 rfl rfl HT_ ?_
                                 refine tk_ 4 258 rn.b38_9 rfl rfl HT_ HW_ hHeld ?_
                                 refine pv_ 5 259 rn.b38_10 rfl rfl HT_ ?_
                                 refine tk_ 6 260 rn.b38_11 rfl rfl HT_ HW_ hHeld ?_
                                 refine tk_ 11 265 rn.b38_12 rfl rfl HT_ HW_ hHeld ?_
                                 refine one_ (i := 12) (N := some 266) rn.b38_13 rfl rfl (one_of HT_.out (by kernel_rfl)) (by decide) (fun K hK => ?_)
                                 refine goes_ Try.func30 (by kernel_rfl) rfl #[.slice (some adT) x5_3.length co54, .int .i64 va] (by rfl) rfl rfl (by (try simp only [List.map_toArray, List.map_cons, List.map_nil]); first | done | rfl | (simp only [List.length_drop, List.length_take]; rfl)) ?_
                                 with_reducible refine (l7_moved.calls _ _ x5_3 va vb _ ?side1 ?side2 HK1_.out).mono ?_
                                 (case side1 => exact Kd.C_below HCT.out (Below.refl _ _))
                                 (case side2 => exact HKT.out)
                                 rintro e w' ⟨rfl, ⟨nd, rfl⟩⟩
                                 refine ⟨_, rfl, ?_⟩
                                 have hb1 : Below wd.heap.size wd (wd.drewN nd) := pw_below_drewN (Below.refl _ _) nd
                                 refine hK.out _ _ (HSS.out _ hb1) (fun hHeld => ?_)
                                 clear hK K; refine norm_ (a' := ?_) ?_ ?_
                                 rotate_left
                                 ·show Act.put _ (some 266) _ = _
                                  simp only [Act.put, List.setIfInBounds_toArray, List.set_cons_zero, List.set_cons_succ, i64_w, i32_w]
                                  rfl
                                 have HB1 := Aside0.mk hb1; clear hb1; generalize wd.drewN nd = W1 at HB1 hHeld ⊢
                                 refine pv_ 13 267 rn.b38_14 rfl rfl HT_ ?_
                                 refine pv_ 14 268 rn.b38_15 rfl rfl HT_ ?_
                                 refine pv_ 15 269 rn.b38_16 rfl rfl HT_ ?_
                                 refine pv_ 16 270 rn.b38_17 rfl rfl HT_ ?_
                                 refine pv_ 17 271 rn.b38_18 rfl rfl HT_ ?_
                                 refine pv_ 18 272 rn.b38_19 rfl rfl HT_ ?_
                                 refine pv_ 22 276 rn.b38_20 rfl rfl HT_ ?_
                                 refine pv_ 23 277 rn.b38_21 rfl rfl HT_ ?_
                                 refine pv_ 24 278 rn.b38_22 rfl rfl HT_ ?_
                                 refine pv_ 25 279 rn.b38_23 rfl rfl HT_ ?_
                                 refine tk_ 19 273 rn.b38_24 rfl rfl HT_ HW_ hHeld ?_
                                 refine pv_ 20 274 rn.b38_25 rfl rfl HT_ ?_
                                 refine tk_ 21 275 rn.b38_26 rfl rfl HT_ HW_ hHeld ?_
                                 refine tk_ 26 280 rn.b38_27 rfl rfl HT_ HW_ hHeld ?_
                                 refine one_ (i := 27) (N := some 281) rn.b38_28 rfl rfl (one_of HT_.out (by kernel_rfl)) (by decide) (fun K hK => ?_)
                                 refine goes_ Try.func30 (by kernel_rfl) rfl #[.slice (some adT) x5_3.length co54, .int .i64 vc] (by rfl) rfl rfl (by (try simp only [List.map_toArray, List.map_cons, List.map_nil]); first | done | rfl | (simp only [List.length_drop, List.length_take]; rfl)) ?_
                                 with_reducible refine (l7_moved.calls _ _ x5_3 vc vd _ ?side1 ?side2 HK2_.out).mono ?_
                                 (case side1 => exact Kd.C_below HCT.out HB1.out)
                                 (case side2 => exact HKT.out)
                                 rintro e w' ⟨rfl, ⟨nd, rfl⟩⟩
                                 refine ⟨_, rfl, ?_⟩
                                 have hb2 : Below wd.heap.size wd (W1.drewN nd) := pw_below_drewN HB1.out nd
                                 refine hK.out _ _ (HSS.out _ hb2) (fun hHeld => ?_)
                                 clear hK K; refine norm_ (a' := ?_) ?_ ?_
                                 rotate_left
                                 ·show Act.put _ (some 281) _ = _
                                  simp only [Act.put, List.setIfInBounds_toArray, List.set_cons_zero, List.set_cons_succ, i64_w, i32_w]
                                  rfl
                                 have HB2 := Aside0.mk hb2; clear hb2; generalize W1.drewN nd = W2 at HB2 hHeld ⊢
                                 refine pv_ 28 282 rn.b38_29 rfl rfl HT_ ?_
                                 refine pv_ 29 283 rn.b38_30 rfl rfl HT_ ?_
                                 refine pv_ 30 284 rn.b38_31 rfl rfl HT_ ?_
                                 refine pv_ 31 285 rn.b38_32 rfl rfl HT_ ?_
                                 refine pv_ 32 286 rn.b38_33 rfl rfl HT_ ?_
                                 refine pv_ 33 287 rn.b38_34 rfl rfl HT_ ?_
                                 refine pv_ 34 288 rn.b38_35 rfl rfl HT_ ?_
                                 refine pv_ 38 292 rn.b38_36 rfl rfl HT_ ?_
                                 refine pv_ 39 293 rn.b38_37 rfl rfl HT_ ?_
                                 refine pv_ 40 294 rn.b38_38 rfl rfl HT_ ?_
                                 refine pv_ 41 295 rn.b38_39 rfl rfl HT_ ?_
                                 refine tk_ 35 289 rn.b38_40 rfl rfl HT_ HW_ hHeld ?_
                                 refine pv_ 36 290 rn.b38_41 rfl rfl HT_ ?_
                                 refine tk_ 37 291 rn.b38_42 rfl rfl HT_ HW_ hHeld ?_
                                 refine tk_ 42 296 rn.b38_43 rfl rfl HT_ HW_ hHeld ?_
                                 refine one_ (i := 43) (N := some 297) rn.b38_44 rfl rfl (one_of HT_.out (by kernel_rfl)) (by decide) (fun K hK => ?_)
                                 refine goes_ Try.func31 (by kernel_rfl) rfl #[.slice (some adT) x5_3.length co54, .slice Ax rx.length cx] (by rfl) rfl rfl (by (try simp only [List.map_toArray, List.map_cons, List.map_nil]); first | done | rfl | (simp only [List.length_drop, List.length_take]; rfl)) ?_
                                 with_reducible refine (l7_all.calls k5 _ _ x5_3 _ _ rx t3 _ ?side1 ?side2 ?side3 ?side4 HK3_.out).mono ?_
                                 (case side1 => exact Kd.C_below HCT.out HB2.out)
                                 (case side2 => exact HKT.out)
                                 (case side3 => exact Kd.C_below HIX.out HB2.out)
                                 (case side4 => exact HLX.out)
                                 rintro e W3 ⟨v3, rfl, hr3, hbn⟩
                                 refine ⟨_, rfl, ?_⟩
                                 obtain ⟨A3, c3, rfl⟩ := Kd.R_slice hr3; have hb3 : Below wd.heap.size wd W3 := Below.trans HB2.out (hbn.mono (Below.size HB2.out))
                                 have HR3 := Aside0.mk hr3; clear hr3 hbn; refine hK.out _ _ (HSS.out _ hb3) (fun hHeld => ?_)
                                 clear hK K; refine norm_ (a' := ?_) ?_ ?_
                                 rotate_left
                                 ·show Act.put _ (some 297) _ = _
                                  simp only [Act.put, List.setIfInBounds_toArray, List.set_cons_zero, List.set_cons_succ, i64_w, i32_w]
                                  rfl
                                 have HB3 := Aside0.mk hb3; clear hb3; refine one_ (i := 44) (N := some 298) rn.b38_45 rfl rfl (one_of HT_.out (by kernel_rfl)) (by decide) (fun K hK => ?_)
                                 refine goes_ Try.func24 (by kernel_rfl) rfl #[.slice Ay ry.length cy, .slice A3 t3.length c3] (by rfl) rfl rfl (by (try simp only [List.map_toArray, List.map_cons, List.map_nil]); first | done | rfl | (simp only [List.length_drop, List.length_take]; rfl)) ?_
                                 with_reducible refine (r5_SameInts.calls k5 _ _ ry _ _ t3 true _ ?side1 ?side2 ?side3 ?side4 HK4_.out).mono ?_
                                 (case side1 => exact Kd.C_below HIY.out HB3.out)
                                 (case side2 => exact HLY.out)
                                 (case side3 => exact (Kd.R_reads' HR3.out).2.2)
                                 (case side4 => exact (Kd.R_reads' HR3.out).2.1)
                                 rintro e w' ⟨rfl, ⟨nd, rfl⟩⟩
                                 refine ⟨_, rfl, ?_⟩
                                 have hb4 : Below wd.heap.size wd (W3.drewN nd) := pw_below_drewN HB3.out nd
                                 refine hK.out _ _ (HSS.out _ hb4) (fun hHeld => ?_)
                                 clear hK K; refine norm_ (a' := ?_) ?_ ?_
                                 rotate_left
                                 ·show Act.put _ (some 298) _ = _
                                  simp only [Act.put, List.setIfInBounds_toArray, List.set_cons_zero, List.set_cons_succ, i64_w, i32_w]
                                  rfl
                                 have HB4 := Aside0.mk hb4; clear hb4; generalize W3.drewN nd = W4 at HB4 hHeld ⊢
                                 refine pv_ 45 299 rn.b38_46 rfl rfl HT_ ?_
                                 refine pv_ 46 300 rn.b38_47 rfl rfl HT_ ?_
                                 refine pv_ 47 301 rn.b38_48 rfl rfl HT_ ?_
                                 refine pv_ 48 302 rn.b38_49 rfl rfl HT_ ?_
                                 refine pv_ 49 303 rn.b38_50 rfl rfl HT_ ?_
                                 refine pv_ 50 304 rn.b38_51 rfl rfl HT_ ?_
                                 refine pv_ 51 305 rn.b38_52 rfl rfl HT_ ?_
                                 refine pv_ 55 309 rn.b38_53 rfl rfl HT_ ?_
                                 refine pv_ 56 310 rn.b38_54 rfl rfl HT_ ?_
                                 refine pv_ 57 311 rn.b38_55 rfl rfl HT_ ?_
                                 refine pv_ 58 312 rn.b38_56 rfl rfl HT_ ?_
                                 refine tk_ 52 306 rn.b38_57 rfl rfl HT_ HW_ hHeld ?_
                                 refine pv_ 53 307 rn.b38_58 rfl rfl HT_ ?_
                                 refine tk_ 54 308 rn.b38_59 rfl rfl HT_ HW_ hHeld ?_
                                 refine tk_ 59 313 rn.b38_60 rfl rfl HT_ HW_ hHeld ?_
                                 refine one_ (i := 60) (N := some 314) rn.b38_61 rfl rfl (one_of HT_.out (by kernel_rfl)) (by decide) (fun K hK => ?_)
                                 refine goes_ Try.func31 (by kernel_rfl) rfl #[.slice (some adT) x5_3.length co54, .slice Al rl.length cl] (by rfl) rfl rfl (by (try simp only [List.map_toArray, List.map_cons, List.map_nil]); first | done | rfl | (simp only [List.length_drop, List.length_take]; rfl)) ?_
                                 with_reducible refine (l7_all.calls k5 _ _ x5_3 _ _ rl t4 _ ?side1 ?side2 ?side3 ?side4 HK5_.out).mono ?_
                                 (case side1 => exact Kd.C_below HCT.out HB4.out)
                                 (case side2 => exact HKT.out)
                                 (case side3 => exact Kd.C_below HIL.out HB4.out)
                                 (case side4 => exact HLL.out)
                                 rintro e W5 ⟨v5, rfl, hr5, hbn⟩
                                 refine ⟨_, rfl, ?_⟩
                                 obtain ⟨A5, c5, rfl⟩ := Kd.R_slice hr5; have hb5 : Below wd.heap.size wd W5 := Below.trans HB4.out (hbn.mono (Below.size HB4.out))
                                 have HR5 := Aside0.mk hr5; clear hr5 hbn; refine hK.out _ _ (HSS.out _ hb5) (fun hHeld => ?_)
                                 clear hK K; refine norm_ (a' := ?_) ?_ ?_
                                 rotate_left
                                 ·show Act.put _ (some 314) _ = _
                                  simp only [Act.put, List.setIfInBounds_toArray, List.set_cons_zero, List.set_cons_succ, i64_w, i32_w]
                                  rfl
                                 have HB5 := Aside0.mk hb5; clear hb5; refine one_ (i := 61) (N := some 315) rn.b38_62 rfl rfl (one_of HT_.out (by kernel_rfl)) (by decide) (fun K hK => ?_)
                                 refine goes_ Try.func24 (by kernel_rfl) rfl #[.slice Am rm.length cm, .slice A5 t4.length c5] (by rfl) rfl rfl (by (try simp only [List.map_toArray, List.map_cons, List.map_nil]); first | done | rfl | (simp only [List.length_drop, List.length_take]; rfl)) ?_
                                 with_reducible refine (r5_SameInts.calls k5 _ _ rm _ _ t4 true _ ?side1 ?side2 ?side3 ?side4 HK6_.out).mono ?_
                                 (case side1 => exact Kd.C_below HIM.out HB5.out)
                                 (case side2 => exact HLM.out)
                                 (case side3 => exact (Kd.R_reads' HR5.out).2.2)
                                 (case side4 => exact (Kd.R_reads' HR5.out).2.1)
                                 rintro e w' ⟨rfl, ⟨nd, rfl⟩⟩
                                 refine ⟨_, rfl, ?_⟩
                                 have hb6 : Below wd.heap.size wd (W5.drewN nd) := pw_below_drewN HB5.out nd
                                 refine hK.out _ _ (HSS.out _ hb6) (fun hHeld => ?_)
                                 clear hK K; refine norm_ (a' := ?_) ?_ ?_
                                 rotate_left
                                 ·show Act.put _ (some 315) _ = _
                                  simp only [Act.put, List.setIfInBounds_toArray, List.set_cons_zero, List.set_cons_succ, i64_w, i32_w]
                                  rfl
                                 have HB6 := Aside0.mk hb6; clear hb6; generalize W5.drewN nd = W6 at HB6 hHeld ⊢
                                 refine pv_ 62 316 rn.b38_63 rfl rfl HT_ ?_
                                 refine pv_ 63 317 rn.b38_64 rfl rfl HT_ ?_
                                 refine done_ (done_of HT_.out (by kernel_rfl)) ?_
                                 have hbf : Below wr.heap.size wr W6 := HWd.out.trans (HB6.out.mono HWd.out.size)
                                 have n0_ := Aside0.mk (Kd.R_below HO_5.out hbf); have n1_ := Aside0.mk (Kd.R_below HO_12.out hbf); have n2_ := Aside0.mk (Kd.R_below HO_14.out hbf); have n3_ := Aside0.mk (Kd.R_below HO_16.out hbf); have n4_ := Aside0.mk (Kd.R_below HO_18.out hbf); have n5_ := Aside0.mk (Kd.S_below HO_20.out hbf); have n6_ := Aside0.mk (Kd.S_below HO_22.out hbf); have n7_ := Aside0.mk (Kd.S_below HO_24.out hbf); have n8_ := Aside0.mk (Kd.S_below HO_26.out hbf); have n9_ := Aside0.mk (HB.out.trans (hbf.mono HB.out.size)); clear HO_5 HO_12 HO_14 HO_16 HO_18 HO_20 HO_22 HO_24 HO_26 HB hbf hHeld HSS HCT HIX HIY HIL HIM; have HO_5 := n0_; have HO_12 := n1_; have HO_14 := n2_; have HO_16 := n3_; have HO_18 := n4_; have HO_20 := n5_; have HO_22 := n6_; have HO_24 := n7_; have HO_26 := n8_; have HB := n9_; clear n0_ n1_ n2_ n3_ n4_ n5_ n6_ n7_ n8_ n9_; go_wp2
                                 go_roundg k5
                                 case measure => have := HJ2.out; have := HK2.out; have := HK3.out; have := HJ52.out; have := HK5.out; omega
                                 case rel => exact ⟨(wrap64 ((ni : Int) + 1)), (by first | rfl | (simp; done) | (simp [*]; done)), H', ⟨by have := HJ2.out; have := HK2.out; have := HK3.out; have := HJ52.out; have := HK5.out; omega⟩, ⟨by (with_reducible repeat (first | apply Kd.R_alloc | apply Kd.R_drewN | apply Kd.R_drew)); exact HO_5.out⟩, ⟨by (with_reducible repeat (first | apply Kd.R_alloc | apply Kd.R_drewN | apply Kd.R_drew)); exact HO_12.out⟩, ⟨by (with_reducible repeat (first | apply Kd.R_alloc | apply Kd.R_drewN | apply Kd.R_drew)); exact HO_14.out⟩, ⟨by (with_reducible repeat (first | apply Kd.R_alloc | apply Kd.R_drewN | apply Kd.R_drew)); exact HO_16.out⟩, ⟨by (with_reducible repeat (first | apply Kd.R_alloc | apply Kd.R_drewN | apply Kd.R_drew)); exact HO_18.out⟩, ⟨by (with_reducible repeat (first | apply Kd.S_alloc | apply Kd.S_drewN | apply Kd.S_drew)); exact HO_20.out⟩, ⟨by (with_reducible repeat (first | apply Kd.S_alloc | apply Kd.S_drewN | apply Kd.S_drew)); exact HO_22.out⟩, ⟨by (with_reducible repeat (first | apply Kd.S_alloc | apply Kd.S_drewN | apply Kd.S_drew)); exact HO_24.out⟩, ⟨by (with_reducible repeat (first | apply Kd.S_alloc | apply Kd.S_drewN | apply Kd.S_drew)); exact HO_26.out⟩, ⟨by repeat (first | (with_reducible first | exact HB.out | apply below_alloc | apply pw_below_drewN | apply below_drew1) | exact HB.out)⟩⟩
                              ·rw [if_neg c114] at H; have c114b0 : decide (x32_5 < (l0.length : Int)) = false := decide_eq_false c114
                               clear c114; replace H := Option.bind_eq_some_iff.mp H; obtain ⟨t156, A1350, H⟩ := H; replace H : (some t156) = some r := H; have A135 := Aside0.mk A1350; clear A1350; obtain rfl := Option.some.inj H; go_wp2_with (first | ((with_reducible refine gate_callee (f := 14) rfl ?_); refine goesL_ (some 318) rfl rfl Try.func14 (by kernel_rfl) rfl #[] rfl (by (try simp only [List.map_toArray, List.map_cons, List.map_nil]); first | done | rfl | (simp only [List.length_drop, List.length_take]; rfl)) ?_; (with_reducible refine (l7_awake.calls k5  t156 _ A135.out).mono ?_); rintro e w136 ⟨rfl, hb⟩; refine ⟨_, rfl, ?_⟩; have n0_ := Aside0.mk (Kd.R_below (by (with_reducible repeat (first | apply Kd.R_alloc | apply Kd.R_drewN | apply Kd.R_drew)); exact HO_5.out) hb); have n1_ := Aside0.mk (Kd.R_below (by (with_reducible repeat (first | apply Kd.R_alloc | apply Kd.R_drewN | apply Kd.R_drew)); exact HO_12.out) hb); have n2_ := Aside0.mk (Kd.R_below (by (with_reducible repeat (first | apply Kd.R_alloc | apply Kd.R_drewN | apply Kd.R_drew)); exact HO_14.out) hb); have n3_ := Aside0.mk (Kd.R_below (by (with_reducible repeat (first | apply Kd.R_alloc | apply Kd.R_drewN | apply Kd.R_drew)); exact HO_16.out) hb); have n4_ := Aside0.mk (Kd.R_below (by (with_reducible repeat (first | apply Kd.R_alloc | apply Kd.R_drewN | apply Kd.R_drew)); exact HO_18.out) hb); have n5_ := Aside0.mk (Kd.S_below (by (with_reducible repeat (first | apply Kd.S_alloc | apply Kd.S_drewN | apply Kd.S_drew)); exact HO_20.out) hb); have n6_ := Aside0.mk (Kd.S_below (by (with_reducible repeat (first | apply Kd.S_alloc | apply Kd.S_drewN | apply Kd.S_drew)); exact HO_22.out) hb); have n7_ := Aside0.mk (Kd.S_below (by (with_reducible repeat (first | apply Kd.S_alloc | apply Kd.S_drewN | apply Kd.S_drew)); exact HO_24.out) hb); have n8_ := Aside0.mk (Kd.S_below (by (with_reducible repeat (first | apply Kd.S_alloc | apply Kd.S_drewN | apply Kd.S_drew)); exact HO_26.out) hb); have n9_ := Aside0.mk (below_step (by repeat (first | (with_reducible first | exact HB.out | apply below_alloc | apply pw_below_drewN | apply below_drew1) | exact HB.out)) hb); clear HO_5; clear HO_12; clear HO_14; clear HO_16; clear HO_18; clear HO_20; clear HO_22; clear HO_24; clear HO_26; clear HB; have HO_5 := n0_; have HO_12 := n1_; have HO_14 := n2_; have HO_16 := n3_; have HO_18 := n4_; have HO_20 := n5_; have HO_22 := n6_; have HO_24 := n7_; have HO_26 := n8_; have HB := n9_; clear n0_ n1_ n2_ n3_ n4_ n5_ n6_ n7_ n8_ n9_; (try clear hb); (try clear hb2); (try clear hk); (try clear hi)))
                               go_ret
                               exact ⟨by first | rfl | (simp [errW_none, errW_some] <;> rfl) | (simp [*, errW_none, errW_some] <;> rfl), by repeat (first | (with_reducible first | exact HB.out | apply below_alloc | apply pw_below_drewN | apply below_drew1) | exact HB.out)⟩
     ·rw [if_neg c10] at H; exact absurd H (by simp)
    ·rw [if_neg c9] at H; exact absurd H (by simp)
end Go.Proofs.Ytjjedbcgkljdeaa.R
end
section
namespace Go.Proofs.Ytjjedbcgkljdeaa.R
open Go.RowKit Go.Proofs.YtjjedbcgkljdeaaW.PrintWords Go.Proofs.YtjjedbcgkljdeaaW.PrintLast Go.Proofs.YtjjedbcgkljdeaaW.PrintMore Go.Proofs.Ytjjedbcgkljdeaa.A Go.Proofs.Ytjjedbcgkljdeaa.B Go.Proofs.Ytjjedbcgkljdeaa.C Go.Proofs.Ytjjedbcgkljdeaa.D Go.Proofs.Ytjjedbcgkljdeaa.M
section
variable {tn : List Int} {τ : Int → Int} {g h T T' : List (List Int)} {dl dl' pl pl' : List Int}
theorem renamed_l2 (i : Iso (rd tn) τ g.length g h) (s0 : rd tn 0 = 0) (n0 : 0 < g.length) (hn : g.length ≤ 40) (hl : tn.length = g.length) (hT : TurnedOf 4 g T) (hT' : TurnedOf 4 h T') (l1 : dl.length = g.length) (l2 : dl'.length = g.length) (l3 : pl.length = g.length) (l4 : pl'.length = g.length)
  (hd : ∀ b : Int, 0 ≤ b → b < (g.length : Int) → rd dl' (rd tn b) = if rd dl b < 0 then -1 else rd tn (rd dl b)) (hdr : ∀ b : Int, 0 ≤ b → b < (g.length : Int) → rd dl b < (g.length : Int))
  (hp : ∀ b : Int, 0 ≤ b → b < (g.length : Int) → rd pl' (rd tn b) = if rd pl b < 0 then -1 else rd tn (rd pl b)) (hpr : ∀ b : Int, 0 ≤ b → b < (g.length : Int) → rd pl b < (g.length : Int)) :
  ∀ (m j : Nat), j + m = g.length → Evt (fun k => l7_GraphRenamed.l2 k g tn dl dl' pl pl' (rowsOf (FC g) g.length) (rowsOf (FC h) g.length) (rowsOf (LF g T) g.length) (rowsOf (LF h T') g.length) (j : Int)) true
 | 0, j, hm => by
  refine Evt.succ ?_
  simp only [l7_GraphRenamed.l2]
  exact Evt.neg (by omega) (Evt.bind awake_ev (Evt.const true))
 | m + 1, j, hm => by
  have ih := renamed_l2 i s0 n0 hn hl hT hT' l1 l2 l3 l4 hd hdr hp hpr m (j + 1) (by omega)
  have hr := ren_round i s0 n0 hn hl hT hT' l1 l2 l3 l4 hd hdr hp hpr (j : Int) (by omega) (by omega)
  refine Evt.succ ?_
  simp only [l7_GraphRenamed.l2, wrap_succ j (by omega)]
  exact Evt.pos (by omega) (Evt.bind hr (Evt.neg (by simp) ih))
theorem renamed_l1 (hv : validB g = true) (hn : g.length ≤ 40) (hr4 : ∀ r ∈ g, r.length ≤ 4) (u : List Int) (hu : ∀ x ∈ u, 0 ≤ x ∧ x ≤ 255) : ∀ (m : Nat) (tn : List Int) (τ : Int → Int), m < g.length → tn.length = g.length → Prm (rd tn) τ g.length → rd tn 0 = 0 → Evt (fun k => l7_GraphRenamed.l1 k g u tn (m : Int)) true := by
 obtain ⟨h1, hg, _⟩ := validB_true hv; have hr' : ∀ r ∈ g, r.length ≤ 100000 := fun r h => Nat.le_trans (hr4 r h) (by omega)
 -- behind the swaps
 have main : ∀ (m : Nat) (tn : List Int) (τ : Int → Int), ¬ (m : Int) > 1 → tn.length = g.length → Prm (rd tn) τ g.length → rd tn 0 = 0 → Evt (fun k => l7_GraphRenamed.l1 k g u tn (m : Int)) true := by
  intro m tn τ hm hl p s0
  obtain ⟨h, hb, i, hvh, hh4⟩ := graph_built p hl rfl hv hn; have hlh := i.hl; have hrh' : ∀ r ∈ h, r.length ≤ 100000 := fun r hr => Nat.le_trans (hh4 r hr) (by omega)
  have hve := valid_ev g (by omega) hr'
  rw [hv] at hve; have hvh' := valid_ev h (by omega) hrh'
  rw [hvh] at hvh'
  obtain ⟨dl, dl', d1, d2, l1, l2, hd, hdr⟩ := ren_dom i s0 (by omega) hn hr4 hh4
  obtain ⟨pl, pl', p1, p2, l3, l4, hp, hpr⟩ := ren_post i (by omega) hn hr4 hh4
  obtain ⟨T, hTe, hT⟩ := turned_ev 4 (by omega) g hg (by omega) (by omega) hr4
  obtain ⟨T', hTe', hT'⟩ := turned_ev 4 (by omega) h i.gh (by omega) (by omega) hh4
  obtain ⟨v, v1, v2⟩ := red_ev g hv h1 hg hn hr4; obtain ⟨v', v1', v2'⟩ := red_ev h hvh (by omega) i.gh (by omega) hh4
  have hvv : v = v' := by rw [Bool.eq_iff_iff, v1, v1']; exact i.redP s0 (by omega)
  have e1 : Evt (fun k => graph_Dominators.f k g) (dl, 0) := by
   unfold graph_Dominators.f
   exact Evt.bind hve (Evt.pos rfl (Evt.bind d1 (Evt.const _)))
  have e2 : Evt (fun k => graph_Dominators.f k h) (dl', 0) := by
   unfold graph_Dominators.f
   exact Evt.bind hvh' (Evt.pos rfl (Evt.bind d2 (Evt.const _)))
  have e3 : Evt (fun k => graph_Postdominators.f k g) (pl, 0) := by
   unfold graph_Postdominators.f
   exact Evt.bind hve (Evt.pos rfl (Evt.bind p1 (Evt.const _)))
  have e4 : Evt (fun k => graph_Postdominators.f k h) (pl', 0) := by
   unfold graph_Postdominators.f
   exact Evt.bind hvh' (Evt.pos rfl (Evt.bind p2 (Evt.const _)))
  have e5 := front_ev g hv h1 hg hn hr4; have e6 := front_ev h hvh (by omega) i.gh (by omega) hh4
  have e7 := loops_ev g hv h1 hg hn hr4 T hTe hT; have e8 := loops_ev h hvh (by omega) i.gh (by omega) hh4 T' hTe' hT'
  rw [hlh] at e6 e8
  refine Evt.succ ?_
  simp only [l7_GraphRenamed.l1, hb, Option.bind_some]
  refine Evt.neg hm (Evt.bind e1 (Evt.bind e2 (Evt.bind e3 (Evt.bind e4 (Evt.bind e5 (Evt.bind e6 (Evt.bind e7 (Evt.bind e8 (Evt.bind v2 (Evt.bind v2' ?_))))))))))
  refine Evt.pos rfl (Evt.pos rfl (Evt.neg (by rw [hvv]; simp) (Evt.pos (by rw [l1]) (Evt.pos (by rw [l2]) (Evt.pos (by rw [l3]) (Evt.pos (by rw [l4]) (Evt.pos (by rw [rowsOf_len]) (Evt.pos (by rw [rowsOf_len]) (Evt.pos (by rw [rowsOf_len]) (Evt.succ ?_))))))))))
  simp only [l7_GraphRenamed.j3]
  refine Evt.neg (by rw [rowsOf_len]; simp) ?_
  exact renamed_l2 i s0 (by omega) hn hl hT hT' l1 l2 l3 l4 hd hdr hp hpr g.length 0 (Nat.zero_add _)
 intro m
 induction m with
 | zero => exact fun tn τ _ => main 0 tn τ (by omega)
 | succ m ih =>
  intro tn τ hm hl p s0
  by_cases h2 : ((m + 1 : Nat) : Int) > 1
  ·have hw : wrap64 (((m + 1 : Nat) : Int) - 1) = (m : Int) := by rw [wrap64_id (by omega) (by omega)]; omega
   have step : ∀ b : Int, 1 ≤ b → b < (g.length : Int) → Evt (fun k => l7_GraphRenamed.l1 k g u (swp tn ((m + 1 : Nat) : Int) b) (m : Int)) true := fun b b0 b1 => by
    refine ih (swp tn ((m + 1 : Nat) : Int) b) _ (by omega) (by rw [swp_len]; exact hl) (p.swap hl ((m + 1 : Nat) : Int) b (by omega) (by omega) (by omega) b1) ?_
    rw [swp_rd tn _ b 0 (by omega) (by omega) (by omega) (by omega) (by omega), if_neg (by omega), if_neg (by omega)]
    exact s0
   refine Evt.succ ?_
   simp only [l7_GraphRenamed.l1, hw]
   refine Evt.pos h2 ?_
   by_cases h3 : ((m + 1 : Nat) : Int) < (u.length : Int)
   ·have hmem := hu _ (rd_lt u (m + 1) (by omega))
    have hwu : wrap64 (rd u ((m + 1 : Nat) : Int)) = rd u ((m + 1 : Nat) : Int) := wrap64_id (by omega) (by omega)
    have t0 : 0 ≤ Int.tmod (rd u ((m + 1 : Nat) : Int)) ((m + 1 : Nat) : Int) := Int.tmod_nonneg _ hmem.1
    have t1 : Int.tmod (rd u ((m + 1 : Nat) : Int)) ((m + 1 : Nat) : Int) < ((m + 1 : Nat) : Int) := Int.tmod_lt_of_pos _ (by omega)
    simp only [hwu]
    generalize Int.tmod (rd u ((m + 1 : Nat) : Int)) ((m + 1 : Nat) : Int) = t at t0 t1 ⊢
    have hwt : wrap64 (1 + t) = 1 + t := wrap64_id (by omega) (by omega)
    simp only [hwt]
    refine Evt.pos h3 (Evt.pos (by omega) (Evt.neg (by omega) (Evt.pos (by omega) (Evt.pos (by omega) (Evt.pos (by omega) ?_)))))
    exact step (1 + t) (by omega) (by omega)
   ·refine Evt.neg h3 (Evt.pos (by omega) (Evt.pos (by omega) (Evt.pos (by omega) ?_)))
    exact step 1 (by omega) (by omega)
  ·exact main _ tn τ h2 hl p s0
theorem renamed_l0 (hv : validB g = true) (hn : g.length ≤ 40) (hr4 : ∀ r ∈ g, r.length ≤ 4) (u : List Int) (hu : ∀ x ∈ u, 0 ≤ x ∧ x ≤ 255) : ∀ (m j : Nat) (tn : List Int), j + m = g.length → tn.length = g.length → (∀ x : Int, 0 ≤ x → x < (j : Int) → rd tn x = x) → Evt (fun k => l7_GraphRenamed.l0 k g u tn (j : Int)) true
 | 0, j, tn, hm, hl, hI => by
  obtain ⟨h1, _⟩ := validB_true hv; have hI' : ∀ x : Int, 0 ≤ x → x < (g.length : Int) → rd tn x = x := fun x x0 x1 => hI x x0 (by omega)
  have hw : wrap64 ((g.length : Int) - 1) = ((g.length - 1 : Nat) : Int) := by rw [wrap64_id (by omega) (by omega)]; omega
  refine Evt.succ ?_
  simp only [l7_GraphRenamed.l0, hw]
  exact Evt.neg (by omega) (renamed_l1 hv hn hr4 u hu (g.length - 1) tn (fun x => x) (by omega) hl ⟨fun x x0 x1 => by rw [hI' x x0 x1]; exact ⟨x0, x1⟩, fun x x0 x1 => ⟨x0, x1⟩, fun x x0 x1 => hI' x x0 x1, fun x x0 x1 => hI' x x0 x1⟩ (hI' 0 (by omega) (by omega)))
 | m + 1, j, tn, hm, hl, hI => by
  have ih := renamed_l0 hv hn hr4 u hu m (j + 1) (tn.set (j : Int).toNat (j : Int)) (by omega) (by simp [hl]) (fun x x0 x1 => by
   rw [rd_set tn (j : Int) (j : Int) x (by omega) (by omega) x0]
   by_cases e : x = (j : Int)
   ·rw [if_pos e, e]
   ·rw [if_neg e]; exact hI x x0 (by omega))
  refine Evt.succ ?_
  simp only [l7_GraphRenamed.l0, wrap_succ j (by omega)]
  exact Evt.pos (by omega) (Evt.pos (by omega) (Evt.pos (by omega) ih))
end
theorem Pure.GraphRenamed (g : List (List Int)) (_hm : g.length ≤ maxLen) (u : List Int) (hu : ∀ x ∈ u, 0 ≤ x ∧ x ≤ 255) : ∃ k, l7_GraphRenamed.f k g u = some true := by
 refine Evt.get ?_
 unfold l7_GraphRenamed.f
 refine Evt.bind (usable_ev g) ?_
 have fin : Evt (fun k => l7_GraphRenamed.j0 k g u true) true := by
  refine Evt.succ ?_
  simp only [l7_GraphRenamed.j0]
  exact Evt.pos (by first | rfl | trivial) (Evt.bind awake_ev (Evt.const true))
 by_cases hus : usableB g = true
 ·obtain ⟨hv, h1, hg, hn, hr⟩ := usableB_true hus; refine Evt.pos hus ?_
  by_cases h2 : (u.length : Int) > 200
  ·rw [decide_eq_true h2]; exact fin
  ·rw [decide_eq_false h2]; refine Evt.succ ?_
   simp only [l7_GraphRenamed.j0]
   refine Evt.neg (by simp) (Evt.pos (by omega) (Evt.pos (by omega) ?_))
   exact renamed_l0 hv hn hr u hu g.length 0 _ (Nat.zero_add _) (by simp) (fun x x0 x1 => by omega)
 ·exact Evt.neg hus fin
end Go.Proofs.Ytjjedbcgkljdeaa.R
end
